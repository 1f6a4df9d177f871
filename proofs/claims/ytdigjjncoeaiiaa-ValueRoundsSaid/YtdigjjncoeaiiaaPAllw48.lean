/- Printed by a program of this session (wip/gprint.py) over the translation, cut to what is named (wip/dcut.py). Not trusted: Lean checks it. -/
import Derived.Test.YtdigjjncoeaiiaaPAlld0
import Derived.Test.YtdigjjncoeaiiaaPAllw21
import Derived.Test.YtdigjjncoeaiiaaPAllw29
import Derived.Test.YtdigjjncoeaiiaaPAllw33
import Derived.Test.YtdigjjncoeaiiaaPAllw45
namespace Go.Proofs.Ytdigjjncoeaiiaa.PAll
open Go.RowKit Go.Proofs.YtdigjjncoeaiiaaW.PrintWords Go.Proofs.YtdigjjncoeaiiaaW.PrintLast Go.Proofs.YtdigjjncoeaiiaaW.PrintMore
attribute [local go_sem] max2_int min2_int max_two min_two max_three min_three max_four min_four -- for this text's walks alone
set_option linter.unusedVariables false
set_option linter.unusedSimpArgs false
set_option maxHeartbeats 8000000 in
set_option maxRecDepth 100000 in
theorem formelaw14_ValueRounds.calls (k : Nat) (a0_0 : Int) (a0_1 : Int) (A0_2 : Option Addr) (c0_2 : Nat) (l0_2 : List (S24)) (a1 : Int) (a2 : Int) (a3_0 : Int) (a3_1 : Int) (a3_2 : Int) (a3_3 : Int) (a3_4 : Int) (a3_5 : Int) (a3_6 : Int) (a3_7 : Int) (a4 : Int) (r : Bool) (w : World) (hr0_2 : Kd.C k24 w A0_2 l0_2.length l0_2) (hc0_2 : l0_2.length ≤ c0_2) (h : formelaw14_ValueRounds.f k a0_0 a0_1 l0_2 a1 a2 a3_0 a3_1 a3_2 a3_3 a3_4 a3_5 a3_6 a3_7 a4 = some r) :
  Calls Try.prog 7 #[.agg #[.int .i64 a0_0, .int .i64 a0_1, .slice A0_2 l0_2.length c0_2], .int .i64 a1, .int .i64 a2, .agg #[.int .i64 a3_0, .int .i64 a3_1, .int .i64 a3_2, .int .i64 a3_3, .int .i64 a3_4, .int .i64 a3_5, .int .i64 a3_6, .int .i64 a3_7], .int .i64 a4] w fun e w' => e = .returned (.bool r) ∧ Below w.heap.size w w' := by
 have hu24 := Try.underlying24
 have hu25 := Try.underlying25
 have HR0_2 := Aside0.mk hr0_2
 have HC0_2 := Aside0.mk hc0_2
 clear hr0_2 hc0_2
 have HB := Aside0.mk (Below.refl w.heap.size w)
 have H : ((formelaw14_head.f).bind fun t404 => ((formelaw14_one.f 7 (wrap64 (1 + (Int.tmod (wrap64 ((Int.tmod a4 1000) + 1000)) 1000))) a0_0 a0_1 l0_2).bind fun bt405 => ((formelaw14_one.f 8 (wrap64 (1 + (Int.tmod (wrap64 ((Int.tmod a4 1000) + 1000)) 1000))) bt405.1 bt405.2.1 bt405.2.2).bind fun bt410 => ((formelaw14_one.f 8 (wrap64 (1 + (Int.tmod (wrap64 ((Int.tmod a4 1000) + 1000)) 1000))) a0_0 a0_1 l0_2).bind fun bt415 => ((formelaw14_one.f 7 (wrap64 (1 + (Int.tmod (wrap64 ((Int.tmod a4 1000) + 1000)) 1000))) bt415.1 bt415.2.1 bt415.2.2).bind fun bt420 => ((value_Eval.f a0_0 a0_1 l0_2 a1 a2 a3_0 a3_1 a3_2 a3_3 a3_4 a3_5 a3_6 a3_7).bind fun bt427 => (if bt427.2 = 0 then ((formeref14_Valid.f k bt410.1 bt410.2.1 bt410.2.2).bind fun t429 => (formelaw14_ValueRounds.j0 k a1 a2 t404 (wrap64 (1 + (Int.tmod (wrap64 ((Int.tmod a4 1000) + 1000)) 1000))) bt427.1 (!t429) a3_0 a3_1 a3_2 a3_3 a3_4 a3_5 a3_6 a3_7 bt410.1 bt410.2.1 bt410.2.2 bt420.1 bt420.2.1 bt420.2.2)) else (formelaw14_ValueRounds.j0 k a1 a2 t404 (wrap64 (1 + (Int.tmod (wrap64 ((Int.tmod a4 1000) + 1000)) 1000))) bt427.1 true a3_0 a3_1 a3_2 a3_3 a3_4 a3_5 a3_6 a3_7 bt410.1 bt410.2.1 bt410.2.2 bt420.1 bt420.2.1 bt420.2.2)))))))) = some r := h
 clear h
 replace H := Option.bind_eq_some_iff.mp H
 obtain ⟨t404, A60, H⟩ := H
 replace H : ((formelaw14_one.f 7 (wrap64 (1 + (Int.tmod (wrap64 ((Int.tmod a4 1000) + 1000)) 1000))) a0_0 a0_1 l0_2).bind fun bt405 => ((formelaw14_one.f 8 (wrap64 (1 + (Int.tmod (wrap64 ((Int.tmod a4 1000) + 1000)) 1000))) bt405.1 bt405.2.1 bt405.2.2).bind fun bt410 => ((formelaw14_one.f 8 (wrap64 (1 + (Int.tmod (wrap64 ((Int.tmod a4 1000) + 1000)) 1000))) a0_0 a0_1 l0_2).bind fun bt415 => ((formelaw14_one.f 7 (wrap64 (1 + (Int.tmod (wrap64 ((Int.tmod a4 1000) + 1000)) 1000))) bt415.1 bt415.2.1 bt415.2.2).bind fun bt420 => ((value_Eval.f a0_0 a0_1 l0_2 a1 a2 a3_0 a3_1 a3_2 a3_3 a3_4 a3_5 a3_6 a3_7).bind fun bt427 => (if bt427.2 = 0 then ((formeref14_Valid.f k bt410.1 bt410.2.1 bt410.2.2).bind fun t429 => (formelaw14_ValueRounds.j0 k a1 a2 t404 (wrap64 (1 + (Int.tmod (wrap64 ((Int.tmod a4 1000) + 1000)) 1000))) bt427.1 (!t429) a3_0 a3_1 a3_2 a3_3 a3_4 a3_5 a3_6 a3_7 bt410.1 bt410.2.1 bt410.2.2 bt420.1 bt420.2.1 bt420.2.2)) else (formelaw14_ValueRounds.j0 k a1 a2 t404 (wrap64 (1 + (Int.tmod (wrap64 ((Int.tmod a4 1000) + 1000)) 1000))) bt427.1 true a3_0 a3_1 a3_2 a3_3 a3_4 a3_5 a3_6 a3_7 bt410.1 bt410.2.1 bt410.2.2 bt420.1 bt420.2.1 bt420.2.2))))))) = some r := H
 have A6 := Aside0.mk A60
 clear A60
 replace H := Option.bind_eq_some_iff.mp H
 obtain ⟨⟨t405, t406, t407⟩, A70, H⟩ := H
 replace H : ((formelaw14_one.f 8 (wrap64 (1 + (Int.tmod (wrap64 ((Int.tmod a4 1000) + 1000)) 1000))) t405 t406 t407).bind fun bt410 => ((formelaw14_one.f 8 (wrap64 (1 + (Int.tmod (wrap64 ((Int.tmod a4 1000) + 1000)) 1000))) a0_0 a0_1 l0_2).bind fun bt415 => ((formelaw14_one.f 7 (wrap64 (1 + (Int.tmod (wrap64 ((Int.tmod a4 1000) + 1000)) 1000))) bt415.1 bt415.2.1 bt415.2.2).bind fun bt420 => ((value_Eval.f a0_0 a0_1 l0_2 a1 a2 a3_0 a3_1 a3_2 a3_3 a3_4 a3_5 a3_6 a3_7).bind fun bt427 => (if bt427.2 = 0 then ((formeref14_Valid.f k bt410.1 bt410.2.1 bt410.2.2).bind fun t429 => (formelaw14_ValueRounds.j0 k a1 a2 t404 (wrap64 (1 + (Int.tmod (wrap64 ((Int.tmod a4 1000) + 1000)) 1000))) bt427.1 (!t429) a3_0 a3_1 a3_2 a3_3 a3_4 a3_5 a3_6 a3_7 bt410.1 bt410.2.1 bt410.2.2 bt420.1 bt420.2.1 bt420.2.2)) else (formelaw14_ValueRounds.j0 k a1 a2 t404 (wrap64 (1 + (Int.tmod (wrap64 ((Int.tmod a4 1000) + 1000)) 1000))) bt427.1 true a3_0 a3_1 a3_2 a3_3 a3_4 a3_5 a3_6 a3_7 bt410.1 bt410.2.1 bt410.2.2 bt420.1 bt420.2.1 bt420.2.2)))))) = some r := H
 have A7 := Aside0.mk A70
 clear A70
 replace H := Option.bind_eq_some_iff.mp H
 obtain ⟨⟨t410, t411, t412⟩, A80, H⟩ := H
 replace H : ((formelaw14_one.f 8 (wrap64 (1 + (Int.tmod (wrap64 ((Int.tmod a4 1000) + 1000)) 1000))) a0_0 a0_1 l0_2).bind fun bt415 => ((formelaw14_one.f 7 (wrap64 (1 + (Int.tmod (wrap64 ((Int.tmod a4 1000) + 1000)) 1000))) bt415.1 bt415.2.1 bt415.2.2).bind fun bt420 => ((value_Eval.f a0_0 a0_1 l0_2 a1 a2 a3_0 a3_1 a3_2 a3_3 a3_4 a3_5 a3_6 a3_7).bind fun bt427 => (if bt427.2 = 0 then ((formeref14_Valid.f k t410 t411 t412).bind fun t429 => (formelaw14_ValueRounds.j0 k a1 a2 t404 (wrap64 (1 + (Int.tmod (wrap64 ((Int.tmod a4 1000) + 1000)) 1000))) bt427.1 (!t429) a3_0 a3_1 a3_2 a3_3 a3_4 a3_5 a3_6 a3_7 t410 t411 t412 bt420.1 bt420.2.1 bt420.2.2)) else (formelaw14_ValueRounds.j0 k a1 a2 t404 (wrap64 (1 + (Int.tmod (wrap64 ((Int.tmod a4 1000) + 1000)) 1000))) bt427.1 true a3_0 a3_1 a3_2 a3_3 a3_4 a3_5 a3_6 a3_7 t410 t411 t412 bt420.1 bt420.2.1 bt420.2.2))))) = some r := H
 have A8 := Aside0.mk A80
 clear A80
 replace H := Option.bind_eq_some_iff.mp H
 obtain ⟨⟨t415, t416, t417⟩, A90, H⟩ := H
 replace H : ((formelaw14_one.f 7 (wrap64 (1 + (Int.tmod (wrap64 ((Int.tmod a4 1000) + 1000)) 1000))) t415 t416 t417).bind fun bt420 => ((value_Eval.f a0_0 a0_1 l0_2 a1 a2 a3_0 a3_1 a3_2 a3_3 a3_4 a3_5 a3_6 a3_7).bind fun bt427 => (if bt427.2 = 0 then ((formeref14_Valid.f k t410 t411 t412).bind fun t429 => (formelaw14_ValueRounds.j0 k a1 a2 t404 (wrap64 (1 + (Int.tmod (wrap64 ((Int.tmod a4 1000) + 1000)) 1000))) bt427.1 (!t429) a3_0 a3_1 a3_2 a3_3 a3_4 a3_5 a3_6 a3_7 t410 t411 t412 bt420.1 bt420.2.1 bt420.2.2)) else (formelaw14_ValueRounds.j0 k a1 a2 t404 (wrap64 (1 + (Int.tmod (wrap64 ((Int.tmod a4 1000) + 1000)) 1000))) bt427.1 true a3_0 a3_1 a3_2 a3_3 a3_4 a3_5 a3_6 a3_7 t410 t411 t412 bt420.1 bt420.2.1 bt420.2.2)))) = some r := H
 have A9 := Aside0.mk A90
 clear A90
 replace H := Option.bind_eq_some_iff.mp H
 obtain ⟨⟨t420, t421, t422⟩, A100, H⟩ := H
 replace H : ((value_Eval.f a0_0 a0_1 l0_2 a1 a2 a3_0 a3_1 a3_2 a3_3 a3_4 a3_5 a3_6 a3_7).bind fun bt427 => (if bt427.2 = 0 then ((formeref14_Valid.f k t410 t411 t412).bind fun t429 => (formelaw14_ValueRounds.j0 k a1 a2 t404 (wrap64 (1 + (Int.tmod (wrap64 ((Int.tmod a4 1000) + 1000)) 1000))) bt427.1 (!t429) a3_0 a3_1 a3_2 a3_3 a3_4 a3_5 a3_6 a3_7 t410 t411 t412 t420 t421 t422)) else (formelaw14_ValueRounds.j0 k a1 a2 t404 (wrap64 (1 + (Int.tmod (wrap64 ((Int.tmod a4 1000) + 1000)) 1000))) bt427.1 true a3_0 a3_1 a3_2 a3_3 a3_4 a3_5 a3_6 a3_7 t410 t411 t412 t420 t421 t422))) = some r := H
 have A10 := Aside0.mk A100
 clear A100
 replace H := Option.bind_eq_some_iff.mp H
 obtain ⟨⟨t427, t428⟩, A110, H⟩ := H
 replace H : (if t428 = 0 then ((formeref14_Valid.f k t410 t411 t412).bind fun t429 => (formelaw14_ValueRounds.j0 k a1 a2 t404 (wrap64 (1 + (Int.tmod (wrap64 ((Int.tmod a4 1000) + 1000)) 1000))) t427 (!t429) a3_0 a3_1 a3_2 a3_3 a3_4 a3_5 a3_6 a3_7 t410 t411 t412 t420 t421 t422)) else (formelaw14_ValueRounds.j0 k a1 a2 t404 (wrap64 (1 + (Int.tmod (wrap64 ((Int.tmod a4 1000) + 1000)) 1000))) t427 true a3_0 a3_1 a3_2 a3_3 a3_4 a3_5 a3_6 a3_7 t410 t411 t412 t420 t421 t422)) = some r := H
 have A11 := Aside0.mk A110
 clear A110
 have HC12 := Aside0.mk H
 clear H
 go_enter Try.func7, Try.ntmps7
 try go_wp2_with (first | ((with_reducible refine gate_dst (N := 5) rfl ?_); refine box_event ?hg (N := 5) ?hd (cs := #[.int .i64 a0_0, .int .i64 a0_1, .slice A0_2 l0_2.length c0_2]) (t := 24) ?hr ?_; (case hd => rfl); (case hg => rfl); (case hr => (go_simp; done)); intro gb402 hg w13 hbox hb; have BK402 := Aside0.mk (hbox); have GW402 := Aside0.mk ((by rw [hg]; exact (below_size HB.out) : w.heap.size ≤ gb402)); have GE402 := Aside0.mk ((by rw [hg]; exact (below_size HB.out) : w.heap.size ≤ gb402)); replace HB := Aside0.mk (below_step HB.out hb); clear hb hbox hg) | ((with_reducible refine gate_dst (N := 8) rfl ?_); refine box_event ?hg (N := 8) ?hd (cs := #[.int .i64 a3_0, .int .i64 a3_1, .int .i64 a3_2, .int .i64 a3_3, .int .i64 a3_4, .int .i64 a3_5, .int .i64 a3_6, .int .i64 a3_7]) (t := 25) ?hr ?_; (case hd => rfl); (case hg => rfl); (case hr => (go_simp; done)); intro gb403 hg w14 hbox hb; have BK403 := Aside0.mk (hbox); have GW403 := Aside0.mk ((by rw [hg]; exact (below_size HB.out) : w.heap.size ≤ gb403)); have GE403 := Aside0.mk ((by rw [hg]; exact (below_size HB.out) : w.heap.size ≤ gb403)); replace HB := Aside0.mk (below_step HB.out hb); have NB402_403 := Aside0.mk ((by rw [hg]; exact Nat.ne_of_lt (blk_lt BK402.out) : gb402 ≠ gb403)); have NB403_402 := Aside0.mk ((by rw [hg]; exact Nat.ne_of_gt (blk_lt BK402.out) : gb403 ≠ gb402)); replace BK402 := Aside0.mk (blk_below BK402.out hb); clear hb hbox hg) | ((with_reducible refine gate_callee (f := 10) rfl ?_); refine goesL_ (some 21) rfl rfl Try.func10 (by kernel_rfl) rfl #[] rfl (by (try simp only [List.map_toArray, List.map_cons, List.map_nil]); done) ?_; (with_reducible refine (formelaw14_head.calls  t404 _ A6.out).mono ?_); rintro e w15 ⟨rfl, hb⟩; refine ⟨_, rfl, ?_⟩; replace BK402 := Aside0.mk (blk_below BK402.out hb); replace BK403 := Aside0.mk (blk_below BK403.out hb); replace HB := Aside0.mk (below_step HB.out hb); (try clear hb)))
 replace BK402 := Aside0.mk (blk_drew BK402.out)
 replace BK403 := Aside0.mk (blk_drew BK403.out)
 replace HB := Aside0.mk (below_drew1 HB.out)
 refine start_ (n := 14) (S := fun w' => w'.cell? ⟨gb402, 0, none⟩ = some (.int .i64 a0_0) ∧ w'.cell? ⟨gb402, 1, none⟩ = some (.int .i64 a0_1) ∧ w'.cell? ⟨gb402, 2, none⟩ = some (.slice A0_2 l0_2.length c0_2)) (ds := []) #[false, false, false, false, false, false, false, false, false, false, false, false, false, false] (by kernel_rfl) rfl rfl ⟨(blk_cell BK402.out 0).trans rfl, (blk_cell BK402.out 1).trans rfl, (blk_cell BK402.out 2).trans rfl⟩ (fun hHeld => ?_); refine with_tabW formelaw14_ValueRounds.tab3 formelaw14_ValueRounds.bits3 (fun HT_ HW_ => ?_)
 generalize w15.drew = w16 at BK402 BK403 HB hHeld ⊢
 refine pure_ (i := 0) (N := some 27) (v := ?_) (a' := ?_) #[true, false, false, false, false, false, false, false, false, false, false, false, false, false] rfl rfl (any_of HT_.out (by kernel_rfl)) (fun _ _ _ h => h) (Or.inl ⟨by rfl, ?_⟩) ?_ ?_
 rotate_left
 · intro w'
   go_simp
   with_reducible rfl
 rotate_left
 · simp only [Act.put, List.setIfInBounds_toArray, List.set_cons_zero, List.set_cons_succ, i64_w, i32_w]
   rfl
 refine pure_ (i := 1) (N := some 28) (v := ?_) (a' := ?_) #[true, true, false, false, false, false, false, false, false, false, false, false, false, false] rfl rfl (any_of HT_.out (by kernel_rfl)) (fun _ _ _ h => h) (Or.inl ⟨by rfl, ?_⟩) ?_ ?_
 rotate_left
 · intro w'
   go_simp
   with_reducible rfl
 rotate_left
 · simp only [Act.put, List.setIfInBounds_toArray, List.set_cons_zero, List.set_cons_succ, i64_w, i32_w]
   rfl
 refine pure_ (i := 5) (N := some 32) (v := ?_) (a' := ?_) #[true, true, false, false, false, true, false, false, false, false, false, false, false, false] rfl rfl (any_of HT_.out (by kernel_rfl)) (fun _ _ _ h => h) (Or.inl ⟨by rfl, ?_⟩) ?_ ?_
 rotate_left
 · intro w'
   go_simp
   with_reducible rfl
 rotate_left
 · simp only [Act.put, List.setIfInBounds_toArray, List.set_cons_zero, List.set_cons_succ, i64_w, i32_w]
   rfl
 refine pure_ (i := 6) (N := some 33) (v := ?_) (a' := ?_) #[true, true, false, false, false, true, true, false, false, false, false, false, false, false] rfl rfl (any_of HT_.out (by kernel_rfl)) (fun _ _ _ h => h) (Or.inl ⟨by rfl, ?_⟩) ?_ ?_
 rotate_left
 · intro w'
   go_simp
   with_reducible rfl
 rotate_left
 · simp only [Act.put, List.setIfInBounds_toArray, List.set_cons_zero, List.set_cons_succ, i64_w, i32_w]
   rfl
 refine take_ (i := 2) (N := some 29) (v := ?_) (a' := ?_) #[true, true, true, false, false, true, true, false, false, false, false, false, false, false] rfl rfl (take_ofW HT_.out HW_.out (by kernel_rfl)) (fun _ _ _ h => h) (Or.inl ⟨by rfl, ?_⟩) hHeld ?_ ?_
 rotate_left
 · rintro w' ⟨s0, s1, s2⟩
   go_simp
   with_reducible rfl
 rotate_left
 · simp only [Act.put, List.setIfInBounds_toArray, List.set_cons_zero, List.set_cons_succ, i64_w, i32_w]
   rfl
 refine take_ (i := 7) (N := some 34) (v := ?_) (a' := ?_) #[true, true, true, false, false, true, true, true, false, false, false, false, false, false] rfl rfl (take_ofW HT_.out HW_.out (by kernel_rfl)) (fun _ _ _ h => h) (Or.inl ⟨by rfl, ?_⟩) hHeld ?_ ?_
 rotate_left
 · rintro w' ⟨s0, s1, s2⟩
   go_simp
   with_reducible rfl
 rotate_left
 · simp only [Act.put, List.setIfInBounds_toArray, List.set_cons_zero, List.set_cons_succ, i64_w, i32_w]
   rfl
 refine join_ (σ := Value × Value × Value × Value × Nat × Nat) 2 #[true, true, true, true, true, true, true, true, true, true, true, true, false, false] (fun s_ => [(30, .agg #[.int .i64 t405, .int .i64 t406, s_.1]), (31, .agg #[.int .i64 t410, .int .i64 t411, s_.2.1]), (35, .agg #[.int .i64 t415, .int .i64 t416, s_.2.2.1]), (36, .agg #[.int .i64 t420, .int .i64 t421, s_.2.2.2.1]), (13, .pointer (some ⟨s_.2.2.2.2.1, 0, none⟩)), (14, .pointer (some ⟨s_.2.2.2.2.2, 0, none⟩))]) (fun s_ w' => (w'.cell? ⟨gb402, 0, none⟩ = some (.int .i64 a0_0) ∧ w'.cell? ⟨gb402, 1, none⟩ = some (.int .i64 a0_1) ∧ w'.cell? ⟨gb402, 2, none⟩ = some (.slice A0_2 l0_2.length c0_2)) ∧ (Kd.N k24 24 w' w.heap.size (fun k_ => some k_ ≠ (s_.2.1 : Value).ownBlock ∧ some k_ ≠ (s_.2.2.1 : Value).ownBlock ∧ some k_ ≠ (s_.2.2.2.1 : Value).ownBlock ∧ k_ ≠ gb402 ∧ k_ ≠ gb403 ∧ k_ ≠ s_.2.2.2.2.1 ∧ k_ ≠ s_.2.2.2.2.2) s_.1 t407) ∧ (Kd.N k24 24 w' w.heap.size (fun k_ => some k_ ≠ (s_.2.2.1 : Value).ownBlock ∧ some k_ ≠ (s_.2.2.2.1 : Value).ownBlock ∧ k_ ≠ gb402 ∧ k_ ≠ gb403 ∧ k_ ≠ s_.2.2.2.2.1 ∧ k_ ≠ s_.2.2.2.2.2) s_.2.1 t412) ∧ (Kd.N k24 24 w' w.heap.size (fun k_ => some k_ ≠ (s_.1 : Value).ownBlock ∧ some k_ ≠ (s_.2.1 : Value).ownBlock ∧ some k_ ≠ (s_.2.2.2.1 : Value).ownBlock ∧ k_ ≠ gb402 ∧ k_ ≠ gb403 ∧ k_ ≠ s_.2.2.2.2.1 ∧ k_ ≠ s_.2.2.2.2.2) s_.2.2.1 t417) ∧ (Kd.N k24 24 w' w.heap.size (fun k_ => some k_ ≠ (s_.1 : Value).ownBlock ∧ some k_ ≠ (s_.2.1 : Value).ownBlock ∧ k_ ≠ gb402 ∧ k_ ≠ gb403 ∧ k_ ≠ s_.2.2.2.2.1 ∧ k_ ≠ s_.2.2.2.2.2) s_.2.2.2.1 t422) ∧ (w'.heap[gb402]? = some (.cells #[.int .i64 a0_0, .int .i64 a0_1, .slice A0_2 l0_2.length c0_2] 24 (0, 0))) ∧ (w'.heap[gb403]? = some (.cells #[.int .i64 a3_0, .int .i64 a3_1, .int .i64 a3_2, .int .i64 a3_3, .int .i64 a3_4, .int .i64 a3_5, .int .i64 a3_6, .int .i64 a3_7] 25 (0, 0))) ∧ (w'.heap[s_.2.2.2.2.1]? = some (.cells #[.int .i64 0, .int .i64 0, .slice none 0 0] 24 (0, 0))) ∧ (w'.heap[s_.2.2.2.2.2]? = some (.cells #[.int .i64 0, .int .i64 0, .slice none 0 0] 24 (0, 0))) ∧ (w.heap.size ≤ s_.2.2.2.2.1) ∧ (w.heap.size ≤ s_.2.2.2.2.1) ∧ (gb402 ≠ s_.2.2.2.2.1) ∧ (s_.2.2.2.2.1 ≠ gb402) ∧ (gb403 ≠ s_.2.2.2.2.1) ∧ (s_.2.2.2.2.1 ≠ gb403) ∧ (s_.2.2.2.2.2 ≠ s_.2.2.2.2.1) ∧ (s_.2.2.2.2.1 ≠ s_.2.2.2.2.2) ∧ (w.heap.size ≤ s_.2.2.2.2.2) ∧ (w.heap.size ≤ s_.2.2.2.2.2) ∧ (gb402 ≠ s_.2.2.2.2.2) ∧ (s_.2.2.2.2.2 ≠ gb402) ∧ (gb403 ≠ s_.2.2.2.2.2) ∧ (s_.2.2.2.2.2 ≠ gb403) ∧ (Below w.heap.size w w')) ?_ ?_
 rotate_left
 · intro hJ3_4_8_9_10_11
   refine join_ (σ := Value × Value × Value × Value × Nat) 3 #[true, true, true, true, true, true, true, true, true, true, true, false, false, false] (fun s_ => [(30, .agg #[.int .i64 t405, .int .i64 t406, s_.1]), (31, .agg #[.int .i64 t410, .int .i64 t411, s_.2.1]), (35, .agg #[.int .i64 t415, .int .i64 t416, s_.2.2.1]), (36, .agg #[.int .i64 t420, .int .i64 t421, s_.2.2.2.1]), (13, .pointer (some ⟨s_.2.2.2.2, 0, none⟩))]) (fun s_ w' => (w'.cell? ⟨gb402, 0, none⟩ = some (.int .i64 a0_0) ∧ w'.cell? ⟨gb402, 1, none⟩ = some (.int .i64 a0_1) ∧ w'.cell? ⟨gb402, 2, none⟩ = some (.slice A0_2 l0_2.length c0_2)) ∧ (Kd.N k24 24 w' w.heap.size (fun k_ => some k_ ≠ (s_.2.1 : Value).ownBlock ∧ some k_ ≠ (s_.2.2.1 : Value).ownBlock ∧ some k_ ≠ (s_.2.2.2.1 : Value).ownBlock ∧ k_ ≠ gb402 ∧ k_ ≠ gb403 ∧ k_ ≠ s_.2.2.2.2) s_.1 t407) ∧ (Kd.N k24 24 w' w.heap.size (fun k_ => some k_ ≠ (s_.2.2.1 : Value).ownBlock ∧ some k_ ≠ (s_.2.2.2.1 : Value).ownBlock ∧ k_ ≠ gb402 ∧ k_ ≠ gb403 ∧ k_ ≠ s_.2.2.2.2) s_.2.1 t412) ∧ (Kd.N k24 24 w' w.heap.size (fun k_ => some k_ ≠ (s_.1 : Value).ownBlock ∧ some k_ ≠ (s_.2.1 : Value).ownBlock ∧ some k_ ≠ (s_.2.2.2.1 : Value).ownBlock ∧ k_ ≠ gb402 ∧ k_ ≠ gb403 ∧ k_ ≠ s_.2.2.2.2) s_.2.2.1 t417) ∧ (Kd.N k24 24 w' w.heap.size (fun k_ => some k_ ≠ (s_.1 : Value).ownBlock ∧ some k_ ≠ (s_.2.1 : Value).ownBlock ∧ k_ ≠ gb402 ∧ k_ ≠ gb403 ∧ k_ ≠ s_.2.2.2.2) s_.2.2.2.1 t422) ∧ (w'.heap[gb402]? = some (.cells #[.int .i64 a0_0, .int .i64 a0_1, .slice A0_2 l0_2.length c0_2] 24 (0, 0))) ∧ (w'.heap[gb403]? = some (.cells #[.int .i64 a3_0, .int .i64 a3_1, .int .i64 a3_2, .int .i64 a3_3, .int .i64 a3_4, .int .i64 a3_5, .int .i64 a3_6, .int .i64 a3_7] 25 (0, 0))) ∧ (w'.heap[s_.2.2.2.2]? = some (.cells #[.int .i64 0, .int .i64 0, .slice none 0 0] 24 (0, 0))) ∧ (w.heap.size ≤ s_.2.2.2.2) ∧ (w.heap.size ≤ s_.2.2.2.2) ∧ (gb402 ≠ s_.2.2.2.2) ∧ (s_.2.2.2.2 ≠ gb402) ∧ (gb403 ≠ s_.2.2.2.2) ∧ (s_.2.2.2.2 ≠ gb403) ∧ (Below w.heap.size w w')) ?_ ?_
   rotate_left
   · intro hJ3_4_8_9_10
     refine join_ (σ := Value × Value × Value × Value × Nat) 3 #[true, true, true, true, true, true, true, true, true, true, false, true, false, false] (fun s_ => [(30, .agg #[.int .i64 t405, .int .i64 t406, s_.1]), (31, .agg #[.int .i64 t410, .int .i64 t411, s_.2.1]), (35, .agg #[.int .i64 t415, .int .i64 t416, s_.2.2.1]), (36, .agg #[.int .i64 t420, .int .i64 t421, s_.2.2.2.1]), (14, .pointer (some ⟨s_.2.2.2.2, 0, none⟩))]) (fun s_ w' => (w'.cell? ⟨gb402, 0, none⟩ = some (.int .i64 a0_0) ∧ w'.cell? ⟨gb402, 1, none⟩ = some (.int .i64 a0_1) ∧ w'.cell? ⟨gb402, 2, none⟩ = some (.slice A0_2 l0_2.length c0_2)) ∧ (Kd.N k24 24 w' w.heap.size (fun k_ => some k_ ≠ (s_.2.1 : Value).ownBlock ∧ some k_ ≠ (s_.2.2.1 : Value).ownBlock ∧ some k_ ≠ (s_.2.2.2.1 : Value).ownBlock ∧ k_ ≠ gb402 ∧ k_ ≠ gb403 ∧ k_ ≠ s_.2.2.2.2) s_.1 t407) ∧ (Kd.N k24 24 w' w.heap.size (fun k_ => some k_ ≠ (s_.2.2.1 : Value).ownBlock ∧ some k_ ≠ (s_.2.2.2.1 : Value).ownBlock ∧ k_ ≠ gb402 ∧ k_ ≠ gb403 ∧ k_ ≠ s_.2.2.2.2) s_.2.1 t412) ∧ (Kd.N k24 24 w' w.heap.size (fun k_ => some k_ ≠ (s_.1 : Value).ownBlock ∧ some k_ ≠ (s_.2.1 : Value).ownBlock ∧ some k_ ≠ (s_.2.2.2.1 : Value).ownBlock ∧ k_ ≠ gb402 ∧ k_ ≠ gb403 ∧ k_ ≠ s_.2.2.2.2) s_.2.2.1 t417) ∧ (Kd.N k24 24 w' w.heap.size (fun k_ => some k_ ≠ (s_.1 : Value).ownBlock ∧ some k_ ≠ (s_.2.1 : Value).ownBlock ∧ k_ ≠ gb402 ∧ k_ ≠ gb403 ∧ k_ ≠ s_.2.2.2.2) s_.2.2.2.1 t422) ∧ (w'.heap[gb402]? = some (.cells #[.int .i64 a0_0, .int .i64 a0_1, .slice A0_2 l0_2.length c0_2] 24 (0, 0))) ∧ (w'.heap[gb403]? = some (.cells #[.int .i64 a3_0, .int .i64 a3_1, .int .i64 a3_2, .int .i64 a3_3, .int .i64 a3_4, .int .i64 a3_5, .int .i64 a3_6, .int .i64 a3_7] 25 (0, 0))) ∧ (w'.heap[s_.2.2.2.2]? = some (.cells #[.int .i64 0, .int .i64 0, .slice none 0 0] 24 (0, 0))) ∧ (w.heap.size ≤ s_.2.2.2.2) ∧ (w.heap.size ≤ s_.2.2.2.2) ∧ (gb402 ≠ s_.2.2.2.2) ∧ (s_.2.2.2.2 ≠ gb402) ∧ (gb403 ≠ s_.2.2.2.2) ∧ (s_.2.2.2.2 ≠ gb403) ∧ (Below w.heap.size w w')) ?_ ?_
     rotate_left
     · intro hJ3_4_8_9_11
       refine join_ (σ := Value × Value × Value × Nat × Nat) 3 #[true, true, true, true, true, true, true, true, true, false, true, true, false, false] (fun s_ => [(30, .agg #[.int .i64 t405, .int .i64 t406, s_.1]), (31, .agg #[.int .i64 t410, .int .i64 t411, s_.2.1]), (35, .agg #[.int .i64 t415, .int .i64 t416, s_.2.2.1]), (13, .pointer (some ⟨s_.2.2.2.1, 0, none⟩)), (14, .pointer (some ⟨s_.2.2.2.2, 0, none⟩))]) (fun s_ w' => (w'.cell? ⟨gb402, 0, none⟩ = some (.int .i64 a0_0) ∧ w'.cell? ⟨gb402, 1, none⟩ = some (.int .i64 a0_1) ∧ w'.cell? ⟨gb402, 2, none⟩ = some (.slice A0_2 l0_2.length c0_2)) ∧ (Kd.N k24 24 w' w.heap.size (fun k_ => some k_ ≠ (s_.2.1 : Value).ownBlock ∧ some k_ ≠ (s_.2.2.1 : Value).ownBlock ∧ k_ ≠ gb402 ∧ k_ ≠ gb403 ∧ k_ ≠ s_.2.2.2.1 ∧ k_ ≠ s_.2.2.2.2) s_.1 t407) ∧ (Kd.N k24 24 w' w.heap.size (fun k_ => some k_ ≠ (s_.2.2.1 : Value).ownBlock ∧ k_ ≠ gb402 ∧ k_ ≠ gb403 ∧ k_ ≠ s_.2.2.2.1 ∧ k_ ≠ s_.2.2.2.2) s_.2.1 t412) ∧ (Kd.N k24 24 w' w.heap.size (fun k_ => some k_ ≠ (s_.1 : Value).ownBlock ∧ some k_ ≠ (s_.2.1 : Value).ownBlock ∧ k_ ≠ gb402 ∧ k_ ≠ gb403 ∧ k_ ≠ s_.2.2.2.1 ∧ k_ ≠ s_.2.2.2.2) s_.2.2.1 t417) ∧ (w'.heap[gb402]? = some (.cells #[.int .i64 a0_0, .int .i64 a0_1, .slice A0_2 l0_2.length c0_2] 24 (0, 0))) ∧ (w'.heap[gb403]? = some (.cells #[.int .i64 a3_0, .int .i64 a3_1, .int .i64 a3_2, .int .i64 a3_3, .int .i64 a3_4, .int .i64 a3_5, .int .i64 a3_6, .int .i64 a3_7] 25 (0, 0))) ∧ (w'.heap[s_.2.2.2.1]? = some (.cells #[.int .i64 0, .int .i64 0, .slice none 0 0] 24 (0, 0))) ∧ (w'.heap[s_.2.2.2.2]? = some (.cells #[.int .i64 0, .int .i64 0, .slice none 0 0] 24 (0, 0))) ∧ (w.heap.size ≤ s_.2.2.2.1) ∧ (w.heap.size ≤ s_.2.2.2.1) ∧ (gb402 ≠ s_.2.2.2.1) ∧ (s_.2.2.2.1 ≠ gb402) ∧ (gb403 ≠ s_.2.2.2.1) ∧ (s_.2.2.2.1 ≠ gb403) ∧ (s_.2.2.2.2 ≠ s_.2.2.2.1) ∧ (s_.2.2.2.1 ≠ s_.2.2.2.2) ∧ (w.heap.size ≤ s_.2.2.2.2) ∧ (w.heap.size ≤ s_.2.2.2.2) ∧ (gb402 ≠ s_.2.2.2.2) ∧ (s_.2.2.2.2 ≠ gb402) ∧ (gb403 ≠ s_.2.2.2.2) ∧ (s_.2.2.2.2 ≠ gb403) ∧ (Below w.heap.size w w')) ?_ ?_
       rotate_left
       · intro hJ3_4_8_10_11
         refine join_ (σ := Value × Value × Value × Value) 4 #[true, true, true, true, true, true, true, true, true, true, false, false, false, false] (fun s_ => [(30, .agg #[.int .i64 t405, .int .i64 t406, s_.1]), (31, .agg #[.int .i64 t410, .int .i64 t411, s_.2.1]), (35, .agg #[.int .i64 t415, .int .i64 t416, s_.2.2.1]), (36, .agg #[.int .i64 t420, .int .i64 t421, s_.2.2.2])]) (fun s_ w' => (w'.cell? ⟨gb402, 0, none⟩ = some (.int .i64 a0_0) ∧ w'.cell? ⟨gb402, 1, none⟩ = some (.int .i64 a0_1) ∧ w'.cell? ⟨gb402, 2, none⟩ = some (.slice A0_2 l0_2.length c0_2)) ∧ (Kd.N k24 24 w' w.heap.size (fun k_ => some k_ ≠ (s_.2.1 : Value).ownBlock ∧ some k_ ≠ (s_.2.2.1 : Value).ownBlock ∧ some k_ ≠ (s_.2.2.2 : Value).ownBlock ∧ k_ ≠ gb402 ∧ k_ ≠ gb403) s_.1 t407) ∧ (Kd.N k24 24 w' w.heap.size (fun k_ => some k_ ≠ (s_.2.2.1 : Value).ownBlock ∧ some k_ ≠ (s_.2.2.2 : Value).ownBlock ∧ k_ ≠ gb402 ∧ k_ ≠ gb403) s_.2.1 t412) ∧ (Kd.N k24 24 w' w.heap.size (fun k_ => some k_ ≠ (s_.1 : Value).ownBlock ∧ some k_ ≠ (s_.2.1 : Value).ownBlock ∧ some k_ ≠ (s_.2.2.2 : Value).ownBlock ∧ k_ ≠ gb402 ∧ k_ ≠ gb403) s_.2.2.1 t417) ∧ (Kd.N k24 24 w' w.heap.size (fun k_ => some k_ ≠ (s_.1 : Value).ownBlock ∧ some k_ ≠ (s_.2.1 : Value).ownBlock ∧ k_ ≠ gb402 ∧ k_ ≠ gb403) s_.2.2.2 t422) ∧ (w'.heap[gb402]? = some (.cells #[.int .i64 a0_0, .int .i64 a0_1, .slice A0_2 l0_2.length c0_2] 24 (0, 0))) ∧ (w'.heap[gb403]? = some (.cells #[.int .i64 a3_0, .int .i64 a3_1, .int .i64 a3_2, .int .i64 a3_3, .int .i64 a3_4, .int .i64 a3_5, .int .i64 a3_6, .int .i64 a3_7] 25 (0, 0))) ∧ (Below w.heap.size w w')) ?_ ?_
         rotate_left
         · intro hJ3_4_8_9
           refine join_ (σ := Value × Value × Value × Nat) 4 #[true, true, true, true, true, true, true, true, true, false, true, false, false, false] (fun s_ => [(30, .agg #[.int .i64 t405, .int .i64 t406, s_.1]), (31, .agg #[.int .i64 t410, .int .i64 t411, s_.2.1]), (35, .agg #[.int .i64 t415, .int .i64 t416, s_.2.2.1]), (13, .pointer (some ⟨s_.2.2.2, 0, none⟩))]) (fun s_ w' => (w'.cell? ⟨gb402, 0, none⟩ = some (.int .i64 a0_0) ∧ w'.cell? ⟨gb402, 1, none⟩ = some (.int .i64 a0_1) ∧ w'.cell? ⟨gb402, 2, none⟩ = some (.slice A0_2 l0_2.length c0_2)) ∧ (Kd.N k24 24 w' w.heap.size (fun k_ => some k_ ≠ (s_.2.1 : Value).ownBlock ∧ some k_ ≠ (s_.2.2.1 : Value).ownBlock ∧ k_ ≠ gb402 ∧ k_ ≠ gb403 ∧ k_ ≠ s_.2.2.2) s_.1 t407) ∧ (Kd.N k24 24 w' w.heap.size (fun k_ => some k_ ≠ (s_.2.2.1 : Value).ownBlock ∧ k_ ≠ gb402 ∧ k_ ≠ gb403 ∧ k_ ≠ s_.2.2.2) s_.2.1 t412) ∧ (Kd.N k24 24 w' w.heap.size (fun k_ => some k_ ≠ (s_.1 : Value).ownBlock ∧ some k_ ≠ (s_.2.1 : Value).ownBlock ∧ k_ ≠ gb402 ∧ k_ ≠ gb403 ∧ k_ ≠ s_.2.2.2) s_.2.2.1 t417) ∧ (w'.heap[gb402]? = some (.cells #[.int .i64 a0_0, .int .i64 a0_1, .slice A0_2 l0_2.length c0_2] 24 (0, 0))) ∧ (w'.heap[gb403]? = some (.cells #[.int .i64 a3_0, .int .i64 a3_1, .int .i64 a3_2, .int .i64 a3_3, .int .i64 a3_4, .int .i64 a3_5, .int .i64 a3_6, .int .i64 a3_7] 25 (0, 0))) ∧ (w'.heap[s_.2.2.2]? = some (.cells #[.int .i64 0, .int .i64 0, .slice none 0 0] 24 (0, 0))) ∧ (w.heap.size ≤ s_.2.2.2) ∧ (w.heap.size ≤ s_.2.2.2) ∧ (gb402 ≠ s_.2.2.2) ∧ (s_.2.2.2 ≠ gb402) ∧ (gb403 ≠ s_.2.2.2) ∧ (s_.2.2.2 ≠ gb403) ∧ (Below w.heap.size w w')) ?_ ?_
           rotate_left
           · intro hJ3_4_8_10
             refine join_ (σ := Value × Value × Value × Nat) 4 #[true, true, true, true, true, true, true, true, true, false, false, true, false, false] (fun s_ => [(30, .agg #[.int .i64 t405, .int .i64 t406, s_.1]), (31, .agg #[.int .i64 t410, .int .i64 t411, s_.2.1]), (35, .agg #[.int .i64 t415, .int .i64 t416, s_.2.2.1]), (14, .pointer (some ⟨s_.2.2.2, 0, none⟩))]) (fun s_ w' => (w'.cell? ⟨gb402, 0, none⟩ = some (.int .i64 a0_0) ∧ w'.cell? ⟨gb402, 1, none⟩ = some (.int .i64 a0_1) ∧ w'.cell? ⟨gb402, 2, none⟩ = some (.slice A0_2 l0_2.length c0_2)) ∧ (Kd.N k24 24 w' w.heap.size (fun k_ => some k_ ≠ (s_.2.1 : Value).ownBlock ∧ some k_ ≠ (s_.2.2.1 : Value).ownBlock ∧ k_ ≠ gb402 ∧ k_ ≠ gb403 ∧ k_ ≠ s_.2.2.2) s_.1 t407) ∧ (Kd.N k24 24 w' w.heap.size (fun k_ => some k_ ≠ (s_.2.2.1 : Value).ownBlock ∧ k_ ≠ gb402 ∧ k_ ≠ gb403 ∧ k_ ≠ s_.2.2.2) s_.2.1 t412) ∧ (Kd.N k24 24 w' w.heap.size (fun k_ => some k_ ≠ (s_.1 : Value).ownBlock ∧ some k_ ≠ (s_.2.1 : Value).ownBlock ∧ k_ ≠ gb402 ∧ k_ ≠ gb403 ∧ k_ ≠ s_.2.2.2) s_.2.2.1 t417) ∧ (w'.heap[gb402]? = some (.cells #[.int .i64 a0_0, .int .i64 a0_1, .slice A0_2 l0_2.length c0_2] 24 (0, 0))) ∧ (w'.heap[gb403]? = some (.cells #[.int .i64 a3_0, .int .i64 a3_1, .int .i64 a3_2, .int .i64 a3_3, .int .i64 a3_4, .int .i64 a3_5, .int .i64 a3_6, .int .i64 a3_7] 25 (0, 0))) ∧ (w'.heap[s_.2.2.2]? = some (.cells #[.int .i64 0, .int .i64 0, .slice none 0 0] 24 (0, 0))) ∧ (w.heap.size ≤ s_.2.2.2) ∧ (w.heap.size ≤ s_.2.2.2) ∧ (gb402 ≠ s_.2.2.2) ∧ (s_.2.2.2 ≠ gb402) ∧ (gb403 ≠ s_.2.2.2) ∧ (s_.2.2.2 ≠ gb403) ∧ (Below w.heap.size w w')) ?_ ?_
             rotate_left
             · intro hJ3_4_8_11
               refine join_ (σ := Value × Value × Nat × Nat) 4 #[true, true, true, true, true, true, true, true, false, false, true, true, false, false] (fun s_ => [(30, .agg #[.int .i64 t405, .int .i64 t406, s_.1]), (31, .agg #[.int .i64 t410, .int .i64 t411, s_.2.1]), (13, .pointer (some ⟨s_.2.2.1, 0, none⟩)), (14, .pointer (some ⟨s_.2.2.2, 0, none⟩))]) (fun s_ w' => (w'.cell? ⟨gb402, 0, none⟩ = some (.int .i64 a0_0) ∧ w'.cell? ⟨gb402, 1, none⟩ = some (.int .i64 a0_1) ∧ w'.cell? ⟨gb402, 2, none⟩ = some (.slice A0_2 l0_2.length c0_2)) ∧ (Kd.N k24 24 w' w.heap.size (fun k_ => some k_ ≠ (s_.2.1 : Value).ownBlock ∧ k_ ≠ gb402 ∧ k_ ≠ gb403 ∧ k_ ≠ s_.2.2.1 ∧ k_ ≠ s_.2.2.2) s_.1 t407) ∧ (Kd.N k24 24 w' w.heap.size (fun k_ => k_ ≠ gb402 ∧ k_ ≠ gb403 ∧ k_ ≠ s_.2.2.1 ∧ k_ ≠ s_.2.2.2) s_.2.1 t412) ∧ (w'.heap[gb402]? = some (.cells #[.int .i64 a0_0, .int .i64 a0_1, .slice A0_2 l0_2.length c0_2] 24 (0, 0))) ∧ (w'.heap[gb403]? = some (.cells #[.int .i64 a3_0, .int .i64 a3_1, .int .i64 a3_2, .int .i64 a3_3, .int .i64 a3_4, .int .i64 a3_5, .int .i64 a3_6, .int .i64 a3_7] 25 (0, 0))) ∧ (w'.heap[s_.2.2.1]? = some (.cells #[.int .i64 0, .int .i64 0, .slice none 0 0] 24 (0, 0))) ∧ (w'.heap[s_.2.2.2]? = some (.cells #[.int .i64 0, .int .i64 0, .slice none 0 0] 24 (0, 0))) ∧ (w.heap.size ≤ s_.2.2.1) ∧ (w.heap.size ≤ s_.2.2.1) ∧ (gb402 ≠ s_.2.2.1) ∧ (s_.2.2.1 ≠ gb402) ∧ (gb403 ≠ s_.2.2.1) ∧ (s_.2.2.1 ≠ gb403) ∧ (s_.2.2.2 ≠ s_.2.2.1) ∧ (s_.2.2.1 ≠ s_.2.2.2) ∧ (w.heap.size ≤ s_.2.2.2) ∧ (w.heap.size ≤ s_.2.2.2) ∧ (gb402 ≠ s_.2.2.2) ∧ (s_.2.2.2 ≠ gb402) ∧ (gb403 ≠ s_.2.2.2) ∧ (s_.2.2.2 ≠ gb403) ∧ (Below w.heap.size w w')) ?_ ?_
               rotate_left
               · intro hJ3_4_10_11
                 refine join_ (σ := Value × Value × Value) 5 #[true, true, true, true, true, true, true, true, true, false, false, false, false, false] (fun s_ => [(30, .agg #[.int .i64 t405, .int .i64 t406, s_.1]), (31, .agg #[.int .i64 t410, .int .i64 t411, s_.2.1]), (35, .agg #[.int .i64 t415, .int .i64 t416, s_.2.2])]) (fun s_ w' => (w'.cell? ⟨gb402, 0, none⟩ = some (.int .i64 a0_0) ∧ w'.cell? ⟨gb402, 1, none⟩ = some (.int .i64 a0_1) ∧ w'.cell? ⟨gb402, 2, none⟩ = some (.slice A0_2 l0_2.length c0_2)) ∧ (Kd.N k24 24 w' w.heap.size (fun k_ => some k_ ≠ (s_.2.1 : Value).ownBlock ∧ some k_ ≠ (s_.2.2 : Value).ownBlock ∧ k_ ≠ gb402 ∧ k_ ≠ gb403) s_.1 t407) ∧ (Kd.N k24 24 w' w.heap.size (fun k_ => some k_ ≠ (s_.2.2 : Value).ownBlock ∧ k_ ≠ gb402 ∧ k_ ≠ gb403) s_.2.1 t412) ∧ (Kd.N k24 24 w' w.heap.size (fun k_ => some k_ ≠ (s_.1 : Value).ownBlock ∧ some k_ ≠ (s_.2.1 : Value).ownBlock ∧ k_ ≠ gb402 ∧ k_ ≠ gb403) s_.2.2 t417) ∧ (w'.heap[gb402]? = some (.cells #[.int .i64 a0_0, .int .i64 a0_1, .slice A0_2 l0_2.length c0_2] 24 (0, 0))) ∧ (w'.heap[gb403]? = some (.cells #[.int .i64 a3_0, .int .i64 a3_1, .int .i64 a3_2, .int .i64 a3_3, .int .i64 a3_4, .int .i64 a3_5, .int .i64 a3_6, .int .i64 a3_7] 25 (0, 0))) ∧ (Below w.heap.size w w')) ?_ ?_
                 rotate_left
                 · intro hJ3_4_8
                   refine join_ (σ := Value × Value × Nat) 5 #[true, true, true, true, true, true, true, true, false, false, true, false, false, false] (fun s_ => [(30, .agg #[.int .i64 t405, .int .i64 t406, s_.1]), (31, .agg #[.int .i64 t410, .int .i64 t411, s_.2.1]), (13, .pointer (some ⟨s_.2.2, 0, none⟩))]) (fun s_ w' => (w'.cell? ⟨gb402, 0, none⟩ = some (.int .i64 a0_0) ∧ w'.cell? ⟨gb402, 1, none⟩ = some (.int .i64 a0_1) ∧ w'.cell? ⟨gb402, 2, none⟩ = some (.slice A0_2 l0_2.length c0_2)) ∧ (Kd.N k24 24 w' w.heap.size (fun k_ => some k_ ≠ (s_.2.1 : Value).ownBlock ∧ k_ ≠ gb402 ∧ k_ ≠ gb403 ∧ k_ ≠ s_.2.2) s_.1 t407) ∧ (Kd.N k24 24 w' w.heap.size (fun k_ => k_ ≠ gb402 ∧ k_ ≠ gb403 ∧ k_ ≠ s_.2.2) s_.2.1 t412) ∧ (w'.heap[gb402]? = some (.cells #[.int .i64 a0_0, .int .i64 a0_1, .slice A0_2 l0_2.length c0_2] 24 (0, 0))) ∧ (w'.heap[gb403]? = some (.cells #[.int .i64 a3_0, .int .i64 a3_1, .int .i64 a3_2, .int .i64 a3_3, .int .i64 a3_4, .int .i64 a3_5, .int .i64 a3_6, .int .i64 a3_7] 25 (0, 0))) ∧ (w'.heap[s_.2.2]? = some (.cells #[.int .i64 0, .int .i64 0, .slice none 0 0] 24 (0, 0))) ∧ (w.heap.size ≤ s_.2.2) ∧ (w.heap.size ≤ s_.2.2) ∧ (gb402 ≠ s_.2.2) ∧ (s_.2.2 ≠ gb402) ∧ (gb403 ≠ s_.2.2) ∧ (s_.2.2 ≠ gb403) ∧ (Below w.heap.size w w')) ?_ ?_
                   rotate_left
                   · intro hJ3_4_10
                     refine join_ (σ := Value × Value × Nat) 5 #[true, true, true, true, true, true, true, true, false, false, false, true, false, false] (fun s_ => [(30, .agg #[.int .i64 t405, .int .i64 t406, s_.1]), (31, .agg #[.int .i64 t410, .int .i64 t411, s_.2.1]), (14, .pointer (some ⟨s_.2.2, 0, none⟩))]) (fun s_ w' => (w'.cell? ⟨gb402, 0, none⟩ = some (.int .i64 a0_0) ∧ w'.cell? ⟨gb402, 1, none⟩ = some (.int .i64 a0_1) ∧ w'.cell? ⟨gb402, 2, none⟩ = some (.slice A0_2 l0_2.length c0_2)) ∧ (Kd.N k24 24 w' w.heap.size (fun k_ => some k_ ≠ (s_.2.1 : Value).ownBlock ∧ k_ ≠ gb402 ∧ k_ ≠ gb403 ∧ k_ ≠ s_.2.2) s_.1 t407) ∧ (Kd.N k24 24 w' w.heap.size (fun k_ => k_ ≠ gb402 ∧ k_ ≠ gb403 ∧ k_ ≠ s_.2.2) s_.2.1 t412) ∧ (w'.heap[gb402]? = some (.cells #[.int .i64 a0_0, .int .i64 a0_1, .slice A0_2 l0_2.length c0_2] 24 (0, 0))) ∧ (w'.heap[gb403]? = some (.cells #[.int .i64 a3_0, .int .i64 a3_1, .int .i64 a3_2, .int .i64 a3_3, .int .i64 a3_4, .int .i64 a3_5, .int .i64 a3_6, .int .i64 a3_7] 25 (0, 0))) ∧ (w'.heap[s_.2.2]? = some (.cells #[.int .i64 0, .int .i64 0, .slice none 0 0] 24 (0, 0))) ∧ (w.heap.size ≤ s_.2.2) ∧ (w.heap.size ≤ s_.2.2) ∧ (gb402 ≠ s_.2.2) ∧ (s_.2.2 ≠ gb402) ∧ (gb403 ≠ s_.2.2) ∧ (s_.2.2 ≠ gb403) ∧ (Below w.heap.size w w')) ?_ ?_
                     rotate_left
                     · intro hJ3_4_11
                       refine join_ (σ := Value × Nat × Nat) 5 #[true, true, true, true, false, true, true, true, false, false, true, true, false, false] (fun s_ => [(30, .agg #[.int .i64 t405, .int .i64 t406, s_.1]), (13, .pointer (some ⟨s_.2.1, 0, none⟩)), (14, .pointer (some ⟨s_.2.2, 0, none⟩))]) (fun s_ w' => (w'.cell? ⟨gb402, 0, none⟩ = some (.int .i64 a0_0) ∧ w'.cell? ⟨gb402, 1, none⟩ = some (.int .i64 a0_1) ∧ w'.cell? ⟨gb402, 2, none⟩ = some (.slice A0_2 l0_2.length c0_2)) ∧ (Kd.N k24 24 w' w.heap.size (fun k_ => k_ ≠ gb402 ∧ k_ ≠ gb403 ∧ k_ ≠ s_.2.1 ∧ k_ ≠ s_.2.2) s_.1 t407) ∧ (w'.heap[gb402]? = some (.cells #[.int .i64 a0_0, .int .i64 a0_1, .slice A0_2 l0_2.length c0_2] 24 (0, 0))) ∧ (w'.heap[gb403]? = some (.cells #[.int .i64 a3_0, .int .i64 a3_1, .int .i64 a3_2, .int .i64 a3_3, .int .i64 a3_4, .int .i64 a3_5, .int .i64 a3_6, .int .i64 a3_7] 25 (0, 0))) ∧ (w'.heap[s_.2.1]? = some (.cells #[.int .i64 0, .int .i64 0, .slice none 0 0] 24 (0, 0))) ∧ (w'.heap[s_.2.2]? = some (.cells #[.int .i64 0, .int .i64 0, .slice none 0 0] 24 (0, 0))) ∧ (w.heap.size ≤ s_.2.1) ∧ (w.heap.size ≤ s_.2.1) ∧ (gb402 ≠ s_.2.1) ∧ (s_.2.1 ≠ gb402) ∧ (gb403 ≠ s_.2.1) ∧ (s_.2.1 ≠ gb403) ∧ (s_.2.2 ≠ s_.2.1) ∧ (s_.2.1 ≠ s_.2.2) ∧ (w.heap.size ≤ s_.2.2) ∧ (w.heap.size ≤ s_.2.2) ∧ (gb402 ≠ s_.2.2) ∧ (s_.2.2 ≠ gb402) ∧ (gb403 ≠ s_.2.2) ∧ (s_.2.2 ≠ gb403) ∧ (Below w.heap.size w w')) ?_ ?_
                       rotate_left
                       · intro hJ3_10_11
                         refine join_ (σ := Value × Value) 6 #[true, true, true, true, true, true, true, true, false, false, false, false, false, false] (fun s_ => [(30, .agg #[.int .i64 t405, .int .i64 t406, s_.1]), (31, .agg #[.int .i64 t410, .int .i64 t411, s_.2])]) (fun s_ w' => (w'.cell? ⟨gb402, 0, none⟩ = some (.int .i64 a0_0) ∧ w'.cell? ⟨gb402, 1, none⟩ = some (.int .i64 a0_1) ∧ w'.cell? ⟨gb402, 2, none⟩ = some (.slice A0_2 l0_2.length c0_2)) ∧ (Kd.N k24 24 w' w.heap.size (fun k_ => some k_ ≠ (s_.2 : Value).ownBlock ∧ k_ ≠ gb402 ∧ k_ ≠ gb403) s_.1 t407) ∧ (Kd.N k24 24 w' w.heap.size (fun k_ => k_ ≠ gb402 ∧ k_ ≠ gb403) s_.2 t412) ∧ (w'.heap[gb402]? = some (.cells #[.int .i64 a0_0, .int .i64 a0_1, .slice A0_2 l0_2.length c0_2] 24 (0, 0))) ∧ (w'.heap[gb403]? = some (.cells #[.int .i64 a3_0, .int .i64 a3_1, .int .i64 a3_2, .int .i64 a3_3, .int .i64 a3_4, .int .i64 a3_5, .int .i64 a3_6, .int .i64 a3_7] 25 (0, 0))) ∧ (Below w.heap.size w w')) ?_ ?_
                         rotate_left
                         · intro hJ3_4
                           refine join_ (σ := Value × Nat) 6 #[true, true, true, true, false, true, true, true, false, false, true, false, false, false] (fun s_ => [(30, .agg #[.int .i64 t405, .int .i64 t406, s_.1]), (13, .pointer (some ⟨s_.2, 0, none⟩))]) (fun s_ w' => (w'.cell? ⟨gb402, 0, none⟩ = some (.int .i64 a0_0) ∧ w'.cell? ⟨gb402, 1, none⟩ = some (.int .i64 a0_1) ∧ w'.cell? ⟨gb402, 2, none⟩ = some (.slice A0_2 l0_2.length c0_2)) ∧ (Kd.N k24 24 w' w.heap.size (fun k_ => k_ ≠ gb402 ∧ k_ ≠ gb403 ∧ k_ ≠ s_.2) s_.1 t407) ∧ (w'.heap[gb402]? = some (.cells #[.int .i64 a0_0, .int .i64 a0_1, .slice A0_2 l0_2.length c0_2] 24 (0, 0))) ∧ (w'.heap[gb403]? = some (.cells #[.int .i64 a3_0, .int .i64 a3_1, .int .i64 a3_2, .int .i64 a3_3, .int .i64 a3_4, .int .i64 a3_5, .int .i64 a3_6, .int .i64 a3_7] 25 (0, 0))) ∧ (w'.heap[s_.2]? = some (.cells #[.int .i64 0, .int .i64 0, .slice none 0 0] 24 (0, 0))) ∧ (w.heap.size ≤ s_.2) ∧ (w.heap.size ≤ s_.2) ∧ (gb402 ≠ s_.2) ∧ (s_.2 ≠ gb402) ∧ (gb403 ≠ s_.2) ∧ (s_.2 ≠ gb403) ∧ (Below w.heap.size w w')) ?_ ?_
                           rotate_left
                           · intro hJ3_10
                             refine join_ (σ := Value × Nat) 6 #[true, true, true, true, false, true, true, true, false, false, false, true, false, false] (fun s_ => [(30, .agg #[.int .i64 t405, .int .i64 t406, s_.1]), (14, .pointer (some ⟨s_.2, 0, none⟩))]) (fun s_ w' => (w'.cell? ⟨gb402, 0, none⟩ = some (.int .i64 a0_0) ∧ w'.cell? ⟨gb402, 1, none⟩ = some (.int .i64 a0_1) ∧ w'.cell? ⟨gb402, 2, none⟩ = some (.slice A0_2 l0_2.length c0_2)) ∧ (Kd.N k24 24 w' w.heap.size (fun k_ => k_ ≠ gb402 ∧ k_ ≠ gb403 ∧ k_ ≠ s_.2) s_.1 t407) ∧ (w'.heap[gb402]? = some (.cells #[.int .i64 a0_0, .int .i64 a0_1, .slice A0_2 l0_2.length c0_2] 24 (0, 0))) ∧ (w'.heap[gb403]? = some (.cells #[.int .i64 a3_0, .int .i64 a3_1, .int .i64 a3_2, .int .i64 a3_3, .int .i64 a3_4, .int .i64 a3_5, .int .i64 a3_6, .int .i64 a3_7] 25 (0, 0))) ∧ (w'.heap[s_.2]? = some (.cells #[.int .i64 0, .int .i64 0, .slice none 0 0] 24 (0, 0))) ∧ (w.heap.size ≤ s_.2) ∧ (w.heap.size ≤ s_.2) ∧ (gb402 ≠ s_.2) ∧ (s_.2 ≠ gb402) ∧ (gb403 ≠ s_.2) ∧ (s_.2 ≠ gb403) ∧ (Below w.heap.size w w')) ?_ ?_
                             rotate_left
                             · intro hJ3_11
                               refine join_ (σ := Nat × Nat) 6 #[true, true, true, false, false, true, true, true, false, false, true, true, false, false] (fun s_ => [(13, .pointer (some ⟨s_.1, 0, none⟩)), (14, .pointer (some ⟨s_.2, 0, none⟩))]) (fun s_ w' => (w'.cell? ⟨gb402, 0, none⟩ = some (.int .i64 a0_0) ∧ w'.cell? ⟨gb402, 1, none⟩ = some (.int .i64 a0_1) ∧ w'.cell? ⟨gb402, 2, none⟩ = some (.slice A0_2 l0_2.length c0_2)) ∧ (w'.heap[gb402]? = some (.cells #[.int .i64 a0_0, .int .i64 a0_1, .slice A0_2 l0_2.length c0_2] 24 (0, 0))) ∧ (w'.heap[gb403]? = some (.cells #[.int .i64 a3_0, .int .i64 a3_1, .int .i64 a3_2, .int .i64 a3_3, .int .i64 a3_4, .int .i64 a3_5, .int .i64 a3_6, .int .i64 a3_7] 25 (0, 0))) ∧ (w'.heap[s_.1]? = some (.cells #[.int .i64 0, .int .i64 0, .slice none 0 0] 24 (0, 0))) ∧ (w'.heap[s_.2]? = some (.cells #[.int .i64 0, .int .i64 0, .slice none 0 0] 24 (0, 0))) ∧ (w.heap.size ≤ s_.1) ∧ (w.heap.size ≤ s_.1) ∧ (gb402 ≠ s_.1) ∧ (s_.1 ≠ gb402) ∧ (gb403 ≠ s_.1) ∧ (s_.1 ≠ gb403) ∧ (s_.2 ≠ s_.1) ∧ (s_.1 ≠ s_.2) ∧ (w.heap.size ≤ s_.2) ∧ (w.heap.size ≤ s_.2) ∧ (gb402 ≠ s_.2) ∧ (s_.2 ≠ gb402) ∧ (gb403 ≠ s_.2) ∧ (s_.2 ≠ gb403) ∧ (Below w.heap.size w w')) ?_ ?_
                               rotate_left
                               · intro hJ10_11
                                 refine join_ (σ := Value) 7 #[true, true, true, true, false, true, true, true, false, false, false, false, false, false] (fun s_ => [(30, .agg #[.int .i64 t405, .int .i64 t406, s_])]) (fun s_ w' => (w'.cell? ⟨gb402, 0, none⟩ = some (.int .i64 a0_0) ∧ w'.cell? ⟨gb402, 1, none⟩ = some (.int .i64 a0_1) ∧ w'.cell? ⟨gb402, 2, none⟩ = some (.slice A0_2 l0_2.length c0_2)) ∧ (Kd.N k24 24 w' w.heap.size (fun k_ => k_ ≠ gb402 ∧ k_ ≠ gb403) s_ t407) ∧ (w'.heap[gb402]? = some (.cells #[.int .i64 a0_0, .int .i64 a0_1, .slice A0_2 l0_2.length c0_2] 24 (0, 0))) ∧ (w'.heap[gb403]? = some (.cells #[.int .i64 a3_0, .int .i64 a3_1, .int .i64 a3_2, .int .i64 a3_3, .int .i64 a3_4, .int .i64 a3_5, .int .i64 a3_6, .int .i64 a3_7] 25 (0, 0))) ∧ (Below w.heap.size w w')) ?_ ?_
                                 rotate_left
                                 · intro hJ3
                                   refine join_ (σ := Nat) 7 #[true, true, true, false, false, true, true, true, false, false, true, false, false, false] (fun s_ => [(13, .pointer (some ⟨s_, 0, none⟩))]) (fun s_ w' => (w'.cell? ⟨gb402, 0, none⟩ = some (.int .i64 a0_0) ∧ w'.cell? ⟨gb402, 1, none⟩ = some (.int .i64 a0_1) ∧ w'.cell? ⟨gb402, 2, none⟩ = some (.slice A0_2 l0_2.length c0_2)) ∧ (w'.heap[gb402]? = some (.cells #[.int .i64 a0_0, .int .i64 a0_1, .slice A0_2 l0_2.length c0_2] 24 (0, 0))) ∧ (w'.heap[gb403]? = some (.cells #[.int .i64 a3_0, .int .i64 a3_1, .int .i64 a3_2, .int .i64 a3_3, .int .i64 a3_4, .int .i64 a3_5, .int .i64 a3_6, .int .i64 a3_7] 25 (0, 0))) ∧ (w'.heap[s_]? = some (.cells #[.int .i64 0, .int .i64 0, .slice none 0 0] 24 (0, 0))) ∧ (w.heap.size ≤ s_) ∧ (w.heap.size ≤ s_) ∧ (gb402 ≠ s_) ∧ (s_ ≠ gb402) ∧ (gb403 ≠ s_) ∧ (s_ ≠ gb403) ∧ (Below w.heap.size w w')) ?_ ?_
                                   rotate_left
                                   · intro hJ10
                                     refine join_ (σ := Nat) 7 #[true, true, true, false, false, true, true, true, false, false, false, true, false, false] (fun s_ => [(14, .pointer (some ⟨s_, 0, none⟩))]) (fun s_ w' => (w'.cell? ⟨gb402, 0, none⟩ = some (.int .i64 a0_0) ∧ w'.cell? ⟨gb402, 1, none⟩ = some (.int .i64 a0_1) ∧ w'.cell? ⟨gb402, 2, none⟩ = some (.slice A0_2 l0_2.length c0_2)) ∧ (w'.heap[gb402]? = some (.cells #[.int .i64 a0_0, .int .i64 a0_1, .slice A0_2 l0_2.length c0_2] 24 (0, 0))) ∧ (w'.heap[gb403]? = some (.cells #[.int .i64 a3_0, .int .i64 a3_1, .int .i64 a3_2, .int .i64 a3_3, .int .i64 a3_4, .int .i64 a3_5, .int .i64 a3_6, .int .i64 a3_7] 25 (0, 0))) ∧ (w'.heap[s_]? = some (.cells #[.int .i64 0, .int .i64 0, .slice none 0 0] 24 (0, 0))) ∧ (w.heap.size ≤ s_) ∧ (w.heap.size ≤ s_) ∧ (gb402 ≠ s_) ∧ (s_ ≠ gb402) ∧ (gb403 ≠ s_) ∧ (s_ ≠ gb403) ∧ (Below w.heap.size w w')) ?_ ?_
                                     rotate_left
                                     · intro hJ11
                                       refine three_ (i := 3) (j := 10) (k := 11) (Ni := some 30) (Nj := some 13) (Nk := some 14) #[true, true, true, true, false, true, true, true, false, false, false, false, false, false] #[true, true, true, false, false, true, true, true, false, false, true, false, false, false] #[true, true, true, false, false, true, true, true, false, false, false, true, false, false] rfl rfl rfl rfl rfl rfl (three_of HT_.out (by kernel_rfl)) (by decide) (by decide) (by decide) (fun K hK => ?_) (fun K hK => ?_) (fun K hK => ?_)
                                       · skip
                                         refine goes_ Try.func23 (by kernel_rfl) rfl #[.int .i64 7, .int .i64 (wrap64 (1 + (Int.tmod (wrap64 ((Int.tmod a4 1000) + 1000)) 1000))), .agg #[.int .i64 a0_0, .int .i64 a0_1, .slice A0_2 l0_2.length c0_2]] (by rfl) rfl rfl (by (try simp only [List.map_toArray, List.map_cons, List.map_nil]); rfl) ?_
                                         with_reducible refine (formelaw14_one.calls 7 (wrap64 (1 + (Int.tmod (wrap64 ((Int.tmod a4 1000) + 1000)) 1000))) a0_0 a0_1 (fun k_ => k_ < w.heap.size) _ _ l0_2 t405 t406 t407 _ ?side1 A7.out).mono ?_
                                         (case side1 => exact Kd.V_mk HC0_2.out (Kd.F_below (Kd.C_F k24_heap HR0_2.out) HB.out))
                                         rintro e w17 ⟨v408, rfl, ho0, hb⟩
                                         refine ⟨_, rfl, ?_⟩
                                         have HO409 := Aside0.mk (Kd.N_lower (Kd.N_mono (ok' := fun k_ => k_ ≠ gb402 ∧ k_ ≠ gb403) ho0 (fun k_ hk_ => ⟨Or.elim hk_ (fun hs_ => fun e_ => Nat.not_le.2 hs_ (by rw [e_]; exact GW402.out)) (fun hn_ => (Kd.freshB BK402.out k_ hn_)), Or.elim hk_ (fun hs_ => fun e_ => Nat.not_le.2 hs_ (by rw [e_]; exact GW403.out)) (fun hn_ => (Kd.freshB BK403.out k_ hn_))⟩)) (below_size HB.out))
                                         replace BK402 := Aside0.mk (blk_below BK402.out hb)
                                         replace BK403 := Aside0.mk (blk_below BK403.out hb)
                                         replace HB := Aside0.mk (below_step HB.out hb)
                                         (try clear hb)
                                         (try clear ho0)
                                         refine hK.out _ _ ⟨(blk_cell BK402.out 0).trans rfl, (blk_cell BK402.out 1).trans rfl, (blk_cell BK402.out 2).trans rfl⟩ (fun hHeld => ?_)
                                         clear hK K
                                         refine norm_ (a' := ?_) ?_ ?_
                                         rotate_left
                                         · show Act.put _ (some 30) _ = _
                                           simp only [Act.put, List.setIfInBounds_toArray, List.set_cons_zero, List.set_cons_succ, i64_w, i32_w]
                                           rfl
                                         exact norm_ (by (simp only [putAll, Act.put, List.setIfInBounds_toArray, List.set_cons_zero, List.set_cons_succ]; first | done | rfl)) (hJ3 (_) _ ⟨hHeld, HO409.out, BK402.out, BK403.out, HB.out⟩)
                                       · skip
                                         refine box_step ?hg (N := 13) ?hd (cs := #[.int .i64 0, .int .i64 0, .slice none 0 0]) (t := 24) ?hr ?_; (case hd => rfl); (case hg => rfl); (case hr => (go_simp; done))
                                         intro gb425 hg w17 hbox hb
                                         have BK425 := Aside0.mk (hbox)
                                         have GW425 := Aside0.mk ((by rw [hg]; exact (below_size HB.out) : w.heap.size ≤ gb425))
                                         have GE425 := Aside0.mk ((by rw [hg]; exact (below_size HB.out) : w.heap.size ≤ gb425))
                                         replace HB := Aside0.mk (below_step HB.out hb)
                                         have NB402_425 := Aside0.mk ((by rw [hg]; exact Nat.ne_of_lt (blk_lt BK402.out) : gb402 ≠ gb425))
                                         have NB425_402 := Aside0.mk ((by rw [hg]; exact Nat.ne_of_gt (blk_lt BK402.out) : gb425 ≠ gb402))
                                         replace BK402 := Aside0.mk (blk_below BK402.out hb)
                                         have NB403_425 := Aside0.mk ((by rw [hg]; exact Nat.ne_of_lt (blk_lt BK403.out) : gb403 ≠ gb425))
                                         have NB425_403 := Aside0.mk ((by rw [hg]; exact Nat.ne_of_gt (blk_lt BK403.out) : gb425 ≠ gb403))
                                         replace BK403 := Aside0.mk (blk_below BK403.out hb)
                                         clear hb hbox hg
                                         refine hK.out _ _ ⟨(blk_cell BK402.out 0).trans rfl, (blk_cell BK402.out 1).trans rfl, (blk_cell BK402.out 2).trans rfl⟩ (fun hHeld => ?_)
                                         clear hK K
                                         refine norm_ (a' := ?_) ?_ ?_
                                         rotate_left
                                         · show Act.put _ (some 13) _ = _
                                           simp only [Act.put, List.setIfInBounds_toArray, List.set_cons_zero, List.set_cons_succ, i64_w, i32_w]
                                           rfl
                                         exact norm_ (by (simp only [putAll, Act.put, List.setIfInBounds_toArray, List.set_cons_zero, List.set_cons_succ]; done)) (hJ10 (gb425) _ ⟨hHeld, BK402.out, BK403.out, BK425.out, GW425.out, GE425.out, NB402_425.out, NB425_402.out, NB403_425.out, NB425_403.out, HB.out⟩)
                                       · skip
                                         refine box_step ?hg (N := 14) ?hd (cs := #[.int .i64 0, .int .i64 0, .slice none 0 0]) (t := 24) ?hr ?_; (case hd => rfl); (case hg => rfl); (case hr => (go_simp; done))
                                         intro gb426 hg w17 hbox hb
                                         have BK426 := Aside0.mk (hbox)
                                         have GW426 := Aside0.mk ((by rw [hg]; exact (below_size HB.out) : w.heap.size ≤ gb426))
                                         have GE426 := Aside0.mk ((by rw [hg]; exact (below_size HB.out) : w.heap.size ≤ gb426))
                                         replace HB := Aside0.mk (below_step HB.out hb)
                                         have NB402_426 := Aside0.mk ((by rw [hg]; exact Nat.ne_of_lt (blk_lt BK402.out) : gb402 ≠ gb426))
                                         have NB426_402 := Aside0.mk ((by rw [hg]; exact Nat.ne_of_gt (blk_lt BK402.out) : gb426 ≠ gb402))
                                         replace BK402 := Aside0.mk (blk_below BK402.out hb)
                                         have NB403_426 := Aside0.mk ((by rw [hg]; exact Nat.ne_of_lt (blk_lt BK403.out) : gb403 ≠ gb426))
                                         have NB426_403 := Aside0.mk ((by rw [hg]; exact Nat.ne_of_gt (blk_lt BK403.out) : gb426 ≠ gb403))
                                         replace BK403 := Aside0.mk (blk_below BK403.out hb)
                                         clear hb hbox hg
                                         refine hK.out _ _ ⟨(blk_cell BK402.out 0).trans rfl, (blk_cell BK402.out 1).trans rfl, (blk_cell BK402.out 2).trans rfl⟩ (fun hHeld => ?_)
                                         clear hK K
                                         refine norm_ (a' := ?_) ?_ ?_
                                         rotate_left
                                         · show Act.put _ (some 14) _ = _
                                           simp only [Act.put, List.setIfInBounds_toArray, List.set_cons_zero, List.set_cons_succ, i64_w, i32_w]
                                           rfl
                                         exact norm_ (by (simp only [putAll, Act.put, List.setIfInBounds_toArray, List.set_cons_zero, List.set_cons_succ]; done)) (hJ11 (gb426) _ ⟨hHeld, BK402.out, BK403.out, BK426.out, GW426.out, GE426.out, NB402_426.out, NB426_402.out, NB403_426.out, NB426_403.out, HB.out⟩)
                                     · skip
                                       rintro gb426 w18 ⟨hS_, h0_, h1_, h2_, h3_, h4_, h5_, h6_, h7_, h8_, h9_⟩
                                       replace BK402 : Aside0 (w18.heap[gb402]? = some (.cells #[.int .i64 a0_0, .int .i64 a0_1, .slice A0_2 l0_2.length c0_2] 24 (0, 0))) := ⟨h0_⟩
                                       replace BK403 : Aside0 (w18.heap[gb403]? = some (.cells #[.int .i64 a3_0, .int .i64 a3_1, .int .i64 a3_2, .int .i64 a3_3, .int .i64 a3_4, .int .i64 a3_5, .int .i64 a3_6, .int .i64 a3_7] 25 (0, 0))) := ⟨h1_⟩
                                       have BK426 : Aside0 (w18.heap[gb426]? = some (.cells #[.int .i64 0, .int .i64 0, .slice none 0 0] 24 (0, 0))) := ⟨h2_⟩
                                       have GW426 : Aside0 (w.heap.size ≤ gb426) := ⟨h3_⟩
                                       have GE426 : Aside0 (w.heap.size ≤ gb426) := ⟨h4_⟩
                                       have NB402_426 : Aside0 (gb402 ≠ gb426) := ⟨h5_⟩
                                       have NB426_402 : Aside0 (gb426 ≠ gb402) := ⟨h6_⟩
                                       have NB403_426 : Aside0 (gb403 ≠ gb426) := ⟨h7_⟩
                                       have NB426_403 : Aside0 (gb426 ≠ gb403) := ⟨h8_⟩
                                       replace HB : Aside0 (Below w.heap.size w w18) := ⟨h9_⟩
                                       clear h0_ h1_ h2_ h3_ h4_ h5_ h6_ h7_ h8_ h9_
                                       have hHeld : w18.cell? ⟨gb402, 0, none⟩ = some (.int .i64 a0_0) ∧ w18.cell? ⟨gb402, 1, none⟩ = some (.int .i64 a0_1) ∧ w18.cell? ⟨gb402, 2, none⟩ = some (.slice A0_2 l0_2.length c0_2) := hS_
                                       refine norm_ (a' := ?_) ?_ ?_
                                       rotate_left
                                       · simp only [putAll, Act.put, List.setIfInBounds_toArray, List.set_cons_zero, List.set_cons_succ]
                                         rfl
                                       refine two_ (i := 3) (j := 10) (Ni := some 30) (Nj := some 13) #[true, true, true, true, false, true, true, true, false, false, false, true, false, false] #[true, true, true, false, false, true, true, true, false, false, true, true, false, false] rfl rfl rfl rfl (two_of HT_.out (by kernel_rfl)) (by decide) (by decide) (fun K hK => ?_) (fun K hK => ?_)
                                       · skip
                                         refine goes_ Try.func23 (by kernel_rfl) rfl #[.int .i64 7, .int .i64 (wrap64 (1 + (Int.tmod (wrap64 ((Int.tmod a4 1000) + 1000)) 1000))), .agg #[.int .i64 a0_0, .int .i64 a0_1, .slice A0_2 l0_2.length c0_2]] (by rfl) rfl rfl (by (try simp only [List.map_toArray, List.map_cons, List.map_nil]); rfl) ?_
                                         with_reducible refine (formelaw14_one.calls 7 (wrap64 (1 + (Int.tmod (wrap64 ((Int.tmod a4 1000) + 1000)) 1000))) a0_0 a0_1 (fun k_ => k_ < w.heap.size) _ _ l0_2 t405 t406 t407 _ ?side1 A7.out).mono ?_
                                         (case side1 => exact Kd.V_mk HC0_2.out (Kd.F_below (Kd.C_F k24_heap HR0_2.out) HB.out))
                                         rintro e w19 ⟨v408, rfl, ho0, hb⟩
                                         refine ⟨_, rfl, ?_⟩
                                         have HO409 := Aside0.mk (Kd.N_lower (Kd.N_mono (ok' := fun k_ => k_ ≠ gb402 ∧ k_ ≠ gb403 ∧ k_ ≠ gb426) ho0 (fun k_ hk_ => ⟨Or.elim hk_ (fun hs_ => fun e_ => Nat.not_le.2 hs_ (by rw [e_]; exact GW402.out)) (fun hn_ => (Kd.freshB BK402.out k_ hn_)), Or.elim hk_ (fun hs_ => fun e_ => Nat.not_le.2 hs_ (by rw [e_]; exact GW403.out)) (fun hn_ => (Kd.freshB BK403.out k_ hn_)), Or.elim hk_ (fun hs_ => fun e_ => Nat.not_le.2 hs_ (by rw [e_]; exact GW426.out)) (fun hn_ => (Kd.freshB BK426.out k_ hn_))⟩)) (below_size HB.out))
                                         replace BK402 := Aside0.mk (blk_below BK402.out hb)
                                         replace BK403 := Aside0.mk (blk_below BK403.out hb)
                                         replace BK426 := Aside0.mk (blk_below BK426.out hb)
                                         replace HB := Aside0.mk (below_step HB.out hb)
                                         (try clear hb)
                                         (try clear ho0)
                                         refine hK.out _ _ ⟨(blk_cell BK402.out 0).trans rfl, (blk_cell BK402.out 1).trans rfl, (blk_cell BK402.out 2).trans rfl⟩ (fun hHeld => ?_)
                                         clear hK K
                                         refine norm_ (a' := ?_) ?_ ?_
                                         rotate_left
                                         · show Act.put _ (some 30) _ = _
                                           simp only [Act.put, List.setIfInBounds_toArray, List.set_cons_zero, List.set_cons_succ, i64_w, i32_w]
                                           rfl
                                         exact norm_ (by (simp only [putAll, Act.put, List.setIfInBounds_toArray, List.set_cons_zero, List.set_cons_succ]; first | done | rfl)) (hJ3_11 (_, gb426) _ ⟨hHeld, HO409.out, BK402.out, BK403.out, BK426.out, GW426.out, GE426.out, NB402_426.out, NB426_402.out, NB403_426.out, NB426_403.out, HB.out⟩)
                                       · skip
                                         refine box_step ?hg (N := 13) ?hd (cs := #[.int .i64 0, .int .i64 0, .slice none 0 0]) (t := 24) ?hr ?_; (case hd => rfl); (case hg => rfl); (case hr => (go_simp; done))
                                         intro gb425 hg w19 hbox hb
                                         have BK425 := Aside0.mk (hbox)
                                         have GW425 := Aside0.mk ((by rw [hg]; exact (below_size HB.out) : w.heap.size ≤ gb425))
                                         have GE425 := Aside0.mk ((by rw [hg]; exact (below_size HB.out) : w.heap.size ≤ gb425))
                                         replace HB := Aside0.mk (below_step HB.out hb)
                                         have NB402_425 := Aside0.mk ((by rw [hg]; exact Nat.ne_of_lt (blk_lt BK402.out) : gb402 ≠ gb425))
                                         have NB425_402 := Aside0.mk ((by rw [hg]; exact Nat.ne_of_gt (blk_lt BK402.out) : gb425 ≠ gb402))
                                         replace BK402 := Aside0.mk (blk_below BK402.out hb)
                                         have NB403_425 := Aside0.mk ((by rw [hg]; exact Nat.ne_of_lt (blk_lt BK403.out) : gb403 ≠ gb425))
                                         have NB425_403 := Aside0.mk ((by rw [hg]; exact Nat.ne_of_gt (blk_lt BK403.out) : gb425 ≠ gb403))
                                         replace BK403 := Aside0.mk (blk_below BK403.out hb)
                                         have NB426_425 := Aside0.mk ((by rw [hg]; exact Nat.ne_of_lt (blk_lt BK426.out) : gb426 ≠ gb425))
                                         have NB425_426 := Aside0.mk ((by rw [hg]; exact Nat.ne_of_gt (blk_lt BK426.out) : gb425 ≠ gb426))
                                         replace BK426 := Aside0.mk (blk_below BK426.out hb)
                                         clear hb hbox hg
                                         refine hK.out _ _ ⟨(blk_cell BK402.out 0).trans rfl, (blk_cell BK402.out 1).trans rfl, (blk_cell BK402.out 2).trans rfl⟩ (fun hHeld => ?_)
                                         clear hK K
                                         refine norm_ (a' := ?_) ?_ ?_
                                         rotate_left
                                         · show Act.put _ (some 13) _ = _
                                           simp only [Act.put, List.setIfInBounds_toArray, List.set_cons_zero, List.set_cons_succ, i64_w, i32_w]
                                           rfl
                                         exact norm_ (by (simp only [putAll, Act.put, List.setIfInBounds_toArray, List.set_cons_zero, List.set_cons_succ]; done)) (hJ10_11 (gb425, gb426) _ ⟨hHeld, BK402.out, BK403.out, BK425.out, BK426.out, GW425.out, GE425.out, NB402_425.out, NB425_402.out, NB403_425.out, NB425_403.out, NB426_425.out, NB425_426.out, GW426.out, GE426.out, NB402_426.out, NB426_402.out, NB403_426.out, NB426_403.out, HB.out⟩)
                                   · skip
                                     rintro gb425 w18 ⟨hS_, h0_, h1_, h2_, h3_, h4_, h5_, h6_, h7_, h8_, h9_⟩
                                     replace BK402 : Aside0 (w18.heap[gb402]? = some (.cells #[.int .i64 a0_0, .int .i64 a0_1, .slice A0_2 l0_2.length c0_2] 24 (0, 0))) := ⟨h0_⟩
                                     replace BK403 : Aside0 (w18.heap[gb403]? = some (.cells #[.int .i64 a3_0, .int .i64 a3_1, .int .i64 a3_2, .int .i64 a3_3, .int .i64 a3_4, .int .i64 a3_5, .int .i64 a3_6, .int .i64 a3_7] 25 (0, 0))) := ⟨h1_⟩
                                     have BK425 : Aside0 (w18.heap[gb425]? = some (.cells #[.int .i64 0, .int .i64 0, .slice none 0 0] 24 (0, 0))) := ⟨h2_⟩
                                     have GW425 : Aside0 (w.heap.size ≤ gb425) := ⟨h3_⟩
                                     have GE425 : Aside0 (w.heap.size ≤ gb425) := ⟨h4_⟩
                                     have NB402_425 : Aside0 (gb402 ≠ gb425) := ⟨h5_⟩
                                     have NB425_402 : Aside0 (gb425 ≠ gb402) := ⟨h6_⟩
                                     have NB403_425 : Aside0 (gb403 ≠ gb425) := ⟨h7_⟩
                                     have NB425_403 : Aside0 (gb425 ≠ gb403) := ⟨h8_⟩
                                     replace HB : Aside0 (Below w.heap.size w w18) := ⟨h9_⟩
                                     clear h0_ h1_ h2_ h3_ h4_ h5_ h6_ h7_ h8_ h9_
                                     have hHeld : w18.cell? ⟨gb402, 0, none⟩ = some (.int .i64 a0_0) ∧ w18.cell? ⟨gb402, 1, none⟩ = some (.int .i64 a0_1) ∧ w18.cell? ⟨gb402, 2, none⟩ = some (.slice A0_2 l0_2.length c0_2) := hS_
                                     refine norm_ (a' := ?_) ?_ ?_
                                     rotate_left
                                     · simp only [putAll, Act.put, List.setIfInBounds_toArray, List.set_cons_zero, List.set_cons_succ]
                                       rfl
                                     refine two_ (i := 3) (j := 11) (Ni := some 30) (Nj := some 14) #[true, true, true, true, false, true, true, true, false, false, true, false, false, false] #[true, true, true, false, false, true, true, true, false, false, true, true, false, false] rfl rfl rfl rfl (two_of HT_.out (by kernel_rfl)) (by decide) (by decide) (fun K hK => ?_) (fun K hK => ?_)
                                     · skip
                                       refine goes_ Try.func23 (by kernel_rfl) rfl #[.int .i64 7, .int .i64 (wrap64 (1 + (Int.tmod (wrap64 ((Int.tmod a4 1000) + 1000)) 1000))), .agg #[.int .i64 a0_0, .int .i64 a0_1, .slice A0_2 l0_2.length c0_2]] (by rfl) rfl rfl (by (try simp only [List.map_toArray, List.map_cons, List.map_nil]); rfl) ?_
                                       with_reducible refine (formelaw14_one.calls 7 (wrap64 (1 + (Int.tmod (wrap64 ((Int.tmod a4 1000) + 1000)) 1000))) a0_0 a0_1 (fun k_ => k_ < w.heap.size) _ _ l0_2 t405 t406 t407 _ ?side1 A7.out).mono ?_
                                       (case side1 => exact Kd.V_mk HC0_2.out (Kd.F_below (Kd.C_F k24_heap HR0_2.out) HB.out))
                                       rintro e w19 ⟨v408, rfl, ho0, hb⟩
                                       refine ⟨_, rfl, ?_⟩
                                       have HO409 := Aside0.mk (Kd.N_lower (Kd.N_mono (ok' := fun k_ => k_ ≠ gb402 ∧ k_ ≠ gb403 ∧ k_ ≠ gb425) ho0 (fun k_ hk_ => ⟨Or.elim hk_ (fun hs_ => fun e_ => Nat.not_le.2 hs_ (by rw [e_]; exact GW402.out)) (fun hn_ => (Kd.freshB BK402.out k_ hn_)), Or.elim hk_ (fun hs_ => fun e_ => Nat.not_le.2 hs_ (by rw [e_]; exact GW403.out)) (fun hn_ => (Kd.freshB BK403.out k_ hn_)), Or.elim hk_ (fun hs_ => fun e_ => Nat.not_le.2 hs_ (by rw [e_]; exact GW425.out)) (fun hn_ => (Kd.freshB BK425.out k_ hn_))⟩)) (below_size HB.out))
                                       replace BK402 := Aside0.mk (blk_below BK402.out hb)
                                       replace BK403 := Aside0.mk (blk_below BK403.out hb)
                                       replace BK425 := Aside0.mk (blk_below BK425.out hb)
                                       replace HB := Aside0.mk (below_step HB.out hb)
                                       (try clear hb)
                                       (try clear ho0)
                                       refine hK.out _ _ ⟨(blk_cell BK402.out 0).trans rfl, (blk_cell BK402.out 1).trans rfl, (blk_cell BK402.out 2).trans rfl⟩ (fun hHeld => ?_)
                                       clear hK K
                                       refine norm_ (a' := ?_) ?_ ?_
                                       rotate_left
                                       · show Act.put _ (some 30) _ = _
                                         simp only [Act.put, List.setIfInBounds_toArray, List.set_cons_zero, List.set_cons_succ, i64_w, i32_w]
                                         rfl
                                       exact norm_ (by (simp only [putAll, Act.put, List.setIfInBounds_toArray, List.set_cons_zero, List.set_cons_succ]; first | done | rfl)) (hJ3_10 (_, gb425) _ ⟨hHeld, HO409.out, BK402.out, BK403.out, BK425.out, GW425.out, GE425.out, NB402_425.out, NB425_402.out, NB403_425.out, NB425_403.out, HB.out⟩)
                                     · skip
                                       refine box_step ?hg (N := 14) ?hd (cs := #[.int .i64 0, .int .i64 0, .slice none 0 0]) (t := 24) ?hr ?_; (case hd => rfl); (case hg => rfl); (case hr => (go_simp; done))
                                       intro gb426 hg w19 hbox hb
                                       have BK426 := Aside0.mk (hbox)
                                       have GW426 := Aside0.mk ((by rw [hg]; exact (below_size HB.out) : w.heap.size ≤ gb426))
                                       have GE426 := Aside0.mk ((by rw [hg]; exact (below_size HB.out) : w.heap.size ≤ gb426))
                                       replace HB := Aside0.mk (below_step HB.out hb)
                                       have NB402_426 := Aside0.mk ((by rw [hg]; exact Nat.ne_of_lt (blk_lt BK402.out) : gb402 ≠ gb426))
                                       have NB426_402 := Aside0.mk ((by rw [hg]; exact Nat.ne_of_gt (blk_lt BK402.out) : gb426 ≠ gb402))
                                       replace BK402 := Aside0.mk (blk_below BK402.out hb)
                                       have NB403_426 := Aside0.mk ((by rw [hg]; exact Nat.ne_of_lt (blk_lt BK403.out) : gb403 ≠ gb426))
                                       have NB426_403 := Aside0.mk ((by rw [hg]; exact Nat.ne_of_gt (blk_lt BK403.out) : gb426 ≠ gb403))
                                       replace BK403 := Aside0.mk (blk_below BK403.out hb)
                                       have NB425_426 := Aside0.mk ((by rw [hg]; exact Nat.ne_of_lt (blk_lt BK425.out) : gb425 ≠ gb426))
                                       have NB426_425 := Aside0.mk ((by rw [hg]; exact Nat.ne_of_gt (blk_lt BK425.out) : gb426 ≠ gb425))
                                       replace BK425 := Aside0.mk (blk_below BK425.out hb)
                                       clear hb hbox hg
                                       refine hK.out _ _ ⟨(blk_cell BK402.out 0).trans rfl, (blk_cell BK402.out 1).trans rfl, (blk_cell BK402.out 2).trans rfl⟩ (fun hHeld => ?_)
                                       clear hK K
                                       refine norm_ (a' := ?_) ?_ ?_
                                       rotate_left
                                       · show Act.put _ (some 14) _ = _
                                         simp only [Act.put, List.setIfInBounds_toArray, List.set_cons_zero, List.set_cons_succ, i64_w, i32_w]
                                         rfl
                                       exact norm_ (by (simp only [putAll, Act.put, List.setIfInBounds_toArray, List.set_cons_zero, List.set_cons_succ]; done)) (hJ10_11 (gb425, gb426) _ ⟨hHeld, BK402.out, BK403.out, BK425.out, BK426.out, GW425.out, GE425.out, NB402_425.out, NB425_402.out, NB403_425.out, NB425_403.out, NB426_425.out, NB425_426.out, GW426.out, GE426.out, NB402_426.out, NB426_402.out, NB403_426.out, NB426_403.out, HB.out⟩)
                                 · skip
                                   rintro v408 w18 ⟨hS_, h0_, h1_, h2_, h3_⟩
                                   have HO409 : Aside0 (Kd.N k24 24 w18 w.heap.size (fun k_ => k_ ≠ gb402 ∧ k_ ≠ gb403) v408 t407) := ⟨h0_⟩
                                   replace BK402 : Aside0 (w18.heap[gb402]? = some (.cells #[.int .i64 a0_0, .int .i64 a0_1, .slice A0_2 l0_2.length c0_2] 24 (0, 0))) := ⟨h1_⟩
                                   replace BK403 : Aside0 (w18.heap[gb403]? = some (.cells #[.int .i64 a3_0, .int .i64 a3_1, .int .i64 a3_2, .int .i64 a3_3, .int .i64 a3_4, .int .i64 a3_5, .int .i64 a3_6, .int .i64 a3_7] 25 (0, 0))) := ⟨h2_⟩
                                   replace HB : Aside0 (Below w.heap.size w w18) := ⟨h3_⟩
                                   clear h0_ h1_ h2_ h3_
                                   have hHeld : w18.cell? ⟨gb402, 0, none⟩ = some (.int .i64 a0_0) ∧ w18.cell? ⟨gb402, 1, none⟩ = some (.int .i64 a0_1) ∧ w18.cell? ⟨gb402, 2, none⟩ = some (.slice A0_2 l0_2.length c0_2) := hS_
                                   obtain ⟨Ao19, co19, eo19⟩ := Kd.N_slice HO409.out
                                   (subst eo19)
                                   refine norm_ (a' := ?_) ?_ ?_
                                   rotate_left
                                   · simp only [putAll, Act.put, List.setIfInBounds_toArray, List.set_cons_zero, List.set_cons_succ]
                                     rfl
                                   refine three_ (i := 4) (j := 10) (k := 11) (Ni := some 31) (Nj := some 13) (Nk := some 14) #[true, true, true, true, true, true, true, true, false, false, false, false, false, false] #[true, true, true, true, false, true, true, true, false, false, true, false, false, false] #[true, true, true, true, false, true, true, true, false, false, false, true, false, false] rfl rfl rfl rfl rfl rfl (three_of HT_.out (by kernel_rfl)) (by decide) (by decide) (by decide) (fun K hK => ?_) (fun K hK => ?_) (fun K hK => ?_)
                                   · skip
                                     refine goes_ Try.func23 (by kernel_rfl) rfl #[.int .i64 8, .int .i64 (wrap64 (1 + (Int.tmod (wrap64 ((Int.tmod a4 1000) + 1000)) 1000))), .agg #[.int .i64 t405, .int .i64 t406, .slice Ao19 t407.length co19]] (by rfl) rfl rfl (by (try simp only [List.map_toArray, List.map_cons, List.map_nil]); rfl) ?_
                                     with_reducible refine (formelaw14_one.calls 8 (wrap64 (1 + (Int.tmod (wrap64 ((Int.tmod a4 1000) + 1000)) 1000))) t405 t406 (fun k_ => (k_ ≠ gb402 ∧ k_ ≠ gb403)) _ _ t407 t410 t411 t412 _ ?side1 A8.out).mono ?_
                                     (case side1 => exact Kd.N_V (HO409.out))
                                     rintro e w20 ⟨v413, rfl, ho0, hb⟩
                                     refine ⟨_, rfl, ?_⟩
                                     replace HO409 := Aside0.mk (Kd.N_elder' HO409.out (Kd.N_base ho0) hb)
                                     have HO414 := Aside0.mk (Kd.N_lower (Kd.N_mono (ok' := fun k_ => k_ ≠ gb402 ∧ k_ ≠ gb403) ho0 (fun k_ hk_ => ⟨Or.elim hk_ (fun hs_ => hs_.1) (fun hn_ => (Kd.freshB BK402.out k_ hn_)), Or.elim hk_ (fun hs_ => hs_.2) (fun hn_ => (Kd.freshB BK403.out k_ hn_))⟩)) (below_size HB.out))
                                     replace BK402 := Aside0.mk (blk_below BK402.out hb)
                                     replace BK403 := Aside0.mk (blk_below BK403.out hb)
                                     replace HB := Aside0.mk (below_step HB.out hb)
                                     (try clear hb)
                                     (try clear ho0)
                                     refine hK.out _ _ ⟨(blk_cell BK402.out 0).trans rfl, (blk_cell BK402.out 1).trans rfl, (blk_cell BK402.out 2).trans rfl⟩ (fun hHeld => ?_)
                                     clear hK K
                                     refine norm_ (a' := ?_) ?_ ?_
                                     rotate_left
                                     · show Act.put _ (some 31) _ = _
                                       simp only [Act.put, List.setIfInBounds_toArray, List.set_cons_zero, List.set_cons_succ, i64_w, i32_w]
                                       rfl
                                     exact norm_ (by (simp only [putAll, Act.put, List.setIfInBounds_toArray, List.set_cons_zero, List.set_cons_succ]; done)) (hJ3_4 (.slice Ao19 t407.length co19, v413) _ ⟨hHeld, (by (with_reducible repeat (fail)); exact Kd.N_mono HO409.out (fun _ hk => ⟨hk.2, ⟨hk.1.1, hk.1.2⟩⟩)), HO414.out, BK402.out, BK403.out, HB.out⟩)
                                   · skip
                                     refine box_step ?hg (N := 13) ?hd (cs := #[.int .i64 0, .int .i64 0, .slice none 0 0]) (t := 24) ?hr ?_; (case hd => rfl); (case hg => rfl); (case hr => (go_simp; done))
                                     intro gb425 hg w19 hbox hb
                                     replace HO409 := Aside0.mk (Kd.N_below (Kd.N_elderB HO409.out gb425 (Nat.le_of_eq hg.symm)) hb)
                                     have BK425 := Aside0.mk (hbox)
                                     have GW425 := Aside0.mk ((by rw [hg]; exact (below_size HB.out) : w.heap.size ≤ gb425))
                                     have GE425 := Aside0.mk ((by rw [hg]; exact (below_size HB.out) : w.heap.size ≤ gb425))
                                     replace HB := Aside0.mk (below_step HB.out hb)
                                     have NB402_425 := Aside0.mk ((by rw [hg]; exact Nat.ne_of_lt (blk_lt BK402.out) : gb402 ≠ gb425))
                                     have NB425_402 := Aside0.mk ((by rw [hg]; exact Nat.ne_of_gt (blk_lt BK402.out) : gb425 ≠ gb402))
                                     replace BK402 := Aside0.mk (blk_below BK402.out hb)
                                     have NB403_425 := Aside0.mk ((by rw [hg]; exact Nat.ne_of_lt (blk_lt BK403.out) : gb403 ≠ gb425))
                                     have NB425_403 := Aside0.mk ((by rw [hg]; exact Nat.ne_of_gt (blk_lt BK403.out) : gb425 ≠ gb403))
                                     replace BK403 := Aside0.mk (blk_below BK403.out hb)
                                     clear hb hbox hg
                                     refine hK.out _ _ ⟨(blk_cell BK402.out 0).trans rfl, (blk_cell BK402.out 1).trans rfl, (blk_cell BK402.out 2).trans rfl⟩ (fun hHeld => ?_)
                                     clear hK K
                                     refine norm_ (a' := ?_) ?_ ?_
                                     rotate_left
                                     · show Act.put _ (some 13) _ = _
                                       simp only [Act.put, List.setIfInBounds_toArray, List.set_cons_zero, List.set_cons_succ, i64_w, i32_w]
                                       rfl
                                     exact norm_ (by (simp only [putAll, Act.put, List.setIfInBounds_toArray, List.set_cons_zero, List.set_cons_succ]; rfl)) (hJ3_10 (_, gb425) _ ⟨hHeld, (by (with_reducible repeat (fail)); exact Kd.N_mono HO409.out (fun _ hk => ⟨hk.1.1, ⟨hk.1.2, hk.2⟩⟩)), BK402.out, BK403.out, BK425.out, GW425.out, GE425.out, NB402_425.out, NB425_402.out, NB403_425.out, NB425_403.out, HB.out⟩)
                                   · skip
                                     refine box_step ?hg (N := 14) ?hd (cs := #[.int .i64 0, .int .i64 0, .slice none 0 0]) (t := 24) ?hr ?_; (case hd => rfl); (case hg => rfl); (case hr => (go_simp; done))
                                     intro gb426 hg w19 hbox hb
                                     replace HO409 := Aside0.mk (Kd.N_below (Kd.N_elderB HO409.out gb426 (Nat.le_of_eq hg.symm)) hb)
                                     have BK426 := Aside0.mk (hbox)
                                     have GW426 := Aside0.mk ((by rw [hg]; exact (below_size HB.out) : w.heap.size ≤ gb426))
                                     have GE426 := Aside0.mk ((by rw [hg]; exact (below_size HB.out) : w.heap.size ≤ gb426))
                                     replace HB := Aside0.mk (below_step HB.out hb)
                                     have NB402_426 := Aside0.mk ((by rw [hg]; exact Nat.ne_of_lt (blk_lt BK402.out) : gb402 ≠ gb426))
                                     have NB426_402 := Aside0.mk ((by rw [hg]; exact Nat.ne_of_gt (blk_lt BK402.out) : gb426 ≠ gb402))
                                     replace BK402 := Aside0.mk (blk_below BK402.out hb)
                                     have NB403_426 := Aside0.mk ((by rw [hg]; exact Nat.ne_of_lt (blk_lt BK403.out) : gb403 ≠ gb426))
                                     have NB426_403 := Aside0.mk ((by rw [hg]; exact Nat.ne_of_gt (blk_lt BK403.out) : gb426 ≠ gb403))
                                     replace BK403 := Aside0.mk (blk_below BK403.out hb)
                                     clear hb hbox hg
                                     refine hK.out _ _ ⟨(blk_cell BK402.out 0).trans rfl, (blk_cell BK402.out 1).trans rfl, (blk_cell BK402.out 2).trans rfl⟩ (fun hHeld => ?_)
                                     clear hK K
                                     refine norm_ (a' := ?_) ?_ ?_
                                     rotate_left
                                     · show Act.put _ (some 14) _ = _
                                       simp only [Act.put, List.setIfInBounds_toArray, List.set_cons_zero, List.set_cons_succ, i64_w, i32_w]
                                       rfl
                                     exact norm_ (by (simp only [putAll, Act.put, List.setIfInBounds_toArray, List.set_cons_zero, List.set_cons_succ]; rfl)) (hJ3_11 (_, gb426) _ ⟨hHeld, (by (with_reducible repeat (fail)); exact Kd.N_mono HO409.out (fun _ hk => ⟨hk.1.1, ⟨hk.1.2, hk.2⟩⟩)), BK402.out, BK403.out, BK426.out, GW426.out, GE426.out, NB402_426.out, NB426_402.out, NB403_426.out, NB426_403.out, HB.out⟩)
                               · skip
                                 rintro ⟨gb425, gb426⟩ w19 ⟨hS_, h0_, h1_, h2_, h3_, h4_, h5_, h6_, h7_, h8_, h9_, h10_, h11_, h12_, h13_, h14_, h15_, h16_, h17_, h18_⟩
                                 replace BK402 : Aside0 (w19.heap[gb402]? = some (.cells #[.int .i64 a0_0, .int .i64 a0_1, .slice A0_2 l0_2.length c0_2] 24 (0, 0))) := ⟨h0_⟩
                                 replace BK403 : Aside0 (w19.heap[gb403]? = some (.cells #[.int .i64 a3_0, .int .i64 a3_1, .int .i64 a3_2, .int .i64 a3_3, .int .i64 a3_4, .int .i64 a3_5, .int .i64 a3_6, .int .i64 a3_7] 25 (0, 0))) := ⟨h1_⟩
                                 have BK425 : Aside0 (w19.heap[gb425]? = some (.cells #[.int .i64 0, .int .i64 0, .slice none 0 0] 24 (0, 0))) := ⟨h2_⟩
                                 have BK426 : Aside0 (w19.heap[gb426]? = some (.cells #[.int .i64 0, .int .i64 0, .slice none 0 0] 24 (0, 0))) := ⟨h3_⟩
                                 have GW425 : Aside0 (w.heap.size ≤ gb425) := ⟨h4_⟩
                                 have GE425 : Aside0 (w.heap.size ≤ gb425) := ⟨h5_⟩
                                 have NB402_425 : Aside0 (gb402 ≠ gb425) := ⟨h6_⟩
                                 have NB425_402 : Aside0 (gb425 ≠ gb402) := ⟨h7_⟩
                                 have NB403_425 : Aside0 (gb403 ≠ gb425) := ⟨h8_⟩
                                 have NB425_403 : Aside0 (gb425 ≠ gb403) := ⟨h9_⟩
                                 have NB426_425 : Aside0 (gb426 ≠ gb425) := ⟨h10_⟩
                                 have NB425_426 : Aside0 (gb425 ≠ gb426) := ⟨h11_⟩
                                 have GW426 : Aside0 (w.heap.size ≤ gb426) := ⟨h12_⟩
                                 have GE426 : Aside0 (w.heap.size ≤ gb426) := ⟨h13_⟩
                                 have NB402_426 : Aside0 (gb402 ≠ gb426) := ⟨h14_⟩
                                 have NB426_402 : Aside0 (gb426 ≠ gb402) := ⟨h15_⟩
                                 have NB403_426 : Aside0 (gb403 ≠ gb426) := ⟨h16_⟩
                                 have NB426_403 : Aside0 (gb426 ≠ gb403) := ⟨h17_⟩
                                 replace HB : Aside0 (Below w.heap.size w w19) := ⟨h18_⟩
                                 clear h0_ h1_ h2_ h3_ h4_ h5_ h6_ h7_ h8_ h9_ h10_ h11_ h12_ h13_ h14_ h15_ h16_ h17_ h18_
                                 have hHeld : w19.cell? ⟨gb402, 0, none⟩ = some (.int .i64 a0_0) ∧ w19.cell? ⟨gb402, 1, none⟩ = some (.int .i64 a0_1) ∧ w19.cell? ⟨gb402, 2, none⟩ = some (.slice A0_2 l0_2.length c0_2) := hS_
                                 refine norm_ (a' := ?_) ?_ ?_
                                 rotate_left
                                 · simp only [putAll, Act.put, List.setIfInBounds_toArray, List.set_cons_zero, List.set_cons_succ]
                                   rfl
                                 refine one_ (i := 3) (N := some 30) #[true, true, true, true, false, true, true, true, false, false, true, true, false, false] rfl rfl (one_of HT_.out (by kernel_rfl)) (by decide) (fun K hK => ?_)
                                 refine goes_ Try.func23 (by kernel_rfl) rfl #[.int .i64 7, .int .i64 (wrap64 (1 + (Int.tmod (wrap64 ((Int.tmod a4 1000) + 1000)) 1000))), .agg #[.int .i64 a0_0, .int .i64 a0_1, .slice A0_2 l0_2.length c0_2]] (by rfl) rfl rfl (by (try simp only [List.map_toArray, List.map_cons, List.map_nil]); rfl) ?_
                                 with_reducible refine (formelaw14_one.calls 7 (wrap64 (1 + (Int.tmod (wrap64 ((Int.tmod a4 1000) + 1000)) 1000))) a0_0 a0_1 (fun k_ => k_ < w.heap.size) _ _ l0_2 t405 t406 t407 _ ?side1 A7.out).mono ?_
                                 (case side1 => exact Kd.V_mk HC0_2.out (Kd.F_below (Kd.C_F k24_heap HR0_2.out) HB.out))
                                 rintro e w20 ⟨v408, rfl, ho0, hb⟩
                                 refine ⟨_, rfl, ?_⟩
                                 have HO409 := Aside0.mk (Kd.N_lower (Kd.N_mono (ok' := fun k_ => k_ ≠ gb402 ∧ k_ ≠ gb403 ∧ k_ ≠ gb425 ∧ k_ ≠ gb426) ho0 (fun k_ hk_ => ⟨Or.elim hk_ (fun hs_ => fun e_ => Nat.not_le.2 hs_ (by rw [e_]; exact GW402.out)) (fun hn_ => (Kd.freshB BK402.out k_ hn_)), Or.elim hk_ (fun hs_ => fun e_ => Nat.not_le.2 hs_ (by rw [e_]; exact GW403.out)) (fun hn_ => (Kd.freshB BK403.out k_ hn_)), Or.elim hk_ (fun hs_ => fun e_ => Nat.not_le.2 hs_ (by rw [e_]; exact GW425.out)) (fun hn_ => (Kd.freshB BK425.out k_ hn_)), Or.elim hk_ (fun hs_ => fun e_ => Nat.not_le.2 hs_ (by rw [e_]; exact GW426.out)) (fun hn_ => (Kd.freshB BK426.out k_ hn_))⟩)) (below_size HB.out))
                                 replace BK402 := Aside0.mk (blk_below BK402.out hb)
                                 replace BK403 := Aside0.mk (blk_below BK403.out hb)
                                 replace BK425 := Aside0.mk (blk_below BK425.out hb)
                                 replace BK426 := Aside0.mk (blk_below BK426.out hb)
                                 replace HB := Aside0.mk (below_step HB.out hb)
                                 (try clear hb)
                                 (try clear ho0)
                                 refine hK.out _ _ ⟨(blk_cell BK402.out 0).trans rfl, (blk_cell BK402.out 1).trans rfl, (blk_cell BK402.out 2).trans rfl⟩ (fun hHeld => ?_)
                                 clear hK K
                                 refine norm_ (a' := ?_) ?_ ?_
                                 rotate_left
                                 · show Act.put _ (some 30) _ = _
                                   simp only [Act.put, List.setIfInBounds_toArray, List.set_cons_zero, List.set_cons_succ, i64_w, i32_w]
                                   rfl
                                 exact norm_ (by (simp only [putAll, Act.put, List.setIfInBounds_toArray, List.set_cons_zero, List.set_cons_succ]; first | done | rfl)) (hJ3_10_11 (_, gb425, gb426) _ ⟨hHeld, HO409.out, BK402.out, BK403.out, BK425.out, BK426.out, GW425.out, GE425.out, NB402_425.out, NB425_402.out, NB403_425.out, NB425_403.out, NB426_425.out, NB425_426.out, GW426.out, GE426.out, NB402_426.out, NB426_402.out, NB403_426.out, NB426_403.out, HB.out⟩)
                             · skip
                               rintro ⟨v408, gb426⟩ w19 ⟨hS_, h0_, h1_, h2_, h3_, h4_, h5_, h6_, h7_, h8_, h9_, h10_⟩
                               have HO409 : Aside0 (Kd.N k24 24 w19 w.heap.size (fun k_ => k_ ≠ gb402 ∧ k_ ≠ gb403 ∧ k_ ≠ gb426) v408 t407) := ⟨h0_⟩
                               replace BK402 : Aside0 (w19.heap[gb402]? = some (.cells #[.int .i64 a0_0, .int .i64 a0_1, .slice A0_2 l0_2.length c0_2] 24 (0, 0))) := ⟨h1_⟩
                               replace BK403 : Aside0 (w19.heap[gb403]? = some (.cells #[.int .i64 a3_0, .int .i64 a3_1, .int .i64 a3_2, .int .i64 a3_3, .int .i64 a3_4, .int .i64 a3_5, .int .i64 a3_6, .int .i64 a3_7] 25 (0, 0))) := ⟨h2_⟩
                               have BK426 : Aside0 (w19.heap[gb426]? = some (.cells #[.int .i64 0, .int .i64 0, .slice none 0 0] 24 (0, 0))) := ⟨h3_⟩
                               have GW426 : Aside0 (w.heap.size ≤ gb426) := ⟨h4_⟩
                               have GE426 : Aside0 (w.heap.size ≤ gb426) := ⟨h5_⟩
                               have NB402_426 : Aside0 (gb402 ≠ gb426) := ⟨h6_⟩
                               have NB426_402 : Aside0 (gb426 ≠ gb402) := ⟨h7_⟩
                               have NB403_426 : Aside0 (gb403 ≠ gb426) := ⟨h8_⟩
                               have NB426_403 : Aside0 (gb426 ≠ gb403) := ⟨h9_⟩
                               replace HB : Aside0 (Below w.heap.size w w19) := ⟨h10_⟩
                               clear h0_ h1_ h2_ h3_ h4_ h5_ h6_ h7_ h8_ h9_ h10_
                               have hHeld : w19.cell? ⟨gb402, 0, none⟩ = some (.int .i64 a0_0) ∧ w19.cell? ⟨gb402, 1, none⟩ = some (.int .i64 a0_1) ∧ w19.cell? ⟨gb402, 2, none⟩ = some (.slice A0_2 l0_2.length c0_2) := hS_
                               obtain ⟨Ao20, co20, eo20⟩ := Kd.N_slice HO409.out
                               (subst eo20)
                               refine norm_ (a' := ?_) ?_ ?_
                               rotate_left
                               · simp only [putAll, Act.put, List.setIfInBounds_toArray, List.set_cons_zero, List.set_cons_succ]
                                 rfl
                               refine two_ (i := 4) (j := 10) (Ni := some 31) (Nj := some 13) #[true, true, true, true, true, true, true, true, false, false, false, true, false, false] #[true, true, true, true, false, true, true, true, false, false, true, true, false, false] rfl rfl rfl rfl (two_of HT_.out (by kernel_rfl)) (by decide) (by decide) (fun K hK => ?_) (fun K hK => ?_)
                               · skip
                                 refine goes_ Try.func23 (by kernel_rfl) rfl #[.int .i64 8, .int .i64 (wrap64 (1 + (Int.tmod (wrap64 ((Int.tmod a4 1000) + 1000)) 1000))), .agg #[.int .i64 t405, .int .i64 t406, .slice Ao20 t407.length co20]] (by rfl) rfl rfl (by (try simp only [List.map_toArray, List.map_cons, List.map_nil]); rfl) ?_
                                 with_reducible refine (formelaw14_one.calls 8 (wrap64 (1 + (Int.tmod (wrap64 ((Int.tmod a4 1000) + 1000)) 1000))) t405 t406 (fun k_ => (k_ ≠ gb402 ∧ (k_ ≠ gb403 ∧ k_ ≠ gb426))) _ _ t407 t410 t411 t412 _ ?side1 A8.out).mono ?_
                                 (case side1 => exact Kd.N_V (HO409.out))
                                 rintro e w21 ⟨v413, rfl, ho0, hb⟩
                                 refine ⟨_, rfl, ?_⟩
                                 replace HO409 := Aside0.mk (Kd.N_elder' HO409.out (Kd.N_base ho0) hb)
                                 have HO414 := Aside0.mk (Kd.N_lower (Kd.N_mono (ok' := fun k_ => k_ ≠ gb402 ∧ k_ ≠ gb403 ∧ k_ ≠ gb426) ho0 (fun k_ hk_ => ⟨Or.elim hk_ (fun hs_ => hs_.1) (fun hn_ => (Kd.freshB BK402.out k_ hn_)), Or.elim hk_ (fun hs_ => hs_.2.1) (fun hn_ => (Kd.freshB BK403.out k_ hn_)), Or.elim hk_ (fun hs_ => hs_.2.2) (fun hn_ => (Kd.freshB BK426.out k_ hn_))⟩)) (below_size HB.out))
                                 replace BK402 := Aside0.mk (blk_below BK402.out hb)
                                 replace BK403 := Aside0.mk (blk_below BK403.out hb)
                                 replace BK426 := Aside0.mk (blk_below BK426.out hb)
                                 replace HB := Aside0.mk (below_step HB.out hb)
                                 (try clear hb)
                                 (try clear ho0)
                                 refine hK.out _ _ ⟨(blk_cell BK402.out 0).trans rfl, (blk_cell BK402.out 1).trans rfl, (blk_cell BK402.out 2).trans rfl⟩ (fun hHeld => ?_)
                                 clear hK K
                                 refine norm_ (a' := ?_) ?_ ?_
                                 rotate_left
                                 · show Act.put _ (some 31) _ = _
                                   simp only [Act.put, List.setIfInBounds_toArray, List.set_cons_zero, List.set_cons_succ, i64_w, i32_w]
                                   rfl
                                 exact norm_ (by (simp only [putAll, Act.put, List.setIfInBounds_toArray, List.set_cons_zero, List.set_cons_succ]; done)) (hJ3_4_11 (.slice Ao20 t407.length co20, v413, gb426) _ ⟨hHeld, (by (with_reducible repeat (fail)); exact Kd.N_mono HO409.out (fun _ hk => ⟨hk.2, ⟨hk.1.1, ⟨hk.1.2.1, hk.1.2.2⟩⟩⟩)), HO414.out, BK402.out, BK403.out, BK426.out, GW426.out, GE426.out, NB402_426.out, NB426_402.out, NB403_426.out, NB426_403.out, HB.out⟩)
                               · skip
                                 refine box_step ?hg (N := 13) ?hd (cs := #[.int .i64 0, .int .i64 0, .slice none 0 0]) (t := 24) ?hr ?_; (case hd => rfl); (case hg => rfl); (case hr => (go_simp; done))
                                 intro gb425 hg w20 hbox hb
                                 replace HO409 := Aside0.mk (Kd.N_below (Kd.N_elderB HO409.out gb425 (Nat.le_of_eq hg.symm)) hb)
                                 have BK425 := Aside0.mk (hbox)
                                 have GW425 := Aside0.mk ((by rw [hg]; exact (below_size HB.out) : w.heap.size ≤ gb425))
                                 have GE425 := Aside0.mk ((by rw [hg]; exact (below_size HB.out) : w.heap.size ≤ gb425))
                                 replace HB := Aside0.mk (below_step HB.out hb)
                                 have NB402_425 := Aside0.mk ((by rw [hg]; exact Nat.ne_of_lt (blk_lt BK402.out) : gb402 ≠ gb425))
                                 have NB425_402 := Aside0.mk ((by rw [hg]; exact Nat.ne_of_gt (blk_lt BK402.out) : gb425 ≠ gb402))
                                 replace BK402 := Aside0.mk (blk_below BK402.out hb)
                                 have NB403_425 := Aside0.mk ((by rw [hg]; exact Nat.ne_of_lt (blk_lt BK403.out) : gb403 ≠ gb425))
                                 have NB425_403 := Aside0.mk ((by rw [hg]; exact Nat.ne_of_gt (blk_lt BK403.out) : gb425 ≠ gb403))
                                 replace BK403 := Aside0.mk (blk_below BK403.out hb)
                                 have NB426_425 := Aside0.mk ((by rw [hg]; exact Nat.ne_of_lt (blk_lt BK426.out) : gb426 ≠ gb425))
                                 have NB425_426 := Aside0.mk ((by rw [hg]; exact Nat.ne_of_gt (blk_lt BK426.out) : gb425 ≠ gb426))
                                 replace BK426 := Aside0.mk (blk_below BK426.out hb)
                                 clear hb hbox hg
                                 refine hK.out _ _ ⟨(blk_cell BK402.out 0).trans rfl, (blk_cell BK402.out 1).trans rfl, (blk_cell BK402.out 2).trans rfl⟩ (fun hHeld => ?_)
                                 clear hK K
                                 refine norm_ (a' := ?_) ?_ ?_
                                 rotate_left
                                 · show Act.put _ (some 13) _ = _
                                   simp only [Act.put, List.setIfInBounds_toArray, List.set_cons_zero, List.set_cons_succ, i64_w, i32_w]
                                   rfl
                                 exact norm_ (by (simp only [putAll, Act.put, List.setIfInBounds_toArray, List.set_cons_zero, List.set_cons_succ]; rfl)) (hJ3_10_11 (_, gb425, gb426) _ ⟨hHeld, (by (with_reducible repeat (fail)); exact Kd.N_mono HO409.out (fun _ hk => ⟨hk.1.1, ⟨hk.1.2.1, ⟨hk.2, hk.1.2.2⟩⟩⟩)), BK402.out, BK403.out, BK425.out, BK426.out, GW425.out, GE425.out, NB402_425.out, NB425_402.out, NB403_425.out, NB425_403.out, NB426_425.out, NB425_426.out, GW426.out, GE426.out, NB402_426.out, NB426_402.out, NB403_426.out, NB426_403.out, HB.out⟩)
                           · skip
                             rintro ⟨v408, gb425⟩ w19 ⟨hS_, h0_, h1_, h2_, h3_, h4_, h5_, h6_, h7_, h8_, h9_, h10_⟩
                             have HO409 : Aside0 (Kd.N k24 24 w19 w.heap.size (fun k_ => k_ ≠ gb402 ∧ k_ ≠ gb403 ∧ k_ ≠ gb425) v408 t407) := ⟨h0_⟩
                             replace BK402 : Aside0 (w19.heap[gb402]? = some (.cells #[.int .i64 a0_0, .int .i64 a0_1, .slice A0_2 l0_2.length c0_2] 24 (0, 0))) := ⟨h1_⟩
                             replace BK403 : Aside0 (w19.heap[gb403]? = some (.cells #[.int .i64 a3_0, .int .i64 a3_1, .int .i64 a3_2, .int .i64 a3_3, .int .i64 a3_4, .int .i64 a3_5, .int .i64 a3_6, .int .i64 a3_7] 25 (0, 0))) := ⟨h2_⟩
                             have BK425 : Aside0 (w19.heap[gb425]? = some (.cells #[.int .i64 0, .int .i64 0, .slice none 0 0] 24 (0, 0))) := ⟨h3_⟩
                             have GW425 : Aside0 (w.heap.size ≤ gb425) := ⟨h4_⟩
                             have GE425 : Aside0 (w.heap.size ≤ gb425) := ⟨h5_⟩
                             have NB402_425 : Aside0 (gb402 ≠ gb425) := ⟨h6_⟩
                             have NB425_402 : Aside0 (gb425 ≠ gb402) := ⟨h7_⟩
                             have NB403_425 : Aside0 (gb403 ≠ gb425) := ⟨h8_⟩
                             have NB425_403 : Aside0 (gb425 ≠ gb403) := ⟨h9_⟩
                             replace HB : Aside0 (Below w.heap.size w w19) := ⟨h10_⟩
                             clear h0_ h1_ h2_ h3_ h4_ h5_ h6_ h7_ h8_ h9_ h10_
                             have hHeld : w19.cell? ⟨gb402, 0, none⟩ = some (.int .i64 a0_0) ∧ w19.cell? ⟨gb402, 1, none⟩ = some (.int .i64 a0_1) ∧ w19.cell? ⟨gb402, 2, none⟩ = some (.slice A0_2 l0_2.length c0_2) := hS_
                             obtain ⟨Ao20, co20, eo20⟩ := Kd.N_slice HO409.out
                             (subst eo20)
                             refine norm_ (a' := ?_) ?_ ?_
                             rotate_left
                             · simp only [putAll, Act.put, List.setIfInBounds_toArray, List.set_cons_zero, List.set_cons_succ]
                               rfl
                             refine two_ (i := 4) (j := 11) (Ni := some 31) (Nj := some 14) #[true, true, true, true, true, true, true, true, false, false, true, false, false, false] #[true, true, true, true, false, true, true, true, false, false, true, true, false, false] rfl rfl rfl rfl (two_of HT_.out (by kernel_rfl)) (by decide) (by decide) (fun K hK => ?_) (fun K hK => ?_)
                             · skip
                               refine goes_ Try.func23 (by kernel_rfl) rfl #[.int .i64 8, .int .i64 (wrap64 (1 + (Int.tmod (wrap64 ((Int.tmod a4 1000) + 1000)) 1000))), .agg #[.int .i64 t405, .int .i64 t406, .slice Ao20 t407.length co20]] (by rfl) rfl rfl (by (try simp only [List.map_toArray, List.map_cons, List.map_nil]); rfl) ?_
                               with_reducible refine (formelaw14_one.calls 8 (wrap64 (1 + (Int.tmod (wrap64 ((Int.tmod a4 1000) + 1000)) 1000))) t405 t406 (fun k_ => (k_ ≠ gb402 ∧ (k_ ≠ gb403 ∧ k_ ≠ gb425))) _ _ t407 t410 t411 t412 _ ?side1 A8.out).mono ?_
                               (case side1 => exact Kd.N_V (HO409.out))
                               rintro e w21 ⟨v413, rfl, ho0, hb⟩
                               refine ⟨_, rfl, ?_⟩
                               replace HO409 := Aside0.mk (Kd.N_elder' HO409.out (Kd.N_base ho0) hb)
                               have HO414 := Aside0.mk (Kd.N_lower (Kd.N_mono (ok' := fun k_ => k_ ≠ gb402 ∧ k_ ≠ gb403 ∧ k_ ≠ gb425) ho0 (fun k_ hk_ => ⟨Or.elim hk_ (fun hs_ => hs_.1) (fun hn_ => (Kd.freshB BK402.out k_ hn_)), Or.elim hk_ (fun hs_ => hs_.2.1) (fun hn_ => (Kd.freshB BK403.out k_ hn_)), Or.elim hk_ (fun hs_ => hs_.2.2) (fun hn_ => (Kd.freshB BK425.out k_ hn_))⟩)) (below_size HB.out))
                               replace BK402 := Aside0.mk (blk_below BK402.out hb)
                               replace BK403 := Aside0.mk (blk_below BK403.out hb)
                               replace BK425 := Aside0.mk (blk_below BK425.out hb)
                               replace HB := Aside0.mk (below_step HB.out hb)
                               (try clear hb)
                               (try clear ho0)
                               refine hK.out _ _ ⟨(blk_cell BK402.out 0).trans rfl, (blk_cell BK402.out 1).trans rfl, (blk_cell BK402.out 2).trans rfl⟩ (fun hHeld => ?_)
                               clear hK K
                               refine norm_ (a' := ?_) ?_ ?_
                               rotate_left
                               · show Act.put _ (some 31) _ = _
                                 simp only [Act.put, List.setIfInBounds_toArray, List.set_cons_zero, List.set_cons_succ, i64_w, i32_w]
                                 rfl
                               exact norm_ (by (simp only [putAll, Act.put, List.setIfInBounds_toArray, List.set_cons_zero, List.set_cons_succ]; done)) (hJ3_4_10 (.slice Ao20 t407.length co20, v413, gb425) _ ⟨hHeld, (by (with_reducible repeat (fail)); exact Kd.N_mono HO409.out (fun _ hk => ⟨hk.2, ⟨hk.1.1, ⟨hk.1.2.1, hk.1.2.2⟩⟩⟩)), HO414.out, BK402.out, BK403.out, BK425.out, GW425.out, GE425.out, NB402_425.out, NB425_402.out, NB403_425.out, NB425_403.out, HB.out⟩)
                             · skip
                               refine box_step ?hg (N := 14) ?hd (cs := #[.int .i64 0, .int .i64 0, .slice none 0 0]) (t := 24) ?hr ?_; (case hd => rfl); (case hg => rfl); (case hr => (go_simp; done))
                               intro gb426 hg w20 hbox hb
                               replace HO409 := Aside0.mk (Kd.N_below (Kd.N_elderB HO409.out gb426 (Nat.le_of_eq hg.symm)) hb)
                               have BK426 := Aside0.mk (hbox)
                               have GW426 := Aside0.mk ((by rw [hg]; exact (below_size HB.out) : w.heap.size ≤ gb426))
                               have GE426 := Aside0.mk ((by rw [hg]; exact (below_size HB.out) : w.heap.size ≤ gb426))
                               replace HB := Aside0.mk (below_step HB.out hb)
                               have NB402_426 := Aside0.mk ((by rw [hg]; exact Nat.ne_of_lt (blk_lt BK402.out) : gb402 ≠ gb426))
                               have NB426_402 := Aside0.mk ((by rw [hg]; exact Nat.ne_of_gt (blk_lt BK402.out) : gb426 ≠ gb402))
                               replace BK402 := Aside0.mk (blk_below BK402.out hb)
                               have NB403_426 := Aside0.mk ((by rw [hg]; exact Nat.ne_of_lt (blk_lt BK403.out) : gb403 ≠ gb426))
                               have NB426_403 := Aside0.mk ((by rw [hg]; exact Nat.ne_of_gt (blk_lt BK403.out) : gb426 ≠ gb403))
                               replace BK403 := Aside0.mk (blk_below BK403.out hb)
                               have NB425_426 := Aside0.mk ((by rw [hg]; exact Nat.ne_of_lt (blk_lt BK425.out) : gb425 ≠ gb426))
                               have NB426_425 := Aside0.mk ((by rw [hg]; exact Nat.ne_of_gt (blk_lt BK425.out) : gb426 ≠ gb425))
                               replace BK425 := Aside0.mk (blk_below BK425.out hb)
                               clear hb hbox hg
                               refine hK.out _ _ ⟨(blk_cell BK402.out 0).trans rfl, (blk_cell BK402.out 1).trans rfl, (blk_cell BK402.out 2).trans rfl⟩ (fun hHeld => ?_)
                               clear hK K
                               refine norm_ (a' := ?_) ?_ ?_
                               rotate_left
                               · show Act.put _ (some 14) _ = _
                                 simp only [Act.put, List.setIfInBounds_toArray, List.set_cons_zero, List.set_cons_succ, i64_w, i32_w]
                                 rfl
                               exact norm_ (by (simp only [putAll, Act.put, List.setIfInBounds_toArray, List.set_cons_zero, List.set_cons_succ]; rfl)) (hJ3_10_11 (_, gb425, gb426) _ ⟨hHeld, (by (with_reducible repeat (fail)); exact Kd.N_mono HO409.out (fun _ hk => ⟨hk.1.1, ⟨hk.1.2.1, ⟨hk.1.2.2, hk.2⟩⟩⟩)), BK402.out, BK403.out, BK425.out, BK426.out, GW425.out, GE425.out, NB402_425.out, NB425_402.out, NB403_425.out, NB425_403.out, NB426_425.out, NB425_426.out, GW426.out, GE426.out, NB402_426.out, NB426_402.out, NB403_426.out, NB426_403.out, HB.out⟩)
                         · skip
                           rintro ⟨v408, v413⟩ w20 ⟨hS_, h0_, h1_, h2_, h3_, h4_⟩
                           have HO409 : Aside0 (Kd.N k24 24 w20 w.heap.size (fun k_ => some k_ ≠ (v413 : Value).ownBlock ∧ k_ ≠ gb402 ∧ k_ ≠ gb403) v408 t407) := ⟨h0_⟩
                           have HO414 : Aside0 (Kd.N k24 24 w20 w.heap.size (fun k_ => k_ ≠ gb402 ∧ k_ ≠ gb403) v413 t412) := ⟨h1_⟩
                           replace BK402 : Aside0 (w20.heap[gb402]? = some (.cells #[.int .i64 a0_0, .int .i64 a0_1, .slice A0_2 l0_2.length c0_2] 24 (0, 0))) := ⟨h2_⟩
                           replace BK403 : Aside0 (w20.heap[gb403]? = some (.cells #[.int .i64 a3_0, .int .i64 a3_1, .int .i64 a3_2, .int .i64 a3_3, .int .i64 a3_4, .int .i64 a3_5, .int .i64 a3_6, .int .i64 a3_7] 25 (0, 0))) := ⟨h3_⟩
                           replace HB : Aside0 (Below w.heap.size w w20) := ⟨h4_⟩
                           clear h0_ h1_ h2_ h3_ h4_
                           have hHeld : w20.cell? ⟨gb402, 0, none⟩ = some (.int .i64 a0_0) ∧ w20.cell? ⟨gb402, 1, none⟩ = some (.int .i64 a0_1) ∧ w20.cell? ⟨gb402, 2, none⟩ = some (.slice A0_2 l0_2.length c0_2) := hS_
                           refine norm_ (a' := ?_) ?_ ?_
                           rotate_left
                           · simp only [putAll, Act.put, List.setIfInBounds_toArray, List.set_cons_zero, List.set_cons_succ]
                             rfl
                           refine three_ (i := 8) (j := 10) (k := 11) (Ni := some 35) (Nj := some 13) (Nk := some 14) #[true, true, true, true, true, true, true, true, true, false, false, false, false, false] #[true, true, true, true, true, true, true, true, false, false, true, false, false, false] #[true, true, true, true, true, true, true, true, false, false, false, true, false, false] rfl rfl rfl rfl rfl rfl (three_of HT_.out (by kernel_rfl)) (by decide) (by decide) (by decide) (fun K hK => ?_) (fun K hK => ?_) (fun K hK => ?_)
                           · skip
                             refine goes_ Try.func23 (by kernel_rfl) rfl #[.int .i64 8, .int .i64 (wrap64 (1 + (Int.tmod (wrap64 ((Int.tmod a4 1000) + 1000)) 1000))), .agg #[.int .i64 a0_0, .int .i64 a0_1, .slice A0_2 l0_2.length c0_2]] (by rfl) rfl rfl (by (try simp only [List.map_toArray, List.map_cons, List.map_nil]); rfl) ?_
                             with_reducible refine (formelaw14_one.calls 8 (wrap64 (1 + (Int.tmod (wrap64 ((Int.tmod a4 1000) + 1000)) 1000))) a0_0 a0_1 (fun k_ => k_ < w.heap.size) _ _ l0_2 t415 t416 t417 _ ?side1 A9.out).mono ?_
                             (case side1 => exact Kd.V_mk HC0_2.out (Kd.F_below (Kd.C_F k24_heap HR0_2.out) HB.out))
                             rintro e w21 ⟨v418, rfl, ho0, hb⟩
                             refine ⟨_, rfl, ?_⟩
                             have HO419 := Aside0.mk (Kd.N_lower (Kd.N_mono (ok' := fun k_ => some k_ ≠ (v408 : Value).ownBlock ∧ some k_ ≠ (v413 : Value).ownBlock ∧ k_ ≠ gb402 ∧ k_ ≠ gb403) ho0 (fun k_ hk_ => ⟨Or.elim hk_ (fun hs_ => fun e_ => Nat.not_le.2 hs_ (Kd.N_base HO409.out k_ e_.symm)) (fun hn_ => (Kd.fresh' (Kd.N_lt HO409.out) k_ hn_)), Or.elim hk_ (fun hs_ => fun e_ => Nat.not_le.2 hs_ (Kd.N_base HO414.out k_ e_.symm)) (fun hn_ => (Kd.fresh' (Kd.N_lt HO414.out) k_ hn_)), Or.elim hk_ (fun hs_ => fun e_ => Nat.not_le.2 hs_ (by rw [e_]; exact GW402.out)) (fun hn_ => (Kd.freshB BK402.out k_ hn_)), Or.elim hk_ (fun hs_ => fun e_ => Nat.not_le.2 hs_ (by rw [e_]; exact GW403.out)) (fun hn_ => (Kd.freshB BK403.out k_ hn_))⟩)) (below_size HB.out))
                             replace HO409 := Aside0.mk (Kd.N_elder' HO409.out (Kd.N_base ho0) hb)
                             replace HO414 := Aside0.mk (Kd.N_elder' HO414.out (Kd.N_base ho0) hb)
                             replace BK402 := Aside0.mk (blk_below BK402.out hb)
                             replace BK403 := Aside0.mk (blk_below BK403.out hb)
                             replace HB := Aside0.mk (below_step HB.out hb)
                             (try clear hb)
                             (try clear ho0)
                             refine hK.out _ _ ⟨(blk_cell BK402.out 0).trans rfl, (blk_cell BK402.out 1).trans rfl, (blk_cell BK402.out 2).trans rfl⟩ (fun hHeld => ?_)
                             clear hK K
                             refine norm_ (a' := ?_) ?_ ?_
                             rotate_left
                             · show Act.put _ (some 35) _ = _
                               simp only [Act.put, List.setIfInBounds_toArray, List.set_cons_zero, List.set_cons_succ, i64_w, i32_w]
                               rfl
                             exact norm_ (by (simp only [putAll, Act.put, List.setIfInBounds_toArray, List.set_cons_zero, List.set_cons_succ]; first | done | rfl)) (hJ3_4_8 (_, _, _) _ ⟨hHeld, (by (with_reducible repeat (fail)); exact Kd.N_mono HO409.out (fun _ hk => ⟨hk.1.1, ⟨hk.2, ⟨hk.1.2.1, hk.1.2.2⟩⟩⟩)), (by (with_reducible repeat (fail)); exact Kd.N_mono HO414.out (fun _ hk => ⟨hk.2, ⟨hk.1.1, hk.1.2⟩⟩)), HO419.out, BK402.out, BK403.out, HB.out⟩)
                           · skip
                             refine box_step ?hg (N := 13) ?hd (cs := #[.int .i64 0, .int .i64 0, .slice none 0 0]) (t := 24) ?hr ?_; (case hd => rfl); (case hg => rfl); (case hr => (go_simp; done))
                             intro gb425 hg w21 hbox hb
                             replace HO409 := Aside0.mk (Kd.N_below (Kd.N_elderB HO409.out gb425 (Nat.le_of_eq hg.symm)) hb)
                             replace HO414 := Aside0.mk (Kd.N_below (Kd.N_elderB HO414.out gb425 (Nat.le_of_eq hg.symm)) hb)
                             have BK425 := Aside0.mk (hbox)
                             have GW425 := Aside0.mk ((by rw [hg]; exact (below_size HB.out) : w.heap.size ≤ gb425))
                             have GE425 := Aside0.mk ((by rw [hg]; exact (below_size HB.out) : w.heap.size ≤ gb425))
                             replace HB := Aside0.mk (below_step HB.out hb)
                             have NB402_425 := Aside0.mk ((by rw [hg]; exact Nat.ne_of_lt (blk_lt BK402.out) : gb402 ≠ gb425))
                             have NB425_402 := Aside0.mk ((by rw [hg]; exact Nat.ne_of_gt (blk_lt BK402.out) : gb425 ≠ gb402))
                             replace BK402 := Aside0.mk (blk_below BK402.out hb)
                             have NB403_425 := Aside0.mk ((by rw [hg]; exact Nat.ne_of_lt (blk_lt BK403.out) : gb403 ≠ gb425))
                             have NB425_403 := Aside0.mk ((by rw [hg]; exact Nat.ne_of_gt (blk_lt BK403.out) : gb425 ≠ gb403))
                             replace BK403 := Aside0.mk (blk_below BK403.out hb)
                             clear hb hbox hg
                             refine hK.out _ _ ⟨(blk_cell BK402.out 0).trans rfl, (blk_cell BK402.out 1).trans rfl, (blk_cell BK402.out 2).trans rfl⟩ (fun hHeld => ?_)
                             clear hK K
                             refine norm_ (a' := ?_) ?_ ?_
                             rotate_left
                             · show Act.put _ (some 13) _ = _
                               simp only [Act.put, List.setIfInBounds_toArray, List.set_cons_zero, List.set_cons_succ, i64_w, i32_w]
                               rfl
                             exact norm_ (by (simp only [putAll, Act.put, List.setIfInBounds_toArray, List.set_cons_zero, List.set_cons_succ]; rfl)) (hJ3_4_10 (_, _, gb425) _ ⟨hHeld, (by (with_reducible repeat (fail)); exact Kd.N_mono HO409.out (fun _ hk => ⟨hk.1.1, ⟨hk.1.2.1, ⟨hk.1.2.2, hk.2⟩⟩⟩)), (by (with_reducible repeat (fail)); exact Kd.N_mono HO414.out (fun _ hk => ⟨hk.1.1, ⟨hk.1.2, hk.2⟩⟩)), BK402.out, BK403.out, BK425.out, GW425.out, GE425.out, NB402_425.out, NB425_402.out, NB403_425.out, NB425_403.out, HB.out⟩)
                           · skip
                             refine box_step ?hg (N := 14) ?hd (cs := #[.int .i64 0, .int .i64 0, .slice none 0 0]) (t := 24) ?hr ?_; (case hd => rfl); (case hg => rfl); (case hr => (go_simp; done))
                             intro gb426 hg w21 hbox hb
                             replace HO409 := Aside0.mk (Kd.N_below (Kd.N_elderB HO409.out gb426 (Nat.le_of_eq hg.symm)) hb)
                             replace HO414 := Aside0.mk (Kd.N_below (Kd.N_elderB HO414.out gb426 (Nat.le_of_eq hg.symm)) hb)
                             have BK426 := Aside0.mk (hbox)
                             have GW426 := Aside0.mk ((by rw [hg]; exact (below_size HB.out) : w.heap.size ≤ gb426))
                             have GE426 := Aside0.mk ((by rw [hg]; exact (below_size HB.out) : w.heap.size ≤ gb426))
                             replace HB := Aside0.mk (below_step HB.out hb)
                             have NB402_426 := Aside0.mk ((by rw [hg]; exact Nat.ne_of_lt (blk_lt BK402.out) : gb402 ≠ gb426))
                             have NB426_402 := Aside0.mk ((by rw [hg]; exact Nat.ne_of_gt (blk_lt BK402.out) : gb426 ≠ gb402))
                             replace BK402 := Aside0.mk (blk_below BK402.out hb)
                             have NB403_426 := Aside0.mk ((by rw [hg]; exact Nat.ne_of_lt (blk_lt BK403.out) : gb403 ≠ gb426))
                             have NB426_403 := Aside0.mk ((by rw [hg]; exact Nat.ne_of_gt (blk_lt BK403.out) : gb426 ≠ gb403))
                             replace BK403 := Aside0.mk (blk_below BK403.out hb)
                             clear hb hbox hg
                             refine hK.out _ _ ⟨(blk_cell BK402.out 0).trans rfl, (blk_cell BK402.out 1).trans rfl, (blk_cell BK402.out 2).trans rfl⟩ (fun hHeld => ?_)
                             clear hK K
                             refine norm_ (a' := ?_) ?_ ?_
                             rotate_left
                             · show Act.put _ (some 14) _ = _
                               simp only [Act.put, List.setIfInBounds_toArray, List.set_cons_zero, List.set_cons_succ, i64_w, i32_w]
                               rfl
                             exact norm_ (by (simp only [putAll, Act.put, List.setIfInBounds_toArray, List.set_cons_zero, List.set_cons_succ]; rfl)) (hJ3_4_11 (_, _, gb426) _ ⟨hHeld, (by (with_reducible repeat (fail)); exact Kd.N_mono HO409.out (fun _ hk => ⟨hk.1.1, ⟨hk.1.2.1, ⟨hk.1.2.2, hk.2⟩⟩⟩)), (by (with_reducible repeat (fail)); exact Kd.N_mono HO414.out (fun _ hk => ⟨hk.1.1, ⟨hk.1.2, hk.2⟩⟩)), BK402.out, BK403.out, BK426.out, GW426.out, GE426.out, NB402_426.out, NB426_402.out, NB403_426.out, NB426_403.out, HB.out⟩)
                       · skip
                         rintro ⟨v408, gb425, gb426⟩ w20 ⟨hS_, h0_, h1_, h2_, h3_, h4_, h5_, h6_, h7_, h8_, h9_, h10_, h11_, h12_, h13_, h14_, h15_, h16_, h17_, h18_, h19_⟩
                         have HO409 : Aside0 (Kd.N k24 24 w20 w.heap.size (fun k_ => k_ ≠ gb402 ∧ k_ ≠ gb403 ∧ k_ ≠ gb425 ∧ k_ ≠ gb426) v408 t407) := ⟨h0_⟩
                         replace BK402 : Aside0 (w20.heap[gb402]? = some (.cells #[.int .i64 a0_0, .int .i64 a0_1, .slice A0_2 l0_2.length c0_2] 24 (0, 0))) := ⟨h1_⟩
                         replace BK403 : Aside0 (w20.heap[gb403]? = some (.cells #[.int .i64 a3_0, .int .i64 a3_1, .int .i64 a3_2, .int .i64 a3_3, .int .i64 a3_4, .int .i64 a3_5, .int .i64 a3_6, .int .i64 a3_7] 25 (0, 0))) := ⟨h2_⟩
                         have BK425 : Aside0 (w20.heap[gb425]? = some (.cells #[.int .i64 0, .int .i64 0, .slice none 0 0] 24 (0, 0))) := ⟨h3_⟩
                         have BK426 : Aside0 (w20.heap[gb426]? = some (.cells #[.int .i64 0, .int .i64 0, .slice none 0 0] 24 (0, 0))) := ⟨h4_⟩
                         have GW425 : Aside0 (w.heap.size ≤ gb425) := ⟨h5_⟩
                         have GE425 : Aside0 (w.heap.size ≤ gb425) := ⟨h6_⟩
                         have NB402_425 : Aside0 (gb402 ≠ gb425) := ⟨h7_⟩
                         have NB425_402 : Aside0 (gb425 ≠ gb402) := ⟨h8_⟩
                         have NB403_425 : Aside0 (gb403 ≠ gb425) := ⟨h9_⟩
                         have NB425_403 : Aside0 (gb425 ≠ gb403) := ⟨h10_⟩
                         have NB426_425 : Aside0 (gb426 ≠ gb425) := ⟨h11_⟩
                         have NB425_426 : Aside0 (gb425 ≠ gb426) := ⟨h12_⟩
                         have GW426 : Aside0 (w.heap.size ≤ gb426) := ⟨h13_⟩
                         have GE426 : Aside0 (w.heap.size ≤ gb426) := ⟨h14_⟩
                         have NB402_426 : Aside0 (gb402 ≠ gb426) := ⟨h15_⟩
                         have NB426_402 : Aside0 (gb426 ≠ gb402) := ⟨h16_⟩
                         have NB403_426 : Aside0 (gb403 ≠ gb426) := ⟨h17_⟩
                         have NB426_403 : Aside0 (gb426 ≠ gb403) := ⟨h18_⟩
                         replace HB : Aside0 (Below w.heap.size w w20) := ⟨h19_⟩
                         clear h0_ h1_ h2_ h3_ h4_ h5_ h6_ h7_ h8_ h9_ h10_ h11_ h12_ h13_ h14_ h15_ h16_ h17_ h18_ h19_
                         have hHeld : w20.cell? ⟨gb402, 0, none⟩ = some (.int .i64 a0_0) ∧ w20.cell? ⟨gb402, 1, none⟩ = some (.int .i64 a0_1) ∧ w20.cell? ⟨gb402, 2, none⟩ = some (.slice A0_2 l0_2.length c0_2) := hS_
                         obtain ⟨Ao21, co21, eo21⟩ := Kd.N_slice HO409.out
                         (subst eo21)
                         refine norm_ (a' := ?_) ?_ ?_
                         rotate_left
                         · simp only [putAll, Act.put, List.setIfInBounds_toArray, List.set_cons_zero, List.set_cons_succ]
                           rfl
                         refine one_ (i := 4) (N := some 31) #[true, true, true, true, true, true, true, true, false, false, true, true, false, false] rfl rfl (one_of HT_.out (by kernel_rfl)) (by decide) (fun K hK => ?_)
                         refine goes_ Try.func23 (by kernel_rfl) rfl #[.int .i64 8, .int .i64 (wrap64 (1 + (Int.tmod (wrap64 ((Int.tmod a4 1000) + 1000)) 1000))), .agg #[.int .i64 t405, .int .i64 t406, .slice Ao21 t407.length co21]] (by rfl) rfl rfl (by (try simp only [List.map_toArray, List.map_cons, List.map_nil]); rfl) ?_
                         with_reducible refine (formelaw14_one.calls 8 (wrap64 (1 + (Int.tmod (wrap64 ((Int.tmod a4 1000) + 1000)) 1000))) t405 t406 (fun k_ => (k_ ≠ gb402 ∧ (k_ ≠ gb403 ∧ (k_ ≠ gb425 ∧ k_ ≠ gb426)))) _ _ t407 t410 t411 t412 _ ?side1 A8.out).mono ?_
                         (case side1 => exact Kd.N_V (HO409.out))
                         rintro e w22 ⟨v413, rfl, ho0, hb⟩
                         refine ⟨_, rfl, ?_⟩
                         replace HO409 := Aside0.mk (Kd.N_elder' HO409.out (Kd.N_base ho0) hb)
                         have HO414 := Aside0.mk (Kd.N_lower (Kd.N_mono (ok' := fun k_ => k_ ≠ gb402 ∧ k_ ≠ gb403 ∧ k_ ≠ gb425 ∧ k_ ≠ gb426) ho0 (fun k_ hk_ => ⟨Or.elim hk_ (fun hs_ => hs_.1) (fun hn_ => (Kd.freshB BK402.out k_ hn_)), Or.elim hk_ (fun hs_ => hs_.2.1) (fun hn_ => (Kd.freshB BK403.out k_ hn_)), Or.elim hk_ (fun hs_ => hs_.2.2.1) (fun hn_ => (Kd.freshB BK425.out k_ hn_)), Or.elim hk_ (fun hs_ => hs_.2.2.2) (fun hn_ => (Kd.freshB BK426.out k_ hn_))⟩)) (below_size HB.out))
                         replace BK402 := Aside0.mk (blk_below BK402.out hb)
                         replace BK403 := Aside0.mk (blk_below BK403.out hb)
                         replace BK425 := Aside0.mk (blk_below BK425.out hb)
                         replace BK426 := Aside0.mk (blk_below BK426.out hb)
                         replace HB := Aside0.mk (below_step HB.out hb)
                         (try clear hb)
                         (try clear ho0)
                         refine hK.out _ _ ⟨(blk_cell BK402.out 0).trans rfl, (blk_cell BK402.out 1).trans rfl, (blk_cell BK402.out 2).trans rfl⟩ (fun hHeld => ?_)
                         clear hK K
                         refine norm_ (a' := ?_) ?_ ?_
                         rotate_left
                         · show Act.put _ (some 31) _ = _
                           simp only [Act.put, List.setIfInBounds_toArray, List.set_cons_zero, List.set_cons_succ, i64_w, i32_w]
                           rfl
                         exact norm_ (by (simp only [putAll, Act.put, List.setIfInBounds_toArray, List.set_cons_zero, List.set_cons_succ]; done)) (hJ3_4_10_11 (.slice Ao21 t407.length co21, v413, gb425, gb426) _ ⟨hHeld, (by (with_reducible repeat (fail)); exact Kd.N_mono HO409.out (fun _ hk => ⟨hk.2, ⟨hk.1.1, ⟨hk.1.2.1, ⟨hk.1.2.2.1, hk.1.2.2.2⟩⟩⟩⟩)), HO414.out, BK402.out, BK403.out, BK425.out, BK426.out, GW425.out, GE425.out, NB402_425.out, NB425_402.out, NB403_425.out, NB425_403.out, NB426_425.out, NB425_426.out, GW426.out, GE426.out, NB402_426.out, NB426_402.out, NB403_426.out, NB426_403.out, HB.out⟩)
                     · skip
                       rintro ⟨v408, v413, gb426⟩ w21 ⟨hS_, h0_, h1_, h2_, h3_, h4_, h5_, h6_, h7_, h8_, h9_, h10_, h11_⟩
                       have HO409 : Aside0 (Kd.N k24 24 w21 w.heap.size (fun k_ => some k_ ≠ (v413 : Value).ownBlock ∧ k_ ≠ gb402 ∧ k_ ≠ gb403 ∧ k_ ≠ gb426) v408 t407) := ⟨h0_⟩
                       have HO414 : Aside0 (Kd.N k24 24 w21 w.heap.size (fun k_ => k_ ≠ gb402 ∧ k_ ≠ gb403 ∧ k_ ≠ gb426) v413 t412) := ⟨h1_⟩
                       replace BK402 : Aside0 (w21.heap[gb402]? = some (.cells #[.int .i64 a0_0, .int .i64 a0_1, .slice A0_2 l0_2.length c0_2] 24 (0, 0))) := ⟨h2_⟩
                       replace BK403 : Aside0 (w21.heap[gb403]? = some (.cells #[.int .i64 a3_0, .int .i64 a3_1, .int .i64 a3_2, .int .i64 a3_3, .int .i64 a3_4, .int .i64 a3_5, .int .i64 a3_6, .int .i64 a3_7] 25 (0, 0))) := ⟨h3_⟩
                       have BK426 : Aside0 (w21.heap[gb426]? = some (.cells #[.int .i64 0, .int .i64 0, .slice none 0 0] 24 (0, 0))) := ⟨h4_⟩
                       have GW426 : Aside0 (w.heap.size ≤ gb426) := ⟨h5_⟩
                       have GE426 : Aside0 (w.heap.size ≤ gb426) := ⟨h6_⟩
                       have NB402_426 : Aside0 (gb402 ≠ gb426) := ⟨h7_⟩
                       have NB426_402 : Aside0 (gb426 ≠ gb402) := ⟨h8_⟩
                       have NB403_426 : Aside0 (gb403 ≠ gb426) := ⟨h9_⟩
                       have NB426_403 : Aside0 (gb426 ≠ gb403) := ⟨h10_⟩
                       replace HB : Aside0 (Below w.heap.size w w21) := ⟨h11_⟩
                       clear h0_ h1_ h2_ h3_ h4_ h5_ h6_ h7_ h8_ h9_ h10_ h11_
                       have hHeld : w21.cell? ⟨gb402, 0, none⟩ = some (.int .i64 a0_0) ∧ w21.cell? ⟨gb402, 1, none⟩ = some (.int .i64 a0_1) ∧ w21.cell? ⟨gb402, 2, none⟩ = some (.slice A0_2 l0_2.length c0_2) := hS_
                       refine norm_ (a' := ?_) ?_ ?_
                       rotate_left
                       · simp only [putAll, Act.put, List.setIfInBounds_toArray, List.set_cons_zero, List.set_cons_succ]
                         rfl
                       refine two_ (i := 8) (j := 10) (Ni := some 35) (Nj := some 13) #[true, true, true, true, true, true, true, true, true, false, false, true, false, false] #[true, true, true, true, true, true, true, true, false, false, true, true, false, false] rfl rfl rfl rfl (two_of HT_.out (by kernel_rfl)) (by decide) (by decide) (fun K hK => ?_) (fun K hK => ?_)
                       · skip
                         refine goes_ Try.func23 (by kernel_rfl) rfl #[.int .i64 8, .int .i64 (wrap64 (1 + (Int.tmod (wrap64 ((Int.tmod a4 1000) + 1000)) 1000))), .agg #[.int .i64 a0_0, .int .i64 a0_1, .slice A0_2 l0_2.length c0_2]] (by rfl) rfl rfl (by (try simp only [List.map_toArray, List.map_cons, List.map_nil]); rfl) ?_
                         with_reducible refine (formelaw14_one.calls 8 (wrap64 (1 + (Int.tmod (wrap64 ((Int.tmod a4 1000) + 1000)) 1000))) a0_0 a0_1 (fun k_ => k_ < w.heap.size) _ _ l0_2 t415 t416 t417 _ ?side1 A9.out).mono ?_
                         (case side1 => exact Kd.V_mk HC0_2.out (Kd.F_below (Kd.C_F k24_heap HR0_2.out) HB.out))
                         rintro e w22 ⟨v418, rfl, ho0, hb⟩
                         refine ⟨_, rfl, ?_⟩
                         have HO419 := Aside0.mk (Kd.N_lower (Kd.N_mono (ok' := fun k_ => some k_ ≠ (v408 : Value).ownBlock ∧ some k_ ≠ (v413 : Value).ownBlock ∧ k_ ≠ gb402 ∧ k_ ≠ gb403 ∧ k_ ≠ gb426) ho0 (fun k_ hk_ => ⟨Or.elim hk_ (fun hs_ => fun e_ => Nat.not_le.2 hs_ (Kd.N_base HO409.out k_ e_.symm)) (fun hn_ => (Kd.fresh' (Kd.N_lt HO409.out) k_ hn_)), Or.elim hk_ (fun hs_ => fun e_ => Nat.not_le.2 hs_ (Kd.N_base HO414.out k_ e_.symm)) (fun hn_ => (Kd.fresh' (Kd.N_lt HO414.out) k_ hn_)), Or.elim hk_ (fun hs_ => fun e_ => Nat.not_le.2 hs_ (by rw [e_]; exact GW402.out)) (fun hn_ => (Kd.freshB BK402.out k_ hn_)), Or.elim hk_ (fun hs_ => fun e_ => Nat.not_le.2 hs_ (by rw [e_]; exact GW403.out)) (fun hn_ => (Kd.freshB BK403.out k_ hn_)), Or.elim hk_ (fun hs_ => fun e_ => Nat.not_le.2 hs_ (by rw [e_]; exact GW426.out)) (fun hn_ => (Kd.freshB BK426.out k_ hn_))⟩)) (below_size HB.out))
                         replace HO409 := Aside0.mk (Kd.N_elder' HO409.out (Kd.N_base ho0) hb)
                         replace HO414 := Aside0.mk (Kd.N_elder' HO414.out (Kd.N_base ho0) hb)
                         replace BK402 := Aside0.mk (blk_below BK402.out hb)
                         replace BK403 := Aside0.mk (blk_below BK403.out hb)
                         replace BK426 := Aside0.mk (blk_below BK426.out hb)
                         replace HB := Aside0.mk (below_step HB.out hb)
                         (try clear hb)
                         (try clear ho0)
                         refine hK.out _ _ ⟨(blk_cell BK402.out 0).trans rfl, (blk_cell BK402.out 1).trans rfl, (blk_cell BK402.out 2).trans rfl⟩ (fun hHeld => ?_)
                         clear hK K
                         refine norm_ (a' := ?_) ?_ ?_
                         rotate_left
                         · show Act.put _ (some 35) _ = _
                           simp only [Act.put, List.setIfInBounds_toArray, List.set_cons_zero, List.set_cons_succ, i64_w, i32_w]
                           rfl
                         exact norm_ (by (simp only [putAll, Act.put, List.setIfInBounds_toArray, List.set_cons_zero, List.set_cons_succ]; first | done | rfl)) (hJ3_4_8_11 (_, _, _, gb426) _ ⟨hHeld, (by (with_reducible repeat (fail)); exact Kd.N_mono HO409.out (fun _ hk => ⟨hk.1.1, ⟨hk.2, ⟨hk.1.2.1, ⟨hk.1.2.2.1, hk.1.2.2.2⟩⟩⟩⟩)), (by (with_reducible repeat (fail)); exact Kd.N_mono HO414.out (fun _ hk => ⟨hk.2, ⟨hk.1.1, ⟨hk.1.2.1, hk.1.2.2⟩⟩⟩)), HO419.out, BK402.out, BK403.out, BK426.out, GW426.out, GE426.out, NB402_426.out, NB426_402.out, NB403_426.out, NB426_403.out, HB.out⟩)
                       · skip
                         refine box_step ?hg (N := 13) ?hd (cs := #[.int .i64 0, .int .i64 0, .slice none 0 0]) (t := 24) ?hr ?_; (case hd => rfl); (case hg => rfl); (case hr => (go_simp; done))
                         intro gb425 hg w22 hbox hb
                         replace HO409 := Aside0.mk (Kd.N_below (Kd.N_elderB HO409.out gb425 (Nat.le_of_eq hg.symm)) hb)
                         replace HO414 := Aside0.mk (Kd.N_below (Kd.N_elderB HO414.out gb425 (Nat.le_of_eq hg.symm)) hb)
                         have BK425 := Aside0.mk (hbox)
                         have GW425 := Aside0.mk ((by rw [hg]; exact (below_size HB.out) : w.heap.size ≤ gb425))
                         have GE425 := Aside0.mk ((by rw [hg]; exact (below_size HB.out) : w.heap.size ≤ gb425))
                         replace HB := Aside0.mk (below_step HB.out hb)
                         have NB402_425 := Aside0.mk ((by rw [hg]; exact Nat.ne_of_lt (blk_lt BK402.out) : gb402 ≠ gb425))
                         have NB425_402 := Aside0.mk ((by rw [hg]; exact Nat.ne_of_gt (blk_lt BK402.out) : gb425 ≠ gb402))
                         replace BK402 := Aside0.mk (blk_below BK402.out hb)
                         have NB403_425 := Aside0.mk ((by rw [hg]; exact Nat.ne_of_lt (blk_lt BK403.out) : gb403 ≠ gb425))
                         have NB425_403 := Aside0.mk ((by rw [hg]; exact Nat.ne_of_gt (blk_lt BK403.out) : gb425 ≠ gb403))
                         replace BK403 := Aside0.mk (blk_below BK403.out hb)
                         have NB426_425 := Aside0.mk ((by rw [hg]; exact Nat.ne_of_lt (blk_lt BK426.out) : gb426 ≠ gb425))
                         have NB425_426 := Aside0.mk ((by rw [hg]; exact Nat.ne_of_gt (blk_lt BK426.out) : gb425 ≠ gb426))
                         replace BK426 := Aside0.mk (blk_below BK426.out hb)
                         clear hb hbox hg
                         refine hK.out _ _ ⟨(blk_cell BK402.out 0).trans rfl, (blk_cell BK402.out 1).trans rfl, (blk_cell BK402.out 2).trans rfl⟩ (fun hHeld => ?_)
                         clear hK K
                         refine norm_ (a' := ?_) ?_ ?_
                         rotate_left
                         · show Act.put _ (some 13) _ = _
                           simp only [Act.put, List.setIfInBounds_toArray, List.set_cons_zero, List.set_cons_succ, i64_w, i32_w]
                           rfl
                         exact norm_ (by (simp only [putAll, Act.put, List.setIfInBounds_toArray, List.set_cons_zero, List.set_cons_succ]; rfl)) (hJ3_4_10_11 (_, _, gb425, gb426) _ ⟨hHeld, (by (with_reducible repeat (fail)); exact Kd.N_mono HO409.out (fun _ hk => ⟨hk.1.1, ⟨hk.1.2.1, ⟨hk.1.2.2.1, ⟨hk.2, hk.1.2.2.2⟩⟩⟩⟩)), (by (with_reducible repeat (fail)); exact Kd.N_mono HO414.out (fun _ hk => ⟨hk.1.1, ⟨hk.1.2.1, ⟨hk.2, hk.1.2.2⟩⟩⟩)), BK402.out, BK403.out, BK425.out, BK426.out, GW425.out, GE425.out, NB402_425.out, NB425_402.out, NB403_425.out, NB425_403.out, NB426_425.out, NB425_426.out, GW426.out, GE426.out, NB402_426.out, NB426_402.out, NB403_426.out, NB426_403.out, HB.out⟩)
                   · skip
                     rintro ⟨v408, v413, gb425⟩ w21 ⟨hS_, h0_, h1_, h2_, h3_, h4_, h5_, h6_, h7_, h8_, h9_, h10_, h11_⟩
                     have HO409 : Aside0 (Kd.N k24 24 w21 w.heap.size (fun k_ => some k_ ≠ (v413 : Value).ownBlock ∧ k_ ≠ gb402 ∧ k_ ≠ gb403 ∧ k_ ≠ gb425) v408 t407) := ⟨h0_⟩
                     have HO414 : Aside0 (Kd.N k24 24 w21 w.heap.size (fun k_ => k_ ≠ gb402 ∧ k_ ≠ gb403 ∧ k_ ≠ gb425) v413 t412) := ⟨h1_⟩
                     replace BK402 : Aside0 (w21.heap[gb402]? = some (.cells #[.int .i64 a0_0, .int .i64 a0_1, .slice A0_2 l0_2.length c0_2] 24 (0, 0))) := ⟨h2_⟩
                     replace BK403 : Aside0 (w21.heap[gb403]? = some (.cells #[.int .i64 a3_0, .int .i64 a3_1, .int .i64 a3_2, .int .i64 a3_3, .int .i64 a3_4, .int .i64 a3_5, .int .i64 a3_6, .int .i64 a3_7] 25 (0, 0))) := ⟨h3_⟩
                     have BK425 : Aside0 (w21.heap[gb425]? = some (.cells #[.int .i64 0, .int .i64 0, .slice none 0 0] 24 (0, 0))) := ⟨h4_⟩
                     have GW425 : Aside0 (w.heap.size ≤ gb425) := ⟨h5_⟩
                     have GE425 : Aside0 (w.heap.size ≤ gb425) := ⟨h6_⟩
                     have NB402_425 : Aside0 (gb402 ≠ gb425) := ⟨h7_⟩
                     have NB425_402 : Aside0 (gb425 ≠ gb402) := ⟨h8_⟩
                     have NB403_425 : Aside0 (gb403 ≠ gb425) := ⟨h9_⟩
                     have NB425_403 : Aside0 (gb425 ≠ gb403) := ⟨h10_⟩
                     replace HB : Aside0 (Below w.heap.size w w21) := ⟨h11_⟩
                     clear h0_ h1_ h2_ h3_ h4_ h5_ h6_ h7_ h8_ h9_ h10_ h11_
                     have hHeld : w21.cell? ⟨gb402, 0, none⟩ = some (.int .i64 a0_0) ∧ w21.cell? ⟨gb402, 1, none⟩ = some (.int .i64 a0_1) ∧ w21.cell? ⟨gb402, 2, none⟩ = some (.slice A0_2 l0_2.length c0_2) := hS_
                     refine norm_ (a' := ?_) ?_ ?_
                     rotate_left
                     · simp only [putAll, Act.put, List.setIfInBounds_toArray, List.set_cons_zero, List.set_cons_succ]
                       rfl
                     refine two_ (i := 8) (j := 11) (Ni := some 35) (Nj := some 14) #[true, true, true, true, true, true, true, true, true, false, true, false, false, false] #[true, true, true, true, true, true, true, true, false, false, true, true, false, false] rfl rfl rfl rfl (two_of HT_.out (by kernel_rfl)) (by decide) (by decide) (fun K hK => ?_) (fun K hK => ?_)
                     · skip
                       refine goes_ Try.func23 (by kernel_rfl) rfl #[.int .i64 8, .int .i64 (wrap64 (1 + (Int.tmod (wrap64 ((Int.tmod a4 1000) + 1000)) 1000))), .agg #[.int .i64 a0_0, .int .i64 a0_1, .slice A0_2 l0_2.length c0_2]] (by rfl) rfl rfl (by (try simp only [List.map_toArray, List.map_cons, List.map_nil]); rfl) ?_
                       with_reducible refine (formelaw14_one.calls 8 (wrap64 (1 + (Int.tmod (wrap64 ((Int.tmod a4 1000) + 1000)) 1000))) a0_0 a0_1 (fun k_ => k_ < w.heap.size) _ _ l0_2 t415 t416 t417 _ ?side1 A9.out).mono ?_
                       (case side1 => exact Kd.V_mk HC0_2.out (Kd.F_below (Kd.C_F k24_heap HR0_2.out) HB.out))
                       rintro e w22 ⟨v418, rfl, ho0, hb⟩
                       refine ⟨_, rfl, ?_⟩
                       have HO419 := Aside0.mk (Kd.N_lower (Kd.N_mono (ok' := fun k_ => some k_ ≠ (v408 : Value).ownBlock ∧ some k_ ≠ (v413 : Value).ownBlock ∧ k_ ≠ gb402 ∧ k_ ≠ gb403 ∧ k_ ≠ gb425) ho0 (fun k_ hk_ => ⟨Or.elim hk_ (fun hs_ => fun e_ => Nat.not_le.2 hs_ (Kd.N_base HO409.out k_ e_.symm)) (fun hn_ => (Kd.fresh' (Kd.N_lt HO409.out) k_ hn_)), Or.elim hk_ (fun hs_ => fun e_ => Nat.not_le.2 hs_ (Kd.N_base HO414.out k_ e_.symm)) (fun hn_ => (Kd.fresh' (Kd.N_lt HO414.out) k_ hn_)), Or.elim hk_ (fun hs_ => fun e_ => Nat.not_le.2 hs_ (by rw [e_]; exact GW402.out)) (fun hn_ => (Kd.freshB BK402.out k_ hn_)), Or.elim hk_ (fun hs_ => fun e_ => Nat.not_le.2 hs_ (by rw [e_]; exact GW403.out)) (fun hn_ => (Kd.freshB BK403.out k_ hn_)), Or.elim hk_ (fun hs_ => fun e_ => Nat.not_le.2 hs_ (by rw [e_]; exact GW425.out)) (fun hn_ => (Kd.freshB BK425.out k_ hn_))⟩)) (below_size HB.out))
                       replace HO409 := Aside0.mk (Kd.N_elder' HO409.out (Kd.N_base ho0) hb)
                       replace HO414 := Aside0.mk (Kd.N_elder' HO414.out (Kd.N_base ho0) hb)
                       replace BK402 := Aside0.mk (blk_below BK402.out hb)
                       replace BK403 := Aside0.mk (blk_below BK403.out hb)
                       replace BK425 := Aside0.mk (blk_below BK425.out hb)
                       replace HB := Aside0.mk (below_step HB.out hb)
                       (try clear hb)
                       (try clear ho0)
                       refine hK.out _ _ ⟨(blk_cell BK402.out 0).trans rfl, (blk_cell BK402.out 1).trans rfl, (blk_cell BK402.out 2).trans rfl⟩ (fun hHeld => ?_)
                       clear hK K
                       refine norm_ (a' := ?_) ?_ ?_
                       rotate_left
                       · show Act.put _ (some 35) _ = _
                         simp only [Act.put, List.setIfInBounds_toArray, List.set_cons_zero, List.set_cons_succ, i64_w, i32_w]
                         rfl
                       exact norm_ (by (simp only [putAll, Act.put, List.setIfInBounds_toArray, List.set_cons_zero, List.set_cons_succ]; first | done | rfl)) (hJ3_4_8_10 (_, _, _, gb425) _ ⟨hHeld, (by (with_reducible repeat (fail)); exact Kd.N_mono HO409.out (fun _ hk => ⟨hk.1.1, ⟨hk.2, ⟨hk.1.2.1, ⟨hk.1.2.2.1, hk.1.2.2.2⟩⟩⟩⟩)), (by (with_reducible repeat (fail)); exact Kd.N_mono HO414.out (fun _ hk => ⟨hk.2, ⟨hk.1.1, ⟨hk.1.2.1, hk.1.2.2⟩⟩⟩)), HO419.out, BK402.out, BK403.out, BK425.out, GW425.out, GE425.out, NB402_425.out, NB425_402.out, NB403_425.out, NB425_403.out, HB.out⟩)
                     · skip
                       refine box_step ?hg (N := 14) ?hd (cs := #[.int .i64 0, .int .i64 0, .slice none 0 0]) (t := 24) ?hr ?_; (case hd => rfl); (case hg => rfl); (case hr => (go_simp; done))
                       intro gb426 hg w22 hbox hb
                       replace HO409 := Aside0.mk (Kd.N_below (Kd.N_elderB HO409.out gb426 (Nat.le_of_eq hg.symm)) hb)
                       replace HO414 := Aside0.mk (Kd.N_below (Kd.N_elderB HO414.out gb426 (Nat.le_of_eq hg.symm)) hb)
                       have BK426 := Aside0.mk (hbox)
                       have GW426 := Aside0.mk ((by rw [hg]; exact (below_size HB.out) : w.heap.size ≤ gb426))
                       have GE426 := Aside0.mk ((by rw [hg]; exact (below_size HB.out) : w.heap.size ≤ gb426))
                       replace HB := Aside0.mk (below_step HB.out hb)
                       have NB402_426 := Aside0.mk ((by rw [hg]; exact Nat.ne_of_lt (blk_lt BK402.out) : gb402 ≠ gb426))
                       have NB426_402 := Aside0.mk ((by rw [hg]; exact Nat.ne_of_gt (blk_lt BK402.out) : gb426 ≠ gb402))
                       replace BK402 := Aside0.mk (blk_below BK402.out hb)
                       have NB403_426 := Aside0.mk ((by rw [hg]; exact Nat.ne_of_lt (blk_lt BK403.out) : gb403 ≠ gb426))
                       have NB426_403 := Aside0.mk ((by rw [hg]; exact Nat.ne_of_gt (blk_lt BK403.out) : gb426 ≠ gb403))
                       replace BK403 := Aside0.mk (blk_below BK403.out hb)
                       have NB425_426 := Aside0.mk ((by rw [hg]; exact Nat.ne_of_lt (blk_lt BK425.out) : gb425 ≠ gb426))
                       have NB426_425 := Aside0.mk ((by rw [hg]; exact Nat.ne_of_gt (blk_lt BK425.out) : gb426 ≠ gb425))
                       replace BK425 := Aside0.mk (blk_below BK425.out hb)
                       clear hb hbox hg
                       refine hK.out _ _ ⟨(blk_cell BK402.out 0).trans rfl, (blk_cell BK402.out 1).trans rfl, (blk_cell BK402.out 2).trans rfl⟩ (fun hHeld => ?_)
                       clear hK K
                       refine norm_ (a' := ?_) ?_ ?_
                       rotate_left
                       · show Act.put _ (some 14) _ = _
                         simp only [Act.put, List.setIfInBounds_toArray, List.set_cons_zero, List.set_cons_succ, i64_w, i32_w]
                         rfl
                       exact norm_ (by (simp only [putAll, Act.put, List.setIfInBounds_toArray, List.set_cons_zero, List.set_cons_succ]; rfl)) (hJ3_4_10_11 (_, _, gb425, gb426) _ ⟨hHeld, (by (with_reducible repeat (fail)); exact Kd.N_mono HO409.out (fun _ hk => ⟨hk.1.1, ⟨hk.1.2.1, ⟨hk.1.2.2.1, ⟨hk.1.2.2.2, hk.2⟩⟩⟩⟩)), (by (with_reducible repeat (fail)); exact Kd.N_mono HO414.out (fun _ hk => ⟨hk.1.1, ⟨hk.1.2.1, ⟨hk.1.2.2, hk.2⟩⟩⟩)), BK402.out, BK403.out, BK425.out, BK426.out, GW425.out, GE425.out, NB402_425.out, NB425_402.out, NB403_425.out, NB425_403.out, NB426_425.out, NB425_426.out, GW426.out, GE426.out, NB402_426.out, NB426_402.out, NB403_426.out, NB426_403.out, HB.out⟩)
                 · skip
                   rintro ⟨v408, v413, v418⟩ w21 ⟨hS_, h0_, h1_, h2_, h3_, h4_, h5_⟩
                   have HO409 : Aside0 (Kd.N k24 24 w21 w.heap.size (fun k_ => some k_ ≠ (v413 : Value).ownBlock ∧ some k_ ≠ (v418 : Value).ownBlock ∧ k_ ≠ gb402 ∧ k_ ≠ gb403) v408 t407) := ⟨h0_⟩
                   have HO414 : Aside0 (Kd.N k24 24 w21 w.heap.size (fun k_ => some k_ ≠ (v418 : Value).ownBlock ∧ k_ ≠ gb402 ∧ k_ ≠ gb403) v413 t412) := ⟨h1_⟩
                   have HO419 : Aside0 (Kd.N k24 24 w21 w.heap.size (fun k_ => some k_ ≠ (v408 : Value).ownBlock ∧ some k_ ≠ (v413 : Value).ownBlock ∧ k_ ≠ gb402 ∧ k_ ≠ gb403) v418 t417) := ⟨h2_⟩
                   replace BK402 : Aside0 (w21.heap[gb402]? = some (.cells #[.int .i64 a0_0, .int .i64 a0_1, .slice A0_2 l0_2.length c0_2] 24 (0, 0))) := ⟨h3_⟩
                   replace BK403 : Aside0 (w21.heap[gb403]? = some (.cells #[.int .i64 a3_0, .int .i64 a3_1, .int .i64 a3_2, .int .i64 a3_3, .int .i64 a3_4, .int .i64 a3_5, .int .i64 a3_6, .int .i64 a3_7] 25 (0, 0))) := ⟨h4_⟩
                   replace HB : Aside0 (Below w.heap.size w w21) := ⟨h5_⟩
                   clear h0_ h1_ h2_ h3_ h4_ h5_
                   have hHeld : w21.cell? ⟨gb402, 0, none⟩ = some (.int .i64 a0_0) ∧ w21.cell? ⟨gb402, 1, none⟩ = some (.int .i64 a0_1) ∧ w21.cell? ⟨gb402, 2, none⟩ = some (.slice A0_2 l0_2.length c0_2) := hS_
                   obtain ⟨Ao22, co22, eo22⟩ := Kd.N_slice HO419.out
                   (subst eo22)
                   refine norm_ (a' := ?_) ?_ ?_
                   rotate_left
                   · simp only [putAll, Act.put, List.setIfInBounds_toArray, List.set_cons_zero, List.set_cons_succ]
                     rfl
                   refine three_ (i := 9) (j := 10) (k := 11) (Ni := some 36) (Nj := some 13) (Nk := some 14) #[true, true, true, true, true, true, true, true, true, true, false, false, false, false] #[true, true, true, true, true, true, true, true, true, false, true, false, false, false] #[true, true, true, true, true, true, true, true, true, false, false, true, false, false] rfl rfl rfl rfl rfl rfl (three_of HT_.out (by kernel_rfl)) (by decide) (by decide) (by decide) (fun K hK => ?_) (fun K hK => ?_) (fun K hK => ?_)
                   · skip
                     refine goes_ Try.func23 (by kernel_rfl) rfl #[.int .i64 7, .int .i64 (wrap64 (1 + (Int.tmod (wrap64 ((Int.tmod a4 1000) + 1000)) 1000))), .agg #[.int .i64 t415, .int .i64 t416, .slice Ao22 t417.length co22]] (by rfl) rfl rfl (by (try simp only [List.map_toArray, List.map_cons, List.map_nil]); rfl) ?_
                     with_reducible refine (formelaw14_one.calls 7 (wrap64 (1 + (Int.tmod (wrap64 ((Int.tmod a4 1000) + 1000)) 1000))) t415 t416 (fun k_ => (some k_ ≠ (v408 : Value).ownBlock ∧ (some k_ ≠ (v413 : Value).ownBlock ∧ (k_ ≠ gb402 ∧ k_ ≠ gb403)))) _ _ t417 t420 t421 t422 _ ?side1 A10.out).mono ?_
                     (case side1 => exact Kd.N_V (HO419.out))
                     rintro e w23 ⟨v423, rfl, ho0, hb⟩
                     refine ⟨_, rfl, ?_⟩
                     replace HO419 := Aside0.mk (Kd.N_elder' HO419.out (Kd.N_base ho0) hb)
                     have HO424 := Aside0.mk (Kd.N_lower (Kd.N_mono (ok' := fun k_ => some k_ ≠ (v408 : Value).ownBlock ∧ some k_ ≠ (v413 : Value).ownBlock ∧ k_ ≠ gb402 ∧ k_ ≠ gb403) ho0 (fun k_ hk_ => ⟨Or.elim hk_ (fun hs_ => hs_.1) (fun hn_ => (Kd.fresh' (Kd.N_lt HO409.out) k_ hn_)), Or.elim hk_ (fun hs_ => hs_.2.1) (fun hn_ => (Kd.fresh' (Kd.N_lt HO414.out) k_ hn_)), Or.elim hk_ (fun hs_ => hs_.2.2.1) (fun hn_ => (Kd.freshB BK402.out k_ hn_)), Or.elim hk_ (fun hs_ => hs_.2.2.2) (fun hn_ => (Kd.freshB BK403.out k_ hn_))⟩)) (below_size HB.out))
                     replace HO409 := Aside0.mk (Kd.N_elder' HO409.out (Kd.N_base ho0) hb)
                     replace HO414 := Aside0.mk (Kd.N_elder' HO414.out (Kd.N_base ho0) hb)
                     replace BK402 := Aside0.mk (blk_below BK402.out hb)
                     replace BK403 := Aside0.mk (blk_below BK403.out hb)
                     replace HB := Aside0.mk (below_step HB.out hb)
                     (try clear hb)
                     (try clear ho0)
                     refine hK.out _ _ ⟨(blk_cell BK402.out 0).trans rfl, (blk_cell BK402.out 1).trans rfl, (blk_cell BK402.out 2).trans rfl⟩ (fun hHeld => ?_)
                     clear hK K
                     refine norm_ (a' := ?_) ?_ ?_
                     rotate_left
                     · show Act.put _ (some 36) _ = _
                       simp only [Act.put, List.setIfInBounds_toArray, List.set_cons_zero, List.set_cons_succ, i64_w, i32_w]
                       rfl
                     exact norm_ (by (simp only [putAll, Act.put, List.setIfInBounds_toArray, List.set_cons_zero, List.set_cons_succ]; done)) (hJ3_4_8_9 (v408, v413, .slice Ao22 t417.length co22, v423) _ ⟨hHeld, (by (with_reducible repeat (fail)); exact Kd.N_mono HO409.out (fun _ hk => ⟨hk.1.1, ⟨hk.1.2.1, ⟨hk.2, ⟨hk.1.2.2.1, hk.1.2.2.2⟩⟩⟩⟩)), (by (with_reducible repeat (fail)); exact Kd.N_mono HO414.out (fun _ hk => ⟨hk.1.1, ⟨hk.2, ⟨hk.1.2.1, hk.1.2.2⟩⟩⟩)), (by (with_reducible repeat (fail)); exact Kd.N_mono HO419.out (fun _ hk => ⟨hk.1.1, ⟨hk.1.2.1, ⟨hk.2, ⟨hk.1.2.2.1, hk.1.2.2.2⟩⟩⟩⟩)), HO424.out, BK402.out, BK403.out, HB.out⟩)
                   · skip
                     refine box_step ?hg (N := 13) ?hd (cs := #[.int .i64 0, .int .i64 0, .slice none 0 0]) (t := 24) ?hr ?_; (case hd => rfl); (case hg => rfl); (case hr => (go_simp; done))
                     intro gb425 hg w22 hbox hb
                     replace HO409 := Aside0.mk (Kd.N_below (Kd.N_elderB HO409.out gb425 (Nat.le_of_eq hg.symm)) hb)
                     replace HO414 := Aside0.mk (Kd.N_below (Kd.N_elderB HO414.out gb425 (Nat.le_of_eq hg.symm)) hb)
                     replace HO419 := Aside0.mk (Kd.N_below (Kd.N_elderB HO419.out gb425 (Nat.le_of_eq hg.symm)) hb)
                     have BK425 := Aside0.mk (hbox)
                     have GW425 := Aside0.mk ((by rw [hg]; exact (below_size HB.out) : w.heap.size ≤ gb425))
                     have GE425 := Aside0.mk ((by rw [hg]; exact (below_size HB.out) : w.heap.size ≤ gb425))
                     replace HB := Aside0.mk (below_step HB.out hb)
                     have NB402_425 := Aside0.mk ((by rw [hg]; exact Nat.ne_of_lt (blk_lt BK402.out) : gb402 ≠ gb425))
                     have NB425_402 := Aside0.mk ((by rw [hg]; exact Nat.ne_of_gt (blk_lt BK402.out) : gb425 ≠ gb402))
                     replace BK402 := Aside0.mk (blk_below BK402.out hb)
                     have NB403_425 := Aside0.mk ((by rw [hg]; exact Nat.ne_of_lt (blk_lt BK403.out) : gb403 ≠ gb425))
                     have NB425_403 := Aside0.mk ((by rw [hg]; exact Nat.ne_of_gt (blk_lt BK403.out) : gb425 ≠ gb403))
                     replace BK403 := Aside0.mk (blk_below BK403.out hb)
                     clear hb hbox hg
                     refine hK.out _ _ ⟨(blk_cell BK402.out 0).trans rfl, (blk_cell BK402.out 1).trans rfl, (blk_cell BK402.out 2).trans rfl⟩ (fun hHeld => ?_)
                     clear hK K
                     refine norm_ (a' := ?_) ?_ ?_
                     rotate_left
                     · show Act.put _ (some 13) _ = _
                       simp only [Act.put, List.setIfInBounds_toArray, List.set_cons_zero, List.set_cons_succ, i64_w, i32_w]
                       rfl
                     exact norm_ (by (simp only [putAll, Act.put, List.setIfInBounds_toArray, List.set_cons_zero, List.set_cons_succ]; rfl)) (hJ3_4_8_10 (_, _, _, gb425) _ ⟨hHeld, (by (with_reducible repeat (fail)); exact Kd.N_mono HO409.out (fun _ hk => ⟨hk.1.1, ⟨hk.1.2.1, ⟨hk.1.2.2.1, ⟨hk.1.2.2.2, hk.2⟩⟩⟩⟩)), (by (with_reducible repeat (fail)); exact Kd.N_mono HO414.out (fun _ hk => ⟨hk.1.1, ⟨hk.1.2.1, ⟨hk.1.2.2, hk.2⟩⟩⟩)), (by (with_reducible repeat (fail)); exact Kd.N_mono HO419.out (fun _ hk => ⟨hk.1.1, ⟨hk.1.2.1, ⟨hk.1.2.2.1, ⟨hk.1.2.2.2, hk.2⟩⟩⟩⟩)), BK402.out, BK403.out, BK425.out, GW425.out, GE425.out, NB402_425.out, NB425_402.out, NB403_425.out, NB425_403.out, HB.out⟩)
                   · skip
                     refine box_step ?hg (N := 14) ?hd (cs := #[.int .i64 0, .int .i64 0, .slice none 0 0]) (t := 24) ?hr ?_; (case hd => rfl); (case hg => rfl); (case hr => (go_simp; done))
                     intro gb426 hg w22 hbox hb
                     replace HO409 := Aside0.mk (Kd.N_below (Kd.N_elderB HO409.out gb426 (Nat.le_of_eq hg.symm)) hb)
                     replace HO414 := Aside0.mk (Kd.N_below (Kd.N_elderB HO414.out gb426 (Nat.le_of_eq hg.symm)) hb)
                     replace HO419 := Aside0.mk (Kd.N_below (Kd.N_elderB HO419.out gb426 (Nat.le_of_eq hg.symm)) hb)
                     have BK426 := Aside0.mk (hbox)
                     have GW426 := Aside0.mk ((by rw [hg]; exact (below_size HB.out) : w.heap.size ≤ gb426))
                     have GE426 := Aside0.mk ((by rw [hg]; exact (below_size HB.out) : w.heap.size ≤ gb426))
                     replace HB := Aside0.mk (below_step HB.out hb)
                     have NB402_426 := Aside0.mk ((by rw [hg]; exact Nat.ne_of_lt (blk_lt BK402.out) : gb402 ≠ gb426))
                     have NB426_402 := Aside0.mk ((by rw [hg]; exact Nat.ne_of_gt (blk_lt BK402.out) : gb426 ≠ gb402))
                     replace BK402 := Aside0.mk (blk_below BK402.out hb)
                     have NB403_426 := Aside0.mk ((by rw [hg]; exact Nat.ne_of_lt (blk_lt BK403.out) : gb403 ≠ gb426))
                     have NB426_403 := Aside0.mk ((by rw [hg]; exact Nat.ne_of_gt (blk_lt BK403.out) : gb426 ≠ gb403))
                     replace BK403 := Aside0.mk (blk_below BK403.out hb)
                     clear hb hbox hg
                     refine hK.out _ _ ⟨(blk_cell BK402.out 0).trans rfl, (blk_cell BK402.out 1).trans rfl, (blk_cell BK402.out 2).trans rfl⟩ (fun hHeld => ?_)
                     clear hK K
                     refine norm_ (a' := ?_) ?_ ?_
                     rotate_left
                     · show Act.put _ (some 14) _ = _
                       simp only [Act.put, List.setIfInBounds_toArray, List.set_cons_zero, List.set_cons_succ, i64_w, i32_w]
                       rfl
                     exact norm_ (by (simp only [putAll, Act.put, List.setIfInBounds_toArray, List.set_cons_zero, List.set_cons_succ]; rfl)) (hJ3_4_8_11 (_, _, _, gb426) _ ⟨hHeld, (by (with_reducible repeat (fail)); exact Kd.N_mono HO409.out (fun _ hk => ⟨hk.1.1, ⟨hk.1.2.1, ⟨hk.1.2.2.1, ⟨hk.1.2.2.2, hk.2⟩⟩⟩⟩)), (by (with_reducible repeat (fail)); exact Kd.N_mono HO414.out (fun _ hk => ⟨hk.1.1, ⟨hk.1.2.1, ⟨hk.1.2.2, hk.2⟩⟩⟩)), (by (with_reducible repeat (fail)); exact Kd.N_mono HO419.out (fun _ hk => ⟨hk.1.1, ⟨hk.1.2.1, ⟨hk.1.2.2.1, ⟨hk.1.2.2.2, hk.2⟩⟩⟩⟩)), BK402.out, BK403.out, BK426.out, GW426.out, GE426.out, NB402_426.out, NB426_402.out, NB403_426.out, NB426_403.out, HB.out⟩)
               · skip
                 rintro ⟨v408, v413, gb425, gb426⟩ w22 ⟨hS_, h0_, h1_, h2_, h3_, h4_, h5_, h6_, h7_, h8_, h9_, h10_, h11_, h12_, h13_, h14_, h15_, h16_, h17_, h18_, h19_, h20_⟩
                 have HO409 : Aside0 (Kd.N k24 24 w22 w.heap.size (fun k_ => some k_ ≠ (v413 : Value).ownBlock ∧ k_ ≠ gb402 ∧ k_ ≠ gb403 ∧ k_ ≠ gb425 ∧ k_ ≠ gb426) v408 t407) := ⟨h0_⟩
                 have HO414 : Aside0 (Kd.N k24 24 w22 w.heap.size (fun k_ => k_ ≠ gb402 ∧ k_ ≠ gb403 ∧ k_ ≠ gb425 ∧ k_ ≠ gb426) v413 t412) := ⟨h1_⟩
                 replace BK402 : Aside0 (w22.heap[gb402]? = some (.cells #[.int .i64 a0_0, .int .i64 a0_1, .slice A0_2 l0_2.length c0_2] 24 (0, 0))) := ⟨h2_⟩
                 replace BK403 : Aside0 (w22.heap[gb403]? = some (.cells #[.int .i64 a3_0, .int .i64 a3_1, .int .i64 a3_2, .int .i64 a3_3, .int .i64 a3_4, .int .i64 a3_5, .int .i64 a3_6, .int .i64 a3_7] 25 (0, 0))) := ⟨h3_⟩
                 have BK425 : Aside0 (w22.heap[gb425]? = some (.cells #[.int .i64 0, .int .i64 0, .slice none 0 0] 24 (0, 0))) := ⟨h4_⟩
                 have BK426 : Aside0 (w22.heap[gb426]? = some (.cells #[.int .i64 0, .int .i64 0, .slice none 0 0] 24 (0, 0))) := ⟨h5_⟩
                 have GW425 : Aside0 (w.heap.size ≤ gb425) := ⟨h6_⟩
                 have GE425 : Aside0 (w.heap.size ≤ gb425) := ⟨h7_⟩
                 have NB402_425 : Aside0 (gb402 ≠ gb425) := ⟨h8_⟩
                 have NB425_402 : Aside0 (gb425 ≠ gb402) := ⟨h9_⟩
                 have NB403_425 : Aside0 (gb403 ≠ gb425) := ⟨h10_⟩
                 have NB425_403 : Aside0 (gb425 ≠ gb403) := ⟨h11_⟩
                 have NB426_425 : Aside0 (gb426 ≠ gb425) := ⟨h12_⟩
                 have NB425_426 : Aside0 (gb425 ≠ gb426) := ⟨h13_⟩
                 have GW426 : Aside0 (w.heap.size ≤ gb426) := ⟨h14_⟩
                 have GE426 : Aside0 (w.heap.size ≤ gb426) := ⟨h15_⟩
                 have NB402_426 : Aside0 (gb402 ≠ gb426) := ⟨h16_⟩
                 have NB426_402 : Aside0 (gb426 ≠ gb402) := ⟨h17_⟩
                 have NB403_426 : Aside0 (gb403 ≠ gb426) := ⟨h18_⟩
                 have NB426_403 : Aside0 (gb426 ≠ gb403) := ⟨h19_⟩
                 replace HB : Aside0 (Below w.heap.size w w22) := ⟨h20_⟩
                 clear h0_ h1_ h2_ h3_ h4_ h5_ h6_ h7_ h8_ h9_ h10_ h11_ h12_ h13_ h14_ h15_ h16_ h17_ h18_ h19_ h20_
                 have hHeld : w22.cell? ⟨gb402, 0, none⟩ = some (.int .i64 a0_0) ∧ w22.cell? ⟨gb402, 1, none⟩ = some (.int .i64 a0_1) ∧ w22.cell? ⟨gb402, 2, none⟩ = some (.slice A0_2 l0_2.length c0_2) := hS_
                 refine norm_ (a' := ?_) ?_ ?_
                 rotate_left
                 · simp only [putAll, Act.put, List.setIfInBounds_toArray, List.set_cons_zero, List.set_cons_succ]
                   rfl
                 refine one_ (i := 8) (N := some 35) #[true, true, true, true, true, true, true, true, true, false, true, true, false, false] rfl rfl (one_of HT_.out (by kernel_rfl)) (by decide) (fun K hK => ?_)
                 refine goes_ Try.func23 (by kernel_rfl) rfl #[.int .i64 8, .int .i64 (wrap64 (1 + (Int.tmod (wrap64 ((Int.tmod a4 1000) + 1000)) 1000))), .agg #[.int .i64 a0_0, .int .i64 a0_1, .slice A0_2 l0_2.length c0_2]] (by rfl) rfl rfl (by (try simp only [List.map_toArray, List.map_cons, List.map_nil]); rfl) ?_
                 with_reducible refine (formelaw14_one.calls 8 (wrap64 (1 + (Int.tmod (wrap64 ((Int.tmod a4 1000) + 1000)) 1000))) a0_0 a0_1 (fun k_ => k_ < w.heap.size) _ _ l0_2 t415 t416 t417 _ ?side1 A9.out).mono ?_
                 (case side1 => exact Kd.V_mk HC0_2.out (Kd.F_below (Kd.C_F k24_heap HR0_2.out) HB.out))
                 rintro e w23 ⟨v418, rfl, ho0, hb⟩
                 refine ⟨_, rfl, ?_⟩
                 have HO419 := Aside0.mk (Kd.N_lower (Kd.N_mono (ok' := fun k_ => some k_ ≠ (v408 : Value).ownBlock ∧ some k_ ≠ (v413 : Value).ownBlock ∧ k_ ≠ gb402 ∧ k_ ≠ gb403 ∧ k_ ≠ gb425 ∧ k_ ≠ gb426) ho0 (fun k_ hk_ => ⟨Or.elim hk_ (fun hs_ => fun e_ => Nat.not_le.2 hs_ (Kd.N_base HO409.out k_ e_.symm)) (fun hn_ => (Kd.fresh' (Kd.N_lt HO409.out) k_ hn_)), Or.elim hk_ (fun hs_ => fun e_ => Nat.not_le.2 hs_ (Kd.N_base HO414.out k_ e_.symm)) (fun hn_ => (Kd.fresh' (Kd.N_lt HO414.out) k_ hn_)), Or.elim hk_ (fun hs_ => fun e_ => Nat.not_le.2 hs_ (by rw [e_]; exact GW402.out)) (fun hn_ => (Kd.freshB BK402.out k_ hn_)), Or.elim hk_ (fun hs_ => fun e_ => Nat.not_le.2 hs_ (by rw [e_]; exact GW403.out)) (fun hn_ => (Kd.freshB BK403.out k_ hn_)), Or.elim hk_ (fun hs_ => fun e_ => Nat.not_le.2 hs_ (by rw [e_]; exact GW425.out)) (fun hn_ => (Kd.freshB BK425.out k_ hn_)), Or.elim hk_ (fun hs_ => fun e_ => Nat.not_le.2 hs_ (by rw [e_]; exact GW426.out)) (fun hn_ => (Kd.freshB BK426.out k_ hn_))⟩)) (below_size HB.out))
                 replace HO409 := Aside0.mk (Kd.N_elder' HO409.out (Kd.N_base ho0) hb)
                 replace HO414 := Aside0.mk (Kd.N_elder' HO414.out (Kd.N_base ho0) hb)
                 replace BK402 := Aside0.mk (blk_below BK402.out hb)
                 replace BK403 := Aside0.mk (blk_below BK403.out hb)
                 replace BK425 := Aside0.mk (blk_below BK425.out hb)
                 replace BK426 := Aside0.mk (blk_below BK426.out hb)
                 replace HB := Aside0.mk (below_step HB.out hb)
                 (try clear hb)
                 (try clear ho0)
                 refine hK.out _ _ ⟨(blk_cell BK402.out 0).trans rfl, (blk_cell BK402.out 1).trans rfl, (blk_cell BK402.out 2).trans rfl⟩ (fun hHeld => ?_)
                 clear hK K
                 refine norm_ (a' := ?_) ?_ ?_
                 rotate_left
                 · show Act.put _ (some 35) _ = _
                   simp only [Act.put, List.setIfInBounds_toArray, List.set_cons_zero, List.set_cons_succ, i64_w, i32_w]
                   rfl
                 exact norm_ (by (simp only [putAll, Act.put, List.setIfInBounds_toArray, List.set_cons_zero, List.set_cons_succ]; first | done | rfl)) (hJ3_4_8_10_11 (_, _, _, gb425, gb426) _ ⟨hHeld, (by (with_reducible repeat (fail)); exact Kd.N_mono HO409.out (fun _ hk => ⟨hk.1.1, ⟨hk.2, ⟨hk.1.2.1, ⟨hk.1.2.2.1, ⟨hk.1.2.2.2.1, hk.1.2.2.2.2⟩⟩⟩⟩⟩)), (by (with_reducible repeat (fail)); exact Kd.N_mono HO414.out (fun _ hk => ⟨hk.2, ⟨hk.1.1, ⟨hk.1.2.1, ⟨hk.1.2.2.1, hk.1.2.2.2⟩⟩⟩⟩)), HO419.out, BK402.out, BK403.out, BK425.out, BK426.out, GW425.out, GE425.out, NB402_425.out, NB425_402.out, NB403_425.out, NB425_403.out, NB426_425.out, NB425_426.out, GW426.out, GE426.out, NB402_426.out, NB426_402.out, NB403_426.out, NB426_403.out, HB.out⟩)
             · skip
               rintro ⟨v408, v413, v418, gb426⟩ w22 ⟨hS_, h0_, h1_, h2_, h3_, h4_, h5_, h6_, h7_, h8_, h9_, h10_, h11_, h12_⟩
               have HO409 : Aside0 (Kd.N k24 24 w22 w.heap.size (fun k_ => some k_ ≠ (v413 : Value).ownBlock ∧ some k_ ≠ (v418 : Value).ownBlock ∧ k_ ≠ gb402 ∧ k_ ≠ gb403 ∧ k_ ≠ gb426) v408 t407) := ⟨h0_⟩
               have HO414 : Aside0 (Kd.N k24 24 w22 w.heap.size (fun k_ => some k_ ≠ (v418 : Value).ownBlock ∧ k_ ≠ gb402 ∧ k_ ≠ gb403 ∧ k_ ≠ gb426) v413 t412) := ⟨h1_⟩
               have HO419 : Aside0 (Kd.N k24 24 w22 w.heap.size (fun k_ => some k_ ≠ (v408 : Value).ownBlock ∧ some k_ ≠ (v413 : Value).ownBlock ∧ k_ ≠ gb402 ∧ k_ ≠ gb403 ∧ k_ ≠ gb426) v418 t417) := ⟨h2_⟩
               replace BK402 : Aside0 (w22.heap[gb402]? = some (.cells #[.int .i64 a0_0, .int .i64 a0_1, .slice A0_2 l0_2.length c0_2] 24 (0, 0))) := ⟨h3_⟩
               replace BK403 : Aside0 (w22.heap[gb403]? = some (.cells #[.int .i64 a3_0, .int .i64 a3_1, .int .i64 a3_2, .int .i64 a3_3, .int .i64 a3_4, .int .i64 a3_5, .int .i64 a3_6, .int .i64 a3_7] 25 (0, 0))) := ⟨h4_⟩
               have BK426 : Aside0 (w22.heap[gb426]? = some (.cells #[.int .i64 0, .int .i64 0, .slice none 0 0] 24 (0, 0))) := ⟨h5_⟩
               have GW426 : Aside0 (w.heap.size ≤ gb426) := ⟨h6_⟩
               have GE426 : Aside0 (w.heap.size ≤ gb426) := ⟨h7_⟩
               have NB402_426 : Aside0 (gb402 ≠ gb426) := ⟨h8_⟩
               have NB426_402 : Aside0 (gb426 ≠ gb402) := ⟨h9_⟩
               have NB403_426 : Aside0 (gb403 ≠ gb426) := ⟨h10_⟩
               have NB426_403 : Aside0 (gb426 ≠ gb403) := ⟨h11_⟩
               replace HB : Aside0 (Below w.heap.size w w22) := ⟨h12_⟩
               clear h0_ h1_ h2_ h3_ h4_ h5_ h6_ h7_ h8_ h9_ h10_ h11_ h12_
               have hHeld : w22.cell? ⟨gb402, 0, none⟩ = some (.int .i64 a0_0) ∧ w22.cell? ⟨gb402, 1, none⟩ = some (.int .i64 a0_1) ∧ w22.cell? ⟨gb402, 2, none⟩ = some (.slice A0_2 l0_2.length c0_2) := hS_
               obtain ⟨Ao23, co23, eo23⟩ := Kd.N_slice HO419.out
               (subst eo23)
               refine norm_ (a' := ?_) ?_ ?_
               rotate_left
               · simp only [putAll, Act.put, List.setIfInBounds_toArray, List.set_cons_zero, List.set_cons_succ]
                 rfl
               refine two_ (i := 9) (j := 10) (Ni := some 36) (Nj := some 13) #[true, true, true, true, true, true, true, true, true, true, false, true, false, false] #[true, true, true, true, true, true, true, true, true, false, true, true, false, false] rfl rfl rfl rfl (two_of HT_.out (by kernel_rfl)) (by decide) (by decide) (fun K hK => ?_) (fun K hK => ?_)
               · skip
                 refine goes_ Try.func23 (by kernel_rfl) rfl #[.int .i64 7, .int .i64 (wrap64 (1 + (Int.tmod (wrap64 ((Int.tmod a4 1000) + 1000)) 1000))), .agg #[.int .i64 t415, .int .i64 t416, .slice Ao23 t417.length co23]] (by rfl) rfl rfl (by (try simp only [List.map_toArray, List.map_cons, List.map_nil]); rfl) ?_
                 with_reducible refine (formelaw14_one.calls 7 (wrap64 (1 + (Int.tmod (wrap64 ((Int.tmod a4 1000) + 1000)) 1000))) t415 t416 (fun k_ => (some k_ ≠ (v408 : Value).ownBlock ∧ (some k_ ≠ (v413 : Value).ownBlock ∧ (k_ ≠ gb402 ∧ (k_ ≠ gb403 ∧ k_ ≠ gb426))))) _ _ t417 t420 t421 t422 _ ?side1 A10.out).mono ?_
                 (case side1 => exact Kd.N_V (HO419.out))
                 rintro e w24 ⟨v423, rfl, ho0, hb⟩
                 refine ⟨_, rfl, ?_⟩
                 replace HO419 := Aside0.mk (Kd.N_elder' HO419.out (Kd.N_base ho0) hb)
                 have HO424 := Aside0.mk (Kd.N_lower (Kd.N_mono (ok' := fun k_ => some k_ ≠ (v408 : Value).ownBlock ∧ some k_ ≠ (v413 : Value).ownBlock ∧ k_ ≠ gb402 ∧ k_ ≠ gb403 ∧ k_ ≠ gb426) ho0 (fun k_ hk_ => ⟨Or.elim hk_ (fun hs_ => hs_.1) (fun hn_ => (Kd.fresh' (Kd.N_lt HO409.out) k_ hn_)), Or.elim hk_ (fun hs_ => hs_.2.1) (fun hn_ => (Kd.fresh' (Kd.N_lt HO414.out) k_ hn_)), Or.elim hk_ (fun hs_ => hs_.2.2.1) (fun hn_ => (Kd.freshB BK402.out k_ hn_)), Or.elim hk_ (fun hs_ => hs_.2.2.2.1) (fun hn_ => (Kd.freshB BK403.out k_ hn_)), Or.elim hk_ (fun hs_ => hs_.2.2.2.2) (fun hn_ => (Kd.freshB BK426.out k_ hn_))⟩)) (below_size HB.out))
                 replace HO409 := Aside0.mk (Kd.N_elder' HO409.out (Kd.N_base ho0) hb)
                 replace HO414 := Aside0.mk (Kd.N_elder' HO414.out (Kd.N_base ho0) hb)
                 replace BK402 := Aside0.mk (blk_below BK402.out hb)
                 replace BK403 := Aside0.mk (blk_below BK403.out hb)
                 replace BK426 := Aside0.mk (blk_below BK426.out hb)
                 replace HB := Aside0.mk (below_step HB.out hb)
                 (try clear hb)
                 (try clear ho0)
                 refine hK.out _ _ ⟨(blk_cell BK402.out 0).trans rfl, (blk_cell BK402.out 1).trans rfl, (blk_cell BK402.out 2).trans rfl⟩ (fun hHeld => ?_)
                 clear hK K
                 refine norm_ (a' := ?_) ?_ ?_
                 rotate_left
                 · show Act.put _ (some 36) _ = _
                   simp only [Act.put, List.setIfInBounds_toArray, List.set_cons_zero, List.set_cons_succ, i64_w, i32_w]
                   rfl
                 exact norm_ (by (simp only [putAll, Act.put, List.setIfInBounds_toArray, List.set_cons_zero, List.set_cons_succ]; done)) (hJ3_4_8_9_11 (v408, v413, .slice Ao23 t417.length co23, v423, gb426) _ ⟨hHeld, (by (with_reducible repeat (fail)); exact Kd.N_mono HO409.out (fun _ hk => ⟨hk.1.1, ⟨hk.1.2.1, ⟨hk.2, ⟨hk.1.2.2.1, ⟨hk.1.2.2.2.1, hk.1.2.2.2.2⟩⟩⟩⟩⟩)), (by (with_reducible repeat (fail)); exact Kd.N_mono HO414.out (fun _ hk => ⟨hk.1.1, ⟨hk.2, ⟨hk.1.2.1, ⟨hk.1.2.2.1, hk.1.2.2.2⟩⟩⟩⟩)), (by (with_reducible repeat (fail)); exact Kd.N_mono HO419.out (fun _ hk => ⟨hk.1.1, ⟨hk.1.2.1, ⟨hk.2, ⟨hk.1.2.2.1, ⟨hk.1.2.2.2.1, hk.1.2.2.2.2⟩⟩⟩⟩⟩)), HO424.out, BK402.out, BK403.out, BK426.out, GW426.out, GE426.out, NB402_426.out, NB426_402.out, NB403_426.out, NB426_403.out, HB.out⟩)
               · skip
                 refine box_step ?hg (N := 13) ?hd (cs := #[.int .i64 0, .int .i64 0, .slice none 0 0]) (t := 24) ?hr ?_; (case hd => rfl); (case hg => rfl); (case hr => (go_simp; done))
                 intro gb425 hg w23 hbox hb
                 replace HO409 := Aside0.mk (Kd.N_below (Kd.N_elderB HO409.out gb425 (Nat.le_of_eq hg.symm)) hb)
                 replace HO414 := Aside0.mk (Kd.N_below (Kd.N_elderB HO414.out gb425 (Nat.le_of_eq hg.symm)) hb)
                 replace HO419 := Aside0.mk (Kd.N_below (Kd.N_elderB HO419.out gb425 (Nat.le_of_eq hg.symm)) hb)
                 have BK425 := Aside0.mk (hbox)
                 have GW425 := Aside0.mk ((by rw [hg]; exact (below_size HB.out) : w.heap.size ≤ gb425))
                 have GE425 := Aside0.mk ((by rw [hg]; exact (below_size HB.out) : w.heap.size ≤ gb425))
                 replace HB := Aside0.mk (below_step HB.out hb)
                 have NB402_425 := Aside0.mk ((by rw [hg]; exact Nat.ne_of_lt (blk_lt BK402.out) : gb402 ≠ gb425))
                 have NB425_402 := Aside0.mk ((by rw [hg]; exact Nat.ne_of_gt (blk_lt BK402.out) : gb425 ≠ gb402))
                 replace BK402 := Aside0.mk (blk_below BK402.out hb)
                 have NB403_425 := Aside0.mk ((by rw [hg]; exact Nat.ne_of_lt (blk_lt BK403.out) : gb403 ≠ gb425))
                 have NB425_403 := Aside0.mk ((by rw [hg]; exact Nat.ne_of_gt (blk_lt BK403.out) : gb425 ≠ gb403))
                 replace BK403 := Aside0.mk (blk_below BK403.out hb)
                 have NB426_425 := Aside0.mk ((by rw [hg]; exact Nat.ne_of_lt (blk_lt BK426.out) : gb426 ≠ gb425))
                 have NB425_426 := Aside0.mk ((by rw [hg]; exact Nat.ne_of_gt (blk_lt BK426.out) : gb425 ≠ gb426))
                 replace BK426 := Aside0.mk (blk_below BK426.out hb)
                 clear hb hbox hg
                 refine hK.out _ _ ⟨(blk_cell BK402.out 0).trans rfl, (blk_cell BK402.out 1).trans rfl, (blk_cell BK402.out 2).trans rfl⟩ (fun hHeld => ?_)
                 clear hK K
                 refine norm_ (a' := ?_) ?_ ?_
                 rotate_left
                 · show Act.put _ (some 13) _ = _
                   simp only [Act.put, List.setIfInBounds_toArray, List.set_cons_zero, List.set_cons_succ, i64_w, i32_w]
                   rfl
                 exact norm_ (by (simp only [putAll, Act.put, List.setIfInBounds_toArray, List.set_cons_zero, List.set_cons_succ]; rfl)) (hJ3_4_8_10_11 (_, _, _, gb425, gb426) _ ⟨hHeld, (by (with_reducible repeat (fail)); exact Kd.N_mono HO409.out (fun _ hk => ⟨hk.1.1, ⟨hk.1.2.1, ⟨hk.1.2.2.1, ⟨hk.1.2.2.2.1, ⟨hk.2, hk.1.2.2.2.2⟩⟩⟩⟩⟩)), (by (with_reducible repeat (fail)); exact Kd.N_mono HO414.out (fun _ hk => ⟨hk.1.1, ⟨hk.1.2.1, ⟨hk.1.2.2.1, ⟨hk.2, hk.1.2.2.2⟩⟩⟩⟩)), (by (with_reducible repeat (fail)); exact Kd.N_mono HO419.out (fun _ hk => ⟨hk.1.1, ⟨hk.1.2.1, ⟨hk.1.2.2.1, ⟨hk.1.2.2.2.1, ⟨hk.2, hk.1.2.2.2.2⟩⟩⟩⟩⟩)), BK402.out, BK403.out, BK425.out, BK426.out, GW425.out, GE425.out, NB402_425.out, NB425_402.out, NB403_425.out, NB425_403.out, NB426_425.out, NB425_426.out, GW426.out, GE426.out, NB402_426.out, NB426_402.out, NB403_426.out, NB426_403.out, HB.out⟩)
           · skip
             rintro ⟨v408, v413, v418, gb425⟩ w22 ⟨hS_, h0_, h1_, h2_, h3_, h4_, h5_, h6_, h7_, h8_, h9_, h10_, h11_, h12_⟩
             have HO409 : Aside0 (Kd.N k24 24 w22 w.heap.size (fun k_ => some k_ ≠ (v413 : Value).ownBlock ∧ some k_ ≠ (v418 : Value).ownBlock ∧ k_ ≠ gb402 ∧ k_ ≠ gb403 ∧ k_ ≠ gb425) v408 t407) := ⟨h0_⟩
             have HO414 : Aside0 (Kd.N k24 24 w22 w.heap.size (fun k_ => some k_ ≠ (v418 : Value).ownBlock ∧ k_ ≠ gb402 ∧ k_ ≠ gb403 ∧ k_ ≠ gb425) v413 t412) := ⟨h1_⟩
             have HO419 : Aside0 (Kd.N k24 24 w22 w.heap.size (fun k_ => some k_ ≠ (v408 : Value).ownBlock ∧ some k_ ≠ (v413 : Value).ownBlock ∧ k_ ≠ gb402 ∧ k_ ≠ gb403 ∧ k_ ≠ gb425) v418 t417) := ⟨h2_⟩
             replace BK402 : Aside0 (w22.heap[gb402]? = some (.cells #[.int .i64 a0_0, .int .i64 a0_1, .slice A0_2 l0_2.length c0_2] 24 (0, 0))) := ⟨h3_⟩
             replace BK403 : Aside0 (w22.heap[gb403]? = some (.cells #[.int .i64 a3_0, .int .i64 a3_1, .int .i64 a3_2, .int .i64 a3_3, .int .i64 a3_4, .int .i64 a3_5, .int .i64 a3_6, .int .i64 a3_7] 25 (0, 0))) := ⟨h4_⟩
             have BK425 : Aside0 (w22.heap[gb425]? = some (.cells #[.int .i64 0, .int .i64 0, .slice none 0 0] 24 (0, 0))) := ⟨h5_⟩
             have GW425 : Aside0 (w.heap.size ≤ gb425) := ⟨h6_⟩
             have GE425 : Aside0 (w.heap.size ≤ gb425) := ⟨h7_⟩
             have NB402_425 : Aside0 (gb402 ≠ gb425) := ⟨h8_⟩
             have NB425_402 : Aside0 (gb425 ≠ gb402) := ⟨h9_⟩
             have NB403_425 : Aside0 (gb403 ≠ gb425) := ⟨h10_⟩
             have NB425_403 : Aside0 (gb425 ≠ gb403) := ⟨h11_⟩
             replace HB : Aside0 (Below w.heap.size w w22) := ⟨h12_⟩
             clear h0_ h1_ h2_ h3_ h4_ h5_ h6_ h7_ h8_ h9_ h10_ h11_ h12_
             have hHeld : w22.cell? ⟨gb402, 0, none⟩ = some (.int .i64 a0_0) ∧ w22.cell? ⟨gb402, 1, none⟩ = some (.int .i64 a0_1) ∧ w22.cell? ⟨gb402, 2, none⟩ = some (.slice A0_2 l0_2.length c0_2) := hS_
             obtain ⟨Ao23, co23, eo23⟩ := Kd.N_slice HO419.out
             (subst eo23)
             refine norm_ (a' := ?_) ?_ ?_
             rotate_left
             · simp only [putAll, Act.put, List.setIfInBounds_toArray, List.set_cons_zero, List.set_cons_succ]
               rfl
             refine two_ (i := 9) (j := 11) (Ni := some 36) (Nj := some 14) #[true, true, true, true, true, true, true, true, true, true, true, false, false, false] #[true, true, true, true, true, true, true, true, true, false, true, true, false, false] rfl rfl rfl rfl (two_of HT_.out (by kernel_rfl)) (by decide) (by decide) (fun K hK => ?_) (fun K hK => ?_)
             · skip
               refine goes_ Try.func23 (by kernel_rfl) rfl #[.int .i64 7, .int .i64 (wrap64 (1 + (Int.tmod (wrap64 ((Int.tmod a4 1000) + 1000)) 1000))), .agg #[.int .i64 t415, .int .i64 t416, .slice Ao23 t417.length co23]] (by rfl) rfl rfl (by (try simp only [List.map_toArray, List.map_cons, List.map_nil]); rfl) ?_
               with_reducible refine (formelaw14_one.calls 7 (wrap64 (1 + (Int.tmod (wrap64 ((Int.tmod a4 1000) + 1000)) 1000))) t415 t416 (fun k_ => (some k_ ≠ (v408 : Value).ownBlock ∧ (some k_ ≠ (v413 : Value).ownBlock ∧ (k_ ≠ gb402 ∧ (k_ ≠ gb403 ∧ k_ ≠ gb425))))) _ _ t417 t420 t421 t422 _ ?side1 A10.out).mono ?_
               (case side1 => exact Kd.N_V (HO419.out))
               rintro e w24 ⟨v423, rfl, ho0, hb⟩
               refine ⟨_, rfl, ?_⟩
               replace HO419 := Aside0.mk (Kd.N_elder' HO419.out (Kd.N_base ho0) hb)
               have HO424 := Aside0.mk (Kd.N_lower (Kd.N_mono (ok' := fun k_ => some k_ ≠ (v408 : Value).ownBlock ∧ some k_ ≠ (v413 : Value).ownBlock ∧ k_ ≠ gb402 ∧ k_ ≠ gb403 ∧ k_ ≠ gb425) ho0 (fun k_ hk_ => ⟨Or.elim hk_ (fun hs_ => hs_.1) (fun hn_ => (Kd.fresh' (Kd.N_lt HO409.out) k_ hn_)), Or.elim hk_ (fun hs_ => hs_.2.1) (fun hn_ => (Kd.fresh' (Kd.N_lt HO414.out) k_ hn_)), Or.elim hk_ (fun hs_ => hs_.2.2.1) (fun hn_ => (Kd.freshB BK402.out k_ hn_)), Or.elim hk_ (fun hs_ => hs_.2.2.2.1) (fun hn_ => (Kd.freshB BK403.out k_ hn_)), Or.elim hk_ (fun hs_ => hs_.2.2.2.2) (fun hn_ => (Kd.freshB BK425.out k_ hn_))⟩)) (below_size HB.out))
               replace HO409 := Aside0.mk (Kd.N_elder' HO409.out (Kd.N_base ho0) hb)
               replace HO414 := Aside0.mk (Kd.N_elder' HO414.out (Kd.N_base ho0) hb)
               replace BK402 := Aside0.mk (blk_below BK402.out hb)
               replace BK403 := Aside0.mk (blk_below BK403.out hb)
               replace BK425 := Aside0.mk (blk_below BK425.out hb)
               replace HB := Aside0.mk (below_step HB.out hb)
               (try clear hb)
               (try clear ho0)
               refine hK.out _ _ ⟨(blk_cell BK402.out 0).trans rfl, (blk_cell BK402.out 1).trans rfl, (blk_cell BK402.out 2).trans rfl⟩ (fun hHeld => ?_)
               clear hK K
               refine norm_ (a' := ?_) ?_ ?_
               rotate_left
               · show Act.put _ (some 36) _ = _
                 simp only [Act.put, List.setIfInBounds_toArray, List.set_cons_zero, List.set_cons_succ, i64_w, i32_w]
                 rfl
               exact norm_ (by (simp only [putAll, Act.put, List.setIfInBounds_toArray, List.set_cons_zero, List.set_cons_succ]; done)) (hJ3_4_8_9_10 (v408, v413, .slice Ao23 t417.length co23, v423, gb425) _ ⟨hHeld, (by (with_reducible repeat (fail)); exact Kd.N_mono HO409.out (fun _ hk => ⟨hk.1.1, ⟨hk.1.2.1, ⟨hk.2, ⟨hk.1.2.2.1, ⟨hk.1.2.2.2.1, hk.1.2.2.2.2⟩⟩⟩⟩⟩)), (by (with_reducible repeat (fail)); exact Kd.N_mono HO414.out (fun _ hk => ⟨hk.1.1, ⟨hk.2, ⟨hk.1.2.1, ⟨hk.1.2.2.1, hk.1.2.2.2⟩⟩⟩⟩)), (by (with_reducible repeat (fail)); exact Kd.N_mono HO419.out (fun _ hk => ⟨hk.1.1, ⟨hk.1.2.1, ⟨hk.2, ⟨hk.1.2.2.1, ⟨hk.1.2.2.2.1, hk.1.2.2.2.2⟩⟩⟩⟩⟩)), HO424.out, BK402.out, BK403.out, BK425.out, GW425.out, GE425.out, NB402_425.out, NB425_402.out, NB403_425.out, NB425_403.out, HB.out⟩)
             · skip
               refine box_step ?hg (N := 14) ?hd (cs := #[.int .i64 0, .int .i64 0, .slice none 0 0]) (t := 24) ?hr ?_; (case hd => rfl); (case hg => rfl); (case hr => (go_simp; done))
               intro gb426 hg w23 hbox hb
               replace HO409 := Aside0.mk (Kd.N_below (Kd.N_elderB HO409.out gb426 (Nat.le_of_eq hg.symm)) hb)
               replace HO414 := Aside0.mk (Kd.N_below (Kd.N_elderB HO414.out gb426 (Nat.le_of_eq hg.symm)) hb)
               replace HO419 := Aside0.mk (Kd.N_below (Kd.N_elderB HO419.out gb426 (Nat.le_of_eq hg.symm)) hb)
               have BK426 := Aside0.mk (hbox)
               have GW426 := Aside0.mk ((by rw [hg]; exact (below_size HB.out) : w.heap.size ≤ gb426))
               have GE426 := Aside0.mk ((by rw [hg]; exact (below_size HB.out) : w.heap.size ≤ gb426))
               replace HB := Aside0.mk (below_step HB.out hb)
               have NB402_426 := Aside0.mk ((by rw [hg]; exact Nat.ne_of_lt (blk_lt BK402.out) : gb402 ≠ gb426))
               have NB426_402 := Aside0.mk ((by rw [hg]; exact Nat.ne_of_gt (blk_lt BK402.out) : gb426 ≠ gb402))
               replace BK402 := Aside0.mk (blk_below BK402.out hb)
               have NB403_426 := Aside0.mk ((by rw [hg]; exact Nat.ne_of_lt (blk_lt BK403.out) : gb403 ≠ gb426))
               have NB426_403 := Aside0.mk ((by rw [hg]; exact Nat.ne_of_gt (blk_lt BK403.out) : gb426 ≠ gb403))
               replace BK403 := Aside0.mk (blk_below BK403.out hb)
               have NB425_426 := Aside0.mk ((by rw [hg]; exact Nat.ne_of_lt (blk_lt BK425.out) : gb425 ≠ gb426))
               have NB426_425 := Aside0.mk ((by rw [hg]; exact Nat.ne_of_gt (blk_lt BK425.out) : gb426 ≠ gb425))
               replace BK425 := Aside0.mk (blk_below BK425.out hb)
               clear hb hbox hg
               refine hK.out _ _ ⟨(blk_cell BK402.out 0).trans rfl, (blk_cell BK402.out 1).trans rfl, (blk_cell BK402.out 2).trans rfl⟩ (fun hHeld => ?_)
               clear hK K
               refine norm_ (a' := ?_) ?_ ?_
               rotate_left
               · show Act.put _ (some 14) _ = _
                 simp only [Act.put, List.setIfInBounds_toArray, List.set_cons_zero, List.set_cons_succ, i64_w, i32_w]
                 rfl
               exact norm_ (by (simp only [putAll, Act.put, List.setIfInBounds_toArray, List.set_cons_zero, List.set_cons_succ]; rfl)) (hJ3_4_8_10_11 (_, _, _, gb425, gb426) _ ⟨hHeld, (by (with_reducible repeat (fail)); exact Kd.N_mono HO409.out (fun _ hk => ⟨hk.1.1, ⟨hk.1.2.1, ⟨hk.1.2.2.1, ⟨hk.1.2.2.2.1, ⟨hk.1.2.2.2.2, hk.2⟩⟩⟩⟩⟩)), (by (with_reducible repeat (fail)); exact Kd.N_mono HO414.out (fun _ hk => ⟨hk.1.1, ⟨hk.1.2.1, ⟨hk.1.2.2.1, ⟨hk.1.2.2.2, hk.2⟩⟩⟩⟩)), (by (with_reducible repeat (fail)); exact Kd.N_mono HO419.out (fun _ hk => ⟨hk.1.1, ⟨hk.1.2.1, ⟨hk.1.2.2.1, ⟨hk.1.2.2.2.1, ⟨hk.1.2.2.2.2, hk.2⟩⟩⟩⟩⟩)), BK402.out, BK403.out, BK425.out, BK426.out, GW425.out, GE425.out, NB402_425.out, NB425_402.out, NB403_425.out, NB425_403.out, NB426_425.out, NB425_426.out, GW426.out, GE426.out, NB402_426.out, NB426_402.out, NB403_426.out, NB426_403.out, HB.out⟩)
         · skip
           rintro ⟨v408, v413, v418, v423⟩ w23 ⟨hS_, h0_, h1_, h2_, h3_, h4_, h5_, h6_⟩
           have HO409 : Aside0 (Kd.N k24 24 w23 w.heap.size (fun k_ => some k_ ≠ (v413 : Value).ownBlock ∧ some k_ ≠ (v418 : Value).ownBlock ∧ some k_ ≠ (v423 : Value).ownBlock ∧ k_ ≠ gb402 ∧ k_ ≠ gb403) v408 t407) := ⟨h0_⟩
           have HO414 : Aside0 (Kd.N k24 24 w23 w.heap.size (fun k_ => some k_ ≠ (v418 : Value).ownBlock ∧ some k_ ≠ (v423 : Value).ownBlock ∧ k_ ≠ gb402 ∧ k_ ≠ gb403) v413 t412) := ⟨h1_⟩
           have HO419 : Aside0 (Kd.N k24 24 w23 w.heap.size (fun k_ => some k_ ≠ (v408 : Value).ownBlock ∧ some k_ ≠ (v413 : Value).ownBlock ∧ some k_ ≠ (v423 : Value).ownBlock ∧ k_ ≠ gb402 ∧ k_ ≠ gb403) v418 t417) := ⟨h2_⟩
           have HO424 : Aside0 (Kd.N k24 24 w23 w.heap.size (fun k_ => some k_ ≠ (v408 : Value).ownBlock ∧ some k_ ≠ (v413 : Value).ownBlock ∧ k_ ≠ gb402 ∧ k_ ≠ gb403) v423 t422) := ⟨h3_⟩
           replace BK402 : Aside0 (w23.heap[gb402]? = some (.cells #[.int .i64 a0_0, .int .i64 a0_1, .slice A0_2 l0_2.length c0_2] 24 (0, 0))) := ⟨h4_⟩
           replace BK403 : Aside0 (w23.heap[gb403]? = some (.cells #[.int .i64 a3_0, .int .i64 a3_1, .int .i64 a3_2, .int .i64 a3_3, .int .i64 a3_4, .int .i64 a3_5, .int .i64 a3_6, .int .i64 a3_7] 25 (0, 0))) := ⟨h5_⟩
           replace HB : Aside0 (Below w.heap.size w w23) := ⟨h6_⟩
           clear h0_ h1_ h2_ h3_ h4_ h5_ h6_
           have hHeld : w23.cell? ⟨gb402, 0, none⟩ = some (.int .i64 a0_0) ∧ w23.cell? ⟨gb402, 1, none⟩ = some (.int .i64 a0_1) ∧ w23.cell? ⟨gb402, 2, none⟩ = some (.slice A0_2 l0_2.length c0_2) := hS_
           refine norm_ (a' := ?_) ?_ ?_
           rotate_left
           · simp only [putAll, Act.put, List.setIfInBounds_toArray, List.set_cons_zero, List.set_cons_succ]
             rfl
           refine two_ (i := 10) (j := 11) (Ni := some 13) (Nj := some 14) #[true, true, true, true, true, true, true, true, true, true, true, false, false, false] #[true, true, true, true, true, true, true, true, true, true, false, true, false, false] rfl rfl rfl rfl (two_of HT_.out (by kernel_rfl)) (by decide) (by decide) (fun K hK => ?_) (fun K hK => ?_)
           · skip
             refine box_step ?hg (N := 13) ?hd (cs := #[.int .i64 0, .int .i64 0, .slice none 0 0]) (t := 24) ?hr ?_; (case hd => rfl); (case hg => rfl); (case hr => (go_simp; done))
             intro gb425 hg w24 hbox hb
             replace HO409 := Aside0.mk (Kd.N_below (Kd.N_elderB HO409.out gb425 (Nat.le_of_eq hg.symm)) hb)
             replace HO414 := Aside0.mk (Kd.N_below (Kd.N_elderB HO414.out gb425 (Nat.le_of_eq hg.symm)) hb)
             replace HO419 := Aside0.mk (Kd.N_below (Kd.N_elderB HO419.out gb425 (Nat.le_of_eq hg.symm)) hb)
             replace HO424 := Aside0.mk (Kd.N_below (Kd.N_elderB HO424.out gb425 (Nat.le_of_eq hg.symm)) hb)
             have BK425 := Aside0.mk (hbox)
             have GW425 := Aside0.mk ((by rw [hg]; exact (below_size HB.out) : w.heap.size ≤ gb425))
             have GE425 := Aside0.mk ((by rw [hg]; exact (below_size HB.out) : w.heap.size ≤ gb425))
             replace HB := Aside0.mk (below_step HB.out hb)
             have NB402_425 := Aside0.mk ((by rw [hg]; exact Nat.ne_of_lt (blk_lt BK402.out) : gb402 ≠ gb425))
             have NB425_402 := Aside0.mk ((by rw [hg]; exact Nat.ne_of_gt (blk_lt BK402.out) : gb425 ≠ gb402))
             replace BK402 := Aside0.mk (blk_below BK402.out hb)
             have NB403_425 := Aside0.mk ((by rw [hg]; exact Nat.ne_of_lt (blk_lt BK403.out) : gb403 ≠ gb425))
             have NB425_403 := Aside0.mk ((by rw [hg]; exact Nat.ne_of_gt (blk_lt BK403.out) : gb425 ≠ gb403))
             replace BK403 := Aside0.mk (blk_below BK403.out hb)
             clear hb hbox hg
             refine hK.out _ _ ⟨(blk_cell BK402.out 0).trans rfl, (blk_cell BK402.out 1).trans rfl, (blk_cell BK402.out 2).trans rfl⟩ (fun hHeld => ?_)
             clear hK K
             refine norm_ (a' := ?_) ?_ ?_
             rotate_left
             · show Act.put _ (some 13) _ = _
               simp only [Act.put, List.setIfInBounds_toArray, List.set_cons_zero, List.set_cons_succ, i64_w, i32_w]
               rfl
             exact norm_ (by (simp only [putAll, Act.put, List.setIfInBounds_toArray, List.set_cons_zero, List.set_cons_succ]; rfl)) (hJ3_4_8_9_10 (_, _, _, _, gb425) _ ⟨hHeld, (by (with_reducible repeat (fail)); exact Kd.N_mono HO409.out (fun _ hk => ⟨hk.1.1, ⟨hk.1.2.1, ⟨hk.1.2.2.1, ⟨hk.1.2.2.2.1, ⟨hk.1.2.2.2.2, hk.2⟩⟩⟩⟩⟩)), (by (with_reducible repeat (fail)); exact Kd.N_mono HO414.out (fun _ hk => ⟨hk.1.1, ⟨hk.1.2.1, ⟨hk.1.2.2.1, ⟨hk.1.2.2.2, hk.2⟩⟩⟩⟩)), (by (with_reducible repeat (fail)); exact Kd.N_mono HO419.out (fun _ hk => ⟨hk.1.1, ⟨hk.1.2.1, ⟨hk.1.2.2.1, ⟨hk.1.2.2.2.1, ⟨hk.1.2.2.2.2, hk.2⟩⟩⟩⟩⟩)), (by (with_reducible repeat (fail)); exact Kd.N_mono HO424.out (fun _ hk => ⟨hk.1.1, ⟨hk.1.2.1, ⟨hk.1.2.2.1, ⟨hk.1.2.2.2, hk.2⟩⟩⟩⟩)), BK402.out, BK403.out, BK425.out, GW425.out, GE425.out, NB402_425.out, NB425_402.out, NB403_425.out, NB425_403.out, HB.out⟩)
           · skip
             refine box_step ?hg (N := 14) ?hd (cs := #[.int .i64 0, .int .i64 0, .slice none 0 0]) (t := 24) ?hr ?_; (case hd => rfl); (case hg => rfl); (case hr => (go_simp; done))
             intro gb426 hg w24 hbox hb
             replace HO409 := Aside0.mk (Kd.N_below (Kd.N_elderB HO409.out gb426 (Nat.le_of_eq hg.symm)) hb)
             replace HO414 := Aside0.mk (Kd.N_below (Kd.N_elderB HO414.out gb426 (Nat.le_of_eq hg.symm)) hb)
             replace HO419 := Aside0.mk (Kd.N_below (Kd.N_elderB HO419.out gb426 (Nat.le_of_eq hg.symm)) hb)
             replace HO424 := Aside0.mk (Kd.N_below (Kd.N_elderB HO424.out gb426 (Nat.le_of_eq hg.symm)) hb)
             have BK426 := Aside0.mk (hbox)
             have GW426 := Aside0.mk ((by rw [hg]; exact (below_size HB.out) : w.heap.size ≤ gb426))
             have GE426 := Aside0.mk ((by rw [hg]; exact (below_size HB.out) : w.heap.size ≤ gb426))
             replace HB := Aside0.mk (below_step HB.out hb)
             have NB402_426 := Aside0.mk ((by rw [hg]; exact Nat.ne_of_lt (blk_lt BK402.out) : gb402 ≠ gb426))
             have NB426_402 := Aside0.mk ((by rw [hg]; exact Nat.ne_of_gt (blk_lt BK402.out) : gb426 ≠ gb402))
             replace BK402 := Aside0.mk (blk_below BK402.out hb)
             have NB403_426 := Aside0.mk ((by rw [hg]; exact Nat.ne_of_lt (blk_lt BK403.out) : gb403 ≠ gb426))
             have NB426_403 := Aside0.mk ((by rw [hg]; exact Nat.ne_of_gt (blk_lt BK403.out) : gb426 ≠ gb403))
             replace BK403 := Aside0.mk (blk_below BK403.out hb)
             clear hb hbox hg
             refine hK.out _ _ ⟨(blk_cell BK402.out 0).trans rfl, (blk_cell BK402.out 1).trans rfl, (blk_cell BK402.out 2).trans rfl⟩ (fun hHeld => ?_)
             clear hK K
             refine norm_ (a' := ?_) ?_ ?_
             rotate_left
             · show Act.put _ (some 14) _ = _
               simp only [Act.put, List.setIfInBounds_toArray, List.set_cons_zero, List.set_cons_succ, i64_w, i32_w]
               rfl
             exact norm_ (by (simp only [putAll, Act.put, List.setIfInBounds_toArray, List.set_cons_zero, List.set_cons_succ]; rfl)) (hJ3_4_8_9_11 (_, _, _, _, gb426) _ ⟨hHeld, (by (with_reducible repeat (fail)); exact Kd.N_mono HO409.out (fun _ hk => ⟨hk.1.1, ⟨hk.1.2.1, ⟨hk.1.2.2.1, ⟨hk.1.2.2.2.1, ⟨hk.1.2.2.2.2, hk.2⟩⟩⟩⟩⟩)), (by (with_reducible repeat (fail)); exact Kd.N_mono HO414.out (fun _ hk => ⟨hk.1.1, ⟨hk.1.2.1, ⟨hk.1.2.2.1, ⟨hk.1.2.2.2, hk.2⟩⟩⟩⟩)), (by (with_reducible repeat (fail)); exact Kd.N_mono HO419.out (fun _ hk => ⟨hk.1.1, ⟨hk.1.2.1, ⟨hk.1.2.2.1, ⟨hk.1.2.2.2.1, ⟨hk.1.2.2.2.2, hk.2⟩⟩⟩⟩⟩)), (by (with_reducible repeat (fail)); exact Kd.N_mono HO424.out (fun _ hk => ⟨hk.1.1, ⟨hk.1.2.1, ⟨hk.1.2.2.1, ⟨hk.1.2.2.2, hk.2⟩⟩⟩⟩)), BK402.out, BK403.out, BK426.out, GW426.out, GE426.out, NB402_426.out, NB426_402.out, NB403_426.out, NB426_403.out, HB.out⟩)
       · skip
         rintro ⟨v408, v413, v418, gb425, gb426⟩ w23 ⟨hS_, h0_, h1_, h2_, h3_, h4_, h5_, h6_, h7_, h8_, h9_, h10_, h11_, h12_, h13_, h14_, h15_, h16_, h17_, h18_, h19_, h20_, h21_⟩
         have HO409 : Aside0 (Kd.N k24 24 w23 w.heap.size (fun k_ => some k_ ≠ (v413 : Value).ownBlock ∧ some k_ ≠ (v418 : Value).ownBlock ∧ k_ ≠ gb402 ∧ k_ ≠ gb403 ∧ k_ ≠ gb425 ∧ k_ ≠ gb426) v408 t407) := ⟨h0_⟩
         have HO414 : Aside0 (Kd.N k24 24 w23 w.heap.size (fun k_ => some k_ ≠ (v418 : Value).ownBlock ∧ k_ ≠ gb402 ∧ k_ ≠ gb403 ∧ k_ ≠ gb425 ∧ k_ ≠ gb426) v413 t412) := ⟨h1_⟩
         have HO419 : Aside0 (Kd.N k24 24 w23 w.heap.size (fun k_ => some k_ ≠ (v408 : Value).ownBlock ∧ some k_ ≠ (v413 : Value).ownBlock ∧ k_ ≠ gb402 ∧ k_ ≠ gb403 ∧ k_ ≠ gb425 ∧ k_ ≠ gb426) v418 t417) := ⟨h2_⟩
         replace BK402 : Aside0 (w23.heap[gb402]? = some (.cells #[.int .i64 a0_0, .int .i64 a0_1, .slice A0_2 l0_2.length c0_2] 24 (0, 0))) := ⟨h3_⟩
         replace BK403 : Aside0 (w23.heap[gb403]? = some (.cells #[.int .i64 a3_0, .int .i64 a3_1, .int .i64 a3_2, .int .i64 a3_3, .int .i64 a3_4, .int .i64 a3_5, .int .i64 a3_6, .int .i64 a3_7] 25 (0, 0))) := ⟨h4_⟩
         have BK425 : Aside0 (w23.heap[gb425]? = some (.cells #[.int .i64 0, .int .i64 0, .slice none 0 0] 24 (0, 0))) := ⟨h5_⟩
         have BK426 : Aside0 (w23.heap[gb426]? = some (.cells #[.int .i64 0, .int .i64 0, .slice none 0 0] 24 (0, 0))) := ⟨h6_⟩
         have GW425 : Aside0 (w.heap.size ≤ gb425) := ⟨h7_⟩
         have GE425 : Aside0 (w.heap.size ≤ gb425) := ⟨h8_⟩
         have NB402_425 : Aside0 (gb402 ≠ gb425) := ⟨h9_⟩
         have NB425_402 : Aside0 (gb425 ≠ gb402) := ⟨h10_⟩
         have NB403_425 : Aside0 (gb403 ≠ gb425) := ⟨h11_⟩
         have NB425_403 : Aside0 (gb425 ≠ gb403) := ⟨h12_⟩
         have NB426_425 : Aside0 (gb426 ≠ gb425) := ⟨h13_⟩
         have NB425_426 : Aside0 (gb425 ≠ gb426) := ⟨h14_⟩
         have GW426 : Aside0 (w.heap.size ≤ gb426) := ⟨h15_⟩
         have GE426 : Aside0 (w.heap.size ≤ gb426) := ⟨h16_⟩
         have NB402_426 : Aside0 (gb402 ≠ gb426) := ⟨h17_⟩
         have NB426_402 : Aside0 (gb426 ≠ gb402) := ⟨h18_⟩
         have NB403_426 : Aside0 (gb403 ≠ gb426) := ⟨h19_⟩
         have NB426_403 : Aside0 (gb426 ≠ gb403) := ⟨h20_⟩
         replace HB : Aside0 (Below w.heap.size w w23) := ⟨h21_⟩
         clear h0_ h1_ h2_ h3_ h4_ h5_ h6_ h7_ h8_ h9_ h10_ h11_ h12_ h13_ h14_ h15_ h16_ h17_ h18_ h19_ h20_ h21_
         have hHeld : w23.cell? ⟨gb402, 0, none⟩ = some (.int .i64 a0_0) ∧ w23.cell? ⟨gb402, 1, none⟩ = some (.int .i64 a0_1) ∧ w23.cell? ⟨gb402, 2, none⟩ = some (.slice A0_2 l0_2.length c0_2) := hS_
         obtain ⟨Ao24, co24, eo24⟩ := Kd.N_slice HO419.out
         (subst eo24)
         refine norm_ (a' := ?_) ?_ ?_
         rotate_left
         · simp only [putAll, Act.put, List.setIfInBounds_toArray, List.set_cons_zero, List.set_cons_succ]
           rfl
         refine one_ (i := 9) (N := some 36) #[true, true, true, true, true, true, true, true, true, true, true, true, false, false] rfl rfl (one_of HT_.out (by kernel_rfl)) (by decide) (fun K hK => ?_)
         refine goes_ Try.func23 (by kernel_rfl) rfl #[.int .i64 7, .int .i64 (wrap64 (1 + (Int.tmod (wrap64 ((Int.tmod a4 1000) + 1000)) 1000))), .agg #[.int .i64 t415, .int .i64 t416, .slice Ao24 t417.length co24]] (by rfl) rfl rfl (by (try simp only [List.map_toArray, List.map_cons, List.map_nil]); rfl) ?_
         with_reducible refine (formelaw14_one.calls 7 (wrap64 (1 + (Int.tmod (wrap64 ((Int.tmod a4 1000) + 1000)) 1000))) t415 t416 (fun k_ => (some k_ ≠ (v408 : Value).ownBlock ∧ (some k_ ≠ (v413 : Value).ownBlock ∧ (k_ ≠ gb402 ∧ (k_ ≠ gb403 ∧ (k_ ≠ gb425 ∧ k_ ≠ gb426)))))) _ _ t417 t420 t421 t422 _ ?side1 A10.out).mono ?_
         (case side1 => exact Kd.N_V (HO419.out))
         rintro e w25 ⟨v423, rfl, ho0, hb⟩
         refine ⟨_, rfl, ?_⟩
         replace HO419 := Aside0.mk (Kd.N_elder' HO419.out (Kd.N_base ho0) hb)
         have HO424 := Aside0.mk (Kd.N_lower (Kd.N_mono (ok' := fun k_ => some k_ ≠ (v408 : Value).ownBlock ∧ some k_ ≠ (v413 : Value).ownBlock ∧ k_ ≠ gb402 ∧ k_ ≠ gb403 ∧ k_ ≠ gb425 ∧ k_ ≠ gb426) ho0 (fun k_ hk_ => ⟨Or.elim hk_ (fun hs_ => hs_.1) (fun hn_ => (Kd.fresh' (Kd.N_lt HO409.out) k_ hn_)), Or.elim hk_ (fun hs_ => hs_.2.1) (fun hn_ => (Kd.fresh' (Kd.N_lt HO414.out) k_ hn_)), Or.elim hk_ (fun hs_ => hs_.2.2.1) (fun hn_ => (Kd.freshB BK402.out k_ hn_)), Or.elim hk_ (fun hs_ => hs_.2.2.2.1) (fun hn_ => (Kd.freshB BK403.out k_ hn_)), Or.elim hk_ (fun hs_ => hs_.2.2.2.2.1) (fun hn_ => (Kd.freshB BK425.out k_ hn_)), Or.elim hk_ (fun hs_ => hs_.2.2.2.2.2) (fun hn_ => (Kd.freshB BK426.out k_ hn_))⟩)) (below_size HB.out))
         replace HO409 := Aside0.mk (Kd.N_elder' HO409.out (Kd.N_base ho0) hb)
         replace HO414 := Aside0.mk (Kd.N_elder' HO414.out (Kd.N_base ho0) hb)
         replace BK402 := Aside0.mk (blk_below BK402.out hb)
         replace BK403 := Aside0.mk (blk_below BK403.out hb)
         replace BK425 := Aside0.mk (blk_below BK425.out hb)
         replace BK426 := Aside0.mk (blk_below BK426.out hb)
         replace HB := Aside0.mk (below_step HB.out hb)
         (try clear hb)
         (try clear ho0)
         refine hK.out _ _ ⟨(blk_cell BK402.out 0).trans rfl, (blk_cell BK402.out 1).trans rfl, (blk_cell BK402.out 2).trans rfl⟩ (fun hHeld => ?_)
         clear hK K
         refine norm_ (a' := ?_) ?_ ?_
         rotate_left
         · show Act.put _ (some 36) _ = _
           simp only [Act.put, List.setIfInBounds_toArray, List.set_cons_zero, List.set_cons_succ, i64_w, i32_w]
           rfl
         exact norm_ (by (simp only [putAll, Act.put, List.setIfInBounds_toArray, List.set_cons_zero, List.set_cons_succ]; done)) (hJ3_4_8_9_10_11 (v408, v413, .slice Ao24 t417.length co24, v423, gb425, gb426) _ ⟨hHeld, (by (with_reducible repeat (fail)); exact Kd.N_mono HO409.out (fun _ hk => ⟨hk.1.1, ⟨hk.1.2.1, ⟨hk.2, ⟨hk.1.2.2.1, ⟨hk.1.2.2.2.1, ⟨hk.1.2.2.2.2.1, hk.1.2.2.2.2.2⟩⟩⟩⟩⟩⟩)), (by (with_reducible repeat (fail)); exact Kd.N_mono HO414.out (fun _ hk => ⟨hk.1.1, ⟨hk.2, ⟨hk.1.2.1, ⟨hk.1.2.2.1, ⟨hk.1.2.2.2.1, hk.1.2.2.2.2⟩⟩⟩⟩⟩)), (by (with_reducible repeat (fail)); exact Kd.N_mono HO419.out (fun _ hk => ⟨hk.1.1, ⟨hk.1.2.1, ⟨hk.2, ⟨hk.1.2.2.1, ⟨hk.1.2.2.2.1, ⟨hk.1.2.2.2.2.1, hk.1.2.2.2.2.2⟩⟩⟩⟩⟩⟩)), HO424.out, BK402.out, BK403.out, BK425.out, BK426.out, GW425.out, GE425.out, NB402_425.out, NB425_402.out, NB403_425.out, NB425_403.out, NB426_425.out, NB425_426.out, GW426.out, GE426.out, NB402_426.out, NB426_402.out, NB403_426.out, NB426_403.out, HB.out⟩)
     · skip
       rintro ⟨v408, v413, v418, v423, gb426⟩ w24 ⟨hS_, h0_, h1_, h2_, h3_, h4_, h5_, h6_, h7_, h8_, h9_, h10_, h11_, h12_, h13_⟩
       have HO409 : Aside0 (Kd.N k24 24 w24 w.heap.size (fun k_ => some k_ ≠ (v413 : Value).ownBlock ∧ some k_ ≠ (v418 : Value).ownBlock ∧ some k_ ≠ (v423 : Value).ownBlock ∧ k_ ≠ gb402 ∧ k_ ≠ gb403 ∧ k_ ≠ gb426) v408 t407) := ⟨h0_⟩
       have HO414 : Aside0 (Kd.N k24 24 w24 w.heap.size (fun k_ => some k_ ≠ (v418 : Value).ownBlock ∧ some k_ ≠ (v423 : Value).ownBlock ∧ k_ ≠ gb402 ∧ k_ ≠ gb403 ∧ k_ ≠ gb426) v413 t412) := ⟨h1_⟩
       have HO419 : Aside0 (Kd.N k24 24 w24 w.heap.size (fun k_ => some k_ ≠ (v408 : Value).ownBlock ∧ some k_ ≠ (v413 : Value).ownBlock ∧ some k_ ≠ (v423 : Value).ownBlock ∧ k_ ≠ gb402 ∧ k_ ≠ gb403 ∧ k_ ≠ gb426) v418 t417) := ⟨h2_⟩
       have HO424 : Aside0 (Kd.N k24 24 w24 w.heap.size (fun k_ => some k_ ≠ (v408 : Value).ownBlock ∧ some k_ ≠ (v413 : Value).ownBlock ∧ k_ ≠ gb402 ∧ k_ ≠ gb403 ∧ k_ ≠ gb426) v423 t422) := ⟨h3_⟩
       replace BK402 : Aside0 (w24.heap[gb402]? = some (.cells #[.int .i64 a0_0, .int .i64 a0_1, .slice A0_2 l0_2.length c0_2] 24 (0, 0))) := ⟨h4_⟩
       replace BK403 : Aside0 (w24.heap[gb403]? = some (.cells #[.int .i64 a3_0, .int .i64 a3_1, .int .i64 a3_2, .int .i64 a3_3, .int .i64 a3_4, .int .i64 a3_5, .int .i64 a3_6, .int .i64 a3_7] 25 (0, 0))) := ⟨h5_⟩
       have BK426 : Aside0 (w24.heap[gb426]? = some (.cells #[.int .i64 0, .int .i64 0, .slice none 0 0] 24 (0, 0))) := ⟨h6_⟩
       have GW426 : Aside0 (w.heap.size ≤ gb426) := ⟨h7_⟩
       have GE426 : Aside0 (w.heap.size ≤ gb426) := ⟨h8_⟩
       have NB402_426 : Aside0 (gb402 ≠ gb426) := ⟨h9_⟩
       have NB426_402 : Aside0 (gb426 ≠ gb402) := ⟨h10_⟩
       have NB403_426 : Aside0 (gb403 ≠ gb426) := ⟨h11_⟩
       have NB426_403 : Aside0 (gb426 ≠ gb403) := ⟨h12_⟩
       replace HB : Aside0 (Below w.heap.size w w24) := ⟨h13_⟩
       clear h0_ h1_ h2_ h3_ h4_ h5_ h6_ h7_ h8_ h9_ h10_ h11_ h12_ h13_
       have hHeld : w24.cell? ⟨gb402, 0, none⟩ = some (.int .i64 a0_0) ∧ w24.cell? ⟨gb402, 1, none⟩ = some (.int .i64 a0_1) ∧ w24.cell? ⟨gb402, 2, none⟩ = some (.slice A0_2 l0_2.length c0_2) := hS_
       refine norm_ (a' := ?_) ?_ ?_
       rotate_left
       · simp only [putAll, Act.put, List.setIfInBounds_toArray, List.set_cons_zero, List.set_cons_succ]
         rfl
       refine one_ (i := 10) (N := some 13) #[true, true, true, true, true, true, true, true, true, true, true, true, false, false] rfl rfl (one_of HT_.out (by kernel_rfl)) (by decide) (fun K hK => ?_)
       refine box_step ?hg (N := 13) ?hd (cs := #[.int .i64 0, .int .i64 0, .slice none 0 0]) (t := 24) ?hr ?_; (case hd => rfl); (case hg => rfl); (case hr => (go_simp; done))
       intro gb425 hg w25 hbox hb
       replace HO409 := Aside0.mk (Kd.N_below (Kd.N_elderB HO409.out gb425 (Nat.le_of_eq hg.symm)) hb)
       replace HO414 := Aside0.mk (Kd.N_below (Kd.N_elderB HO414.out gb425 (Nat.le_of_eq hg.symm)) hb)
       replace HO419 := Aside0.mk (Kd.N_below (Kd.N_elderB HO419.out gb425 (Nat.le_of_eq hg.symm)) hb)
       replace HO424 := Aside0.mk (Kd.N_below (Kd.N_elderB HO424.out gb425 (Nat.le_of_eq hg.symm)) hb)
       have BK425 := Aside0.mk (hbox)
       have GW425 := Aside0.mk ((by rw [hg]; exact (below_size HB.out) : w.heap.size ≤ gb425))
       have GE425 := Aside0.mk ((by rw [hg]; exact (below_size HB.out) : w.heap.size ≤ gb425))
       replace HB := Aside0.mk (below_step HB.out hb)
       have NB402_425 := Aside0.mk ((by rw [hg]; exact Nat.ne_of_lt (blk_lt BK402.out) : gb402 ≠ gb425))
       have NB425_402 := Aside0.mk ((by rw [hg]; exact Nat.ne_of_gt (blk_lt BK402.out) : gb425 ≠ gb402))
       replace BK402 := Aside0.mk (blk_below BK402.out hb)
       have NB403_425 := Aside0.mk ((by rw [hg]; exact Nat.ne_of_lt (blk_lt BK403.out) : gb403 ≠ gb425))
       have NB425_403 := Aside0.mk ((by rw [hg]; exact Nat.ne_of_gt (blk_lt BK403.out) : gb425 ≠ gb403))
       replace BK403 := Aside0.mk (blk_below BK403.out hb)
       have NB426_425 := Aside0.mk ((by rw [hg]; exact Nat.ne_of_lt (blk_lt BK426.out) : gb426 ≠ gb425))
       have NB425_426 := Aside0.mk ((by rw [hg]; exact Nat.ne_of_gt (blk_lt BK426.out) : gb425 ≠ gb426))
       replace BK426 := Aside0.mk (blk_below BK426.out hb)
       clear hb hbox hg
       refine hK.out _ _ ⟨(blk_cell BK402.out 0).trans rfl, (blk_cell BK402.out 1).trans rfl, (blk_cell BK402.out 2).trans rfl⟩ (fun hHeld => ?_)
       clear hK K
       refine norm_ (a' := ?_) ?_ ?_
       rotate_left
       · show Act.put _ (some 13) _ = _
         simp only [Act.put, List.setIfInBounds_toArray, List.set_cons_zero, List.set_cons_succ, i64_w, i32_w]
         rfl
       exact norm_ (by (simp only [putAll, Act.put, List.setIfInBounds_toArray, List.set_cons_zero, List.set_cons_succ]; rfl)) (hJ3_4_8_9_10_11 (_, _, _, _, gb425, gb426) _ ⟨hHeld, (by (with_reducible repeat (fail)); exact Kd.N_mono HO409.out (fun _ hk => ⟨hk.1.1, ⟨hk.1.2.1, ⟨hk.1.2.2.1, ⟨hk.1.2.2.2.1, ⟨hk.1.2.2.2.2.1, ⟨hk.2, hk.1.2.2.2.2.2⟩⟩⟩⟩⟩⟩)), (by (with_reducible repeat (fail)); exact Kd.N_mono HO414.out (fun _ hk => ⟨hk.1.1, ⟨hk.1.2.1, ⟨hk.1.2.2.1, ⟨hk.1.2.2.2.1, ⟨hk.2, hk.1.2.2.2.2⟩⟩⟩⟩⟩)), (by (with_reducible repeat (fail)); exact Kd.N_mono HO419.out (fun _ hk => ⟨hk.1.1, ⟨hk.1.2.1, ⟨hk.1.2.2.1, ⟨hk.1.2.2.2.1, ⟨hk.1.2.2.2.2.1, ⟨hk.2, hk.1.2.2.2.2.2⟩⟩⟩⟩⟩⟩)), (by (with_reducible repeat (fail)); exact Kd.N_mono HO424.out (fun _ hk => ⟨hk.1.1, ⟨hk.1.2.1, ⟨hk.1.2.2.1, ⟨hk.1.2.2.2.1, ⟨hk.2, hk.1.2.2.2.2⟩⟩⟩⟩⟩)), BK402.out, BK403.out, BK425.out, BK426.out, GW425.out, GE425.out, NB402_425.out, NB425_402.out, NB403_425.out, NB425_403.out, NB426_425.out, NB425_426.out, GW426.out, GE426.out, NB402_426.out, NB426_402.out, NB403_426.out, NB426_403.out, HB.out⟩)
   · skip
     rintro ⟨v408, v413, v418, v423, gb425⟩ w24 ⟨hS_, h0_, h1_, h2_, h3_, h4_, h5_, h6_, h7_, h8_, h9_, h10_, h11_, h12_, h13_⟩
     have HO409 : Aside0 (Kd.N k24 24 w24 w.heap.size (fun k_ => some k_ ≠ (v413 : Value).ownBlock ∧ some k_ ≠ (v418 : Value).ownBlock ∧ some k_ ≠ (v423 : Value).ownBlock ∧ k_ ≠ gb402 ∧ k_ ≠ gb403 ∧ k_ ≠ gb425) v408 t407) := ⟨h0_⟩
     have HO414 : Aside0 (Kd.N k24 24 w24 w.heap.size (fun k_ => some k_ ≠ (v418 : Value).ownBlock ∧ some k_ ≠ (v423 : Value).ownBlock ∧ k_ ≠ gb402 ∧ k_ ≠ gb403 ∧ k_ ≠ gb425) v413 t412) := ⟨h1_⟩
     have HO419 : Aside0 (Kd.N k24 24 w24 w.heap.size (fun k_ => some k_ ≠ (v408 : Value).ownBlock ∧ some k_ ≠ (v413 : Value).ownBlock ∧ some k_ ≠ (v423 : Value).ownBlock ∧ k_ ≠ gb402 ∧ k_ ≠ gb403 ∧ k_ ≠ gb425) v418 t417) := ⟨h2_⟩
     have HO424 : Aside0 (Kd.N k24 24 w24 w.heap.size (fun k_ => some k_ ≠ (v408 : Value).ownBlock ∧ some k_ ≠ (v413 : Value).ownBlock ∧ k_ ≠ gb402 ∧ k_ ≠ gb403 ∧ k_ ≠ gb425) v423 t422) := ⟨h3_⟩
     replace BK402 : Aside0 (w24.heap[gb402]? = some (.cells #[.int .i64 a0_0, .int .i64 a0_1, .slice A0_2 l0_2.length c0_2] 24 (0, 0))) := ⟨h4_⟩
     replace BK403 : Aside0 (w24.heap[gb403]? = some (.cells #[.int .i64 a3_0, .int .i64 a3_1, .int .i64 a3_2, .int .i64 a3_3, .int .i64 a3_4, .int .i64 a3_5, .int .i64 a3_6, .int .i64 a3_7] 25 (0, 0))) := ⟨h5_⟩
     have BK425 : Aside0 (w24.heap[gb425]? = some (.cells #[.int .i64 0, .int .i64 0, .slice none 0 0] 24 (0, 0))) := ⟨h6_⟩
     have GW425 : Aside0 (w.heap.size ≤ gb425) := ⟨h7_⟩
     have GE425 : Aside0 (w.heap.size ≤ gb425) := ⟨h8_⟩
     have NB402_425 : Aside0 (gb402 ≠ gb425) := ⟨h9_⟩
     have NB425_402 : Aside0 (gb425 ≠ gb402) := ⟨h10_⟩
     have NB403_425 : Aside0 (gb403 ≠ gb425) := ⟨h11_⟩
     have NB425_403 : Aside0 (gb425 ≠ gb403) := ⟨h12_⟩
     replace HB : Aside0 (Below w.heap.size w w24) := ⟨h13_⟩
     clear h0_ h1_ h2_ h3_ h4_ h5_ h6_ h7_ h8_ h9_ h10_ h11_ h12_ h13_
     have hHeld : w24.cell? ⟨gb402, 0, none⟩ = some (.int .i64 a0_0) ∧ w24.cell? ⟨gb402, 1, none⟩ = some (.int .i64 a0_1) ∧ w24.cell? ⟨gb402, 2, none⟩ = some (.slice A0_2 l0_2.length c0_2) := hS_
     refine norm_ (a' := ?_) ?_ ?_
     rotate_left
     · simp only [putAll, Act.put, List.setIfInBounds_toArray, List.set_cons_zero, List.set_cons_succ]
       rfl
     refine one_ (i := 11) (N := some 14) #[true, true, true, true, true, true, true, true, true, true, true, true, false, false] rfl rfl (one_of HT_.out (by kernel_rfl)) (by decide) (fun K hK => ?_)
     refine box_step ?hg (N := 14) ?hd (cs := #[.int .i64 0, .int .i64 0, .slice none 0 0]) (t := 24) ?hr ?_; (case hd => rfl); (case hg => rfl); (case hr => (go_simp; done))
     intro gb426 hg w25 hbox hb
     replace HO409 := Aside0.mk (Kd.N_below (Kd.N_elderB HO409.out gb426 (Nat.le_of_eq hg.symm)) hb)
     replace HO414 := Aside0.mk (Kd.N_below (Kd.N_elderB HO414.out gb426 (Nat.le_of_eq hg.symm)) hb)
     replace HO419 := Aside0.mk (Kd.N_below (Kd.N_elderB HO419.out gb426 (Nat.le_of_eq hg.symm)) hb)
     replace HO424 := Aside0.mk (Kd.N_below (Kd.N_elderB HO424.out gb426 (Nat.le_of_eq hg.symm)) hb)
     have BK426 := Aside0.mk (hbox)
     have GW426 := Aside0.mk ((by rw [hg]; exact (below_size HB.out) : w.heap.size ≤ gb426))
     have GE426 := Aside0.mk ((by rw [hg]; exact (below_size HB.out) : w.heap.size ≤ gb426))
     replace HB := Aside0.mk (below_step HB.out hb)
     have NB402_426 := Aside0.mk ((by rw [hg]; exact Nat.ne_of_lt (blk_lt BK402.out) : gb402 ≠ gb426))
     have NB426_402 := Aside0.mk ((by rw [hg]; exact Nat.ne_of_gt (blk_lt BK402.out) : gb426 ≠ gb402))
     replace BK402 := Aside0.mk (blk_below BK402.out hb)
     have NB403_426 := Aside0.mk ((by rw [hg]; exact Nat.ne_of_lt (blk_lt BK403.out) : gb403 ≠ gb426))
     have NB426_403 := Aside0.mk ((by rw [hg]; exact Nat.ne_of_gt (blk_lt BK403.out) : gb426 ≠ gb403))
     replace BK403 := Aside0.mk (blk_below BK403.out hb)
     have NB425_426 := Aside0.mk ((by rw [hg]; exact Nat.ne_of_lt (blk_lt BK425.out) : gb425 ≠ gb426))
     have NB426_425 := Aside0.mk ((by rw [hg]; exact Nat.ne_of_gt (blk_lt BK425.out) : gb426 ≠ gb425))
     replace BK425 := Aside0.mk (blk_below BK425.out hb)
     clear hb hbox hg
     refine hK.out _ _ ⟨(blk_cell BK402.out 0).trans rfl, (blk_cell BK402.out 1).trans rfl, (blk_cell BK402.out 2).trans rfl⟩ (fun hHeld => ?_)
     clear hK K
     refine norm_ (a' := ?_) ?_ ?_
     rotate_left
     · show Act.put _ (some 14) _ = _
       simp only [Act.put, List.setIfInBounds_toArray, List.set_cons_zero, List.set_cons_succ, i64_w, i32_w]
       rfl
     exact norm_ (by (simp only [putAll, Act.put, List.setIfInBounds_toArray, List.set_cons_zero, List.set_cons_succ]; rfl)) (hJ3_4_8_9_10_11 (_, _, _, _, gb425, gb426) _ ⟨hHeld, (by (with_reducible repeat (fail)); exact Kd.N_mono HO409.out (fun _ hk => ⟨hk.1.1, ⟨hk.1.2.1, ⟨hk.1.2.2.1, ⟨hk.1.2.2.2.1, ⟨hk.1.2.2.2.2.1, ⟨hk.1.2.2.2.2.2, hk.2⟩⟩⟩⟩⟩⟩)), (by (with_reducible repeat (fail)); exact Kd.N_mono HO414.out (fun _ hk => ⟨hk.1.1, ⟨hk.1.2.1, ⟨hk.1.2.2.1, ⟨hk.1.2.2.2.1, ⟨hk.1.2.2.2.2, hk.2⟩⟩⟩⟩⟩)), (by (with_reducible repeat (fail)); exact Kd.N_mono HO419.out (fun _ hk => ⟨hk.1.1, ⟨hk.1.2.1, ⟨hk.1.2.2.1, ⟨hk.1.2.2.2.1, ⟨hk.1.2.2.2.2.1, ⟨hk.1.2.2.2.2.2, hk.2⟩⟩⟩⟩⟩⟩)), (by (with_reducible repeat (fail)); exact Kd.N_mono HO424.out (fun _ hk => ⟨hk.1.1, ⟨hk.1.2.1, ⟨hk.1.2.2.1, ⟨hk.1.2.2.2.1, ⟨hk.1.2.2.2.2, hk.2⟩⟩⟩⟩⟩)), BK402.out, BK403.out, BK425.out, BK426.out, GW425.out, GE425.out, NB402_425.out, NB425_402.out, NB403_425.out, NB425_403.out, NB426_425.out, NB425_426.out, GW426.out, GE426.out, NB402_426.out, NB426_402.out, NB403_426.out, NB426_403.out, HB.out⟩)
 rintro ⟨v408, v413, v418, v423, gb425, gb426⟩ w25 ⟨hS_, h0_, h1_, h2_, h3_, h4_, h5_, h6_, h7_, h8_, h9_, h10_, h11_, h12_, h13_, h14_, h15_, h16_, h17_, h18_, h19_, h20_, h21_, h22_⟩
 have HO409 : Aside0 (Kd.N k24 24 w25 w.heap.size (fun k_ => some k_ ≠ (v413 : Value).ownBlock ∧ some k_ ≠ (v418 : Value).ownBlock ∧ some k_ ≠ (v423 : Value).ownBlock ∧ k_ ≠ gb402 ∧ k_ ≠ gb403 ∧ k_ ≠ gb425 ∧ k_ ≠ gb426) v408 t407) := ⟨h0_⟩
 have HO414 : Aside0 (Kd.N k24 24 w25 w.heap.size (fun k_ => some k_ ≠ (v418 : Value).ownBlock ∧ some k_ ≠ (v423 : Value).ownBlock ∧ k_ ≠ gb402 ∧ k_ ≠ gb403 ∧ k_ ≠ gb425 ∧ k_ ≠ gb426) v413 t412) := ⟨h1_⟩
 have HO419 : Aside0 (Kd.N k24 24 w25 w.heap.size (fun k_ => some k_ ≠ (v408 : Value).ownBlock ∧ some k_ ≠ (v413 : Value).ownBlock ∧ some k_ ≠ (v423 : Value).ownBlock ∧ k_ ≠ gb402 ∧ k_ ≠ gb403 ∧ k_ ≠ gb425 ∧ k_ ≠ gb426) v418 t417) := ⟨h2_⟩
 have HO424 : Aside0 (Kd.N k24 24 w25 w.heap.size (fun k_ => some k_ ≠ (v408 : Value).ownBlock ∧ some k_ ≠ (v413 : Value).ownBlock ∧ k_ ≠ gb402 ∧ k_ ≠ gb403 ∧ k_ ≠ gb425 ∧ k_ ≠ gb426) v423 t422) := ⟨h3_⟩
 replace BK402 : Aside0 (w25.heap[gb402]? = some (.cells #[.int .i64 a0_0, .int .i64 a0_1, .slice A0_2 l0_2.length c0_2] 24 (0, 0))) := ⟨h4_⟩
 replace BK403 : Aside0 (w25.heap[gb403]? = some (.cells #[.int .i64 a3_0, .int .i64 a3_1, .int .i64 a3_2, .int .i64 a3_3, .int .i64 a3_4, .int .i64 a3_5, .int .i64 a3_6, .int .i64 a3_7] 25 (0, 0))) := ⟨h5_⟩
 have BK425 : Aside0 (w25.heap[gb425]? = some (.cells #[.int .i64 0, .int .i64 0, .slice none 0 0] 24 (0, 0))) := ⟨h6_⟩
 have BK426 : Aside0 (w25.heap[gb426]? = some (.cells #[.int .i64 0, .int .i64 0, .slice none 0 0] 24 (0, 0))) := ⟨h7_⟩
 have GW425 : Aside0 (w.heap.size ≤ gb425) := ⟨h8_⟩
 have GE425 : Aside0 (w.heap.size ≤ gb425) := ⟨h9_⟩
 have NB402_425 : Aside0 (gb402 ≠ gb425) := ⟨h10_⟩
 have NB425_402 : Aside0 (gb425 ≠ gb402) := ⟨h11_⟩
 have NB403_425 : Aside0 (gb403 ≠ gb425) := ⟨h12_⟩
 have NB425_403 : Aside0 (gb425 ≠ gb403) := ⟨h13_⟩
 have NB426_425 : Aside0 (gb426 ≠ gb425) := ⟨h14_⟩
 have NB425_426 : Aside0 (gb425 ≠ gb426) := ⟨h15_⟩
 have GW426 : Aside0 (w.heap.size ≤ gb426) := ⟨h16_⟩
 have GE426 : Aside0 (w.heap.size ≤ gb426) := ⟨h17_⟩
 have NB402_426 : Aside0 (gb402 ≠ gb426) := ⟨h18_⟩
 have NB426_402 : Aside0 (gb426 ≠ gb402) := ⟨h19_⟩
 have NB403_426 : Aside0 (gb403 ≠ gb426) := ⟨h20_⟩
 have NB426_403 : Aside0 (gb426 ≠ gb403) := ⟨h21_⟩
 replace HB : Aside0 (Below w.heap.size w w25) := ⟨h22_⟩
 clear h0_ h1_ h2_ h3_ h4_ h5_ h6_ h7_ h8_ h9_ h10_ h11_ h12_ h13_ h14_ h15_ h16_ h17_ h18_ h19_ h20_ h21_ h22_
 have hHeld : w25.cell? ⟨gb402, 0, none⟩ = some (.int .i64 a0_0) ∧ w25.cell? ⟨gb402, 1, none⟩ = some (.int .i64 a0_1) ∧ w25.cell? ⟨gb402, 2, none⟩ = some (.slice A0_2 l0_2.length c0_2) := hS_
 obtain ⟨Ao28, co28, eo28⟩ := Kd.N_slice HO414.out
 (subst eo28)
 obtain ⟨Ao32, co32, eo32⟩ := Kd.N_slice HO424.out
 (subst eo32)
 refine norm_ (a' := ?_) ?_ ?_
 rotate_left
 · simp only [putAll, Act.put, List.setIfInBounds_toArray, List.set_cons_zero, List.set_cons_succ]
   rfl
 refine one_ (i := 12) (N := none) #[true, true, true, true, true, true, true, true, true, true, true, true, true, false] rfl rfl (one_of HT_.out (by kernel_rfl)) (by decide) (fun K hK => ?_)
 have hs26 : w25.cell? ⟨gb425, 0, none⟩ = some (.int .i64 0) := (blk_cell BK425.out 0).trans rfl
 have hfs26 := blk_frozen BK425.out 0
 have hns26_0 := NB402_425.out
 have hns26_1 := NB403_425.out
 have hns26_3 := NB426_425.out
 have hms26_0 := NB425_402.out
 have hms26_1 := NB425_403.out
 have hms26_3 := NB425_426.out
 have hs27 : w25.cell? ⟨gb425, 1, none⟩ = some (.int .i64 0) := (blk_cell BK425.out 1).trans rfl
 have hfs27 := blk_frozen BK425.out 1
 have hns27_0 := NB402_425.out
 have hns27_1 := NB403_425.out
 have hns27_3 := NB426_425.out
 have hms27_0 := NB425_402.out
 have hms27_1 := NB425_403.out
 have hms27_3 := NB425_426.out
 have hs29 : w25.cell? ⟨gb425, 2, none⟩ = some (.slice none 0 0) := (blk_cell BK425.out 2).trans rfl
 have hfs29 := blk_frozen BK425.out 2
 have hns29_0 := NB402_425.out
 have hns29_1 := NB403_425.out
 have hns29_3 := NB426_425.out
 have hms29_0 := NB425_402.out
 have hms29_1 := NB425_403.out
 have hms29_3 := NB425_426.out
 refine skip_ (w1 := ?_) (by rfl) rfl ?_ ?_
 rotate_left
 · go_simp
   rfl
 refine hK.out _ _ ⟨((cell_far (p := ⟨gb425, _, none⟩) NB402_425.out _).trans (((cell_far (p := ⟨gb425, _, none⟩) NB402_425.out _).trans (((cell_far (p := ⟨gb425, _, none⟩) NB402_425.out _).trans (hHeld.1)))))), ((cell_far (p := ⟨gb425, _, none⟩) NB402_425.out _).trans (((cell_far (p := ⟨gb425, _, none⟩) NB402_425.out _).trans (((cell_far (p := ⟨gb425, _, none⟩) NB402_425.out _).trans (hHeld.2.1)))))), ((cell_far (p := ⟨gb425, _, none⟩) NB402_425.out _).trans (((cell_far (p := ⟨gb425, _, none⟩) NB402_425.out _).trans (((cell_far (p := ⟨gb425, _, none⟩) NB402_425.out _).trans (hHeld.2.2))))))⟩ (fun hHeld => ?_)
 clear hK K
 refine one_ (i := 13) (N := none) #[true, true, true, true, true, true, true, true, true, true, true, true, true, true] rfl rfl (one_of HT_.out (by kernel_rfl)) (by decide) (fun K hK => ?_)
 have hs30 : w25.cell? ⟨gb426, 0, none⟩ = some (.int .i64 0) := (blk_cell BK426.out 0).trans rfl
 have hfs30 := blk_frozen BK426.out 0
 have hns30_0 := NB402_426.out
 have hns30_1 := NB403_426.out
 have hns30_2 := NB425_426.out
 have hms30_0 := NB426_402.out
 have hms30_1 := NB426_403.out
 have hms30_2 := NB426_425.out
 have hs31 : w25.cell? ⟨gb426, 1, none⟩ = some (.int .i64 0) := (blk_cell BK426.out 1).trans rfl
 have hfs31 := blk_frozen BK426.out 1
 have hns31_0 := NB402_426.out
 have hns31_1 := NB403_426.out
 have hns31_2 := NB425_426.out
 have hms31_0 := NB426_402.out
 have hms31_1 := NB426_403.out
 have hms31_2 := NB426_425.out
 have hs33 : w25.cell? ⟨gb426, 2, none⟩ = some (.slice none 0 0) := (blk_cell BK426.out 2).trans rfl
 have hfs33 := blk_frozen BK426.out 2
 have hns33_0 := NB402_426.out
 have hns33_1 := NB403_426.out
 have hns33_2 := NB425_426.out
 have hms33_0 := NB426_402.out
 have hms33_1 := NB426_403.out
 have hms33_2 := NB426_425.out
 refine skip_ (w1 := ?_) (by rfl) rfl ?_ ?_
 rotate_left
 · go_simp
   rfl
 refine hK.out _ _ ⟨((cell_far (p := ⟨gb426, _, none⟩) NB402_426.out _).trans (((cell_far (p := ⟨gb426, _, none⟩) NB402_426.out _).trans (((cell_far (p := ⟨gb426, _, none⟩) NB402_426.out _).trans (hHeld.1)))))), ((cell_far (p := ⟨gb426, _, none⟩) NB402_426.out _).trans (((cell_far (p := ⟨gb426, _, none⟩) NB402_426.out _).trans (((cell_far (p := ⟨gb426, _, none⟩) NB402_426.out _).trans (hHeld.2.1)))))), ((cell_far (p := ⟨gb426, _, none⟩) NB402_426.out _).trans (((cell_far (p := ⟨gb426, _, none⟩) NB402_426.out _).trans (((cell_far (p := ⟨gb426, _, none⟩) NB402_426.out _).trans (hHeld.2.2))))))⟩ (fun hHeld => ?_)
 clear hK K
 refine done_ (done_of HT_.out (by kernel_rfl)) ?_
 have hnb34 := NB402_403.out
 have hnc34 := NB403_402.out
 have hnb35 := NB402_425.out
 have hnc35 := NB425_402.out
 have hnb36 := NB402_426.out
 have hnc36 := NB426_402.out
 have hcz37_0 : w25.cell? ⟨gb402, 0, none⟩ = some (.int .i64 a0_0) := (blk_cell BK402.out 0).trans rfl
 have hcz37_1 : w25.cell? ⟨gb402, 1, none⟩ = some (.int .i64 a0_1) := (blk_cell BK402.out 1).trans rfl
 have hcz37_2 : w25.cell? ⟨gb402, 2, none⟩ = some (.slice A0_2 l0_2.length c0_2) := (blk_cell BK402.out 2).trans rfl
 have hfz37_0 := blk_frozen BK402.out 0
 have hfz37_1 := blk_frozen BK402.out 1
 have hfz37_2 := blk_frozen BK402.out 2
 have hnb38 := NB403_425.out
 have hnc38 := NB425_403.out
 have hnb39 := NB403_426.out
 have hnc39 := NB426_403.out
 have hcz40_0 : w25.cell? ⟨gb403, 0, none⟩ = some (.int .i64 a3_0) := (blk_cell BK403.out 0).trans rfl
 have hcz40_1 : w25.cell? ⟨gb403, 1, none⟩ = some (.int .i64 a3_1) := (blk_cell BK403.out 1).trans rfl
 have hcz40_2 : w25.cell? ⟨gb403, 2, none⟩ = some (.int .i64 a3_2) := (blk_cell BK403.out 2).trans rfl
 have hcz40_3 : w25.cell? ⟨gb403, 3, none⟩ = some (.int .i64 a3_3) := (blk_cell BK403.out 3).trans rfl
 have hcz40_4 : w25.cell? ⟨gb403, 4, none⟩ = some (.int .i64 a3_4) := (blk_cell BK403.out 4).trans rfl
 have hcz40_5 : w25.cell? ⟨gb403, 5, none⟩ = some (.int .i64 a3_5) := (blk_cell BK403.out 5).trans rfl
 have hcz40_6 : w25.cell? ⟨gb403, 6, none⟩ = some (.int .i64 a3_6) := (blk_cell BK403.out 6).trans rfl
 have hcz40_7 : w25.cell? ⟨gb403, 7, none⟩ = some (.int .i64 a3_7) := (blk_cell BK403.out 7).trans rfl
 have hfz40_0 := blk_frozen BK403.out 0
 have hfz40_1 := blk_frozen BK403.out 1
 have hfz40_2 := blk_frozen BK403.out 2
 have hfz40_3 := blk_frozen BK403.out 3
 have hfz40_4 := blk_frozen BK403.out 4
 have hfz40_5 := blk_frozen BK403.out 5
 have hfz40_6 := blk_frozen BK403.out 6
 have hfz40_7 := blk_frozen BK403.out 7
 go_upto_region 5 with (((with_reducible refine gate_callee (f := 11) rfl ?_); refine goesL_ (some 42) rfl rfl Try.func11 (by kernel_rfl) rfl #[.agg #[.int .i64 a0_0, .int .i64 a0_1, .slice A0_2 l0_2.length c0_2], .int .i64 a1, .int .i64 a2, .agg #[.int .i64 a3_0, .int .i64 a3_1, .int .i64 a3_2, .int .i64 a3_3, .int .i64 a3_4, .int .i64 a3_5, .int .i64 a3_6, .int .i64 a3_7]] rfl (by (try simp only [List.map_toArray, List.map_cons, List.map_nil]); rfl) ?_; (with_reducible refine (value_Eval.calls a0_0 a0_1 _ _ l0_2 a1 a2 a3_0 a3_1 a3_2 a3_3 a3_4 a3_5 a3_6 a3_7 t427 t428 _ ?side1 ?side2 A11.out).mono ?_); (case side1 => exact Kd.C_below HR0_2.out (by repeat ((with_reducible first | exact HB.out | refine below_set ?_ GE425.out | refine below_set ?_ GE426.out)))); (case side2 => exact HC0_2.out); rintro e w41 ⟨rfl, hb⟩; refine ⟨_, rfl, ?_⟩; replace HO409 := Aside0.mk (Kd.N_below (by (with_reducible repeat (fail)); exact (Kd.N_mono (Kd.N_mono (Kd.N_far (p := ⟨gb426, 2, none⟩) (Kd.N_far (p := ⟨gb426, 1, none⟩) (Kd.N_far (p := ⟨gb426, 0, none⟩) (Kd.N_far (p := ⟨gb425, 2, none⟩) (Kd.N_far (p := ⟨gb425, 1, none⟩) (Kd.N_far (p := ⟨gb425, 0, none⟩) (Kd.N_mono (Kd.N_mono HO409.out (fun k_ hk => (⟨hk, hk.2.2.2.2.2.1⟩ : _ ∧ k_ ≠ gb425))) (fun k_ hk => (⟨hk, hk.1.2.2.2.2.2.2⟩ : _ ∧ k_ ≠ gb426))) (fun _ hk => hk.1.2) (.int .i64 t410)) (fun _ hk => hk.1.2) (.int .i64 t411)) (fun _ hk => hk.1.2) (.slice Ao28 t412.length co28)) (fun _ hk => hk.2) (.int .i64 t420)) (fun _ hk => hk.2) (.int .i64 t421)) (fun _ hk => hk.2) (.slice Ao32 t422.length co32)) (fun _ h_ => h_.1)) (fun _ h_ => h_.1))) hb); replace HO414 := Aside0.mk (Kd.N_below (by (with_reducible repeat (fail)); exact (Kd.N_mono (Kd.N_mono (Kd.N_far (p := ⟨gb426, 2, none⟩) (Kd.N_far (p := ⟨gb426, 1, none⟩) (Kd.N_far (p := ⟨gb426, 0, none⟩) (Kd.N_far (p := ⟨gb425, 2, none⟩) (Kd.N_far (p := ⟨gb425, 1, none⟩) (Kd.N_far (p := ⟨gb425, 0, none⟩) (Kd.N_mono (Kd.N_mono HO414.out (fun k_ hk => (⟨hk, hk.2.2.2.2.1⟩ : _ ∧ k_ ≠ gb425))) (fun k_ hk => (⟨hk, hk.1.2.2.2.2.2⟩ : _ ∧ k_ ≠ gb426))) (fun _ hk => hk.1.2) (.int .i64 t410)) (fun _ hk => hk.1.2) (.int .i64 t411)) (fun _ hk => hk.1.2) (.slice Ao28 t412.length co28)) (fun _ hk => hk.2) (.int .i64 t420)) (fun _ hk => hk.2) (.int .i64 t421)) (fun _ hk => hk.2) (.slice Ao32 t422.length co32)) (fun _ h_ => h_.1)) (fun _ h_ => h_.1))) hb); replace HO419 := Aside0.mk (Kd.N_below (by (with_reducible repeat (fail)); exact (Kd.N_mono (Kd.N_mono (Kd.N_far (p := ⟨gb426, 2, none⟩) (Kd.N_far (p := ⟨gb426, 1, none⟩) (Kd.N_far (p := ⟨gb426, 0, none⟩) (Kd.N_far (p := ⟨gb425, 2, none⟩) (Kd.N_far (p := ⟨gb425, 1, none⟩) (Kd.N_far (p := ⟨gb425, 0, none⟩) (Kd.N_mono (Kd.N_mono HO419.out (fun k_ hk => (⟨hk, hk.2.2.2.2.2.1⟩ : _ ∧ k_ ≠ gb425))) (fun k_ hk => (⟨hk, hk.1.2.2.2.2.2.2⟩ : _ ∧ k_ ≠ gb426))) (fun _ hk => hk.1.2) (.int .i64 t410)) (fun _ hk => hk.1.2) (.int .i64 t411)) (fun _ hk => hk.1.2) (.slice Ao28 t412.length co28)) (fun _ hk => hk.2) (.int .i64 t420)) (fun _ hk => hk.2) (.int .i64 t421)) (fun _ hk => hk.2) (.slice Ao32 t422.length co32)) (fun _ h_ => h_.1)) (fun _ h_ => h_.1))) hb); replace HO424 := Aside0.mk (Kd.N_below (by (with_reducible repeat (fail)); exact (Kd.N_mono (Kd.N_mono (Kd.N_far (p := ⟨gb426, 2, none⟩) (Kd.N_far (p := ⟨gb426, 1, none⟩) (Kd.N_far (p := ⟨gb426, 0, none⟩) (Kd.N_far (p := ⟨gb425, 2, none⟩) (Kd.N_far (p := ⟨gb425, 1, none⟩) (Kd.N_far (p := ⟨gb425, 0, none⟩) (Kd.N_mono (Kd.N_mono HO424.out (fun k_ hk => (⟨hk, hk.2.2.2.2.1⟩ : _ ∧ k_ ≠ gb425))) (fun k_ hk => (⟨hk, hk.1.2.2.2.2.2⟩ : _ ∧ k_ ≠ gb426))) (fun _ hk => hk.1.2) (.int .i64 t410)) (fun _ hk => hk.1.2) (.int .i64 t411)) (fun _ hk => hk.1.2) (.slice Ao28 t412.length co28)) (fun _ hk => hk.2) (.int .i64 t420)) (fun _ hk => hk.2) (.int .i64 t421)) (fun _ hk => hk.2) (.slice Ao32 t422.length co32)) (fun _ h_ => h_.1)) (fun _ h_ => h_.1))) hb); replace BK402 := Aside0.mk (blk_below (g := gb402) (o := .cells #[.int .i64 a0_0, .int .i64 a0_1, .slice A0_2 l0_2.length c0_2] 24 (0, 0)) (by (with_reducible repeat (fail)); refine blk_far ?_ NB402_426.out _; (with_reducible repeat (fail)); refine blk_far ?_ NB402_426.out _; (with_reducible repeat (fail)); refine blk_far ?_ NB402_426.out _; (with_reducible repeat (fail)); refine blk_far ?_ NB402_425.out _; (with_reducible repeat (fail)); refine blk_far ?_ NB402_425.out _; (with_reducible repeat (fail)); refine blk_far ?_ NB402_425.out _; (with_reducible repeat (fail)); exact BK402.out) hb); replace BK403 := Aside0.mk (blk_below (g := gb403) (o := .cells #[.int .i64 a3_0, .int .i64 a3_1, .int .i64 a3_2, .int .i64 a3_3, .int .i64 a3_4, .int .i64 a3_5, .int .i64 a3_6, .int .i64 a3_7] 25 (0, 0)) (by (with_reducible repeat (fail)); refine blk_far ?_ NB403_426.out _; (with_reducible repeat (fail)); refine blk_far ?_ NB403_426.out _; (with_reducible repeat (fail)); refine blk_far ?_ NB403_426.out _; (with_reducible repeat (fail)); refine blk_far ?_ NB403_425.out _; (with_reducible repeat (fail)); refine blk_far ?_ NB403_425.out _; (with_reducible repeat (fail)); refine blk_far ?_ NB403_425.out _; (with_reducible repeat (fail)); exact BK403.out) hb); replace BK425 := Aside0.mk (blk_below (g := gb425) (o := .cells #[.int .i64 t410, .int .i64 t411, .slice Ao28 t412.length co28] 24 (0, 0)) (by (with_reducible repeat (fail)); refine blk_far ?_ NB425_426.out _; (with_reducible repeat (fail)); refine blk_far ?_ NB425_426.out _; (with_reducible repeat (fail)); refine blk_far ?_ NB425_426.out _; (with_reducible repeat (fail)); refine blk_put (cs := #[.int .i64 t410, .int .i64 t411, .slice none 0 0]) ?_ 2 _ rfl; (with_reducible repeat (fail)); refine blk_put (cs := #[.int .i64 t410, .int .i64 0, .slice none 0 0]) ?_ 1 _ rfl; (with_reducible repeat (fail)); refine blk_put (cs := #[.int .i64 0, .int .i64 0, .slice none 0 0]) ?_ 0 _ rfl; (with_reducible repeat (fail)); exact BK425.out) hb); replace BK426 := Aside0.mk (blk_below (g := gb426) (o := .cells #[.int .i64 t420, .int .i64 t421, .slice Ao32 t422.length co32] 24 (0, 0)) (by (with_reducible repeat (fail)); refine blk_put (cs := #[.int .i64 t420, .int .i64 t421, .slice none 0 0]) ?_ 2 _ rfl; (with_reducible repeat (fail)); refine blk_put (cs := #[.int .i64 t420, .int .i64 0, .slice none 0 0]) ?_ 1 _ rfl; (with_reducible repeat (fail)); refine blk_put (cs := #[.int .i64 0, .int .i64 0, .slice none 0 0]) ?_ 0 _ rfl; (with_reducible repeat (fail)); refine blk_far ?_ NB426_425.out _; (with_reducible repeat (fail)); refine blk_far ?_ NB426_425.out _; (with_reducible repeat (fail)); refine blk_far ?_ NB426_425.out _; (with_reducible repeat (fail)); exact BK426.out) hb); replace HB := Aside0.mk (below_step (by repeat ((with_reducible first | exact HB.out | refine below_set ?_ GE425.out | refine below_set ?_ GE426.out))) hb); (try clear hb)))
 (try simp only [Act.put, List.setIfInBounds_toArray, List.set_cons_zero, List.set_cons_succ])
 go_cut [51] (fun v51 wc => ∃ (kq : Nat) (x51_11 : Bool), v51 = .bool x51_11 ∧ Aside0 (formelaw14_ValueRounds.j0 kq a1 a2 t404 (wrap64 (1 + (Int.tmod (wrap64 ((Int.tmod a4 1000) + 1000)) 1000))) t427 x51_11 a3_0 a3_1 a3_2 a3_3 a3_4 a3_5 a3_6 a3_7 t410 t411 t412 t420 t421 t422 = some r) ∧ Aside0 (kq ≤ k) ∧ Aside0 (Kd.N k24 24 wc w.heap.size (fun k_ => some k_ ≠ ((.slice Ao32 t422.length co32) : Value).ownBlock ∧ k_ ≠ gb402 ∧ k_ ≠ gb403 ∧ k_ ≠ gb425 ∧ k_ ≠ gb426) (.slice Ao28 t412.length co28) t412) ∧ Aside0 (Kd.N k24 24 wc w.heap.size (fun k_ => some k_ ≠ ((.slice Ao28 t412.length co28) : Value).ownBlock ∧ k_ ≠ gb402 ∧ k_ ≠ gb403 ∧ k_ ≠ gb425 ∧ k_ ≠ gb426) (.slice Ao32 t422.length co32) t422) ∧ Aside0 (wc.heap[gb402]? = some (.cells #[.int .i64 a0_0, .int .i64 a0_1, (.slice A0_2 l0_2.length c0_2)] 24 (0, 0))) ∧ Aside0 (wc.heap[gb403]? = some (.cells #[.int .i64 a3_0, .int .i64 a3_1, .int .i64 a3_2, .int .i64 a3_3, .int .i64 a3_4, .int .i64 a3_5, .int .i64 a3_6, .int .i64 a3_7] 25 (0, 0))) ∧ Aside0 (wc.heap[gb425]? = some (.cells #[.int .i64 t410, .int .i64 t411, (.slice Ao28 t412.length co28)] 24 (0, 0))) ∧ Aside0 (wc.heap[gb426]? = some (.cells #[.int .i64 t420, .int .i64 t421, (.slice Ao32 t422.length co32)] 24 (0, 0))) ∧ Aside0 (Below w.heap.size w wc))
 case first =>
  have H := HC12.out
  clear HC12
  by_cases c42 : t428 = 0
  · rw [if_pos c42] at H
    have c42b0 : (t428 == 0) = true := beq_iff_eq.mpr c42
    have c42b1 : (t428 != 0) = false := bne_eq_false_iff_eq.mpr c42
    clear c42
    replace H := Option.bind_eq_some_iff.mp H
    obtain ⟨t429, A430, H⟩ := H
    replace H : (formelaw14_ValueRounds.j0 k a1 a2 t404 (wrap64 (1 + (Int.tmod (wrap64 ((Int.tmod a4 1000) + 1000)) 1000))) t427 (!t429) a3_0 a3_1 a3_2 a3_3 a3_4 a3_5 a3_6 a3_7 t410 t411 t412 t420 t421 t422) = some r := H
    have A43 := Aside0.mk A430
    clear A430
    have H' := Aside0.mk H
    clear H
    have hnb44 := NB425_402.out
    have hnc44 := NB402_425.out
    have hnb45 := NB425_403.out
    have hnc45 := NB403_425.out
    have hnb46 := NB425_426.out
    have hnc46 := NB426_425.out
    have hcz47_0 : w41.cell? ⟨gb425, 0, none⟩ = some (.int .i64 t410) := (blk_cell BK425.out 0).trans rfl
    have hcz47_1 : w41.cell? ⟨gb425, 1, none⟩ = some (.int .i64 t411) := (blk_cell BK425.out 1).trans rfl
    have hcz47_2 : w41.cell? ⟨gb425, 2, none⟩ = some (.slice Ao28 t412.length co28) := (blk_cell BK425.out 2).trans rfl
    have hfz47_0 := blk_frozen BK425.out 0
    have hfz47_1 := blk_frozen BK425.out 1
    have hfz47_2 := blk_frozen BK425.out 2
    go_wp2_with ((go_at_call 14; (with_reducible refine (formeref14_Valid.calls k t410 t411 _ _ t412 t429 _ ?side1 ?side2 A43.out).mono ?_); (case side1 => repeat (exact (Kd.N_reads' HO414.out).2.2)); (case side2 => exact (Kd.N_reads' HO414.out).2.1); rintro e w48 ⟨rfl, hb⟩; replace HO409 := Aside0.mk (Kd.N_below HO409.out hb); replace HO414 := Aside0.mk (Kd.N_below HO414.out hb); replace HO419 := Aside0.mk (Kd.N_below HO419.out hb); replace HO424 := Aside0.mk (Kd.N_below HO424.out hb); replace BK402 := Aside0.mk (blk_below BK402.out hb); replace BK403 := Aside0.mk (blk_below BK403.out hb); replace BK425 := Aside0.mk (blk_below BK425.out hb); replace BK426 := Aside0.mk (blk_below BK426.out hb); replace HB := Aside0.mk (below_step HB.out hb); (try clear hb)))
    go_meet
    case rel => exact ⟨_, (!t429), (by rfl), H', ⟨by omega⟩, ⟨by (with_reducible repeat (fail)); exact Kd.N_mono HO414.out (fun _ hk => ⟨hk.2.1, ⟨hk.2.2.1, ⟨hk.2.2.2.1, ⟨hk.2.2.2.2.1, hk.2.2.2.2.2⟩⟩⟩⟩)⟩, ⟨by (with_reducible repeat (fail)); exact Kd.N_mono HO424.out (fun _ hk => ⟨hk.2.1, ⟨hk.2.2.1, ⟨hk.2.2.2.1, ⟨hk.2.2.2.2.1, hk.2.2.2.2.2⟩⟩⟩⟩)⟩, ⟨by (with_reducible repeat (fail)); exact BK402.out⟩, ⟨by (with_reducible repeat (fail)); exact BK403.out⟩, ⟨by (with_reducible repeat (fail)); exact BK425.out⟩, ⟨by (with_reducible repeat (fail)); exact BK426.out⟩, ⟨by repeat ((with_reducible exact HB.out))⟩⟩
  · rw [if_neg c42] at H
    have c42b0 : (t428 == 0) = false := beq_eq_false_iff_ne.mpr c42
    have c42b1 : (t428 != 0) = true := bne_iff_ne.mpr c42
    have H' := Aside0.mk H
    clear H
    go_wp2
    go_meet
    case rel => exact ⟨_, (true), (by rfl), H', ⟨by omega⟩, ⟨by (with_reducible repeat (fail)); exact Kd.N_mono HO414.out (fun _ hk => ⟨hk.2.1, ⟨hk.2.2.1, ⟨hk.2.2.2.1, ⟨hk.2.2.2.2.1, hk.2.2.2.2.2⟩⟩⟩⟩)⟩, ⟨by (with_reducible repeat (fail)); exact Kd.N_mono HO424.out (fun _ hk => ⟨hk.2.1, ⟨hk.2.2.1, ⟨hk.2.2.2.1, ⟨hk.2.2.2.2.1, hk.2.2.2.2.2⟩⟩⟩⟩)⟩, ⟨by (with_reducible repeat (fail)); exact BK402.out⟩, ⟨by (with_reducible repeat (fail)); exact BK403.out⟩, ⟨by (with_reducible repeat (fail)); exact BK425.out⟩, ⟨by (with_reducible repeat (fail)); exact BK426.out⟩, ⟨by repeat ((with_reducible exact HB.out))⟩⟩
 case rest =>
  clear HC12
  try clear hcz37_0
  try clear hcz37_1
  try clear hcz37_2
  try clear hcz40_0
  try clear hcz40_1
  try clear hcz40_2
  try clear hcz40_3
  try clear hcz40_4
  try clear hcz40_5
  try clear hcz40_6
  try clear hcz40_7
  try clear hfz37_0
  try clear hfz37_1
  try clear hfz37_2
  try clear hfz40_0
  try clear hfz40_1
  try clear hfz40_2
  try clear hfz40_3
  try clear hfz40_4
  try clear hfz40_5
  try clear hfz40_6
  try clear hfz40_7
  obtain ⟨kq, x51_11, rfl, HA, HJ11, HO_426002, HO_427002, BK402, BK403, BK425, BK426, HB⟩ := hcut
  cases kq with
  | zero => exact absurd HA.out (by simp [formelaw14_ValueRounds.j0])
  | succ kj11 =>
   have H := HA.out
   clear HA
   simp only [formelaw14_ValueRounds.j0] at H
   by_cases c49 : x51_11 = true
   · subst c49
     have H1 : (some t404) = some r := by rw [if_pos rfl] at H; exact H
     clear H
     have H := H1
     clear H1
     obtain rfl := Option.some.inj H
     go_wp2
     go_ret
     exact ⟨by rfl, by repeat ((with_reducible exact HB.out))⟩
   · replace c49 := Bool.eq_false_iff.mpr c49
     subst c49
     have H1 : ((value_Eval.f t410 t411 t412 a1 a2 a3_0 a3_1 a3_2 a3_3 a3_4 a3_5 a3_6 a3_7).bind fun bt430 => ((value_Eval.f t420 t421 t422 a1 a2 a3_0 a3_1 a3_2 a3_3 a3_4 a3_5 a3_6 a3_7).bind fun bt432 => (if bt430.2 = 0 then (if bt430.1 = t427 then (if t404 = true then (if bt432.2 = 0 then (if bt432.1 ≤ t427 then (some (decide ((wrap64 (t427 - bt432.1)) < (wrap64 (1 + (Int.tmod (wrap64 ((Int.tmod a4 1000) + 1000)) 1000)))))) else (some false)) else (some true)) else (some false)) else (some false)) else ((formelaw14_coord.f (wrap64 ((wrap64 (1 + (Int.tmod (wrap64 ((Int.tmod a4 1000) + 1000)) 1000))) * t427))).bind fun t434 => (if t434 = true then (some false) else (if t404 = true then (if bt432.2 = 0 then (if bt432.1 ≤ t427 then (some (decide ((wrap64 (t427 - bt432.1)) < (wrap64 (1 + (Int.tmod (wrap64 ((Int.tmod a4 1000) + 1000)) 1000)))))) else (some false)) else (some true)) else (some false))))))) = some r := by rw [if_neg (show ¬ (false = true) by decide)] at H; exact H
     clear H
     have H := H1
     clear H1
     replace H := Option.bind_eq_some_iff.mp H
     obtain ⟨⟨t430, t431⟩, A500, H⟩ := H
     replace H : ((value_Eval.f t420 t421 t422 a1 a2 a3_0 a3_1 a3_2 a3_3 a3_4 a3_5 a3_6 a3_7).bind fun bt432 => (if t431 = 0 then (if t430 = t427 then (if t404 = true then (if bt432.2 = 0 then (if bt432.1 ≤ t427 then (some (decide ((wrap64 (t427 - bt432.1)) < (wrap64 (1 + (Int.tmod (wrap64 ((Int.tmod a4 1000) + 1000)) 1000)))))) else (some false)) else (some true)) else (some false)) else (some false)) else ((formelaw14_coord.f (wrap64 ((wrap64 (1 + (Int.tmod (wrap64 ((Int.tmod a4 1000) + 1000)) 1000))) * t427))).bind fun t434 => (if t434 = true then (some false) else (if t404 = true then (if bt432.2 = 0 then (if bt432.1 ≤ t427 then (some (decide ((wrap64 (t427 - bt432.1)) < (wrap64 (1 + (Int.tmod (wrap64 ((Int.tmod a4 1000) + 1000)) 1000)))))) else (some false)) else (some true)) else (some false)))))) = some r := H
     have A50 := Aside0.mk A500
     clear A500
     replace H := Option.bind_eq_some_iff.mp H
     obtain ⟨⟨t432, t433⟩, A510, H⟩ := H
     replace H : (if t431 = 0 then (if t430 = t427 then (if t404 = true then (if t433 = 0 then (if t432 ≤ t427 then (some (decide ((wrap64 (t427 - t432)) < (wrap64 (1 + (Int.tmod (wrap64 ((Int.tmod a4 1000) + 1000)) 1000)))))) else (some false)) else (some true)) else (some false)) else (some false)) else ((formelaw14_coord.f (wrap64 ((wrap64 (1 + (Int.tmod (wrap64 ((Int.tmod a4 1000) + 1000)) 1000))) * t427))).bind fun t434 => (if t434 = true then (some false) else (if t404 = true then (if t433 = 0 then (if t432 ≤ t427 then (some (decide ((wrap64 (t427 - t432)) < (wrap64 (1 + (Int.tmod (wrap64 ((Int.tmod a4 1000) + 1000)) 1000)))))) else (some false)) else (some true)) else (some false))))) = some r := H
     have A51 := Aside0.mk A510
     clear A510
     by_cases c52 : t431 = 0
     · rw [if_pos c52] at H
       have c52b0 : (t431 == 0) = true := beq_iff_eq.mpr c52
       have c52b1 : (t431 != 0) = false := bne_eq_false_iff_eq.mpr c52
       clear c52
       by_cases c53 : t430 = t427
       · rw [if_pos c53] at H
         have c53b0 : (t430 == t427) = true := beq_iff_eq.mpr c53
         have c53b1 : (t430 != t427) = false := bne_eq_false_iff_eq.mpr c53
         clear c53
         by_cases c54 : t404 = true
         · subst c54
           have H1 : (if t433 = 0 then (if t432 ≤ t427 then (some (decide ((wrap64 (t427 - t432)) < (wrap64 (1 + (Int.tmod (wrap64 ((Int.tmod a4 1000) + 1000)) 1000)))))) else (some false)) else (some true)) = some r := by rw [if_pos rfl] at H; exact H
           clear H
           have H := H1
           clear H1
           by_cases c55 : t433 = 0
           · rw [if_pos c55] at H
             have c55b0 : (t433 == 0) = true := beq_iff_eq.mpr c55
             have c55b1 : (t433 != 0) = false := bne_eq_false_iff_eq.mpr c55
             clear c55
             by_cases c56 : t432 ≤ t427
             · rw [if_pos c56] at H
               have c56b0 : decide (t432 ≤ t427) = true := decide_eq_true c56
               clear c56
               obtain rfl := Option.some.inj H
               have hnb57 := NB425_402.out
               have hnc57 := NB402_425.out
               have hnb58 := NB425_403.out
               have hnc58 := NB403_425.out
               have hnb59 := NB425_426.out
               have hnc59 := NB426_425.out
               have hcz60_0 : wc.cell? ⟨gb425, 0, none⟩ = some (.int .i64 t410) := (blk_cell BK425.out 0).trans rfl
               have hcz60_1 : wc.cell? ⟨gb425, 1, none⟩ = some (.int .i64 t411) := (blk_cell BK425.out 1).trans rfl
               have hcz60_2 : wc.cell? ⟨gb425, 2, none⟩ = some (.slice Ao28 t412.length co28) := (blk_cell BK425.out 2).trans rfl
               have hfz60_0 := blk_frozen BK425.out 0
               have hfz60_1 := blk_frozen BK425.out 1
               have hfz60_2 := blk_frozen BK425.out 2
               have hnb61 := NB403_402.out
               have hnc61 := NB402_403.out
               have hnb62 := NB403_426.out
               have hnc62 := NB426_403.out
               have hcz63_0 : wc.cell? ⟨gb403, 0, none⟩ = some (.int .i64 a3_0) := (blk_cell BK403.out 0).trans rfl
               have hcz63_1 : wc.cell? ⟨gb403, 1, none⟩ = some (.int .i64 a3_1) := (blk_cell BK403.out 1).trans rfl
               have hcz63_2 : wc.cell? ⟨gb403, 2, none⟩ = some (.int .i64 a3_2) := (blk_cell BK403.out 2).trans rfl
               have hcz63_3 : wc.cell? ⟨gb403, 3, none⟩ = some (.int .i64 a3_3) := (blk_cell BK403.out 3).trans rfl
               have hcz63_4 : wc.cell? ⟨gb403, 4, none⟩ = some (.int .i64 a3_4) := (blk_cell BK403.out 4).trans rfl
               have hcz63_5 : wc.cell? ⟨gb403, 5, none⟩ = some (.int .i64 a3_5) := (blk_cell BK403.out 5).trans rfl
               have hcz63_6 : wc.cell? ⟨gb403, 6, none⟩ = some (.int .i64 a3_6) := (blk_cell BK403.out 6).trans rfl
               have hcz63_7 : wc.cell? ⟨gb403, 7, none⟩ = some (.int .i64 a3_7) := (blk_cell BK403.out 7).trans rfl
               have hfz63_0 := blk_frozen BK403.out 0
               have hfz63_1 := blk_frozen BK403.out 1
               have hfz63_2 := blk_frozen BK403.out 2
               have hfz63_3 := blk_frozen BK403.out 3
               have hfz63_4 := blk_frozen BK403.out 4
               have hfz63_5 := blk_frozen BK403.out 5
               have hfz63_6 := blk_frozen BK403.out 6
               have hfz63_7 := blk_frozen BK403.out 7
               go_wp2_with (first | ((with_reducible refine gate_callee (f := 11) rfl ?_); refine goesL_ (some 58) rfl rfl Try.func11 (by kernel_rfl) rfl #[.agg #[.int .i64 t410, .int .i64 t411, .slice Ao28 t412.length co28], .int .i64 a1, .int .i64 a2, .agg #[.int .i64 a3_0, .int .i64 a3_1, .int .i64 a3_2, .int .i64 a3_3, .int .i64 a3_4, .int .i64 a3_5, .int .i64 a3_6, .int .i64 a3_7]] rfl (by (try simp only [List.map_toArray, List.map_cons, List.map_nil]); rfl) ?_; (with_reducible refine (value_Eval.calls t410 t411 _ _ t412 a1 a2 a3_0 a3_1 a3_2 a3_3 a3_4 a3_5 a3_6 a3_7 t430 t431 _ ?side1 ?side2 A50.out).mono ?_); (case side1 => repeat (exact (Kd.N_reads' HO_426002.out).2.2)); (case side2 => exact (Kd.N_reads' HO_426002.out).2.1); rintro e w64 ⟨rfl, hb⟩; refine ⟨_, rfl, ?_⟩; replace HO_426002 := Aside0.mk (Kd.N_below HO_426002.out hb); replace HO_427002 := Aside0.mk (Kd.N_below HO_427002.out hb); replace BK402 := Aside0.mk (blk_below BK402.out hb); replace BK403 := Aside0.mk (blk_below BK403.out hb); replace BK425 := Aside0.mk (blk_below BK425.out hb); replace BK426 := Aside0.mk (blk_below BK426.out hb); replace HB := Aside0.mk (below_step HB.out hb); (try clear hb); have hnb65 := NB426_402.out; have hnc65 := NB402_426.out; have hcz66_0 : w64.cell? ⟨gb426, 0, none⟩ = some (.int .i64 t420) := (blk_cell BK426.out 0).trans rfl; have hcz66_1 : w64.cell? ⟨gb426, 1, none⟩ = some (.int .i64 t421) := (blk_cell BK426.out 1).trans rfl; have hcz66_2 : w64.cell? ⟨gb426, 2, none⟩ = some (.slice Ao32 t422.length co32) := (blk_cell BK426.out 2).trans rfl; have hfz66_0 := blk_frozen BK426.out 0; have hfz66_1 := blk_frozen BK426.out 1; have hfz66_2 := blk_frozen BK426.out 2; have hcz67_0 : w64.cell? ⟨gb403, 0, none⟩ = some (.int .i64 a3_0) := (blk_cell BK403.out 0).trans rfl; have hcz67_1 : w64.cell? ⟨gb403, 1, none⟩ = some (.int .i64 a3_1) := (blk_cell BK403.out 1).trans rfl; have hcz67_2 : w64.cell? ⟨gb403, 2, none⟩ = some (.int .i64 a3_2) := (blk_cell BK403.out 2).trans rfl; have hcz67_3 : w64.cell? ⟨gb403, 3, none⟩ = some (.int .i64 a3_3) := (blk_cell BK403.out 3).trans rfl; have hcz67_4 : w64.cell? ⟨gb403, 4, none⟩ = some (.int .i64 a3_4) := (blk_cell BK403.out 4).trans rfl; have hcz67_5 : w64.cell? ⟨gb403, 5, none⟩ = some (.int .i64 a3_5) := (blk_cell BK403.out 5).trans rfl; have hcz67_6 : w64.cell? ⟨gb403, 6, none⟩ = some (.int .i64 a3_6) := (blk_cell BK403.out 6).trans rfl; have hcz67_7 : w64.cell? ⟨gb403, 7, none⟩ = some (.int .i64 a3_7) := (blk_cell BK403.out 7).trans rfl; have hfz67_0 := blk_frozen BK403.out 0; have hfz67_1 := blk_frozen BK403.out 1; have hfz67_2 := blk_frozen BK403.out 2; have hfz67_3 := blk_frozen BK403.out 3; have hfz67_4 := blk_frozen BK403.out 4; have hfz67_5 := blk_frozen BK403.out 5; have hfz67_6 := blk_frozen BK403.out 6; have hfz67_7 := blk_frozen BK403.out 7) | ((with_reducible refine gate_callee (f := 11) rfl ?_); refine goesL_ (some 66) rfl rfl Try.func11 (by kernel_rfl) rfl #[.agg #[.int .i64 t420, .int .i64 t421, .slice Ao32 t422.length co32], .int .i64 a1, .int .i64 a2, .agg #[.int .i64 a3_0, .int .i64 a3_1, .int .i64 a3_2, .int .i64 a3_3, .int .i64 a3_4, .int .i64 a3_5, .int .i64 a3_6, .int .i64 a3_7]] rfl (by (try simp only [List.map_toArray, List.map_cons, List.map_nil]); rfl) ?_; (with_reducible refine (value_Eval.calls t420 t421 _ _ t422 a1 a2 a3_0 a3_1 a3_2 a3_3 a3_4 a3_5 a3_6 a3_7 t432 t433 _ ?side1 ?side2 A51.out).mono ?_); (case side1 => repeat (exact (Kd.N_reads' HO_427002.out).2.2)); (case side2 => exact (Kd.N_reads' HO_427002.out).2.1); rintro e w68 ⟨rfl, hb⟩; refine ⟨_, rfl, ?_⟩; replace HO_426002 := Aside0.mk (Kd.N_below HO_426002.out hb); replace HO_427002 := Aside0.mk (Kd.N_below HO_427002.out hb); replace BK402 := Aside0.mk (blk_below BK402.out hb); replace BK403 := Aside0.mk (blk_below BK403.out hb); replace BK425 := Aside0.mk (blk_below BK425.out hb); replace BK426 := Aside0.mk (blk_below BK426.out hb); replace HB := Aside0.mk (below_step HB.out hb); (try clear hb)))
               go_ret
               exact ⟨by rfl, by repeat ((with_reducible exact HB.out))⟩
             · rw [if_neg c56] at H
               have c56b0 : decide (t432 ≤ t427) = false := decide_eq_false c56
               clear c56
               obtain rfl := Option.some.inj H
               have hnb69 := NB425_402.out
               have hnc69 := NB402_425.out
               have hnb70 := NB425_403.out
               have hnc70 := NB403_425.out
               have hnb71 := NB425_426.out
               have hnc71 := NB426_425.out
               have hcz72_0 : wc.cell? ⟨gb425, 0, none⟩ = some (.int .i64 t410) := (blk_cell BK425.out 0).trans rfl
               have hcz72_1 : wc.cell? ⟨gb425, 1, none⟩ = some (.int .i64 t411) := (blk_cell BK425.out 1).trans rfl
               have hcz72_2 : wc.cell? ⟨gb425, 2, none⟩ = some (.slice Ao28 t412.length co28) := (blk_cell BK425.out 2).trans rfl
               have hfz72_0 := blk_frozen BK425.out 0
               have hfz72_1 := blk_frozen BK425.out 1
               have hfz72_2 := blk_frozen BK425.out 2
               have hnb73 := NB403_402.out
               have hnc73 := NB402_403.out
               have hnb74 := NB403_426.out
               have hnc74 := NB426_403.out
               have hcz75_0 : wc.cell? ⟨gb403, 0, none⟩ = some (.int .i64 a3_0) := (blk_cell BK403.out 0).trans rfl
               have hcz75_1 : wc.cell? ⟨gb403, 1, none⟩ = some (.int .i64 a3_1) := (blk_cell BK403.out 1).trans rfl
               have hcz75_2 : wc.cell? ⟨gb403, 2, none⟩ = some (.int .i64 a3_2) := (blk_cell BK403.out 2).trans rfl
               have hcz75_3 : wc.cell? ⟨gb403, 3, none⟩ = some (.int .i64 a3_3) := (blk_cell BK403.out 3).trans rfl
               have hcz75_4 : wc.cell? ⟨gb403, 4, none⟩ = some (.int .i64 a3_4) := (blk_cell BK403.out 4).trans rfl
               have hcz75_5 : wc.cell? ⟨gb403, 5, none⟩ = some (.int .i64 a3_5) := (blk_cell BK403.out 5).trans rfl
               have hcz75_6 : wc.cell? ⟨gb403, 6, none⟩ = some (.int .i64 a3_6) := (blk_cell BK403.out 6).trans rfl
               have hcz75_7 : wc.cell? ⟨gb403, 7, none⟩ = some (.int .i64 a3_7) := (blk_cell BK403.out 7).trans rfl
               have hfz75_0 := blk_frozen BK403.out 0
               have hfz75_1 := blk_frozen BK403.out 1
               have hfz75_2 := blk_frozen BK403.out 2
               have hfz75_3 := blk_frozen BK403.out 3
               have hfz75_4 := blk_frozen BK403.out 4
               have hfz75_5 := blk_frozen BK403.out 5
               have hfz75_6 := blk_frozen BK403.out 6
               have hfz75_7 := blk_frozen BK403.out 7
               go_wp2_with (first | ((with_reducible refine gate_callee (f := 11) rfl ?_); refine goesL_ (some 58) rfl rfl Try.func11 (by kernel_rfl) rfl #[.agg #[.int .i64 t410, .int .i64 t411, .slice Ao28 t412.length co28], .int .i64 a1, .int .i64 a2, .agg #[.int .i64 a3_0, .int .i64 a3_1, .int .i64 a3_2, .int .i64 a3_3, .int .i64 a3_4, .int .i64 a3_5, .int .i64 a3_6, .int .i64 a3_7]] rfl (by (try simp only [List.map_toArray, List.map_cons, List.map_nil]); rfl) ?_; (with_reducible refine (value_Eval.calls t410 t411 _ _ t412 a1 a2 a3_0 a3_1 a3_2 a3_3 a3_4 a3_5 a3_6 a3_7 t430 t431 _ ?side1 ?side2 A50.out).mono ?_); (case side1 => repeat (exact (Kd.N_reads' HO_426002.out).2.2)); (case side2 => exact (Kd.N_reads' HO_426002.out).2.1); rintro e w76 ⟨rfl, hb⟩; refine ⟨_, rfl, ?_⟩; replace HO_426002 := Aside0.mk (Kd.N_below HO_426002.out hb); replace HO_427002 := Aside0.mk (Kd.N_below HO_427002.out hb); replace BK402 := Aside0.mk (blk_below BK402.out hb); replace BK403 := Aside0.mk (blk_below BK403.out hb); replace BK425 := Aside0.mk (blk_below BK425.out hb); replace BK426 := Aside0.mk (blk_below BK426.out hb); replace HB := Aside0.mk (below_step HB.out hb); (try clear hb); have hnb77 := NB426_402.out; have hnc77 := NB402_426.out; have hcz78_0 : w76.cell? ⟨gb426, 0, none⟩ = some (.int .i64 t420) := (blk_cell BK426.out 0).trans rfl; have hcz78_1 : w76.cell? ⟨gb426, 1, none⟩ = some (.int .i64 t421) := (blk_cell BK426.out 1).trans rfl; have hcz78_2 : w76.cell? ⟨gb426, 2, none⟩ = some (.slice Ao32 t422.length co32) := (blk_cell BK426.out 2).trans rfl; have hfz78_0 := blk_frozen BK426.out 0; have hfz78_1 := blk_frozen BK426.out 1; have hfz78_2 := blk_frozen BK426.out 2; have hcz79_0 : w76.cell? ⟨gb403, 0, none⟩ = some (.int .i64 a3_0) := (blk_cell BK403.out 0).trans rfl; have hcz79_1 : w76.cell? ⟨gb403, 1, none⟩ = some (.int .i64 a3_1) := (blk_cell BK403.out 1).trans rfl; have hcz79_2 : w76.cell? ⟨gb403, 2, none⟩ = some (.int .i64 a3_2) := (blk_cell BK403.out 2).trans rfl; have hcz79_3 : w76.cell? ⟨gb403, 3, none⟩ = some (.int .i64 a3_3) := (blk_cell BK403.out 3).trans rfl; have hcz79_4 : w76.cell? ⟨gb403, 4, none⟩ = some (.int .i64 a3_4) := (blk_cell BK403.out 4).trans rfl; have hcz79_5 : w76.cell? ⟨gb403, 5, none⟩ = some (.int .i64 a3_5) := (blk_cell BK403.out 5).trans rfl; have hcz79_6 : w76.cell? ⟨gb403, 6, none⟩ = some (.int .i64 a3_6) := (blk_cell BK403.out 6).trans rfl; have hcz79_7 : w76.cell? ⟨gb403, 7, none⟩ = some (.int .i64 a3_7) := (blk_cell BK403.out 7).trans rfl; have hfz79_0 := blk_frozen BK403.out 0; have hfz79_1 := blk_frozen BK403.out 1; have hfz79_2 := blk_frozen BK403.out 2; have hfz79_3 := blk_frozen BK403.out 3; have hfz79_4 := blk_frozen BK403.out 4; have hfz79_5 := blk_frozen BK403.out 5; have hfz79_6 := blk_frozen BK403.out 6; have hfz79_7 := blk_frozen BK403.out 7) | ((with_reducible refine gate_callee (f := 11) rfl ?_); refine goesL_ (some 66) rfl rfl Try.func11 (by kernel_rfl) rfl #[.agg #[.int .i64 t420, .int .i64 t421, .slice Ao32 t422.length co32], .int .i64 a1, .int .i64 a2, .agg #[.int .i64 a3_0, .int .i64 a3_1, .int .i64 a3_2, .int .i64 a3_3, .int .i64 a3_4, .int .i64 a3_5, .int .i64 a3_6, .int .i64 a3_7]] rfl (by (try simp only [List.map_toArray, List.map_cons, List.map_nil]); rfl) ?_; (with_reducible refine (value_Eval.calls t420 t421 _ _ t422 a1 a2 a3_0 a3_1 a3_2 a3_3 a3_4 a3_5 a3_6 a3_7 t432 t433 _ ?side1 ?side2 A51.out).mono ?_); (case side1 => repeat (exact (Kd.N_reads' HO_427002.out).2.2)); (case side2 => exact (Kd.N_reads' HO_427002.out).2.1); rintro e w80 ⟨rfl, hb⟩; refine ⟨_, rfl, ?_⟩; replace HO_426002 := Aside0.mk (Kd.N_below HO_426002.out hb); replace HO_427002 := Aside0.mk (Kd.N_below HO_427002.out hb); replace BK402 := Aside0.mk (blk_below BK402.out hb); replace BK403 := Aside0.mk (blk_below BK403.out hb); replace BK425 := Aside0.mk (blk_below BK425.out hb); replace BK426 := Aside0.mk (blk_below BK426.out hb); replace HB := Aside0.mk (below_step HB.out hb); (try clear hb)))
               go_ret
               exact ⟨by rfl, by repeat ((with_reducible exact HB.out))⟩
           · rw [if_neg c55] at H
             have c55b0 : (t433 == 0) = false := beq_eq_false_iff_ne.mpr c55
             have c55b1 : (t433 != 0) = true := bne_iff_ne.mpr c55
             obtain rfl := Option.some.inj H
             have hnb81 := NB425_402.out
             have hnc81 := NB402_425.out
             have hnb82 := NB425_403.out
             have hnc82 := NB403_425.out
             have hnb83 := NB425_426.out
             have hnc83 := NB426_425.out
             have hcz84_0 : wc.cell? ⟨gb425, 0, none⟩ = some (.int .i64 t410) := (blk_cell BK425.out 0).trans rfl
             have hcz84_1 : wc.cell? ⟨gb425, 1, none⟩ = some (.int .i64 t411) := (blk_cell BK425.out 1).trans rfl
             have hcz84_2 : wc.cell? ⟨gb425, 2, none⟩ = some (.slice Ao28 t412.length co28) := (blk_cell BK425.out 2).trans rfl
             have hfz84_0 := blk_frozen BK425.out 0
             have hfz84_1 := blk_frozen BK425.out 1
             have hfz84_2 := blk_frozen BK425.out 2
             have hnb85 := NB403_402.out
             have hnc85 := NB402_403.out
             have hnb86 := NB403_426.out
             have hnc86 := NB426_403.out
             have hcz87_0 : wc.cell? ⟨gb403, 0, none⟩ = some (.int .i64 a3_0) := (blk_cell BK403.out 0).trans rfl
             have hcz87_1 : wc.cell? ⟨gb403, 1, none⟩ = some (.int .i64 a3_1) := (blk_cell BK403.out 1).trans rfl
             have hcz87_2 : wc.cell? ⟨gb403, 2, none⟩ = some (.int .i64 a3_2) := (blk_cell BK403.out 2).trans rfl
             have hcz87_3 : wc.cell? ⟨gb403, 3, none⟩ = some (.int .i64 a3_3) := (blk_cell BK403.out 3).trans rfl
             have hcz87_4 : wc.cell? ⟨gb403, 4, none⟩ = some (.int .i64 a3_4) := (blk_cell BK403.out 4).trans rfl
             have hcz87_5 : wc.cell? ⟨gb403, 5, none⟩ = some (.int .i64 a3_5) := (blk_cell BK403.out 5).trans rfl
             have hcz87_6 : wc.cell? ⟨gb403, 6, none⟩ = some (.int .i64 a3_6) := (blk_cell BK403.out 6).trans rfl
             have hcz87_7 : wc.cell? ⟨gb403, 7, none⟩ = some (.int .i64 a3_7) := (blk_cell BK403.out 7).trans rfl
             have hfz87_0 := blk_frozen BK403.out 0
             have hfz87_1 := blk_frozen BK403.out 1
             have hfz87_2 := blk_frozen BK403.out 2
             have hfz87_3 := blk_frozen BK403.out 3
             have hfz87_4 := blk_frozen BK403.out 4
             have hfz87_5 := blk_frozen BK403.out 5
             have hfz87_6 := blk_frozen BK403.out 6
             have hfz87_7 := blk_frozen BK403.out 7
             go_wp2_with (first | ((with_reducible refine gate_callee (f := 11) rfl ?_); refine goesL_ (some 58) rfl rfl Try.func11 (by kernel_rfl) rfl #[.agg #[.int .i64 t410, .int .i64 t411, .slice Ao28 t412.length co28], .int .i64 a1, .int .i64 a2, .agg #[.int .i64 a3_0, .int .i64 a3_1, .int .i64 a3_2, .int .i64 a3_3, .int .i64 a3_4, .int .i64 a3_5, .int .i64 a3_6, .int .i64 a3_7]] rfl (by (try simp only [List.map_toArray, List.map_cons, List.map_nil]); rfl) ?_; (with_reducible refine (value_Eval.calls t410 t411 _ _ t412 a1 a2 a3_0 a3_1 a3_2 a3_3 a3_4 a3_5 a3_6 a3_7 t430 t431 _ ?side1 ?side2 A50.out).mono ?_); (case side1 => repeat (exact (Kd.N_reads' HO_426002.out).2.2)); (case side2 => exact (Kd.N_reads' HO_426002.out).2.1); rintro e w88 ⟨rfl, hb⟩; refine ⟨_, rfl, ?_⟩; replace HO_426002 := Aside0.mk (Kd.N_below HO_426002.out hb); replace HO_427002 := Aside0.mk (Kd.N_below HO_427002.out hb); replace BK402 := Aside0.mk (blk_below BK402.out hb); replace BK403 := Aside0.mk (blk_below BK403.out hb); replace BK425 := Aside0.mk (blk_below BK425.out hb); replace BK426 := Aside0.mk (blk_below BK426.out hb); replace HB := Aside0.mk (below_step HB.out hb); (try clear hb); have hnb89 := NB426_402.out; have hnc89 := NB402_426.out; have hcz90_0 : w88.cell? ⟨gb426, 0, none⟩ = some (.int .i64 t420) := (blk_cell BK426.out 0).trans rfl; have hcz90_1 : w88.cell? ⟨gb426, 1, none⟩ = some (.int .i64 t421) := (blk_cell BK426.out 1).trans rfl; have hcz90_2 : w88.cell? ⟨gb426, 2, none⟩ = some (.slice Ao32 t422.length co32) := (blk_cell BK426.out 2).trans rfl; have hfz90_0 := blk_frozen BK426.out 0; have hfz90_1 := blk_frozen BK426.out 1; have hfz90_2 := blk_frozen BK426.out 2; have hcz91_0 : w88.cell? ⟨gb403, 0, none⟩ = some (.int .i64 a3_0) := (blk_cell BK403.out 0).trans rfl; have hcz91_1 : w88.cell? ⟨gb403, 1, none⟩ = some (.int .i64 a3_1) := (blk_cell BK403.out 1).trans rfl; have hcz91_2 : w88.cell? ⟨gb403, 2, none⟩ = some (.int .i64 a3_2) := (blk_cell BK403.out 2).trans rfl; have hcz91_3 : w88.cell? ⟨gb403, 3, none⟩ = some (.int .i64 a3_3) := (blk_cell BK403.out 3).trans rfl; have hcz91_4 : w88.cell? ⟨gb403, 4, none⟩ = some (.int .i64 a3_4) := (blk_cell BK403.out 4).trans rfl; have hcz91_5 : w88.cell? ⟨gb403, 5, none⟩ = some (.int .i64 a3_5) := (blk_cell BK403.out 5).trans rfl; have hcz91_6 : w88.cell? ⟨gb403, 6, none⟩ = some (.int .i64 a3_6) := (blk_cell BK403.out 6).trans rfl; have hcz91_7 : w88.cell? ⟨gb403, 7, none⟩ = some (.int .i64 a3_7) := (blk_cell BK403.out 7).trans rfl; have hfz91_0 := blk_frozen BK403.out 0; have hfz91_1 := blk_frozen BK403.out 1; have hfz91_2 := blk_frozen BK403.out 2; have hfz91_3 := blk_frozen BK403.out 3; have hfz91_4 := blk_frozen BK403.out 4; have hfz91_5 := blk_frozen BK403.out 5; have hfz91_6 := blk_frozen BK403.out 6; have hfz91_7 := blk_frozen BK403.out 7) | ((with_reducible refine gate_callee (f := 11) rfl ?_); refine goesL_ (some 66) rfl rfl Try.func11 (by kernel_rfl) rfl #[.agg #[.int .i64 t420, .int .i64 t421, .slice Ao32 t422.length co32], .int .i64 a1, .int .i64 a2, .agg #[.int .i64 a3_0, .int .i64 a3_1, .int .i64 a3_2, .int .i64 a3_3, .int .i64 a3_4, .int .i64 a3_5, .int .i64 a3_6, .int .i64 a3_7]] rfl (by (try simp only [List.map_toArray, List.map_cons, List.map_nil]); rfl) ?_; (with_reducible refine (value_Eval.calls t420 t421 _ _ t422 a1 a2 a3_0 a3_1 a3_2 a3_3 a3_4 a3_5 a3_6 a3_7 t432 t433 _ ?side1 ?side2 A51.out).mono ?_); (case side1 => repeat (exact (Kd.N_reads' HO_427002.out).2.2)); (case side2 => exact (Kd.N_reads' HO_427002.out).2.1); rintro e w92 ⟨rfl, hb⟩; refine ⟨_, rfl, ?_⟩; replace HO_426002 := Aside0.mk (Kd.N_below HO_426002.out hb); replace HO_427002 := Aside0.mk (Kd.N_below HO_427002.out hb); replace BK402 := Aside0.mk (blk_below BK402.out hb); replace BK403 := Aside0.mk (blk_below BK403.out hb); replace BK425 := Aside0.mk (blk_below BK425.out hb); replace BK426 := Aside0.mk (blk_below BK426.out hb); replace HB := Aside0.mk (below_step HB.out hb); (try clear hb)))
             go_ret
             exact ⟨by rfl, by repeat ((with_reducible exact HB.out))⟩
         · replace c54 := Bool.eq_false_iff.mpr c54
           subst c54
           have H1 : (some false) = some r := by rw [if_neg (show ¬ (false = true) by decide)] at H; exact H
           clear H
           have H := H1
           clear H1
           obtain rfl := Option.some.inj H
           have hnb93 := NB425_402.out
           have hnc93 := NB402_425.out
           have hnb94 := NB425_403.out
           have hnc94 := NB403_425.out
           have hnb95 := NB425_426.out
           have hnc95 := NB426_425.out
           have hcz96_0 : wc.cell? ⟨gb425, 0, none⟩ = some (.int .i64 t410) := (blk_cell BK425.out 0).trans rfl
           have hcz96_1 : wc.cell? ⟨gb425, 1, none⟩ = some (.int .i64 t411) := (blk_cell BK425.out 1).trans rfl
           have hcz96_2 : wc.cell? ⟨gb425, 2, none⟩ = some (.slice Ao28 t412.length co28) := (blk_cell BK425.out 2).trans rfl
           have hfz96_0 := blk_frozen BK425.out 0
           have hfz96_1 := blk_frozen BK425.out 1
           have hfz96_2 := blk_frozen BK425.out 2
           have hnb97 := NB403_402.out
           have hnc97 := NB402_403.out
           have hnb98 := NB403_426.out
           have hnc98 := NB426_403.out
           have hcz99_0 : wc.cell? ⟨gb403, 0, none⟩ = some (.int .i64 a3_0) := (blk_cell BK403.out 0).trans rfl
           have hcz99_1 : wc.cell? ⟨gb403, 1, none⟩ = some (.int .i64 a3_1) := (blk_cell BK403.out 1).trans rfl
           have hcz99_2 : wc.cell? ⟨gb403, 2, none⟩ = some (.int .i64 a3_2) := (blk_cell BK403.out 2).trans rfl
           have hcz99_3 : wc.cell? ⟨gb403, 3, none⟩ = some (.int .i64 a3_3) := (blk_cell BK403.out 3).trans rfl
           have hcz99_4 : wc.cell? ⟨gb403, 4, none⟩ = some (.int .i64 a3_4) := (blk_cell BK403.out 4).trans rfl
           have hcz99_5 : wc.cell? ⟨gb403, 5, none⟩ = some (.int .i64 a3_5) := (blk_cell BK403.out 5).trans rfl
           have hcz99_6 : wc.cell? ⟨gb403, 6, none⟩ = some (.int .i64 a3_6) := (blk_cell BK403.out 6).trans rfl
           have hcz99_7 : wc.cell? ⟨gb403, 7, none⟩ = some (.int .i64 a3_7) := (blk_cell BK403.out 7).trans rfl
           have hfz99_0 := blk_frozen BK403.out 0
           have hfz99_1 := blk_frozen BK403.out 1
           have hfz99_2 := blk_frozen BK403.out 2
           have hfz99_3 := blk_frozen BK403.out 3
           have hfz99_4 := blk_frozen BK403.out 4
           have hfz99_5 := blk_frozen BK403.out 5
           have hfz99_6 := blk_frozen BK403.out 6
           have hfz99_7 := blk_frozen BK403.out 7
           go_wp2_with (first | ((with_reducible refine gate_callee (f := 11) rfl ?_); refine goesL_ (some 58) rfl rfl Try.func11 (by kernel_rfl) rfl #[.agg #[.int .i64 t410, .int .i64 t411, .slice Ao28 t412.length co28], .int .i64 a1, .int .i64 a2, .agg #[.int .i64 a3_0, .int .i64 a3_1, .int .i64 a3_2, .int .i64 a3_3, .int .i64 a3_4, .int .i64 a3_5, .int .i64 a3_6, .int .i64 a3_7]] rfl (by (try simp only [List.map_toArray, List.map_cons, List.map_nil]); rfl) ?_; (with_reducible refine (value_Eval.calls t410 t411 _ _ t412 a1 a2 a3_0 a3_1 a3_2 a3_3 a3_4 a3_5 a3_6 a3_7 t430 t431 _ ?side1 ?side2 A50.out).mono ?_); (case side1 => repeat (exact (Kd.N_reads' HO_426002.out).2.2)); (case side2 => exact (Kd.N_reads' HO_426002.out).2.1); rintro e w100 ⟨rfl, hb⟩; refine ⟨_, rfl, ?_⟩; replace HO_426002 := Aside0.mk (Kd.N_below HO_426002.out hb); replace HO_427002 := Aside0.mk (Kd.N_below HO_427002.out hb); replace BK402 := Aside0.mk (blk_below BK402.out hb); replace BK403 := Aside0.mk (blk_below BK403.out hb); replace BK425 := Aside0.mk (blk_below BK425.out hb); replace BK426 := Aside0.mk (blk_below BK426.out hb); replace HB := Aside0.mk (below_step HB.out hb); (try clear hb); have hnb101 := NB426_402.out; have hnc101 := NB402_426.out; have hcz102_0 : w100.cell? ⟨gb426, 0, none⟩ = some (.int .i64 t420) := (blk_cell BK426.out 0).trans rfl; have hcz102_1 : w100.cell? ⟨gb426, 1, none⟩ = some (.int .i64 t421) := (blk_cell BK426.out 1).trans rfl; have hcz102_2 : w100.cell? ⟨gb426, 2, none⟩ = some (.slice Ao32 t422.length co32) := (blk_cell BK426.out 2).trans rfl; have hfz102_0 := blk_frozen BK426.out 0; have hfz102_1 := blk_frozen BK426.out 1; have hfz102_2 := blk_frozen BK426.out 2; have hcz103_0 : w100.cell? ⟨gb403, 0, none⟩ = some (.int .i64 a3_0) := (blk_cell BK403.out 0).trans rfl; have hcz103_1 : w100.cell? ⟨gb403, 1, none⟩ = some (.int .i64 a3_1) := (blk_cell BK403.out 1).trans rfl; have hcz103_2 : w100.cell? ⟨gb403, 2, none⟩ = some (.int .i64 a3_2) := (blk_cell BK403.out 2).trans rfl; have hcz103_3 : w100.cell? ⟨gb403, 3, none⟩ = some (.int .i64 a3_3) := (blk_cell BK403.out 3).trans rfl; have hcz103_4 : w100.cell? ⟨gb403, 4, none⟩ = some (.int .i64 a3_4) := (blk_cell BK403.out 4).trans rfl; have hcz103_5 : w100.cell? ⟨gb403, 5, none⟩ = some (.int .i64 a3_5) := (blk_cell BK403.out 5).trans rfl; have hcz103_6 : w100.cell? ⟨gb403, 6, none⟩ = some (.int .i64 a3_6) := (blk_cell BK403.out 6).trans rfl; have hcz103_7 : w100.cell? ⟨gb403, 7, none⟩ = some (.int .i64 a3_7) := (blk_cell BK403.out 7).trans rfl; have hfz103_0 := blk_frozen BK403.out 0; have hfz103_1 := blk_frozen BK403.out 1; have hfz103_2 := blk_frozen BK403.out 2; have hfz103_3 := blk_frozen BK403.out 3; have hfz103_4 := blk_frozen BK403.out 4; have hfz103_5 := blk_frozen BK403.out 5; have hfz103_6 := blk_frozen BK403.out 6; have hfz103_7 := blk_frozen BK403.out 7) | ((with_reducible refine gate_callee (f := 11) rfl ?_); refine goesL_ (some 66) rfl rfl Try.func11 (by kernel_rfl) rfl #[.agg #[.int .i64 t420, .int .i64 t421, .slice Ao32 t422.length co32], .int .i64 a1, .int .i64 a2, .agg #[.int .i64 a3_0, .int .i64 a3_1, .int .i64 a3_2, .int .i64 a3_3, .int .i64 a3_4, .int .i64 a3_5, .int .i64 a3_6, .int .i64 a3_7]] rfl (by (try simp only [List.map_toArray, List.map_cons, List.map_nil]); rfl) ?_; (with_reducible refine (value_Eval.calls t420 t421 _ _ t422 a1 a2 a3_0 a3_1 a3_2 a3_3 a3_4 a3_5 a3_6 a3_7 t432 t433 _ ?side1 ?side2 A51.out).mono ?_); (case side1 => repeat (exact (Kd.N_reads' HO_427002.out).2.2)); (case side2 => exact (Kd.N_reads' HO_427002.out).2.1); rintro e w104 ⟨rfl, hb⟩; refine ⟨_, rfl, ?_⟩; replace HO_426002 := Aside0.mk (Kd.N_below HO_426002.out hb); replace HO_427002 := Aside0.mk (Kd.N_below HO_427002.out hb); replace BK402 := Aside0.mk (blk_below BK402.out hb); replace BK403 := Aside0.mk (blk_below BK403.out hb); replace BK425 := Aside0.mk (blk_below BK425.out hb); replace BK426 := Aside0.mk (blk_below BK426.out hb); replace HB := Aside0.mk (below_step HB.out hb); (try clear hb)))
           go_ret
           exact ⟨by rfl, by repeat ((with_reducible exact HB.out))⟩
       · rw [if_neg c53] at H
         have c53b0 : (t430 == t427) = false := beq_eq_false_iff_ne.mpr c53
         have c53b1 : (t430 != t427) = true := bne_iff_ne.mpr c53
         obtain rfl := Option.some.inj H
         have hnb105 := NB425_402.out
         have hnc105 := NB402_425.out
         have hnb106 := NB425_403.out
         have hnc106 := NB403_425.out
         have hnb107 := NB425_426.out
         have hnc107 := NB426_425.out
         have hcz108_0 : wc.cell? ⟨gb425, 0, none⟩ = some (.int .i64 t410) := (blk_cell BK425.out 0).trans rfl
         have hcz108_1 : wc.cell? ⟨gb425, 1, none⟩ = some (.int .i64 t411) := (blk_cell BK425.out 1).trans rfl
         have hcz108_2 : wc.cell? ⟨gb425, 2, none⟩ = some (.slice Ao28 t412.length co28) := (blk_cell BK425.out 2).trans rfl
         have hfz108_0 := blk_frozen BK425.out 0
         have hfz108_1 := blk_frozen BK425.out 1
         have hfz108_2 := blk_frozen BK425.out 2
         have hnb109 := NB403_402.out
         have hnc109 := NB402_403.out
         have hnb110 := NB403_426.out
         have hnc110 := NB426_403.out
         have hcz111_0 : wc.cell? ⟨gb403, 0, none⟩ = some (.int .i64 a3_0) := (blk_cell BK403.out 0).trans rfl
         have hcz111_1 : wc.cell? ⟨gb403, 1, none⟩ = some (.int .i64 a3_1) := (blk_cell BK403.out 1).trans rfl
         have hcz111_2 : wc.cell? ⟨gb403, 2, none⟩ = some (.int .i64 a3_2) := (blk_cell BK403.out 2).trans rfl
         have hcz111_3 : wc.cell? ⟨gb403, 3, none⟩ = some (.int .i64 a3_3) := (blk_cell BK403.out 3).trans rfl
         have hcz111_4 : wc.cell? ⟨gb403, 4, none⟩ = some (.int .i64 a3_4) := (blk_cell BK403.out 4).trans rfl
         have hcz111_5 : wc.cell? ⟨gb403, 5, none⟩ = some (.int .i64 a3_5) := (blk_cell BK403.out 5).trans rfl
         have hcz111_6 : wc.cell? ⟨gb403, 6, none⟩ = some (.int .i64 a3_6) := (blk_cell BK403.out 6).trans rfl
         have hcz111_7 : wc.cell? ⟨gb403, 7, none⟩ = some (.int .i64 a3_7) := (blk_cell BK403.out 7).trans rfl
         have hfz111_0 := blk_frozen BK403.out 0
         have hfz111_1 := blk_frozen BK403.out 1
         have hfz111_2 := blk_frozen BK403.out 2
         have hfz111_3 := blk_frozen BK403.out 3
         have hfz111_4 := blk_frozen BK403.out 4
         have hfz111_5 := blk_frozen BK403.out 5
         have hfz111_6 := blk_frozen BK403.out 6
         have hfz111_7 := blk_frozen BK403.out 7
         go_wp2_with (first | ((with_reducible refine gate_callee (f := 11) rfl ?_); refine goesL_ (some 58) rfl rfl Try.func11 (by kernel_rfl) rfl #[.agg #[.int .i64 t410, .int .i64 t411, .slice Ao28 t412.length co28], .int .i64 a1, .int .i64 a2, .agg #[.int .i64 a3_0, .int .i64 a3_1, .int .i64 a3_2, .int .i64 a3_3, .int .i64 a3_4, .int .i64 a3_5, .int .i64 a3_6, .int .i64 a3_7]] rfl (by (try simp only [List.map_toArray, List.map_cons, List.map_nil]); rfl) ?_; (with_reducible refine (value_Eval.calls t410 t411 _ _ t412 a1 a2 a3_0 a3_1 a3_2 a3_3 a3_4 a3_5 a3_6 a3_7 t430 t431 _ ?side1 ?side2 A50.out).mono ?_); (case side1 => repeat (exact (Kd.N_reads' HO_426002.out).2.2)); (case side2 => exact (Kd.N_reads' HO_426002.out).2.1); rintro e w112 ⟨rfl, hb⟩; refine ⟨_, rfl, ?_⟩; replace HO_426002 := Aside0.mk (Kd.N_below HO_426002.out hb); replace HO_427002 := Aside0.mk (Kd.N_below HO_427002.out hb); replace BK402 := Aside0.mk (blk_below BK402.out hb); replace BK403 := Aside0.mk (blk_below BK403.out hb); replace BK425 := Aside0.mk (blk_below BK425.out hb); replace BK426 := Aside0.mk (blk_below BK426.out hb); replace HB := Aside0.mk (below_step HB.out hb); (try clear hb); have hnb113 := NB426_402.out; have hnc113 := NB402_426.out; have hcz114_0 : w112.cell? ⟨gb426, 0, none⟩ = some (.int .i64 t420) := (blk_cell BK426.out 0).trans rfl; have hcz114_1 : w112.cell? ⟨gb426, 1, none⟩ = some (.int .i64 t421) := (blk_cell BK426.out 1).trans rfl; have hcz114_2 : w112.cell? ⟨gb426, 2, none⟩ = some (.slice Ao32 t422.length co32) := (blk_cell BK426.out 2).trans rfl; have hfz114_0 := blk_frozen BK426.out 0; have hfz114_1 := blk_frozen BK426.out 1; have hfz114_2 := blk_frozen BK426.out 2; have hcz115_0 : w112.cell? ⟨gb403, 0, none⟩ = some (.int .i64 a3_0) := (blk_cell BK403.out 0).trans rfl; have hcz115_1 : w112.cell? ⟨gb403, 1, none⟩ = some (.int .i64 a3_1) := (blk_cell BK403.out 1).trans rfl; have hcz115_2 : w112.cell? ⟨gb403, 2, none⟩ = some (.int .i64 a3_2) := (blk_cell BK403.out 2).trans rfl; have hcz115_3 : w112.cell? ⟨gb403, 3, none⟩ = some (.int .i64 a3_3) := (blk_cell BK403.out 3).trans rfl; have hcz115_4 : w112.cell? ⟨gb403, 4, none⟩ = some (.int .i64 a3_4) := (blk_cell BK403.out 4).trans rfl; have hcz115_5 : w112.cell? ⟨gb403, 5, none⟩ = some (.int .i64 a3_5) := (blk_cell BK403.out 5).trans rfl; have hcz115_6 : w112.cell? ⟨gb403, 6, none⟩ = some (.int .i64 a3_6) := (blk_cell BK403.out 6).trans rfl; have hcz115_7 : w112.cell? ⟨gb403, 7, none⟩ = some (.int .i64 a3_7) := (blk_cell BK403.out 7).trans rfl; have hfz115_0 := blk_frozen BK403.out 0; have hfz115_1 := blk_frozen BK403.out 1; have hfz115_2 := blk_frozen BK403.out 2; have hfz115_3 := blk_frozen BK403.out 3; have hfz115_4 := blk_frozen BK403.out 4; have hfz115_5 := blk_frozen BK403.out 5; have hfz115_6 := blk_frozen BK403.out 6; have hfz115_7 := blk_frozen BK403.out 7) | ((with_reducible refine gate_callee (f := 11) rfl ?_); refine goesL_ (some 66) rfl rfl Try.func11 (by kernel_rfl) rfl #[.agg #[.int .i64 t420, .int .i64 t421, .slice Ao32 t422.length co32], .int .i64 a1, .int .i64 a2, .agg #[.int .i64 a3_0, .int .i64 a3_1, .int .i64 a3_2, .int .i64 a3_3, .int .i64 a3_4, .int .i64 a3_5, .int .i64 a3_6, .int .i64 a3_7]] rfl (by (try simp only [List.map_toArray, List.map_cons, List.map_nil]); rfl) ?_; (with_reducible refine (value_Eval.calls t420 t421 _ _ t422 a1 a2 a3_0 a3_1 a3_2 a3_3 a3_4 a3_5 a3_6 a3_7 t432 t433 _ ?side1 ?side2 A51.out).mono ?_); (case side1 => repeat (exact (Kd.N_reads' HO_427002.out).2.2)); (case side2 => exact (Kd.N_reads' HO_427002.out).2.1); rintro e w116 ⟨rfl, hb⟩; refine ⟨_, rfl, ?_⟩; replace HO_426002 := Aside0.mk (Kd.N_below HO_426002.out hb); replace HO_427002 := Aside0.mk (Kd.N_below HO_427002.out hb); replace BK402 := Aside0.mk (blk_below BK402.out hb); replace BK403 := Aside0.mk (blk_below BK403.out hb); replace BK425 := Aside0.mk (blk_below BK425.out hb); replace BK426 := Aside0.mk (blk_below BK426.out hb); replace HB := Aside0.mk (below_step HB.out hb); (try clear hb)))
         go_ret
         exact ⟨by rfl, by repeat ((with_reducible exact HB.out))⟩
     · rw [if_neg c52] at H
       have c52b0 : (t431 == 0) = false := beq_eq_false_iff_ne.mpr c52
       have c52b1 : (t431 != 0) = true := bne_iff_ne.mpr c52
       replace H := Option.bind_eq_some_iff.mp H
       obtain ⟨t434, A1170, H⟩ := H
       replace H : (if t434 = true then (some false) else (if t404 = true then (if t433 = 0 then (if t432 ≤ t427 then (some (decide ((wrap64 (t427 - t432)) < (wrap64 (1 + (Int.tmod (wrap64 ((Int.tmod a4 1000) + 1000)) 1000)))))) else (some false)) else (some true)) else (some false))) = some r := H
       have A117 := Aside0.mk A1170
       clear A1170
       by_cases c118 : t434 = true
       · subst c118
         have H1 : (some false) = some r := by rw [if_pos rfl] at H; exact H
         clear H
         have H := H1
         clear H1
         obtain rfl := Option.some.inj H
         have hnb119 := NB425_402.out
         have hnc119 := NB402_425.out
         have hnb120 := NB425_403.out
         have hnc120 := NB403_425.out
         have hnb121 := NB425_426.out
         have hnc121 := NB426_425.out
         have hcz122_0 : wc.cell? ⟨gb425, 0, none⟩ = some (.int .i64 t410) := (blk_cell BK425.out 0).trans rfl
         have hcz122_1 : wc.cell? ⟨gb425, 1, none⟩ = some (.int .i64 t411) := (blk_cell BK425.out 1).trans rfl
         have hcz122_2 : wc.cell? ⟨gb425, 2, none⟩ = some (.slice Ao28 t412.length co28) := (blk_cell BK425.out 2).trans rfl
         have hfz122_0 := blk_frozen BK425.out 0
         have hfz122_1 := blk_frozen BK425.out 1
         have hfz122_2 := blk_frozen BK425.out 2
         have hnb123 := NB403_402.out
         have hnc123 := NB402_403.out
         have hnb124 := NB403_426.out
         have hnc124 := NB426_403.out
         have hcz125_0 : wc.cell? ⟨gb403, 0, none⟩ = some (.int .i64 a3_0) := (blk_cell BK403.out 0).trans rfl
         have hcz125_1 : wc.cell? ⟨gb403, 1, none⟩ = some (.int .i64 a3_1) := (blk_cell BK403.out 1).trans rfl
         have hcz125_2 : wc.cell? ⟨gb403, 2, none⟩ = some (.int .i64 a3_2) := (blk_cell BK403.out 2).trans rfl
         have hcz125_3 : wc.cell? ⟨gb403, 3, none⟩ = some (.int .i64 a3_3) := (blk_cell BK403.out 3).trans rfl
         have hcz125_4 : wc.cell? ⟨gb403, 4, none⟩ = some (.int .i64 a3_4) := (blk_cell BK403.out 4).trans rfl
         have hcz125_5 : wc.cell? ⟨gb403, 5, none⟩ = some (.int .i64 a3_5) := (blk_cell BK403.out 5).trans rfl
         have hcz125_6 : wc.cell? ⟨gb403, 6, none⟩ = some (.int .i64 a3_6) := (blk_cell BK403.out 6).trans rfl
         have hcz125_7 : wc.cell? ⟨gb403, 7, none⟩ = some (.int .i64 a3_7) := (blk_cell BK403.out 7).trans rfl
         have hfz125_0 := blk_frozen BK403.out 0
         have hfz125_1 := blk_frozen BK403.out 1
         have hfz125_2 := blk_frozen BK403.out 2
         have hfz125_3 := blk_frozen BK403.out 3
         have hfz125_4 := blk_frozen BK403.out 4
         have hfz125_5 := blk_frozen BK403.out 5
         have hfz125_6 := blk_frozen BK403.out 6
         have hfz125_7 := blk_frozen BK403.out 7
         go_wp2_with (first | ((with_reducible refine gate_callee (f := 11) rfl ?_); refine goesL_ (some 58) rfl rfl Try.func11 (by kernel_rfl) rfl #[.agg #[.int .i64 t410, .int .i64 t411, .slice Ao28 t412.length co28], .int .i64 a1, .int .i64 a2, .agg #[.int .i64 a3_0, .int .i64 a3_1, .int .i64 a3_2, .int .i64 a3_3, .int .i64 a3_4, .int .i64 a3_5, .int .i64 a3_6, .int .i64 a3_7]] rfl (by (try simp only [List.map_toArray, List.map_cons, List.map_nil]); rfl) ?_; (with_reducible refine (value_Eval.calls t410 t411 _ _ t412 a1 a2 a3_0 a3_1 a3_2 a3_3 a3_4 a3_5 a3_6 a3_7 t430 t431 _ ?side1 ?side2 A50.out).mono ?_); (case side1 => repeat (exact (Kd.N_reads' HO_426002.out).2.2)); (case side2 => exact (Kd.N_reads' HO_426002.out).2.1); rintro e w126 ⟨rfl, hb⟩; refine ⟨_, rfl, ?_⟩; replace HO_426002 := Aside0.mk (Kd.N_below HO_426002.out hb); replace HO_427002 := Aside0.mk (Kd.N_below HO_427002.out hb); replace BK402 := Aside0.mk (blk_below BK402.out hb); replace BK403 := Aside0.mk (blk_below BK403.out hb); replace BK425 := Aside0.mk (blk_below BK425.out hb); replace BK426 := Aside0.mk (blk_below BK426.out hb); replace HB := Aside0.mk (below_step HB.out hb); (try clear hb); have hnb127 := NB426_402.out; have hnc127 := NB402_426.out; have hcz128_0 : w126.cell? ⟨gb426, 0, none⟩ = some (.int .i64 t420) := (blk_cell BK426.out 0).trans rfl; have hcz128_1 : w126.cell? ⟨gb426, 1, none⟩ = some (.int .i64 t421) := (blk_cell BK426.out 1).trans rfl; have hcz128_2 : w126.cell? ⟨gb426, 2, none⟩ = some (.slice Ao32 t422.length co32) := (blk_cell BK426.out 2).trans rfl; have hfz128_0 := blk_frozen BK426.out 0; have hfz128_1 := blk_frozen BK426.out 1; have hfz128_2 := blk_frozen BK426.out 2; have hcz129_0 : w126.cell? ⟨gb403, 0, none⟩ = some (.int .i64 a3_0) := (blk_cell BK403.out 0).trans rfl; have hcz129_1 : w126.cell? ⟨gb403, 1, none⟩ = some (.int .i64 a3_1) := (blk_cell BK403.out 1).trans rfl; have hcz129_2 : w126.cell? ⟨gb403, 2, none⟩ = some (.int .i64 a3_2) := (blk_cell BK403.out 2).trans rfl; have hcz129_3 : w126.cell? ⟨gb403, 3, none⟩ = some (.int .i64 a3_3) := (blk_cell BK403.out 3).trans rfl; have hcz129_4 : w126.cell? ⟨gb403, 4, none⟩ = some (.int .i64 a3_4) := (blk_cell BK403.out 4).trans rfl; have hcz129_5 : w126.cell? ⟨gb403, 5, none⟩ = some (.int .i64 a3_5) := (blk_cell BK403.out 5).trans rfl; have hcz129_6 : w126.cell? ⟨gb403, 6, none⟩ = some (.int .i64 a3_6) := (blk_cell BK403.out 6).trans rfl; have hcz129_7 : w126.cell? ⟨gb403, 7, none⟩ = some (.int .i64 a3_7) := (blk_cell BK403.out 7).trans rfl; have hfz129_0 := blk_frozen BK403.out 0; have hfz129_1 := blk_frozen BK403.out 1; have hfz129_2 := blk_frozen BK403.out 2; have hfz129_3 := blk_frozen BK403.out 3; have hfz129_4 := blk_frozen BK403.out 4; have hfz129_5 := blk_frozen BK403.out 5; have hfz129_6 := blk_frozen BK403.out 6; have hfz129_7 := blk_frozen BK403.out 7) | ((with_reducible refine gate_callee (f := 11) rfl ?_); refine goesL_ (some 66) rfl rfl Try.func11 (by kernel_rfl) rfl #[.agg #[.int .i64 t420, .int .i64 t421, .slice Ao32 t422.length co32], .int .i64 a1, .int .i64 a2, .agg #[.int .i64 a3_0, .int .i64 a3_1, .int .i64 a3_2, .int .i64 a3_3, .int .i64 a3_4, .int .i64 a3_5, .int .i64 a3_6, .int .i64 a3_7]] rfl (by (try simp only [List.map_toArray, List.map_cons, List.map_nil]); rfl) ?_; (with_reducible refine (value_Eval.calls t420 t421 _ _ t422 a1 a2 a3_0 a3_1 a3_2 a3_3 a3_4 a3_5 a3_6 a3_7 t432 t433 _ ?side1 ?side2 A51.out).mono ?_); (case side1 => repeat (exact (Kd.N_reads' HO_427002.out).2.2)); (case side2 => exact (Kd.N_reads' HO_427002.out).2.1); rintro e w130 ⟨rfl, hb⟩; refine ⟨_, rfl, ?_⟩; replace HO_426002 := Aside0.mk (Kd.N_below HO_426002.out hb); replace HO_427002 := Aside0.mk (Kd.N_below HO_427002.out hb); replace BK402 := Aside0.mk (blk_below BK402.out hb); replace BK403 := Aside0.mk (blk_below BK403.out hb); replace BK425 := Aside0.mk (blk_below BK425.out hb); replace BK426 := Aside0.mk (blk_below BK426.out hb); replace HB := Aside0.mk (below_step HB.out hb); (try clear hb)) | (go_at_call 24; (with_reducible refine (formelaw14_coord.calls (wrap64 ((wrap64 (1 + (Int.tmod (wrap64 ((Int.tmod a4 1000) + 1000)) 1000))) * t427)) true _ A117.out).mono ?_); rintro e w' ⟨rfl, ⟨nd, rfl⟩⟩))
         go_ret
         exact ⟨by rfl, by repeat ((with_reducible first | exact HB.out | apply pw_below_drewN))⟩
       · replace c118 := Bool.eq_false_iff.mpr c118
         subst c118
         have H1 : (if t404 = true then (if t433 = 0 then (if t432 ≤ t427 then (some (decide ((wrap64 (t427 - t432)) < (wrap64 (1 + (Int.tmod (wrap64 ((Int.tmod a4 1000) + 1000)) 1000)))))) else (some false)) else (some true)) else (some false)) = some r := by rw [if_neg (show ¬ (false = true) by decide)] at H; exact H
         clear H
         have H := H1
         clear H1
         by_cases c131 : t404 = true
         · subst c131
           have H1 : (if t433 = 0 then (if t432 ≤ t427 then (some (decide ((wrap64 (t427 - t432)) < (wrap64 (1 + (Int.tmod (wrap64 ((Int.tmod a4 1000) + 1000)) 1000)))))) else (some false)) else (some true)) = some r := by rw [if_pos rfl] at H; exact H
           clear H
           have H := H1
           clear H1
           by_cases c132 : t433 = 0
           · rw [if_pos c132] at H
             have c132b0 : (t433 == 0) = true := beq_iff_eq.mpr c132
             have c132b1 : (t433 != 0) = false := bne_eq_false_iff_eq.mpr c132
             clear c132
             by_cases c133 : t432 ≤ t427
             · rw [if_pos c133] at H
               have c133b0 : decide (t432 ≤ t427) = true := decide_eq_true c133
               clear c133
               obtain rfl := Option.some.inj H
               have hnb134 := NB425_402.out
               have hnc134 := NB402_425.out
               have hnb135 := NB425_403.out
               have hnc135 := NB403_425.out
               have hnb136 := NB425_426.out
               have hnc136 := NB426_425.out
               have hcz137_0 : wc.cell? ⟨gb425, 0, none⟩ = some (.int .i64 t410) := (blk_cell BK425.out 0).trans rfl
               have hcz137_1 : wc.cell? ⟨gb425, 1, none⟩ = some (.int .i64 t411) := (blk_cell BK425.out 1).trans rfl
               have hcz137_2 : wc.cell? ⟨gb425, 2, none⟩ = some (.slice Ao28 t412.length co28) := (blk_cell BK425.out 2).trans rfl
               have hfz137_0 := blk_frozen BK425.out 0
               have hfz137_1 := blk_frozen BK425.out 1
               have hfz137_2 := blk_frozen BK425.out 2
               have hnb138 := NB403_402.out
               have hnc138 := NB402_403.out
               have hnb139 := NB403_426.out
               have hnc139 := NB426_403.out
               have hcz140_0 : wc.cell? ⟨gb403, 0, none⟩ = some (.int .i64 a3_0) := (blk_cell BK403.out 0).trans rfl
               have hcz140_1 : wc.cell? ⟨gb403, 1, none⟩ = some (.int .i64 a3_1) := (blk_cell BK403.out 1).trans rfl
               have hcz140_2 : wc.cell? ⟨gb403, 2, none⟩ = some (.int .i64 a3_2) := (blk_cell BK403.out 2).trans rfl
               have hcz140_3 : wc.cell? ⟨gb403, 3, none⟩ = some (.int .i64 a3_3) := (blk_cell BK403.out 3).trans rfl
               have hcz140_4 : wc.cell? ⟨gb403, 4, none⟩ = some (.int .i64 a3_4) := (blk_cell BK403.out 4).trans rfl
               have hcz140_5 : wc.cell? ⟨gb403, 5, none⟩ = some (.int .i64 a3_5) := (blk_cell BK403.out 5).trans rfl
               have hcz140_6 : wc.cell? ⟨gb403, 6, none⟩ = some (.int .i64 a3_6) := (blk_cell BK403.out 6).trans rfl
               have hcz140_7 : wc.cell? ⟨gb403, 7, none⟩ = some (.int .i64 a3_7) := (blk_cell BK403.out 7).trans rfl
               have hfz140_0 := blk_frozen BK403.out 0
               have hfz140_1 := blk_frozen BK403.out 1
               have hfz140_2 := blk_frozen BK403.out 2
               have hfz140_3 := blk_frozen BK403.out 3
               have hfz140_4 := blk_frozen BK403.out 4
               have hfz140_5 := blk_frozen BK403.out 5
               have hfz140_6 := blk_frozen BK403.out 6
               have hfz140_7 := blk_frozen BK403.out 7
               go_wp2_with (first | ((with_reducible refine gate_callee (f := 11) rfl ?_); refine goesL_ (some 58) rfl rfl Try.func11 (by kernel_rfl) rfl #[.agg #[.int .i64 t410, .int .i64 t411, .slice Ao28 t412.length co28], .int .i64 a1, .int .i64 a2, .agg #[.int .i64 a3_0, .int .i64 a3_1, .int .i64 a3_2, .int .i64 a3_3, .int .i64 a3_4, .int .i64 a3_5, .int .i64 a3_6, .int .i64 a3_7]] rfl (by (try simp only [List.map_toArray, List.map_cons, List.map_nil]); rfl) ?_; (with_reducible refine (value_Eval.calls t410 t411 _ _ t412 a1 a2 a3_0 a3_1 a3_2 a3_3 a3_4 a3_5 a3_6 a3_7 t430 t431 _ ?side1 ?side2 A50.out).mono ?_); (case side1 => repeat (exact (Kd.N_reads' HO_426002.out).2.2)); (case side2 => exact (Kd.N_reads' HO_426002.out).2.1); rintro e w141 ⟨rfl, hb⟩; refine ⟨_, rfl, ?_⟩; replace HO_426002 := Aside0.mk (Kd.N_below HO_426002.out hb); replace HO_427002 := Aside0.mk (Kd.N_below HO_427002.out hb); replace BK402 := Aside0.mk (blk_below BK402.out hb); replace BK403 := Aside0.mk (blk_below BK403.out hb); replace BK425 := Aside0.mk (blk_below BK425.out hb); replace BK426 := Aside0.mk (blk_below BK426.out hb); replace HB := Aside0.mk (below_step HB.out hb); (try clear hb); have hnb142 := NB426_402.out; have hnc142 := NB402_426.out; have hcz143_0 : w141.cell? ⟨gb426, 0, none⟩ = some (.int .i64 t420) := (blk_cell BK426.out 0).trans rfl; have hcz143_1 : w141.cell? ⟨gb426, 1, none⟩ = some (.int .i64 t421) := (blk_cell BK426.out 1).trans rfl; have hcz143_2 : w141.cell? ⟨gb426, 2, none⟩ = some (.slice Ao32 t422.length co32) := (blk_cell BK426.out 2).trans rfl; have hfz143_0 := blk_frozen BK426.out 0; have hfz143_1 := blk_frozen BK426.out 1; have hfz143_2 := blk_frozen BK426.out 2; have hcz144_0 : w141.cell? ⟨gb403, 0, none⟩ = some (.int .i64 a3_0) := (blk_cell BK403.out 0).trans rfl; have hcz144_1 : w141.cell? ⟨gb403, 1, none⟩ = some (.int .i64 a3_1) := (blk_cell BK403.out 1).trans rfl; have hcz144_2 : w141.cell? ⟨gb403, 2, none⟩ = some (.int .i64 a3_2) := (blk_cell BK403.out 2).trans rfl; have hcz144_3 : w141.cell? ⟨gb403, 3, none⟩ = some (.int .i64 a3_3) := (blk_cell BK403.out 3).trans rfl; have hcz144_4 : w141.cell? ⟨gb403, 4, none⟩ = some (.int .i64 a3_4) := (blk_cell BK403.out 4).trans rfl; have hcz144_5 : w141.cell? ⟨gb403, 5, none⟩ = some (.int .i64 a3_5) := (blk_cell BK403.out 5).trans rfl; have hcz144_6 : w141.cell? ⟨gb403, 6, none⟩ = some (.int .i64 a3_6) := (blk_cell BK403.out 6).trans rfl; have hcz144_7 : w141.cell? ⟨gb403, 7, none⟩ = some (.int .i64 a3_7) := (blk_cell BK403.out 7).trans rfl; have hfz144_0 := blk_frozen BK403.out 0; have hfz144_1 := blk_frozen BK403.out 1; have hfz144_2 := blk_frozen BK403.out 2; have hfz144_3 := blk_frozen BK403.out 3; have hfz144_4 := blk_frozen BK403.out 4; have hfz144_5 := blk_frozen BK403.out 5; have hfz144_6 := blk_frozen BK403.out 6; have hfz144_7 := blk_frozen BK403.out 7) | ((with_reducible refine gate_callee (f := 11) rfl ?_); refine goesL_ (some 66) rfl rfl Try.func11 (by kernel_rfl) rfl #[.agg #[.int .i64 t420, .int .i64 t421, .slice Ao32 t422.length co32], .int .i64 a1, .int .i64 a2, .agg #[.int .i64 a3_0, .int .i64 a3_1, .int .i64 a3_2, .int .i64 a3_3, .int .i64 a3_4, .int .i64 a3_5, .int .i64 a3_6, .int .i64 a3_7]] rfl (by (try simp only [List.map_toArray, List.map_cons, List.map_nil]); rfl) ?_; (with_reducible refine (value_Eval.calls t420 t421 _ _ t422 a1 a2 a3_0 a3_1 a3_2 a3_3 a3_4 a3_5 a3_6 a3_7 t432 t433 _ ?side1 ?side2 A51.out).mono ?_); (case side1 => repeat (exact (Kd.N_reads' HO_427002.out).2.2)); (case side2 => exact (Kd.N_reads' HO_427002.out).2.1); rintro e w145 ⟨rfl, hb⟩; refine ⟨_, rfl, ?_⟩; replace HO_426002 := Aside0.mk (Kd.N_below HO_426002.out hb); replace HO_427002 := Aside0.mk (Kd.N_below HO_427002.out hb); replace BK402 := Aside0.mk (blk_below BK402.out hb); replace BK403 := Aside0.mk (blk_below BK403.out hb); replace BK425 := Aside0.mk (blk_below BK425.out hb); replace BK426 := Aside0.mk (blk_below BK426.out hb); replace HB := Aside0.mk (below_step HB.out hb); (try clear hb)) | (go_at_call 24; (with_reducible refine (formelaw14_coord.calls (wrap64 ((wrap64 (1 + (Int.tmod (wrap64 ((Int.tmod a4 1000) + 1000)) 1000))) * t427)) false _ A117.out).mono ?_); rintro e w' ⟨rfl, ⟨nd, rfl⟩⟩))
               go_ret
               exact ⟨by rfl, by repeat ((with_reducible first | exact HB.out | apply pw_below_drewN))⟩
             · rw [if_neg c133] at H
               have c133b0 : decide (t432 ≤ t427) = false := decide_eq_false c133
               clear c133
               obtain rfl := Option.some.inj H
               have hnb146 := NB425_402.out
               have hnc146 := NB402_425.out
               have hnb147 := NB425_403.out
               have hnc147 := NB403_425.out
               have hnb148 := NB425_426.out
               have hnc148 := NB426_425.out
               have hcz149_0 : wc.cell? ⟨gb425, 0, none⟩ = some (.int .i64 t410) := (blk_cell BK425.out 0).trans rfl
               have hcz149_1 : wc.cell? ⟨gb425, 1, none⟩ = some (.int .i64 t411) := (blk_cell BK425.out 1).trans rfl
               have hcz149_2 : wc.cell? ⟨gb425, 2, none⟩ = some (.slice Ao28 t412.length co28) := (blk_cell BK425.out 2).trans rfl
               have hfz149_0 := blk_frozen BK425.out 0
               have hfz149_1 := blk_frozen BK425.out 1
               have hfz149_2 := blk_frozen BK425.out 2
               have hnb150 := NB403_402.out
               have hnc150 := NB402_403.out
               have hnb151 := NB403_426.out
               have hnc151 := NB426_403.out
               have hcz152_0 : wc.cell? ⟨gb403, 0, none⟩ = some (.int .i64 a3_0) := (blk_cell BK403.out 0).trans rfl
               have hcz152_1 : wc.cell? ⟨gb403, 1, none⟩ = some (.int .i64 a3_1) := (blk_cell BK403.out 1).trans rfl
               have hcz152_2 : wc.cell? ⟨gb403, 2, none⟩ = some (.int .i64 a3_2) := (blk_cell BK403.out 2).trans rfl
               have hcz152_3 : wc.cell? ⟨gb403, 3, none⟩ = some (.int .i64 a3_3) := (blk_cell BK403.out 3).trans rfl
               have hcz152_4 : wc.cell? ⟨gb403, 4, none⟩ = some (.int .i64 a3_4) := (blk_cell BK403.out 4).trans rfl
               have hcz152_5 : wc.cell? ⟨gb403, 5, none⟩ = some (.int .i64 a3_5) := (blk_cell BK403.out 5).trans rfl
               have hcz152_6 : wc.cell? ⟨gb403, 6, none⟩ = some (.int .i64 a3_6) := (blk_cell BK403.out 6).trans rfl
               have hcz152_7 : wc.cell? ⟨gb403, 7, none⟩ = some (.int .i64 a3_7) := (blk_cell BK403.out 7).trans rfl
               have hfz152_0 := blk_frozen BK403.out 0
               have hfz152_1 := blk_frozen BK403.out 1
               have hfz152_2 := blk_frozen BK403.out 2
               have hfz152_3 := blk_frozen BK403.out 3
               have hfz152_4 := blk_frozen BK403.out 4
               have hfz152_5 := blk_frozen BK403.out 5
               have hfz152_6 := blk_frozen BK403.out 6
               have hfz152_7 := blk_frozen BK403.out 7
               go_wp2_with (first | ((with_reducible refine gate_callee (f := 11) rfl ?_); refine goesL_ (some 58) rfl rfl Try.func11 (by kernel_rfl) rfl #[.agg #[.int .i64 t410, .int .i64 t411, .slice Ao28 t412.length co28], .int .i64 a1, .int .i64 a2, .agg #[.int .i64 a3_0, .int .i64 a3_1, .int .i64 a3_2, .int .i64 a3_3, .int .i64 a3_4, .int .i64 a3_5, .int .i64 a3_6, .int .i64 a3_7]] rfl (by (try simp only [List.map_toArray, List.map_cons, List.map_nil]); rfl) ?_; (with_reducible refine (value_Eval.calls t410 t411 _ _ t412 a1 a2 a3_0 a3_1 a3_2 a3_3 a3_4 a3_5 a3_6 a3_7 t430 t431 _ ?side1 ?side2 A50.out).mono ?_); (case side1 => repeat (exact (Kd.N_reads' HO_426002.out).2.2)); (case side2 => exact (Kd.N_reads' HO_426002.out).2.1); rintro e w153 ⟨rfl, hb⟩; refine ⟨_, rfl, ?_⟩; replace HO_426002 := Aside0.mk (Kd.N_below HO_426002.out hb); replace HO_427002 := Aside0.mk (Kd.N_below HO_427002.out hb); replace BK402 := Aside0.mk (blk_below BK402.out hb); replace BK403 := Aside0.mk (blk_below BK403.out hb); replace BK425 := Aside0.mk (blk_below BK425.out hb); replace BK426 := Aside0.mk (blk_below BK426.out hb); replace HB := Aside0.mk (below_step HB.out hb); (try clear hb); have hnb154 := NB426_402.out; have hnc154 := NB402_426.out; have hcz155_0 : w153.cell? ⟨gb426, 0, none⟩ = some (.int .i64 t420) := (blk_cell BK426.out 0).trans rfl; have hcz155_1 : w153.cell? ⟨gb426, 1, none⟩ = some (.int .i64 t421) := (blk_cell BK426.out 1).trans rfl; have hcz155_2 : w153.cell? ⟨gb426, 2, none⟩ = some (.slice Ao32 t422.length co32) := (blk_cell BK426.out 2).trans rfl; have hfz155_0 := blk_frozen BK426.out 0; have hfz155_1 := blk_frozen BK426.out 1; have hfz155_2 := blk_frozen BK426.out 2; have hcz156_0 : w153.cell? ⟨gb403, 0, none⟩ = some (.int .i64 a3_0) := (blk_cell BK403.out 0).trans rfl; have hcz156_1 : w153.cell? ⟨gb403, 1, none⟩ = some (.int .i64 a3_1) := (blk_cell BK403.out 1).trans rfl; have hcz156_2 : w153.cell? ⟨gb403, 2, none⟩ = some (.int .i64 a3_2) := (blk_cell BK403.out 2).trans rfl; have hcz156_3 : w153.cell? ⟨gb403, 3, none⟩ = some (.int .i64 a3_3) := (blk_cell BK403.out 3).trans rfl; have hcz156_4 : w153.cell? ⟨gb403, 4, none⟩ = some (.int .i64 a3_4) := (blk_cell BK403.out 4).trans rfl; have hcz156_5 : w153.cell? ⟨gb403, 5, none⟩ = some (.int .i64 a3_5) := (blk_cell BK403.out 5).trans rfl; have hcz156_6 : w153.cell? ⟨gb403, 6, none⟩ = some (.int .i64 a3_6) := (blk_cell BK403.out 6).trans rfl; have hcz156_7 : w153.cell? ⟨gb403, 7, none⟩ = some (.int .i64 a3_7) := (blk_cell BK403.out 7).trans rfl; have hfz156_0 := blk_frozen BK403.out 0; have hfz156_1 := blk_frozen BK403.out 1; have hfz156_2 := blk_frozen BK403.out 2; have hfz156_3 := blk_frozen BK403.out 3; have hfz156_4 := blk_frozen BK403.out 4; have hfz156_5 := blk_frozen BK403.out 5; have hfz156_6 := blk_frozen BK403.out 6; have hfz156_7 := blk_frozen BK403.out 7) | ((with_reducible refine gate_callee (f := 11) rfl ?_); refine goesL_ (some 66) rfl rfl Try.func11 (by kernel_rfl) rfl #[.agg #[.int .i64 t420, .int .i64 t421, .slice Ao32 t422.length co32], .int .i64 a1, .int .i64 a2, .agg #[.int .i64 a3_0, .int .i64 a3_1, .int .i64 a3_2, .int .i64 a3_3, .int .i64 a3_4, .int .i64 a3_5, .int .i64 a3_6, .int .i64 a3_7]] rfl (by (try simp only [List.map_toArray, List.map_cons, List.map_nil]); rfl) ?_; (with_reducible refine (value_Eval.calls t420 t421 _ _ t422 a1 a2 a3_0 a3_1 a3_2 a3_3 a3_4 a3_5 a3_6 a3_7 t432 t433 _ ?side1 ?side2 A51.out).mono ?_); (case side1 => repeat (exact (Kd.N_reads' HO_427002.out).2.2)); (case side2 => exact (Kd.N_reads' HO_427002.out).2.1); rintro e w157 ⟨rfl, hb⟩; refine ⟨_, rfl, ?_⟩; replace HO_426002 := Aside0.mk (Kd.N_below HO_426002.out hb); replace HO_427002 := Aside0.mk (Kd.N_below HO_427002.out hb); replace BK402 := Aside0.mk (blk_below BK402.out hb); replace BK403 := Aside0.mk (blk_below BK403.out hb); replace BK425 := Aside0.mk (blk_below BK425.out hb); replace BK426 := Aside0.mk (blk_below BK426.out hb); replace HB := Aside0.mk (below_step HB.out hb); (try clear hb)) | (go_at_call 24; (with_reducible refine (formelaw14_coord.calls (wrap64 ((wrap64 (1 + (Int.tmod (wrap64 ((Int.tmod a4 1000) + 1000)) 1000))) * t427)) false _ A117.out).mono ?_); rintro e w' ⟨rfl, ⟨nd, rfl⟩⟩))
               go_ret
               exact ⟨by rfl, by repeat ((with_reducible first | exact HB.out | apply pw_below_drewN))⟩
           · rw [if_neg c132] at H
             have c132b0 : (t433 == 0) = false := beq_eq_false_iff_ne.mpr c132
             have c132b1 : (t433 != 0) = true := bne_iff_ne.mpr c132
             obtain rfl := Option.some.inj H
             have hnb158 := NB425_402.out
             have hnc158 := NB402_425.out
             have hnb159 := NB425_403.out
             have hnc159 := NB403_425.out
             have hnb160 := NB425_426.out
             have hnc160 := NB426_425.out
             have hcz161_0 : wc.cell? ⟨gb425, 0, none⟩ = some (.int .i64 t410) := (blk_cell BK425.out 0).trans rfl
             have hcz161_1 : wc.cell? ⟨gb425, 1, none⟩ = some (.int .i64 t411) := (blk_cell BK425.out 1).trans rfl
             have hcz161_2 : wc.cell? ⟨gb425, 2, none⟩ = some (.slice Ao28 t412.length co28) := (blk_cell BK425.out 2).trans rfl
             have hfz161_0 := blk_frozen BK425.out 0
             have hfz161_1 := blk_frozen BK425.out 1
             have hfz161_2 := blk_frozen BK425.out 2
             have hnb162 := NB403_402.out
             have hnc162 := NB402_403.out
             have hnb163 := NB403_426.out
             have hnc163 := NB426_403.out
             have hcz164_0 : wc.cell? ⟨gb403, 0, none⟩ = some (.int .i64 a3_0) := (blk_cell BK403.out 0).trans rfl
             have hcz164_1 : wc.cell? ⟨gb403, 1, none⟩ = some (.int .i64 a3_1) := (blk_cell BK403.out 1).trans rfl
             have hcz164_2 : wc.cell? ⟨gb403, 2, none⟩ = some (.int .i64 a3_2) := (blk_cell BK403.out 2).trans rfl
             have hcz164_3 : wc.cell? ⟨gb403, 3, none⟩ = some (.int .i64 a3_3) := (blk_cell BK403.out 3).trans rfl
             have hcz164_4 : wc.cell? ⟨gb403, 4, none⟩ = some (.int .i64 a3_4) := (blk_cell BK403.out 4).trans rfl
             have hcz164_5 : wc.cell? ⟨gb403, 5, none⟩ = some (.int .i64 a3_5) := (blk_cell BK403.out 5).trans rfl
             have hcz164_6 : wc.cell? ⟨gb403, 6, none⟩ = some (.int .i64 a3_6) := (blk_cell BK403.out 6).trans rfl
             have hcz164_7 : wc.cell? ⟨gb403, 7, none⟩ = some (.int .i64 a3_7) := (blk_cell BK403.out 7).trans rfl
             have hfz164_0 := blk_frozen BK403.out 0
             have hfz164_1 := blk_frozen BK403.out 1
             have hfz164_2 := blk_frozen BK403.out 2
             have hfz164_3 := blk_frozen BK403.out 3
             have hfz164_4 := blk_frozen BK403.out 4
             have hfz164_5 := blk_frozen BK403.out 5
             have hfz164_6 := blk_frozen BK403.out 6
             have hfz164_7 := blk_frozen BK403.out 7
             go_wp2_with (first | ((with_reducible refine gate_callee (f := 11) rfl ?_); refine goesL_ (some 58) rfl rfl Try.func11 (by kernel_rfl) rfl #[.agg #[.int .i64 t410, .int .i64 t411, .slice Ao28 t412.length co28], .int .i64 a1, .int .i64 a2, .agg #[.int .i64 a3_0, .int .i64 a3_1, .int .i64 a3_2, .int .i64 a3_3, .int .i64 a3_4, .int .i64 a3_5, .int .i64 a3_6, .int .i64 a3_7]] rfl (by (try simp only [List.map_toArray, List.map_cons, List.map_nil]); rfl) ?_; (with_reducible refine (value_Eval.calls t410 t411 _ _ t412 a1 a2 a3_0 a3_1 a3_2 a3_3 a3_4 a3_5 a3_6 a3_7 t430 t431 _ ?side1 ?side2 A50.out).mono ?_); (case side1 => repeat (exact (Kd.N_reads' HO_426002.out).2.2)); (case side2 => exact (Kd.N_reads' HO_426002.out).2.1); rintro e w165 ⟨rfl, hb⟩; refine ⟨_, rfl, ?_⟩; replace HO_426002 := Aside0.mk (Kd.N_below HO_426002.out hb); replace HO_427002 := Aside0.mk (Kd.N_below HO_427002.out hb); replace BK402 := Aside0.mk (blk_below BK402.out hb); replace BK403 := Aside0.mk (blk_below BK403.out hb); replace BK425 := Aside0.mk (blk_below BK425.out hb); replace BK426 := Aside0.mk (blk_below BK426.out hb); replace HB := Aside0.mk (below_step HB.out hb); (try clear hb); have hnb166 := NB426_402.out; have hnc166 := NB402_426.out; have hcz167_0 : w165.cell? ⟨gb426, 0, none⟩ = some (.int .i64 t420) := (blk_cell BK426.out 0).trans rfl; have hcz167_1 : w165.cell? ⟨gb426, 1, none⟩ = some (.int .i64 t421) := (blk_cell BK426.out 1).trans rfl; have hcz167_2 : w165.cell? ⟨gb426, 2, none⟩ = some (.slice Ao32 t422.length co32) := (blk_cell BK426.out 2).trans rfl; have hfz167_0 := blk_frozen BK426.out 0; have hfz167_1 := blk_frozen BK426.out 1; have hfz167_2 := blk_frozen BK426.out 2; have hcz168_0 : w165.cell? ⟨gb403, 0, none⟩ = some (.int .i64 a3_0) := (blk_cell BK403.out 0).trans rfl; have hcz168_1 : w165.cell? ⟨gb403, 1, none⟩ = some (.int .i64 a3_1) := (blk_cell BK403.out 1).trans rfl; have hcz168_2 : w165.cell? ⟨gb403, 2, none⟩ = some (.int .i64 a3_2) := (blk_cell BK403.out 2).trans rfl; have hcz168_3 : w165.cell? ⟨gb403, 3, none⟩ = some (.int .i64 a3_3) := (blk_cell BK403.out 3).trans rfl; have hcz168_4 : w165.cell? ⟨gb403, 4, none⟩ = some (.int .i64 a3_4) := (blk_cell BK403.out 4).trans rfl; have hcz168_5 : w165.cell? ⟨gb403, 5, none⟩ = some (.int .i64 a3_5) := (blk_cell BK403.out 5).trans rfl; have hcz168_6 : w165.cell? ⟨gb403, 6, none⟩ = some (.int .i64 a3_6) := (blk_cell BK403.out 6).trans rfl; have hcz168_7 : w165.cell? ⟨gb403, 7, none⟩ = some (.int .i64 a3_7) := (blk_cell BK403.out 7).trans rfl; have hfz168_0 := blk_frozen BK403.out 0; have hfz168_1 := blk_frozen BK403.out 1; have hfz168_2 := blk_frozen BK403.out 2; have hfz168_3 := blk_frozen BK403.out 3; have hfz168_4 := blk_frozen BK403.out 4; have hfz168_5 := blk_frozen BK403.out 5; have hfz168_6 := blk_frozen BK403.out 6; have hfz168_7 := blk_frozen BK403.out 7) | ((with_reducible refine gate_callee (f := 11) rfl ?_); refine goesL_ (some 66) rfl rfl Try.func11 (by kernel_rfl) rfl #[.agg #[.int .i64 t420, .int .i64 t421, .slice Ao32 t422.length co32], .int .i64 a1, .int .i64 a2, .agg #[.int .i64 a3_0, .int .i64 a3_1, .int .i64 a3_2, .int .i64 a3_3, .int .i64 a3_4, .int .i64 a3_5, .int .i64 a3_6, .int .i64 a3_7]] rfl (by (try simp only [List.map_toArray, List.map_cons, List.map_nil]); rfl) ?_; (with_reducible refine (value_Eval.calls t420 t421 _ _ t422 a1 a2 a3_0 a3_1 a3_2 a3_3 a3_4 a3_5 a3_6 a3_7 t432 t433 _ ?side1 ?side2 A51.out).mono ?_); (case side1 => repeat (exact (Kd.N_reads' HO_427002.out).2.2)); (case side2 => exact (Kd.N_reads' HO_427002.out).2.1); rintro e w169 ⟨rfl, hb⟩; refine ⟨_, rfl, ?_⟩; replace HO_426002 := Aside0.mk (Kd.N_below HO_426002.out hb); replace HO_427002 := Aside0.mk (Kd.N_below HO_427002.out hb); replace BK402 := Aside0.mk (blk_below BK402.out hb); replace BK403 := Aside0.mk (blk_below BK403.out hb); replace BK425 := Aside0.mk (blk_below BK425.out hb); replace BK426 := Aside0.mk (blk_below BK426.out hb); replace HB := Aside0.mk (below_step HB.out hb); (try clear hb)) | (go_at_call 24; (with_reducible refine (formelaw14_coord.calls (wrap64 ((wrap64 (1 + (Int.tmod (wrap64 ((Int.tmod a4 1000) + 1000)) 1000))) * t427)) false _ A117.out).mono ?_); rintro e w' ⟨rfl, ⟨nd, rfl⟩⟩))
             go_ret
             exact ⟨by rfl, by repeat ((with_reducible first | exact HB.out | apply pw_below_drewN))⟩
         · replace c131 := Bool.eq_false_iff.mpr c131
           subst c131
           have H1 : (some false) = some r := by rw [if_neg (show ¬ (false = true) by decide)] at H; exact H
           clear H
           have H := H1
           clear H1
           obtain rfl := Option.some.inj H
           have hnb170 := NB425_402.out
           have hnc170 := NB402_425.out
           have hnb171 := NB425_403.out
           have hnc171 := NB403_425.out
           have hnb172 := NB425_426.out
           have hnc172 := NB426_425.out
           have hcz173_0 : wc.cell? ⟨gb425, 0, none⟩ = some (.int .i64 t410) := (blk_cell BK425.out 0).trans rfl
           have hcz173_1 : wc.cell? ⟨gb425, 1, none⟩ = some (.int .i64 t411) := (blk_cell BK425.out 1).trans rfl
           have hcz173_2 : wc.cell? ⟨gb425, 2, none⟩ = some (.slice Ao28 t412.length co28) := (blk_cell BK425.out 2).trans rfl
           have hfz173_0 := blk_frozen BK425.out 0
           have hfz173_1 := blk_frozen BK425.out 1
           have hfz173_2 := blk_frozen BK425.out 2
           have hnb174 := NB403_402.out
           have hnc174 := NB402_403.out
           have hnb175 := NB403_426.out
           have hnc175 := NB426_403.out
           have hcz176_0 : wc.cell? ⟨gb403, 0, none⟩ = some (.int .i64 a3_0) := (blk_cell BK403.out 0).trans rfl
           have hcz176_1 : wc.cell? ⟨gb403, 1, none⟩ = some (.int .i64 a3_1) := (blk_cell BK403.out 1).trans rfl
           have hcz176_2 : wc.cell? ⟨gb403, 2, none⟩ = some (.int .i64 a3_2) := (blk_cell BK403.out 2).trans rfl
           have hcz176_3 : wc.cell? ⟨gb403, 3, none⟩ = some (.int .i64 a3_3) := (blk_cell BK403.out 3).trans rfl
           have hcz176_4 : wc.cell? ⟨gb403, 4, none⟩ = some (.int .i64 a3_4) := (blk_cell BK403.out 4).trans rfl
           have hcz176_5 : wc.cell? ⟨gb403, 5, none⟩ = some (.int .i64 a3_5) := (blk_cell BK403.out 5).trans rfl
           have hcz176_6 : wc.cell? ⟨gb403, 6, none⟩ = some (.int .i64 a3_6) := (blk_cell BK403.out 6).trans rfl
           have hcz176_7 : wc.cell? ⟨gb403, 7, none⟩ = some (.int .i64 a3_7) := (blk_cell BK403.out 7).trans rfl
           have hfz176_0 := blk_frozen BK403.out 0
           have hfz176_1 := blk_frozen BK403.out 1
           have hfz176_2 := blk_frozen BK403.out 2
           have hfz176_3 := blk_frozen BK403.out 3
           have hfz176_4 := blk_frozen BK403.out 4
           have hfz176_5 := blk_frozen BK403.out 5
           have hfz176_6 := blk_frozen BK403.out 6
           have hfz176_7 := blk_frozen BK403.out 7
           go_wp2_with (first | ((with_reducible refine gate_callee (f := 11) rfl ?_); refine goesL_ (some 58) rfl rfl Try.func11 (by kernel_rfl) rfl #[.agg #[.int .i64 t410, .int .i64 t411, .slice Ao28 t412.length co28], .int .i64 a1, .int .i64 a2, .agg #[.int .i64 a3_0, .int .i64 a3_1, .int .i64 a3_2, .int .i64 a3_3, .int .i64 a3_4, .int .i64 a3_5, .int .i64 a3_6, .int .i64 a3_7]] rfl (by (try simp only [List.map_toArray, List.map_cons, List.map_nil]); rfl) ?_; (with_reducible refine (value_Eval.calls t410 t411 _ _ t412 a1 a2 a3_0 a3_1 a3_2 a3_3 a3_4 a3_5 a3_6 a3_7 t430 t431 _ ?side1 ?side2 A50.out).mono ?_); (case side1 => repeat (exact (Kd.N_reads' HO_426002.out).2.2)); (case side2 => exact (Kd.N_reads' HO_426002.out).2.1); rintro e w177 ⟨rfl, hb⟩; refine ⟨_, rfl, ?_⟩; replace HO_426002 := Aside0.mk (Kd.N_below HO_426002.out hb); replace HO_427002 := Aside0.mk (Kd.N_below HO_427002.out hb); replace BK402 := Aside0.mk (blk_below BK402.out hb); replace BK403 := Aside0.mk (blk_below BK403.out hb); replace BK425 := Aside0.mk (blk_below BK425.out hb); replace BK426 := Aside0.mk (blk_below BK426.out hb); replace HB := Aside0.mk (below_step HB.out hb); (try clear hb); have hnb178 := NB426_402.out; have hnc178 := NB402_426.out; have hcz179_0 : w177.cell? ⟨gb426, 0, none⟩ = some (.int .i64 t420) := (blk_cell BK426.out 0).trans rfl; have hcz179_1 : w177.cell? ⟨gb426, 1, none⟩ = some (.int .i64 t421) := (blk_cell BK426.out 1).trans rfl; have hcz179_2 : w177.cell? ⟨gb426, 2, none⟩ = some (.slice Ao32 t422.length co32) := (blk_cell BK426.out 2).trans rfl; have hfz179_0 := blk_frozen BK426.out 0; have hfz179_1 := blk_frozen BK426.out 1; have hfz179_2 := blk_frozen BK426.out 2; have hcz180_0 : w177.cell? ⟨gb403, 0, none⟩ = some (.int .i64 a3_0) := (blk_cell BK403.out 0).trans rfl; have hcz180_1 : w177.cell? ⟨gb403, 1, none⟩ = some (.int .i64 a3_1) := (blk_cell BK403.out 1).trans rfl; have hcz180_2 : w177.cell? ⟨gb403, 2, none⟩ = some (.int .i64 a3_2) := (blk_cell BK403.out 2).trans rfl; have hcz180_3 : w177.cell? ⟨gb403, 3, none⟩ = some (.int .i64 a3_3) := (blk_cell BK403.out 3).trans rfl; have hcz180_4 : w177.cell? ⟨gb403, 4, none⟩ = some (.int .i64 a3_4) := (blk_cell BK403.out 4).trans rfl; have hcz180_5 : w177.cell? ⟨gb403, 5, none⟩ = some (.int .i64 a3_5) := (blk_cell BK403.out 5).trans rfl; have hcz180_6 : w177.cell? ⟨gb403, 6, none⟩ = some (.int .i64 a3_6) := (blk_cell BK403.out 6).trans rfl; have hcz180_7 : w177.cell? ⟨gb403, 7, none⟩ = some (.int .i64 a3_7) := (blk_cell BK403.out 7).trans rfl; have hfz180_0 := blk_frozen BK403.out 0; have hfz180_1 := blk_frozen BK403.out 1; have hfz180_2 := blk_frozen BK403.out 2; have hfz180_3 := blk_frozen BK403.out 3; have hfz180_4 := blk_frozen BK403.out 4; have hfz180_5 := blk_frozen BK403.out 5; have hfz180_6 := blk_frozen BK403.out 6; have hfz180_7 := blk_frozen BK403.out 7) | ((with_reducible refine gate_callee (f := 11) rfl ?_); refine goesL_ (some 66) rfl rfl Try.func11 (by kernel_rfl) rfl #[.agg #[.int .i64 t420, .int .i64 t421, .slice Ao32 t422.length co32], .int .i64 a1, .int .i64 a2, .agg #[.int .i64 a3_0, .int .i64 a3_1, .int .i64 a3_2, .int .i64 a3_3, .int .i64 a3_4, .int .i64 a3_5, .int .i64 a3_6, .int .i64 a3_7]] rfl (by (try simp only [List.map_toArray, List.map_cons, List.map_nil]); rfl) ?_; (with_reducible refine (value_Eval.calls t420 t421 _ _ t422 a1 a2 a3_0 a3_1 a3_2 a3_3 a3_4 a3_5 a3_6 a3_7 t432 t433 _ ?side1 ?side2 A51.out).mono ?_); (case side1 => repeat (exact (Kd.N_reads' HO_427002.out).2.2)); (case side2 => exact (Kd.N_reads' HO_427002.out).2.1); rintro e w181 ⟨rfl, hb⟩; refine ⟨_, rfl, ?_⟩; replace HO_426002 := Aside0.mk (Kd.N_below HO_426002.out hb); replace HO_427002 := Aside0.mk (Kd.N_below HO_427002.out hb); replace BK402 := Aside0.mk (blk_below BK402.out hb); replace BK403 := Aside0.mk (blk_below BK403.out hb); replace BK425 := Aside0.mk (blk_below BK425.out hb); replace BK426 := Aside0.mk (blk_below BK426.out hb); replace HB := Aside0.mk (below_step HB.out hb); (try clear hb)) | (go_at_call 24; (with_reducible refine (formelaw14_coord.calls (wrap64 ((wrap64 (1 + (Int.tmod (wrap64 ((Int.tmod a4 1000) + 1000)) 1000))) * t427)) false _ A117.out).mono ?_); rintro e w' ⟨rfl, ⟨nd, rfl⟩⟩))
           go_ret
           exact ⟨by rfl, by repeat ((with_reducible first | exact HB.out | apply pw_below_drewN))⟩
end Go.Proofs.Ytdigjjncoeaiiaa.PAll
