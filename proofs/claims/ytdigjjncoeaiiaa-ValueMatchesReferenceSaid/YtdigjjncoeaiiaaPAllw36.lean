/- Printed by a program of this session (wip/gprint.py) over the translation, cut to what is named (wip/dcut.py). Not trusted: Lean checks it. -/
import Derived.Test.YtdigjjncoeaiiaaPAlld0
import Derived.Test.YtdigjjncoeaiiaaPAllw33
import Derived.Test.YtdigjjncoeaiiaaPAllw34
namespace Go.Proofs.Ytdigjjncoeaiiaa.PAll
open Go.RowKit Go.Proofs.YtdigjjncoeaiiaaW.PrintWords Go.Proofs.YtdigjjncoeaiiaaW.PrintLast Go.Proofs.YtdigjjncoeaiiaaW.PrintMore
attribute [local go_sem] max2_int min2_int max_two min_two max_three min_three max_four min_four -- for this text's walks alone
set_option linter.unusedVariables false
set_option linter.unusedSimpArgs false
section
set_option maxHeartbeats 8000000 in
set_option maxRecDepth 100000 in
theorem formeref14_eval.calls (k : Nat) : ∀ (a0_0 : Int) (a0_1 : Int) (A0_2 : Option Addr) (c0_2 : Nat) (l0_2 : List (S24)) (a1 : Int) (a2 : Int) (a3_0 : Int) (a3_1 : Int) (a3_2 : Int) (a3_3 : Int) (a3_4 : Int) (a3_5 : Int) (a3_6 : Int) (a3_7 : Int) (r1 : Int) (r2 : Bool) (w : World) (hr0_2 : Kd.C k24 w A0_2 l0_2.length l0_2) (hc0_2 : l0_2.length ≤ c0_2) (h : formeref14_eval.f k a0_0 a0_1 l0_2 a1 a2 a3_0 a3_1 a3_2 a3_3 a3_4 a3_5 a3_6 a3_7 = some (r1, r2)),
  Calls Try.prog 32 #[.agg #[.int .i64 a0_0, .int .i64 a0_1, .slice A0_2 l0_2.length c0_2], .int .i64 a1, .int .i64 a2, .agg #[.int .i64 a3_0, .int .i64 a3_1, .int .i64 a3_2, .int .i64 a3_3, .int .i64 a3_4, .int .i64 a3_5, .int .i64 a3_6, .int .i64 a3_7]] w fun e w' => e = .returned (.tuple #[.int .i64 r1, .bool r2]) ∧ Below w.heap.size w w' := by
 induction k using Nat.strongRecOn with
 | _ k ih =>
 intro a0_0 a0_1 A0_2 c0_2 l0_2 a1 a2 a3_0 a3_1 a3_2 a3_3 a3_4 a3_5 a3_6 a3_7 r1 r2 w hr0_2 hc0_2 h
 cases k with
 | zero => exact absurd h (by simp [formeref14_eval.f])
 | succ k =>
 simp only [formeref14_eval.f] at h
 have hu24 := Try.underlying24
 have hu25 := Try.underlying25
 have HR0_2 := Aside0.mk hr0_2
 have HC0_2 := Aside0.mk hc0_2
 clear hr0_2 hc0_2
 have HB := Aside0.mk (Below.refl w.heap.size w)
 have H : (formeref14_eval.l0 k a1 a2 ([] : List Int) 0 a0_0 a0_1 l0_2 a3_0 a3_1 a3_2 a3_3 a3_4 a3_5 a3_6 a3_7) = some (r1, r2) := h
 clear h
 have H' := Aside0.mk H
 clear H
 go_enter Try.func32, Try.ntmps32
 go_wp2_with (first | ((with_reducible refine gate_dst (N := 4) rfl ?_); refine box_event ?hg (N := 4) ?hd (cs := #[.int .i64 a0_0, .int .i64 a0_1, .slice A0_2 l0_2.length c0_2]) (t := 24) ?hr ?_; (case hd => rfl); (case hg => rfl); (case hr => (go_simp; done)); intro gb208 hg w5 hbox hb; have BK208 := Aside0.mk (hbox); have GW208 := Aside0.mk ((by rw [hg]; exact (below_size HB.out) : w.heap.size ≤ gb208)); have GE208 := Aside0.mk ((by rw [hg]; exact (below_size HB.out) : w.heap.size ≤ gb208)); replace HB := Aside0.mk (below_step HB.out hb); clear hb hbox hg) | ((with_reducible refine gate_dst (N := 7) rfl ?_); refine box_event ?hg (N := 7) ?hd (cs := #[.int .i64 a3_0, .int .i64 a3_1, .int .i64 a3_2, .int .i64 a3_3, .int .i64 a3_4, .int .i64 a3_5, .int .i64 a3_6, .int .i64 a3_7]) (t := 25) ?hr ?_; (case hd => rfl); (case hg => rfl); (case hr => (go_simp; done)); intro gb209 hg w6 hbox hb; have BK209 := Aside0.mk (hbox); have GW209 := Aside0.mk ((by rw [hg]; exact (below_size HB.out) : w.heap.size ≤ gb209)); have GE209 := Aside0.mk ((by rw [hg]; exact (below_size HB.out) : w.heap.size ≤ gb209)); replace HB := Aside0.mk (below_step HB.out hb); have NB208_209 := Aside0.mk ((by rw [hg]; exact Nat.ne_of_lt (blk_lt BK208.out) : gb208 ≠ gb209)); have NB209_208 := Aside0.mk ((by rw [hg]; exact Nat.ne_of_gt (blk_lt BK208.out) : gb209 ≠ gb208)); replace BK208 := Aside0.mk (blk_below BK208.out hb); clear hb hbox hg))
 go_loopg [10, 11] k (fun kq v10 v11 w' => ∃ (x10_1 : List Int) (x11_1 : Int), v11 = .int .i64 x11_1 ∧ Aside0 (formeref14_eval.l0 kq a1 a2 x10_1 x11_1 a0_0 a0_1 l0_2 a3_0 a3_1 a3_2 a3_3 a3_4 a3_5 a3_6 a3_7 = some (r1, r2)) ∧ Aside0 (kq ≤ k) ∧ Aside0 (Kd.R (Kd.int .i64) 3 w' w.heap.size (fun _ => True) v10 x10_1) ∧ Aside0 (w'.heap[gb208]? = some (.cells #[.int .i64 a0_0, .int .i64 a0_1, (.slice A0_2 l0_2.length c0_2)] 24 (0, 0))) ∧ Aside0 (w'.heap[gb209]? = some (.cells #[.int .i64 a3_0, .int .i64 a3_1, .int .i64 a3_2, .int .i64 a3_3, .int .i64 a3_4, .int .i64 a3_5, .int .i64 a3_6, .int .i64 a3_7] 25 (0, 0))) ∧ Aside0 (Below w.heap.size w w'))
 case atStart => exact ⟨(([] : List Int)), (0), (by rfl), H', ⟨Nat.le_refl _⟩, ⟨by exact Kd.R_nil _ _ _ _ _⟩, ⟨by (with_reducible repeat (fail)); exact BK208.out⟩, ⟨by (with_reducible repeat (fail)); exact BK209.out⟩, ⟨by repeat ((with_reducible exact HB.out))⟩⟩
 case round =>
  clear H'
  obtain ⟨x10_1, x11_1, rfl, HA, HK1, HO_10, BK208, BK209, HB⟩ := hrel
  cases gk with
  | zero => exact absurd HA.out (by simp [formeref14_eval.l0])
  | succ k1 =>
   have H := HA.out
   clear HA
   simp only [formeref14_eval.l0] at H
   by_cases c7 : x11_1 < (l0_2.length : Int)
   · rw [if_pos c7] at H
     have c7b0 : decide (x11_1 < (l0_2.length : Int)) = true := decide_eq_true c7
     clear c7
     by_cases c8 : 0 ≤ x11_1
     · rw [if_pos c8] at H
       have c8b0 : decide (0 ≤ x11_1) = true := decide_eq_true c8
       clear c8
       replace H := Option.bind_eq_some_iff.mp H
       obtain ⟨⟨t211, t212⟩, A90, H⟩ := H
       replace H : (if t212 = true then (if x10_1.length < 17592186044416 then (formeref14_eval.l0 k1 a1 a2 (x10_1 ++ [t211]) (wrap64 (x11_1 + 1)) a0_0 a0_1 l0_2 a3_0 a3_1 a3_2 a3_3 a3_4 a3_5 a3_6 a3_7) else (none)) else (some (0, false))) = some (r1, r2) := H
       have A9 := Aside0.mk A90
       clear A90
       by_cases c10 : t212 = true
       · subst c10
         have H1 : (if x10_1.length < 17592186044416 then (formeref14_eval.l0 k1 a1 a2 (x10_1 ++ [t211]) (wrap64 (x11_1 + 1)) a0_0 a0_1 l0_2 a3_0 a3_1 a3_2 a3_3 a3_4 a3_5 a3_6 a3_7) else (none)) = some (r1, r2) := by rw [if_pos rfl] at H; exact H
         clear H
         have H := H1
         clear H1
         by_cases c11 : x10_1.length < 17592186044416
         · rw [if_pos c11] at H
           have LMc11 := Aside0.mk c11
           clear c11
           obtain ⟨y213, hy213⟩ : ∃ y_ : List Int, y_ = (x10_1 ++ [t211]) := ⟨_, rfl⟩
           replace H : (formeref14_eval.l0 k1 a1 a2 y213 (wrap64 (x11_1 + 1)) a0_0 a0_1 l0_2 a3_0 a3_1 a3_2 a3_3 a3_4 a3_5 a3_6 a3_7) = some (r1, r2) := by (rw [hy213]; with_reducible exact H)
           have Ny213 := Aside0.mk hy213
           clear hy213
           have H' := Aside0.mk H
           clear H
           have hnb12 := NB208_209.out
           have hnc12 := NB209_208.out
           have hcz13_0 : wr.cell? ⟨gb208, 0, none⟩ = some (.int .i64 a0_0) := (blk_cell BK208.out 0).trans rfl
           have hcz13_1 : wr.cell? ⟨gb208, 1, none⟩ = some (.int .i64 a0_1) := (blk_cell BK208.out 1).trans rfl
           have hcz13_2 : wr.cell? ⟨gb208, 2, none⟩ = some (.slice A0_2 l0_2.length c0_2) := (blk_cell BK208.out 2).trans rfl
           have hfz13_0 := blk_frozen BK208.out 0
           have hfz13_1 := blk_frozen BK208.out 1
           have hfz13_2 := blk_frozen BK208.out 2
           try go_wp2
           replace HO_10 := Aside0.mk (Kd.R_drew HO_10.out)
           replace BK208 := Aside0.mk (blk_drew BK208.out)
           replace BK209 := Aside0.mk (blk_drew BK209.out)
           replace HB := Aside0.mk (below_drew1 HB.out)
           have p210 : 0 ≤ (x11_1 : Int) := of_decide_eq_true (by (with_reducible assumption))
           have q210 : x11_1 < (l0_2.length : Int) := of_decide_eq_true (by (with_reducible assumption))
           obtain ⟨ad210, A210_2, c210_2, e210, hx210_0, hx210_1, hx210_2, hl210_2, hi210_2⟩ := at_T24 HR0_2.out x11_1 p210 q210
           have hw210_2 := hx210_2
           have hw210_1 := hx210_1
           have hw210_0 := hx210_0
           cases e210
           replace hx210_0 := (HB.out.cell (World.block_lt_of_cell? w _ hx210_0)).trans hx210_0
           replace hx210_1 := (HB.out.cell (World.block_lt_of_cell? w _ hx210_1)).trans hx210_1
           replace hx210_2 := (HB.out.cell (World.block_lt_of_cell? w _ hx210_2)).trans hx210_2
           have HR210_2 := Aside0.mk hi210_2
           have HC210_2 := Aside0.mk hl210_2
           clear hi210_2 hl210_2
           replace p210 := eq_true p210
           replace q210 := eq_true q210
           refine start_ (n := 14) (S := fun w' => w'.cell? ⟨gb208, 0, none⟩ = some (.int .i64 a0_0) ∧ w'.cell? ⟨gb208, 1, none⟩ = some (.int .i64 a0_1) ∧ w'.cell? ⟨gb208, 2, none⟩ = some (.slice (some ad210) l0_2.length c0_2) ∧ w'.cell? ⟨gb209, 0, none⟩ = some (.int .i64 a3_0) ∧ w'.cell? ⟨gb209, 1, none⟩ = some (.int .i64 a3_1) ∧ w'.cell? ⟨gb209, 2, none⟩ = some (.int .i64 a3_2) ∧ w'.cell? ⟨gb209, 3, none⟩ = some (.int .i64 a3_3) ∧ w'.cell? ⟨gb209, 4, none⟩ = some (.int .i64 a3_4) ∧ w'.cell? ⟨gb209, 5, none⟩ = some (.int .i64 a3_5) ∧ w'.cell? ⟨gb209, 6, none⟩ = some (.int .i64 a3_6) ∧ w'.cell? ⟨gb209, 7, none⟩ = some (.int .i64 a3_7) ∧ w'.cell? (ad210.add ((x11_1).toNat * 3)) = some (.int .i64 ((rd_T24 l0_2 x11_1).f0)) ∧ w'.cell? ⟨(ad210.add ((x11_1).toNat * 3)).block, (ad210.add ((x11_1).toNat * 3)).off + 1, none⟩ = some (.int .i64 ((rd_T24 l0_2 x11_1).f1)) ∧ w'.cell? ⟨(ad210.add ((x11_1).toNat * 3)).block, (ad210.add ((x11_1).toNat * 3)).off + 2, none⟩ = some (.slice A210_2 ((rd_T24 l0_2 x11_1).f2).length c210_2)) (ds := []) #[false, false, false, false, false, false, false, false, false, false, false, false, false, false] (by kernel_rfl) rfl rfl ⟨(blk_cell BK208.out 0).trans rfl, (blk_cell BK208.out 1).trans rfl, (blk_cell BK208.out 2).trans rfl, (blk_cell BK209.out 0).trans rfl, (blk_cell BK209.out 1).trans rfl, (blk_cell BK209.out 2).trans rfl, (blk_cell BK209.out 3).trans rfl, (blk_cell BK209.out 4).trans rfl, (blk_cell BK209.out 5).trans rfl, (blk_cell BK209.out 6).trans rfl, (blk_cell BK209.out 7).trans rfl, ((HB.out.cell (World.block_lt_of_cell? w _ hw210_0)).trans hw210_0), ((HB.out.cell (World.block_lt_of_cell? w _ hw210_1)).trans hw210_1), ((HB.out.cell (World.block_lt_of_cell? w _ hw210_2)).trans hw210_2)⟩ (fun hHeld => ?_); refine with_tabW formeref14_eval.tab5 formeref14_eval.bits5 (fun HT_ HW_ => ?_)
           generalize wr.drew = w14 at HO_10 BK208 BK209 HB HR210_2 hx210_0 hx210_1 hx210_2 hHeld ⊢
           refine pure_ (i := 0) (N := some 24) (v := ?_) (a' := ?_) #[true, false, false, false, false, false, false, false, false, false, false, false, false, false] rfl rfl (any_of HT_.out (by kernel_rfl)) (fun _ _ _ h => h) (Or.inl ⟨by rfl, ?_⟩) ?_ ?_
           rotate_left
           · intro w'
             go_simp
             with_reducible rfl
           rotate_left
           · simp only [Act.put, List.setIfInBounds_toArray, List.set_cons_zero, List.set_cons_succ, i64_w, i32_w]
             rfl
           refine pure_ (i := 2) (N := some 26) (v := ?_) (a' := ?_) #[true, false, true, false, false, false, false, false, false, false, false, false, false, false] rfl rfl (any_of HT_.out (by kernel_rfl)) (fun _ _ _ h => h) (Or.inl ⟨by rfl, ?_⟩) ?_ ?_
           rotate_left
           · intro w'
             go_simp
             with_reducible rfl
           rotate_left
           · simp only [Act.put, List.setIfInBounds_toArray, List.set_cons_zero, List.set_cons_succ, i64_w, i32_w]
             rfl
           refine pure_ (i := 5) (N := some 29) (v := ?_) (a' := ?_) #[true, false, true, false, false, true, false, false, false, false, false, false, false, false] rfl rfl (any_of HT_.out (by kernel_rfl)) (fun _ _ _ h => h) (Or.inl ⟨by rfl, ?_⟩) ?_ ?_
           rotate_left
           · intro w'
             go_simp
             with_reducible rfl
           rotate_left
           · simp only [Act.put, List.setIfInBounds_toArray, List.set_cons_zero, List.set_cons_succ, i64_w, i32_w]
             rfl
           refine pure_ (i := 6) (N := some 30) (v := ?_) (a' := ?_) #[true, false, true, false, false, true, true, false, false, false, false, false, false, false] rfl rfl (any_of HT_.out (by kernel_rfl)) (fun _ _ _ h => h) (Or.inl ⟨by rfl, ?_⟩) ?_ ?_
           rotate_left
           · intro w'
             go_simp
             with_reducible rfl
           rotate_left
           · simp only [Act.put, List.setIfInBounds_toArray, List.set_cons_zero, List.set_cons_succ, i64_w, i32_w]
             rfl
           refine take_ (i := 1) (N := some 25) (v := ?_) (a' := ?_) #[true, true, true, false, false, true, true, false, false, false, false, false, false, false] rfl rfl (take_ofW HT_.out HW_.out (by kernel_rfl)) (fun _ _ _ h => h) (Or.inl ⟨by rfl, ?_⟩) hHeld ?_ ?_
           rotate_left
           · rintro w' ⟨s0, s1, s2, s3, s4, s5, s6, s7, s8, s9, s10, s11, s12, s13⟩
             go_simp
             with_reducible rfl
           rotate_left
           · simp only [Act.put, List.setIfInBounds_toArray, List.set_cons_zero, List.set_cons_succ, i64_w, i32_w]
             rfl
           refine pure_ (i := 3) (N := some 27) (v := ?_) (a' := ?_) #[true, true, true, true, false, true, true, false, false, false, false, false, false, false] rfl rfl (any_of HT_.out (by kernel_rfl)) (fun _ _ _ h => h) (Or.inl ⟨by rfl, ?_⟩) ?_ ?_
           rotate_left
           · intro w'
             go_simp
             with_reducible rfl
           rotate_left
           · simp only [Act.put, List.setIfInBounds_toArray, List.set_cons_zero, List.set_cons_succ, i64_w, i32_w]
             rfl
           refine take_ (i := 4) (N := some 28) (v := ?_) (a' := ?_) #[true, true, true, true, true, true, true, false, false, false, false, false, false, false] rfl rfl (take_ofW HT_.out HW_.out (by kernel_rfl)) (fun _ _ _ h => h) (Or.inl ⟨by rfl, ?_⟩) hHeld ?_ ?_
           rotate_left
           · rintro w' ⟨s0, s1, s2, s3, s4, s5, s6, s7, s8, s9, s10, s11, s12, s13⟩
             go_simp
             with_reducible rfl
           rotate_left
           · simp only [Act.put, List.setIfInBounds_toArray, List.set_cons_zero, List.set_cons_succ, i64_w, i32_w]
             rfl
           refine take_ (i := 7) (N := some 31) (v := ?_) (a' := ?_) #[true, true, true, true, true, true, true, true, false, false, false, false, false, false] rfl rfl (take_ofW HT_.out HW_.out (by kernel_rfl)) (fun _ _ _ h => h) (Or.inl ⟨by rfl, ?_⟩) hHeld ?_ ?_
           rotate_left
           · rintro w' ⟨s0, s1, s2, s3, s4, s5, s6, s7, s8, s9, s10, s11, s12, s13⟩
             go_simp
             with_reducible rfl
           rotate_left
           · simp only [Act.put, List.setIfInBounds_toArray, List.set_cons_zero, List.set_cons_succ, i64_w, i32_w]
             rfl
           refine one_ (i := 8) (N := some 32) #[true, true, true, true, true, true, true, true, true, false, false, false, false, false] rfl rfl (one_of HT_.out (by kernel_rfl)) (by decide) (fun K hK => ?_)
           refine goes_ Try.func32 (by kernel_rfl) rfl #[.agg #[.int .i64 ((rd_T24 l0_2 x11_1).f0), .int .i64 ((rd_T24 l0_2 x11_1).f1), .slice A210_2 ((rd_T24 l0_2 x11_1).f2).length c210_2], .int .i64 a1, .int .i64 a2, .agg #[.int .i64 a3_0, .int .i64 a3_1, .int .i64 a3_2, .int .i64 a3_3, .int .i64 a3_4, .int .i64 a3_5, .int .i64 a3_6, .int .i64 a3_7]] (by rfl) rfl rfl (by (try simp only [List.map_toArray, List.map_cons, List.map_nil]); rfl) ?_
           with_reducible refine (ih k1 (by have := HK1.out; omega) ((rd_T24 l0_2 x11_1).f0) ((rd_T24 l0_2 x11_1).f1) _ _ ((rd_T24 l0_2 x11_1).f2) a1 a2 a3_0 a3_1 a3_2 a3_3 a3_4 a3_5 a3_6 a3_7 t211 true _ ?side1 ?side2 A9.out).mono ?_
           (case side1 => repeat (exact (Kd.C_below HR210_2.out HB.out)))
           (case side2 => exact HC210_2.out)
           rintro e w15 ⟨rfl, hb⟩
           refine ⟨_, rfl, ?_⟩
           replace HO_10 := Aside0.mk (Kd.R_below HO_10.out hb)
           replace BK208 := Aside0.mk (blk_below BK208.out hb)
           replace BK209 := Aside0.mk (blk_below BK209.out hb)
           replace HB := Aside0.mk (below_step HB.out hb)
           (try clear hb)
           refine hK.out _ _ ⟨(blk_cell BK208.out 0).trans rfl, (blk_cell BK208.out 1).trans rfl, (blk_cell BK208.out 2).trans rfl, (blk_cell BK209.out 0).trans rfl, (blk_cell BK209.out 1).trans rfl, (blk_cell BK209.out 2).trans rfl, (blk_cell BK209.out 3).trans rfl, (blk_cell BK209.out 4).trans rfl, (blk_cell BK209.out 5).trans rfl, (blk_cell BK209.out 6).trans rfl, (blk_cell BK209.out 7).trans rfl, ((HB.out.cell (World.block_lt_of_cell? w _ hw210_0)).trans hw210_0), ((HB.out.cell (World.block_lt_of_cell? w _ hw210_1)).trans hw210_1), ((HB.out.cell (World.block_lt_of_cell? w _ hw210_2)).trans hw210_2)⟩ (fun hHeld => ?_)
           clear hK K
           refine norm_ (a' := ?_) ?_ ?_
           rotate_left
           · show Act.put _ (some 32) _ = _
             simp only [Act.put, List.setIfInBounds_toArray, List.set_cons_zero, List.set_cons_succ, i64_w, i32_w]
             rfl
           refine pure_ (i := 9) (N := some 23) (v := ?_) (a' := ?_) #[true, true, true, true, true, true, true, true, true, true, false, false, false, false] rfl rfl (any_of HT_.out (by kernel_rfl)) (fun _ _ _ h => h) (Or.inl ⟨by rfl, ?_⟩) ?_ ?_
           rotate_left
           · intro w'
             go_simp
             with_reducible rfl
           rotate_left
           · simp only [Act.put, List.setIfInBounds_toArray, List.set_cons_zero, List.set_cons_succ, i64_w, i32_w]
             rfl
           refine pure_ (i := 10) (N := some 33) (v := ?_) (a' := ?_) #[true, true, true, true, true, true, true, true, true, true, true, false, false, false] rfl rfl (any_of HT_.out (by kernel_rfl)) (fun _ _ _ h => h) (Or.inl ⟨by rfl, ?_⟩) ?_ ?_
           rotate_left
           · intro w'
             go_simp
             with_reducible rfl
           rotate_left
           · simp only [Act.put, List.setIfInBounds_toArray, List.set_cons_zero, List.set_cons_succ, i64_w, i32_w]
             rfl
           refine pure_ (i := 11) (N := some 34) (v := ?_) (a' := ?_) #[true, true, true, true, true, true, true, true, true, true, true, true, false, false] rfl rfl (any_of HT_.out (by kernel_rfl)) (fun _ _ _ h => h) (Or.inl ⟨by rfl, ?_⟩) ?_ ?_
           rotate_left
           · intro w'
             go_simp
             with_reducible rfl
           rotate_left
           · simp only [Act.put, List.setIfInBounds_toArray, List.set_cons_zero, List.set_cons_succ, i64_w, i32_w]
             rfl
           refine pure_ (i := 12) (N := some 12) (v := ?_) (a' := ?_) #[true, true, true, true, true, true, true, true, true, true, true, true, true, false] rfl rfl (any_of HT_.out (by kernel_rfl)) (fun _ _ _ h => h) (Or.inl ⟨by rfl, ?_⟩) ?_ ?_
           rotate_left
           · intro w'
             go_simp
             with_reducible rfl
           rotate_left
           · simp only [Act.put, List.setIfInBounds_toArray, List.set_cons_zero, List.set_cons_succ, i64_w, i32_w]
             rfl
           refine pure_ (i := 13) (N := some 13) (v := ?_) (a' := ?_) #[true, true, true, true, true, true, true, true, true, true, true, true, true, true] rfl rfl (any_of HT_.out (by kernel_rfl)) (fun _ _ _ h => h) (Or.inl ⟨by rfl, ?_⟩) ?_ ?_
           rotate_left
           · intro w'
             go_simp
             with_reducible rfl
           rotate_left
           · simp only [Act.put, List.setIfInBounds_toArray, List.set_cons_zero, List.set_cons_succ, i64_w, i32_w]
             rfl
           refine done_ (done_of HT_.out (by kernel_rfl)) ?_
           try go_wp2_with (((with_reducible refine gate_builtin (b := .append) (xs := #[.tmp 37, .tmp 39]) rfl ?_); at_builtin; refine Kd.R_append (Kd.int .i64) (w0 := w) w.heap.size rfl (.tmp 37) (.tmp 39) 33 3 (.int .i64 0) 8 rfl Try.underlying33 info3 rfl (by decide) (by omega) u10 x10_1 t211 [.int .i64 t211] (fun _ => True) (fun _ => False) rfl rfl ?aP (fun _ hk => hk.elim) ?aF ?aO ?aB ?aS ?aL ?_; (case aP => exact rfl); (case aB => exact HB.out); (case aF => exact (fun _ _ => trivial)); (case aO => exact HO_10.out); (case aS => exact (below_size HB.out)); (case aL => have := LMc11.out; omega); intro v214 w16 ho hb hg hat; rw [← Ny213.out] at ho; replace BK208 := Aside0.mk (blk_grown BK208.out hg (Kd.R_ne HO_10.out BK208.out (by decide))); replace BK209 := Aside0.mk (blk_grown BK209.out hg (Kd.R_ne HO_10.out BK209.out (by decide))); replace HB := Aside0.mk (hb); have HO215 := Aside0.mk (ho); clear HO_10; clear ho hb hg hat))
           go_roundg k1
           case measure => have := HK1.out; omega
           case rel => exact ⟨(y213), (wrap64 (x11_1 + 1)), (by rfl), H', ⟨by have := HK1.out; omega⟩, ⟨by (with_reducible repeat (fail)); exact HO215.out⟩, ⟨by (with_reducible repeat (fail)); exact BK208.out⟩, ⟨by (with_reducible repeat (fail)); exact BK209.out⟩, ⟨by repeat ((with_reducible exact HB.out))⟩⟩
         · rw [if_neg c11] at H
           exact absurd H (by simp)
       · replace c10 := Bool.eq_false_iff.mpr c10
         subst c10
         have H1 : (some (0, false)) = some (r1, r2) := by rw [if_neg (show ¬ (false = true) by decide)] at H; exact H
         clear H
         have H := H1
         clear H1
         simp only [Option.some.injEq, Prod.mk.injEq] at H
         obtain ⟨rfl, rfl⟩ := H
         have hnb17 := NB208_209.out
         have hnc17 := NB209_208.out
         have hcz18_0 : wr.cell? ⟨gb208, 0, none⟩ = some (.int .i64 a0_0) := (blk_cell BK208.out 0).trans rfl
         have hcz18_1 : wr.cell? ⟨gb208, 1, none⟩ = some (.int .i64 a0_1) := (blk_cell BK208.out 1).trans rfl
         have hcz18_2 : wr.cell? ⟨gb208, 2, none⟩ = some (.slice A0_2 l0_2.length c0_2) := (blk_cell BK208.out 2).trans rfl
         have hfz18_0 := blk_frozen BK208.out 0
         have hfz18_1 := blk_frozen BK208.out 1
         have hfz18_2 := blk_frozen BK208.out 2
         try go_wp2
         replace HO_10 := Aside0.mk (Kd.R_drew HO_10.out)
         replace BK208 := Aside0.mk (blk_drew BK208.out)
         replace BK209 := Aside0.mk (blk_drew BK209.out)
         replace HB := Aside0.mk (below_drew1 HB.out)
         have p210 : 0 ≤ (x11_1 : Int) := of_decide_eq_true (by (with_reducible assumption))
         have q210 : x11_1 < (l0_2.length : Int) := of_decide_eq_true (by (with_reducible assumption))
         obtain ⟨ad210, A210_2, c210_2, e210, hx210_0, hx210_1, hx210_2, hl210_2, hi210_2⟩ := at_T24 HR0_2.out x11_1 p210 q210
         have hw210_2 := hx210_2
         have hw210_1 := hx210_1
         have hw210_0 := hx210_0
         cases e210
         replace hx210_0 := (HB.out.cell (World.block_lt_of_cell? w _ hx210_0)).trans hx210_0
         replace hx210_1 := (HB.out.cell (World.block_lt_of_cell? w _ hx210_1)).trans hx210_1
         replace hx210_2 := (HB.out.cell (World.block_lt_of_cell? w _ hx210_2)).trans hx210_2
         have HR210_2 := Aside0.mk hi210_2
         have HC210_2 := Aside0.mk hl210_2
         clear hi210_2 hl210_2
         replace p210 := eq_true p210
         replace q210 := eq_true q210
         refine start_ (n := 14) (S := fun w' => w'.cell? ⟨gb208, 0, none⟩ = some (.int .i64 a0_0) ∧ w'.cell? ⟨gb208, 1, none⟩ = some (.int .i64 a0_1) ∧ w'.cell? ⟨gb208, 2, none⟩ = some (.slice (some ad210) l0_2.length c0_2) ∧ w'.cell? ⟨gb209, 0, none⟩ = some (.int .i64 a3_0) ∧ w'.cell? ⟨gb209, 1, none⟩ = some (.int .i64 a3_1) ∧ w'.cell? ⟨gb209, 2, none⟩ = some (.int .i64 a3_2) ∧ w'.cell? ⟨gb209, 3, none⟩ = some (.int .i64 a3_3) ∧ w'.cell? ⟨gb209, 4, none⟩ = some (.int .i64 a3_4) ∧ w'.cell? ⟨gb209, 5, none⟩ = some (.int .i64 a3_5) ∧ w'.cell? ⟨gb209, 6, none⟩ = some (.int .i64 a3_6) ∧ w'.cell? ⟨gb209, 7, none⟩ = some (.int .i64 a3_7) ∧ w'.cell? (ad210.add ((x11_1).toNat * 3)) = some (.int .i64 ((rd_T24 l0_2 x11_1).f0)) ∧ w'.cell? ⟨(ad210.add ((x11_1).toNat * 3)).block, (ad210.add ((x11_1).toNat * 3)).off + 1, none⟩ = some (.int .i64 ((rd_T24 l0_2 x11_1).f1)) ∧ w'.cell? ⟨(ad210.add ((x11_1).toNat * 3)).block, (ad210.add ((x11_1).toNat * 3)).off + 2, none⟩ = some (.slice A210_2 ((rd_T24 l0_2 x11_1).f2).length c210_2)) (ds := []) #[false, false, false, false, false, false, false, false, false, false, false, false, false, false] (by kernel_rfl) rfl rfl ⟨(blk_cell BK208.out 0).trans rfl, (blk_cell BK208.out 1).trans rfl, (blk_cell BK208.out 2).trans rfl, (blk_cell BK209.out 0).trans rfl, (blk_cell BK209.out 1).trans rfl, (blk_cell BK209.out 2).trans rfl, (blk_cell BK209.out 3).trans rfl, (blk_cell BK209.out 4).trans rfl, (blk_cell BK209.out 5).trans rfl, (blk_cell BK209.out 6).trans rfl, (blk_cell BK209.out 7).trans rfl, ((HB.out.cell (World.block_lt_of_cell? w _ hw210_0)).trans hw210_0), ((HB.out.cell (World.block_lt_of_cell? w _ hw210_1)).trans hw210_1), ((HB.out.cell (World.block_lt_of_cell? w _ hw210_2)).trans hw210_2)⟩ (fun hHeld => ?_); refine with_tabW formeref14_eval.tab5 formeref14_eval.bits5 (fun HT_ HW_ => ?_)
         generalize wr.drew = w19 at HO_10 BK208 BK209 HB HR210_2 hx210_0 hx210_1 hx210_2 hHeld ⊢
         refine pure_ (i := 0) (N := some 24) (v := ?_) (a' := ?_) #[true, false, false, false, false, false, false, false, false, false, false, false, false, false] rfl rfl (any_of HT_.out (by kernel_rfl)) (fun _ _ _ h => h) (Or.inl ⟨by rfl, ?_⟩) ?_ ?_
         rotate_left
         · intro w'
           go_simp
           with_reducible rfl
         rotate_left
         · simp only [Act.put, List.setIfInBounds_toArray, List.set_cons_zero, List.set_cons_succ, i64_w, i32_w]
           rfl
         refine pure_ (i := 2) (N := some 26) (v := ?_) (a' := ?_) #[true, false, true, false, false, false, false, false, false, false, false, false, false, false] rfl rfl (any_of HT_.out (by kernel_rfl)) (fun _ _ _ h => h) (Or.inl ⟨by rfl, ?_⟩) ?_ ?_
         rotate_left
         · intro w'
           go_simp
           with_reducible rfl
         rotate_left
         · simp only [Act.put, List.setIfInBounds_toArray, List.set_cons_zero, List.set_cons_succ, i64_w, i32_w]
           rfl
         refine pure_ (i := 5) (N := some 29) (v := ?_) (a' := ?_) #[true, false, true, false, false, true, false, false, false, false, false, false, false, false] rfl rfl (any_of HT_.out (by kernel_rfl)) (fun _ _ _ h => h) (Or.inl ⟨by rfl, ?_⟩) ?_ ?_
         rotate_left
         · intro w'
           go_simp
           with_reducible rfl
         rotate_left
         · simp only [Act.put, List.setIfInBounds_toArray, List.set_cons_zero, List.set_cons_succ, i64_w, i32_w]
           rfl
         refine pure_ (i := 6) (N := some 30) (v := ?_) (a' := ?_) #[true, false, true, false, false, true, true, false, false, false, false, false, false, false] rfl rfl (any_of HT_.out (by kernel_rfl)) (fun _ _ _ h => h) (Or.inl ⟨by rfl, ?_⟩) ?_ ?_
         rotate_left
         · intro w'
           go_simp
           with_reducible rfl
         rotate_left
         · simp only [Act.put, List.setIfInBounds_toArray, List.set_cons_zero, List.set_cons_succ, i64_w, i32_w]
           rfl
         refine take_ (i := 1) (N := some 25) (v := ?_) (a' := ?_) #[true, true, true, false, false, true, true, false, false, false, false, false, false, false] rfl rfl (take_ofW HT_.out HW_.out (by kernel_rfl)) (fun _ _ _ h => h) (Or.inl ⟨by rfl, ?_⟩) hHeld ?_ ?_
         rotate_left
         · rintro w' ⟨s0, s1, s2, s3, s4, s5, s6, s7, s8, s9, s10, s11, s12, s13⟩
           go_simp
           with_reducible rfl
         rotate_left
         · simp only [Act.put, List.setIfInBounds_toArray, List.set_cons_zero, List.set_cons_succ, i64_w, i32_w]
           rfl
         refine pure_ (i := 3) (N := some 27) (v := ?_) (a' := ?_) #[true, true, true, true, false, true, true, false, false, false, false, false, false, false] rfl rfl (any_of HT_.out (by kernel_rfl)) (fun _ _ _ h => h) (Or.inl ⟨by rfl, ?_⟩) ?_ ?_
         rotate_left
         · intro w'
           go_simp
           with_reducible rfl
         rotate_left
         · simp only [Act.put, List.setIfInBounds_toArray, List.set_cons_zero, List.set_cons_succ, i64_w, i32_w]
           rfl
         refine take_ (i := 4) (N := some 28) (v := ?_) (a' := ?_) #[true, true, true, true, true, true, true, false, false, false, false, false, false, false] rfl rfl (take_ofW HT_.out HW_.out (by kernel_rfl)) (fun _ _ _ h => h) (Or.inl ⟨by rfl, ?_⟩) hHeld ?_ ?_
         rotate_left
         · rintro w' ⟨s0, s1, s2, s3, s4, s5, s6, s7, s8, s9, s10, s11, s12, s13⟩
           go_simp
           with_reducible rfl
         rotate_left
         · simp only [Act.put, List.setIfInBounds_toArray, List.set_cons_zero, List.set_cons_succ, i64_w, i32_w]
           rfl
         refine take_ (i := 7) (N := some 31) (v := ?_) (a' := ?_) #[true, true, true, true, true, true, true, true, false, false, false, false, false, false] rfl rfl (take_ofW HT_.out HW_.out (by kernel_rfl)) (fun _ _ _ h => h) (Or.inl ⟨by rfl, ?_⟩) hHeld ?_ ?_
         rotate_left
         · rintro w' ⟨s0, s1, s2, s3, s4, s5, s6, s7, s8, s9, s10, s11, s12, s13⟩
           go_simp
           with_reducible rfl
         rotate_left
         · simp only [Act.put, List.setIfInBounds_toArray, List.set_cons_zero, List.set_cons_succ, i64_w, i32_w]
           rfl
         refine one_ (i := 8) (N := some 32) #[true, true, true, true, true, true, true, true, true, false, false, false, false, false] rfl rfl (one_of HT_.out (by kernel_rfl)) (by decide) (fun K hK => ?_)
         refine goes_ Try.func32 (by kernel_rfl) rfl #[.agg #[.int .i64 ((rd_T24 l0_2 x11_1).f0), .int .i64 ((rd_T24 l0_2 x11_1).f1), .slice A210_2 ((rd_T24 l0_2 x11_1).f2).length c210_2], .int .i64 a1, .int .i64 a2, .agg #[.int .i64 a3_0, .int .i64 a3_1, .int .i64 a3_2, .int .i64 a3_3, .int .i64 a3_4, .int .i64 a3_5, .int .i64 a3_6, .int .i64 a3_7]] (by rfl) rfl rfl (by (try simp only [List.map_toArray, List.map_cons, List.map_nil]); rfl) ?_
         with_reducible refine (ih k1 (by have := HK1.out; omega) ((rd_T24 l0_2 x11_1).f0) ((rd_T24 l0_2 x11_1).f1) _ _ ((rd_T24 l0_2 x11_1).f2) a1 a2 a3_0 a3_1 a3_2 a3_3 a3_4 a3_5 a3_6 a3_7 t211 false _ ?side1 ?side2 A9.out).mono ?_
         (case side1 => repeat (exact (Kd.C_below HR210_2.out HB.out)))
         (case side2 => exact HC210_2.out)
         rintro e w20 ⟨rfl, hb⟩
         refine ⟨_, rfl, ?_⟩
         replace HO_10 := Aside0.mk (Kd.R_below HO_10.out hb)
         replace BK208 := Aside0.mk (blk_below BK208.out hb)
         replace BK209 := Aside0.mk (blk_below BK209.out hb)
         replace HB := Aside0.mk (below_step HB.out hb)
         (try clear hb)
         refine hK.out _ _ ⟨(blk_cell BK208.out 0).trans rfl, (blk_cell BK208.out 1).trans rfl, (blk_cell BK208.out 2).trans rfl, (blk_cell BK209.out 0).trans rfl, (blk_cell BK209.out 1).trans rfl, (blk_cell BK209.out 2).trans rfl, (blk_cell BK209.out 3).trans rfl, (blk_cell BK209.out 4).trans rfl, (blk_cell BK209.out 5).trans rfl, (blk_cell BK209.out 6).trans rfl, (blk_cell BK209.out 7).trans rfl, ((HB.out.cell (World.block_lt_of_cell? w _ hw210_0)).trans hw210_0), ((HB.out.cell (World.block_lt_of_cell? w _ hw210_1)).trans hw210_1), ((HB.out.cell (World.block_lt_of_cell? w _ hw210_2)).trans hw210_2)⟩ (fun hHeld => ?_)
         clear hK K
         refine norm_ (a' := ?_) ?_ ?_
         rotate_left
         · show Act.put _ (some 32) _ = _
           simp only [Act.put, List.setIfInBounds_toArray, List.set_cons_zero, List.set_cons_succ, i64_w, i32_w]
           rfl
         refine pure_ (i := 9) (N := some 23) (v := ?_) (a' := ?_) #[true, true, true, true, true, true, true, true, true, true, false, false, false, false] rfl rfl (any_of HT_.out (by kernel_rfl)) (fun _ _ _ h => h) (Or.inl ⟨by rfl, ?_⟩) ?_ ?_
         rotate_left
         · intro w'
           go_simp
           with_reducible rfl
         rotate_left
         · simp only [Act.put, List.setIfInBounds_toArray, List.set_cons_zero, List.set_cons_succ, i64_w, i32_w]
           rfl
         refine pure_ (i := 10) (N := some 33) (v := ?_) (a' := ?_) #[true, true, true, true, true, true, true, true, true, true, true, false, false, false] rfl rfl (any_of HT_.out (by kernel_rfl)) (fun _ _ _ h => h) (Or.inl ⟨by rfl, ?_⟩) ?_ ?_
         rotate_left
         · intro w'
           go_simp
           with_reducible rfl
         rotate_left
         · simp only [Act.put, List.setIfInBounds_toArray, List.set_cons_zero, List.set_cons_succ, i64_w, i32_w]
           rfl
         refine pure_ (i := 11) (N := some 34) (v := ?_) (a' := ?_) #[true, true, true, true, true, true, true, true, true, true, true, true, false, false] rfl rfl (any_of HT_.out (by kernel_rfl)) (fun _ _ _ h => h) (Or.inl ⟨by rfl, ?_⟩) ?_ ?_
         rotate_left
         · intro w'
           go_simp
           with_reducible rfl
         rotate_left
         · simp only [Act.put, List.setIfInBounds_toArray, List.set_cons_zero, List.set_cons_succ, i64_w, i32_w]
           rfl
         refine pure_ (i := 12) (N := some 12) (v := ?_) (a' := ?_) #[true, true, true, true, true, true, true, true, true, true, true, true, true, false] rfl rfl (any_of HT_.out (by kernel_rfl)) (fun _ _ _ h => h) (Or.inl ⟨by rfl, ?_⟩) ?_ ?_
         rotate_left
         · intro w'
           go_simp
           with_reducible rfl
         rotate_left
         · simp only [Act.put, List.setIfInBounds_toArray, List.set_cons_zero, List.set_cons_succ, i64_w, i32_w]
           rfl
         refine pure_ (i := 13) (N := some 13) (v := ?_) (a' := ?_) #[true, true, true, true, true, true, true, true, true, true, true, true, true, true] rfl rfl (any_of HT_.out (by kernel_rfl)) (fun _ _ _ h => h) (Or.inl ⟨by rfl, ?_⟩) ?_ ?_
         rotate_left
         · intro w'
           go_simp
           with_reducible rfl
         rotate_left
         · simp only [Act.put, List.setIfInBounds_toArray, List.set_cons_zero, List.set_cons_succ, i64_w, i32_w]
           rfl
         refine done_ (done_of HT_.out (by kernel_rfl)) ?_
         try go_wp2
         go_ret2
         exact ⟨by rfl, by repeat ((with_reducible exact HB.out))⟩
     · rw [if_neg c8] at H
       exact absurd H (by simp)
   · rw [if_neg c7] at H
     have c7b0 : decide (x11_1 < (l0_2.length : Int)) = false := decide_eq_false c7
     clear c7
     replace H := Option.bind_eq_some_iff.mp H
     obtain ⟨t216, A210, H⟩ := H
     replace H : ((formeref01_Coord.f t216).bind fun t217 => (if t217 = true then (some (t216, true)) else (some (0, false)))) = some (r1, r2) := H
     have A21 := Aside0.mk A210
     clear A210
     replace H := Option.bind_eq_some_iff.mp H
     obtain ⟨t217, A220, H⟩ := H
     replace H : (if t217 = true then (some (t216, true)) else (some (0, false))) = some (r1, r2) := H
     have A22 := Aside0.mk A220
     clear A220
     by_cases c23 : t217 = true
     · subst c23
       have H1 : (some (t216, true)) = some (r1, r2) := by rw [if_pos rfl] at H; exact H
       clear H
       have H := H1
       clear H1
       simp only [Option.some.injEq, Prod.mk.injEq] at H
       obtain ⟨rfl, rfl⟩ := H
       have hnb24 := NB208_209.out
       have hnc24 := NB209_208.out
       have hcz25_0 : wr.cell? ⟨gb208, 0, none⟩ = some (.int .i64 a0_0) := (blk_cell BK208.out 0).trans rfl
       have hcz25_1 : wr.cell? ⟨gb208, 1, none⟩ = some (.int .i64 a0_1) := (blk_cell BK208.out 1).trans rfl
       have hcz25_2 : wr.cell? ⟨gb208, 2, none⟩ = some (.slice A0_2 l0_2.length c0_2) := (blk_cell BK208.out 2).trans rfl
       have hfz25_0 := blk_frozen BK208.out 0
       have hfz25_1 := blk_frozen BK208.out 1
       have hfz25_2 := blk_frozen BK208.out 2
       have hcz26_0 : wr.cell? ⟨gb209, 0, none⟩ = some (.int .i64 a3_0) := (blk_cell BK209.out 0).trans rfl
       have hcz26_1 : wr.cell? ⟨gb209, 1, none⟩ = some (.int .i64 a3_1) := (blk_cell BK209.out 1).trans rfl
       have hcz26_2 : wr.cell? ⟨gb209, 2, none⟩ = some (.int .i64 a3_2) := (blk_cell BK209.out 2).trans rfl
       have hcz26_3 : wr.cell? ⟨gb209, 3, none⟩ = some (.int .i64 a3_3) := (blk_cell BK209.out 3).trans rfl
       have hcz26_4 : wr.cell? ⟨gb209, 4, none⟩ = some (.int .i64 a3_4) := (blk_cell BK209.out 4).trans rfl
       have hcz26_5 : wr.cell? ⟨gb209, 5, none⟩ = some (.int .i64 a3_5) := (blk_cell BK209.out 5).trans rfl
       have hcz26_6 : wr.cell? ⟨gb209, 6, none⟩ = some (.int .i64 a3_6) := (blk_cell BK209.out 6).trans rfl
       have hcz26_7 : wr.cell? ⟨gb209, 7, none⟩ = some (.int .i64 a3_7) := (blk_cell BK209.out 7).trans rfl
       have hfz26_0 := blk_frozen BK209.out 0
       have hfz26_1 := blk_frozen BK209.out 1
       have hfz26_2 := blk_frozen BK209.out 2
       have hfz26_3 := blk_frozen BK209.out 3
       have hfz26_4 := blk_frozen BK209.out 4
       have hfz26_5 := blk_frozen BK209.out 5
       have hfz26_6 := blk_frozen BK209.out 6
       have hfz26_7 := blk_frozen BK209.out 7
       obtain ⟨Ao27, co27, eo27⟩ := Kd.R_slice HO_10.out
       subst eo27
       go_wp2_with (first | ((with_reducible refine gate_callee (f := 60) rfl ?_); refine goesL_ (some 46) rfl rfl Try.func60 (by kernel_rfl) rfl #[.agg #[.int .i64 a0_0, .int .i64 a0_1, .slice A0_2 l0_2.length c0_2], .slice Ao27 x10_1.length co27, .int .i64 a1, .int .i64 a2, .agg #[.int .i64 a3_0, .int .i64 a3_1, .int .i64 a3_2, .int .i64 a3_3, .int .i64 a3_4, .int .i64 a3_5, .int .i64 a3_6, .int .i64 a3_7]] rfl (by (try simp only [List.map_toArray, List.map_cons, List.map_nil]); rfl) ?_; (with_reducible refine (formeref14_compute.calls a0_0 a0_1 _ _ l0_2 _ _ x10_1 a1 a2 a3_0 a3_1 a3_2 a3_3 a3_4 a3_5 a3_6 a3_7 t216 _ ?side1 ?side2 ?side3 ?side4 A21.out).mono ?_); (case side1 => repeat (exact (Kd.C_below HR0_2.out HB.out))); (case side2 => exact HC0_2.out); (case side3 => repeat (exact (Kd.R_reads' HO_10.out).2.2)); (case side4 => exact (Kd.R_reads' HO_10.out).2.1); rintro e w28 ⟨rfl, hb⟩; refine ⟨_, rfl, ?_⟩; replace HO_10 := Aside0.mk (Kd.R_below HO_10.out hb); replace BK208 := Aside0.mk (blk_below BK208.out hb); replace BK209 := Aside0.mk (blk_below BK209.out hb); replace HB := Aside0.mk (below_step HB.out hb); (try clear hb)) | ((with_reducible refine gate_callee (f := 58) rfl ?_); refine goesL_ (some 48) rfl rfl Try.func58 (by kernel_rfl) rfl #[.int .i64 t216] rfl (by (try simp only [List.map_toArray, List.map_cons, List.map_nil]); rfl) ?_; (with_reducible refine (formeref01_Coord.calls t216 true _ A22.out).mono ?_); rintro e w' ⟨rfl, ⟨nd, rfl⟩⟩; refine ⟨_, rfl, ?_⟩))
       go_ret2
       exact ⟨by rfl, by repeat ((with_reducible first | exact HB.out | apply pw_below_drewN))⟩
     · replace c23 := Bool.eq_false_iff.mpr c23
       subst c23
       have H1 : (some (0, false)) = some (r1, r2) := by rw [if_neg (show ¬ (false = true) by decide)] at H; exact H
       clear H
       have H := H1
       clear H1
       simp only [Option.some.injEq, Prod.mk.injEq] at H
       obtain ⟨rfl, rfl⟩ := H
       have hnb29 := NB208_209.out
       have hnc29 := NB209_208.out
       have hcz30_0 : wr.cell? ⟨gb208, 0, none⟩ = some (.int .i64 a0_0) := (blk_cell BK208.out 0).trans rfl
       have hcz30_1 : wr.cell? ⟨gb208, 1, none⟩ = some (.int .i64 a0_1) := (blk_cell BK208.out 1).trans rfl
       have hcz30_2 : wr.cell? ⟨gb208, 2, none⟩ = some (.slice A0_2 l0_2.length c0_2) := (blk_cell BK208.out 2).trans rfl
       have hfz30_0 := blk_frozen BK208.out 0
       have hfz30_1 := blk_frozen BK208.out 1
       have hfz30_2 := blk_frozen BK208.out 2
       have hcz31_0 : wr.cell? ⟨gb209, 0, none⟩ = some (.int .i64 a3_0) := (blk_cell BK209.out 0).trans rfl
       have hcz31_1 : wr.cell? ⟨gb209, 1, none⟩ = some (.int .i64 a3_1) := (blk_cell BK209.out 1).trans rfl
       have hcz31_2 : wr.cell? ⟨gb209, 2, none⟩ = some (.int .i64 a3_2) := (blk_cell BK209.out 2).trans rfl
       have hcz31_3 : wr.cell? ⟨gb209, 3, none⟩ = some (.int .i64 a3_3) := (blk_cell BK209.out 3).trans rfl
       have hcz31_4 : wr.cell? ⟨gb209, 4, none⟩ = some (.int .i64 a3_4) := (blk_cell BK209.out 4).trans rfl
       have hcz31_5 : wr.cell? ⟨gb209, 5, none⟩ = some (.int .i64 a3_5) := (blk_cell BK209.out 5).trans rfl
       have hcz31_6 : wr.cell? ⟨gb209, 6, none⟩ = some (.int .i64 a3_6) := (blk_cell BK209.out 6).trans rfl
       have hcz31_7 : wr.cell? ⟨gb209, 7, none⟩ = some (.int .i64 a3_7) := (blk_cell BK209.out 7).trans rfl
       have hfz31_0 := blk_frozen BK209.out 0
       have hfz31_1 := blk_frozen BK209.out 1
       have hfz31_2 := blk_frozen BK209.out 2
       have hfz31_3 := blk_frozen BK209.out 3
       have hfz31_4 := blk_frozen BK209.out 4
       have hfz31_5 := blk_frozen BK209.out 5
       have hfz31_6 := blk_frozen BK209.out 6
       have hfz31_7 := blk_frozen BK209.out 7
       obtain ⟨Ao32, co32, eo32⟩ := Kd.R_slice HO_10.out
       subst eo32
       go_wp2_with (first | ((with_reducible refine gate_callee (f := 60) rfl ?_); refine goesL_ (some 46) rfl rfl Try.func60 (by kernel_rfl) rfl #[.agg #[.int .i64 a0_0, .int .i64 a0_1, .slice A0_2 l0_2.length c0_2], .slice Ao32 x10_1.length co32, .int .i64 a1, .int .i64 a2, .agg #[.int .i64 a3_0, .int .i64 a3_1, .int .i64 a3_2, .int .i64 a3_3, .int .i64 a3_4, .int .i64 a3_5, .int .i64 a3_6, .int .i64 a3_7]] rfl (by (try simp only [List.map_toArray, List.map_cons, List.map_nil]); rfl) ?_; (with_reducible refine (formeref14_compute.calls a0_0 a0_1 _ _ l0_2 _ _ x10_1 a1 a2 a3_0 a3_1 a3_2 a3_3 a3_4 a3_5 a3_6 a3_7 t216 _ ?side1 ?side2 ?side3 ?side4 A21.out).mono ?_); (case side1 => repeat (exact (Kd.C_below HR0_2.out HB.out))); (case side2 => exact HC0_2.out); (case side3 => repeat (exact (Kd.R_reads' HO_10.out).2.2)); (case side4 => exact (Kd.R_reads' HO_10.out).2.1); rintro e w33 ⟨rfl, hb⟩; refine ⟨_, rfl, ?_⟩; replace HO_10 := Aside0.mk (Kd.R_below HO_10.out hb); replace BK208 := Aside0.mk (blk_below BK208.out hb); replace BK209 := Aside0.mk (blk_below BK209.out hb); replace HB := Aside0.mk (below_step HB.out hb); (try clear hb)) | ((with_reducible refine gate_callee (f := 58) rfl ?_); refine goesL_ (some 48) rfl rfl Try.func58 (by kernel_rfl) rfl #[.int .i64 t216] rfl (by (try simp only [List.map_toArray, List.map_cons, List.map_nil]); rfl) ?_; (with_reducible refine (formeref01_Coord.calls t216 false _ A22.out).mono ?_); rintro e w' ⟨rfl, ⟨nd, rfl⟩⟩; refine ⟨_, rfl, ?_⟩))
       go_ret2
       exact ⟨by rfl, by repeat ((with_reducible first | exact HB.out | apply pw_below_drewN))⟩
end
section
set_option maxHeartbeats 8000000 in
set_option maxRecDepth 100000 in
theorem formeref14_Eval.calls (k : Nat) (a0_0 : Int) (a0_1 : Int) (A0_2 : Option Addr) (c0_2 : Nat) (l0_2 : List (S24)) (a1 : Int) (a2 : Int) (a3_0 : Int) (a3_1 : Int) (a3_2 : Int) (a3_3 : Int) (a3_4 : Int) (a3_5 : Int) (a3_6 : Int) (a3_7 : Int) (r1 : Int) (r2 : Int) (w : World) (hr0_2 : Kd.C k24 w A0_2 l0_2.length l0_2) (hc0_2 : l0_2.length ≤ c0_2) (h : formeref14_Eval.f k a0_0 a0_1 l0_2 a1 a2 a3_0 a3_1 a3_2 a3_3 a3_4 a3_5 a3_6 a3_7 = some (r1, r2)) :
  Calls Try.prog 12 #[.agg #[.int .i64 a0_0, .int .i64 a0_1, .slice A0_2 l0_2.length c0_2], .int .i64 a1, .int .i64 a2, .agg #[.int .i64 a3_0, .int .i64 a3_1, .int .i64 a3_2, .int .i64 a3_3, .int .i64 a3_4, .int .i64 a3_5, .int .i64 a3_6, .int .i64 a3_7]] w fun e w' => e = .returned (.tuple #[.int .i64 r1, .int .i64 r2]) ∧ Below w.heap.size w w' := by
 have hu24 := Try.underlying24
 have hu25 := Try.underlying25
 have HR0_2 := Aside0.mk hr0_2
 have HC0_2 := Aside0.mk hc0_2
 clear hr0_2 hc0_2
 have HB := Aside0.mk (Below.refl w.heap.size w)
 have H : ((formeref14_Valid.f k a0_0 a0_1 l0_2).bind fun t220 => ((formeref14_about.f a2 a3_0 a3_1 a3_2 a3_3 a3_4 a3_5 a3_6 a3_7).bind fun t221 => (if t220 = true then (if t221 = true then (if a1 < 0 then (formeref14_Eval.j0 k a1 a2 true a0_0 a0_1 l0_2 a3_0 a3_1 a3_2 a3_3 a3_4 a3_5 a3_6 a3_7) else (formeref14_Eval.j0 k a1 a2 (decide (a1 > 1000000)) a0_0 a0_1 l0_2 a3_0 a3_1 a3_2 a3_3 a3_4 a3_5 a3_6 a3_7)) else (formeref14_Eval.j0 k a1 a2 true a0_0 a0_1 l0_2 a3_0 a3_1 a3_2 a3_3 a3_4 a3_5 a3_6 a3_7)) else (formeref14_Eval.j0 k a1 a2 true a0_0 a0_1 l0_2 a3_0 a3_1 a3_2 a3_3 a3_4 a3_5 a3_6 a3_7)))) = some (r1, r2) := h
 clear h
 replace H := Option.bind_eq_some_iff.mp H
 obtain ⟨t220, A50, H⟩ := H
 replace H : ((formeref14_about.f a2 a3_0 a3_1 a3_2 a3_3 a3_4 a3_5 a3_6 a3_7).bind fun t221 => (if t220 = true then (if t221 = true then (if a1 < 0 then (formeref14_Eval.j0 k a1 a2 true a0_0 a0_1 l0_2 a3_0 a3_1 a3_2 a3_3 a3_4 a3_5 a3_6 a3_7) else (formeref14_Eval.j0 k a1 a2 (decide (a1 > 1000000)) a0_0 a0_1 l0_2 a3_0 a3_1 a3_2 a3_3 a3_4 a3_5 a3_6 a3_7)) else (formeref14_Eval.j0 k a1 a2 true a0_0 a0_1 l0_2 a3_0 a3_1 a3_2 a3_3 a3_4 a3_5 a3_6 a3_7)) else (formeref14_Eval.j0 k a1 a2 true a0_0 a0_1 l0_2 a3_0 a3_1 a3_2 a3_3 a3_4 a3_5 a3_6 a3_7))) = some (r1, r2) := H
 have A5 := Aside0.mk A50
 clear A50
 replace H := Option.bind_eq_some_iff.mp H
 obtain ⟨t221, A60, H⟩ := H
 replace H : (if t220 = true then (if t221 = true then (if a1 < 0 then (formeref14_Eval.j0 k a1 a2 true a0_0 a0_1 l0_2 a3_0 a3_1 a3_2 a3_3 a3_4 a3_5 a3_6 a3_7) else (formeref14_Eval.j0 k a1 a2 (decide (a1 > 1000000)) a0_0 a0_1 l0_2 a3_0 a3_1 a3_2 a3_3 a3_4 a3_5 a3_6 a3_7)) else (formeref14_Eval.j0 k a1 a2 true a0_0 a0_1 l0_2 a3_0 a3_1 a3_2 a3_3 a3_4 a3_5 a3_6 a3_7)) else (formeref14_Eval.j0 k a1 a2 true a0_0 a0_1 l0_2 a3_0 a3_1 a3_2 a3_3 a3_4 a3_5 a3_6 a3_7)) = some (r1, r2) := H
 have A6 := Aside0.mk A60
 clear A60
 have HC7 := Aside0.mk H
 clear H
 go_enter Try.func12, Try.ntmps12
 go_upto_region 3 with (first | ((with_reducible refine gate_dst (N := 4) rfl ?_); refine box_event ?hg (N := 4) ?hd (cs := #[.int .i64 a0_0, .int .i64 a0_1, .slice A0_2 l0_2.length c0_2]) (t := 24) ?hr ?_; (case hd => rfl); (case hg => rfl); (case hr => (go_simp; done)); intro gb218 hg w8 hbox hb; have BK218 := Aside0.mk (hbox); have GW218 := Aside0.mk ((by rw [hg]; exact (below_size HB.out) : w.heap.size ≤ gb218)); have GE218 := Aside0.mk ((by rw [hg]; exact (below_size HB.out) : w.heap.size ≤ gb218)); replace HB := Aside0.mk (below_step HB.out hb); clear hb hbox hg) | ((with_reducible refine gate_dst (N := 7) rfl ?_); refine box_event ?hg (N := 7) ?hd (cs := #[.int .i64 a3_0, .int .i64 a3_1, .int .i64 a3_2, .int .i64 a3_3, .int .i64 a3_4, .int .i64 a3_5, .int .i64 a3_6, .int .i64 a3_7]) (t := 25) ?hr ?_; (case hd => rfl); (case hg => rfl); (case hr => (go_simp; done)); intro gb219 hg w9 hbox hb; have BK219 := Aside0.mk (hbox); have GW219 := Aside0.mk ((by rw [hg]; exact (below_size HB.out) : w.heap.size ≤ gb219)); have GE219 := Aside0.mk ((by rw [hg]; exact (below_size HB.out) : w.heap.size ≤ gb219)); replace HB := Aside0.mk (below_step HB.out hb); have NB218_219 := Aside0.mk ((by rw [hg]; exact Nat.ne_of_lt (blk_lt BK218.out) : gb218 ≠ gb219)); have NB219_218 := Aside0.mk ((by rw [hg]; exact Nat.ne_of_gt (blk_lt BK218.out) : gb219 ≠ gb218)); replace BK218 := Aside0.mk (blk_below BK218.out hb); clear hb hbox hg; have hnb10 := NB218_219.out; have hnc10 := NB219_218.out; have hcz11_0 : w9.cell? ⟨gb218, 0, none⟩ = some (.int .i64 a0_0) := (blk_cell BK218.out 0).trans rfl; have hcz11_1 : w9.cell? ⟨gb218, 1, none⟩ = some (.int .i64 a0_1) := (blk_cell BK218.out 1).trans rfl; have hcz11_2 : w9.cell? ⟨gb218, 2, none⟩ = some (.slice A0_2 l0_2.length c0_2) := (blk_cell BK218.out 2).trans rfl; have hfz11_0 := blk_frozen BK218.out 0; have hfz11_1 := blk_frozen BK218.out 1; have hfz11_2 := blk_frozen BK218.out 2) | ((with_reducible refine gate_callee (f := 14) rfl ?_); refine goesL_ (some 15) rfl rfl Try.func14 (by kernel_rfl) rfl #[.agg #[.int .i64 a0_0, .int .i64 a0_1, .slice A0_2 l0_2.length c0_2]] rfl (by (try simp only [List.map_toArray, List.map_cons, List.map_nil]); rfl) ?_; (with_reducible refine (formeref14_Valid.calls k a0_0 a0_1 _ _ l0_2 t220 _ ?side1 ?side2 A5.out).mono ?_); (case side1 => repeat (exact (Kd.C_below HR0_2.out HB.out))); (case side2 => exact HC0_2.out); rintro e w12 ⟨rfl, hb⟩; refine ⟨_, rfl, ?_⟩; replace BK218 := Aside0.mk (blk_below BK218.out hb); replace BK219 := Aside0.mk (blk_below BK219.out hb); replace HB := Aside0.mk (below_step HB.out hb); (try clear hb); have hcz13_0 : w12.cell? ⟨gb219, 0, none⟩ = some (.int .i64 a3_0) := (blk_cell BK219.out 0).trans rfl; have hcz13_1 : w12.cell? ⟨gb219, 1, none⟩ = some (.int .i64 a3_1) := (blk_cell BK219.out 1).trans rfl; have hcz13_2 : w12.cell? ⟨gb219, 2, none⟩ = some (.int .i64 a3_2) := (blk_cell BK219.out 2).trans rfl; have hcz13_3 : w12.cell? ⟨gb219, 3, none⟩ = some (.int .i64 a3_3) := (blk_cell BK219.out 3).trans rfl; have hcz13_4 : w12.cell? ⟨gb219, 4, none⟩ = some (.int .i64 a3_4) := (blk_cell BK219.out 4).trans rfl; have hcz13_5 : w12.cell? ⟨gb219, 5, none⟩ = some (.int .i64 a3_5) := (blk_cell BK219.out 5).trans rfl; have hcz13_6 : w12.cell? ⟨gb219, 6, none⟩ = some (.int .i64 a3_6) := (blk_cell BK219.out 6).trans rfl; have hcz13_7 : w12.cell? ⟨gb219, 7, none⟩ = some (.int .i64 a3_7) := (blk_cell BK219.out 7).trans rfl; have hfz13_0 := blk_frozen BK219.out 0; have hfz13_1 := blk_frozen BK219.out 1; have hfz13_2 := blk_frozen BK219.out 2; have hfz13_3 := blk_frozen BK219.out 3; have hfz13_4 := blk_frozen BK219.out 4; have hfz13_5 := blk_frozen BK219.out 5; have hfz13_6 := blk_frozen BK219.out 6; have hfz13_7 := blk_frozen BK219.out 7) | ((with_reducible refine gate_callee (f := 31) rfl ?_); refine goesL_ (some 18) rfl rfl Try.func31 (by kernel_rfl) rfl #[.int .i64 a2, .agg #[.int .i64 a3_0, .int .i64 a3_1, .int .i64 a3_2, .int .i64 a3_3, .int .i64 a3_4, .int .i64 a3_5, .int .i64 a3_6, .int .i64 a3_7]] rfl (by (try simp only [List.map_toArray, List.map_cons, List.map_nil]); rfl) ?_; (with_reducible refine (formeref14_about.calls a2 a3_0 a3_1 a3_2 a3_3 a3_4 a3_5 a3_6 a3_7 t221 _ A6.out).mono ?_); rintro e w14 ⟨rfl, hb⟩; refine ⟨_, rfl, ?_⟩; replace BK218 := Aside0.mk (blk_below BK218.out hb); replace BK219 := Aside0.mk (blk_below BK219.out hb); replace HB := Aside0.mk (below_step HB.out hb); (try clear hb)))
 (try simp only [Act.put, List.setIfInBounds_toArray, List.set_cons_zero, List.set_cons_succ])
 go_cut [32] (fun v32 wc => ∃ (kq : Nat) (x32_6 : Bool), v32 = .bool x32_6 ∧ Aside0 (formeref14_Eval.j0 kq a1 a2 x32_6 a0_0 a0_1 l0_2 a3_0 a3_1 a3_2 a3_3 a3_4 a3_5 a3_6 a3_7 = some (r1, r2)) ∧ Aside0 (kq ≤ k) ∧ Aside0 (wc.heap[gb218]? = some (.cells #[.int .i64 a0_0, .int .i64 a0_1, (.slice A0_2 l0_2.length c0_2)] 24 (0, 0))) ∧ Aside0 (wc.heap[gb219]? = some (.cells #[.int .i64 a3_0, .int .i64 a3_1, .int .i64 a3_2, .int .i64 a3_3, .int .i64 a3_4, .int .i64 a3_5, .int .i64 a3_6, .int .i64 a3_7] 25 (0, 0))) ∧ Aside0 (Below w.heap.size w wc))
 case first =>
  have H := HC7.out
  clear HC7
  by_cases c15 : t220 = true
  · subst c15
    have H1 : (if t221 = true then (if a1 < 0 then (formeref14_Eval.j0 k a1 a2 true a0_0 a0_1 l0_2 a3_0 a3_1 a3_2 a3_3 a3_4 a3_5 a3_6 a3_7) else (formeref14_Eval.j0 k a1 a2 (decide (a1 > 1000000)) a0_0 a0_1 l0_2 a3_0 a3_1 a3_2 a3_3 a3_4 a3_5 a3_6 a3_7)) else (formeref14_Eval.j0 k a1 a2 true a0_0 a0_1 l0_2 a3_0 a3_1 a3_2 a3_3 a3_4 a3_5 a3_6 a3_7)) = some (r1, r2) := by rw [if_pos rfl] at H; exact H
    clear H
    have H := H1
    clear H1
    by_cases c16 : t221 = true
    · subst c16
      have H1 : (if a1 < 0 then (formeref14_Eval.j0 k a1 a2 true a0_0 a0_1 l0_2 a3_0 a3_1 a3_2 a3_3 a3_4 a3_5 a3_6 a3_7) else (formeref14_Eval.j0 k a1 a2 (decide (a1 > 1000000)) a0_0 a0_1 l0_2 a3_0 a3_1 a3_2 a3_3 a3_4 a3_5 a3_6 a3_7)) = some (r1, r2) := by rw [if_pos rfl] at H; exact H
      clear H
      have H := H1
      clear H1
      by_cases c17 : a1 < 0
      · rw [if_pos c17] at H
        have c17b0 : decide (a1 < 0) = true := decide_eq_true c17
        clear c17
        have H' := Aside0.mk H
        clear H
        go_wp2
        go_meet
        case rel => exact ⟨_, (true), (by rfl), H', ⟨by omega⟩, ⟨by (with_reducible repeat (fail)); exact BK218.out⟩, ⟨by (with_reducible repeat (fail)); exact BK219.out⟩, ⟨by repeat ((with_reducible exact HB.out))⟩⟩
      · rw [if_neg c17] at H
        have c17b0 : decide (a1 < 0) = false := decide_eq_false c17
        clear c17
        have H' := Aside0.mk H
        clear H
        go_wp2
        go_meet
        case rel => exact ⟨_, (decide (a1 > 1000000)), (by rfl), H', ⟨by omega⟩, ⟨by (with_reducible repeat (fail)); exact BK218.out⟩, ⟨by (with_reducible repeat (fail)); exact BK219.out⟩, ⟨by repeat ((with_reducible exact HB.out))⟩⟩
    · replace c16 := Bool.eq_false_iff.mpr c16
      subst c16
      have H1 : (formeref14_Eval.j0 k a1 a2 true a0_0 a0_1 l0_2 a3_0 a3_1 a3_2 a3_3 a3_4 a3_5 a3_6 a3_7) = some (r1, r2) := by rw [if_neg (show ¬ (false = true) by decide)] at H; exact H
      clear H
      have H := H1
      clear H1
      have H' := Aside0.mk H
      clear H
      go_wp2
      go_meet
      case rel => exact ⟨_, (true), (by rfl), H', ⟨by omega⟩, ⟨by (with_reducible repeat (fail)); exact BK218.out⟩, ⟨by (with_reducible repeat (fail)); exact BK219.out⟩, ⟨by repeat ((with_reducible exact HB.out))⟩⟩
  · replace c15 := Bool.eq_false_iff.mpr c15
    subst c15
    have H1 : (formeref14_Eval.j0 k a1 a2 true a0_0 a0_1 l0_2 a3_0 a3_1 a3_2 a3_3 a3_4 a3_5 a3_6 a3_7) = some (r1, r2) := by rw [if_neg (show ¬ (false = true) by decide)] at H; exact H
    clear H
    have H := H1
    clear H1
    have H' := Aside0.mk H
    clear H
    go_wp2
    go_meet
    case rel => exact ⟨_, (true), (by rfl), H', ⟨by omega⟩, ⟨by (with_reducible repeat (fail)); exact BK218.out⟩, ⟨by (with_reducible repeat (fail)); exact BK219.out⟩, ⟨by repeat ((with_reducible exact HB.out))⟩⟩
 case rest =>
  clear HC7
  try clear hcz11_0
  try clear hcz11_1
  try clear hcz11_2
  try clear hcz13_0
  try clear hcz13_1
  try clear hcz13_2
  try clear hcz13_3
  try clear hcz13_4
  try clear hcz13_5
  try clear hcz13_6
  try clear hcz13_7
  try clear hfz11_0
  try clear hfz11_1
  try clear hfz11_2
  try clear hfz13_0
  try clear hfz13_1
  try clear hfz13_2
  try clear hfz13_3
  try clear hfz13_4
  try clear hfz13_5
  try clear hfz13_6
  try clear hfz13_7
  obtain ⟨kq, x32_6, rfl, HA, HJ6, BK218, BK219, HB⟩ := hcut
  cases kq with
  | zero => exact absurd HA.out (by simp [formeref14_Eval.j0])
  | succ kj6 =>
   have H := HA.out
   clear HA
   simp only [formeref14_Eval.j0] at H
   by_cases c18 : x32_6 = true
   · subst c18
     have H1 : (some (0, 1)) = some (r1, r2) := by rw [if_pos rfl] at H; exact H
     clear H
     have H := H1
     clear H1
     simp only [Option.some.injEq, Prod.mk.injEq] at H
     obtain ⟨rfl, rfl⟩ := H
     go_wp2
     go_ret2
     exact ⟨by rfl, by repeat ((with_reducible exact HB.out))⟩
   · replace c18 := Bool.eq_false_iff.mpr c18
     subst c18
     have H1 : ((formeref14_eval.f kj6 a0_0 a0_1 l0_2 a1 a2 a3_0 a3_1 a3_2 a3_3 a3_4 a3_5 a3_6 a3_7).bind fun bt222 => (if bt222.2 = true then (some (bt222.1, 0)) else (some (0, 3)))) = some (r1, r2) := by rw [if_neg (show ¬ (false = true) by decide)] at H; exact H
     clear H
     have H := H1
     clear H1
     replace H := Option.bind_eq_some_iff.mp H
     obtain ⟨⟨t222, t223⟩, A190, H⟩ := H
     replace H : (if t223 = true then (some (t222, 0)) else (some (0, 3))) = some (r1, r2) := H
     have A19 := Aside0.mk A190
     clear A190
     by_cases c20 : t223 = true
     · subst c20
       have H1 : (some (t222, 0)) = some (r1, r2) := by rw [if_pos rfl] at H; exact H
       clear H
       have H := H1
       clear H1
       simp only [Option.some.injEq, Prod.mk.injEq] at H
       obtain ⟨rfl, rfl⟩ := H
       have hnb21 := NB218_219.out
       have hnc21 := NB219_218.out
       have hcz22_0 : wc.cell? ⟨gb218, 0, none⟩ = some (.int .i64 a0_0) := (blk_cell BK218.out 0).trans rfl
       have hcz22_1 : wc.cell? ⟨gb218, 1, none⟩ = some (.int .i64 a0_1) := (blk_cell BK218.out 1).trans rfl
       have hcz22_2 : wc.cell? ⟨gb218, 2, none⟩ = some (.slice A0_2 l0_2.length c0_2) := (blk_cell BK218.out 2).trans rfl
       have hfz22_0 := blk_frozen BK218.out 0
       have hfz22_1 := blk_frozen BK218.out 1
       have hfz22_2 := blk_frozen BK218.out 2
       have hcz23_0 : wc.cell? ⟨gb219, 0, none⟩ = some (.int .i64 a3_0) := (blk_cell BK219.out 0).trans rfl
       have hcz23_1 : wc.cell? ⟨gb219, 1, none⟩ = some (.int .i64 a3_1) := (blk_cell BK219.out 1).trans rfl
       have hcz23_2 : wc.cell? ⟨gb219, 2, none⟩ = some (.int .i64 a3_2) := (blk_cell BK219.out 2).trans rfl
       have hcz23_3 : wc.cell? ⟨gb219, 3, none⟩ = some (.int .i64 a3_3) := (blk_cell BK219.out 3).trans rfl
       have hcz23_4 : wc.cell? ⟨gb219, 4, none⟩ = some (.int .i64 a3_4) := (blk_cell BK219.out 4).trans rfl
       have hcz23_5 : wc.cell? ⟨gb219, 5, none⟩ = some (.int .i64 a3_5) := (blk_cell BK219.out 5).trans rfl
       have hcz23_6 : wc.cell? ⟨gb219, 6, none⟩ = some (.int .i64 a3_6) := (blk_cell BK219.out 6).trans rfl
       have hcz23_7 : wc.cell? ⟨gb219, 7, none⟩ = some (.int .i64 a3_7) := (blk_cell BK219.out 7).trans rfl
       have hfz23_0 := blk_frozen BK219.out 0
       have hfz23_1 := blk_frozen BK219.out 1
       have hfz23_2 := blk_frozen BK219.out 2
       have hfz23_3 := blk_frozen BK219.out 3
       have hfz23_4 := blk_frozen BK219.out 4
       have hfz23_5 := blk_frozen BK219.out 5
       have hfz23_6 := blk_frozen BK219.out 6
       have hfz23_7 := blk_frozen BK219.out 7
       go_wp2_with (((with_reducible refine gate_callee (f := 32) rfl ?_); refine goesL_ (some 38) rfl rfl Try.func32 (by kernel_rfl) rfl #[.agg #[.int .i64 a0_0, .int .i64 a0_1, .slice A0_2 l0_2.length c0_2], .int .i64 a1, .int .i64 a2, .agg #[.int .i64 a3_0, .int .i64 a3_1, .int .i64 a3_2, .int .i64 a3_3, .int .i64 a3_4, .int .i64 a3_5, .int .i64 a3_6, .int .i64 a3_7]] rfl (by (try simp only [List.map_toArray, List.map_cons, List.map_nil]); rfl) ?_; (with_reducible refine (formeref14_eval.calls kj6 a0_0 a0_1 _ _ l0_2 a1 a2 a3_0 a3_1 a3_2 a3_3 a3_4 a3_5 a3_6 a3_7 t222 true _ ?side1 ?side2 A19.out).mono ?_); (case side1 => repeat (exact (Kd.C_below HR0_2.out HB.out))); (case side2 => exact HC0_2.out); rintro e w24 ⟨rfl, hb⟩; refine ⟨_, rfl, ?_⟩; replace BK218 := Aside0.mk (blk_below BK218.out hb); replace BK219 := Aside0.mk (blk_below BK219.out hb); replace HB := Aside0.mk (below_step HB.out hb); (try clear hb)))
       go_ret2
       exact ⟨by rfl, by repeat ((with_reducible exact HB.out))⟩
     · replace c20 := Bool.eq_false_iff.mpr c20
       subst c20
       have H1 : (some (0, 3)) = some (r1, r2) := by rw [if_neg (show ¬ (false = true) by decide)] at H; exact H
       clear H
       have H := H1
       clear H1
       simp only [Option.some.injEq, Prod.mk.injEq] at H
       obtain ⟨rfl, rfl⟩ := H
       have hnb25 := NB218_219.out
       have hnc25 := NB219_218.out
       have hcz26_0 : wc.cell? ⟨gb218, 0, none⟩ = some (.int .i64 a0_0) := (blk_cell BK218.out 0).trans rfl
       have hcz26_1 : wc.cell? ⟨gb218, 1, none⟩ = some (.int .i64 a0_1) := (blk_cell BK218.out 1).trans rfl
       have hcz26_2 : wc.cell? ⟨gb218, 2, none⟩ = some (.slice A0_2 l0_2.length c0_2) := (blk_cell BK218.out 2).trans rfl
       have hfz26_0 := blk_frozen BK218.out 0
       have hfz26_1 := blk_frozen BK218.out 1
       have hfz26_2 := blk_frozen BK218.out 2
       have hcz27_0 : wc.cell? ⟨gb219, 0, none⟩ = some (.int .i64 a3_0) := (blk_cell BK219.out 0).trans rfl
       have hcz27_1 : wc.cell? ⟨gb219, 1, none⟩ = some (.int .i64 a3_1) := (blk_cell BK219.out 1).trans rfl
       have hcz27_2 : wc.cell? ⟨gb219, 2, none⟩ = some (.int .i64 a3_2) := (blk_cell BK219.out 2).trans rfl
       have hcz27_3 : wc.cell? ⟨gb219, 3, none⟩ = some (.int .i64 a3_3) := (blk_cell BK219.out 3).trans rfl
       have hcz27_4 : wc.cell? ⟨gb219, 4, none⟩ = some (.int .i64 a3_4) := (blk_cell BK219.out 4).trans rfl
       have hcz27_5 : wc.cell? ⟨gb219, 5, none⟩ = some (.int .i64 a3_5) := (blk_cell BK219.out 5).trans rfl
       have hcz27_6 : wc.cell? ⟨gb219, 6, none⟩ = some (.int .i64 a3_6) := (blk_cell BK219.out 6).trans rfl
       have hcz27_7 : wc.cell? ⟨gb219, 7, none⟩ = some (.int .i64 a3_7) := (blk_cell BK219.out 7).trans rfl
       have hfz27_0 := blk_frozen BK219.out 0
       have hfz27_1 := blk_frozen BK219.out 1
       have hfz27_2 := blk_frozen BK219.out 2
       have hfz27_3 := blk_frozen BK219.out 3
       have hfz27_4 := blk_frozen BK219.out 4
       have hfz27_5 := blk_frozen BK219.out 5
       have hfz27_6 := blk_frozen BK219.out 6
       have hfz27_7 := blk_frozen BK219.out 7
       go_wp2_with (((with_reducible refine gate_callee (f := 32) rfl ?_); refine goesL_ (some 38) rfl rfl Try.func32 (by kernel_rfl) rfl #[.agg #[.int .i64 a0_0, .int .i64 a0_1, .slice A0_2 l0_2.length c0_2], .int .i64 a1, .int .i64 a2, .agg #[.int .i64 a3_0, .int .i64 a3_1, .int .i64 a3_2, .int .i64 a3_3, .int .i64 a3_4, .int .i64 a3_5, .int .i64 a3_6, .int .i64 a3_7]] rfl (by (try simp only [List.map_toArray, List.map_cons, List.map_nil]); rfl) ?_; (with_reducible refine (formeref14_eval.calls kj6 a0_0 a0_1 _ _ l0_2 a1 a2 a3_0 a3_1 a3_2 a3_3 a3_4 a3_5 a3_6 a3_7 t222 false _ ?side1 ?side2 A19.out).mono ?_); (case side1 => repeat (exact (Kd.C_below HR0_2.out HB.out))); (case side2 => exact HC0_2.out); rintro e w28 ⟨rfl, hb⟩; refine ⟨_, rfl, ?_⟩; replace BK218 := Aside0.mk (blk_below BK218.out hb); replace BK219 := Aside0.mk (blk_below BK219.out hb); replace HB := Aside0.mk (below_step HB.out hb); (try clear hb)))
       go_ret2
       exact ⟨by rfl, by repeat ((with_reducible exact HB.out))⟩
end
end Go.Proofs.Ytdigjjncoeaiiaa.PAll
