/- Printed by a program of this session (wip/gprint.py) over the translation. Not trusted: Lean checks it. -/
import Derived.Test.YtacohlafmbhcdaaPAlld1
import Derived.Test.YtacohlafmbhcdaaPAllw17
import Derived.Test.YtacohlafmbhcdaaPAllw18
import Derived.Test.YtacohlafmbhcdaaPAllw20
import Derived.Test.YtacohlafmbhcdaaPAllw26
import Derived.Test.YtacohlafmbhcdaaPAllw28
namespace Go.Proofs.Ytacohlafmbhcdaa.PAll
open Go.RowKit Go.Proofs.YtacohlafmbhcdaaW.PrintWords Go.Proofs.YtacohlafmbhcdaaW.PrintLast Go.Proofs.YtacohlafmbhcdaaW.PrintMore
attribute [local go_sem] max2_int min2_int max_two min_two max_three min_three max_four min_four   -- for this text's walks alone
set_option linter.unusedVariables false
set_option linter.unusedSimpArgs false


set_option maxHeartbeats 8000000 in
set_option maxRecDepth 100000 in
theorem formelaw03_ZoneOne.calls (k : Nat) (A0 : Option Addr) (c0 : Nat) (l0 : List (S35)) (A1 : Option Addr) (c1 : Nat) (l1 : List (S35)) (a2 : Int) (a3 : Int) (a4 : Int) (r : Bool) (w : World) (hr0 : Kd.C k35 w A0 l0.length l0) (hc0 : l0.length ≤ c0) (hr1 : Kd.C k35 w A1 l1.length l1) (hc1 : l1.length ≤ c1) (h : formelaw03_ZoneOne.f k l0 l1 a2 a3 a4 = some r) :
    Calls Try.prog 4 #[.slice A0 l0.length c0, .slice A1 l1.length c1, .int .i64 a2, .int .i64 a3, .int .u8 a4] w fun e w' => e = .returned (.bool r) ∧ Below w.heap.size w w' := by
  have hu35 := Try.underlying35
  have HR0 := Aside0.mk hr0
  have HC0 := Aside0.mk hc0
  clear hr0 hc0
  have HR1 := Aside0.mk hr1
  have HC1 := Aside0.mk hc1
  clear hr1 hc1
  have HB := Aside0.mk (Below.refl w.heap.size w)
  have H : ((formelaw03_head.f).bind fun t287 => ((formelaw03_usable.f k l0 l1).bind fun t288 => (if t288 = true then (formelaw03_ZoneOne.l0 k l0 l1 a2 a3 a4 t287 ([] : List (S35)) (wrap64 ((l0.length : Int) - 1))) else (some t287)))) = some r := h
  clear h
  replace H := Option.bind_eq_some_iff.mp H
  obtain ⟨t287, A60, H⟩ := H
  replace H : ((formelaw03_usable.f k l0 l1).bind fun t288 => (if t288 = true then (formelaw03_ZoneOne.l0 k l0 l1 a2 a3 a4 t287 ([] : List (S35)) (wrap64 ((l0.length : Int) - 1))) else (some t287))) = some r := H
  have A6 := Aside0.mk A60
  clear A60
  replace H := Option.bind_eq_some_iff.mp H
  obtain ⟨t288, A70, H⟩ := H
  replace H : (if t288 = true then (formelaw03_ZoneOne.l0 k l0 l1 a2 a3 a4 t287 ([] : List (S35)) (wrap64 ((l0.length : Int) - 1))) else (some t287)) = some r := H
  have A7 := Aside0.mk A70
  clear A70
  by_cases c8 : t288 = true
  · subst c8
    have H1 : (formelaw03_ZoneOne.l0 k l0 l1 a2 a3 a4 t287 ([] : List (S35)) (wrap64 ((l0.length : Int) - 1))) = some r := by rw [if_pos rfl] at H; exact H
    clear H
    have H := H1
    clear H1
    have H' := Aside0.mk H
    clear H
    go_enter Try.func4, Try.ntmps4
    go_wp2_with (first | ((with_reducible refine gate_callee (f := 9) rfl ?_); refine goesL_ (some 26) rfl rfl Try.func9 (by kernel_rfl) rfl #[] rfl (by (try simp only [List.map_toArray, List.map_cons, List.map_nil]); done) ?_; (with_reducible refine (formelaw03_head.calls  t287 _ A6.out).mono ?_); rintro e w9 ⟨rfl, hb⟩; refine ⟨_, rfl, ?_⟩; have n0_ := Aside0.mk (below_step (by repeat ((with_reducible exact HB.out))) hb); clear HB; have HB := n0_; clear n0_; (try clear hb)) | ((with_reducible refine gate_callee (f := 10) rfl ?_); refine goesL_ (some 29) rfl rfl Try.func10 (by kernel_rfl) rfl #[.slice A0 l0.length c0, .slice A1 l1.length c1] rfl (by (try simp only [List.map_toArray, List.map_cons, List.map_nil]); rfl) ?_; (with_reducible refine (formelaw03_usable.calls k _ _ l0 _ _ l1 true _ ?side1 ?side2 ?side3 ?side4 A7.out).mono ?_); (case side1 => repeat (exact (Kd.C_below HR0.out HB.out))); (case side2 => exact HC0.out); (case side3 => repeat (exact (Kd.C_below HR1.out HB.out))); (case side4 => exact HC1.out); rintro e w10 ⟨rfl, hb⟩; refine ⟨_, rfl, ?_⟩; have n0_ := Aside0.mk (below_step (by repeat ((with_reducible exact HB.out))) hb); clear HB; have HB := n0_; clear n0_; (try clear hb)))
    go_loopg [12, 13] k (fun kq v12 v13 w' => ∃ (x12_1 : List (S35)) (x13_1 : Int), v13 = .int .i64 x13_1 ∧ Aside0 (formelaw03_ZoneOne.l0 kq l0 l1 a2 a3 a4 t287 x12_1 x13_1 = some r) ∧ Aside0 (kq ≤ k) ∧ Aside0 (Kd.R k35 35 w' w.heap.size (fun _ => True) v12 x12_1) ∧ Aside0 (Below w.heap.size w w'))
    case atStart => exact ⟨(([] : List (S35))), (wrap64 ((l0.length : Int) - 1)), (by rfl), H', ⟨Nat.le_refl _⟩, ⟨by exact Kd.R_nil _ _ _ _ _⟩, ⟨by repeat ((with_reducible exact HB.out))⟩⟩
    case round =>
      clear H'
      obtain ⟨x12_1, x13_1, rfl, HA, HK1, HO_12, HB⟩ := hrel
      cases gk with
      | zero => exact absurd HA.out (by simp [formelaw03_ZoneOne.l0])
      | succ k1 =>
        have H := HA.out
        clear HA
        simp only [formelaw03_ZoneOne.l0] at H
        by_cases c11 : x13_1 ≥ 0
        · rw [if_pos c11] at H
          have c11b0 : decide (0 ≤ x13_1) = true := decide_eq_true c11
          clear c11
          by_cases c12 : 0 ≤ x13_1
          · rw [if_pos c12] at H
            have c12b0 : decide (0 ≤ x13_1) = true := decide_eq_true c12
            clear c12
            by_cases c13 : x13_1 < (l0.length : Int)
            · rw [if_pos c13] at H
              have c13b0 : decide (x13_1 < (l0.length : Int)) = true := decide_eq_true c13
              clear c13
              have HC14 := Aside0.mk H
              clear H
              try go_wp2
              have n0_ := Aside0.mk (Kd.R_drew HO_12.out)
              have n1_ := Aside0.mk (below_drew1 HB.out)
              clear HO_12
              clear HB
              have HO_12 := n0_
              have HB := n1_
              clear n0_ n1_
              have p289 : 0 ≤ (x13_1 : Int) := of_decide_eq_true (by (with_reducible assumption))
              have q289 : x13_1 < (l0.length : Int) := of_decide_eq_true (by (with_reducible assumption))
              obtain ⟨ad289, e289, hx289_0, hx289_1, hx289_2, hx289_3, hx289_4⟩ := at_T35 HR0.out x13_1 p289 q289
              have hw289_4 := hx289_4
              have hw289_3 := hx289_3
              have hw289_2 := hx289_2
              have hw289_1 := hx289_1
              have hw289_0 := hx289_0
              cases e289
              replace hx289_0 := (HB.out.cell (World.block_lt_of_cell? w _ hx289_0)).trans hx289_0
              replace hx289_1 := (HB.out.cell (World.block_lt_of_cell? w _ hx289_1)).trans hx289_1
              replace hx289_2 := (HB.out.cell (World.block_lt_of_cell? w _ hx289_2)).trans hx289_2
              replace hx289_3 := (HB.out.cell (World.block_lt_of_cell? w _ hx289_3)).trans hx289_3
              replace hx289_4 := (HB.out.cell (World.block_lt_of_cell? w _ hx289_4)).trans hx289_4
              replace p289 := eq_true p289
              replace q289 := eq_true q289
              have p290 : 0 ≤ (x13_1 : Int) := of_decide_eq_true (by (with_reducible assumption))
              have q290 : x13_1 < (l0.length : Int) := of_decide_eq_true (by (with_reducible assumption))
              obtain ⟨ad290, e290, hx290_0, hx290_1, hx290_2, hx290_3, hx290_4⟩ := at_T35 HR0.out x13_1 p290 q290
              have hw290_4 := hx290_4
              have hw290_3 := hx290_3
              have hw290_2 := hx290_2
              have hw290_1 := hx290_1
              have hw290_0 := hx290_0
              obtain rfl : ad289 = ad290 := (by injection e290)
              replace hx290_0 := (HB.out.cell (World.block_lt_of_cell? w _ hx290_0)).trans hx290_0
              replace hx290_1 := (HB.out.cell (World.block_lt_of_cell? w _ hx290_1)).trans hx290_1
              replace hx290_2 := (HB.out.cell (World.block_lt_of_cell? w _ hx290_2)).trans hx290_2
              replace hx290_3 := (HB.out.cell (World.block_lt_of_cell? w _ hx290_3)).trans hx290_3
              replace hx290_4 := (HB.out.cell (World.block_lt_of_cell? w _ hx290_4)).trans hx290_4
              replace p290 := eq_true p290
              replace q290 := eq_true q290
              refine start_ (n := 12) (S := fun w' => w'.cell? (ad289.add ((x13_1).toNat * 5)) = some (.int .i64 ((rd_T35 l0 x13_1).f0)) ∧ w'.cell? ⟨(ad289.add ((x13_1).toNat * 5)).block, (ad289.add ((x13_1).toNat * 5)).off + 1, none⟩ = some (.int .i64 ((rd_T35 l0 x13_1).f1.f0)) ∧ w'.cell? ⟨(ad289.add ((x13_1).toNat * 5)).block, (ad289.add ((x13_1).toNat * 5)).off + 2, none⟩ = some (.int .i64 ((rd_T35 l0 x13_1).f1.f1)) ∧ w'.cell? ⟨(ad289.add ((x13_1).toNat * 5)).block, (ad289.add ((x13_1).toNat * 5)).off + 3, none⟩ = some (.int .i64 ((rd_T35 l0 x13_1).f2.f0)) ∧ w'.cell? ⟨(ad289.add ((x13_1).toNat * 5)).block, (ad289.add ((x13_1).toNat * 5)).off + 4, none⟩ = some (.int .i64 ((rd_T35 l0 x13_1).f2.f1)) ∧ w'.cell? (ad289.add ((x13_1).toNat * 5)) = some (.int .i64 ((rd_T35 l0 x13_1).f0)) ∧ w'.cell? ⟨(ad289.add ((x13_1).toNat * 5)).block, (ad289.add ((x13_1).toNat * 5)).off + 1, none⟩ = some (.int .i64 ((rd_T35 l0 x13_1).f1.f0)) ∧ w'.cell? ⟨(ad289.add ((x13_1).toNat * 5)).block, (ad289.add ((x13_1).toNat * 5)).off + 2, none⟩ = some (.int .i64 ((rd_T35 l0 x13_1).f1.f1)) ∧ w'.cell? ⟨(ad289.add ((x13_1).toNat * 5)).block, (ad289.add ((x13_1).toNat * 5)).off + 3, none⟩ = some (.int .i64 ((rd_T35 l0 x13_1).f2.f0)) ∧ w'.cell? ⟨(ad289.add ((x13_1).toNat * 5)).block, (ad289.add ((x13_1).toNat * 5)).off + 4, none⟩ = some (.int .i64 ((rd_T35 l0 x13_1).f2.f1))) (ds := []) #[false, false, false, false, false, false, false, false, false, false, false, false] (by kernel_rfl) rfl rfl ⟨((HB.out.cell (World.block_lt_of_cell? w _ hw289_0)).trans hw289_0), ((HB.out.cell (World.block_lt_of_cell? w _ hw289_1)).trans hw289_1), ((HB.out.cell (World.block_lt_of_cell? w _ hw289_2)).trans hw289_2), ((HB.out.cell (World.block_lt_of_cell? w _ hw289_3)).trans hw289_3), ((HB.out.cell (World.block_lt_of_cell? w _ hw289_4)).trans hw289_4), ((HB.out.cell (World.block_lt_of_cell? w _ hw290_0)).trans hw290_0), ((HB.out.cell (World.block_lt_of_cell? w _ hw290_1)).trans hw290_1), ((HB.out.cell (World.block_lt_of_cell? w _ hw290_2)).trans hw290_2), ((HB.out.cell (World.block_lt_of_cell? w _ hw290_3)).trans hw290_3), ((HB.out.cell (World.block_lt_of_cell? w _ hw290_4)).trans hw290_4)⟩ (fun hHeld => ?_); refine with_tabW formelaw03_ZoneOne.tab8 formelaw03_ZoneOne.bits8 (fun HT_ HW_ => ?_)
              generalize wr.drew = w15 at HO_12 HB hx289_0 hx289_1 hx289_2 hx289_3 hx289_4 hx290_0 hx290_1 hx290_2 hx290_3 hx290_4 hHeld ⊢
              refine pure_ (i := 0) (N := some 39) (v := ?_) (a' := ?_) #[true, false, false, false, false, false, false, false, false, false, false, false] rfl rfl (any_of HT_.out (by kernel_rfl)) (fun _ _ _ h => h) (Or.inl ⟨by rfl, ?_⟩) ?_ ?_
              rotate_left
              · intro w'
                go_simp
                with_reducible rfl
              rotate_left
              · simp only [Act.put, List.setIfInBounds_toArray, List.set_cons_zero, List.set_cons_succ, i64_w, i32_w]
                rfl
              refine pure_ (i := 1) (N := some 40) (v := ?_) (a' := ?_) #[true, true, false, false, false, false, false, false, false, false, false, false] rfl rfl (any_of HT_.out (by kernel_rfl)) (fun _ _ _ h => h) (Or.inl ⟨by rfl, ?_⟩) ?_ ?_
              rotate_left
              · intro w'
                go_simp
                with_reducible rfl
              rotate_left
              · simp only [Act.put, List.setIfInBounds_toArray, List.set_cons_zero, List.set_cons_succ, i64_w, i32_w]
                rfl
              refine pure_ (i := 2) (N := some 41) (v := ?_) (a' := ?_) #[true, true, true, false, false, false, false, false, false, false, false, false] rfl rfl (any_of HT_.out (by kernel_rfl)) (fun _ _ _ h => h) (Or.inl ⟨by rfl, ?_⟩) ?_ ?_
              rotate_left
              · intro w'
                go_simp
                with_reducible rfl
              rotate_left
              · simp only [Act.put, List.setIfInBounds_toArray, List.set_cons_zero, List.set_cons_succ, i64_w, i32_w]
                rfl
              refine pure_ (i := 4) (N := some 43) (v := ?_) (a' := ?_) #[true, true, true, false, true, false, false, false, false, false, false, false] rfl rfl (any_of HT_.out (by kernel_rfl)) (fun _ _ _ h => h) (Or.inl ⟨by rfl, ?_⟩) ?_ ?_
              rotate_left
              · intro w'
                go_simp
                with_reducible rfl
              rotate_left
              · simp only [Act.put, List.setIfInBounds_toArray, List.set_cons_zero, List.set_cons_succ, i64_w, i32_w]
                rfl
              refine pure_ (i := 5) (N := some 44) (v := ?_) (a' := ?_) #[true, true, true, false, true, true, false, false, false, false, false, false] rfl rfl (any_of HT_.out (by kernel_rfl)) (fun _ _ _ h => h) (Or.inl ⟨by rfl, ?_⟩) ?_ ?_
              rotate_left
              · intro w'
                go_simp
                with_reducible rfl
              rotate_left
              · simp only [Act.put, List.setIfInBounds_toArray, List.set_cons_zero, List.set_cons_succ, i64_w, i32_w]
                rfl
              refine pure_ (i := 6) (N := some 45) (v := ?_) (a' := ?_) #[true, true, true, false, true, true, true, false, false, false, false, false] rfl rfl (any_of HT_.out (by kernel_rfl)) (fun _ _ _ h => h) (Or.inl ⟨by rfl, ?_⟩) ?_ ?_
              rotate_left
              · intro w'
                go_simp
                with_reducible rfl
              rotate_left
              · simp only [Act.put, List.setIfInBounds_toArray, List.set_cons_zero, List.set_cons_succ, i64_w, i32_w]
                rfl
              refine take_ (i := 3) (N := some 42) (v := ?_) (a' := ?_) #[true, true, true, true, true, true, true, false, false, false, false, false] rfl rfl (take_ofW HT_.out HW_.out (by kernel_rfl)) (fun _ _ _ h => h) (Or.inl ⟨by rfl, ?_⟩) hHeld ?_ ?_
              rotate_left
              · rintro w' ⟨s0, s1, s2, s3, s4, s5, s6, s7, s8, s9⟩
                go_simp
                with_reducible rfl
              rotate_left
              · simp only [Act.put, List.setIfInBounds_toArray, List.set_cons_zero, List.set_cons_succ, i64_w, i32_w]
                rfl
              refine take_ (i := 7) (N := some 46) (v := ?_) (a' := ?_) #[true, true, true, true, true, true, true, true, false, false, false, false] rfl rfl (take_ofW HT_.out HW_.out (by kernel_rfl)) (fun _ _ _ h => h) (Or.inl ⟨by rfl, ?_⟩) hHeld ?_ ?_
              rotate_left
              · rintro w' ⟨s0, s1, s2, s3, s4, s5, s6, s7, s8, s9⟩
                go_simp
                with_reducible rfl
              rotate_left
              · simp only [Act.put, List.setIfInBounds_toArray, List.set_cons_zero, List.set_cons_succ, i64_w, i32_w]
                rfl
              refine join_ (σ := Nat × Nat) 2 #[true, true, true, true, true, true, true, true, true, true, false, false] (fun s_ => [(14, .pointer (some ⟨s_.1, 0, none⟩)), (15, .pointer (some ⟨s_.2, 0, none⟩))]) (fun s_ w' => (w'.cell? (ad289.add ((x13_1).toNat * 5)) = some (.int .i64 ((rd_T35 l0 x13_1).f0)) ∧ w'.cell? ⟨(ad289.add ((x13_1).toNat * 5)).block, (ad289.add ((x13_1).toNat * 5)).off + 1, none⟩ = some (.int .i64 ((rd_T35 l0 x13_1).f1.f0)) ∧ w'.cell? ⟨(ad289.add ((x13_1).toNat * 5)).block, (ad289.add ((x13_1).toNat * 5)).off + 2, none⟩ = some (.int .i64 ((rd_T35 l0 x13_1).f1.f1)) ∧ w'.cell? ⟨(ad289.add ((x13_1).toNat * 5)).block, (ad289.add ((x13_1).toNat * 5)).off + 3, none⟩ = some (.int .i64 ((rd_T35 l0 x13_1).f2.f0)) ∧ w'.cell? ⟨(ad289.add ((x13_1).toNat * 5)).block, (ad289.add ((x13_1).toNat * 5)).off + 4, none⟩ = some (.int .i64 ((rd_T35 l0 x13_1).f2.f1)) ∧ w'.cell? (ad289.add ((x13_1).toNat * 5)) = some (.int .i64 ((rd_T35 l0 x13_1).f0)) ∧ w'.cell? ⟨(ad289.add ((x13_1).toNat * 5)).block, (ad289.add ((x13_1).toNat * 5)).off + 1, none⟩ = some (.int .i64 ((rd_T35 l0 x13_1).f1.f0)) ∧ w'.cell? ⟨(ad289.add ((x13_1).toNat * 5)).block, (ad289.add ((x13_1).toNat * 5)).off + 2, none⟩ = some (.int .i64 ((rd_T35 l0 x13_1).f1.f1)) ∧ w'.cell? ⟨(ad289.add ((x13_1).toNat * 5)).block, (ad289.add ((x13_1).toNat * 5)).off + 3, none⟩ = some (.int .i64 ((rd_T35 l0 x13_1).f2.f0)) ∧ w'.cell? ⟨(ad289.add ((x13_1).toNat * 5)).block, (ad289.add ((x13_1).toNat * 5)).off + 4, none⟩ = some (.int .i64 ((rd_T35 l0 x13_1).f2.f1))) ∧ (Kd.R k35 35 w' w.heap.size (fun k_ => k_ ≠ s_.1 ∧ k_ ≠ s_.2) u12 x12_1) ∧ (w'.heap[s_.1]? = some (.cells #[.int .i64 0, .int .i64 0, .int .i64 0, .int .i64 0, .int .i64 0] 35 (0, 0))) ∧ (w'.heap[s_.2]? = some (.cells #[.int .i64 0, .int .i64 0, .int .i64 0, .int .i64 0, .int .i64 0] 35 (0, 0))) ∧ (w.heap.size ≤ s_.1) ∧ (w.heap.size ≤ s_.1) ∧ (s_.2 ≠ s_.1) ∧ (s_.1 ≠ s_.2) ∧ (w.heap.size ≤ s_.2) ∧ (w.heap.size ≤ s_.2) ∧ (Below w.heap.size w w')) ?_ ?_
              rotate_left
              · intro hCont
                refine two_ (i := 8) (j := 9) (Ni := some 14) (Nj := some 15) #[true, true, true, true, true, true, true, true, true, false, false, false] #[true, true, true, true, true, true, true, true, false, true, false, false] rfl rfl rfl rfl (two_of HT_.out (by kernel_rfl)) (by decide) (by decide) (fun K hK => ?_) (fun K hK => ?_)
                · skip
                  refine box_step ?hg (N := 14) ?hd (cs := #[.int .i64 0, .int .i64 0, .int .i64 0, .int .i64 0, .int .i64 0]) (t := 35) ?hr ?_; (case hd => rfl); (case hg => rfl); (case hr => (go_simp; done))
                  intro gb291 hg w16 hbox hb
                  have n0_ := Aside0.mk (Kd.R_below (Kd.R_elderB (by (with_reducible repeat (fail)); exact HO_12.out) gb291 (Nat.le_of_eq hg.symm)) hb)
                  have n1_ := Aside0.mk (below_step (by repeat ((with_reducible exact HB.out))) hb)
                  have n2_ := Aside0.mk (hbox)
                  have n3_ := Aside0.mk ((by rw [hg]; exact (below_size (by repeat ((with_reducible exact HB.out)))) : w.heap.size ≤ gb291))
                  have n4_ := Aside0.mk ((by rw [hg]; exact (below_size (by repeat ((with_reducible exact HB.out)))) : w.heap.size ≤ gb291))
                  clear HO_12
                  clear HB
                  have HO_12 := n0_
                  have HB := n1_
                  have BK291 := n2_
                  have GW291 := n3_
                  have GE291 := n4_
                  clear n0_ n1_ n2_ n3_ n4_
                  clear hb hbox hg
                  refine hK.out _ _ ⟨((HB.out.cell (World.block_lt_of_cell? w _ hw289_0)).trans hw289_0), ((HB.out.cell (World.block_lt_of_cell? w _ hw289_1)).trans hw289_1), ((HB.out.cell (World.block_lt_of_cell? w _ hw289_2)).trans hw289_2), ((HB.out.cell (World.block_lt_of_cell? w _ hw289_3)).trans hw289_3), ((HB.out.cell (World.block_lt_of_cell? w _ hw289_4)).trans hw289_4), ((HB.out.cell (World.block_lt_of_cell? w _ hw290_0)).trans hw290_0), ((HB.out.cell (World.block_lt_of_cell? w _ hw290_1)).trans hw290_1), ((HB.out.cell (World.block_lt_of_cell? w _ hw290_2)).trans hw290_2), ((HB.out.cell (World.block_lt_of_cell? w _ hw290_3)).trans hw290_3), ((HB.out.cell (World.block_lt_of_cell? w _ hw290_4)).trans hw290_4)⟩ (fun hHeld => ?_)
                  clear hK K
                  refine norm_ (a' := ?_) ?_ ?_
                  rotate_left
                  · show Act.put _ (some 14) _ = _
                    simp only [Act.put, List.setIfInBounds_toArray, List.set_cons_zero, List.set_cons_succ, i64_w, i32_w]
                    rfl
                  refine one_ (i := 9) (N := some 15) #[true, true, true, true, true, true, true, true, true, true, false, false] rfl rfl (one_of HT_.out (by kernel_rfl)) (by decide) (fun K hK => ?_)
                  refine box_step ?hg (N := 15) ?hd (cs := #[.int .i64 0, .int .i64 0, .int .i64 0, .int .i64 0, .int .i64 0]) (t := 35) ?hr ?_; (case hd => rfl); (case hg => rfl); (case hr => (go_simp; done))
                  intro gb292 hg w17 hbox hb
                  have n0_ := Aside0.mk (Kd.R_below (Kd.R_elderB (by (with_reducible repeat (fail)); exact HO_12.out) gb292 (Nat.le_of_eq hg.symm)) hb)
                  have n1_ := Aside0.mk (blk_below (g := gb291) (o := .cells #[.int .i64 0, .int .i64 0, .int .i64 0, .int .i64 0, .int .i64 0] 35 (0, 0)) (by (with_reducible repeat (fail)); exact BK291.out) hb)
                  have n2_ := Aside0.mk (below_step (by repeat ((with_reducible exact HB.out))) hb)
                  have n3_ := Aside0.mk (hbox)
                  have n4_ := Aside0.mk ((by rw [hg]; exact (below_size (by repeat ((with_reducible exact HB.out)))) : w.heap.size ≤ gb292))
                  have n5_ := Aside0.mk ((by rw [hg]; exact (below_size (by repeat ((with_reducible exact HB.out)))) : w.heap.size ≤ gb292))
                  have n6_ := Aside0.mk ((by rw [hg]; exact Nat.ne_of_lt (blk_lt (g := gb291) (o := .cells #[.int .i64 0, .int .i64 0, .int .i64 0, .int .i64 0, .int .i64 0] 35 (0, 0)) (by (with_reducible repeat (fail)); exact BK291.out)) : gb291 ≠ gb292))
                  have n7_ := Aside0.mk ((by rw [hg]; exact Nat.ne_of_gt (blk_lt (g := gb291) (o := .cells #[.int .i64 0, .int .i64 0, .int .i64 0, .int .i64 0, .int .i64 0] 35 (0, 0)) (by (with_reducible repeat (fail)); exact BK291.out)) : gb292 ≠ gb291))
                  clear HO_12
                  clear BK291
                  clear HB
                  have HO_12 := n0_
                  have BK291 := n1_
                  have HB := n2_
                  have BK292 := n3_
                  have GW292 := n4_
                  have GE292 := n5_
                  have NB291_292 := n6_
                  have NB292_291 := n7_
                  clear n0_ n1_ n2_ n3_ n4_ n5_ n6_ n7_
                  clear hb hbox hg
                  refine hK.out _ _ ⟨((HB.out.cell (World.block_lt_of_cell? w _ hw289_0)).trans hw289_0), ((HB.out.cell (World.block_lt_of_cell? w _ hw289_1)).trans hw289_1), ((HB.out.cell (World.block_lt_of_cell? w _ hw289_2)).trans hw289_2), ((HB.out.cell (World.block_lt_of_cell? w _ hw289_3)).trans hw289_3), ((HB.out.cell (World.block_lt_of_cell? w _ hw289_4)).trans hw289_4), ((HB.out.cell (World.block_lt_of_cell? w _ hw290_0)).trans hw290_0), ((HB.out.cell (World.block_lt_of_cell? w _ hw290_1)).trans hw290_1), ((HB.out.cell (World.block_lt_of_cell? w _ hw290_2)).trans hw290_2), ((HB.out.cell (World.block_lt_of_cell? w _ hw290_3)).trans hw290_3), ((HB.out.cell (World.block_lt_of_cell? w _ hw290_4)).trans hw290_4)⟩ (fun hHeld => ?_)
                  clear hK K
                  refine norm_ (a' := ?_) ?_ ?_
                  rotate_left
                  · show Act.put _ (some 15) _ = _
                    simp only [Act.put, List.setIfInBounds_toArray, List.set_cons_zero, List.set_cons_succ, i64_w, i32_w]
                    rfl
                  exact norm_ (by simp only [putAll, Act.put, List.setIfInBounds_toArray, List.set_cons_zero, List.set_cons_succ]) (hCont (gb291, gb292) _ ⟨hHeld, (by (with_reducible repeat (fail)); exact Kd.R_mono HO_12.out (fun _ hk => ⟨hk.1.2, hk.2⟩)), (by (with_reducible repeat (fail)); exact BK291.out), (by (with_reducible repeat (fail)); exact BK292.out), GW291.out, GE291.out, NB292_291.out, NB291_292.out, GW292.out, GE292.out, (by repeat ((with_reducible exact HB.out)))⟩)
                · skip
                  refine box_step ?hg (N := 15) ?hd (cs := #[.int .i64 0, .int .i64 0, .int .i64 0, .int .i64 0, .int .i64 0]) (t := 35) ?hr ?_; (case hd => rfl); (case hg => rfl); (case hr => (go_simp; done))
                  intro gb292 hg w16 hbox hb
                  have n0_ := Aside0.mk (Kd.R_below (Kd.R_elderB (by (with_reducible repeat (fail)); exact HO_12.out) gb292 (Nat.le_of_eq hg.symm)) hb)
                  have n1_ := Aside0.mk (below_step (by repeat ((with_reducible exact HB.out))) hb)
                  have n2_ := Aside0.mk (hbox)
                  have n3_ := Aside0.mk ((by rw [hg]; exact (below_size (by repeat ((with_reducible exact HB.out)))) : w.heap.size ≤ gb292))
                  have n4_ := Aside0.mk ((by rw [hg]; exact (below_size (by repeat ((with_reducible exact HB.out)))) : w.heap.size ≤ gb292))
                  clear HO_12
                  clear HB
                  have HO_12 := n0_
                  have HB := n1_
                  have BK292 := n2_
                  have GW292 := n3_
                  have GE292 := n4_
                  clear n0_ n1_ n2_ n3_ n4_
                  clear hb hbox hg
                  refine hK.out _ _ ⟨((HB.out.cell (World.block_lt_of_cell? w _ hw289_0)).trans hw289_0), ((HB.out.cell (World.block_lt_of_cell? w _ hw289_1)).trans hw289_1), ((HB.out.cell (World.block_lt_of_cell? w _ hw289_2)).trans hw289_2), ((HB.out.cell (World.block_lt_of_cell? w _ hw289_3)).trans hw289_3), ((HB.out.cell (World.block_lt_of_cell? w _ hw289_4)).trans hw289_4), ((HB.out.cell (World.block_lt_of_cell? w _ hw290_0)).trans hw290_0), ((HB.out.cell (World.block_lt_of_cell? w _ hw290_1)).trans hw290_1), ((HB.out.cell (World.block_lt_of_cell? w _ hw290_2)).trans hw290_2), ((HB.out.cell (World.block_lt_of_cell? w _ hw290_3)).trans hw290_3), ((HB.out.cell (World.block_lt_of_cell? w _ hw290_4)).trans hw290_4)⟩ (fun hHeld => ?_)
                  clear hK K
                  refine norm_ (a' := ?_) ?_ ?_
                  rotate_left
                  · show Act.put _ (some 15) _ = _
                    simp only [Act.put, List.setIfInBounds_toArray, List.set_cons_zero, List.set_cons_succ, i64_w, i32_w]
                    rfl
                  refine one_ (i := 8) (N := some 14) #[true, true, true, true, true, true, true, true, true, true, false, false] rfl rfl (one_of HT_.out (by kernel_rfl)) (by decide) (fun K hK => ?_)
                  refine box_step ?hg (N := 14) ?hd (cs := #[.int .i64 0, .int .i64 0, .int .i64 0, .int .i64 0, .int .i64 0]) (t := 35) ?hr ?_; (case hd => rfl); (case hg => rfl); (case hr => (go_simp; done))
                  intro gb291 hg w17 hbox hb
                  have n0_ := Aside0.mk (Kd.R_below (Kd.R_elderB (by (with_reducible repeat (fail)); exact HO_12.out) gb291 (Nat.le_of_eq hg.symm)) hb)
                  have n1_ := Aside0.mk (blk_below (g := gb292) (o := .cells #[.int .i64 0, .int .i64 0, .int .i64 0, .int .i64 0, .int .i64 0] 35 (0, 0)) (by (with_reducible repeat (fail)); exact BK292.out) hb)
                  have n2_ := Aside0.mk (below_step (by repeat ((with_reducible exact HB.out))) hb)
                  have n3_ := Aside0.mk (hbox)
                  have n4_ := Aside0.mk ((by rw [hg]; exact (below_size (by repeat ((with_reducible exact HB.out)))) : w.heap.size ≤ gb291))
                  have n5_ := Aside0.mk ((by rw [hg]; exact (below_size (by repeat ((with_reducible exact HB.out)))) : w.heap.size ≤ gb291))
                  have n6_ := Aside0.mk ((by rw [hg]; exact Nat.ne_of_lt (blk_lt (g := gb292) (o := .cells #[.int .i64 0, .int .i64 0, .int .i64 0, .int .i64 0, .int .i64 0] 35 (0, 0)) (by (with_reducible repeat (fail)); exact BK292.out)) : gb292 ≠ gb291))
                  have n7_ := Aside0.mk ((by rw [hg]; exact Nat.ne_of_gt (blk_lt (g := gb292) (o := .cells #[.int .i64 0, .int .i64 0, .int .i64 0, .int .i64 0, .int .i64 0] 35 (0, 0)) (by (with_reducible repeat (fail)); exact BK292.out)) : gb291 ≠ gb292))
                  clear HO_12
                  clear BK292
                  clear HB
                  have HO_12 := n0_
                  have BK292 := n1_
                  have HB := n2_
                  have BK291 := n3_
                  have GW291 := n4_
                  have GE291 := n5_
                  have NB292_291 := n6_
                  have NB291_292 := n7_
                  clear n0_ n1_ n2_ n3_ n4_ n5_ n6_ n7_
                  clear hb hbox hg
                  refine hK.out _ _ ⟨((HB.out.cell (World.block_lt_of_cell? w _ hw289_0)).trans hw289_0), ((HB.out.cell (World.block_lt_of_cell? w _ hw289_1)).trans hw289_1), ((HB.out.cell (World.block_lt_of_cell? w _ hw289_2)).trans hw289_2), ((HB.out.cell (World.block_lt_of_cell? w _ hw289_3)).trans hw289_3), ((HB.out.cell (World.block_lt_of_cell? w _ hw289_4)).trans hw289_4), ((HB.out.cell (World.block_lt_of_cell? w _ hw290_0)).trans hw290_0), ((HB.out.cell (World.block_lt_of_cell? w _ hw290_1)).trans hw290_1), ((HB.out.cell (World.block_lt_of_cell? w _ hw290_2)).trans hw290_2), ((HB.out.cell (World.block_lt_of_cell? w _ hw290_3)).trans hw290_3), ((HB.out.cell (World.block_lt_of_cell? w _ hw290_4)).trans hw290_4)⟩ (fun hHeld => ?_)
                  clear hK K
                  refine norm_ (a' := ?_) ?_ ?_
                  rotate_left
                  · show Act.put _ (some 14) _ = _
                    simp only [Act.put, List.setIfInBounds_toArray, List.set_cons_zero, List.set_cons_succ, i64_w, i32_w]
                    rfl
                  exact norm_ (by simp only [putAll, Act.put, List.setIfInBounds_toArray, List.set_cons_zero, List.set_cons_succ]) (hCont (gb291, gb292) _ ⟨hHeld, (by (with_reducible repeat (fail)); exact Kd.R_mono HO_12.out (fun _ hk => ⟨hk.2, hk.1.2⟩)), (by (with_reducible repeat (fail)); exact BK291.out), (by (with_reducible repeat (fail)); exact BK292.out), GW291.out, GE291.out, NB292_291.out, NB291_292.out, GW292.out, GE292.out, (by repeat ((with_reducible exact HB.out)))⟩)
              rintro ⟨gb291, gb292⟩ w18 ⟨hS_, h0_, h1_, h2_, h3_, h4_, h5_, h6_, h7_, h8_, h9_⟩
              have n0_ : Aside0 (Kd.R k35 35 w18 w.heap.size (fun k_ => k_ ≠ gb291 ∧ k_ ≠ gb292) u12 x12_1) := ⟨h0_⟩
              have n1_ : Aside0 (w18.heap[gb291]? = some (.cells #[.int .i64 0, .int .i64 0, .int .i64 0, .int .i64 0, .int .i64 0] 35 (0, 0))) := ⟨h1_⟩
              have n2_ : Aside0 (w18.heap[gb292]? = some (.cells #[.int .i64 0, .int .i64 0, .int .i64 0, .int .i64 0, .int .i64 0] 35 (0, 0))) := ⟨h2_⟩
              have n3_ : Aside0 (w.heap.size ≤ gb291) := ⟨h3_⟩
              have n4_ : Aside0 (w.heap.size ≤ gb291) := ⟨h4_⟩
              have n5_ : Aside0 (gb292 ≠ gb291) := ⟨h5_⟩
              have n6_ : Aside0 (gb291 ≠ gb292) := ⟨h6_⟩
              have n7_ : Aside0 (w.heap.size ≤ gb292) := ⟨h7_⟩
              have n8_ : Aside0 (w.heap.size ≤ gb292) := ⟨h8_⟩
              have n9_ : Aside0 (Below w.heap.size w w18) := ⟨h9_⟩
              clear HO_12
              clear HB
              clear h0_ h1_ h2_ h3_ h4_ h5_ h6_ h7_ h8_ h9_
              have HO_12 := n0_
              have BK291 := n1_
              have BK292 := n2_
              have GW291 := n3_
              have GE291 := n4_
              have NB292_291 := n5_
              have NB291_292 := n6_
              have GW292 := n7_
              have GE292 := n8_
              have HB := n9_
              clear n0_ n1_ n2_ n3_ n4_ n5_ n6_ n7_ n8_ n9_
              have hHeld : w18.cell? (ad289.add ((x13_1).toNat * 5)) = some (.int .i64 ((rd_T35 l0 x13_1).f0)) ∧ w18.cell? ⟨(ad289.add ((x13_1).toNat * 5)).block, (ad289.add ((x13_1).toNat * 5)).off + 1, none⟩ = some (.int .i64 ((rd_T35 l0 x13_1).f1.f0)) ∧ w18.cell? ⟨(ad289.add ((x13_1).toNat * 5)).block, (ad289.add ((x13_1).toNat * 5)).off + 2, none⟩ = some (.int .i64 ((rd_T35 l0 x13_1).f1.f1)) ∧ w18.cell? ⟨(ad289.add ((x13_1).toNat * 5)).block, (ad289.add ((x13_1).toNat * 5)).off + 3, none⟩ = some (.int .i64 ((rd_T35 l0 x13_1).f2.f0)) ∧ w18.cell? ⟨(ad289.add ((x13_1).toNat * 5)).block, (ad289.add ((x13_1).toNat * 5)).off + 4, none⟩ = some (.int .i64 ((rd_T35 l0 x13_1).f2.f1)) ∧ w18.cell? (ad289.add ((x13_1).toNat * 5)) = some (.int .i64 ((rd_T35 l0 x13_1).f0)) ∧ w18.cell? ⟨(ad289.add ((x13_1).toNat * 5)).block, (ad289.add ((x13_1).toNat * 5)).off + 1, none⟩ = some (.int .i64 ((rd_T35 l0 x13_1).f1.f0)) ∧ w18.cell? ⟨(ad289.add ((x13_1).toNat * 5)).block, (ad289.add ((x13_1).toNat * 5)).off + 2, none⟩ = some (.int .i64 ((rd_T35 l0 x13_1).f1.f1)) ∧ w18.cell? ⟨(ad289.add ((x13_1).toNat * 5)).block, (ad289.add ((x13_1).toNat * 5)).off + 3, none⟩ = some (.int .i64 ((rd_T35 l0 x13_1).f2.f0)) ∧ w18.cell? ⟨(ad289.add ((x13_1).toNat * 5)).block, (ad289.add ((x13_1).toNat * 5)).off + 4, none⟩ = some (.int .i64 ((rd_T35 l0 x13_1).f2.f1)) := hS_
              refine norm_ (a' := ?_) ?_ ?_
              rotate_left
              · simp only [putAll, Act.put, List.setIfInBounds_toArray, List.set_cons_zero, List.set_cons_succ]
                rfl
              refine one_ (i := 10) (N := none) #[true, true, true, true, true, true, true, true, true, true, true, false] rfl rfl (one_of HT_.out (by kernel_rfl)) (by decide) (fun K hK => ?_)
              have hs19 : w18.cell? ⟨gb291, 0, none⟩ = some (.int .i64 0) := (blk_cell BK291.out 0).trans rfl
              have hfs19 := blk_frozen BK291.out 0
              have hns19_1 := NB292_291.out
              have hms19_1 := NB291_292.out
              have hs20 : w18.cell? ⟨gb291, 1, none⟩ = some (.int .i64 0) := (blk_cell BK291.out 1).trans rfl
              have hfs20 := blk_frozen BK291.out 1
              have hns20_1 := NB292_291.out
              have hms20_1 := NB291_292.out
              have hs21 : w18.cell? ⟨gb291, 2, none⟩ = some (.int .i64 0) := (blk_cell BK291.out 2).trans rfl
              have hfs21 := blk_frozen BK291.out 2
              have hns21_1 := NB292_291.out
              have hms21_1 := NB291_292.out
              have hs22 : w18.cell? ⟨gb291, 3, none⟩ = some (.int .i64 0) := (blk_cell BK291.out 3).trans rfl
              have hfs22 := blk_frozen BK291.out 3
              have hns22_1 := NB292_291.out
              have hms22_1 := NB291_292.out
              have hs23 : w18.cell? ⟨gb291, 4, none⟩ = some (.int .i64 0) := (blk_cell BK291.out 4).trans rfl
              have hfs23 := blk_frozen BK291.out 4
              have hns23_1 := NB292_291.out
              have hms23_1 := NB291_292.out
              refine skip_ (w1 := ?_) (by rfl) rfl ?_ ?_
              rotate_left
              · go_simp
                rfl
              refine hK.out _ _ ⟨((cell_far (p := ⟨gb291, _, none⟩) (by exact Nat.ne_of_lt (Nat.lt_of_lt_of_le (by have := World.block_lt_of_cell? _ _ hw289_0; exact this) GW291.out)) _).trans (((cell_far (p := ⟨gb291, _, none⟩) (by exact Nat.ne_of_lt (Nat.lt_of_lt_of_le (by have := World.block_lt_of_cell? _ _ hw289_0; exact this) GW291.out)) _).trans (((cell_far (p := ⟨gb291, _, none⟩) (by exact Nat.ne_of_lt (Nat.lt_of_lt_of_le (by have := World.block_lt_of_cell? _ _ hw289_0; exact this) GW291.out)) _).trans (((cell_far (p := ⟨gb291, _, none⟩) (by exact Nat.ne_of_lt (Nat.lt_of_lt_of_le (by have := World.block_lt_of_cell? _ _ hw289_0; exact this) GW291.out)) _).trans (((cell_far (p := ⟨gb291, _, none⟩) (by exact Nat.ne_of_lt (Nat.lt_of_lt_of_le (by have := World.block_lt_of_cell? _ _ hw289_0; exact this) GW291.out)) _).trans (hHeld.1)))))))))), ((cell_far (p := ⟨gb291, _, none⟩) (by exact Nat.ne_of_lt (Nat.lt_of_lt_of_le (by have := World.block_lt_of_cell? _ _ hw289_1; exact this) GW291.out)) _).trans (((cell_far (p := ⟨gb291, _, none⟩) (by exact Nat.ne_of_lt (Nat.lt_of_lt_of_le (by have := World.block_lt_of_cell? _ _ hw289_1; exact this) GW291.out)) _).trans (((cell_far (p := ⟨gb291, _, none⟩) (by exact Nat.ne_of_lt (Nat.lt_of_lt_of_le (by have := World.block_lt_of_cell? _ _ hw289_1; exact this) GW291.out)) _).trans (((cell_far (p := ⟨gb291, _, none⟩) (by exact Nat.ne_of_lt (Nat.lt_of_lt_of_le (by have := World.block_lt_of_cell? _ _ hw289_1; exact this) GW291.out)) _).trans (((cell_far (p := ⟨gb291, _, none⟩) (by exact Nat.ne_of_lt (Nat.lt_of_lt_of_le (by have := World.block_lt_of_cell? _ _ hw289_1; exact this) GW291.out)) _).trans (hHeld.2.1)))))))))), ((cell_far (p := ⟨gb291, _, none⟩) (by exact Nat.ne_of_lt (Nat.lt_of_lt_of_le (by have := World.block_lt_of_cell? _ _ hw289_2; exact this) GW291.out)) _).trans (((cell_far (p := ⟨gb291, _, none⟩) (by exact Nat.ne_of_lt (Nat.lt_of_lt_of_le (by have := World.block_lt_of_cell? _ _ hw289_2; exact this) GW291.out)) _).trans (((cell_far (p := ⟨gb291, _, none⟩) (by exact Nat.ne_of_lt (Nat.lt_of_lt_of_le (by have := World.block_lt_of_cell? _ _ hw289_2; exact this) GW291.out)) _).trans (((cell_far (p := ⟨gb291, _, none⟩) (by exact Nat.ne_of_lt (Nat.lt_of_lt_of_le (by have := World.block_lt_of_cell? _ _ hw289_2; exact this) GW291.out)) _).trans (((cell_far (p := ⟨gb291, _, none⟩) (by exact Nat.ne_of_lt (Nat.lt_of_lt_of_le (by have := World.block_lt_of_cell? _ _ hw289_2; exact this) GW291.out)) _).trans (hHeld.2.2.1)))))))))), ((cell_far (p := ⟨gb291, _, none⟩) (by exact Nat.ne_of_lt (Nat.lt_of_lt_of_le (by have := World.block_lt_of_cell? _ _ hw289_3; exact this) GW291.out)) _).trans (((cell_far (p := ⟨gb291, _, none⟩) (by exact Nat.ne_of_lt (Nat.lt_of_lt_of_le (by have := World.block_lt_of_cell? _ _ hw289_3; exact this) GW291.out)) _).trans (((cell_far (p := ⟨gb291, _, none⟩) (by exact Nat.ne_of_lt (Nat.lt_of_lt_of_le (by have := World.block_lt_of_cell? _ _ hw289_3; exact this) GW291.out)) _).trans (((cell_far (p := ⟨gb291, _, none⟩) (by exact Nat.ne_of_lt (Nat.lt_of_lt_of_le (by have := World.block_lt_of_cell? _ _ hw289_3; exact this) GW291.out)) _).trans (((cell_far (p := ⟨gb291, _, none⟩) (by exact Nat.ne_of_lt (Nat.lt_of_lt_of_le (by have := World.block_lt_of_cell? _ _ hw289_3; exact this) GW291.out)) _).trans (hHeld.2.2.2.1)))))))))), ((cell_far (p := ⟨gb291, _, none⟩) (by exact Nat.ne_of_lt (Nat.lt_of_lt_of_le (by have := World.block_lt_of_cell? _ _ hw289_4; exact this) GW291.out)) _).trans (((cell_far (p := ⟨gb291, _, none⟩) (by exact Nat.ne_of_lt (Nat.lt_of_lt_of_le (by have := World.block_lt_of_cell? _ _ hw289_4; exact this) GW291.out)) _).trans (((cell_far (p := ⟨gb291, _, none⟩) (by exact Nat.ne_of_lt (Nat.lt_of_lt_of_le (by have := World.block_lt_of_cell? _ _ hw289_4; exact this) GW291.out)) _).trans (((cell_far (p := ⟨gb291, _, none⟩) (by exact Nat.ne_of_lt (Nat.lt_of_lt_of_le (by have := World.block_lt_of_cell? _ _ hw289_4; exact this) GW291.out)) _).trans (((cell_far (p := ⟨gb291, _, none⟩) (by exact Nat.ne_of_lt (Nat.lt_of_lt_of_le (by have := World.block_lt_of_cell? _ _ hw289_4; exact this) GW291.out)) _).trans (hHeld.2.2.2.2.1)))))))))), ((cell_far (p := ⟨gb291, _, none⟩) (by exact Nat.ne_of_lt (Nat.lt_of_lt_of_le (by have := World.block_lt_of_cell? _ _ hw290_0; exact this) GW291.out)) _).trans (((cell_far (p := ⟨gb291, _, none⟩) (by exact Nat.ne_of_lt (Nat.lt_of_lt_of_le (by have := World.block_lt_of_cell? _ _ hw290_0; exact this) GW291.out)) _).trans (((cell_far (p := ⟨gb291, _, none⟩) (by exact Nat.ne_of_lt (Nat.lt_of_lt_of_le (by have := World.block_lt_of_cell? _ _ hw290_0; exact this) GW291.out)) _).trans (((cell_far (p := ⟨gb291, _, none⟩) (by exact Nat.ne_of_lt (Nat.lt_of_lt_of_le (by have := World.block_lt_of_cell? _ _ hw290_0; exact this) GW291.out)) _).trans (((cell_far (p := ⟨gb291, _, none⟩) (by exact Nat.ne_of_lt (Nat.lt_of_lt_of_le (by have := World.block_lt_of_cell? _ _ hw290_0; exact this) GW291.out)) _).trans (hHeld.2.2.2.2.2.1)))))))))), ((cell_far (p := ⟨gb291, _, none⟩) (by exact Nat.ne_of_lt (Nat.lt_of_lt_of_le (by have := World.block_lt_of_cell? _ _ hw290_1; exact this) GW291.out)) _).trans (((cell_far (p := ⟨gb291, _, none⟩) (by exact Nat.ne_of_lt (Nat.lt_of_lt_of_le (by have := World.block_lt_of_cell? _ _ hw290_1; exact this) GW291.out)) _).trans (((cell_far (p := ⟨gb291, _, none⟩) (by exact Nat.ne_of_lt (Nat.lt_of_lt_of_le (by have := World.block_lt_of_cell? _ _ hw290_1; exact this) GW291.out)) _).trans (((cell_far (p := ⟨gb291, _, none⟩) (by exact Nat.ne_of_lt (Nat.lt_of_lt_of_le (by have := World.block_lt_of_cell? _ _ hw290_1; exact this) GW291.out)) _).trans (((cell_far (p := ⟨gb291, _, none⟩) (by exact Nat.ne_of_lt (Nat.lt_of_lt_of_le (by have := World.block_lt_of_cell? _ _ hw290_1; exact this) GW291.out)) _).trans (hHeld.2.2.2.2.2.2.1)))))))))), ((cell_far (p := ⟨gb291, _, none⟩) (by exact Nat.ne_of_lt (Nat.lt_of_lt_of_le (by have := World.block_lt_of_cell? _ _ hw290_2; exact this) GW291.out)) _).trans (((cell_far (p := ⟨gb291, _, none⟩) (by exact Nat.ne_of_lt (Nat.lt_of_lt_of_le (by have := World.block_lt_of_cell? _ _ hw290_2; exact this) GW291.out)) _).trans (((cell_far (p := ⟨gb291, _, none⟩) (by exact Nat.ne_of_lt (Nat.lt_of_lt_of_le (by have := World.block_lt_of_cell? _ _ hw290_2; exact this) GW291.out)) _).trans (((cell_far (p := ⟨gb291, _, none⟩) (by exact Nat.ne_of_lt (Nat.lt_of_lt_of_le (by have := World.block_lt_of_cell? _ _ hw290_2; exact this) GW291.out)) _).trans (((cell_far (p := ⟨gb291, _, none⟩) (by exact Nat.ne_of_lt (Nat.lt_of_lt_of_le (by have := World.block_lt_of_cell? _ _ hw290_2; exact this) GW291.out)) _).trans (hHeld.2.2.2.2.2.2.2.1)))))))))), ((cell_far (p := ⟨gb291, _, none⟩) (by exact Nat.ne_of_lt (Nat.lt_of_lt_of_le (by have := World.block_lt_of_cell? _ _ hw290_3; exact this) GW291.out)) _).trans (((cell_far (p := ⟨gb291, _, none⟩) (by exact Nat.ne_of_lt (Nat.lt_of_lt_of_le (by have := World.block_lt_of_cell? _ _ hw290_3; exact this) GW291.out)) _).trans (((cell_far (p := ⟨gb291, _, none⟩) (by exact Nat.ne_of_lt (Nat.lt_of_lt_of_le (by have := World.block_lt_of_cell? _ _ hw290_3; exact this) GW291.out)) _).trans (((cell_far (p := ⟨gb291, _, none⟩) (by exact Nat.ne_of_lt (Nat.lt_of_lt_of_le (by have := World.block_lt_of_cell? _ _ hw290_3; exact this) GW291.out)) _).trans (((cell_far (p := ⟨gb291, _, none⟩) (by exact Nat.ne_of_lt (Nat.lt_of_lt_of_le (by have := World.block_lt_of_cell? _ _ hw290_3; exact this) GW291.out)) _).trans (hHeld.2.2.2.2.2.2.2.2.1)))))))))), ((cell_far (p := ⟨gb291, _, none⟩) (by exact Nat.ne_of_lt (Nat.lt_of_lt_of_le (by have := World.block_lt_of_cell? _ _ hw290_4; exact this) GW291.out)) _).trans (((cell_far (p := ⟨gb291, _, none⟩) (by exact Nat.ne_of_lt (Nat.lt_of_lt_of_le (by have := World.block_lt_of_cell? _ _ hw290_4; exact this) GW291.out)) _).trans (((cell_far (p := ⟨gb291, _, none⟩) (by exact Nat.ne_of_lt (Nat.lt_of_lt_of_le (by have := World.block_lt_of_cell? _ _ hw290_4; exact this) GW291.out)) _).trans (((cell_far (p := ⟨gb291, _, none⟩) (by exact Nat.ne_of_lt (Nat.lt_of_lt_of_le (by have := World.block_lt_of_cell? _ _ hw290_4; exact this) GW291.out)) _).trans (((cell_far (p := ⟨gb291, _, none⟩) (by exact Nat.ne_of_lt (Nat.lt_of_lt_of_le (by have := World.block_lt_of_cell? _ _ hw290_4; exact this) GW291.out)) _).trans (hHeld.2.2.2.2.2.2.2.2.2))))))))))⟩ (fun hHeld => ?_)
              clear hK K
              refine one_ (i := 11) (N := none) #[true, true, true, true, true, true, true, true, true, true, true, true] rfl rfl (one_of HT_.out (by kernel_rfl)) (by decide) (fun K hK => ?_)
              have hs24 : w18.cell? ⟨gb292, 0, none⟩ = some (.int .i64 0) := (blk_cell BK292.out 0).trans rfl
              have hfs24 := blk_frozen BK292.out 0
              have hns24_0 := NB291_292.out
              have hms24_0 := NB292_291.out
              have hs25 : w18.cell? ⟨gb292, 1, none⟩ = some (.int .i64 0) := (blk_cell BK292.out 1).trans rfl
              have hfs25 := blk_frozen BK292.out 1
              have hns25_0 := NB291_292.out
              have hms25_0 := NB292_291.out
              have hs26 : w18.cell? ⟨gb292, 2, none⟩ = some (.int .i64 0) := (blk_cell BK292.out 2).trans rfl
              have hfs26 := blk_frozen BK292.out 2
              have hns26_0 := NB291_292.out
              have hms26_0 := NB292_291.out
              have hs27 : w18.cell? ⟨gb292, 3, none⟩ = some (.int .i64 0) := (blk_cell BK292.out 3).trans rfl
              have hfs27 := blk_frozen BK292.out 3
              have hns27_0 := NB291_292.out
              have hms27_0 := NB292_291.out
              have hs28 : w18.cell? ⟨gb292, 4, none⟩ = some (.int .i64 0) := (blk_cell BK292.out 4).trans rfl
              have hfs28 := blk_frozen BK292.out 4
              have hns28_0 := NB291_292.out
              have hms28_0 := NB292_291.out
              refine skip_ (w1 := ?_) (by rfl) rfl ?_ ?_
              rotate_left
              · go_simp
                rfl
              refine hK.out _ _ ⟨((cell_far (p := ⟨gb292, _, none⟩) (by exact Nat.ne_of_lt (Nat.lt_of_lt_of_le (by have := World.block_lt_of_cell? _ _ hw289_0; exact this) GW292.out)) _).trans (((cell_far (p := ⟨gb292, _, none⟩) (by exact Nat.ne_of_lt (Nat.lt_of_lt_of_le (by have := World.block_lt_of_cell? _ _ hw289_0; exact this) GW292.out)) _).trans (((cell_far (p := ⟨gb292, _, none⟩) (by exact Nat.ne_of_lt (Nat.lt_of_lt_of_le (by have := World.block_lt_of_cell? _ _ hw289_0; exact this) GW292.out)) _).trans (((cell_far (p := ⟨gb292, _, none⟩) (by exact Nat.ne_of_lt (Nat.lt_of_lt_of_le (by have := World.block_lt_of_cell? _ _ hw289_0; exact this) GW292.out)) _).trans (((cell_far (p := ⟨gb292, _, none⟩) (by exact Nat.ne_of_lt (Nat.lt_of_lt_of_le (by have := World.block_lt_of_cell? _ _ hw289_0; exact this) GW292.out)) _).trans (hHeld.1)))))))))), ((cell_far (p := ⟨gb292, _, none⟩) (by exact Nat.ne_of_lt (Nat.lt_of_lt_of_le (by have := World.block_lt_of_cell? _ _ hw289_1; exact this) GW292.out)) _).trans (((cell_far (p := ⟨gb292, _, none⟩) (by exact Nat.ne_of_lt (Nat.lt_of_lt_of_le (by have := World.block_lt_of_cell? _ _ hw289_1; exact this) GW292.out)) _).trans (((cell_far (p := ⟨gb292, _, none⟩) (by exact Nat.ne_of_lt (Nat.lt_of_lt_of_le (by have := World.block_lt_of_cell? _ _ hw289_1; exact this) GW292.out)) _).trans (((cell_far (p := ⟨gb292, _, none⟩) (by exact Nat.ne_of_lt (Nat.lt_of_lt_of_le (by have := World.block_lt_of_cell? _ _ hw289_1; exact this) GW292.out)) _).trans (((cell_far (p := ⟨gb292, _, none⟩) (by exact Nat.ne_of_lt (Nat.lt_of_lt_of_le (by have := World.block_lt_of_cell? _ _ hw289_1; exact this) GW292.out)) _).trans (hHeld.2.1)))))))))), ((cell_far (p := ⟨gb292, _, none⟩) (by exact Nat.ne_of_lt (Nat.lt_of_lt_of_le (by have := World.block_lt_of_cell? _ _ hw289_2; exact this) GW292.out)) _).trans (((cell_far (p := ⟨gb292, _, none⟩) (by exact Nat.ne_of_lt (Nat.lt_of_lt_of_le (by have := World.block_lt_of_cell? _ _ hw289_2; exact this) GW292.out)) _).trans (((cell_far (p := ⟨gb292, _, none⟩) (by exact Nat.ne_of_lt (Nat.lt_of_lt_of_le (by have := World.block_lt_of_cell? _ _ hw289_2; exact this) GW292.out)) _).trans (((cell_far (p := ⟨gb292, _, none⟩) (by exact Nat.ne_of_lt (Nat.lt_of_lt_of_le (by have := World.block_lt_of_cell? _ _ hw289_2; exact this) GW292.out)) _).trans (((cell_far (p := ⟨gb292, _, none⟩) (by exact Nat.ne_of_lt (Nat.lt_of_lt_of_le (by have := World.block_lt_of_cell? _ _ hw289_2; exact this) GW292.out)) _).trans (hHeld.2.2.1)))))))))), ((cell_far (p := ⟨gb292, _, none⟩) (by exact Nat.ne_of_lt (Nat.lt_of_lt_of_le (by have := World.block_lt_of_cell? _ _ hw289_3; exact this) GW292.out)) _).trans (((cell_far (p := ⟨gb292, _, none⟩) (by exact Nat.ne_of_lt (Nat.lt_of_lt_of_le (by have := World.block_lt_of_cell? _ _ hw289_3; exact this) GW292.out)) _).trans (((cell_far (p := ⟨gb292, _, none⟩) (by exact Nat.ne_of_lt (Nat.lt_of_lt_of_le (by have := World.block_lt_of_cell? _ _ hw289_3; exact this) GW292.out)) _).trans (((cell_far (p := ⟨gb292, _, none⟩) (by exact Nat.ne_of_lt (Nat.lt_of_lt_of_le (by have := World.block_lt_of_cell? _ _ hw289_3; exact this) GW292.out)) _).trans (((cell_far (p := ⟨gb292, _, none⟩) (by exact Nat.ne_of_lt (Nat.lt_of_lt_of_le (by have := World.block_lt_of_cell? _ _ hw289_3; exact this) GW292.out)) _).trans (hHeld.2.2.2.1)))))))))), ((cell_far (p := ⟨gb292, _, none⟩) (by exact Nat.ne_of_lt (Nat.lt_of_lt_of_le (by have := World.block_lt_of_cell? _ _ hw289_4; exact this) GW292.out)) _).trans (((cell_far (p := ⟨gb292, _, none⟩) (by exact Nat.ne_of_lt (Nat.lt_of_lt_of_le (by have := World.block_lt_of_cell? _ _ hw289_4; exact this) GW292.out)) _).trans (((cell_far (p := ⟨gb292, _, none⟩) (by exact Nat.ne_of_lt (Nat.lt_of_lt_of_le (by have := World.block_lt_of_cell? _ _ hw289_4; exact this) GW292.out)) _).trans (((cell_far (p := ⟨gb292, _, none⟩) (by exact Nat.ne_of_lt (Nat.lt_of_lt_of_le (by have := World.block_lt_of_cell? _ _ hw289_4; exact this) GW292.out)) _).trans (((cell_far (p := ⟨gb292, _, none⟩) (by exact Nat.ne_of_lt (Nat.lt_of_lt_of_le (by have := World.block_lt_of_cell? _ _ hw289_4; exact this) GW292.out)) _).trans (hHeld.2.2.2.2.1)))))))))), ((cell_far (p := ⟨gb292, _, none⟩) (by exact Nat.ne_of_lt (Nat.lt_of_lt_of_le (by have := World.block_lt_of_cell? _ _ hw290_0; exact this) GW292.out)) _).trans (((cell_far (p := ⟨gb292, _, none⟩) (by exact Nat.ne_of_lt (Nat.lt_of_lt_of_le (by have := World.block_lt_of_cell? _ _ hw290_0; exact this) GW292.out)) _).trans (((cell_far (p := ⟨gb292, _, none⟩) (by exact Nat.ne_of_lt (Nat.lt_of_lt_of_le (by have := World.block_lt_of_cell? _ _ hw290_0; exact this) GW292.out)) _).trans (((cell_far (p := ⟨gb292, _, none⟩) (by exact Nat.ne_of_lt (Nat.lt_of_lt_of_le (by have := World.block_lt_of_cell? _ _ hw290_0; exact this) GW292.out)) _).trans (((cell_far (p := ⟨gb292, _, none⟩) (by exact Nat.ne_of_lt (Nat.lt_of_lt_of_le (by have := World.block_lt_of_cell? _ _ hw290_0; exact this) GW292.out)) _).trans (hHeld.2.2.2.2.2.1)))))))))), ((cell_far (p := ⟨gb292, _, none⟩) (by exact Nat.ne_of_lt (Nat.lt_of_lt_of_le (by have := World.block_lt_of_cell? _ _ hw290_1; exact this) GW292.out)) _).trans (((cell_far (p := ⟨gb292, _, none⟩) (by exact Nat.ne_of_lt (Nat.lt_of_lt_of_le (by have := World.block_lt_of_cell? _ _ hw290_1; exact this) GW292.out)) _).trans (((cell_far (p := ⟨gb292, _, none⟩) (by exact Nat.ne_of_lt (Nat.lt_of_lt_of_le (by have := World.block_lt_of_cell? _ _ hw290_1; exact this) GW292.out)) _).trans (((cell_far (p := ⟨gb292, _, none⟩) (by exact Nat.ne_of_lt (Nat.lt_of_lt_of_le (by have := World.block_lt_of_cell? _ _ hw290_1; exact this) GW292.out)) _).trans (((cell_far (p := ⟨gb292, _, none⟩) (by exact Nat.ne_of_lt (Nat.lt_of_lt_of_le (by have := World.block_lt_of_cell? _ _ hw290_1; exact this) GW292.out)) _).trans (hHeld.2.2.2.2.2.2.1)))))))))), ((cell_far (p := ⟨gb292, _, none⟩) (by exact Nat.ne_of_lt (Nat.lt_of_lt_of_le (by have := World.block_lt_of_cell? _ _ hw290_2; exact this) GW292.out)) _).trans (((cell_far (p := ⟨gb292, _, none⟩) (by exact Nat.ne_of_lt (Nat.lt_of_lt_of_le (by have := World.block_lt_of_cell? _ _ hw290_2; exact this) GW292.out)) _).trans (((cell_far (p := ⟨gb292, _, none⟩) (by exact Nat.ne_of_lt (Nat.lt_of_lt_of_le (by have := World.block_lt_of_cell? _ _ hw290_2; exact this) GW292.out)) _).trans (((cell_far (p := ⟨gb292, _, none⟩) (by exact Nat.ne_of_lt (Nat.lt_of_lt_of_le (by have := World.block_lt_of_cell? _ _ hw290_2; exact this) GW292.out)) _).trans (((cell_far (p := ⟨gb292, _, none⟩) (by exact Nat.ne_of_lt (Nat.lt_of_lt_of_le (by have := World.block_lt_of_cell? _ _ hw290_2; exact this) GW292.out)) _).trans (hHeld.2.2.2.2.2.2.2.1)))))))))), ((cell_far (p := ⟨gb292, _, none⟩) (by exact Nat.ne_of_lt (Nat.lt_of_lt_of_le (by have := World.block_lt_of_cell? _ _ hw290_3; exact this) GW292.out)) _).trans (((cell_far (p := ⟨gb292, _, none⟩) (by exact Nat.ne_of_lt (Nat.lt_of_lt_of_le (by have := World.block_lt_of_cell? _ _ hw290_3; exact this) GW292.out)) _).trans (((cell_far (p := ⟨gb292, _, none⟩) (by exact Nat.ne_of_lt (Nat.lt_of_lt_of_le (by have := World.block_lt_of_cell? _ _ hw290_3; exact this) GW292.out)) _).trans (((cell_far (p := ⟨gb292, _, none⟩) (by exact Nat.ne_of_lt (Nat.lt_of_lt_of_le (by have := World.block_lt_of_cell? _ _ hw290_3; exact this) GW292.out)) _).trans (((cell_far (p := ⟨gb292, _, none⟩) (by exact Nat.ne_of_lt (Nat.lt_of_lt_of_le (by have := World.block_lt_of_cell? _ _ hw290_3; exact this) GW292.out)) _).trans (hHeld.2.2.2.2.2.2.2.2.1)))))))))), ((cell_far (p := ⟨gb292, _, none⟩) (by exact Nat.ne_of_lt (Nat.lt_of_lt_of_le (by have := World.block_lt_of_cell? _ _ hw290_4; exact this) GW292.out)) _).trans (((cell_far (p := ⟨gb292, _, none⟩) (by exact Nat.ne_of_lt (Nat.lt_of_lt_of_le (by have := World.block_lt_of_cell? _ _ hw290_4; exact this) GW292.out)) _).trans (((cell_far (p := ⟨gb292, _, none⟩) (by exact Nat.ne_of_lt (Nat.lt_of_lt_of_le (by have := World.block_lt_of_cell? _ _ hw290_4; exact this) GW292.out)) _).trans (((cell_far (p := ⟨gb292, _, none⟩) (by exact Nat.ne_of_lt (Nat.lt_of_lt_of_le (by have := World.block_lt_of_cell? _ _ hw290_4; exact this) GW292.out)) _).trans (((cell_far (p := ⟨gb292, _, none⟩) (by exact Nat.ne_of_lt (Nat.lt_of_lt_of_le (by have := World.block_lt_of_cell? _ _ hw290_4; exact this) GW292.out)) _).trans (hHeld.2.2.2.2.2.2.2.2.2))))))))))⟩ (fun hHeld => ?_)
              clear hK K
              refine done_ (done_of HT_.out (by kernel_rfl)) ?_
              go_upto_region 9 with (fail)
              go_cut [64] (fun v64 wc => ∃ (kq : Nat) (x64_13 : Bool), v64 = .bool x64_13 ∧ Aside0 (formelaw03_ZoneOne.j1 kq l0 l1 a2 a3 a4 t287 x12_1 x13_1 x64_13 ((rd_T35 l0 x13_1).f0) ((rd_T35 l0 x13_1).f1.f0) ((rd_T35 l0 x13_1).f1.f1) ((rd_T35 l0 x13_1).f2.f0) ((rd_T35 l0 x13_1).f2.f1) ((rd_T35 l0 x13_1).f0) ((rd_T35 l0 x13_1).f1.f0) ((rd_T35 l0 x13_1).f1.f1) ((rd_T35 l0 x13_1).f2.f0) ((rd_T35 l0 x13_1).f2.f1) = some r) ∧ Aside0 (kq ≤ k1) ∧ Aside0 (Kd.R k35 35 wc w.heap.size (fun k_ => k_ ≠ gb291 ∧ k_ ≠ gb292) u12 x12_1) ∧ Aside0 (wc.heap[gb291]? = some (.cells #[.int .i64 ((rd_T35 l0 x13_1).f0), .int .i64 ((rd_T35 l0 x13_1).f1.f0), .int .i64 ((rd_T35 l0 x13_1).f1.f1), .int .i64 ((rd_T35 l0 x13_1).f2.f0), .int .i64 ((rd_T35 l0 x13_1).f2.f1)] 35 (0, 0))) ∧ Aside0 (wc.heap[gb292]? = some (.cells #[.int .i64 ((rd_T35 l0 x13_1).f0), .int .i64 ((rd_T35 l0 x13_1).f1.f0), .int .i64 ((rd_T35 l0 x13_1).f1.f1), .int .i64 ((rd_T35 l0 x13_1).f2.f0), .int .i64 ((rd_T35 l0 x13_1).f2.f1)] 35 (0, 0))) ∧ Aside0 (Below w.heap.size w wc))
              case first =>
                have H := HC14.out
                clear HC14
                by_cases c29 : ((rd_T35 l0 x13_1).f2.f0) < a2
                · rw [if_pos c29] at H
                  have c29b0 : decide (((rd_T35 l0 x13_1).f2.f0) < a2) = true := decide_eq_true c29
                  clear c29
                  (skip)
                  have H' := Aside0.mk H
                  clear H
                  have p293 : 0 ≤ (x13_1 : Int) := of_decide_eq_true (by (with_reducible assumption))
                  have q293 : x13_1 < (l0.length : Int) := of_decide_eq_true (by (with_reducible assumption))
                  obtain ⟨ad293, e293, hx293_0, hx293_1, hx293_2, hx293_3, hx293_4⟩ := at_T35 HR0.out x13_1 p293 q293
                  obtain rfl : ad289 = ad293 := (by injection e293)
                  have hn293_0 : ad289.block ≠ gb291 := Nat.ne_of_lt (Nat.lt_of_lt_of_le (by have := World.block_lt_of_cell? _ _ hx293_0; rwa [add_block] at this) GW291.out)
                  have hn293_1 : ad289.block ≠ gb291 := Nat.ne_of_lt (Nat.lt_of_lt_of_le (by have := World.block_lt_of_cell? _ _ hx293_0; rwa [add_block] at this) GW291.out)
                  have hn293_2 : ad289.block ≠ gb291 := Nat.ne_of_lt (Nat.lt_of_lt_of_le (by have := World.block_lt_of_cell? _ _ hx293_0; rwa [add_block] at this) GW291.out)
                  have hn293_3 : ad289.block ≠ gb291 := Nat.ne_of_lt (Nat.lt_of_lt_of_le (by have := World.block_lt_of_cell? _ _ hx293_0; rwa [add_block] at this) GW291.out)
                  have hn293_4 : ad289.block ≠ gb291 := Nat.ne_of_lt (Nat.lt_of_lt_of_le (by have := World.block_lt_of_cell? _ _ hx293_0; rwa [add_block] at this) GW291.out)
                  have hn293_5 : ad289.block ≠ gb292 := Nat.ne_of_lt (Nat.lt_of_lt_of_le (by have := World.block_lt_of_cell? _ _ hx293_0; rwa [add_block] at this) GW292.out)
                  have hn293_6 : ad289.block ≠ gb292 := Nat.ne_of_lt (Nat.lt_of_lt_of_le (by have := World.block_lt_of_cell? _ _ hx293_0; rwa [add_block] at this) GW292.out)
                  have hn293_7 : ad289.block ≠ gb292 := Nat.ne_of_lt (Nat.lt_of_lt_of_le (by have := World.block_lt_of_cell? _ _ hx293_0; rwa [add_block] at this) GW292.out)
                  have hn293_8 : ad289.block ≠ gb292 := Nat.ne_of_lt (Nat.lt_of_lt_of_le (by have := World.block_lt_of_cell? _ _ hx293_0; rwa [add_block] at this) GW292.out)
                  have hn293_9 : ad289.block ≠ gb292 := Nat.ne_of_lt (Nat.lt_of_lt_of_le (by have := World.block_lt_of_cell? _ _ hx293_0; rwa [add_block] at this) GW292.out)
                  replace hx293_0 := (HB.out.cell (World.block_lt_of_cell? w _ hx293_0)).trans hx293_0
                  replace hx293_1 := (HB.out.cell (World.block_lt_of_cell? w _ hx293_1)).trans hx293_1
                  replace hx293_2 := (HB.out.cell (World.block_lt_of_cell? w _ hx293_2)).trans hx293_2
                  replace hx293_3 := (HB.out.cell (World.block_lt_of_cell? w _ hx293_3)).trans hx293_3
                  replace hx293_4 := (HB.out.cell (World.block_lt_of_cell? w _ hx293_4)).trans hx293_4
                  replace hx293_0 := (cell_far (p := ⟨gb291, 0, none⟩) (by (rw [add_block]; exact hn293_0)) (.int .i64 ((rd_T35 l0 x13_1).f0))).trans hx293_0
                  replace hx293_1 := (cell_far (p := ⟨gb291, 0, none⟩) (by (rw [add_block]; exact hn293_0)) (.int .i64 ((rd_T35 l0 x13_1).f0))).trans hx293_1
                  replace hx293_2 := (cell_far (p := ⟨gb291, 0, none⟩) (by (rw [add_block]; exact hn293_0)) (.int .i64 ((rd_T35 l0 x13_1).f0))).trans hx293_2
                  replace hx293_3 := (cell_far (p := ⟨gb291, 0, none⟩) (by (rw [add_block]; exact hn293_0)) (.int .i64 ((rd_T35 l0 x13_1).f0))).trans hx293_3
                  replace hx293_4 := (cell_far (p := ⟨gb291, 0, none⟩) (by (rw [add_block]; exact hn293_0)) (.int .i64 ((rd_T35 l0 x13_1).f0))).trans hx293_4
                  replace hx293_0 := (cell_far (p := ⟨gb291, 1, none⟩) (by (rw [add_block]; exact hn293_1)) (.int .i64 ((rd_T35 l0 x13_1).f1.f0))).trans hx293_0
                  replace hx293_1 := (cell_far (p := ⟨gb291, 1, none⟩) (by (rw [add_block]; exact hn293_1)) (.int .i64 ((rd_T35 l0 x13_1).f1.f0))).trans hx293_1
                  replace hx293_2 := (cell_far (p := ⟨gb291, 1, none⟩) (by (rw [add_block]; exact hn293_1)) (.int .i64 ((rd_T35 l0 x13_1).f1.f0))).trans hx293_2
                  replace hx293_3 := (cell_far (p := ⟨gb291, 1, none⟩) (by (rw [add_block]; exact hn293_1)) (.int .i64 ((rd_T35 l0 x13_1).f1.f0))).trans hx293_3
                  replace hx293_4 := (cell_far (p := ⟨gb291, 1, none⟩) (by (rw [add_block]; exact hn293_1)) (.int .i64 ((rd_T35 l0 x13_1).f1.f0))).trans hx293_4
                  replace hx293_0 := (cell_far (p := ⟨gb291, 2, none⟩) (by (rw [add_block]; exact hn293_2)) (.int .i64 ((rd_T35 l0 x13_1).f1.f1))).trans hx293_0
                  replace hx293_1 := (cell_far (p := ⟨gb291, 2, none⟩) (by (rw [add_block]; exact hn293_2)) (.int .i64 ((rd_T35 l0 x13_1).f1.f1))).trans hx293_1
                  replace hx293_2 := (cell_far (p := ⟨gb291, 2, none⟩) (by (rw [add_block]; exact hn293_2)) (.int .i64 ((rd_T35 l0 x13_1).f1.f1))).trans hx293_2
                  replace hx293_3 := (cell_far (p := ⟨gb291, 2, none⟩) (by (rw [add_block]; exact hn293_2)) (.int .i64 ((rd_T35 l0 x13_1).f1.f1))).trans hx293_3
                  replace hx293_4 := (cell_far (p := ⟨gb291, 2, none⟩) (by (rw [add_block]; exact hn293_2)) (.int .i64 ((rd_T35 l0 x13_1).f1.f1))).trans hx293_4
                  replace hx293_0 := (cell_far (p := ⟨gb291, 3, none⟩) (by (rw [add_block]; exact hn293_3)) (.int .i64 ((rd_T35 l0 x13_1).f2.f0))).trans hx293_0
                  replace hx293_1 := (cell_far (p := ⟨gb291, 3, none⟩) (by (rw [add_block]; exact hn293_3)) (.int .i64 ((rd_T35 l0 x13_1).f2.f0))).trans hx293_1
                  replace hx293_2 := (cell_far (p := ⟨gb291, 3, none⟩) (by (rw [add_block]; exact hn293_3)) (.int .i64 ((rd_T35 l0 x13_1).f2.f0))).trans hx293_2
                  replace hx293_3 := (cell_far (p := ⟨gb291, 3, none⟩) (by (rw [add_block]; exact hn293_3)) (.int .i64 ((rd_T35 l0 x13_1).f2.f0))).trans hx293_3
                  replace hx293_4 := (cell_far (p := ⟨gb291, 3, none⟩) (by (rw [add_block]; exact hn293_3)) (.int .i64 ((rd_T35 l0 x13_1).f2.f0))).trans hx293_4
                  replace hx293_0 := (cell_far (p := ⟨gb291, 4, none⟩) (by (rw [add_block]; exact hn293_4)) (.int .i64 ((rd_T35 l0 x13_1).f2.f1))).trans hx293_0
                  replace hx293_1 := (cell_far (p := ⟨gb291, 4, none⟩) (by (rw [add_block]; exact hn293_4)) (.int .i64 ((rd_T35 l0 x13_1).f2.f1))).trans hx293_1
                  replace hx293_2 := (cell_far (p := ⟨gb291, 4, none⟩) (by (rw [add_block]; exact hn293_4)) (.int .i64 ((rd_T35 l0 x13_1).f2.f1))).trans hx293_2
                  replace hx293_3 := (cell_far (p := ⟨gb291, 4, none⟩) (by (rw [add_block]; exact hn293_4)) (.int .i64 ((rd_T35 l0 x13_1).f2.f1))).trans hx293_3
                  replace hx293_4 := (cell_far (p := ⟨gb291, 4, none⟩) (by (rw [add_block]; exact hn293_4)) (.int .i64 ((rd_T35 l0 x13_1).f2.f1))).trans hx293_4
                  replace hx293_0 := (cell_far (p := ⟨gb292, 0, none⟩) (by (rw [add_block]; exact hn293_5)) (.int .i64 ((rd_T35 l0 x13_1).f0))).trans hx293_0
                  replace hx293_1 := (cell_far (p := ⟨gb292, 0, none⟩) (by (rw [add_block]; exact hn293_5)) (.int .i64 ((rd_T35 l0 x13_1).f0))).trans hx293_1
                  replace hx293_2 := (cell_far (p := ⟨gb292, 0, none⟩) (by (rw [add_block]; exact hn293_5)) (.int .i64 ((rd_T35 l0 x13_1).f0))).trans hx293_2
                  replace hx293_3 := (cell_far (p := ⟨gb292, 0, none⟩) (by (rw [add_block]; exact hn293_5)) (.int .i64 ((rd_T35 l0 x13_1).f0))).trans hx293_3
                  replace hx293_4 := (cell_far (p := ⟨gb292, 0, none⟩) (by (rw [add_block]; exact hn293_5)) (.int .i64 ((rd_T35 l0 x13_1).f0))).trans hx293_4
                  replace hx293_0 := (cell_far (p := ⟨gb292, 1, none⟩) (by (rw [add_block]; exact hn293_6)) (.int .i64 ((rd_T35 l0 x13_1).f1.f0))).trans hx293_0
                  replace hx293_1 := (cell_far (p := ⟨gb292, 1, none⟩) (by (rw [add_block]; exact hn293_6)) (.int .i64 ((rd_T35 l0 x13_1).f1.f0))).trans hx293_1
                  replace hx293_2 := (cell_far (p := ⟨gb292, 1, none⟩) (by (rw [add_block]; exact hn293_6)) (.int .i64 ((rd_T35 l0 x13_1).f1.f0))).trans hx293_2
                  replace hx293_3 := (cell_far (p := ⟨gb292, 1, none⟩) (by (rw [add_block]; exact hn293_6)) (.int .i64 ((rd_T35 l0 x13_1).f1.f0))).trans hx293_3
                  replace hx293_4 := (cell_far (p := ⟨gb292, 1, none⟩) (by (rw [add_block]; exact hn293_6)) (.int .i64 ((rd_T35 l0 x13_1).f1.f0))).trans hx293_4
                  replace hx293_0 := (cell_far (p := ⟨gb292, 2, none⟩) (by (rw [add_block]; exact hn293_7)) (.int .i64 ((rd_T35 l0 x13_1).f1.f1))).trans hx293_0
                  replace hx293_1 := (cell_far (p := ⟨gb292, 2, none⟩) (by (rw [add_block]; exact hn293_7)) (.int .i64 ((rd_T35 l0 x13_1).f1.f1))).trans hx293_1
                  replace hx293_2 := (cell_far (p := ⟨gb292, 2, none⟩) (by (rw [add_block]; exact hn293_7)) (.int .i64 ((rd_T35 l0 x13_1).f1.f1))).trans hx293_2
                  replace hx293_3 := (cell_far (p := ⟨gb292, 2, none⟩) (by (rw [add_block]; exact hn293_7)) (.int .i64 ((rd_T35 l0 x13_1).f1.f1))).trans hx293_3
                  replace hx293_4 := (cell_far (p := ⟨gb292, 2, none⟩) (by (rw [add_block]; exact hn293_7)) (.int .i64 ((rd_T35 l0 x13_1).f1.f1))).trans hx293_4
                  replace hx293_0 := (cell_far (p := ⟨gb292, 3, none⟩) (by (rw [add_block]; exact hn293_8)) (.int .i64 ((rd_T35 l0 x13_1).f2.f0))).trans hx293_0
                  replace hx293_1 := (cell_far (p := ⟨gb292, 3, none⟩) (by (rw [add_block]; exact hn293_8)) (.int .i64 ((rd_T35 l0 x13_1).f2.f0))).trans hx293_1
                  replace hx293_2 := (cell_far (p := ⟨gb292, 3, none⟩) (by (rw [add_block]; exact hn293_8)) (.int .i64 ((rd_T35 l0 x13_1).f2.f0))).trans hx293_2
                  replace hx293_3 := (cell_far (p := ⟨gb292, 3, none⟩) (by (rw [add_block]; exact hn293_8)) (.int .i64 ((rd_T35 l0 x13_1).f2.f0))).trans hx293_3
                  replace hx293_4 := (cell_far (p := ⟨gb292, 3, none⟩) (by (rw [add_block]; exact hn293_8)) (.int .i64 ((rd_T35 l0 x13_1).f2.f0))).trans hx293_4
                  replace hx293_0 := (cell_far (p := ⟨gb292, 4, none⟩) (by (rw [add_block]; exact hn293_9)) (.int .i64 ((rd_T35 l0 x13_1).f2.f1))).trans hx293_0
                  replace hx293_1 := (cell_far (p := ⟨gb292, 4, none⟩) (by (rw [add_block]; exact hn293_9)) (.int .i64 ((rd_T35 l0 x13_1).f2.f1))).trans hx293_1
                  replace hx293_2 := (cell_far (p := ⟨gb292, 4, none⟩) (by (rw [add_block]; exact hn293_9)) (.int .i64 ((rd_T35 l0 x13_1).f2.f1))).trans hx293_2
                  replace hx293_3 := (cell_far (p := ⟨gb292, 4, none⟩) (by (rw [add_block]; exact hn293_9)) (.int .i64 ((rd_T35 l0 x13_1).f2.f1))).trans hx293_3
                  replace hx293_4 := (cell_far (p := ⟨gb292, 4, none⟩) (by (rw [add_block]; exact hn293_9)) (.int .i64 ((rd_T35 l0 x13_1).f2.f1))).trans hx293_4
                  clear hn293_0
                  clear hn293_1
                  clear hn293_2
                  clear hn293_3
                  clear hn293_4
                  clear hn293_5
                  clear hn293_6
                  clear hn293_7
                  clear hn293_8
                  clear hn293_9
                  replace p293 := eq_true p293
                  replace q293 := eq_true q293
                  have p294 : 0 ≤ (x13_1 : Int) := of_decide_eq_true (by (with_reducible assumption))
                  have q294 : x13_1 < (l0.length : Int) := of_decide_eq_true (by (with_reducible assumption))
                  obtain ⟨ad294, e294, hx294_0, hx294_1, hx294_2, hx294_3, hx294_4⟩ := at_T35 HR0.out x13_1 p294 q294
                  obtain rfl : ad289 = ad294 := (by injection e294)
                  have hn294_0 : ad289.block ≠ gb291 := Nat.ne_of_lt (Nat.lt_of_lt_of_le (by have := World.block_lt_of_cell? _ _ hx294_0; rwa [add_block] at this) GW291.out)
                  have hn294_1 : ad289.block ≠ gb291 := Nat.ne_of_lt (Nat.lt_of_lt_of_le (by have := World.block_lt_of_cell? _ _ hx294_0; rwa [add_block] at this) GW291.out)
                  have hn294_2 : ad289.block ≠ gb291 := Nat.ne_of_lt (Nat.lt_of_lt_of_le (by have := World.block_lt_of_cell? _ _ hx294_0; rwa [add_block] at this) GW291.out)
                  have hn294_3 : ad289.block ≠ gb291 := Nat.ne_of_lt (Nat.lt_of_lt_of_le (by have := World.block_lt_of_cell? _ _ hx294_0; rwa [add_block] at this) GW291.out)
                  have hn294_4 : ad289.block ≠ gb291 := Nat.ne_of_lt (Nat.lt_of_lt_of_le (by have := World.block_lt_of_cell? _ _ hx294_0; rwa [add_block] at this) GW291.out)
                  have hn294_5 : ad289.block ≠ gb292 := Nat.ne_of_lt (Nat.lt_of_lt_of_le (by have := World.block_lt_of_cell? _ _ hx294_0; rwa [add_block] at this) GW292.out)
                  have hn294_6 : ad289.block ≠ gb292 := Nat.ne_of_lt (Nat.lt_of_lt_of_le (by have := World.block_lt_of_cell? _ _ hx294_0; rwa [add_block] at this) GW292.out)
                  have hn294_7 : ad289.block ≠ gb292 := Nat.ne_of_lt (Nat.lt_of_lt_of_le (by have := World.block_lt_of_cell? _ _ hx294_0; rwa [add_block] at this) GW292.out)
                  have hn294_8 : ad289.block ≠ gb292 := Nat.ne_of_lt (Nat.lt_of_lt_of_le (by have := World.block_lt_of_cell? _ _ hx294_0; rwa [add_block] at this) GW292.out)
                  have hn294_9 : ad289.block ≠ gb292 := Nat.ne_of_lt (Nat.lt_of_lt_of_le (by have := World.block_lt_of_cell? _ _ hx294_0; rwa [add_block] at this) GW292.out)
                  replace hx294_0 := (HB.out.cell (World.block_lt_of_cell? w _ hx294_0)).trans hx294_0
                  replace hx294_1 := (HB.out.cell (World.block_lt_of_cell? w _ hx294_1)).trans hx294_1
                  replace hx294_2 := (HB.out.cell (World.block_lt_of_cell? w _ hx294_2)).trans hx294_2
                  replace hx294_3 := (HB.out.cell (World.block_lt_of_cell? w _ hx294_3)).trans hx294_3
                  replace hx294_4 := (HB.out.cell (World.block_lt_of_cell? w _ hx294_4)).trans hx294_4
                  replace hx294_0 := (cell_far (p := ⟨gb291, 0, none⟩) (by (rw [add_block]; exact hn294_0)) (.int .i64 ((rd_T35 l0 x13_1).f0))).trans hx294_0
                  replace hx294_1 := (cell_far (p := ⟨gb291, 0, none⟩) (by (rw [add_block]; exact hn294_0)) (.int .i64 ((rd_T35 l0 x13_1).f0))).trans hx294_1
                  replace hx294_2 := (cell_far (p := ⟨gb291, 0, none⟩) (by (rw [add_block]; exact hn294_0)) (.int .i64 ((rd_T35 l0 x13_1).f0))).trans hx294_2
                  replace hx294_3 := (cell_far (p := ⟨gb291, 0, none⟩) (by (rw [add_block]; exact hn294_0)) (.int .i64 ((rd_T35 l0 x13_1).f0))).trans hx294_3
                  replace hx294_4 := (cell_far (p := ⟨gb291, 0, none⟩) (by (rw [add_block]; exact hn294_0)) (.int .i64 ((rd_T35 l0 x13_1).f0))).trans hx294_4
                  replace hx294_0 := (cell_far (p := ⟨gb291, 1, none⟩) (by (rw [add_block]; exact hn294_1)) (.int .i64 ((rd_T35 l0 x13_1).f1.f0))).trans hx294_0
                  replace hx294_1 := (cell_far (p := ⟨gb291, 1, none⟩) (by (rw [add_block]; exact hn294_1)) (.int .i64 ((rd_T35 l0 x13_1).f1.f0))).trans hx294_1
                  replace hx294_2 := (cell_far (p := ⟨gb291, 1, none⟩) (by (rw [add_block]; exact hn294_1)) (.int .i64 ((rd_T35 l0 x13_1).f1.f0))).trans hx294_2
                  replace hx294_3 := (cell_far (p := ⟨gb291, 1, none⟩) (by (rw [add_block]; exact hn294_1)) (.int .i64 ((rd_T35 l0 x13_1).f1.f0))).trans hx294_3
                  replace hx294_4 := (cell_far (p := ⟨gb291, 1, none⟩) (by (rw [add_block]; exact hn294_1)) (.int .i64 ((rd_T35 l0 x13_1).f1.f0))).trans hx294_4
                  replace hx294_0 := (cell_far (p := ⟨gb291, 2, none⟩) (by (rw [add_block]; exact hn294_2)) (.int .i64 ((rd_T35 l0 x13_1).f1.f1))).trans hx294_0
                  replace hx294_1 := (cell_far (p := ⟨gb291, 2, none⟩) (by (rw [add_block]; exact hn294_2)) (.int .i64 ((rd_T35 l0 x13_1).f1.f1))).trans hx294_1
                  replace hx294_2 := (cell_far (p := ⟨gb291, 2, none⟩) (by (rw [add_block]; exact hn294_2)) (.int .i64 ((rd_T35 l0 x13_1).f1.f1))).trans hx294_2
                  replace hx294_3 := (cell_far (p := ⟨gb291, 2, none⟩) (by (rw [add_block]; exact hn294_2)) (.int .i64 ((rd_T35 l0 x13_1).f1.f1))).trans hx294_3
                  replace hx294_4 := (cell_far (p := ⟨gb291, 2, none⟩) (by (rw [add_block]; exact hn294_2)) (.int .i64 ((rd_T35 l0 x13_1).f1.f1))).trans hx294_4
                  replace hx294_0 := (cell_far (p := ⟨gb291, 3, none⟩) (by (rw [add_block]; exact hn294_3)) (.int .i64 ((rd_T35 l0 x13_1).f2.f0))).trans hx294_0
                  replace hx294_1 := (cell_far (p := ⟨gb291, 3, none⟩) (by (rw [add_block]; exact hn294_3)) (.int .i64 ((rd_T35 l0 x13_1).f2.f0))).trans hx294_1
                  replace hx294_2 := (cell_far (p := ⟨gb291, 3, none⟩) (by (rw [add_block]; exact hn294_3)) (.int .i64 ((rd_T35 l0 x13_1).f2.f0))).trans hx294_2
                  replace hx294_3 := (cell_far (p := ⟨gb291, 3, none⟩) (by (rw [add_block]; exact hn294_3)) (.int .i64 ((rd_T35 l0 x13_1).f2.f0))).trans hx294_3
                  replace hx294_4 := (cell_far (p := ⟨gb291, 3, none⟩) (by (rw [add_block]; exact hn294_3)) (.int .i64 ((rd_T35 l0 x13_1).f2.f0))).trans hx294_4
                  replace hx294_0 := (cell_far (p := ⟨gb291, 4, none⟩) (by (rw [add_block]; exact hn294_4)) (.int .i64 ((rd_T35 l0 x13_1).f2.f1))).trans hx294_0
                  replace hx294_1 := (cell_far (p := ⟨gb291, 4, none⟩) (by (rw [add_block]; exact hn294_4)) (.int .i64 ((rd_T35 l0 x13_1).f2.f1))).trans hx294_1
                  replace hx294_2 := (cell_far (p := ⟨gb291, 4, none⟩) (by (rw [add_block]; exact hn294_4)) (.int .i64 ((rd_T35 l0 x13_1).f2.f1))).trans hx294_2
                  replace hx294_3 := (cell_far (p := ⟨gb291, 4, none⟩) (by (rw [add_block]; exact hn294_4)) (.int .i64 ((rd_T35 l0 x13_1).f2.f1))).trans hx294_3
                  replace hx294_4 := (cell_far (p := ⟨gb291, 4, none⟩) (by (rw [add_block]; exact hn294_4)) (.int .i64 ((rd_T35 l0 x13_1).f2.f1))).trans hx294_4
                  replace hx294_0 := (cell_far (p := ⟨gb292, 0, none⟩) (by (rw [add_block]; exact hn294_5)) (.int .i64 ((rd_T35 l0 x13_1).f0))).trans hx294_0
                  replace hx294_1 := (cell_far (p := ⟨gb292, 0, none⟩) (by (rw [add_block]; exact hn294_5)) (.int .i64 ((rd_T35 l0 x13_1).f0))).trans hx294_1
                  replace hx294_2 := (cell_far (p := ⟨gb292, 0, none⟩) (by (rw [add_block]; exact hn294_5)) (.int .i64 ((rd_T35 l0 x13_1).f0))).trans hx294_2
                  replace hx294_3 := (cell_far (p := ⟨gb292, 0, none⟩) (by (rw [add_block]; exact hn294_5)) (.int .i64 ((rd_T35 l0 x13_1).f0))).trans hx294_3
                  replace hx294_4 := (cell_far (p := ⟨gb292, 0, none⟩) (by (rw [add_block]; exact hn294_5)) (.int .i64 ((rd_T35 l0 x13_1).f0))).trans hx294_4
                  replace hx294_0 := (cell_far (p := ⟨gb292, 1, none⟩) (by (rw [add_block]; exact hn294_6)) (.int .i64 ((rd_T35 l0 x13_1).f1.f0))).trans hx294_0
                  replace hx294_1 := (cell_far (p := ⟨gb292, 1, none⟩) (by (rw [add_block]; exact hn294_6)) (.int .i64 ((rd_T35 l0 x13_1).f1.f0))).trans hx294_1
                  replace hx294_2 := (cell_far (p := ⟨gb292, 1, none⟩) (by (rw [add_block]; exact hn294_6)) (.int .i64 ((rd_T35 l0 x13_1).f1.f0))).trans hx294_2
                  replace hx294_3 := (cell_far (p := ⟨gb292, 1, none⟩) (by (rw [add_block]; exact hn294_6)) (.int .i64 ((rd_T35 l0 x13_1).f1.f0))).trans hx294_3
                  replace hx294_4 := (cell_far (p := ⟨gb292, 1, none⟩) (by (rw [add_block]; exact hn294_6)) (.int .i64 ((rd_T35 l0 x13_1).f1.f0))).trans hx294_4
                  replace hx294_0 := (cell_far (p := ⟨gb292, 2, none⟩) (by (rw [add_block]; exact hn294_7)) (.int .i64 ((rd_T35 l0 x13_1).f1.f1))).trans hx294_0
                  replace hx294_1 := (cell_far (p := ⟨gb292, 2, none⟩) (by (rw [add_block]; exact hn294_7)) (.int .i64 ((rd_T35 l0 x13_1).f1.f1))).trans hx294_1
                  replace hx294_2 := (cell_far (p := ⟨gb292, 2, none⟩) (by (rw [add_block]; exact hn294_7)) (.int .i64 ((rd_T35 l0 x13_1).f1.f1))).trans hx294_2
                  replace hx294_3 := (cell_far (p := ⟨gb292, 2, none⟩) (by (rw [add_block]; exact hn294_7)) (.int .i64 ((rd_T35 l0 x13_1).f1.f1))).trans hx294_3
                  replace hx294_4 := (cell_far (p := ⟨gb292, 2, none⟩) (by (rw [add_block]; exact hn294_7)) (.int .i64 ((rd_T35 l0 x13_1).f1.f1))).trans hx294_4
                  replace hx294_0 := (cell_far (p := ⟨gb292, 3, none⟩) (by (rw [add_block]; exact hn294_8)) (.int .i64 ((rd_T35 l0 x13_1).f2.f0))).trans hx294_0
                  replace hx294_1 := (cell_far (p := ⟨gb292, 3, none⟩) (by (rw [add_block]; exact hn294_8)) (.int .i64 ((rd_T35 l0 x13_1).f2.f0))).trans hx294_1
                  replace hx294_2 := (cell_far (p := ⟨gb292, 3, none⟩) (by (rw [add_block]; exact hn294_8)) (.int .i64 ((rd_T35 l0 x13_1).f2.f0))).trans hx294_2
                  replace hx294_3 := (cell_far (p := ⟨gb292, 3, none⟩) (by (rw [add_block]; exact hn294_8)) (.int .i64 ((rd_T35 l0 x13_1).f2.f0))).trans hx294_3
                  replace hx294_4 := (cell_far (p := ⟨gb292, 3, none⟩) (by (rw [add_block]; exact hn294_8)) (.int .i64 ((rd_T35 l0 x13_1).f2.f0))).trans hx294_4
                  replace hx294_0 := (cell_far (p := ⟨gb292, 4, none⟩) (by (rw [add_block]; exact hn294_9)) (.int .i64 ((rd_T35 l0 x13_1).f2.f1))).trans hx294_0
                  replace hx294_1 := (cell_far (p := ⟨gb292, 4, none⟩) (by (rw [add_block]; exact hn294_9)) (.int .i64 ((rd_T35 l0 x13_1).f2.f1))).trans hx294_1
                  replace hx294_2 := (cell_far (p := ⟨gb292, 4, none⟩) (by (rw [add_block]; exact hn294_9)) (.int .i64 ((rd_T35 l0 x13_1).f2.f1))).trans hx294_2
                  replace hx294_3 := (cell_far (p := ⟨gb292, 4, none⟩) (by (rw [add_block]; exact hn294_9)) (.int .i64 ((rd_T35 l0 x13_1).f2.f1))).trans hx294_3
                  replace hx294_4 := (cell_far (p := ⟨gb292, 4, none⟩) (by (rw [add_block]; exact hn294_9)) (.int .i64 ((rd_T35 l0 x13_1).f2.f1))).trans hx294_4
                  clear hn294_0
                  clear hn294_1
                  clear hn294_2
                  clear hn294_3
                  clear hn294_4
                  clear hn294_5
                  clear hn294_6
                  clear hn294_7
                  clear hn294_8
                  clear hn294_9
                  replace p294 := eq_true p294
                  replace q294 := eq_true q294
                  go_wp2
                  go_meet
                  case rel => exact ⟨_, (decide (a2 ≤ ((rd_T35 l0 x13_1).f2.f1))), (by rfl), H', ⟨by have := HK1.out; omega⟩, ⟨by (with_reducible repeat (fail)); exact Kd.R_mono (Kd.R_far (p := ⟨gb292, 4, none⟩) (Kd.R_far (p := ⟨gb292, 3, none⟩) (Kd.R_far (p := ⟨gb292, 2, none⟩) (Kd.R_far (p := ⟨gb292, 1, none⟩) (Kd.R_far (p := ⟨gb292, 0, none⟩) (Kd.R_far (p := ⟨gb291, 4, none⟩) (Kd.R_far (p := ⟨gb291, 3, none⟩) (Kd.R_far (p := ⟨gb291, 2, none⟩) (Kd.R_far (p := ⟨gb291, 1, none⟩) (Kd.R_far (p := ⟨gb291, 0, none⟩) (Kd.R_mono (Kd.R_mono HO_12.out (fun k_ hk => (⟨hk, hk.1⟩ : _ ∧ k_ ≠ gb291))) (fun k_ hk => (⟨hk, hk.1.2⟩ : _ ∧ k_ ≠ gb292))) (fun _ hk => hk.1.2) (.int .i64 ((rd_T35 l0 x13_1).f0))) (fun _ hk => hk.1.2) (.int .i64 ((rd_T35 l0 x13_1).f1.f0))) (fun _ hk => hk.1.2) (.int .i64 ((rd_T35 l0 x13_1).f1.f1))) (fun _ hk => hk.1.2) (.int .i64 ((rd_T35 l0 x13_1).f2.f0))) (fun _ hk => hk.1.2) (.int .i64 ((rd_T35 l0 x13_1).f2.f1))) (fun _ hk => hk.2) (.int .i64 ((rd_T35 l0 x13_1).f0))) (fun _ hk => hk.2) (.int .i64 ((rd_T35 l0 x13_1).f1.f0))) (fun _ hk => hk.2) (.int .i64 ((rd_T35 l0 x13_1).f1.f1))) (fun _ hk => hk.2) (.int .i64 ((rd_T35 l0 x13_1).f2.f0))) (fun _ hk => hk.2) (.int .i64 ((rd_T35 l0 x13_1).f2.f1))) (fun _ hk => ⟨hk.1.1.1, hk.1.1.2⟩)⟩, ⟨by (with_reducible repeat (fail)); refine blk_far ?_ NB291_292.out _; (with_reducible repeat (fail)); refine blk_far ?_ NB291_292.out _; (with_reducible repeat (fail)); refine blk_far ?_ NB291_292.out _; (with_reducible repeat (fail)); refine blk_far ?_ NB291_292.out _; (with_reducible repeat (fail)); refine blk_far ?_ NB291_292.out _; (with_reducible repeat (fail)); refine blk_put (cs := #[.int .i64 ((rd_T35 l0 x13_1).f0), .int .i64 ((rd_T35 l0 x13_1).f1.f0), .int .i64 ((rd_T35 l0 x13_1).f1.f1), .int .i64 ((rd_T35 l0 x13_1).f2.f0), .int .i64 0]) ?_ 4 _ rfl; (with_reducible repeat (fail)); refine blk_put (cs := #[.int .i64 ((rd_T35 l0 x13_1).f0), .int .i64 ((rd_T35 l0 x13_1).f1.f0), .int .i64 ((rd_T35 l0 x13_1).f1.f1), .int .i64 0, .int .i64 0]) ?_ 3 _ rfl; (with_reducible repeat (fail)); refine blk_put (cs := #[.int .i64 ((rd_T35 l0 x13_1).f0), .int .i64 ((rd_T35 l0 x13_1).f1.f0), .int .i64 0, .int .i64 0, .int .i64 0]) ?_ 2 _ rfl; (with_reducible repeat (fail)); refine blk_put (cs := #[.int .i64 ((rd_T35 l0 x13_1).f0), .int .i64 0, .int .i64 0, .int .i64 0, .int .i64 0]) ?_ 1 _ rfl; (with_reducible repeat (fail)); refine blk_put (cs := #[.int .i64 0, .int .i64 0, .int .i64 0, .int .i64 0, .int .i64 0]) ?_ 0 _ rfl; (with_reducible repeat (fail)); exact BK291.out⟩, ⟨by (with_reducible repeat (fail)); refine blk_put (cs := #[.int .i64 ((rd_T35 l0 x13_1).f0), .int .i64 ((rd_T35 l0 x13_1).f1.f0), .int .i64 ((rd_T35 l0 x13_1).f1.f1), .int .i64 ((rd_T35 l0 x13_1).f2.f0), .int .i64 0]) ?_ 4 _ rfl; (with_reducible repeat (fail)); refine blk_put (cs := #[.int .i64 ((rd_T35 l0 x13_1).f0), .int .i64 ((rd_T35 l0 x13_1).f1.f0), .int .i64 ((rd_T35 l0 x13_1).f1.f1), .int .i64 0, .int .i64 0]) ?_ 3 _ rfl; (with_reducible repeat (fail)); refine blk_put (cs := #[.int .i64 ((rd_T35 l0 x13_1).f0), .int .i64 ((rd_T35 l0 x13_1).f1.f0), .int .i64 0, .int .i64 0, .int .i64 0]) ?_ 2 _ rfl; (with_reducible repeat (fail)); refine blk_put (cs := #[.int .i64 ((rd_T35 l0 x13_1).f0), .int .i64 0, .int .i64 0, .int .i64 0, .int .i64 0]) ?_ 1 _ rfl; (with_reducible repeat (fail)); refine blk_put (cs := #[.int .i64 0, .int .i64 0, .int .i64 0, .int .i64 0, .int .i64 0]) ?_ 0 _ rfl; (with_reducible repeat (fail)); refine blk_far ?_ NB292_291.out _; (with_reducible repeat (fail)); refine blk_far ?_ NB292_291.out _; (with_reducible repeat (fail)); refine blk_far ?_ NB292_291.out _; (with_reducible repeat (fail)); refine blk_far ?_ NB292_291.out _; (with_reducible repeat (fail)); refine blk_far ?_ NB292_291.out _; (with_reducible repeat (fail)); exact BK292.out⟩, ⟨by repeat ((with_reducible first | exact HB.out | refine below_set ?_ GE291.out | refine below_set ?_ GE292.out))⟩⟩
                · rw [if_neg c29] at H
                  have c29b0 : decide (((rd_T35 l0 x13_1).f2.f0) < a2) = false := decide_eq_false c29
                  clear c29
                  (skip)
                  have H' := Aside0.mk H
                  clear H
                  have p293 : 0 ≤ (x13_1 : Int) := of_decide_eq_true (by (with_reducible assumption))
                  have q293 : x13_1 < (l0.length : Int) := of_decide_eq_true (by (with_reducible assumption))
                  obtain ⟨ad293, e293, hx293_0, hx293_1, hx293_2, hx293_3, hx293_4⟩ := at_T35 HR0.out x13_1 p293 q293
                  obtain rfl : ad289 = ad293 := (by injection e293)
                  have hn293_0 : ad289.block ≠ gb291 := Nat.ne_of_lt (Nat.lt_of_lt_of_le (by have := World.block_lt_of_cell? _ _ hx293_0; rwa [add_block] at this) GW291.out)
                  have hn293_1 : ad289.block ≠ gb291 := Nat.ne_of_lt (Nat.lt_of_lt_of_le (by have := World.block_lt_of_cell? _ _ hx293_0; rwa [add_block] at this) GW291.out)
                  have hn293_2 : ad289.block ≠ gb291 := Nat.ne_of_lt (Nat.lt_of_lt_of_le (by have := World.block_lt_of_cell? _ _ hx293_0; rwa [add_block] at this) GW291.out)
                  have hn293_3 : ad289.block ≠ gb291 := Nat.ne_of_lt (Nat.lt_of_lt_of_le (by have := World.block_lt_of_cell? _ _ hx293_0; rwa [add_block] at this) GW291.out)
                  have hn293_4 : ad289.block ≠ gb291 := Nat.ne_of_lt (Nat.lt_of_lt_of_le (by have := World.block_lt_of_cell? _ _ hx293_0; rwa [add_block] at this) GW291.out)
                  have hn293_5 : ad289.block ≠ gb292 := Nat.ne_of_lt (Nat.lt_of_lt_of_le (by have := World.block_lt_of_cell? _ _ hx293_0; rwa [add_block] at this) GW292.out)
                  have hn293_6 : ad289.block ≠ gb292 := Nat.ne_of_lt (Nat.lt_of_lt_of_le (by have := World.block_lt_of_cell? _ _ hx293_0; rwa [add_block] at this) GW292.out)
                  have hn293_7 : ad289.block ≠ gb292 := Nat.ne_of_lt (Nat.lt_of_lt_of_le (by have := World.block_lt_of_cell? _ _ hx293_0; rwa [add_block] at this) GW292.out)
                  have hn293_8 : ad289.block ≠ gb292 := Nat.ne_of_lt (Nat.lt_of_lt_of_le (by have := World.block_lt_of_cell? _ _ hx293_0; rwa [add_block] at this) GW292.out)
                  have hn293_9 : ad289.block ≠ gb292 := Nat.ne_of_lt (Nat.lt_of_lt_of_le (by have := World.block_lt_of_cell? _ _ hx293_0; rwa [add_block] at this) GW292.out)
                  replace hx293_0 := (HB.out.cell (World.block_lt_of_cell? w _ hx293_0)).trans hx293_0
                  replace hx293_1 := (HB.out.cell (World.block_lt_of_cell? w _ hx293_1)).trans hx293_1
                  replace hx293_2 := (HB.out.cell (World.block_lt_of_cell? w _ hx293_2)).trans hx293_2
                  replace hx293_3 := (HB.out.cell (World.block_lt_of_cell? w _ hx293_3)).trans hx293_3
                  replace hx293_4 := (HB.out.cell (World.block_lt_of_cell? w _ hx293_4)).trans hx293_4
                  replace hx293_0 := (cell_far (p := ⟨gb291, 0, none⟩) (by (rw [add_block]; exact hn293_0)) (.int .i64 ((rd_T35 l0 x13_1).f0))).trans hx293_0
                  replace hx293_1 := (cell_far (p := ⟨gb291, 0, none⟩) (by (rw [add_block]; exact hn293_0)) (.int .i64 ((rd_T35 l0 x13_1).f0))).trans hx293_1
                  replace hx293_2 := (cell_far (p := ⟨gb291, 0, none⟩) (by (rw [add_block]; exact hn293_0)) (.int .i64 ((rd_T35 l0 x13_1).f0))).trans hx293_2
                  replace hx293_3 := (cell_far (p := ⟨gb291, 0, none⟩) (by (rw [add_block]; exact hn293_0)) (.int .i64 ((rd_T35 l0 x13_1).f0))).trans hx293_3
                  replace hx293_4 := (cell_far (p := ⟨gb291, 0, none⟩) (by (rw [add_block]; exact hn293_0)) (.int .i64 ((rd_T35 l0 x13_1).f0))).trans hx293_4
                  replace hx293_0 := (cell_far (p := ⟨gb291, 1, none⟩) (by (rw [add_block]; exact hn293_1)) (.int .i64 ((rd_T35 l0 x13_1).f1.f0))).trans hx293_0
                  replace hx293_1 := (cell_far (p := ⟨gb291, 1, none⟩) (by (rw [add_block]; exact hn293_1)) (.int .i64 ((rd_T35 l0 x13_1).f1.f0))).trans hx293_1
                  replace hx293_2 := (cell_far (p := ⟨gb291, 1, none⟩) (by (rw [add_block]; exact hn293_1)) (.int .i64 ((rd_T35 l0 x13_1).f1.f0))).trans hx293_2
                  replace hx293_3 := (cell_far (p := ⟨gb291, 1, none⟩) (by (rw [add_block]; exact hn293_1)) (.int .i64 ((rd_T35 l0 x13_1).f1.f0))).trans hx293_3
                  replace hx293_4 := (cell_far (p := ⟨gb291, 1, none⟩) (by (rw [add_block]; exact hn293_1)) (.int .i64 ((rd_T35 l0 x13_1).f1.f0))).trans hx293_4
                  replace hx293_0 := (cell_far (p := ⟨gb291, 2, none⟩) (by (rw [add_block]; exact hn293_2)) (.int .i64 ((rd_T35 l0 x13_1).f1.f1))).trans hx293_0
                  replace hx293_1 := (cell_far (p := ⟨gb291, 2, none⟩) (by (rw [add_block]; exact hn293_2)) (.int .i64 ((rd_T35 l0 x13_1).f1.f1))).trans hx293_1
                  replace hx293_2 := (cell_far (p := ⟨gb291, 2, none⟩) (by (rw [add_block]; exact hn293_2)) (.int .i64 ((rd_T35 l0 x13_1).f1.f1))).trans hx293_2
                  replace hx293_3 := (cell_far (p := ⟨gb291, 2, none⟩) (by (rw [add_block]; exact hn293_2)) (.int .i64 ((rd_T35 l0 x13_1).f1.f1))).trans hx293_3
                  replace hx293_4 := (cell_far (p := ⟨gb291, 2, none⟩) (by (rw [add_block]; exact hn293_2)) (.int .i64 ((rd_T35 l0 x13_1).f1.f1))).trans hx293_4
                  replace hx293_0 := (cell_far (p := ⟨gb291, 3, none⟩) (by (rw [add_block]; exact hn293_3)) (.int .i64 ((rd_T35 l0 x13_1).f2.f0))).trans hx293_0
                  replace hx293_1 := (cell_far (p := ⟨gb291, 3, none⟩) (by (rw [add_block]; exact hn293_3)) (.int .i64 ((rd_T35 l0 x13_1).f2.f0))).trans hx293_1
                  replace hx293_2 := (cell_far (p := ⟨gb291, 3, none⟩) (by (rw [add_block]; exact hn293_3)) (.int .i64 ((rd_T35 l0 x13_1).f2.f0))).trans hx293_2
                  replace hx293_3 := (cell_far (p := ⟨gb291, 3, none⟩) (by (rw [add_block]; exact hn293_3)) (.int .i64 ((rd_T35 l0 x13_1).f2.f0))).trans hx293_3
                  replace hx293_4 := (cell_far (p := ⟨gb291, 3, none⟩) (by (rw [add_block]; exact hn293_3)) (.int .i64 ((rd_T35 l0 x13_1).f2.f0))).trans hx293_4
                  replace hx293_0 := (cell_far (p := ⟨gb291, 4, none⟩) (by (rw [add_block]; exact hn293_4)) (.int .i64 ((rd_T35 l0 x13_1).f2.f1))).trans hx293_0
                  replace hx293_1 := (cell_far (p := ⟨gb291, 4, none⟩) (by (rw [add_block]; exact hn293_4)) (.int .i64 ((rd_T35 l0 x13_1).f2.f1))).trans hx293_1
                  replace hx293_2 := (cell_far (p := ⟨gb291, 4, none⟩) (by (rw [add_block]; exact hn293_4)) (.int .i64 ((rd_T35 l0 x13_1).f2.f1))).trans hx293_2
                  replace hx293_3 := (cell_far (p := ⟨gb291, 4, none⟩) (by (rw [add_block]; exact hn293_4)) (.int .i64 ((rd_T35 l0 x13_1).f2.f1))).trans hx293_3
                  replace hx293_4 := (cell_far (p := ⟨gb291, 4, none⟩) (by (rw [add_block]; exact hn293_4)) (.int .i64 ((rd_T35 l0 x13_1).f2.f1))).trans hx293_4
                  replace hx293_0 := (cell_far (p := ⟨gb292, 0, none⟩) (by (rw [add_block]; exact hn293_5)) (.int .i64 ((rd_T35 l0 x13_1).f0))).trans hx293_0
                  replace hx293_1 := (cell_far (p := ⟨gb292, 0, none⟩) (by (rw [add_block]; exact hn293_5)) (.int .i64 ((rd_T35 l0 x13_1).f0))).trans hx293_1
                  replace hx293_2 := (cell_far (p := ⟨gb292, 0, none⟩) (by (rw [add_block]; exact hn293_5)) (.int .i64 ((rd_T35 l0 x13_1).f0))).trans hx293_2
                  replace hx293_3 := (cell_far (p := ⟨gb292, 0, none⟩) (by (rw [add_block]; exact hn293_5)) (.int .i64 ((rd_T35 l0 x13_1).f0))).trans hx293_3
                  replace hx293_4 := (cell_far (p := ⟨gb292, 0, none⟩) (by (rw [add_block]; exact hn293_5)) (.int .i64 ((rd_T35 l0 x13_1).f0))).trans hx293_4
                  replace hx293_0 := (cell_far (p := ⟨gb292, 1, none⟩) (by (rw [add_block]; exact hn293_6)) (.int .i64 ((rd_T35 l0 x13_1).f1.f0))).trans hx293_0
                  replace hx293_1 := (cell_far (p := ⟨gb292, 1, none⟩) (by (rw [add_block]; exact hn293_6)) (.int .i64 ((rd_T35 l0 x13_1).f1.f0))).trans hx293_1
                  replace hx293_2 := (cell_far (p := ⟨gb292, 1, none⟩) (by (rw [add_block]; exact hn293_6)) (.int .i64 ((rd_T35 l0 x13_1).f1.f0))).trans hx293_2
                  replace hx293_3 := (cell_far (p := ⟨gb292, 1, none⟩) (by (rw [add_block]; exact hn293_6)) (.int .i64 ((rd_T35 l0 x13_1).f1.f0))).trans hx293_3
                  replace hx293_4 := (cell_far (p := ⟨gb292, 1, none⟩) (by (rw [add_block]; exact hn293_6)) (.int .i64 ((rd_T35 l0 x13_1).f1.f0))).trans hx293_4
                  replace hx293_0 := (cell_far (p := ⟨gb292, 2, none⟩) (by (rw [add_block]; exact hn293_7)) (.int .i64 ((rd_T35 l0 x13_1).f1.f1))).trans hx293_0
                  replace hx293_1 := (cell_far (p := ⟨gb292, 2, none⟩) (by (rw [add_block]; exact hn293_7)) (.int .i64 ((rd_T35 l0 x13_1).f1.f1))).trans hx293_1
                  replace hx293_2 := (cell_far (p := ⟨gb292, 2, none⟩) (by (rw [add_block]; exact hn293_7)) (.int .i64 ((rd_T35 l0 x13_1).f1.f1))).trans hx293_2
                  replace hx293_3 := (cell_far (p := ⟨gb292, 2, none⟩) (by (rw [add_block]; exact hn293_7)) (.int .i64 ((rd_T35 l0 x13_1).f1.f1))).trans hx293_3
                  replace hx293_4 := (cell_far (p := ⟨gb292, 2, none⟩) (by (rw [add_block]; exact hn293_7)) (.int .i64 ((rd_T35 l0 x13_1).f1.f1))).trans hx293_4
                  replace hx293_0 := (cell_far (p := ⟨gb292, 3, none⟩) (by (rw [add_block]; exact hn293_8)) (.int .i64 ((rd_T35 l0 x13_1).f2.f0))).trans hx293_0
                  replace hx293_1 := (cell_far (p := ⟨gb292, 3, none⟩) (by (rw [add_block]; exact hn293_8)) (.int .i64 ((rd_T35 l0 x13_1).f2.f0))).trans hx293_1
                  replace hx293_2 := (cell_far (p := ⟨gb292, 3, none⟩) (by (rw [add_block]; exact hn293_8)) (.int .i64 ((rd_T35 l0 x13_1).f2.f0))).trans hx293_2
                  replace hx293_3 := (cell_far (p := ⟨gb292, 3, none⟩) (by (rw [add_block]; exact hn293_8)) (.int .i64 ((rd_T35 l0 x13_1).f2.f0))).trans hx293_3
                  replace hx293_4 := (cell_far (p := ⟨gb292, 3, none⟩) (by (rw [add_block]; exact hn293_8)) (.int .i64 ((rd_T35 l0 x13_1).f2.f0))).trans hx293_4
                  replace hx293_0 := (cell_far (p := ⟨gb292, 4, none⟩) (by (rw [add_block]; exact hn293_9)) (.int .i64 ((rd_T35 l0 x13_1).f2.f1))).trans hx293_0
                  replace hx293_1 := (cell_far (p := ⟨gb292, 4, none⟩) (by (rw [add_block]; exact hn293_9)) (.int .i64 ((rd_T35 l0 x13_1).f2.f1))).trans hx293_1
                  replace hx293_2 := (cell_far (p := ⟨gb292, 4, none⟩) (by (rw [add_block]; exact hn293_9)) (.int .i64 ((rd_T35 l0 x13_1).f2.f1))).trans hx293_2
                  replace hx293_3 := (cell_far (p := ⟨gb292, 4, none⟩) (by (rw [add_block]; exact hn293_9)) (.int .i64 ((rd_T35 l0 x13_1).f2.f1))).trans hx293_3
                  replace hx293_4 := (cell_far (p := ⟨gb292, 4, none⟩) (by (rw [add_block]; exact hn293_9)) (.int .i64 ((rd_T35 l0 x13_1).f2.f1))).trans hx293_4
                  clear hn293_0
                  clear hn293_1
                  clear hn293_2
                  clear hn293_3
                  clear hn293_4
                  clear hn293_5
                  clear hn293_6
                  clear hn293_7
                  clear hn293_8
                  clear hn293_9
                  replace p293 := eq_true p293
                  replace q293 := eq_true q293
                  go_wp2
                  go_meet
                  case rel => exact ⟨_, (false), (by rfl), H', ⟨by have := HK1.out; omega⟩, ⟨by (with_reducible repeat (fail)); exact Kd.R_mono (Kd.R_far (p := ⟨gb292, 4, none⟩) (Kd.R_far (p := ⟨gb292, 3, none⟩) (Kd.R_far (p := ⟨gb292, 2, none⟩) (Kd.R_far (p := ⟨gb292, 1, none⟩) (Kd.R_far (p := ⟨gb292, 0, none⟩) (Kd.R_far (p := ⟨gb291, 4, none⟩) (Kd.R_far (p := ⟨gb291, 3, none⟩) (Kd.R_far (p := ⟨gb291, 2, none⟩) (Kd.R_far (p := ⟨gb291, 1, none⟩) (Kd.R_far (p := ⟨gb291, 0, none⟩) (Kd.R_mono (Kd.R_mono HO_12.out (fun k_ hk => (⟨hk, hk.1⟩ : _ ∧ k_ ≠ gb291))) (fun k_ hk => (⟨hk, hk.1.2⟩ : _ ∧ k_ ≠ gb292))) (fun _ hk => hk.1.2) (.int .i64 ((rd_T35 l0 x13_1).f0))) (fun _ hk => hk.1.2) (.int .i64 ((rd_T35 l0 x13_1).f1.f0))) (fun _ hk => hk.1.2) (.int .i64 ((rd_T35 l0 x13_1).f1.f1))) (fun _ hk => hk.1.2) (.int .i64 ((rd_T35 l0 x13_1).f2.f0))) (fun _ hk => hk.1.2) (.int .i64 ((rd_T35 l0 x13_1).f2.f1))) (fun _ hk => hk.2) (.int .i64 ((rd_T35 l0 x13_1).f0))) (fun _ hk => hk.2) (.int .i64 ((rd_T35 l0 x13_1).f1.f0))) (fun _ hk => hk.2) (.int .i64 ((rd_T35 l0 x13_1).f1.f1))) (fun _ hk => hk.2) (.int .i64 ((rd_T35 l0 x13_1).f2.f0))) (fun _ hk => hk.2) (.int .i64 ((rd_T35 l0 x13_1).f2.f1))) (fun _ hk => ⟨hk.1.1.1, hk.1.1.2⟩)⟩, ⟨by (with_reducible repeat (fail)); refine blk_far ?_ NB291_292.out _; (with_reducible repeat (fail)); refine blk_far ?_ NB291_292.out _; (with_reducible repeat (fail)); refine blk_far ?_ NB291_292.out _; (with_reducible repeat (fail)); refine blk_far ?_ NB291_292.out _; (with_reducible repeat (fail)); refine blk_far ?_ NB291_292.out _; (with_reducible repeat (fail)); refine blk_put (cs := #[.int .i64 ((rd_T35 l0 x13_1).f0), .int .i64 ((rd_T35 l0 x13_1).f1.f0), .int .i64 ((rd_T35 l0 x13_1).f1.f1), .int .i64 ((rd_T35 l0 x13_1).f2.f0), .int .i64 0]) ?_ 4 _ rfl; (with_reducible repeat (fail)); refine blk_put (cs := #[.int .i64 ((rd_T35 l0 x13_1).f0), .int .i64 ((rd_T35 l0 x13_1).f1.f0), .int .i64 ((rd_T35 l0 x13_1).f1.f1), .int .i64 0, .int .i64 0]) ?_ 3 _ rfl; (with_reducible repeat (fail)); refine blk_put (cs := #[.int .i64 ((rd_T35 l0 x13_1).f0), .int .i64 ((rd_T35 l0 x13_1).f1.f0), .int .i64 0, .int .i64 0, .int .i64 0]) ?_ 2 _ rfl; (with_reducible repeat (fail)); refine blk_put (cs := #[.int .i64 ((rd_T35 l0 x13_1).f0), .int .i64 0, .int .i64 0, .int .i64 0, .int .i64 0]) ?_ 1 _ rfl; (with_reducible repeat (fail)); refine blk_put (cs := #[.int .i64 0, .int .i64 0, .int .i64 0, .int .i64 0, .int .i64 0]) ?_ 0 _ rfl; (with_reducible repeat (fail)); exact BK291.out⟩, ⟨by (with_reducible repeat (fail)); refine blk_put (cs := #[.int .i64 ((rd_T35 l0 x13_1).f0), .int .i64 ((rd_T35 l0 x13_1).f1.f0), .int .i64 ((rd_T35 l0 x13_1).f1.f1), .int .i64 ((rd_T35 l0 x13_1).f2.f0), .int .i64 0]) ?_ 4 _ rfl; (with_reducible repeat (fail)); refine blk_put (cs := #[.int .i64 ((rd_T35 l0 x13_1).f0), .int .i64 ((rd_T35 l0 x13_1).f1.f0), .int .i64 ((rd_T35 l0 x13_1).f1.f1), .int .i64 0, .int .i64 0]) ?_ 3 _ rfl; (with_reducible repeat (fail)); refine blk_put (cs := #[.int .i64 ((rd_T35 l0 x13_1).f0), .int .i64 ((rd_T35 l0 x13_1).f1.f0), .int .i64 0, .int .i64 0, .int .i64 0]) ?_ 2 _ rfl; (with_reducible repeat (fail)); refine blk_put (cs := #[.int .i64 ((rd_T35 l0 x13_1).f0), .int .i64 0, .int .i64 0, .int .i64 0, .int .i64 0]) ?_ 1 _ rfl; (with_reducible repeat (fail)); refine blk_put (cs := #[.int .i64 0, .int .i64 0, .int .i64 0, .int .i64 0, .int .i64 0]) ?_ 0 _ rfl; (with_reducible repeat (fail)); refine blk_far ?_ NB292_291.out _; (with_reducible repeat (fail)); refine blk_far ?_ NB292_291.out _; (with_reducible repeat (fail)); refine blk_far ?_ NB292_291.out _; (with_reducible repeat (fail)); refine blk_far ?_ NB292_291.out _; (with_reducible repeat (fail)); refine blk_far ?_ NB292_291.out _; (with_reducible repeat (fail)); exact BK292.out⟩, ⟨by repeat ((with_reducible first | exact HB.out | refine below_set ?_ GE291.out | refine below_set ?_ GE292.out))⟩⟩
              case rest =>
                clear HC14
                try clear c11b0
                try clear c12b0
                try clear c13b0
                try clear hx289_0
                try clear hx289_1
                try clear hx289_2
                try clear hx289_3
                try clear hx289_4
                try clear hx290_0
                try clear hx290_1
                try clear hx290_2
                try clear hx290_3
                try clear hx290_4
                try clear p289
                try clear p290
                try clear q289
                try clear q290
                obtain ⟨kq, x64_13, rfl, HA, HJ13, HO_12, BK291, BK292, HB⟩ := hcut
                cases kq with
                | zero => exact absurd HA.out (by simp [formelaw03_ZoneOne.j1])
                | succ kj13 =>
                  have H := HA.out
                  clear HA
                  simp only [formelaw03_ZoneOne.j1] at H
                  by_cases c30 : x64_13 = true
                  · subst c30
                    have H1 : ((some (([(⟨((rd_T35 l0 x13_1).f0), (⟨((rd_T35 l0 x13_1).f1.f0), ((rd_T35 l0 x13_1).f1.f1)⟩ : S33), (⟨a2, ((rd_T35 l0 x13_1).f2.f1)⟩ : S33)⟩ : S35), (⟨((rd_T35 l0 x13_1).f0), (⟨((rd_T35 l0 x13_1).f1.f0), ((rd_T35 l0 x13_1).f1.f1)⟩ : S33), (⟨((rd_T35 l0 x13_1).f2.f0), wrap64 (a2 - 1)⟩ : S33)⟩ : S35)] : List (S35)) : List (S35))).bind fun y295 => (if x12_1.length + y295.length < 3518437208883 then (formelaw03_ZoneOne.l0 kj13 l0 l1 a2 a3 a4 t287 (x12_1 ++ y295) (wrap64 (x13_1 - 1))) else (none))) = some r := by rw [if_pos rfl] at H; exact H
                    clear H
                    have H := H1
                    clear H1
                    obtain ⟨y295, hy295⟩ : ∃ y_ : List (S35), y_ = (([(⟨((rd_T35 l0 x13_1).f0), (⟨((rd_T35 l0 x13_1).f1.f0), ((rd_T35 l0 x13_1).f1.f1)⟩ : S33), (⟨a2, ((rd_T35 l0 x13_1).f2.f1)⟩ : S33)⟩ : S35), (⟨((rd_T35 l0 x13_1).f0), (⟨((rd_T35 l0 x13_1).f1.f0), ((rd_T35 l0 x13_1).f1.f1)⟩ : S33), (⟨((rd_T35 l0 x13_1).f2.f0), wrap64 (a2 - 1)⟩ : S33)⟩ : S35)] : List (S35))) := ⟨_, rfl⟩
                    replace H : (if x12_1.length + y295.length < 3518437208883 then (formelaw03_ZoneOne.l0 kj13 l0 l1 a2 a3 a4 t287 (x12_1 ++ y295) (wrap64 (x13_1 - 1))) else (none)) = some r := by (have H2_ := (Option.bind_some _ _).symm.trans H; rw [hy295]; with_reducible exact H2_)
                    have Ny295 := Aside0.mk hy295
                    clear hy295
                    by_cases c31 : x12_1.length + y295.length < 3518437208883
                    · rw [if_pos c31] at H
                      have LMc31 := Aside0.mk c31
                      clear c31
                      obtain ⟨y298, hy298⟩ : ∃ y_ : List (S35), y_ = (x12_1 ++ y295) := ⟨_, rfl⟩
                      replace H : (formelaw03_ZoneOne.l0 kj13 l0 l1 a2 a3 a4 t287 y298 (wrap64 (x13_1 - 1))) = some r := by (rw [hy298]; with_reducible exact H)
                      have Ny298 := Aside0.mk hy298
                      clear hy298
                      have H' := Aside0.mk H
                      clear H
                      have hnb32 := NB291_292.out
                      have hnc32 := NB292_291.out
                      have hcz33_0 : wc.cell? ⟨gb291, 0, none⟩ = some (.int .i64 ((rd_T35 l0 x13_1).f0)) := (blk_cell BK291.out 0).trans rfl
                      have hcz33_1 : wc.cell? ⟨gb291, 1, none⟩ = some (.int .i64 ((rd_T35 l0 x13_1).f1.f0)) := (blk_cell BK291.out 1).trans rfl
                      have hcz33_2 : wc.cell? ⟨gb291, 2, none⟩ = some (.int .i64 ((rd_T35 l0 x13_1).f1.f1)) := (blk_cell BK291.out 2).trans rfl
                      have hcz33_3 : wc.cell? ⟨gb291, 3, none⟩ = some (.int .i64 ((rd_T35 l0 x13_1).f2.f0)) := (blk_cell BK291.out 3).trans rfl
                      have hcz33_4 : wc.cell? ⟨gb291, 4, none⟩ = some (.int .i64 ((rd_T35 l0 x13_1).f2.f1)) := (blk_cell BK291.out 4).trans rfl
                      have hfz33_0 := blk_frozen BK291.out 0
                      have hfz33_1 := blk_frozen BK291.out 1
                      have hfz33_2 := blk_frozen BK291.out 2
                      have hfz33_3 := blk_frozen BK291.out 3
                      have hfz33_4 := blk_frozen BK291.out 4
                      have hcz34_0 : wc.cell? ⟨gb292, 0, none⟩ = some (.int .i64 ((rd_T35 l0 x13_1).f0)) := (blk_cell BK292.out 0).trans rfl
                      have hcz34_1 : wc.cell? ⟨gb292, 1, none⟩ = some (.int .i64 ((rd_T35 l0 x13_1).f1.f0)) := (blk_cell BK292.out 1).trans rfl
                      have hcz34_2 : wc.cell? ⟨gb292, 2, none⟩ = some (.int .i64 ((rd_T35 l0 x13_1).f1.f1)) := (blk_cell BK292.out 2).trans rfl
                      have hcz34_3 : wc.cell? ⟨gb292, 3, none⟩ = some (.int .i64 ((rd_T35 l0 x13_1).f2.f0)) := (blk_cell BK292.out 3).trans rfl
                      have hcz34_4 : wc.cell? ⟨gb292, 4, none⟩ = some (.int .i64 ((rd_T35 l0 x13_1).f2.f1)) := (blk_cell BK292.out 4).trans rfl
                      have hfz34_0 := blk_frozen BK292.out 0
                      have hfz34_1 := blk_frozen BK292.out 1
                      have hfz34_2 := blk_frozen BK292.out 2
                      have hfz34_3 := blk_frozen BK292.out 3
                      have hfz34_4 := blk_frozen BK292.out 4
                      go_wp2_with (first | ((with_reducible refine gate_dst (N := 100) rfl ?_); (try (refine gate_guard (by rfl) ?_; dsimp only)); refine Kd.R_lit k35 _ 35 ?hg (N := 100) ?hd (xs := ([(⟨((rd_T35 l0 x13_1).f0), (⟨((rd_T35 l0 x13_1).f1.f0), ((rd_T35 l0 x13_1).f1.f1)⟩ : S33), (⟨a2, ((rd_T35 l0 x13_1).f2.f1)⟩ : S33)⟩ : S35), (⟨((rd_T35 l0 x13_1).f0), (⟨((rd_T35 l0 x13_1).f1.f0), ((rd_T35 l0 x13_1).f1.f1)⟩ : S33), (⟨((rd_T35 l0 x13_1).f2.f0), wrap64 (a2 - 1)⟩ : S33)⟩ : S35)] : List (S35))) (inner := [.int .i64 ((rd_T35 l0 x13_1).f0), .int .i64 ((rd_T35 l0 x13_1).f1.f0), .int .i64 ((rd_T35 l0 x13_1).f1.f1), .int .i64 a2, .int .i64 ((rd_T35 l0 x13_1).f2.f1), .int .i64 ((rd_T35 l0 x13_1).f0), .int .i64 ((rd_T35 l0 x13_1).f1.f0), .int .i64 ((rd_T35 l0 x13_1).f1.f1), .int .i64 ((rd_T35 l0 x13_1).f2.f0), .int .i64 (wrap64 (a2 - 1))]) (ok := fun _ => True) (okp := fun _ => True) ?hr ?hp (fun _ hk => hk) trivial (Below.refl _ _) (Nat.le_refl _) (by simp) ?_; (case hd => rfl); (case hg => rfl); (case hr => (go_simp; done)); (case hp => exact (Reps.c5 (show Kd.M k35 _ _ _ (⟨((rd_T35 l0 x13_1).f0), (⟨((rd_T35 l0 x13_1).f1.f0), ((rd_T35 l0 x13_1).f1.f1)⟩ : S33), (⟨a2, ((rd_T35 l0 x13_1).f2.f1)⟩ : S33)⟩ : S35) [.int .i64 ((rd_T35 l0 x13_1).f0), .int .i64 ((rd_T35 l0 x13_1).f1.f0), .int .i64 ((rd_T35 l0 x13_1).f1.f1), .int .i64 a2, .int .i64 ((rd_T35 l0 x13_1).f2.f1)] from (k35_mkM _ _ _ (⟨((rd_T35 l0 x13_1).f0), (⟨((rd_T35 l0 x13_1).f1.f0), ((rd_T35 l0 x13_1).f1.f1)⟩ : S33), (⟨a2, ((rd_T35 l0 x13_1).f2.f1)⟩ : S33)⟩ : S35) )) (Reps.c5 (show Kd.M k35 _ _ _ (⟨((rd_T35 l0 x13_1).f0), (⟨((rd_T35 l0 x13_1).f1.f0), ((rd_T35 l0 x13_1).f1.f1)⟩ : S33), (⟨((rd_T35 l0 x13_1).f2.f0), wrap64 (a2 - 1)⟩ : S33)⟩ : S35) [.int .i64 ((rd_T35 l0 x13_1).f0), .int .i64 ((rd_T35 l0 x13_1).f1.f0), .int .i64 ((rd_T35 l0 x13_1).f1.f1), .int .i64 ((rd_T35 l0 x13_1).f2.f0), .int .i64 (wrap64 (a2 - 1))] from (k35_mkM _ _ _ (⟨((rd_T35 l0 x13_1).f0), (⟨((rd_T35 l0 x13_1).f1.f0), ((rd_T35 l0 x13_1).f1.f1)⟩ : S33), (⟨((rd_T35 l0 x13_1).f2.f0), wrap64 (a2 - 1)⟩ : S33)⟩ : S35) )) (Reps.none _ _)))); intro v296 w35 ho36 hb hg_ hnew_; clear hg_ hnew_; (rw [← Ny295.out] at ho36); have n0_ := Aside0.mk (Kd.R_elder' (by (with_reducible repeat (fail)); exact (Kd.R_mono (Kd.R_mono (Kd.R_far (p := ⟨gb292, 3, none⟩) (Kd.R_far (p := ⟨gb291, 4, none⟩) (Kd.R_mono (Kd.R_mono HO_12.out (fun k_ hk => (⟨hk, hk.1⟩ : _ ∧ k_ ≠ gb291))) (fun k_ hk => (⟨hk, hk.1.2⟩ : _ ∧ k_ ≠ gb292))) (fun _ hk => hk.1.2) (.int .i64 (wrap64 (a2 - 1)))) (fun _ hk => hk.2) (.int .i64 a2)) (fun _ h_ => h_.1)) (fun _ h_ => h_.1))) (Kd.R_base ho36) hb); have n1_ := Aside0.mk (Kd.R_lower (Kd.R_newB (Kd.R_newB (Kd.R_new' ho36 (Kd.R_lt (by (with_reducible repeat (fail)); exact (Kd.R_mono (Kd.R_mono (Kd.R_far (p := ⟨gb292, 3, none⟩) (Kd.R_far (p := ⟨gb291, 4, none⟩) (Kd.R_mono (Kd.R_mono HO_12.out (fun k_ hk => (⟨hk, hk.1⟩ : _ ∧ k_ ≠ gb291))) (fun k_ hk => (⟨hk, hk.1.2⟩ : _ ∧ k_ ≠ gb292))) (fun _ hk => hk.1.2) (.int .i64 (wrap64 (a2 - 1)))) (fun _ hk => hk.2) (.int .i64 a2)) (fun _ h_ => h_.1)) (fun _ h_ => h_.1))))) (g := gb291) (o := .cells #[.int .i64 ((rd_T35 l0 x13_1).f0), .int .i64 ((rd_T35 l0 x13_1).f1.f0), .int .i64 ((rd_T35 l0 x13_1).f1.f1), .int .i64 ((rd_T35 l0 x13_1).f2.f0), .int .i64 (wrap64 (a2 - 1))] 35 (0, 0)) (by (with_reducible repeat (fail)); refine blk_far ?_ NB291_292.out _; (with_reducible repeat (fail)); refine blk_put (cs := #[.int .i64 ((rd_T35 l0 x13_1).f0), .int .i64 ((rd_T35 l0 x13_1).f1.f0), .int .i64 ((rd_T35 l0 x13_1).f1.f1), .int .i64 ((rd_T35 l0 x13_1).f2.f0), .int .i64 ((rd_T35 l0 x13_1).f2.f1)]) ?_ 4 _ rfl; (with_reducible repeat (fail)); exact BK291.out)) (g := gb292) (o := .cells #[.int .i64 ((rd_T35 l0 x13_1).f0), .int .i64 ((rd_T35 l0 x13_1).f1.f0), .int .i64 ((rd_T35 l0 x13_1).f1.f1), .int .i64 a2, .int .i64 ((rd_T35 l0 x13_1).f2.f1)] 35 (0, 0)) (by (with_reducible repeat (fail)); refine blk_put (cs := #[.int .i64 ((rd_T35 l0 x13_1).f0), .int .i64 ((rd_T35 l0 x13_1).f1.f0), .int .i64 ((rd_T35 l0 x13_1).f1.f1), .int .i64 ((rd_T35 l0 x13_1).f2.f0), .int .i64 ((rd_T35 l0 x13_1).f2.f1)]) ?_ 3 _ rfl; (with_reducible repeat (fail)); refine blk_far ?_ NB292_291.out _; (with_reducible repeat (fail)); exact BK292.out)) (below_size (by repeat ((with_reducible first | exact HB.out | refine below_set ?_ GE291.out | refine below_set ?_ GE292.out))))); have n2_ := Aside0.mk (blk_below (g := gb291) (o := .cells #[.int .i64 ((rd_T35 l0 x13_1).f0), .int .i64 ((rd_T35 l0 x13_1).f1.f0), .int .i64 ((rd_T35 l0 x13_1).f1.f1), .int .i64 ((rd_T35 l0 x13_1).f2.f0), .int .i64 (wrap64 (a2 - 1))] 35 (0, 0)) (by (with_reducible repeat (fail)); refine blk_far ?_ NB291_292.out _; (with_reducible repeat (fail)); refine blk_put (cs := #[.int .i64 ((rd_T35 l0 x13_1).f0), .int .i64 ((rd_T35 l0 x13_1).f1.f0), .int .i64 ((rd_T35 l0 x13_1).f1.f1), .int .i64 ((rd_T35 l0 x13_1).f2.f0), .int .i64 ((rd_T35 l0 x13_1).f2.f1)]) ?_ 4 _ rfl; (with_reducible repeat (fail)); exact BK291.out) hb); have n3_ := Aside0.mk (blk_below (g := gb292) (o := .cells #[.int .i64 ((rd_T35 l0 x13_1).f0), .int .i64 ((rd_T35 l0 x13_1).f1.f0), .int .i64 ((rd_T35 l0 x13_1).f1.f1), .int .i64 a2, .int .i64 ((rd_T35 l0 x13_1).f2.f1)] 35 (0, 0)) (by (with_reducible repeat (fail)); refine blk_put (cs := #[.int .i64 ((rd_T35 l0 x13_1).f0), .int .i64 ((rd_T35 l0 x13_1).f1.f0), .int .i64 ((rd_T35 l0 x13_1).f1.f1), .int .i64 ((rd_T35 l0 x13_1).f2.f0), .int .i64 ((rd_T35 l0 x13_1).f2.f1)]) ?_ 3 _ rfl; (with_reducible repeat (fail)); refine blk_far ?_ NB292_291.out _; (with_reducible repeat (fail)); exact BK292.out) hb); have n4_ := Aside0.mk (below_step (by repeat ((with_reducible first | exact HB.out | refine below_set ?_ GE291.out | refine below_set ?_ GE292.out))) hb); clear HO_12; clear BK291; clear BK292; clear HB; have HO_12 := n0_; have HO297 := n1_; have BK291 := n2_; have BK292 := n3_; have HB := n4_; clear n0_ n1_ n2_ n3_ n4_; clear hb ho36; obtain ⟨Ao38, co38, eo38⟩ := Kd.R_slice HO297.out; subst eo38) | ((with_reducible refine gate_builtin (b := .append) (xs := #[.tmp 97, .tmp 100]) rfl ?_); (try (refine gate_guard (by rfl) ?_; dsimp only)); at_builtin; refine Kd.R_append_rows k35 (w0 := w) w.heap.size rfl (.tmp 97) (.tmp 100) 22 35 (.agg #[(.int .i64 0), (.int .i64 0), (.int .i64 0), (.int .i64 0), (.int .i64 0)]) 40 rfl Try.underlying22 info35 rfl (by decide) (by omega) u12 x12_1 y295 _ _ _ (fun k_ => some k_ ≠ (.slice Ao38 y295.length co38 : Value).ownBlock ∧ k_ ≠ gb291 ∧ k_ ≠ gb292) (fun _ => False) rfl rfl ?aO ?aR (fun _ _ h => h) (fun _ h => h.elim) ?aF ?aB ?aS ?aL ?_; (case aR => repeat (exact (Kd.R_reads' HO297.out).2.2)); (case aB => exact (by repeat ((with_reducible exact HB.out)))); (case aF => exact (fun k_ hk => ⟨Kd.fresh' (Kd.R_lt (by (with_reducible repeat (fail)); exact HO297.out)) k_ hk, Kd.freshB (g := gb291) (o := .cells #[.int .i64 ((rd_T35 l0 x13_1).f0), .int .i64 ((rd_T35 l0 x13_1).f1.f0), .int .i64 ((rd_T35 l0 x13_1).f1.f1), .int .i64 ((rd_T35 l0 x13_1).f2.f0), .int .i64 (wrap64 (a2 - 1))] 35 (0, 0)) (by (with_reducible repeat (fail)); exact BK291.out) k_ hk, Kd.freshB (g := gb292) (o := .cells #[.int .i64 ((rd_T35 l0 x13_1).f0), .int .i64 ((rd_T35 l0 x13_1).f1.f0), .int .i64 ((rd_T35 l0 x13_1).f1.f1), .int .i64 a2, .int .i64 ((rd_T35 l0 x13_1).f2.f1)] 35 (0, 0)) (by (with_reducible repeat (fail)); exact BK292.out) k_ hk⟩)); (case aO => exact (by (with_reducible repeat (fail)); exact Kd.R_mono HO_12.out (fun _ hk => ⟨hk.2, ⟨hk.1.1, hk.1.2⟩⟩))); (case aS => exact (below_size (by repeat ((with_reducible exact HB.out))))); (case aL => have := LMc31.out; omega); intro v299 w37 ho hb hg hat; rw [← Ny298.out] at ho; have n0_ := Aside0.mk (blk_grown (g := gb291) (o := .cells #[.int .i64 ((rd_T35 l0 x13_1).f0), .int .i64 ((rd_T35 l0 x13_1).f1.f0), .int .i64 ((rd_T35 l0 x13_1).f1.f1), .int .i64 ((rd_T35 l0 x13_1).f2.f0), .int .i64 (wrap64 (a2 - 1))] 35 (0, 0)) (by (with_reducible repeat (fail)); exact BK291.out) hg (Kd.R_away HO_12.out (fun _ hk => hk.1.1))); have n1_ := Aside0.mk (blk_grown (g := gb292) (o := .cells #[.int .i64 ((rd_T35 l0 x13_1).f0), .int .i64 ((rd_T35 l0 x13_1).f1.f0), .int .i64 ((rd_T35 l0 x13_1).f1.f1), .int .i64 a2, .int .i64 ((rd_T35 l0 x13_1).f2.f1)] 35 (0, 0)) (by (with_reducible repeat (fail)); exact BK292.out) hg (Kd.R_away HO_12.out (fun _ hk => hk.1.2))); have n2_ := Aside0.mk (Kd.R_after (ok := (fun k_ => k_ ≠ gb291 ∧ k_ ≠ gb292)) (by (with_reducible repeat (fail)); exact Kd.R_mono HO297.out (fun _ hk => ⟨⟨hk.1.2, hk.2⟩, hk.1.1.2⟩)) hg hat); have n3_ := Aside0.mk (hb); have n4_ := Aside0.mk (ho); clear BK291; clear BK292; clear HO297; clear HB; clear HO_12; have BK291 := n0_; have BK292 := n1_; have HO297 := n2_; have HB := n3_; have HO300 := n4_; clear n0_ n1_ n2_ n3_ n4_; clear ho hb hg hat))
                      go_roundg kj13
                      case measure => have := HK1.out; have := HJ13.out; omega
                      case rel => exact ⟨(y298), (wrap64 (x13_1 - 1)), (by rfl), H', ⟨by have := HK1.out; have := HJ13.out; omega⟩, ⟨by (with_reducible repeat (fail)); exact Kd.R_mono HO300.out (fun _ hk => trivial)⟩, ⟨by repeat ((with_reducible exact HB.out))⟩⟩
                    · rw [if_neg c31] at H
                      exact absurd H (by simp)
                  · replace c30 := Bool.eq_false_iff.mpr c30
                    subst c30
                    have H1 : (if 0 ≤ x13_1 then (if x13_1 < (l0.length : Int) then (if ((rd_T35 l0 x13_1).f1.f0) < a3 then (if a3 ≤ ((rd_T35 l0 x13_1).f1.f1) then ((some (([(⟨((rd_T35 l0 x13_1).f0), (⟨a3, ((rd_T35 l0 x13_1).f1.f1)⟩ : S33), (⟨((rd_T35 l0 x13_1).f2.f0), ((rd_T35 l0 x13_1).f2.f1)⟩ : S33)⟩ : S35), (⟨((rd_T35 l0 x13_1).f0), (⟨((rd_T35 l0 x13_1).f1.f0), wrap64 (a3 - 1)⟩ : S33), (⟨((rd_T35 l0 x13_1).f2.f0), ((rd_T35 l0 x13_1).f2.f1)⟩ : S33)⟩ : S35)] : List (S35)) : List (S35))).bind fun y303 => (if x12_1.length + y303.length < 3518437208883 then (formelaw03_ZoneOne.l0 kj13 l0 l1 a2 a3 a4 t287 (x12_1 ++ y303) (wrap64 (x13_1 - 1))) else (none))) else ((some (([(⟨((rd_T35 l0 x13_1).f0), (⟨((rd_T35 l0 x13_1).f1.f0), ((rd_T35 l0 x13_1).f1.f1)⟩ : S33), (⟨((rd_T35 l0 x13_1).f2.f0), ((rd_T35 l0 x13_1).f2.f1)⟩ : S33)⟩ : S35), (⟨((rd_T35 l0 x13_1).f0), (⟨((rd_T35 l0 x13_1).f1.f0), ((rd_T35 l0 x13_1).f1.f1)⟩ : S33), (⟨((rd_T35 l0 x13_1).f2.f0), ((rd_T35 l0 x13_1).f2.f1)⟩ : S33)⟩ : S35)] : List (S35)) : List (S35))).bind fun y309 => (if x12_1.length + y309.length < 3518437208883 then (formelaw03_ZoneOne.l0 kj13 l0 l1 a2 a3 a4 t287 (x12_1 ++ y309) (wrap64 (x13_1 - 1))) else (none)))) else ((some (([(⟨((rd_T35 l0 x13_1).f0), (⟨((rd_T35 l0 x13_1).f1.f0), ((rd_T35 l0 x13_1).f1.f1)⟩ : S33), (⟨((rd_T35 l0 x13_1).f2.f0), ((rd_T35 l0 x13_1).f2.f1)⟩ : S33)⟩ : S35), (⟨((rd_T35 l0 x13_1).f0), (⟨((rd_T35 l0 x13_1).f1.f0), ((rd_T35 l0 x13_1).f1.f1)⟩ : S33), (⟨((rd_T35 l0 x13_1).f2.f0), ((rd_T35 l0 x13_1).f2.f1)⟩ : S33)⟩ : S35)] : List (S35)) : List (S35))).bind fun y315 => (if x12_1.length + y315.length < 3518437208883 then (formelaw03_ZoneOne.l0 kj13 l0 l1 a2 a3 a4 t287 (x12_1 ++ y315) (wrap64 (x13_1 - 1))) else (none)))) else (none)) else (none)) = some r := by rw [if_neg (show ¬ (false = true) by decide)] at H; exact H
                    clear H
                    have H := H1
                    clear H1
                    by_cases c39 : 0 ≤ x13_1
                    · rw [if_pos c39] at H
                      have c39b0 : decide (0 ≤ x13_1) = true := decide_eq_true c39
                      clear c39
                      by_cases c40 : x13_1 < (l0.length : Int)
                      · rw [if_pos c40] at H
                        have c40b0 : decide (x13_1 < (l0.length : Int)) = true := decide_eq_true c40
                        clear c40
                        by_cases c41 : ((rd_T35 l0 x13_1).f1.f0) < a3
                        · rw [if_pos c41] at H
                          have c41b0 : decide (((rd_T35 l0 x13_1).f1.f0) < a3) = true := decide_eq_true c41
                          clear c41
                          by_cases c42 : a3 ≤ ((rd_T35 l0 x13_1).f1.f1)
                          · rw [if_pos c42] at H
                            have c42b0 : decide (a3 ≤ ((rd_T35 l0 x13_1).f1.f1)) = true := decide_eq_true c42
                            clear c42
                            obtain ⟨y303, hy303⟩ : ∃ y_ : List (S35), y_ = (([(⟨((rd_T35 l0 x13_1).f0), (⟨a3, ((rd_T35 l0 x13_1).f1.f1)⟩ : S33), (⟨((rd_T35 l0 x13_1).f2.f0), ((rd_T35 l0 x13_1).f2.f1)⟩ : S33)⟩ : S35), (⟨((rd_T35 l0 x13_1).f0), (⟨((rd_T35 l0 x13_1).f1.f0), wrap64 (a3 - 1)⟩ : S33), (⟨((rd_T35 l0 x13_1).f2.f0), ((rd_T35 l0 x13_1).f2.f1)⟩ : S33)⟩ : S35)] : List (S35))) := ⟨_, rfl⟩
                            replace H : (if x12_1.length + y303.length < 3518437208883 then (formelaw03_ZoneOne.l0 kj13 l0 l1 a2 a3 a4 t287 (x12_1 ++ y303) (wrap64 (x13_1 - 1))) else (none)) = some r := by (have H2_ := (Option.bind_some _ _).symm.trans H; rw [hy303]; with_reducible exact H2_)
                            have Ny303 := Aside0.mk hy303
                            clear hy303
                            by_cases c43 : x12_1.length + y303.length < 3518437208883
                            · rw [if_pos c43] at H
                              have LMc43 := Aside0.mk c43
                              clear c43
                              obtain ⟨y306, hy306⟩ : ∃ y_ : List (S35), y_ = (x12_1 ++ y303) := ⟨_, rfl⟩
                              replace H : (formelaw03_ZoneOne.l0 kj13 l0 l1 a2 a3 a4 t287 y306 (wrap64 (x13_1 - 1))) = some r := by (rw [hy306]; with_reducible exact H)
                              have Ny306 := Aside0.mk hy306
                              clear hy306
                              have H' := Aside0.mk H
                              clear H
                              have p301 : 0 ≤ (x13_1 : Int) := of_decide_eq_true (by (with_reducible assumption))
                              have q301 : x13_1 < (l0.length : Int) := of_decide_eq_true (by (with_reducible assumption))
                              obtain ⟨ad301, e301, hx301_0, hx301_1, hx301_2, hx301_3, hx301_4⟩ := at_T35 HR0.out x13_1 p301 q301
                              obtain rfl : ad289 = ad301 := (by injection e301)
                              replace hx301_0 := (HB.out.cell (World.block_lt_of_cell? w _ hx301_0)).trans hx301_0
                              replace hx301_1 := (HB.out.cell (World.block_lt_of_cell? w _ hx301_1)).trans hx301_1
                              replace hx301_2 := (HB.out.cell (World.block_lt_of_cell? w _ hx301_2)).trans hx301_2
                              replace hx301_3 := (HB.out.cell (World.block_lt_of_cell? w _ hx301_3)).trans hx301_3
                              replace hx301_4 := (HB.out.cell (World.block_lt_of_cell? w _ hx301_4)).trans hx301_4
                              replace p301 := eq_true p301
                              replace q301 := eq_true q301
                              have p302 : 0 ≤ (x13_1 : Int) := of_decide_eq_true (by (with_reducible assumption))
                              have q302 : x13_1 < (l0.length : Int) := of_decide_eq_true (by (with_reducible assumption))
                              obtain ⟨ad302, e302, hx302_0, hx302_1, hx302_2, hx302_3, hx302_4⟩ := at_T35 HR0.out x13_1 p302 q302
                              obtain rfl : ad289 = ad302 := (by injection e302)
                              replace hx302_0 := (HB.out.cell (World.block_lt_of_cell? w _ hx302_0)).trans hx302_0
                              replace hx302_1 := (HB.out.cell (World.block_lt_of_cell? w _ hx302_1)).trans hx302_1
                              replace hx302_2 := (HB.out.cell (World.block_lt_of_cell? w _ hx302_2)).trans hx302_2
                              replace hx302_3 := (HB.out.cell (World.block_lt_of_cell? w _ hx302_3)).trans hx302_3
                              replace hx302_4 := (HB.out.cell (World.block_lt_of_cell? w _ hx302_4)).trans hx302_4
                              replace p302 := eq_true p302
                              replace q302 := eq_true q302
                              have hnb44 := NB291_292.out
                              have hnc44 := NB292_291.out
                              have hcz45_0 : wc.cell? ⟨gb291, 0, none⟩ = some (.int .i64 ((rd_T35 l0 x13_1).f0)) := (blk_cell BK291.out 0).trans rfl
                              have hcz45_1 : wc.cell? ⟨gb291, 1, none⟩ = some (.int .i64 ((rd_T35 l0 x13_1).f1.f0)) := (blk_cell BK291.out 1).trans rfl
                              have hcz45_2 : wc.cell? ⟨gb291, 2, none⟩ = some (.int .i64 ((rd_T35 l0 x13_1).f1.f1)) := (blk_cell BK291.out 2).trans rfl
                              have hcz45_3 : wc.cell? ⟨gb291, 3, none⟩ = some (.int .i64 ((rd_T35 l0 x13_1).f2.f0)) := (blk_cell BK291.out 3).trans rfl
                              have hcz45_4 : wc.cell? ⟨gb291, 4, none⟩ = some (.int .i64 ((rd_T35 l0 x13_1).f2.f1)) := (blk_cell BK291.out 4).trans rfl
                              have hfz45_0 := blk_frozen BK291.out 0
                              have hfz45_1 := blk_frozen BK291.out 1
                              have hfz45_2 := blk_frozen BK291.out 2
                              have hfz45_3 := blk_frozen BK291.out 3
                              have hfz45_4 := blk_frozen BK291.out 4
                              have hcz46_0 : wc.cell? ⟨gb292, 0, none⟩ = some (.int .i64 ((rd_T35 l0 x13_1).f0)) := (blk_cell BK292.out 0).trans rfl
                              have hcz46_1 : wc.cell? ⟨gb292, 1, none⟩ = some (.int .i64 ((rd_T35 l0 x13_1).f1.f0)) := (blk_cell BK292.out 1).trans rfl
                              have hcz46_2 : wc.cell? ⟨gb292, 2, none⟩ = some (.int .i64 ((rd_T35 l0 x13_1).f1.f1)) := (blk_cell BK292.out 2).trans rfl
                              have hcz46_3 : wc.cell? ⟨gb292, 3, none⟩ = some (.int .i64 ((rd_T35 l0 x13_1).f2.f0)) := (blk_cell BK292.out 3).trans rfl
                              have hcz46_4 : wc.cell? ⟨gb292, 4, none⟩ = some (.int .i64 ((rd_T35 l0 x13_1).f2.f1)) := (blk_cell BK292.out 4).trans rfl
                              have hfz46_0 := blk_frozen BK292.out 0
                              have hfz46_1 := blk_frozen BK292.out 1
                              have hfz46_2 := blk_frozen BK292.out 2
                              have hfz46_3 := blk_frozen BK292.out 3
                              have hfz46_4 := blk_frozen BK292.out 4
                              go_wp2_with (first | ((with_reducible refine gate_dst (N := 100) rfl ?_); (try (refine gate_guard (by rfl) ?_; dsimp only)); refine Kd.R_lit k35 _ 35 ?hg (N := 100) ?hd (xs := ([(⟨((rd_T35 l0 x13_1).f0), (⟨a3, ((rd_T35 l0 x13_1).f1.f1)⟩ : S33), (⟨((rd_T35 l0 x13_1).f2.f0), ((rd_T35 l0 x13_1).f2.f1)⟩ : S33)⟩ : S35), (⟨((rd_T35 l0 x13_1).f0), (⟨((rd_T35 l0 x13_1).f1.f0), wrap64 (a3 - 1)⟩ : S33), (⟨((rd_T35 l0 x13_1).f2.f0), ((rd_T35 l0 x13_1).f2.f1)⟩ : S33)⟩ : S35)] : List (S35))) (inner := [.int .i64 ((rd_T35 l0 x13_1).f0), .int .i64 a3, .int .i64 ((rd_T35 l0 x13_1).f1.f1), .int .i64 ((rd_T35 l0 x13_1).f2.f0), .int .i64 ((rd_T35 l0 x13_1).f2.f1), .int .i64 ((rd_T35 l0 x13_1).f0), .int .i64 ((rd_T35 l0 x13_1).f1.f0), .int .i64 (wrap64 (a3 - 1)), .int .i64 ((rd_T35 l0 x13_1).f2.f0), .int .i64 ((rd_T35 l0 x13_1).f2.f1)]) (ok := fun _ => True) (okp := fun _ => True) ?hr ?hp (fun _ hk => hk) trivial (Below.refl _ _) (Nat.le_refl _) (by simp) ?_; (case hd => rfl); (case hg => rfl); (case hr => (go_simp; done)); (case hp => exact (Reps.c5 (show Kd.M k35 _ _ _ (⟨((rd_T35 l0 x13_1).f0), (⟨a3, ((rd_T35 l0 x13_1).f1.f1)⟩ : S33), (⟨((rd_T35 l0 x13_1).f2.f0), ((rd_T35 l0 x13_1).f2.f1)⟩ : S33)⟩ : S35) [.int .i64 ((rd_T35 l0 x13_1).f0), .int .i64 a3, .int .i64 ((rd_T35 l0 x13_1).f1.f1), .int .i64 ((rd_T35 l0 x13_1).f2.f0), .int .i64 ((rd_T35 l0 x13_1).f2.f1)] from (k35_mkM _ _ _ (⟨((rd_T35 l0 x13_1).f0), (⟨a3, ((rd_T35 l0 x13_1).f1.f1)⟩ : S33), (⟨((rd_T35 l0 x13_1).f2.f0), ((rd_T35 l0 x13_1).f2.f1)⟩ : S33)⟩ : S35) )) (Reps.c5 (show Kd.M k35 _ _ _ (⟨((rd_T35 l0 x13_1).f0), (⟨((rd_T35 l0 x13_1).f1.f0), wrap64 (a3 - 1)⟩ : S33), (⟨((rd_T35 l0 x13_1).f2.f0), ((rd_T35 l0 x13_1).f2.f1)⟩ : S33)⟩ : S35) [.int .i64 ((rd_T35 l0 x13_1).f0), .int .i64 ((rd_T35 l0 x13_1).f1.f0), .int .i64 (wrap64 (a3 - 1)), .int .i64 ((rd_T35 l0 x13_1).f2.f0), .int .i64 ((rd_T35 l0 x13_1).f2.f1)] from (k35_mkM _ _ _ (⟨((rd_T35 l0 x13_1).f0), (⟨((rd_T35 l0 x13_1).f1.f0), wrap64 (a3 - 1)⟩ : S33), (⟨((rd_T35 l0 x13_1).f2.f0), ((rd_T35 l0 x13_1).f2.f1)⟩ : S33)⟩ : S35) )) (Reps.none _ _)))); intro v304 w47 ho48 hb hg_ hnew_; clear hg_ hnew_; (rw [← Ny303.out] at ho48); have n0_ := Aside0.mk (Kd.R_elder' (by (with_reducible repeat (fail)); exact (Kd.R_mono (Kd.R_mono (Kd.R_far (p := ⟨gb292, 1, none⟩) (Kd.R_far (p := ⟨gb291, 2, none⟩) (Kd.R_mono (Kd.R_mono HO_12.out (fun k_ hk => (⟨hk, hk.1⟩ : _ ∧ k_ ≠ gb291))) (fun k_ hk => (⟨hk, hk.1.2⟩ : _ ∧ k_ ≠ gb292))) (fun _ hk => hk.1.2) (.int .i64 (wrap64 (a3 - 1)))) (fun _ hk => hk.2) (.int .i64 a3)) (fun _ h_ => h_.1)) (fun _ h_ => h_.1))) (Kd.R_base ho48) hb); have n1_ := Aside0.mk (Kd.R_lower (Kd.R_newB (Kd.R_newB (Kd.R_new' ho48 (Kd.R_lt (by (with_reducible repeat (fail)); exact (Kd.R_mono (Kd.R_mono (Kd.R_far (p := ⟨gb292, 1, none⟩) (Kd.R_far (p := ⟨gb291, 2, none⟩) (Kd.R_mono (Kd.R_mono HO_12.out (fun k_ hk => (⟨hk, hk.1⟩ : _ ∧ k_ ≠ gb291))) (fun k_ hk => (⟨hk, hk.1.2⟩ : _ ∧ k_ ≠ gb292))) (fun _ hk => hk.1.2) (.int .i64 (wrap64 (a3 - 1)))) (fun _ hk => hk.2) (.int .i64 a3)) (fun _ h_ => h_.1)) (fun _ h_ => h_.1))))) (g := gb291) (o := .cells #[.int .i64 ((rd_T35 l0 x13_1).f0), .int .i64 ((rd_T35 l0 x13_1).f1.f0), .int .i64 (wrap64 (a3 - 1)), .int .i64 ((rd_T35 l0 x13_1).f2.f0), .int .i64 ((rd_T35 l0 x13_1).f2.f1)] 35 (0, 0)) (by (with_reducible repeat (fail)); refine blk_far ?_ NB291_292.out _; (with_reducible repeat (fail)); refine blk_put (cs := #[.int .i64 ((rd_T35 l0 x13_1).f0), .int .i64 ((rd_T35 l0 x13_1).f1.f0), .int .i64 ((rd_T35 l0 x13_1).f1.f1), .int .i64 ((rd_T35 l0 x13_1).f2.f0), .int .i64 ((rd_T35 l0 x13_1).f2.f1)]) ?_ 2 _ rfl; (with_reducible repeat (fail)); exact BK291.out)) (g := gb292) (o := .cells #[.int .i64 ((rd_T35 l0 x13_1).f0), .int .i64 a3, .int .i64 ((rd_T35 l0 x13_1).f1.f1), .int .i64 ((rd_T35 l0 x13_1).f2.f0), .int .i64 ((rd_T35 l0 x13_1).f2.f1)] 35 (0, 0)) (by (with_reducible repeat (fail)); refine blk_put (cs := #[.int .i64 ((rd_T35 l0 x13_1).f0), .int .i64 ((rd_T35 l0 x13_1).f1.f0), .int .i64 ((rd_T35 l0 x13_1).f1.f1), .int .i64 ((rd_T35 l0 x13_1).f2.f0), .int .i64 ((rd_T35 l0 x13_1).f2.f1)]) ?_ 1 _ rfl; (with_reducible repeat (fail)); refine blk_far ?_ NB292_291.out _; (with_reducible repeat (fail)); exact BK292.out)) (below_size (by repeat ((with_reducible first | exact HB.out | refine below_set ?_ GE291.out | refine below_set ?_ GE292.out))))); have n2_ := Aside0.mk (blk_below (g := gb291) (o := .cells #[.int .i64 ((rd_T35 l0 x13_1).f0), .int .i64 ((rd_T35 l0 x13_1).f1.f0), .int .i64 (wrap64 (a3 - 1)), .int .i64 ((rd_T35 l0 x13_1).f2.f0), .int .i64 ((rd_T35 l0 x13_1).f2.f1)] 35 (0, 0)) (by (with_reducible repeat (fail)); refine blk_far ?_ NB291_292.out _; (with_reducible repeat (fail)); refine blk_put (cs := #[.int .i64 ((rd_T35 l0 x13_1).f0), .int .i64 ((rd_T35 l0 x13_1).f1.f0), .int .i64 ((rd_T35 l0 x13_1).f1.f1), .int .i64 ((rd_T35 l0 x13_1).f2.f0), .int .i64 ((rd_T35 l0 x13_1).f2.f1)]) ?_ 2 _ rfl; (with_reducible repeat (fail)); exact BK291.out) hb); have n3_ := Aside0.mk (blk_below (g := gb292) (o := .cells #[.int .i64 ((rd_T35 l0 x13_1).f0), .int .i64 a3, .int .i64 ((rd_T35 l0 x13_1).f1.f1), .int .i64 ((rd_T35 l0 x13_1).f2.f0), .int .i64 ((rd_T35 l0 x13_1).f2.f1)] 35 (0, 0)) (by (with_reducible repeat (fail)); refine blk_put (cs := #[.int .i64 ((rd_T35 l0 x13_1).f0), .int .i64 ((rd_T35 l0 x13_1).f1.f0), .int .i64 ((rd_T35 l0 x13_1).f1.f1), .int .i64 ((rd_T35 l0 x13_1).f2.f0), .int .i64 ((rd_T35 l0 x13_1).f2.f1)]) ?_ 1 _ rfl; (with_reducible repeat (fail)); refine blk_far ?_ NB292_291.out _; (with_reducible repeat (fail)); exact BK292.out) hb); have n4_ := Aside0.mk (below_step (by repeat ((with_reducible first | exact HB.out | refine below_set ?_ GE291.out | refine below_set ?_ GE292.out))) hb); clear HO_12; clear BK291; clear BK292; clear HB; have HO_12 := n0_; have HO305 := n1_; have BK291 := n2_; have BK292 := n3_; have HB := n4_; clear n0_ n1_ n2_ n3_ n4_; clear hb ho48; obtain ⟨Ao50, co50, eo50⟩ := Kd.R_slice HO305.out; subst eo50) | ((with_reducible refine gate_builtin (b := .append) (xs := #[.tmp 97, .tmp 100]) rfl ?_); (try (refine gate_guard (by rfl) ?_; dsimp only)); at_builtin; refine Kd.R_append_rows k35 (w0 := w) w.heap.size rfl (.tmp 97) (.tmp 100) 22 35 (.agg #[(.int .i64 0), (.int .i64 0), (.int .i64 0), (.int .i64 0), (.int .i64 0)]) 40 rfl Try.underlying22 info35 rfl (by decide) (by omega) u12 x12_1 y303 _ _ _ (fun k_ => some k_ ≠ (.slice Ao50 y303.length co50 : Value).ownBlock ∧ k_ ≠ gb291 ∧ k_ ≠ gb292) (fun _ => False) rfl rfl ?aO ?aR (fun _ _ h => h) (fun _ h => h.elim) ?aF ?aB ?aS ?aL ?_; (case aR => repeat (exact (Kd.R_reads' HO305.out).2.2)); (case aB => exact (by repeat ((with_reducible exact HB.out)))); (case aF => exact (fun k_ hk => ⟨Kd.fresh' (Kd.R_lt (by (with_reducible repeat (fail)); exact HO305.out)) k_ hk, Kd.freshB (g := gb291) (o := .cells #[.int .i64 ((rd_T35 l0 x13_1).f0), .int .i64 ((rd_T35 l0 x13_1).f1.f0), .int .i64 (wrap64 (a3 - 1)), .int .i64 ((rd_T35 l0 x13_1).f2.f0), .int .i64 ((rd_T35 l0 x13_1).f2.f1)] 35 (0, 0)) (by (with_reducible repeat (fail)); exact BK291.out) k_ hk, Kd.freshB (g := gb292) (o := .cells #[.int .i64 ((rd_T35 l0 x13_1).f0), .int .i64 a3, .int .i64 ((rd_T35 l0 x13_1).f1.f1), .int .i64 ((rd_T35 l0 x13_1).f2.f0), .int .i64 ((rd_T35 l0 x13_1).f2.f1)] 35 (0, 0)) (by (with_reducible repeat (fail)); exact BK292.out) k_ hk⟩)); (case aO => exact (by (with_reducible repeat (fail)); exact Kd.R_mono HO_12.out (fun _ hk => ⟨hk.2, ⟨hk.1.1, hk.1.2⟩⟩))); (case aS => exact (below_size (by repeat ((with_reducible exact HB.out))))); (case aL => have := LMc43.out; omega); intro v307 w49 ho hb hg hat; rw [← Ny306.out] at ho; have n0_ := Aside0.mk (blk_grown (g := gb291) (o := .cells #[.int .i64 ((rd_T35 l0 x13_1).f0), .int .i64 ((rd_T35 l0 x13_1).f1.f0), .int .i64 (wrap64 (a3 - 1)), .int .i64 ((rd_T35 l0 x13_1).f2.f0), .int .i64 ((rd_T35 l0 x13_1).f2.f1)] 35 (0, 0)) (by (with_reducible repeat (fail)); exact BK291.out) hg (Kd.R_away HO_12.out (fun _ hk => hk.1.1))); have n1_ := Aside0.mk (blk_grown (g := gb292) (o := .cells #[.int .i64 ((rd_T35 l0 x13_1).f0), .int .i64 a3, .int .i64 ((rd_T35 l0 x13_1).f1.f1), .int .i64 ((rd_T35 l0 x13_1).f2.f0), .int .i64 ((rd_T35 l0 x13_1).f2.f1)] 35 (0, 0)) (by (with_reducible repeat (fail)); exact BK292.out) hg (Kd.R_away HO_12.out (fun _ hk => hk.1.2))); have n2_ := Aside0.mk (Kd.R_after (ok := (fun k_ => k_ ≠ gb291 ∧ k_ ≠ gb292)) (by (with_reducible repeat (fail)); exact Kd.R_mono HO305.out (fun _ hk => ⟨⟨hk.1.2, hk.2⟩, hk.1.1.2⟩)) hg hat); have n3_ := Aside0.mk (hb); have n4_ := Aside0.mk (ho); clear BK291; clear BK292; clear HO305; clear HB; clear HO_12; have BK291 := n0_; have BK292 := n1_; have HO305 := n2_; have HB := n3_; have HO308 := n4_; clear n0_ n1_ n2_ n3_ n4_; clear ho hb hg hat))
                              go_roundg kj13
                              case measure => have := HK1.out; have := HJ13.out; omega
                              case rel => exact ⟨(y306), (wrap64 (x13_1 - 1)), (by rfl), H', ⟨by have := HK1.out; have := HJ13.out; omega⟩, ⟨by (with_reducible repeat (fail)); exact Kd.R_mono HO308.out (fun _ hk => trivial)⟩, ⟨by repeat ((with_reducible exact HB.out))⟩⟩
                            · rw [if_neg c43] at H
                              exact absurd H (by simp)
                          · rw [if_neg c42] at H
                            have c42b0 : decide (a3 ≤ ((rd_T35 l0 x13_1).f1.f1)) = false := decide_eq_false c42
                            clear c42
                            obtain ⟨y309, hy309⟩ : ∃ y_ : List (S35), y_ = (([(⟨((rd_T35 l0 x13_1).f0), (⟨((rd_T35 l0 x13_1).f1.f0), ((rd_T35 l0 x13_1).f1.f1)⟩ : S33), (⟨((rd_T35 l0 x13_1).f2.f0), ((rd_T35 l0 x13_1).f2.f1)⟩ : S33)⟩ : S35), (⟨((rd_T35 l0 x13_1).f0), (⟨((rd_T35 l0 x13_1).f1.f0), ((rd_T35 l0 x13_1).f1.f1)⟩ : S33), (⟨((rd_T35 l0 x13_1).f2.f0), ((rd_T35 l0 x13_1).f2.f1)⟩ : S33)⟩ : S35)] : List (S35))) := ⟨_, rfl⟩
                            replace H : (if x12_1.length + y309.length < 3518437208883 then (formelaw03_ZoneOne.l0 kj13 l0 l1 a2 a3 a4 t287 (x12_1 ++ y309) (wrap64 (x13_1 - 1))) else (none)) = some r := by (have H2_ := (Option.bind_some _ _).symm.trans H; rw [hy309]; with_reducible exact H2_)
                            have Ny309 := Aside0.mk hy309
                            clear hy309
                            by_cases c51 : x12_1.length + y309.length < 3518437208883
                            · rw [if_pos c51] at H
                              have LMc51 := Aside0.mk c51
                              clear c51
                              obtain ⟨y312, hy312⟩ : ∃ y_ : List (S35), y_ = (x12_1 ++ y309) := ⟨_, rfl⟩
                              replace H : (formelaw03_ZoneOne.l0 kj13 l0 l1 a2 a3 a4 t287 y312 (wrap64 (x13_1 - 1))) = some r := by (rw [hy312]; with_reducible exact H)
                              have Ny312 := Aside0.mk hy312
                              clear hy312
                              have H' := Aside0.mk H
                              clear H
                              have p301 : 0 ≤ (x13_1 : Int) := of_decide_eq_true (by (with_reducible assumption))
                              have q301 : x13_1 < (l0.length : Int) := of_decide_eq_true (by (with_reducible assumption))
                              obtain ⟨ad301, e301, hx301_0, hx301_1, hx301_2, hx301_3, hx301_4⟩ := at_T35 HR0.out x13_1 p301 q301
                              obtain rfl : ad289 = ad301 := (by injection e301)
                              replace hx301_0 := (HB.out.cell (World.block_lt_of_cell? w _ hx301_0)).trans hx301_0
                              replace hx301_1 := (HB.out.cell (World.block_lt_of_cell? w _ hx301_1)).trans hx301_1
                              replace hx301_2 := (HB.out.cell (World.block_lt_of_cell? w _ hx301_2)).trans hx301_2
                              replace hx301_3 := (HB.out.cell (World.block_lt_of_cell? w _ hx301_3)).trans hx301_3
                              replace hx301_4 := (HB.out.cell (World.block_lt_of_cell? w _ hx301_4)).trans hx301_4
                              replace p301 := eq_true p301
                              replace q301 := eq_true q301
                              have p302 : 0 ≤ (x13_1 : Int) := of_decide_eq_true (by (with_reducible assumption))
                              have q302 : x13_1 < (l0.length : Int) := of_decide_eq_true (by (with_reducible assumption))
                              obtain ⟨ad302, e302, hx302_0, hx302_1, hx302_2, hx302_3, hx302_4⟩ := at_T35 HR0.out x13_1 p302 q302
                              obtain rfl : ad289 = ad302 := (by injection e302)
                              replace hx302_0 := (HB.out.cell (World.block_lt_of_cell? w _ hx302_0)).trans hx302_0
                              replace hx302_1 := (HB.out.cell (World.block_lt_of_cell? w _ hx302_1)).trans hx302_1
                              replace hx302_2 := (HB.out.cell (World.block_lt_of_cell? w _ hx302_2)).trans hx302_2
                              replace hx302_3 := (HB.out.cell (World.block_lt_of_cell? w _ hx302_3)).trans hx302_3
                              replace hx302_4 := (HB.out.cell (World.block_lt_of_cell? w _ hx302_4)).trans hx302_4
                              replace p302 := eq_true p302
                              replace q302 := eq_true q302
                              have hnb52 := NB292_291.out
                              have hnc52 := NB291_292.out
                              have hcz53_0 : wc.cell? ⟨gb292, 0, none⟩ = some (.int .i64 ((rd_T35 l0 x13_1).f0)) := (blk_cell BK292.out 0).trans rfl
                              have hcz53_1 : wc.cell? ⟨gb292, 1, none⟩ = some (.int .i64 ((rd_T35 l0 x13_1).f1.f0)) := (blk_cell BK292.out 1).trans rfl
                              have hcz53_2 : wc.cell? ⟨gb292, 2, none⟩ = some (.int .i64 ((rd_T35 l0 x13_1).f1.f1)) := (blk_cell BK292.out 2).trans rfl
                              have hcz53_3 : wc.cell? ⟨gb292, 3, none⟩ = some (.int .i64 ((rd_T35 l0 x13_1).f2.f0)) := (blk_cell BK292.out 3).trans rfl
                              have hcz53_4 : wc.cell? ⟨gb292, 4, none⟩ = some (.int .i64 ((rd_T35 l0 x13_1).f2.f1)) := (blk_cell BK292.out 4).trans rfl
                              have hfz53_0 := blk_frozen BK292.out 0
                              have hfz53_1 := blk_frozen BK292.out 1
                              have hfz53_2 := blk_frozen BK292.out 2
                              have hfz53_3 := blk_frozen BK292.out 3
                              have hfz53_4 := blk_frozen BK292.out 4
                              have hcz54_0 : wc.cell? ⟨gb291, 0, none⟩ = some (.int .i64 ((rd_T35 l0 x13_1).f0)) := (blk_cell BK291.out 0).trans rfl
                              have hcz54_1 : wc.cell? ⟨gb291, 1, none⟩ = some (.int .i64 ((rd_T35 l0 x13_1).f1.f0)) := (blk_cell BK291.out 1).trans rfl
                              have hcz54_2 : wc.cell? ⟨gb291, 2, none⟩ = some (.int .i64 ((rd_T35 l0 x13_1).f1.f1)) := (blk_cell BK291.out 2).trans rfl
                              have hcz54_3 : wc.cell? ⟨gb291, 3, none⟩ = some (.int .i64 ((rd_T35 l0 x13_1).f2.f0)) := (blk_cell BK291.out 3).trans rfl
                              have hcz54_4 : wc.cell? ⟨gb291, 4, none⟩ = some (.int .i64 ((rd_T35 l0 x13_1).f2.f1)) := (blk_cell BK291.out 4).trans rfl
                              have hfz54_0 := blk_frozen BK291.out 0
                              have hfz54_1 := blk_frozen BK291.out 1
                              have hfz54_2 := blk_frozen BK291.out 2
                              have hfz54_3 := blk_frozen BK291.out 3
                              have hfz54_4 := blk_frozen BK291.out 4
                              go_wp2_with (first | ((with_reducible refine gate_dst (N := 100) rfl ?_); (try (refine gate_guard (by rfl) ?_; dsimp only)); refine Kd.R_lit k35 _ 35 ?hg (N := 100) ?hd (xs := ([(⟨((rd_T35 l0 x13_1).f0), (⟨((rd_T35 l0 x13_1).f1.f0), ((rd_T35 l0 x13_1).f1.f1)⟩ : S33), (⟨((rd_T35 l0 x13_1).f2.f0), ((rd_T35 l0 x13_1).f2.f1)⟩ : S33)⟩ : S35), (⟨((rd_T35 l0 x13_1).f0), (⟨((rd_T35 l0 x13_1).f1.f0), ((rd_T35 l0 x13_1).f1.f1)⟩ : S33), (⟨((rd_T35 l0 x13_1).f2.f0), ((rd_T35 l0 x13_1).f2.f1)⟩ : S33)⟩ : S35)] : List (S35))) (inner := [.int .i64 ((rd_T35 l0 x13_1).f0), .int .i64 ((rd_T35 l0 x13_1).f1.f0), .int .i64 ((rd_T35 l0 x13_1).f1.f1), .int .i64 ((rd_T35 l0 x13_1).f2.f0), .int .i64 ((rd_T35 l0 x13_1).f2.f1), .int .i64 ((rd_T35 l0 x13_1).f0), .int .i64 ((rd_T35 l0 x13_1).f1.f0), .int .i64 ((rd_T35 l0 x13_1).f1.f1), .int .i64 ((rd_T35 l0 x13_1).f2.f0), .int .i64 ((rd_T35 l0 x13_1).f2.f1)]) (ok := fun _ => True) (okp := fun _ => True) ?hr ?hp (fun _ hk => hk) trivial (Below.refl _ _) (Nat.le_refl _) (by simp) ?_; (case hd => rfl); (case hg => rfl); (case hr => (go_simp; done)); (case hp => exact (Reps.c5 (show Kd.M k35 _ _ _ (⟨((rd_T35 l0 x13_1).f0), (⟨((rd_T35 l0 x13_1).f1.f0), ((rd_T35 l0 x13_1).f1.f1)⟩ : S33), (⟨((rd_T35 l0 x13_1).f2.f0), ((rd_T35 l0 x13_1).f2.f1)⟩ : S33)⟩ : S35) [.int .i64 ((rd_T35 l0 x13_1).f0), .int .i64 ((rd_T35 l0 x13_1).f1.f0), .int .i64 ((rd_T35 l0 x13_1).f1.f1), .int .i64 ((rd_T35 l0 x13_1).f2.f0), .int .i64 ((rd_T35 l0 x13_1).f2.f1)] from (k35_mkM _ _ _ (⟨((rd_T35 l0 x13_1).f0), (⟨((rd_T35 l0 x13_1).f1.f0), ((rd_T35 l0 x13_1).f1.f1)⟩ : S33), (⟨((rd_T35 l0 x13_1).f2.f0), ((rd_T35 l0 x13_1).f2.f1)⟩ : S33)⟩ : S35) )) (Reps.c5 (show Kd.M k35 _ _ _ (⟨((rd_T35 l0 x13_1).f0), (⟨((rd_T35 l0 x13_1).f1.f0), ((rd_T35 l0 x13_1).f1.f1)⟩ : S33), (⟨((rd_T35 l0 x13_1).f2.f0), ((rd_T35 l0 x13_1).f2.f1)⟩ : S33)⟩ : S35) [.int .i64 ((rd_T35 l0 x13_1).f0), .int .i64 ((rd_T35 l0 x13_1).f1.f0), .int .i64 ((rd_T35 l0 x13_1).f1.f1), .int .i64 ((rd_T35 l0 x13_1).f2.f0), .int .i64 ((rd_T35 l0 x13_1).f2.f1)] from (k35_mkM _ _ _ (⟨((rd_T35 l0 x13_1).f0), (⟨((rd_T35 l0 x13_1).f1.f0), ((rd_T35 l0 x13_1).f1.f1)⟩ : S33), (⟨((rd_T35 l0 x13_1).f2.f0), ((rd_T35 l0 x13_1).f2.f1)⟩ : S33)⟩ : S35) )) (Reps.none _ _)))); intro v310 w55 ho56 hb hg_ hnew_; clear hg_ hnew_; (rw [← Ny309.out] at ho56); have n0_ := Aside0.mk (Kd.R_elder' (by (with_reducible repeat (fail)); exact HO_12.out) (Kd.R_base ho56) hb); have n1_ := Aside0.mk (Kd.R_lower (Kd.R_newB (Kd.R_newB (Kd.R_new' ho56 (Kd.R_lt (by (with_reducible repeat (fail)); exact HO_12.out))) (g := gb291) (o := .cells #[.int .i64 ((rd_T35 l0 x13_1).f0), .int .i64 ((rd_T35 l0 x13_1).f1.f0), .int .i64 ((rd_T35 l0 x13_1).f1.f1), .int .i64 ((rd_T35 l0 x13_1).f2.f0), .int .i64 ((rd_T35 l0 x13_1).f2.f1)] 35 (0, 0)) (by (with_reducible repeat (fail)); exact BK291.out)) (g := gb292) (o := .cells #[.int .i64 ((rd_T35 l0 x13_1).f0), .int .i64 ((rd_T35 l0 x13_1).f1.f0), .int .i64 ((rd_T35 l0 x13_1).f1.f1), .int .i64 ((rd_T35 l0 x13_1).f2.f0), .int .i64 ((rd_T35 l0 x13_1).f2.f1)] 35 (0, 0)) (by (with_reducible repeat (fail)); exact BK292.out)) (below_size (by repeat ((with_reducible exact HB.out))))); have n2_ := Aside0.mk (blk_below (g := gb291) (o := .cells #[.int .i64 ((rd_T35 l0 x13_1).f0), .int .i64 ((rd_T35 l0 x13_1).f1.f0), .int .i64 ((rd_T35 l0 x13_1).f1.f1), .int .i64 ((rd_T35 l0 x13_1).f2.f0), .int .i64 ((rd_T35 l0 x13_1).f2.f1)] 35 (0, 0)) (by (with_reducible repeat (fail)); exact BK291.out) hb); have n3_ := Aside0.mk (blk_below (g := gb292) (o := .cells #[.int .i64 ((rd_T35 l0 x13_1).f0), .int .i64 ((rd_T35 l0 x13_1).f1.f0), .int .i64 ((rd_T35 l0 x13_1).f1.f1), .int .i64 ((rd_T35 l0 x13_1).f2.f0), .int .i64 ((rd_T35 l0 x13_1).f2.f1)] 35 (0, 0)) (by (with_reducible repeat (fail)); exact BK292.out) hb); have n4_ := Aside0.mk (below_step (by repeat ((with_reducible exact HB.out))) hb); clear HO_12; clear BK291; clear BK292; clear HB; have HO_12 := n0_; have HO311 := n1_; have BK291 := n2_; have BK292 := n3_; have HB := n4_; clear n0_ n1_ n2_ n3_ n4_; clear hb ho56; obtain ⟨Ao58, co58, eo58⟩ := Kd.R_slice HO311.out; subst eo58) | ((with_reducible refine gate_builtin (b := .append) (xs := #[.tmp 97, .tmp 100]) rfl ?_); (try (refine gate_guard (by rfl) ?_; dsimp only)); at_builtin; refine Kd.R_append_rows k35 (w0 := w) w.heap.size rfl (.tmp 97) (.tmp 100) 22 35 (.agg #[(.int .i64 0), (.int .i64 0), (.int .i64 0), (.int .i64 0), (.int .i64 0)]) 40 rfl Try.underlying22 info35 rfl (by decide) (by omega) u12 x12_1 y309 _ _ _ (fun k_ => some k_ ≠ (.slice Ao58 y309.length co58 : Value).ownBlock ∧ k_ ≠ gb291 ∧ k_ ≠ gb292) (fun _ => False) rfl rfl ?aO ?aR (fun _ _ h => h) (fun _ h => h.elim) ?aF ?aB ?aS ?aL ?_; (case aR => repeat (exact (Kd.R_reads' HO311.out).2.2)); (case aB => exact (by repeat ((with_reducible exact HB.out)))); (case aF => exact (fun k_ hk => ⟨Kd.fresh' (Kd.R_lt (by (with_reducible repeat (fail)); exact HO311.out)) k_ hk, Kd.freshB (g := gb291) (o := .cells #[.int .i64 ((rd_T35 l0 x13_1).f0), .int .i64 ((rd_T35 l0 x13_1).f1.f0), .int .i64 ((rd_T35 l0 x13_1).f1.f1), .int .i64 ((rd_T35 l0 x13_1).f2.f0), .int .i64 ((rd_T35 l0 x13_1).f2.f1)] 35 (0, 0)) (by (with_reducible repeat (fail)); exact BK291.out) k_ hk, Kd.freshB (g := gb292) (o := .cells #[.int .i64 ((rd_T35 l0 x13_1).f0), .int .i64 ((rd_T35 l0 x13_1).f1.f0), .int .i64 ((rd_T35 l0 x13_1).f1.f1), .int .i64 ((rd_T35 l0 x13_1).f2.f0), .int .i64 ((rd_T35 l0 x13_1).f2.f1)] 35 (0, 0)) (by (with_reducible repeat (fail)); exact BK292.out) k_ hk⟩)); (case aO => exact (by (with_reducible repeat (fail)); exact Kd.R_mono HO_12.out (fun _ hk => ⟨hk.2, ⟨hk.1.1, hk.1.2⟩⟩))); (case aS => exact (below_size (by repeat ((with_reducible exact HB.out))))); (case aL => have := LMc51.out; omega); intro v313 w57 ho hb hg hat; rw [← Ny312.out] at ho; have n0_ := Aside0.mk (blk_grown (g := gb291) (o := .cells #[.int .i64 ((rd_T35 l0 x13_1).f0), .int .i64 ((rd_T35 l0 x13_1).f1.f0), .int .i64 ((rd_T35 l0 x13_1).f1.f1), .int .i64 ((rd_T35 l0 x13_1).f2.f0), .int .i64 ((rd_T35 l0 x13_1).f2.f1)] 35 (0, 0)) (by (with_reducible repeat (fail)); exact BK291.out) hg (Kd.R_away HO_12.out (fun _ hk => hk.1.1))); have n1_ := Aside0.mk (blk_grown (g := gb292) (o := .cells #[.int .i64 ((rd_T35 l0 x13_1).f0), .int .i64 ((rd_T35 l0 x13_1).f1.f0), .int .i64 ((rd_T35 l0 x13_1).f1.f1), .int .i64 ((rd_T35 l0 x13_1).f2.f0), .int .i64 ((rd_T35 l0 x13_1).f2.f1)] 35 (0, 0)) (by (with_reducible repeat (fail)); exact BK292.out) hg (Kd.R_away HO_12.out (fun _ hk => hk.1.2))); have n2_ := Aside0.mk (Kd.R_after (ok := (fun k_ => k_ ≠ gb291 ∧ k_ ≠ gb292)) (by (with_reducible repeat (fail)); exact Kd.R_mono HO311.out (fun _ hk => ⟨⟨hk.1.2, hk.2⟩, hk.1.1.2⟩)) hg hat); have n3_ := Aside0.mk (hb); have n4_ := Aside0.mk (ho); clear BK291; clear BK292; clear HO311; clear HB; clear HO_12; have BK291 := n0_; have BK292 := n1_; have HO311 := n2_; have HB := n3_; have HO314 := n4_; clear n0_ n1_ n2_ n3_ n4_; clear ho hb hg hat))
                              go_roundg kj13
                              case measure => have := HK1.out; have := HJ13.out; omega
                              case rel => exact ⟨(y312), (wrap64 (x13_1 - 1)), (by rfl), H', ⟨by have := HK1.out; have := HJ13.out; omega⟩, ⟨by (with_reducible repeat (fail)); exact Kd.R_mono HO314.out (fun _ hk => trivial)⟩, ⟨by repeat ((with_reducible exact HB.out))⟩⟩
                            · rw [if_neg c51] at H
                              exact absurd H (by simp)
                        · rw [if_neg c41] at H
                          have c41b0 : decide (((rd_T35 l0 x13_1).f1.f0) < a3) = false := decide_eq_false c41
                          clear c41
                          obtain ⟨y315, hy315⟩ : ∃ y_ : List (S35), y_ = (([(⟨((rd_T35 l0 x13_1).f0), (⟨((rd_T35 l0 x13_1).f1.f0), ((rd_T35 l0 x13_1).f1.f1)⟩ : S33), (⟨((rd_T35 l0 x13_1).f2.f0), ((rd_T35 l0 x13_1).f2.f1)⟩ : S33)⟩ : S35), (⟨((rd_T35 l0 x13_1).f0), (⟨((rd_T35 l0 x13_1).f1.f0), ((rd_T35 l0 x13_1).f1.f1)⟩ : S33), (⟨((rd_T35 l0 x13_1).f2.f0), ((rd_T35 l0 x13_1).f2.f1)⟩ : S33)⟩ : S35)] : List (S35))) := ⟨_, rfl⟩
                          replace H : (if x12_1.length + y315.length < 3518437208883 then (formelaw03_ZoneOne.l0 kj13 l0 l1 a2 a3 a4 t287 (x12_1 ++ y315) (wrap64 (x13_1 - 1))) else (none)) = some r := by (have H2_ := (Option.bind_some _ _).symm.trans H; rw [hy315]; with_reducible exact H2_)
                          have Ny315 := Aside0.mk hy315
                          clear hy315
                          by_cases c59 : x12_1.length + y315.length < 3518437208883
                          · rw [if_pos c59] at H
                            have LMc59 := Aside0.mk c59
                            clear c59
                            obtain ⟨y318, hy318⟩ : ∃ y_ : List (S35), y_ = (x12_1 ++ y315) := ⟨_, rfl⟩
                            replace H : (formelaw03_ZoneOne.l0 kj13 l0 l1 a2 a3 a4 t287 y318 (wrap64 (x13_1 - 1))) = some r := by (rw [hy318]; with_reducible exact H)
                            have Ny318 := Aside0.mk hy318
                            clear hy318
                            have H' := Aside0.mk H
                            clear H
                            have p301 : 0 ≤ (x13_1 : Int) := of_decide_eq_true (by (with_reducible assumption))
                            have q301 : x13_1 < (l0.length : Int) := of_decide_eq_true (by (with_reducible assumption))
                            obtain ⟨ad301, e301, hx301_0, hx301_1, hx301_2, hx301_3, hx301_4⟩ := at_T35 HR0.out x13_1 p301 q301
                            obtain rfl : ad289 = ad301 := (by injection e301)
                            replace hx301_0 := (HB.out.cell (World.block_lt_of_cell? w _ hx301_0)).trans hx301_0
                            replace hx301_1 := (HB.out.cell (World.block_lt_of_cell? w _ hx301_1)).trans hx301_1
                            replace hx301_2 := (HB.out.cell (World.block_lt_of_cell? w _ hx301_2)).trans hx301_2
                            replace hx301_3 := (HB.out.cell (World.block_lt_of_cell? w _ hx301_3)).trans hx301_3
                            replace hx301_4 := (HB.out.cell (World.block_lt_of_cell? w _ hx301_4)).trans hx301_4
                            replace p301 := eq_true p301
                            replace q301 := eq_true q301
                            have hnb60 := NB292_291.out
                            have hnc60 := NB291_292.out
                            have hcz61_0 : wc.cell? ⟨gb292, 0, none⟩ = some (.int .i64 ((rd_T35 l0 x13_1).f0)) := (blk_cell BK292.out 0).trans rfl
                            have hcz61_1 : wc.cell? ⟨gb292, 1, none⟩ = some (.int .i64 ((rd_T35 l0 x13_1).f1.f0)) := (blk_cell BK292.out 1).trans rfl
                            have hcz61_2 : wc.cell? ⟨gb292, 2, none⟩ = some (.int .i64 ((rd_T35 l0 x13_1).f1.f1)) := (blk_cell BK292.out 2).trans rfl
                            have hcz61_3 : wc.cell? ⟨gb292, 3, none⟩ = some (.int .i64 ((rd_T35 l0 x13_1).f2.f0)) := (blk_cell BK292.out 3).trans rfl
                            have hcz61_4 : wc.cell? ⟨gb292, 4, none⟩ = some (.int .i64 ((rd_T35 l0 x13_1).f2.f1)) := (blk_cell BK292.out 4).trans rfl
                            have hfz61_0 := blk_frozen BK292.out 0
                            have hfz61_1 := blk_frozen BK292.out 1
                            have hfz61_2 := blk_frozen BK292.out 2
                            have hfz61_3 := blk_frozen BK292.out 3
                            have hfz61_4 := blk_frozen BK292.out 4
                            have hcz62_0 : wc.cell? ⟨gb291, 0, none⟩ = some (.int .i64 ((rd_T35 l0 x13_1).f0)) := (blk_cell BK291.out 0).trans rfl
                            have hcz62_1 : wc.cell? ⟨gb291, 1, none⟩ = some (.int .i64 ((rd_T35 l0 x13_1).f1.f0)) := (blk_cell BK291.out 1).trans rfl
                            have hcz62_2 : wc.cell? ⟨gb291, 2, none⟩ = some (.int .i64 ((rd_T35 l0 x13_1).f1.f1)) := (blk_cell BK291.out 2).trans rfl
                            have hcz62_3 : wc.cell? ⟨gb291, 3, none⟩ = some (.int .i64 ((rd_T35 l0 x13_1).f2.f0)) := (blk_cell BK291.out 3).trans rfl
                            have hcz62_4 : wc.cell? ⟨gb291, 4, none⟩ = some (.int .i64 ((rd_T35 l0 x13_1).f2.f1)) := (blk_cell BK291.out 4).trans rfl
                            have hfz62_0 := blk_frozen BK291.out 0
                            have hfz62_1 := blk_frozen BK291.out 1
                            have hfz62_2 := blk_frozen BK291.out 2
                            have hfz62_3 := blk_frozen BK291.out 3
                            have hfz62_4 := blk_frozen BK291.out 4
                            go_wp2_with (first | ((with_reducible refine gate_dst (N := 100) rfl ?_); (try (refine gate_guard (by rfl) ?_; dsimp only)); refine Kd.R_lit k35 _ 35 ?hg (N := 100) ?hd (xs := ([(⟨((rd_T35 l0 x13_1).f0), (⟨((rd_T35 l0 x13_1).f1.f0), ((rd_T35 l0 x13_1).f1.f1)⟩ : S33), (⟨((rd_T35 l0 x13_1).f2.f0), ((rd_T35 l0 x13_1).f2.f1)⟩ : S33)⟩ : S35), (⟨((rd_T35 l0 x13_1).f0), (⟨((rd_T35 l0 x13_1).f1.f0), ((rd_T35 l0 x13_1).f1.f1)⟩ : S33), (⟨((rd_T35 l0 x13_1).f2.f0), ((rd_T35 l0 x13_1).f2.f1)⟩ : S33)⟩ : S35)] : List (S35))) (inner := [.int .i64 ((rd_T35 l0 x13_1).f0), .int .i64 ((rd_T35 l0 x13_1).f1.f0), .int .i64 ((rd_T35 l0 x13_1).f1.f1), .int .i64 ((rd_T35 l0 x13_1).f2.f0), .int .i64 ((rd_T35 l0 x13_1).f2.f1), .int .i64 ((rd_T35 l0 x13_1).f0), .int .i64 ((rd_T35 l0 x13_1).f1.f0), .int .i64 ((rd_T35 l0 x13_1).f1.f1), .int .i64 ((rd_T35 l0 x13_1).f2.f0), .int .i64 ((rd_T35 l0 x13_1).f2.f1)]) (ok := fun _ => True) (okp := fun _ => True) ?hr ?hp (fun _ hk => hk) trivial (Below.refl _ _) (Nat.le_refl _) (by simp) ?_; (case hd => rfl); (case hg => rfl); (case hr => (go_simp; done)); (case hp => exact (Reps.c5 (show Kd.M k35 _ _ _ (⟨((rd_T35 l0 x13_1).f0), (⟨((rd_T35 l0 x13_1).f1.f0), ((rd_T35 l0 x13_1).f1.f1)⟩ : S33), (⟨((rd_T35 l0 x13_1).f2.f0), ((rd_T35 l0 x13_1).f2.f1)⟩ : S33)⟩ : S35) [.int .i64 ((rd_T35 l0 x13_1).f0), .int .i64 ((rd_T35 l0 x13_1).f1.f0), .int .i64 ((rd_T35 l0 x13_1).f1.f1), .int .i64 ((rd_T35 l0 x13_1).f2.f0), .int .i64 ((rd_T35 l0 x13_1).f2.f1)] from (k35_mkM _ _ _ (⟨((rd_T35 l0 x13_1).f0), (⟨((rd_T35 l0 x13_1).f1.f0), ((rd_T35 l0 x13_1).f1.f1)⟩ : S33), (⟨((rd_T35 l0 x13_1).f2.f0), ((rd_T35 l0 x13_1).f2.f1)⟩ : S33)⟩ : S35) )) (Reps.c5 (show Kd.M k35 _ _ _ (⟨((rd_T35 l0 x13_1).f0), (⟨((rd_T35 l0 x13_1).f1.f0), ((rd_T35 l0 x13_1).f1.f1)⟩ : S33), (⟨((rd_T35 l0 x13_1).f2.f0), ((rd_T35 l0 x13_1).f2.f1)⟩ : S33)⟩ : S35) [.int .i64 ((rd_T35 l0 x13_1).f0), .int .i64 ((rd_T35 l0 x13_1).f1.f0), .int .i64 ((rd_T35 l0 x13_1).f1.f1), .int .i64 ((rd_T35 l0 x13_1).f2.f0), .int .i64 ((rd_T35 l0 x13_1).f2.f1)] from (k35_mkM _ _ _ (⟨((rd_T35 l0 x13_1).f0), (⟨((rd_T35 l0 x13_1).f1.f0), ((rd_T35 l0 x13_1).f1.f1)⟩ : S33), (⟨((rd_T35 l0 x13_1).f2.f0), ((rd_T35 l0 x13_1).f2.f1)⟩ : S33)⟩ : S35) )) (Reps.none _ _)))); intro v316 w63 ho64 hb hg_ hnew_; clear hg_ hnew_; (rw [← Ny315.out] at ho64); have n0_ := Aside0.mk (Kd.R_elder' (by (with_reducible repeat (fail)); exact HO_12.out) (Kd.R_base ho64) hb); have n1_ := Aside0.mk (Kd.R_lower (Kd.R_newB (Kd.R_newB (Kd.R_new' ho64 (Kd.R_lt (by (with_reducible repeat (fail)); exact HO_12.out))) (g := gb291) (o := .cells #[.int .i64 ((rd_T35 l0 x13_1).f0), .int .i64 ((rd_T35 l0 x13_1).f1.f0), .int .i64 ((rd_T35 l0 x13_1).f1.f1), .int .i64 ((rd_T35 l0 x13_1).f2.f0), .int .i64 ((rd_T35 l0 x13_1).f2.f1)] 35 (0, 0)) (by (with_reducible repeat (fail)); exact BK291.out)) (g := gb292) (o := .cells #[.int .i64 ((rd_T35 l0 x13_1).f0), .int .i64 ((rd_T35 l0 x13_1).f1.f0), .int .i64 ((rd_T35 l0 x13_1).f1.f1), .int .i64 ((rd_T35 l0 x13_1).f2.f0), .int .i64 ((rd_T35 l0 x13_1).f2.f1)] 35 (0, 0)) (by (with_reducible repeat (fail)); exact BK292.out)) (below_size (by repeat ((with_reducible exact HB.out))))); have n2_ := Aside0.mk (blk_below (g := gb291) (o := .cells #[.int .i64 ((rd_T35 l0 x13_1).f0), .int .i64 ((rd_T35 l0 x13_1).f1.f0), .int .i64 ((rd_T35 l0 x13_1).f1.f1), .int .i64 ((rd_T35 l0 x13_1).f2.f0), .int .i64 ((rd_T35 l0 x13_1).f2.f1)] 35 (0, 0)) (by (with_reducible repeat (fail)); exact BK291.out) hb); have n3_ := Aside0.mk (blk_below (g := gb292) (o := .cells #[.int .i64 ((rd_T35 l0 x13_1).f0), .int .i64 ((rd_T35 l0 x13_1).f1.f0), .int .i64 ((rd_T35 l0 x13_1).f1.f1), .int .i64 ((rd_T35 l0 x13_1).f2.f0), .int .i64 ((rd_T35 l0 x13_1).f2.f1)] 35 (0, 0)) (by (with_reducible repeat (fail)); exact BK292.out) hb); have n4_ := Aside0.mk (below_step (by repeat ((with_reducible exact HB.out))) hb); clear HO_12; clear BK291; clear BK292; clear HB; have HO_12 := n0_; have HO317 := n1_; have BK291 := n2_; have BK292 := n3_; have HB := n4_; clear n0_ n1_ n2_ n3_ n4_; clear hb ho64; obtain ⟨Ao66, co66, eo66⟩ := Kd.R_slice HO317.out; subst eo66) | ((with_reducible refine gate_builtin (b := .append) (xs := #[.tmp 97, .tmp 100]) rfl ?_); (try (refine gate_guard (by rfl) ?_; dsimp only)); at_builtin; refine Kd.R_append_rows k35 (w0 := w) w.heap.size rfl (.tmp 97) (.tmp 100) 22 35 (.agg #[(.int .i64 0), (.int .i64 0), (.int .i64 0), (.int .i64 0), (.int .i64 0)]) 40 rfl Try.underlying22 info35 rfl (by decide) (by omega) u12 x12_1 y315 _ _ _ (fun k_ => some k_ ≠ (.slice Ao66 y315.length co66 : Value).ownBlock ∧ k_ ≠ gb291 ∧ k_ ≠ gb292) (fun _ => False) rfl rfl ?aO ?aR (fun _ _ h => h) (fun _ h => h.elim) ?aF ?aB ?aS ?aL ?_; (case aR => repeat (exact (Kd.R_reads' HO317.out).2.2)); (case aB => exact (by repeat ((with_reducible exact HB.out)))); (case aF => exact (fun k_ hk => ⟨Kd.fresh' (Kd.R_lt (by (with_reducible repeat (fail)); exact HO317.out)) k_ hk, Kd.freshB (g := gb291) (o := .cells #[.int .i64 ((rd_T35 l0 x13_1).f0), .int .i64 ((rd_T35 l0 x13_1).f1.f0), .int .i64 ((rd_T35 l0 x13_1).f1.f1), .int .i64 ((rd_T35 l0 x13_1).f2.f0), .int .i64 ((rd_T35 l0 x13_1).f2.f1)] 35 (0, 0)) (by (with_reducible repeat (fail)); exact BK291.out) k_ hk, Kd.freshB (g := gb292) (o := .cells #[.int .i64 ((rd_T35 l0 x13_1).f0), .int .i64 ((rd_T35 l0 x13_1).f1.f0), .int .i64 ((rd_T35 l0 x13_1).f1.f1), .int .i64 ((rd_T35 l0 x13_1).f2.f0), .int .i64 ((rd_T35 l0 x13_1).f2.f1)] 35 (0, 0)) (by (with_reducible repeat (fail)); exact BK292.out) k_ hk⟩)); (case aO => exact (by (with_reducible repeat (fail)); exact Kd.R_mono HO_12.out (fun _ hk => ⟨hk.2, ⟨hk.1.1, hk.1.2⟩⟩))); (case aS => exact (below_size (by repeat ((with_reducible exact HB.out))))); (case aL => have := LMc59.out; omega); intro v319 w65 ho hb hg hat; rw [← Ny318.out] at ho; have n0_ := Aside0.mk (blk_grown (g := gb291) (o := .cells #[.int .i64 ((rd_T35 l0 x13_1).f0), .int .i64 ((rd_T35 l0 x13_1).f1.f0), .int .i64 ((rd_T35 l0 x13_1).f1.f1), .int .i64 ((rd_T35 l0 x13_1).f2.f0), .int .i64 ((rd_T35 l0 x13_1).f2.f1)] 35 (0, 0)) (by (with_reducible repeat (fail)); exact BK291.out) hg (Kd.R_away HO_12.out (fun _ hk => hk.1.1))); have n1_ := Aside0.mk (blk_grown (g := gb292) (o := .cells #[.int .i64 ((rd_T35 l0 x13_1).f0), .int .i64 ((rd_T35 l0 x13_1).f1.f0), .int .i64 ((rd_T35 l0 x13_1).f1.f1), .int .i64 ((rd_T35 l0 x13_1).f2.f0), .int .i64 ((rd_T35 l0 x13_1).f2.f1)] 35 (0, 0)) (by (with_reducible repeat (fail)); exact BK292.out) hg (Kd.R_away HO_12.out (fun _ hk => hk.1.2))); have n2_ := Aside0.mk (Kd.R_after (ok := (fun k_ => k_ ≠ gb291 ∧ k_ ≠ gb292)) (by (with_reducible repeat (fail)); exact Kd.R_mono HO317.out (fun _ hk => ⟨⟨hk.1.2, hk.2⟩, hk.1.1.2⟩)) hg hat); have n3_ := Aside0.mk (hb); have n4_ := Aside0.mk (ho); clear BK291; clear BK292; clear HO317; clear HB; clear HO_12; have BK291 := n0_; have BK292 := n1_; have HO317 := n2_; have HB := n3_; have HO320 := n4_; clear n0_ n1_ n2_ n3_ n4_; clear ho hb hg hat))
                            go_roundg kj13
                            case measure => have := HK1.out; have := HJ13.out; omega
                            case rel => exact ⟨(y318), (wrap64 (x13_1 - 1)), (by rfl), H', ⟨by have := HK1.out; have := HJ13.out; omega⟩, ⟨by (with_reducible repeat (fail)); exact Kd.R_mono HO320.out (fun _ hk => trivial)⟩, ⟨by repeat ((with_reducible exact HB.out))⟩⟩
                          · rw [if_neg c59] at H
                            exact absurd H (by simp)
                      · rw [if_neg c40] at H
                        exact absurd H (by simp)
                    · rw [if_neg c39] at H
                      exact absurd H (by simp)
            · rw [if_neg c13] at H
              exact absurd H (by simp)
          · rw [if_neg c12] at H
            exact absurd H (by simp)
        · rw [if_neg c11] at H
          have c11b0 : decide (0 ≤ x13_1) = false := decide_eq_false c11
          clear c11
          have HC67 := Aside0.mk H
          clear H
          go_upto_if 104 with (fail)
          go_cut [12] (fun v12 wc => ∃ (kq : Nat) (x12_66 : List (S35)), Aside0 (formelaw03_ZoneOne.j2 kq l0 l1 t287 x12_66 = some r) ∧ Aside0 (kq ≤ k1) ∧ Aside0 (Kd.R k35 35 wc w.heap.size (fun _ => True) v12 x12_66) ∧ Aside0 (Below w.heap.size w wc))
          case first =>
            have H := HC67.out
            clear HC67
            by_cases c68 : (l0.length : Int) > 0
            · rw [if_pos c68] at H
              have c68b0 : decide (0 < (l0.length : Int)) = true := decide_eq_true c68
              have c68b1 : decide (0 < l0.length) = true := decide_eq_true (by omega)
              clear c68
              (skip)
              by_cases c69 : (l0.length : Int) = 0
              · rw [if_pos c69] at H
                exact absurd H (by simp)
              · rw [if_neg c69] at H
                have c69b0 : ((l0.length : Int) == 0) = false := beq_eq_false_iff_ne.mpr c69
                have c69b1 : ((l0.length : Int) != 0) = true := bne_iff_ne.mpr c69
                have c69b2 : ¬ (l0 = []) := fun h_ => c69 (by rw [h_]; rfl)
                obtain ⟨ji70, hji70⟩ : ∃ j_ : Int, (Int.tmod (wrap64 (a4)) (l0.length : Int)) = j_ := ⟨_, rfl⟩
                replace H : (if 0 ≤ (ji70) then (if (ji70) < (l0.length : Int) then (if x12_1.length < 3518437208883 then (formelaw03_ZoneOne.j2 k1 l0 l1 t287 (x12_1 ++ [(⟨(rd_T35 l0 (ji70)).f0, (⟨(rd_T35 l0 (ji70)).f1.f0, (rd_T35 l0 (ji70)).f1.f1⟩ : S33), (⟨(rd_T35 l0 (ji70)).f2.f0, (rd_T35 l0 (ji70)).f2.f1⟩ : S33)⟩ : S35)])) else (none)) else (none)) else (none)) = some r := by (rw [hji70] at H; exact H)
                by_cases c71 : 0 ≤ (ji70)
                · rw [if_pos c71] at H
                  have c71b0 : decide (0 ≤ (ji70)) = true := decide_eq_true c71
                  clear c71
                  by_cases c72 : (ji70) < (l0.length : Int)
                  · rw [if_pos c72] at H
                    have c72b0 : decide ((ji70) < (l0.length : Int)) = true := decide_eq_true c72
                    clear c72
                    by_cases c73 : x12_1.length < 3518437208883
                    · rw [if_pos c73] at H
                      have LMc73 := Aside0.mk c73
                      clear c73
                      obtain ⟨y322, hy322⟩ : ∃ y_ : List (S35), y_ = (x12_1 ++ [(⟨(rd_T35 l0 (ji70)).f0, (⟨(rd_T35 l0 (ji70)).f1.f0, (rd_T35 l0 (ji70)).f1.f1⟩ : S33), (⟨(rd_T35 l0 (ji70)).f2.f0, (rd_T35 l0 (ji70)).f2.f1⟩ : S33)⟩ : S35)]) := ⟨_, rfl⟩
                      replace H : (formelaw03_ZoneOne.j2 k1 l0 l1 t287 y322) = some r := by (rw [hy322]; with_reducible exact H)
                      have Ny322 := Aside0.mk hy322
                      clear hy322
                      have H' := Aside0.mk H
                      clear H
                      have p321 : 0 ≤ ((ji70) : Int) := of_decide_eq_true (by (with_reducible assumption))
                      have q321 : (ji70) < (l0.length : Int) := of_decide_eq_true (by (with_reducible assumption))
                      obtain ⟨ad321, e321, hx321_0, hx321_1, hx321_2, hx321_3, hx321_4⟩ := at_T35 HR0.out (ji70) p321 q321
                      cases e321
                      replace hx321_0 := (HB.out.cell (World.block_lt_of_cell? w _ hx321_0)).trans hx321_0
                      replace hx321_1 := (HB.out.cell (World.block_lt_of_cell? w _ hx321_1)).trans hx321_1
                      replace hx321_2 := (HB.out.cell (World.block_lt_of_cell? w _ hx321_2)).trans hx321_2
                      replace hx321_3 := (HB.out.cell (World.block_lt_of_cell? w _ hx321_3)).trans hx321_3
                      replace hx321_4 := (HB.out.cell (World.block_lt_of_cell? w _ hx321_4)).trans hx321_4
                      replace p321 := eq_true p321
                      replace q321 := eq_true q321
                      go_wp2_with (((with_reducible refine gate_builtin (b := .append) (xs := #[.tmp 105, .tmp 114]) rfl ?_); (try (refine gate_guard (by rfl) ?_; dsimp only)); at_builtin; refine Kd.R_append k35 (w0 := w) w.heap.size rfl (.tmp 105) (.tmp 114) 22 35 (.agg #[(.int .i64 0), (.int .i64 0), (.int .i64 0), (.int .i64 0), (.int .i64 0)]) 40 rfl Try.underlying22 info35 rfl (by decide) (by omega) u12 x12_1 (⟨(rd_T35 l0 (ji70)).f0, (⟨(rd_T35 l0 (ji70)).f1.f0, (rd_T35 l0 (ji70)).f1.f1⟩ : S33), (⟨(rd_T35 l0 (ji70)).f2.f0, (rd_T35 l0 (ji70)).f2.f1⟩ : S33)⟩ : S35) [.int .i64 ((rd_T35 l0 (ji70)).f0), .int .i64 ((rd_T35 l0 (ji70)).f1.f0), .int .i64 ((rd_T35 l0 (ji70)).f1.f1), .int .i64 ((rd_T35 l0 (ji70)).f2.f0), .int .i64 ((rd_T35 l0 (ji70)).f2.f1)] (fun _ => True) (fun _ => False) rfl rfl ?aP (fun _ hk => hk.elim) ?aF ?aO ?aB ?aS ?aL ?_; (case aP => exact k35_mkM _ _ _ (⟨(rd_T35 l0 (ji70)).f0, (⟨(rd_T35 l0 (ji70)).f1.f0, (rd_T35 l0 (ji70)).f1.f1⟩ : S33), (⟨(rd_T35 l0 (ji70)).f2.f0, (rd_T35 l0 (ji70)).f2.f1⟩ : S33)⟩ : S35)); (case aB => exact (by repeat ((with_reducible exact HB.out)))); (case aF => exact (fun _ _ => trivial)); (case aO => exact (by (with_reducible repeat (fail)); exact HO_12.out)); (case aS => exact (below_size (by repeat ((with_reducible exact HB.out))))); (case aL => have := LMc73.out; omega); intro v323 w74 ho hb hg hat; rw [← Ny322.out] at ho; have n0_ := Aside0.mk (hb); have n1_ := Aside0.mk (ho); clear HB; clear HO_12; have HB := n0_; have HO324 := n1_; clear n0_ n1_; clear ho hb hg hat))
                      go_meet
                      case rel => exact ⟨_, (y322), H', ⟨by have := HK1.out; omega⟩, ⟨by (with_reducible repeat (fail)); exact HO324.out⟩, ⟨by repeat ((with_reducible exact HB.out))⟩⟩
                    · rw [if_neg c73] at H
                      exact absurd H (by simp)
                  · rw [if_neg c72] at H
                    exact absurd H (by simp)
                · rw [if_neg c71] at H
                  exact absurd H (by simp)
            · rw [if_neg c68] at H
              have c68b0 : decide (0 < (l0.length : Int)) = false := decide_eq_false c68
              have c68b1 : decide (0 < l0.length) = false := decide_eq_false (by omega)
              clear c68
              (skip)
              have H' := Aside0.mk H
              clear H
              go_wp2
              any_goals (try (exfalso; have h_ := of_decide_eq_false c68b1; omega))
              go_meet
              case rel => exact ⟨_, (x12_1), H', ⟨by have := HK1.out; omega⟩, ⟨by (with_reducible repeat (fail)); exact HO_12.out⟩, ⟨by repeat ((with_reducible exact HB.out))⟩⟩
          case rest =>
            clear HC67
            try clear c11b0
            obtain ⟨kq, x12_66, HA, HJ66, HO_12, HB⟩ := hcut
            cases kq with
            | zero => exact absurd HA.out (by simp [formelaw03_ZoneOne.j2])
            | succ kj66 =>
              have H := HA.out
              clear HA
              simp only [formelaw03_ZoneOne.j2] at H
              replace H := Option.bind_eq_some_iff.mp H
              obtain ⟨⟨t325, t326⟩, A750, H⟩ := H
              replace H : ((zone_Canon.f x12_66).bind fun bt329 => (if t326 = 0 then (if bt329.2 = 0 then ((formeref03_Same.f kj66 t325 bt329.1).bind fun t333 => (formelaw03_ZoneOne.j3 kj66 l0 l1 t287 t325 (!t333))) else (formelaw03_ZoneOne.j3 kj66 l0 l1 t287 t325 true)) else (formelaw03_ZoneOne.j3 kj66 l0 l1 t287 t325 true))) = some r := H
              have A75 := Aside0.mk A750
              clear A750
              replace H := Option.bind_eq_some_iff.mp H
              obtain ⟨⟨t329, t330⟩, A760, H⟩ := H
              replace H : (if t326 = 0 then (if t330 = 0 then ((formeref03_Same.f kj66 t325 t329).bind fun t333 => (formelaw03_ZoneOne.j3 kj66 l0 l1 t287 t325 (!t333))) else (formelaw03_ZoneOne.j3 kj66 l0 l1 t287 t325 true)) else (formelaw03_ZoneOne.j3 kj66 l0 l1 t287 t325 true)) = some r := H
              have A76 := Aside0.mk A760
              clear A760
              have HC77 := Aside0.mk H
              clear H
              go_upto_region 18 with (first | ((with_reducible refine gate_callee (f := 11) rfl ?_); refine goesL_ (some 118) rfl rfl Try.func11 (by kernel_rfl) rfl #[.slice A0 l0.length c0] rfl (by (try simp only [List.map_toArray, List.map_cons, List.map_nil]); rfl) ?_; (with_reducible refine (zone_Canon.calls _ _ l0 t325 t326 _ ?side1 ?side2 A75.out).mono ?_); (case side1 => repeat (exact (Kd.C_below HR0.out HB.out))); (case side2 => exact HC0.out); rintro e w78 ⟨v327, rfl, ho0, hb⟩; refine ⟨_, rfl, ?_⟩; have n0_ := Aside0.mk (Kd.R_elder' (by (with_reducible repeat (fail)); exact HO_12.out) (Kd.R_base ho0) hb); have n1_ := Aside0.mk (Kd.R_lower (Kd.R_new' ho0 (Kd.R_lt (by (with_reducible repeat (fail)); exact HO_12.out))) (below_size (by repeat ((with_reducible exact HB.out))))); have n2_ := Aside0.mk (below_step (by repeat ((with_reducible exact HB.out))) hb); clear HO_12; clear HB; have HO_12 := n0_; have HO328 := n1_; have HB := n2_; clear n0_ n1_ n2_; (try clear hb); (try clear ho0); obtain ⟨Ao79, co79, eo79⟩ := Kd.R_slice HO_12.out; subst eo79) | ((with_reducible refine gate_callee (f := 11) rfl ?_); refine goesL_ (some 123) rfl rfl Try.func11 (by kernel_rfl) rfl #[.slice Ao79 x12_66.length co79] rfl (by (try simp only [List.map_toArray, List.map_cons, List.map_nil]); rfl) ?_; (with_reducible refine (zone_Canon.calls _ _ x12_66 t329 t330 _ ?side1 ?side2 A76.out).mono ?_); (case side1 => repeat (exact (Kd.R_reads' HO_12.out).2.2)); (case side2 => exact (Kd.R_reads' HO_12.out).2.1); rintro e w80 ⟨v331, rfl, ho0, hb⟩; refine ⟨_, rfl, ?_⟩; have n0_ := Aside0.mk (Kd.R_elder' (by (with_reducible repeat (fail)); exact HO_12.out) (Kd.R_base ho0) hb); have n1_ := Aside0.mk (Kd.R_elder' (by (with_reducible repeat (fail)); exact HO328.out) (Kd.R_base ho0) hb); have n2_ := Aside0.mk (Kd.R_lower (Kd.R_new' (Kd.R_new' ho0 (Kd.R_lt (by (with_reducible repeat (fail)); exact HO_12.out))) (Kd.R_lt (by (with_reducible repeat (fail)); exact HO328.out))) (below_size (by repeat ((with_reducible exact HB.out))))); have n3_ := Aside0.mk (below_step (by repeat ((with_reducible exact HB.out))) hb); clear HO_12; clear HO328; clear HB; have HO_12 := n0_; have HO328 := n1_; have HO332 := n2_; have HB := n3_; clear n0_ n1_ n2_ n3_; (try clear hb); (try clear ho0)))
              (try simp only [Act.put, List.setIfInBounds_toArray, List.set_cons_zero, List.set_cons_succ])
              go_cut [137] (fun v137 wc => ∃ (kq : Nat) (x137_76 : Bool), v137 = .bool x137_76 ∧ Aside0 (formelaw03_ZoneOne.j3 kq l0 l1 t287 t325 x137_76 = some r) ∧ Aside0 (kq ≤ kj66) ∧ Aside0 (Kd.R k35 35 wc w.heap.size (fun _ => True) v327 t325) ∧ Aside0 (Below w.heap.size w wc))
              case first =>
                have H := HC77.out
                clear HC77
                by_cases c81 : t326 = 0
                · rw [if_pos c81] at H
                  have c81b0 : (t326 == 0) = true := beq_iff_eq.mpr c81
                  have c81b1 : (t326 != 0) = false := bne_eq_false_iff_eq.mpr c81
                  clear c81
                  (skip)
                  by_cases c82 : t330 = 0
                  · rw [if_pos c82] at H
                    have c82b0 : (t330 == 0) = true := beq_iff_eq.mpr c82
                    have c82b1 : (t330 != 0) = false := bne_eq_false_iff_eq.mpr c82
                    clear c82
                    replace H := Option.bind_eq_some_iff.mp H
                    obtain ⟨t333, A830, H⟩ := H
                    replace H : (formelaw03_ZoneOne.j3 kj66 l0 l1 t287 t325 (!t333)) = some r := H
                    have A83 := Aside0.mk A830
                    clear A830
                    have H' := Aside0.mk H
                    clear H
                    obtain ⟨Ao84, co84, eo84⟩ := Kd.R_slice HO328.out
                    subst eo84
                    obtain ⟨Ao85, co85, eo85⟩ := Kd.R_slice HO332.out
                    subst eo85
                    go_wp2_with ((go_at_call 12; (with_reducible refine (formeref03_Same.calls kj66 _ _ t325 _ _ t329 t333 _ ?side1 ?side2 ?side3 ?side4 A83.out).mono ?_); (case side1 => repeat (exact (Kd.R_reads' HO328.out).2.2)); (case side2 => exact (Kd.R_reads' HO328.out).2.1); (case side3 => repeat (exact (Kd.R_reads' HO332.out).2.2)); (case side4 => exact (Kd.R_reads' HO332.out).2.1); rintro e w' ⟨rfl, ⟨nd, rfl⟩⟩))
                    go_meet
                    case rel => exact ⟨_, (!t333), (by rfl), H', ⟨by have := HK1.out; have := HJ66.out; omega⟩, ⟨by (with_reducible repeat (apply Kd.R_drewN)); exact Kd.R_mono HO328.out (fun _ hk => trivial)⟩, ⟨by repeat ((with_reducible first | exact HB.out | apply pw_below_drewN))⟩⟩
                  · rw [if_neg c82] at H
                    have c82b0 : (t330 == 0) = false := beq_eq_false_iff_ne.mpr c82
                    have c82b1 : (t330 != 0) = true := bne_iff_ne.mpr c82
                    have H' := Aside0.mk H
                    clear H
                    go_wp2
                    go_meet
                    case rel => exact ⟨_, (true), (by rfl), H', ⟨by have := HK1.out; have := HJ66.out; omega⟩, ⟨by (with_reducible repeat (fail)); exact Kd.R_mono HO328.out (fun _ hk => trivial)⟩, ⟨by repeat ((with_reducible exact HB.out))⟩⟩
                · rw [if_neg c81] at H
                  have c81b0 : (t326 == 0) = false := beq_eq_false_iff_ne.mpr c81
                  have c81b1 : (t326 != 0) = true := bne_iff_ne.mpr c81
                  (skip)
                  have H' := Aside0.mk H
                  clear H
                  go_wp2
                  go_meet
                  case rel => exact ⟨_, (true), (by rfl), H', ⟨by have := HK1.out; have := HJ66.out; omega⟩, ⟨by (with_reducible repeat (fail)); exact Kd.R_mono HO328.out (fun _ hk => trivial)⟩, ⟨by repeat ((with_reducible exact HB.out))⟩⟩
              case rest =>
                clear HC77
                obtain ⟨kq, x137_76, rfl, HA, HJ76, HO_16, HB⟩ := hcut
                cases kq with
                | zero => exact absurd HA.out (by simp [formelaw03_ZoneOne.j3])
                | succ kj76 =>
                  have H := HA.out
                  clear HA
                  simp only [formelaw03_ZoneOne.j3] at H
                  by_cases c86 : x137_76 = true
                  · subst c86
                    have H1 : (some false) = some r := by rw [if_pos rfl] at H; exact H
                    clear H
                    have H := H1
                    clear H1
                    obtain rfl := Option.some.inj H
                    go_wp2
                    go_ret
                    exact ⟨by rfl, by repeat ((with_reducible exact HB.out))⟩
                  · replace c86 := Bool.eq_false_iff.mpr c86
                    subst c86
                    have H1 : ((zone_Less.f l0 l1).bind fun bt334 => ((zone_Less.f l1 l0).bind fun bt338 => ((zone_Canon.f l1).bind fun bt342 => (if t287 = true then (if bt334.2 = 0 then (if bt338.2 = 0 then (if bt342.2 = 0 then ((formeref03_Same.f kj76 t325 bt342.1).bind fun t346 => (some (((wrap64 ((bt334.1.length : Int) + (bt338.1.length : Int))) == 0) == t346))) else (some false)) else (some false)) else (some false)) else (some false))))) = some r := by rw [if_neg (show ¬ (false = true) by decide)] at H; exact H
                    clear H
                    have H := H1
                    clear H1
                    replace H := Option.bind_eq_some_iff.mp H
                    obtain ⟨⟨t334, t335⟩, A870, H⟩ := H
                    replace H : ((zone_Less.f l1 l0).bind fun bt338 => ((zone_Canon.f l1).bind fun bt342 => (if t287 = true then (if t335 = 0 then (if bt338.2 = 0 then (if bt342.2 = 0 then ((formeref03_Same.f kj76 t325 bt342.1).bind fun t346 => (some (((wrap64 ((t334.length : Int) + (bt338.1.length : Int))) == 0) == t346))) else (some false)) else (some false)) else (some false)) else (some false)))) = some r := H
                    have A87 := Aside0.mk A870
                    clear A870
                    replace H := Option.bind_eq_some_iff.mp H
                    obtain ⟨⟨t338, t339⟩, A880, H⟩ := H
                    replace H : ((zone_Canon.f l1).bind fun bt342 => (if t287 = true then (if t335 = 0 then (if t339 = 0 then (if bt342.2 = 0 then ((formeref03_Same.f kj76 t325 bt342.1).bind fun t346 => (some (((wrap64 ((t334.length : Int) + (t338.length : Int))) == 0) == t346))) else (some false)) else (some false)) else (some false)) else (some false))) = some r := H
                    have A88 := Aside0.mk A880
                    clear A880
                    replace H := Option.bind_eq_some_iff.mp H
                    obtain ⟨⟨t342, t343⟩, A890, H⟩ := H
                    replace H : (if t287 = true then (if t335 = 0 then (if t339 = 0 then (if t343 = 0 then ((formeref03_Same.f kj76 t325 t342).bind fun t346 => (some (((wrap64 ((t334.length : Int) + (t338.length : Int))) == 0) == t346))) else (some false)) else (some false)) else (some false)) else (some false)) = some r := H
                    have A89 := Aside0.mk A890
                    clear A890
                    by_cases c90 : t287 = true
                    · subst c90
                      have H1 : (if t335 = 0 then (if t339 = 0 then (if t343 = 0 then ((formeref03_Same.f kj76 t325 t342).bind fun t346 => (some (((wrap64 ((t334.length : Int) + (t338.length : Int))) == 0) == t346))) else (some false)) else (some false)) else (some false)) = some r := by rw [if_pos rfl] at H; exact H
                      clear H
                      have H := H1
                      clear H1
                      by_cases c91 : t335 = 0
                      · rw [if_pos c91] at H
                        have c91b0 : (t335 == 0) = true := beq_iff_eq.mpr c91
                        have c91b1 : (t335 != 0) = false := bne_eq_false_iff_eq.mpr c91
                        clear c91
                        by_cases c92 : t339 = 0
                        · rw [if_pos c92] at H
                          have c92b0 : (t339 == 0) = true := beq_iff_eq.mpr c92
                          have c92b1 : (t339 != 0) = false := bne_eq_false_iff_eq.mpr c92
                          clear c92
                          by_cases c93 : t343 = 0
                          · rw [if_pos c93] at H
                            have c93b0 : (t343 == 0) = true := beq_iff_eq.mpr c93
                            have c93b1 : (t343 != 0) = false := bne_eq_false_iff_eq.mpr c93
                            clear c93
                            replace H := Option.bind_eq_some_iff.mp H
                            obtain ⟨t346, A940, H⟩ := H
                            replace H : (some (((wrap64 ((t334.length : Int) + (t338.length : Int))) == 0) == t346)) = some r := H
                            have A94 := Aside0.mk A940
                            clear A940
                            obtain rfl := Option.some.inj H
                            go_wp2_with (first | ((with_reducible refine gate_callee (f := 17) rfl ?_); refine goesL_ (some 141) rfl rfl Try.func17 (by kernel_rfl) rfl #[.slice A0 l0.length c0, .slice A1 l1.length c1] rfl (by (try simp only [List.map_toArray, List.map_cons, List.map_nil]); rfl) ?_; (with_reducible refine (zone_Less.calls _ _ l0 _ _ l1 t334 t335 _ ?side1 ?side2 ?side3 ?side4 A87.out).mono ?_); (case side1 => repeat (exact (Kd.C_below HR0.out HB.out))); (case side2 => exact HC0.out); (case side3 => repeat (exact (Kd.C_below HR1.out HB.out))); (case side4 => exact HC1.out); rintro e w95 ⟨v336, rfl, ho0, hb⟩; refine ⟨_, rfl, ?_⟩; have n0_ := Aside0.mk (Kd.R_elder' (by (with_reducible repeat (fail)); exact HO_16.out) (Kd.R_base ho0) hb); have n1_ := Aside0.mk (Kd.R_lower (Kd.R_new' ho0 (Kd.R_lt (by (with_reducible repeat (fail)); exact HO_16.out))) (below_size (by repeat ((with_reducible exact HB.out))))); have n2_ := Aside0.mk (below_step (by repeat ((with_reducible exact HB.out))) hb); clear HO_16; clear HB; have HO_16 := n0_; have HO337 := n1_; have HB := n2_; clear n0_ n1_ n2_; (try clear hb); (try clear ho0)) | ((with_reducible refine gate_callee (f := 17) rfl ?_); refine goesL_ (some 147) rfl rfl Try.func17 (by kernel_rfl) rfl #[.slice A1 l1.length c1, .slice A0 l0.length c0] rfl (by (try simp only [List.map_toArray, List.map_cons, List.map_nil]); rfl) ?_; (with_reducible refine (zone_Less.calls _ _ l1 _ _ l0 t338 t339 _ ?side1 ?side2 ?side3 ?side4 A88.out).mono ?_); (case side1 => repeat (exact (Kd.C_below HR1.out HB.out))); (case side2 => exact HC1.out); (case side3 => repeat (exact (Kd.C_below HR0.out HB.out))); (case side4 => exact HC0.out); rintro e w96 ⟨v340, rfl, ho0, hb⟩; refine ⟨_, rfl, ?_⟩; have n0_ := Aside0.mk (Kd.R_elder' (by (with_reducible repeat (fail)); exact HO_16.out) (Kd.R_base ho0) hb); have n1_ := Aside0.mk (Kd.R_elder' (by (with_reducible repeat (fail)); exact HO337.out) (Kd.R_base ho0) hb); have n2_ := Aside0.mk (Kd.R_lower (Kd.R_new' (Kd.R_new' ho0 (Kd.R_lt (by (with_reducible repeat (fail)); exact HO_16.out))) (Kd.R_lt (by (with_reducible repeat (fail)); exact HO337.out))) (below_size (by repeat ((with_reducible exact HB.out))))); have n3_ := Aside0.mk (below_step (by repeat ((with_reducible exact HB.out))) hb); clear HO_16; clear HO337; clear HB; have HO_16 := n0_; have HO337 := n1_; have HO341 := n2_; have HB := n3_; clear n0_ n1_ n2_ n3_; (try clear hb); (try clear ho0)) | ((with_reducible refine gate_callee (f := 11) rfl ?_); refine goesL_ (some 152) rfl rfl Try.func11 (by kernel_rfl) rfl #[.slice A1 l1.length c1] rfl (by (try simp only [List.map_toArray, List.map_cons, List.map_nil]); rfl) ?_; (with_reducible refine (zone_Canon.calls _ _ l1 t342 t343 _ ?side1 ?side2 A89.out).mono ?_); (case side1 => repeat (exact (Kd.C_below HR1.out HB.out))); (case side2 => exact HC1.out); rintro e w97 ⟨v344, rfl, ho0, hb⟩; refine ⟨_, rfl, ?_⟩; have n0_ := Aside0.mk (Kd.R_elder' (by (with_reducible repeat (fail)); exact HO_16.out) (Kd.R_base ho0) hb); have n1_ := Aside0.mk (Kd.R_elder' (by (with_reducible repeat (fail)); exact HO337.out) (Kd.R_base ho0) hb); have n2_ := Aside0.mk (Kd.R_elder' (by (with_reducible repeat (fail)); exact HO341.out) (Kd.R_base ho0) hb); have n3_ := Aside0.mk (Kd.R_lower (Kd.R_new' (Kd.R_new' (Kd.R_new' ho0 (Kd.R_lt (by (with_reducible repeat (fail)); exact HO_16.out))) (Kd.R_lt (by (with_reducible repeat (fail)); exact HO337.out))) (Kd.R_lt (by (with_reducible repeat (fail)); exact HO341.out))) (below_size (by repeat ((with_reducible exact HB.out))))); have n4_ := Aside0.mk (below_step (by repeat ((with_reducible exact HB.out))) hb); clear HO_16; clear HO337; clear HO341; clear HB; have HO_16 := n0_; have HO337 := n1_; have HO341 := n2_; have HO345 := n3_; have HB := n4_; clear n0_ n1_ n2_ n3_ n4_; (try clear hb); (try clear ho0); obtain ⟨Ao98, co98, eo98⟩ := Kd.R_slice HO337.out; subst eo98; obtain ⟨Ao99, co99, eo99⟩ := Kd.R_slice HO341.out; subst eo99; obtain ⟨Ao100, co100, eo100⟩ := Kd.R_slice HO_16.out; subst eo100; obtain ⟨Ao101, co101, eo101⟩ := Kd.R_slice HO345.out; subst eo101) | (go_at_call 12; (with_reducible refine (formeref03_Same.calls kj76 _ _ t325 _ _ t342 t346 _ ?side1 ?side2 ?side3 ?side4 A94.out).mono ?_); (case side1 => repeat (exact (Kd.R_reads' HO_16.out).2.2)); (case side2 => exact (Kd.R_reads' HO_16.out).2.1); (case side3 => repeat (exact (Kd.R_reads' HO345.out).2.2)); (case side4 => exact (Kd.R_reads' HO345.out).2.1); rintro e w' ⟨rfl, ⟨nd, rfl⟩⟩))
                            go_ret
                            exact ⟨by rfl, by repeat ((with_reducible first | exact HB.out | apply pw_below_drewN))⟩
                          · rw [if_neg c93] at H
                            have c93b0 : (t343 == 0) = false := beq_eq_false_iff_ne.mpr c93
                            have c93b1 : (t343 != 0) = true := bne_iff_ne.mpr c93
                            obtain rfl := Option.some.inj H
                            go_wp2_with (first | ((with_reducible refine gate_callee (f := 17) rfl ?_); refine goesL_ (some 141) rfl rfl Try.func17 (by kernel_rfl) rfl #[.slice A0 l0.length c0, .slice A1 l1.length c1] rfl (by (try simp only [List.map_toArray, List.map_cons, List.map_nil]); rfl) ?_; (with_reducible refine (zone_Less.calls _ _ l0 _ _ l1 t334 t335 _ ?side1 ?side2 ?side3 ?side4 A87.out).mono ?_); (case side1 => repeat (exact (Kd.C_below HR0.out HB.out))); (case side2 => exact HC0.out); (case side3 => repeat (exact (Kd.C_below HR1.out HB.out))); (case side4 => exact HC1.out); rintro e w102 ⟨v336, rfl, ho0, hb⟩; refine ⟨_, rfl, ?_⟩; have n0_ := Aside0.mk (Kd.R_elder' (by (with_reducible repeat (fail)); exact HO_16.out) (Kd.R_base ho0) hb); have n1_ := Aside0.mk (Kd.R_lower (Kd.R_new' ho0 (Kd.R_lt (by (with_reducible repeat (fail)); exact HO_16.out))) (below_size (by repeat ((with_reducible exact HB.out))))); have n2_ := Aside0.mk (below_step (by repeat ((with_reducible exact HB.out))) hb); clear HO_16; clear HB; have HO_16 := n0_; have HO337 := n1_; have HB := n2_; clear n0_ n1_ n2_; (try clear hb); (try clear ho0)) | ((with_reducible refine gate_callee (f := 17) rfl ?_); refine goesL_ (some 147) rfl rfl Try.func17 (by kernel_rfl) rfl #[.slice A1 l1.length c1, .slice A0 l0.length c0] rfl (by (try simp only [List.map_toArray, List.map_cons, List.map_nil]); rfl) ?_; (with_reducible refine (zone_Less.calls _ _ l1 _ _ l0 t338 t339 _ ?side1 ?side2 ?side3 ?side4 A88.out).mono ?_); (case side1 => repeat (exact (Kd.C_below HR1.out HB.out))); (case side2 => exact HC1.out); (case side3 => repeat (exact (Kd.C_below HR0.out HB.out))); (case side4 => exact HC0.out); rintro e w103 ⟨v340, rfl, ho0, hb⟩; refine ⟨_, rfl, ?_⟩; have n0_ := Aside0.mk (Kd.R_elder' (by (with_reducible repeat (fail)); exact HO_16.out) (Kd.R_base ho0) hb); have n1_ := Aside0.mk (Kd.R_elder' (by (with_reducible repeat (fail)); exact HO337.out) (Kd.R_base ho0) hb); have n2_ := Aside0.mk (Kd.R_lower (Kd.R_new' (Kd.R_new' ho0 (Kd.R_lt (by (with_reducible repeat (fail)); exact HO_16.out))) (Kd.R_lt (by (with_reducible repeat (fail)); exact HO337.out))) (below_size (by repeat ((with_reducible exact HB.out))))); have n3_ := Aside0.mk (below_step (by repeat ((with_reducible exact HB.out))) hb); clear HO_16; clear HO337; clear HB; have HO_16 := n0_; have HO337 := n1_; have HO341 := n2_; have HB := n3_; clear n0_ n1_ n2_ n3_; (try clear hb); (try clear ho0)) | ((with_reducible refine gate_callee (f := 11) rfl ?_); refine goesL_ (some 152) rfl rfl Try.func11 (by kernel_rfl) rfl #[.slice A1 l1.length c1] rfl (by (try simp only [List.map_toArray, List.map_cons, List.map_nil]); rfl) ?_; (with_reducible refine (zone_Canon.calls _ _ l1 t342 t343 _ ?side1 ?side2 A89.out).mono ?_); (case side1 => repeat (exact (Kd.C_below HR1.out HB.out))); (case side2 => exact HC1.out); rintro e w104 ⟨v344, rfl, ho0, hb⟩; refine ⟨_, rfl, ?_⟩; have n0_ := Aside0.mk (Kd.R_elder' (by (with_reducible repeat (fail)); exact HO_16.out) (Kd.R_base ho0) hb); have n1_ := Aside0.mk (Kd.R_elder' (by (with_reducible repeat (fail)); exact HO337.out) (Kd.R_base ho0) hb); have n2_ := Aside0.mk (Kd.R_elder' (by (with_reducible repeat (fail)); exact HO341.out) (Kd.R_base ho0) hb); have n3_ := Aside0.mk (Kd.R_lower (Kd.R_new' (Kd.R_new' (Kd.R_new' ho0 (Kd.R_lt (by (with_reducible repeat (fail)); exact HO_16.out))) (Kd.R_lt (by (with_reducible repeat (fail)); exact HO337.out))) (Kd.R_lt (by (with_reducible repeat (fail)); exact HO341.out))) (below_size (by repeat ((with_reducible exact HB.out))))); have n4_ := Aside0.mk (below_step (by repeat ((with_reducible exact HB.out))) hb); clear HO_16; clear HO337; clear HO341; clear HB; have HO_16 := n0_; have HO337 := n1_; have HO341 := n2_; have HO345 := n3_; have HB := n4_; clear n0_ n1_ n2_ n3_ n4_; (try clear hb); (try clear ho0)))
                            go_ret
                            exact ⟨by rfl, by repeat ((with_reducible exact HB.out))⟩
                        · rw [if_neg c92] at H
                          have c92b0 : (t339 == 0) = false := beq_eq_false_iff_ne.mpr c92
                          have c92b1 : (t339 != 0) = true := bne_iff_ne.mpr c92
                          obtain rfl := Option.some.inj H
                          go_wp2_with (first | ((with_reducible refine gate_callee (f := 17) rfl ?_); refine goesL_ (some 141) rfl rfl Try.func17 (by kernel_rfl) rfl #[.slice A0 l0.length c0, .slice A1 l1.length c1] rfl (by (try simp only [List.map_toArray, List.map_cons, List.map_nil]); rfl) ?_; (with_reducible refine (zone_Less.calls _ _ l0 _ _ l1 t334 t335 _ ?side1 ?side2 ?side3 ?side4 A87.out).mono ?_); (case side1 => repeat (exact (Kd.C_below HR0.out HB.out))); (case side2 => exact HC0.out); (case side3 => repeat (exact (Kd.C_below HR1.out HB.out))); (case side4 => exact HC1.out); rintro e w105 ⟨v336, rfl, ho0, hb⟩; refine ⟨_, rfl, ?_⟩; have n0_ := Aside0.mk (Kd.R_elder' (by (with_reducible repeat (fail)); exact HO_16.out) (Kd.R_base ho0) hb); have n1_ := Aside0.mk (Kd.R_lower (Kd.R_new' ho0 (Kd.R_lt (by (with_reducible repeat (fail)); exact HO_16.out))) (below_size (by repeat ((with_reducible exact HB.out))))); have n2_ := Aside0.mk (below_step (by repeat ((with_reducible exact HB.out))) hb); clear HO_16; clear HB; have HO_16 := n0_; have HO337 := n1_; have HB := n2_; clear n0_ n1_ n2_; (try clear hb); (try clear ho0)) | ((with_reducible refine gate_callee (f := 17) rfl ?_); refine goesL_ (some 147) rfl rfl Try.func17 (by kernel_rfl) rfl #[.slice A1 l1.length c1, .slice A0 l0.length c0] rfl (by (try simp only [List.map_toArray, List.map_cons, List.map_nil]); rfl) ?_; (with_reducible refine (zone_Less.calls _ _ l1 _ _ l0 t338 t339 _ ?side1 ?side2 ?side3 ?side4 A88.out).mono ?_); (case side1 => repeat (exact (Kd.C_below HR1.out HB.out))); (case side2 => exact HC1.out); (case side3 => repeat (exact (Kd.C_below HR0.out HB.out))); (case side4 => exact HC0.out); rintro e w106 ⟨v340, rfl, ho0, hb⟩; refine ⟨_, rfl, ?_⟩; have n0_ := Aside0.mk (Kd.R_elder' (by (with_reducible repeat (fail)); exact HO_16.out) (Kd.R_base ho0) hb); have n1_ := Aside0.mk (Kd.R_elder' (by (with_reducible repeat (fail)); exact HO337.out) (Kd.R_base ho0) hb); have n2_ := Aside0.mk (Kd.R_lower (Kd.R_new' (Kd.R_new' ho0 (Kd.R_lt (by (with_reducible repeat (fail)); exact HO_16.out))) (Kd.R_lt (by (with_reducible repeat (fail)); exact HO337.out))) (below_size (by repeat ((with_reducible exact HB.out))))); have n3_ := Aside0.mk (below_step (by repeat ((with_reducible exact HB.out))) hb); clear HO_16; clear HO337; clear HB; have HO_16 := n0_; have HO337 := n1_; have HO341 := n2_; have HB := n3_; clear n0_ n1_ n2_ n3_; (try clear hb); (try clear ho0)) | ((with_reducible refine gate_callee (f := 11) rfl ?_); refine goesL_ (some 152) rfl rfl Try.func11 (by kernel_rfl) rfl #[.slice A1 l1.length c1] rfl (by (try simp only [List.map_toArray, List.map_cons, List.map_nil]); rfl) ?_; (with_reducible refine (zone_Canon.calls _ _ l1 t342 t343 _ ?side1 ?side2 A89.out).mono ?_); (case side1 => repeat (exact (Kd.C_below HR1.out HB.out))); (case side2 => exact HC1.out); rintro e w107 ⟨v344, rfl, ho0, hb⟩; refine ⟨_, rfl, ?_⟩; have n0_ := Aside0.mk (Kd.R_elder' (by (with_reducible repeat (fail)); exact HO_16.out) (Kd.R_base ho0) hb); have n1_ := Aside0.mk (Kd.R_elder' (by (with_reducible repeat (fail)); exact HO337.out) (Kd.R_base ho0) hb); have n2_ := Aside0.mk (Kd.R_elder' (by (with_reducible repeat (fail)); exact HO341.out) (Kd.R_base ho0) hb); have n3_ := Aside0.mk (Kd.R_lower (Kd.R_new' (Kd.R_new' (Kd.R_new' ho0 (Kd.R_lt (by (with_reducible repeat (fail)); exact HO_16.out))) (Kd.R_lt (by (with_reducible repeat (fail)); exact HO337.out))) (Kd.R_lt (by (with_reducible repeat (fail)); exact HO341.out))) (below_size (by repeat ((with_reducible exact HB.out))))); have n4_ := Aside0.mk (below_step (by repeat ((with_reducible exact HB.out))) hb); clear HO_16; clear HO337; clear HO341; clear HB; have HO_16 := n0_; have HO337 := n1_; have HO341 := n2_; have HO345 := n3_; have HB := n4_; clear n0_ n1_ n2_ n3_ n4_; (try clear hb); (try clear ho0)))
                          go_ret
                          exact ⟨by rfl, by repeat ((with_reducible exact HB.out))⟩
                      · rw [if_neg c91] at H
                        have c91b0 : (t335 == 0) = false := beq_eq_false_iff_ne.mpr c91
                        have c91b1 : (t335 != 0) = true := bne_iff_ne.mpr c91
                        obtain rfl := Option.some.inj H
                        go_wp2_with (first | ((with_reducible refine gate_callee (f := 17) rfl ?_); refine goesL_ (some 141) rfl rfl Try.func17 (by kernel_rfl) rfl #[.slice A0 l0.length c0, .slice A1 l1.length c1] rfl (by (try simp only [List.map_toArray, List.map_cons, List.map_nil]); rfl) ?_; (with_reducible refine (zone_Less.calls _ _ l0 _ _ l1 t334 t335 _ ?side1 ?side2 ?side3 ?side4 A87.out).mono ?_); (case side1 => repeat (exact (Kd.C_below HR0.out HB.out))); (case side2 => exact HC0.out); (case side3 => repeat (exact (Kd.C_below HR1.out HB.out))); (case side4 => exact HC1.out); rintro e w108 ⟨v336, rfl, ho0, hb⟩; refine ⟨_, rfl, ?_⟩; have n0_ := Aside0.mk (Kd.R_elder' (by (with_reducible repeat (fail)); exact HO_16.out) (Kd.R_base ho0) hb); have n1_ := Aside0.mk (Kd.R_lower (Kd.R_new' ho0 (Kd.R_lt (by (with_reducible repeat (fail)); exact HO_16.out))) (below_size (by repeat ((with_reducible exact HB.out))))); have n2_ := Aside0.mk (below_step (by repeat ((with_reducible exact HB.out))) hb); clear HO_16; clear HB; have HO_16 := n0_; have HO337 := n1_; have HB := n2_; clear n0_ n1_ n2_; (try clear hb); (try clear ho0)) | ((with_reducible refine gate_callee (f := 17) rfl ?_); refine goesL_ (some 147) rfl rfl Try.func17 (by kernel_rfl) rfl #[.slice A1 l1.length c1, .slice A0 l0.length c0] rfl (by (try simp only [List.map_toArray, List.map_cons, List.map_nil]); rfl) ?_; (with_reducible refine (zone_Less.calls _ _ l1 _ _ l0 t338 t339 _ ?side1 ?side2 ?side3 ?side4 A88.out).mono ?_); (case side1 => repeat (exact (Kd.C_below HR1.out HB.out))); (case side2 => exact HC1.out); (case side3 => repeat (exact (Kd.C_below HR0.out HB.out))); (case side4 => exact HC0.out); rintro e w109 ⟨v340, rfl, ho0, hb⟩; refine ⟨_, rfl, ?_⟩; have n0_ := Aside0.mk (Kd.R_elder' (by (with_reducible repeat (fail)); exact HO_16.out) (Kd.R_base ho0) hb); have n1_ := Aside0.mk (Kd.R_elder' (by (with_reducible repeat (fail)); exact HO337.out) (Kd.R_base ho0) hb); have n2_ := Aside0.mk (Kd.R_lower (Kd.R_new' (Kd.R_new' ho0 (Kd.R_lt (by (with_reducible repeat (fail)); exact HO_16.out))) (Kd.R_lt (by (with_reducible repeat (fail)); exact HO337.out))) (below_size (by repeat ((with_reducible exact HB.out))))); have n3_ := Aside0.mk (below_step (by repeat ((with_reducible exact HB.out))) hb); clear HO_16; clear HO337; clear HB; have HO_16 := n0_; have HO337 := n1_; have HO341 := n2_; have HB := n3_; clear n0_ n1_ n2_ n3_; (try clear hb); (try clear ho0)) | ((with_reducible refine gate_callee (f := 11) rfl ?_); refine goesL_ (some 152) rfl rfl Try.func11 (by kernel_rfl) rfl #[.slice A1 l1.length c1] rfl (by (try simp only [List.map_toArray, List.map_cons, List.map_nil]); rfl) ?_; (with_reducible refine (zone_Canon.calls _ _ l1 t342 t343 _ ?side1 ?side2 A89.out).mono ?_); (case side1 => repeat (exact (Kd.C_below HR1.out HB.out))); (case side2 => exact HC1.out); rintro e w110 ⟨v344, rfl, ho0, hb⟩; refine ⟨_, rfl, ?_⟩; have n0_ := Aside0.mk (Kd.R_elder' (by (with_reducible repeat (fail)); exact HO_16.out) (Kd.R_base ho0) hb); have n1_ := Aside0.mk (Kd.R_elder' (by (with_reducible repeat (fail)); exact HO337.out) (Kd.R_base ho0) hb); have n2_ := Aside0.mk (Kd.R_elder' (by (with_reducible repeat (fail)); exact HO341.out) (Kd.R_base ho0) hb); have n3_ := Aside0.mk (Kd.R_lower (Kd.R_new' (Kd.R_new' (Kd.R_new' ho0 (Kd.R_lt (by (with_reducible repeat (fail)); exact HO_16.out))) (Kd.R_lt (by (with_reducible repeat (fail)); exact HO337.out))) (Kd.R_lt (by (with_reducible repeat (fail)); exact HO341.out))) (below_size (by repeat ((with_reducible exact HB.out))))); have n4_ := Aside0.mk (below_step (by repeat ((with_reducible exact HB.out))) hb); clear HO_16; clear HO337; clear HO341; clear HB; have HO_16 := n0_; have HO337 := n1_; have HO341 := n2_; have HO345 := n3_; have HB := n4_; clear n0_ n1_ n2_ n3_ n4_; (try clear hb); (try clear ho0)))
                        go_ret
                        exact ⟨by rfl, by repeat ((with_reducible exact HB.out))⟩
                    · replace c90 := Bool.eq_false_iff.mpr c90
                      subst c90
                      have H1 : (some false) = some r := by rw [if_neg (show ¬ (false = true) by decide)] at H; exact H
                      clear H
                      have H := H1
                      clear H1
                      obtain rfl := Option.some.inj H
                      go_wp2_with (first | ((with_reducible refine gate_callee (f := 17) rfl ?_); refine goesL_ (some 141) rfl rfl Try.func17 (by kernel_rfl) rfl #[.slice A0 l0.length c0, .slice A1 l1.length c1] rfl (by (try simp only [List.map_toArray, List.map_cons, List.map_nil]); rfl) ?_; (with_reducible refine (zone_Less.calls _ _ l0 _ _ l1 t334 t335 _ ?side1 ?side2 ?side3 ?side4 A87.out).mono ?_); (case side1 => repeat (exact (Kd.C_below HR0.out HB.out))); (case side2 => exact HC0.out); (case side3 => repeat (exact (Kd.C_below HR1.out HB.out))); (case side4 => exact HC1.out); rintro e w111 ⟨v336, rfl, ho0, hb⟩; refine ⟨_, rfl, ?_⟩; have n0_ := Aside0.mk (Kd.R_elder' (by (with_reducible repeat (fail)); exact HO_16.out) (Kd.R_base ho0) hb); have n1_ := Aside0.mk (Kd.R_lower (Kd.R_new' ho0 (Kd.R_lt (by (with_reducible repeat (fail)); exact HO_16.out))) (below_size (by repeat ((with_reducible exact HB.out))))); have n2_ := Aside0.mk (below_step (by repeat ((with_reducible exact HB.out))) hb); clear HO_16; clear HB; have HO_16 := n0_; have HO337 := n1_; have HB := n2_; clear n0_ n1_ n2_; (try clear hb); (try clear ho0)) | ((with_reducible refine gate_callee (f := 17) rfl ?_); refine goesL_ (some 147) rfl rfl Try.func17 (by kernel_rfl) rfl #[.slice A1 l1.length c1, .slice A0 l0.length c0] rfl (by (try simp only [List.map_toArray, List.map_cons, List.map_nil]); rfl) ?_; (with_reducible refine (zone_Less.calls _ _ l1 _ _ l0 t338 t339 _ ?side1 ?side2 ?side3 ?side4 A88.out).mono ?_); (case side1 => repeat (exact (Kd.C_below HR1.out HB.out))); (case side2 => exact HC1.out); (case side3 => repeat (exact (Kd.C_below HR0.out HB.out))); (case side4 => exact HC0.out); rintro e w112 ⟨v340, rfl, ho0, hb⟩; refine ⟨_, rfl, ?_⟩; have n0_ := Aside0.mk (Kd.R_elder' (by (with_reducible repeat (fail)); exact HO_16.out) (Kd.R_base ho0) hb); have n1_ := Aside0.mk (Kd.R_elder' (by (with_reducible repeat (fail)); exact HO337.out) (Kd.R_base ho0) hb); have n2_ := Aside0.mk (Kd.R_lower (Kd.R_new' (Kd.R_new' ho0 (Kd.R_lt (by (with_reducible repeat (fail)); exact HO_16.out))) (Kd.R_lt (by (with_reducible repeat (fail)); exact HO337.out))) (below_size (by repeat ((with_reducible exact HB.out))))); have n3_ := Aside0.mk (below_step (by repeat ((with_reducible exact HB.out))) hb); clear HO_16; clear HO337; clear HB; have HO_16 := n0_; have HO337 := n1_; have HO341 := n2_; have HB := n3_; clear n0_ n1_ n2_ n3_; (try clear hb); (try clear ho0)) | ((with_reducible refine gate_callee (f := 11) rfl ?_); refine goesL_ (some 152) rfl rfl Try.func11 (by kernel_rfl) rfl #[.slice A1 l1.length c1] rfl (by (try simp only [List.map_toArray, List.map_cons, List.map_nil]); rfl) ?_; (with_reducible refine (zone_Canon.calls _ _ l1 t342 t343 _ ?side1 ?side2 A89.out).mono ?_); (case side1 => repeat (exact (Kd.C_below HR1.out HB.out))); (case side2 => exact HC1.out); rintro e w113 ⟨v344, rfl, ho0, hb⟩; refine ⟨_, rfl, ?_⟩; have n0_ := Aside0.mk (Kd.R_elder' (by (with_reducible repeat (fail)); exact HO_16.out) (Kd.R_base ho0) hb); have n1_ := Aside0.mk (Kd.R_elder' (by (with_reducible repeat (fail)); exact HO337.out) (Kd.R_base ho0) hb); have n2_ := Aside0.mk (Kd.R_elder' (by (with_reducible repeat (fail)); exact HO341.out) (Kd.R_base ho0) hb); have n3_ := Aside0.mk (Kd.R_lower (Kd.R_new' (Kd.R_new' (Kd.R_new' ho0 (Kd.R_lt (by (with_reducible repeat (fail)); exact HO_16.out))) (Kd.R_lt (by (with_reducible repeat (fail)); exact HO337.out))) (Kd.R_lt (by (with_reducible repeat (fail)); exact HO341.out))) (below_size (by repeat ((with_reducible exact HB.out))))); have n4_ := Aside0.mk (below_step (by repeat ((with_reducible exact HB.out))) hb); clear HO_16; clear HO337; clear HO341; clear HB; have HO_16 := n0_; have HO337 := n1_; have HO341 := n2_; have HO345 := n3_; have HB := n4_; clear n0_ n1_ n2_ n3_ n4_; (try clear hb); (try clear ho0)))
                      go_ret
                      exact ⟨by rfl, by repeat ((with_reducible exact HB.out))⟩
  · replace c8 := Bool.eq_false_iff.mpr c8
    subst c8
    have H1 : (some t287) = some r := by rw [if_neg (show ¬ (false = true) by decide)] at H; exact H
    clear H
    have H := H1
    clear H1
    obtain rfl := Option.some.inj H
    go_enter Try.func4, Try.ntmps4
    go_wp2_with (first | ((with_reducible refine gate_callee (f := 9) rfl ?_); refine goesL_ (some 26) rfl rfl Try.func9 (by kernel_rfl) rfl #[] rfl (by (try simp only [List.map_toArray, List.map_cons, List.map_nil]); done) ?_; (with_reducible refine (formelaw03_head.calls  t287 _ A6.out).mono ?_); rintro e w114 ⟨rfl, hb⟩; refine ⟨_, rfl, ?_⟩; have n0_ := Aside0.mk (below_step (by repeat ((with_reducible exact HB.out))) hb); clear HB; have HB := n0_; clear n0_; (try clear hb)) | ((with_reducible refine gate_callee (f := 10) rfl ?_); refine goesL_ (some 29) rfl rfl Try.func10 (by kernel_rfl) rfl #[.slice A0 l0.length c0, .slice A1 l1.length c1] rfl (by (try simp only [List.map_toArray, List.map_cons, List.map_nil]); rfl) ?_; (with_reducible refine (formelaw03_usable.calls k _ _ l0 _ _ l1 false _ ?side1 ?side2 ?side3 ?side4 A7.out).mono ?_); (case side1 => repeat (exact (Kd.C_below HR0.out HB.out))); (case side2 => exact HC0.out); (case side3 => repeat (exact (Kd.C_below HR1.out HB.out))); (case side4 => exact HC1.out); rintro e w115 ⟨rfl, hb⟩; refine ⟨_, rfl, ?_⟩; have n0_ := Aside0.mk (below_step (by repeat ((with_reducible exact HB.out))) hb); clear HB; have HB := n0_; clear n0_; (try clear hb)))
    go_ret
    exact ⟨by rfl, by repeat ((with_reducible exact HB.out))⟩

end Go.Proofs.Ytacohlafmbhcdaa.PAll
