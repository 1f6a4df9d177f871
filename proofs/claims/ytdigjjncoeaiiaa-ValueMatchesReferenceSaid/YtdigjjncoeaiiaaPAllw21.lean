/- Printed by a program of this session (wip/gprint.py) over the translation, cut to what is named (wip/dcut.py). Not trusted: Lean checks it. -/
import Derived.Test.YtdigjjncoeaiiaaPAlld0
import Derived.Test.YtdigjjncoeaiiaaPAllw3
import Derived.Test.YtdigjjncoeaiiaaPAllw15
namespace Go.Proofs.Ytdigjjncoeaiiaa.PAll
open Go.RowKit Go.Proofs.YtdigjjncoeaiiaaW.PrintWords Go.Proofs.YtdigjjncoeaiiaaW.PrintLast Go.Proofs.YtdigjjncoeaiiaaW.PrintMore
attribute [local go_sem] max2_int min2_int max_two min_two max_three min_three max_four min_four -- for this text's walks alone
set_option linter.unusedVariables false
set_option linter.unusedSimpArgs false
section
set_option maxHeartbeats 8000000 in
set_option maxRecDepth 100000 in
theorem eval2_calls (e : S24) (width scale x0 x1 x2 x3 x4 x5 x6 x7 : Int) (A : Option Addr) (c : Nat) (w : World) (hr : Kd.C k24 w A e.f2.length e.f2) (hc : e.f2.length ≤ c) :
  Calls Try.prog 11 #[.agg #[.int .i64 e.f0, .int .i64 e.f1, .slice A e.f2.length c], .int .i64 width, .int .i64 scale, .agg #[.int .i64 x0, .int .i64 x1, .int .i64 x2, .int .i64 x3, .int .i64 x4, .int .i64 x5, .int .i64 x6, .int .i64 x7]] w fun r w' =>
   r = .returned (.tuple #[.int .i64 (evalP e width scale [x0, x1, x2, x3, x4, x5, x6, x7]).1, .int .i64 (evalP e width scale [x0, x1, x2, x3, x4, x5, x6, x7]).2]) ∧ Below w.heap.size w w' := by
 have VC := Aside0.mk (fun W h => valid_calls e A c W h hc)
 have RC := Aside0.mk (fun W => right_calls width scale x0 x1 x2 x3 x4 x5 x6 x7 W)
 have WI := Aside0.mk (fun W => value_within.calls width 0 1000000 _ W (within_of width 0 1000000))
 have OC := Aside0.mk (fun W => operators_calls W)
 have EV := Aside0.mk (fun b W (hv : validE e = true) (h1 : inI width 0 1000000 = true) (h2 : inI scale 50 300 = true) h ho => eval_calls width scale x0 x1 x2 x3 x4 x5 x6 x7 (by unfold inI at h1; simpa using h1) (by unfold inI at h2; simpa using h2) b 30 e A c W (formed_wf 30 e 100 hv) h hc ho)
 have HR := Aside0.mk hr
 clear hr
 have HB := Aside0.mk (below_alloc (below_alloc (below_alloc (Below.refl w.heap.size w) (.cells #[.int .i64 e.f0, .int .i64 e.f1, .slice A e.f2.length c] 24)) (.cells #[.int .i64 x0, .int .i64 x1, .int .i64 x2, .int .i64 x3, .int .i64 x4, .int .i64 x5, .int .i64 x6, .int .i64 x7] 25)) (.cells #[.int .i64 width, .int .i64 scale, .int .i64 x0, .int .i64 x1, .int .i64 x2, .int .i64 x3, .int .i64 x4, .int .i64 x5, .int .i64 x6, .int .i64 x7] 59))
 have N1 := Aside0.mk (blk_alloc (blk_alloc (blk_new w (.cells #[.int .i64 e.f0, .int .i64 e.f1, .slice A e.f2.length c] 24)) (.cells #[.int .i64 x0, .int .i64 x1, .int .i64 x2, .int .i64 x3, .int .i64 x4, .int .i64 x5, .int .i64 x6, .int .i64 x7] 25)) (.cells #[.int .i64 width, .int .i64 scale, .int .i64 x0, .int .i64 x1, .int .i64 x2, .int .i64 x3, .int .i64 x4, .int .i64 x5, .int .i64 x6, .int .i64 x7] 59))
 have N3 := Aside0.mk (blk_new ((w.alloc (.cells #[.int .i64 e.f0, .int .i64 e.f1, .slice A e.f2.length c] 24)).alloc (.cells #[.int .i64 x0, .int .i64 x1, .int .i64 x2, .int .i64 x3, .int .i64 x4, .int .i64 x5, .int .i64 x6, .int .i64 x7] 25)) (.cells #[.int .i64 width, .int .i64 scale, .int .i64 x0, .int .i64 x1, .int .i64 x2, .int .i64 x3, .int .i64 x4, .int .i64 x5, .int .i64 x6, .int .i64 x7] 59))
 simp only [World.size_alloc] at N3
 unfold evalP
 unfold aboutV at EV
 cases hv : validE e with
 | false =>
  rw [hv] at VC
  clear EV hv
  go_enter Try.func11, Try.ntmps11
  go_wp2_with (go_at_call 13; with_reducible refine (VC.out _ ?b1).mono ?_; (case b1 => exact Kd.C_below HR.out HB.out); rintro r w1 ⟨rfl, hb⟩; have HB1 := Aside0.mk (below_step HB.out hb); have M1 := Aside0.mk (blk_below N1.out hb); have M3 := Aside0.mk (blk_below N3.out hb); clear hb)
  go_ret2
  exact ⟨rfl, HB1.out⟩
 | true =>
  have VX := Aside0.mk hv
  rw [hv] at VC
  clear hv
  cases hsc : (inI scale 50 300 && [x0, x1, x2, x3, x4, x5, x6, x7].all coordB) with
  | false =>
   rw [hsc] at RC
   clear EV hsc
   go_enter Try.func11, Try.ntmps11
   go_wp2_with (first | (go_at_call 13; with_reducible refine (VC.out _ ?b1).mono ?_; (case b1 => exact Kd.C_below HR.out HB.out); rintro r w1 ⟨rfl, hb⟩; have HB1 := Aside0.mk (below_step HB.out hb); have M1 := Aside0.mk (blk_below N1.out hb); have M3 := Aside0.mk (blk_below N3.out hb); clear hb; have c0 := (blk_cell M3.out 0).trans rfl; have c1 := (blk_cell M3.out 1).trans rfl; have c2 := (blk_cell M3.out 2).trans rfl; have c3 := (blk_cell M3.out 3).trans rfl; have c4 := (blk_cell M3.out 4).trans rfl; have c5 := (blk_cell M3.out 5).trans rfl; have c6 := (blk_cell M3.out 6).trans rfl; have c7 := (blk_cell M3.out 7).trans rfl; have c8 := (blk_cell M3.out 8).trans rfl; have c9 := (blk_cell M3.out 9).trans rfl) | (go_at_call 27; with_reducible refine (RC.out _).mono ?_; rintro r w2 ⟨rfl, hb⟩; have HB2 := Aside0.mk (below_step HB1.out hb); have P1 := Aside0.mk (blk_below M1.out hb); have P3 := Aside0.mk (blk_below M3.out hb); clear hb; clear c0 c1 c2 c3 c4 c5 c6 c7 c8 c9))
   go_ret2
   exact ⟨rfl, HB2.out⟩
  | true =>
   rw [hsc] at RC
   have hsi := (Bool.and_eq_true_iff.1 hsc).1
   clear hsc
   cases hwi : inI width 0 1000000 with
   | false =>
    rw [hwi] at WI
    clear EV hwi hsi
    go_enter Try.func11, Try.ntmps11
    go_wp2_with (first | (go_at_call 13; with_reducible refine (VC.out _ ?b1).mono ?_; (case b1 => exact Kd.C_below HR.out HB.out); rintro r w1 ⟨rfl, hb⟩; have HB1 := Aside0.mk (below_step HB.out hb); have M1 := Aside0.mk (blk_below N1.out hb); have M3 := Aside0.mk (blk_below N3.out hb); clear hb; have c0 := (blk_cell M3.out 0).trans rfl; have c1 := (blk_cell M3.out 1).trans rfl; have c2 := (blk_cell M3.out 2).trans rfl; have c3 := (blk_cell M3.out 3).trans rfl; have c4 := (blk_cell M3.out 4).trans rfl; have c5 := (blk_cell M3.out 5).trans rfl; have c6 := (blk_cell M3.out 6).trans rfl; have c7 := (blk_cell M3.out 7).trans rfl; have c8 := (blk_cell M3.out 8).trans rfl; have c9 := (blk_cell M3.out 9).trans rfl) | (go_at_call 27; with_reducible refine (RC.out _).mono ?_; rintro r w2 ⟨rfl, hb⟩; have HB2 := Aside0.mk (below_step HB1.out hb); have P1 := Aside0.mk (blk_below M1.out hb); have P3 := Aside0.mk (blk_below M3.out hb); clear hb; clear c0 c1 c2 c3 c4 c5 c6 c7 c8 c9) | (go_at_call 28; with_reducible refine (WI.out _).mono ?_; rintro r w3 ⟨rfl, hd⟩; have hb := Drawn0.below hd; clear hd; have HB3 := Aside0.mk (below_step HB2.out hb); have Q1 := Aside0.mk (blk_below P1.out hb); have Q3 := Aside0.mk (blk_below P3.out hb); clear hb; have c0 := (blk_cell Q3.out 0).trans rfl; have c1 := (blk_cell Q3.out 1).trans rfl; have c2 := (blk_cell Q3.out 2).trans rfl; have c3 := (blk_cell Q3.out 3).trans rfl; have c4 := (blk_cell Q3.out 4).trans rfl; have c5 := (blk_cell Q3.out 5).trans rfl; have c6 := (blk_cell Q3.out 6).trans rfl; have c7 := (blk_cell Q3.out 7).trans rfl; have c8 := (blk_cell Q3.out 8).trans rfl; have c9 := (blk_cell Q3.out 9).trans rfl; have d0 := (blk_cell Q1.out 0).trans rfl; have d1 := (blk_cell Q1.out 1).trans rfl; have d2 := (blk_cell Q1.out 2).trans rfl))
    go_ret2
    exact ⟨rfl, HB3.out⟩
   | true =>
    have EW := Aside0.mk (fun b W h ho => EV.out b W VX.out hwi hsi h ho)
    rw [hwi] at WI
    clear EV hwi hsi
    simp only [Bool.true_and, if_true]
    generalize pairE (evF width scale [x0, x1, x2, x3, x4, x5, x6, x7] 30 e) = q at *
    go_enter Try.func11, Try.ntmps11
    go_wp2_with (first | (go_at_call 13; with_reducible refine (VC.out _ ?b1).mono ?_; (case b1 => exact Kd.C_below HR.out HB.out); rintro r w1 ⟨rfl, hb⟩; have HB1 := Aside0.mk (below_step HB.out hb); have M1 := Aside0.mk (blk_below N1.out hb); have M3 := Aside0.mk (blk_below N3.out hb); clear hb; have c0 := (blk_cell M3.out 0).trans rfl; have c1 := (blk_cell M3.out 1).trans rfl; have c2 := (blk_cell M3.out 2).trans rfl; have c3 := (blk_cell M3.out 3).trans rfl; have c4 := (blk_cell M3.out 4).trans rfl; have c5 := (blk_cell M3.out 5).trans rfl; have c6 := (blk_cell M3.out 6).trans rfl; have c7 := (blk_cell M3.out 7).trans rfl; have c8 := (blk_cell M3.out 8).trans rfl; have c9 := (blk_cell M3.out 9).trans rfl) | (go_at_call 27; with_reducible refine (RC.out _).mono ?_; rintro r w2 ⟨rfl, hb⟩; have HB2 := Aside0.mk (below_step HB1.out hb); have P1 := Aside0.mk (blk_below M1.out hb); have P3 := Aside0.mk (blk_below M3.out hb); clear hb; clear c0 c1 c2 c3 c4 c5 c6 c7 c8 c9) | (go_at_call 28; with_reducible refine (WI.out _).mono ?_; rintro r w3 ⟨rfl, hd⟩; have hb := Drawn0.below hd; clear hd; have HB3 := Aside0.mk (below_step HB2.out hb); have Q1 := Aside0.mk (blk_below P1.out hb); have Q3 := Aside0.mk (blk_below P3.out hb); clear hb; have c0 := (blk_cell Q3.out 0).trans rfl; have c1 := (blk_cell Q3.out 1).trans rfl; have c2 := (blk_cell Q3.out 2).trans rfl; have c3 := (blk_cell Q3.out 3).trans rfl; have c4 := (blk_cell Q3.out 4).trans rfl; have c5 := (blk_cell Q3.out 5).trans rfl; have c6 := (blk_cell Q3.out 6).trans rfl; have c7 := (blk_cell Q3.out 7).trans rfl; have c8 := (blk_cell Q3.out 8).trans rfl; have c9 := (blk_cell Q3.out 9).trans rfl; have d0 := (blk_cell Q1.out 0).trans rfl; have d1 := (blk_cell Q1.out 1).trans rfl; have d2 := (blk_cell Q1.out 2).trans rfl))
    go_region_with (first
     | (go_at_call 30; refine (OC.out _).mono ?_; rintro r w4 ⟨rfl, ho, hb⟩; have HO4 := Aside0.mk ho; have HB4 := Aside0.mk (below_step (by repeat (first | (with_reducible first | exact HB3.out | apply below_alloc | apply pw_below_drewN | apply below_drew1) | exact HB3.out)) hb); have R1 := Aside0.mk (blk_below (blk_drew Q1.out) hb); have R3 := Aside0.mk (blk_below (blk_drew Q3.out) hb); clear ho hb; have e0 := (blk_cell R3.out 0).trans rfl; have e1 := (blk_cell R3.out 1).trans rfl; have e2 := (blk_cell R3.out 2).trans rfl; have e3 := (blk_cell R3.out 3).trans rfl; have e4 := (blk_cell R3.out 4).trans rfl; have e5 := (blk_cell R3.out 5).trans rfl; have e6 := (blk_cell R3.out 6).trans rfl; have e7 := (blk_cell R3.out 7).trans rfl; have e8 := (blk_cell R3.out 8).trans rfl; have e9 := (blk_cell R3.out 9).trans rfl; have f0 := (blk_cell R1.out 0).trans rfl; have f1 := (blk_cell R1.out 1).trans rfl; have f2 := (blk_cell R1.out 2).trans rfl)
     | (go_at_call 29; refine (EW.out _ _ ?b1 ?b2).mono ?_; (case b1 => exact Kd.C_below HR.out HB4.out); (case b2 => exact HO4.out); rintro r w5 ⟨rfl, hb⟩; have HB5 := Aside0.mk (below_step (by repeat (first | (with_reducible first | exact HB4.out | apply below_alloc | apply pw_below_drewN | apply below_drew1) | exact HB4.out)) hb); clear hb))
    all_goals (go_wp2; go_ret2; exact ⟨rfl, (by repeat (first | (with_reducible first | exact HB5.out | apply below_alloc | apply pw_below_drewN | apply below_drew1) | exact HB5.out))⟩)
theorem value_Eval.calls (a0_0 a0_1 : Int) (A0_2 : Option Addr) (c0_2 : Nat) (l0_2 : List (S24)) (a1 a2 a3_0 a3_1 a3_2 a3_3 a3_4 a3_5 a3_6 a3_7 : Int) (r1 r2 : Int) (w : World) (hr0_2 : Kd.C k24 w A0_2 l0_2.length l0_2) (hc0_2 : l0_2.length ≤ c0_2) (h : value_Eval.f a0_0 a0_1 l0_2 a1 a2 a3_0 a3_1 a3_2 a3_3 a3_4 a3_5 a3_6 a3_7 = some (r1, r2)) :
  Calls Try.prog 11 #[.agg #[.int .i64 a0_0, .int .i64 a0_1, .slice A0_2 l0_2.length c0_2], .int .i64 a1, .int .i64 a2, .agg #[.int .i64 a3_0, .int .i64 a3_1, .int .i64 a3_2, .int .i64 a3_3, .int .i64 a3_4, .int .i64 a3_5, .int .i64 a3_6, .int .i64 a3_7]] w fun e w' => e = .returned (.tuple #[.int .i64 r1, .int .i64 r2]) ∧ Below w.heap.size w w' := by
 have h1 := Option.some.inj h
 have h2 := eval2_calls ⟨a0_0, a0_1, l0_2⟩ a1 a2 a3_0 a3_1 a3_2 a3_3 a3_4 a3_5 a3_6 a3_7 A0_2 c0_2 w hr0_2 hc0_2
 rw [h1] at h2
 exact h2
end
section
open Go.Proofs.YtdigjjncoeaiiaaGlib Go.Maps
set_option maxHeartbeats 8000000 in
set_option maxRecDepth 100000 in
theorem collect_succ (w0 : World) (b n : Nat) (hb0 : w0.heap.size ≤ b)
  (ih : ∀ (e : S24) (A : Option Addr) (c k : Nat) (acc : List Int) (w : World), wfE n e → Kd.C k24 w0 A e.f2.length e.f2 → e.f2.length ≤ c → Below w0.heap.size w0 w → OwnM w b k acc → k + (varF n e).length < maxLen →
   Calls Try.prog 35 #[.agg #[.int .i64 e.f0, .int .i64 e.f1, .slice A e.f2.length c], .map (some b)] w fun r w' => r = .returned (.tuple #[]) ∧ OwnM w' b (k + (varF n e).length) (acc ++ varF n e) ∧ w.grownBy w' (some b))
  (e : S24) (A : Option Addr) (c k : Nat) (acc : List Int) (w : World) (hwf : wfE (n + 1) e) (hr : Kd.C k24 w0 A e.f2.length e.f2) (hc : e.f2.length ≤ c) (hb : Below w0.heap.size w0 w) (ho : OwnM w b k acc) (hl : k + (varF (n + 1) e).length < maxLen) :
   Calls Try.prog 35 #[.agg #[.int .i64 e.f0, .int .i64 e.f1, .slice A e.f2.length c], .map (some b)] w fun r w' => r = .returned (.tuple #[]) ∧ OwnM w' b (k + (varF (n + 1) e).length) (acc ++ varF (n + 1) e) ∧ w.grownBy w' (some b) := by
 have IH := Aside0.mk ih
 have HR := Aside0.mk hr
 have HO := Aside0.mk ho
 have HB := Aside0.mk hb
 have HWF := Aside0.mk hwf
 have HL := Aside0.mk hl
 have HB0 := Aside0.mk hb0
 have hbl := ho.lt
 clear ih hr ho hwf hb hl hb0
 by_cases h4 : e.f0 = 4
 · have d4 : (e.f0 == 4) = true := beq_iff_eq.mpr h4
   have hz : e.f2 = [] := by
    obtain ⟨⟨lo, hi, kids, hs, hk, _, _⟩, _⟩ := HWF.out
    rw [h4] at hs
    have hk0 : kids = 0 := by simp [shapeP] at hs; omega
    exact List.eq_nil_of_length_eq_zero (by omega)
   have HV := Aside0.mk (show varF (n + 1) e = [e.f1] by unfold varF; rw [if_pos h4, hz]; rfl)
   have l0 : decide ((0 : Int) < (e.f2.length : Int)) = false := by rw [hz]; rfl
   have l1 : decide (0 < e.f2.length) = false := by rw [hz]; rfl
   have HLB := Aside0.mk (show k < maxLen by have := HL.out; omega)
   have hwf1 : (Lit.int .i64 e.f1).wf = true := by
    obtain ⟨⟨lo, hi, kids, hs, hk, h0, h1⟩, _⟩ := HWF.out
    rw [h4] at hs
    have hh : lo = 1 ∧ hi = 8 := by simp [shapeP] at hs; omega
    have hmin : IntKind.i64.min = -9223372036854775808 := rfl
    have hmax : IntKind.i64.max = 9223372036854775807 := rfl
    simp only [Lit.wf, Bool.and_eq_true, decide_eq_true_eq]
    omega
   have HK := Aside0.mk (show keyOf Try.prog 3 (.int .i64 e.f1) = some (.int .i64 e.f1) from keyOf_int_mk Try.underlying3 hwf1)
   have HO1 := Aside0.mk (show World.ownsMap (w.alloc (.cells #[.int .i64 e.f0, .int .i64 e.f1, .slice A e.f2.length c] 24)) Try.prog 3 (plainElem Try.prog 4) b k (setI acc) from HO.out.alloc _)
   have HG1 := Aside0.mk (World.grownBy_alloc w (.cells #[.int .i64 e.f0, .int .i64 e.f1, .slice A e.f2.length c] 24) (some b))
   clear h4 hz hwf1
   go_enter Try.func35, Try.ntmps35
   go_wp2_with (at_mapUpdate; (refine wpList_mapUpdate_own _ rfl _ _ _ 70 rfl 3 4 (int_keyed Try.underlying3) Try.underlying70 (plainElem Try.prog 4) b k (setI acc) rfl HO1.out HLB.out (.int .i64 e.f1) (.bool true) (.int .i64 e.f1) rfl rfl HK.out (.lit (.bool true)) [] (plainElem_bool Try.underlying4 true) ?_); intro w2 ho2 hg2; have HO2 := Aside0.mk ho2; have HG2 := Aside0.mk hg2; clear ho2 hg2; have e22 : w2.cell? ⟨w.heap.size, 2, none⟩ = some (.slice A e.f2.length c) := (blk_cell (grown_blk HG2.out (blk_new w _) (Nat.ne_of_gt hbl)) 2).trans rfl)
   go_loopw [15] (fun i wr => i = .int .i64 0 ∧ wr = w2) (fun i _ => 0)
   case atStart => exact ⟨rfl, rfl⟩
   case round =>
    obtain ⟨rfl, rfl⟩ := hrel
    go_wp2
    go_end0
    exact ⟨rfl, by rw [HV.out]; have h := HO2.out; rw [← setI_snoc] at h; exact h, grown_trans HG1.out HG2.out⟩
 · have d4 : (e.f0 == 4) = false := beq_eq_false_iff_ne.mpr h4
   have HV := Aside0.mk (show varF (n + 1) e = e.f2.flatMap (varF n) by unfold varF; rw [if_neg h4]; rfl)
   clear h4
   go_enter Try.func35, Try.ntmps35
   go_wp2_with fail
   go_loopw [15] (fun i wr => ∃ (m : Nat) (ac : List Int) (kk : Nat), m ≤ e.f2.length ∧ i = .int .i64 m ∧ Aside0 (acc ++ e.f2.flatMap (varF n) = ac ++ (e.f2.drop m).flatMap (varF n)) ∧ Aside0 (k + (e.f2.flatMap (varF n)).length = kk + ((e.f2.drop m).flatMap (varF n)).length) ∧ Aside0 (w.grownBy wr (some b)) ∧ Aside0 (OwnM wr b kk ac)) (fun i _ => e.f2.length - (Go.RowKit.intOf i).toNat)
   case atStart => exact ⟨0, acc, k, Nat.zero_le _, rfl, ⟨by rw [List.drop_zero]⟩, ⟨by rw [List.drop_zero]⟩, ⟨World.grownBy_alloc _ _ _⟩, ⟨HO.out.alloc _⟩⟩
   case round =>
    obtain ⟨m, ac, kk, hm, rfl, HE, HKK, HG, HOM⟩ := hrel
    by_cases hlt2 : m < e.f2.length
    · have d0 : decide ((m : Int) < (e.f2.length : Int)) = true := decide_eq_true (by omega)
      have d1 : decide (m < e.f2.length) = true := decide_eq_true hlt2
      have q0 : (0 : Int) ≤ (m : Int) := by omega
      have hdr : e.f2.drop m = e.f2[m] :: e.f2.drop (m + 1) := List.drop_eq_getElem_cons hlt2
      have hrd : rd_T24 e.f2 (m : Int) = e.f2[m] := by
       unfold rd_T24
       rw [Int.toNat_natCast, List.getD_eq_getElem?_getD, List.getElem?_eq_getElem hlt2]
       rfl
      have hwz := HWF.out.2 e.f2[m] (List.getElem_mem hlt2)
      obtain ⟨ad, A2, c2, ea, y0, y1, y2, hc2, hC2⟩ := at_T24 HR.out (m : Int) (by omega) (by omega)
      subst ea
      rw [hrd] at y0 y1 y2 hc2 hC2
      rw [Int.toNat_natCast] at y0 y1 y2
      have HBm := Aside0.mk (below_grown HB.out HB0.out HG.out)
      replace y0 := (HBm.out.cell (World.block_lt_of_cell? w0 _ y0)).trans y0
      replace y1 := (HBm.out.cell (World.block_lt_of_cell? w0 _ y1)).trans y1
      replace y2 := (HBm.out.cell (World.block_lt_of_cell? w0 _ y2)).trans y2
      rw [hdr, List.flatMap_cons] at HE HKK
      rw [← List.append_assoc] at HE
      rw [List.length_append, ← Nat.add_assoc] at HKK
      have HRM := Aside0.mk (show kk + (varF n e.f2[m]).length < maxLen by have h1 := HL.out; rw [HV.out] at h1; have h2 := HKK.out; omega)
      clear hdr hrd
      generalize e.f2[m] = z at *
      have CA := Aside0.mk (fun W h1 h2 => IH.out z A2 c2 kk ac W hwz hC2 hc2 h1 h2 HRM.out)
      clear hC2 hwz hc2
      go_wp2_with fail
      with_reducible refine (CA.out _ ?b1 ?b2).mono ?_
      case b1 => exact below_alloc HBm.out _
      case b2 => exact HOM.out.alloc _
      rintro r w5 ⟨rfl, ho5, hg5⟩
      have HO5 := Aside0.mk ho5
      have HG5 := Aside0.mk (grown_trans (grown_trans HG.out (World.grownBy_alloc _ _ _)) hg5)
      clear ho5 hg5 y0 y1 y2
      simp only
      go_wp2
      go_roundw
      case rel => exact ⟨m + 1, _, _, hlt2, congrArg (Value.int .i64) (wrap_next (n := m) (Nat.lt_of_lt_of_le hlt2 HR.out.2.1)), HE, HKK, HG5, HO5⟩
      case measure => exact meas_next hlt2 HR.out.2.1
    · obtain rfl : m = e.f2.length := Nat.le_antisymm hm (Nat.le_of_not_lt hlt2)
      have d0 : decide ((e.f2.length : Int) < (e.f2.length : Int)) = false := decide_eq_false (by omega)
      have d1 : decide (e.f2.length < e.f2.length) = false := decide_eq_false hlt2
      go_wp2
      go_end0
      rw [List.drop_eq_nil_of_le (Nat.le_refl _)] at HE HKK
      exact ⟨rfl, by
       have h1 := HE.out
       have h2 := HKK.out
       simp only [List.flatMap_nil, List.append_nil, List.length_nil, Nat.add_zero] at h1 h2
       rw [HV.out, h1, h2]
       exact HOM.out, HG.out⟩
theorem collect_calls (w0 : World) (b : Nat) (hb0 : w0.heap.size ≤ b) : ∀ (n : Nat) (e : S24) (A : Option Addr) (c k : Nat) (acc : List Int) (w : World), wfE n e → Kd.C k24 w0 A e.f2.length e.f2 → e.f2.length ≤ c → Below w0.heap.size w0 w → OwnM w b k acc → k + (varF n e).length < maxLen →
   Calls Try.prog 35 #[.agg #[.int .i64 e.f0, .int .i64 e.f1, .slice A e.f2.length c], .map (some b)] w fun r w' => r = .returned (.tuple #[]) ∧ OwnM w' b (k + (varF n e).length) (acc ++ varF n e) ∧ w.grownBy w' (some b)
 | 0, e, A, c, k, acc, w, h, _, _, _, _, _ => h.elim
 | n + 1, e, A, c, k, acc, w, h, hr, hc, hb, ho, hl => collect_succ w0 b n hb0 (fun e A c k acc w => collect_calls w0 b hb0 n e A c k acc w) e A c k acc w h hr hc hb ho hl
end
section
open Go.Shelf
open Go.Maps Go.Sort
theorem keys_call (mb : Option Nat) (W : World) : Calls Try.prog 37 #[.map mb] W fun e w' => e = .returned (.func (.func 65) #[] #[.pointer (some ⟨W.heap.size, 0, none⟩)]) ∧ w' = W.alloc (.cells #[.map mb] 70) :=
 callsIn_wide.1 (show CallsIn Fence.wide 5 Try.prog 37 #[.map mb] W _ from AnyZI.keys_in Try.keysA Fence.wide 5 trivial rfl mb W)
theorem sorted_call {H : Type} (b nn : Nat) (D0 : DataW H) (R : Value → Option (DataW H × List MemPlace)) (w : World) (hown : w.ownsMap Try.prog 3 R b nn D0) (hmax : Maps.size D0 ≤ maxLen) (hbytes : Maps.size D0 * 8 ≤ 140737488355328) :
  Calls Try.prog 36 #[.func (.func 65) #[] #[.pointer (some ⟨w.heap.size, 0, none⟩)]] (w.alloc (.cells #[.map (some b)] 70)) fun e w' => ∃ (v : Value) (ss : List Int), e = .returned v ∧ ss.Perm (intKeys D0) ∧
   w'.ownsRow w.heap.size 3 1 v ss.length ((ss.mergeSort (fun x y => decide (x ≤ y))).map encZ) ∧ (v = .slice none 0 0 ↔ ss = []) ∧ Below w.heap.size w w' := by
 have hbl := hown.lt
 have hseq : SeqGives Fence.wide 2 Try.prog 65 #[.pointer (some ⟨w.heap.size, 0, none⟩)] encZ (fun ss => ss.Perm (intKeys D0)) (Maps.size D0) (w.alloc (.cells #[.map (some b)] 70)) :=
  AnyZI.keys_gives (ρ := Try.keysA_ren) { Try.keysA with } Fence.wide _ trivial rfl (by omega) w.heap.size b nn D0 _ (by simp) (by simp) (by
   obtain ⟨es, clock, hb, Ft, hs, hD⟩ := hown
   exact ⟨es, clock, (Below.heap_alloc _ _ b hbl).trans hb, Ft, hs, hD⟩)
 have cS := AnyZI.sorted_in Try.sortedA Fence.wide 5 trivial trivial trivial trivial rfl (by omega) (Try.sortsA _) (enters_of Try.func64 (by kernel_rfl) rfl) 65 #[.pointer (some ⟨w.heap.size, 0, none⟩)] trivial (enters_of Try.func65 (by kernel_rfl) rfl) _ _ hmax hbytes _ hseq
 change CallsIn _ _ Try.prog 36 _ _ _ at cS
 refine (callsIn_wide.1 cS).mono ?_
 rintro e w' ⟨v, ss, rfl, hS, hrow, hnil, hb⟩
 exact ⟨v, ss, rfl, hS, ownsRow_base_a hrow (by simp), hnil, ((Below.refl _ w).alloc (Nat.le_refl _) _).trans (hb.mono (by simp))⟩
end
section
set_option maxHeartbeats 8000000 in
set_option maxRecDepth 100000 in
theorem uses_calls (e : S24) (A : Option Addr) (c : Nat) (w : World) (hr : Kd.C k24 w A e.f2.length e.f2) (hc : e.f2.length ≤ c) :
  Calls Try.prog 15 #[.agg #[.int .i64 e.f0, .int .i64 e.f1, .slice A e.f2.length c]] w fun r w' => ∃ v, r = .returned (.tuple #[v, .int .i64 (usesP e).2]) ∧ Kd.R (Kd.int .i64) 3 w' w.heap.size (fun _ => True) v (usesP e).1 ∧ Below w.heap.size w w' := by
 have VC := Aside0.mk (fun W h => valid_calls e A c W h hc)
 have HR := Aside0.mk hr
 have HB := Aside0.mk (below_alloc (Below.refl w.heap.size w) (.cells #[.int .i64 e.f0, .int .i64 e.f1, .slice A e.f2.length c] 24))
 have N1 := Aside0.mk (blk_new w (.cells #[.int .i64 e.f0, .int .i64 e.f1, .slice A e.f2.length c] 24))
 have hmm := @run_makeMap Try.prog
 unfold usesP
 cases hv : validE e with
 | false =>
  rw [hv] at VC
  clear hr hv
  go_enter Try.func15, Try.ntmps15
  go_wp2_with (go_at_call 13; with_reducible refine (VC.out _ ?b1).mono ?_; (case b1 => exact Kd.C_below HR.out HB.out); rintro r w1 ⟨rfl, hb⟩; have HB1 := Aside0.mk (below_step HB.out hb); clear hb)
  go_ret2
  exact ⟨_, rfl, Kd.R_nil _ _ _ _ _, HB1.out⟩
 | true =>
  have hwf := formed_wf 30 e 100 hv
  have hlen := var_len 30 e hwf
  obtain ⟨hm1, hm2, hm3⟩ := uses_room hlen
  have CC := Aside0.mk (fun (b : Nat) W hb0 h1 h2 => collect_calls w b hb0 30 e A c 0 [] W hwf hr hc h1 h2 hm1)
  have HPM := Aside0.mk (used_perm (varF 30 e) (var_range 30 e hwf))
  have HSZ := Aside0.mk (Nat.le_trans (size_setI (varF 30 e)) hm2)
  have HSB := Aside0.mk (Nat.le_trans (Nat.mul_le_mul_right 8 (size_setI (varF 30 e))) hm3)
  have HUS := Aside0.mk (used_sorted (varF 30 e))
  rw [hv] at VC
  simp only [List.nil_append] at CC
  generalize varF 30 e = vs at *
  clear hr hv hwf hlen hm1 hm2 hm3
  go_enter Try.func15, Try.ntmps15
  go_wp2_with (first
   | (go_at_call 13; with_reducible refine (VC.out _ ?b1).mono ?_; (case b1 => exact Kd.C_below HR.out HB.out); rintro r w1 ⟨rfl, hb⟩; have HB1 := Aside0.mk (below_step HB.out hb); have M1 := Aside0.mk (blk_alloc (blk_below N1.out hb) (.map #[] 0)); clear hb; have c0 := (blk_cell M1.out 0).trans rfl; have c1 := (blk_cell M1.out 1).trans rfl; have c2 := (blk_cell M1.out 2).trans rfl)
   | (go_at_call 35; go_loud (refine (CC.out _ _ ?b0 ?b1 ?b2).mono ?_; (case b0 => exact HB1.out.size); (case b1 => exact below_alloc HB1.out _); (case b2 => exact World.ownsMap_made _ _ _ _)); rintro r w2 ⟨rfl, ho, hg⟩; have HO2 := Aside0.mk ho; have HB2 := Aside0.mk (below_grown (below_alloc HB1.out _) HB1.out.size hg); clear ho hg)
   | (go_at_call 37; refine (keys_call _ _).mono ?_; rintro r w3 ⟨rfl, rfl⟩)
   | (go_at_call 36; go_loud (refine (sorted_call _ _ _ _ w2 HO2.out HSZ.out HSB.out).mono ?_); rintro r w4 ⟨v, ss, rfl, hS, hrow, hnil, hb⟩; have HB4 := Aside0.mk (below_then HB2.out HB2.out.size hb); have HS := Aside0.mk hS; have HROW := Aside0.mk hrow; clear hS hrow hnil hb))
  go_ret2
  have hms : ss.mergeSort (fun x y => decide (x ≤ y)) = usedL vs := by
   rw [← HUS.out]
   exact mergeSort_of_perm_i (HS.out.trans HPM.out.symm)
  have hll : ss.length = (usedL vs).length := (HS.out.trans HPM.out.symm).length_eq
  refine ⟨_, rfl, ?_, HB4.out⟩
  have hrow := HROW.out
  rw [hms, hll] at hrow
  exact Kd.R_lower (Kd.R_of_own (h1 := fun _ => rfl) hrow (fun _ _ => trivial)) HB2.out.size
theorem value_Uses.calls (a0_0 a0_1 : Int) (A0_2 : Option Addr) (c0_2 : Nat) (l0_2 : List (S24)) (r1 : List Int) (r2 : Int) (w : World) (hr0_2 : Kd.C k24 w A0_2 l0_2.length l0_2) (hc0_2 : l0_2.length ≤ c0_2) (h : value_Uses.f a0_0 a0_1 l0_2 = some (r1, r2)) :
  Calls Try.prog 15 #[.agg #[.int .i64 a0_0, .int .i64 a0_1, .slice A0_2 l0_2.length c0_2]] w fun e w' => ∃ v0_ : Value, e = .returned (.tuple #[v0_, .int .i64 r2]) ∧ Kd.R (Kd.int .i64) 3 w' w.heap.size (fun _ => True) v0_ r1 ∧ Below w.heap.size w w' := by
 have h1 := Option.some.inj h
 have h2 := uses_calls ⟨a0_0, a0_1, l0_2⟩ A0_2 c0_2 w hr0_2 hc0_2
 rw [h1] at h2
 exact h2
end
section
set_option maxHeartbeats 8000000 in
set_option maxRecDepth 100000 in
theorem quot_Fit_1.calls (k : Nat) (a0_0 : Int) (a0_1 : Int) (a0_2 : Int) (a1_0 : Int) (a1_1 : Int) (a1_2 : Int) (r : Bool) (w : World) (h : quot_Fit_1.f k a0_0 a0_1 a0_2 a1_0 a1_1 a1_2 = some r) :
  Calls Try.prog 109 #[.agg #[.int .i64 a0_0, .int .i64 a0_1, .int .i64 a0_2], .agg #[.int .i64 a1_0, .int .i64 a1_1, .int .i64 a1_2]] w fun e w' => e = .returned (.bool r) ∧ Below w.heap.size w w' := by
 have hu55 := Try.underlying55
 have HB := Aside0.mk (Below.refl w.heap.size w)
 have H : ((cmp_Compare_int.f (mx a0_0 (wrap64 (-a0_0))) (mx a1_0 (wrap64 (-a1_0)))).bind fun t133 => ((cmp_Compare_int.f a0_0 a1_0).bind fun t134 => ((cmp_Or_int.f k (([t133, t134] : List Int))).bind fun t138 => (some (decide (t138 < 0)))))) = some r := h
 clear h
 obtain ⟨ji3, hji3⟩ : ∃ j_ : Int, (mx a0_0 (wrap64 (-a0_0))) = j_ := ⟨_, rfl⟩
 replace H : ((cmp_Compare_int.f (ji3) (mx a1_0 (wrap64 (-a1_0)))).bind fun t133 => ((cmp_Compare_int.f a0_0 a1_0).bind fun t134 => ((cmp_Or_int.f k (([t133, t134] : List Int))).bind fun t138 => (some (decide (t138 < 0)))))) = some r := by first | (rw [hji3] at H; exact H) | (simp only [hji3] at H ⊢; exact H)
 have hji3_ : (if a0_0 < (wrap64 (-a0_0)) then (wrap64 (-a0_0)) else a0_0) = ji3 := hji3
 obtain ⟨ji4, hji4⟩ : ∃ j_ : Int, (mx a1_0 (wrap64 (-a1_0))) = j_ := ⟨_, rfl⟩
 replace H : ((cmp_Compare_int.f (ji3) (ji4)).bind fun t133 => ((cmp_Compare_int.f a0_0 a1_0).bind fun t134 => ((cmp_Or_int.f k (([t133, t134] : List Int))).bind fun t138 => (some (decide (t138 < 0)))))) = some r := by first | (rw [hji4] at H; exact H) | (simp only [hji4] at H ⊢; exact H)
 have hji4_ : (if a1_0 < (wrap64 (-a1_0)) then (wrap64 (-a1_0)) else a1_0) = ji4 := hji4
 replace H := Option.bind_eq_some_iff.mp H
 obtain ⟨t133, A50, H⟩ := H
 replace H : ((cmp_Compare_int.f a0_0 a1_0).bind fun t134 => ((cmp_Or_int.f k (([t133, t134] : List Int))).bind fun t138 => (some (decide (t138 < 0))))) = some r := H
 have A5 := Aside0.mk A50
 clear A50
 replace H := Option.bind_eq_some_iff.mp H
 obtain ⟨t134, A60, H⟩ := H
 replace H : ((cmp_Or_int.f k (([t133, t134] : List Int))).bind fun t138 => (some (decide (t138 < 0)))) = some r := H
 have A6 := Aside0.mk A60
 clear A60
 obtain ⟨y135, hy135⟩ : ∃ y_ : List Int, y_ = (([t133, t134] : List Int)) := ⟨_, rfl⟩
 replace H : ((cmp_Or_int.f k y135).bind fun t138 => (some (decide (t138 < 0)))) = some r := by first | (rw [hy135]; with_reducible exact H) | (have H2_ := (Option.bind_some _ _).symm.trans H; rw [hy135]; with_reducible exact H2_) | (have H2_ := (Option.bind_some _ _).symm.trans H; with_reducible exact H2_) | with_reducible exact H | (rw [hy135]; exact H) | exact H
 have Ny135 := Aside0.mk hy135
 clear hy135
 replace H := Option.bind_eq_some_iff.mp H
 obtain ⟨t138, A70, H⟩ := H
 replace H : (some (decide (t138 < 0))) = some r := H
 have A7 := Aside0.mk A70
 clear A70
 obtain rfl := Option.some.inj H
 go_enter Try.func109, Try.ntmps109
 try go_wp2_with (first | ((with_reducible refine gate_dst (N := 2) rfl ?_); refine box_event ?hg (N := 2) ?hd (cs := #[.int .i64 a0_0, .int .i64 a0_1, .int .i64 a0_2]) (t := 55) ?hr ?_; (case hd => rfl); (case hg => rfl); (case hr => first | (go_simp; done) | (go_simp; rfl)); intro gb131 hg w8 hbox hb; have BK131 := Aside0.mk (hbox); have GW131 := Aside0.mk ((by rw [hg]; exact (below_size (by repeat (first | (with_reducible first | exact HB.out | apply below_alloc | apply pw_below_drewN | apply below_drew1) | exact HB.out))) : w.heap.size ≤ gb131)); have GE131 := Aside0.mk ((by rw [hg]; exact (below_size (by repeat (first | (with_reducible first | exact HB.out | apply below_alloc | apply pw_below_drewN | apply below_drew1) | exact HB.out))) : w.heap.size ≤ gb131)); replace HB := Aside0.mk (below_step (by repeat (first | (with_reducible first | exact HB.out | apply below_alloc | apply pw_below_drewN | apply below_drew1) | exact HB.out)) hb); clear hb hbox hg) | ((with_reducible refine gate_dst (N := 3) rfl ?_); refine box_event ?hg (N := 3) ?hd (cs := #[.int .i64 a1_0, .int .i64 a1_1, .int .i64 a1_2]) (t := 55) ?hr ?_; (case hd => rfl); (case hg => rfl); (case hr => first | (go_simp; done) | (go_simp; rfl)); intro gb132 hg w9 hbox hb; have BK132 := Aside0.mk (hbox); have GW132 := Aside0.mk ((by rw [hg]; exact (below_size (by repeat (first | (with_reducible first | exact HB.out | apply below_alloc | apply pw_below_drewN | apply below_drew1 | refine below_set ?_ GE131.out) | exact HB.out))) : w.heap.size ≤ gb132)); have GE132 := Aside0.mk ((by rw [hg]; exact (below_size (by repeat (first | (with_reducible first | exact HB.out | apply below_alloc | apply pw_below_drewN | apply below_drew1 | refine below_set ?_ GE131.out) | exact HB.out))) : w.heap.size ≤ gb132)); replace HB := Aside0.mk (below_step (by repeat (first | (with_reducible first | exact HB.out | apply below_alloc | apply pw_below_drewN | apply below_drew1 | refine below_set ?_ GE131.out) | exact HB.out)) hb); have NB131_132 := Aside0.mk ((by rw [hg]; exact Nat.ne_of_lt (blk_lt (g := gb131) (o := .cells #[.int .i64 a0_0, .int .i64 a0_1, .int .i64 a0_2] 55 (0, 0)) (by (with_reducible repeat (first | refine blk_drewN ?_ _ | refine blk_drew ?_ | refine blk_alloc ?_ _)); exact BK131.out)) : gb131 ≠ gb132)); have NB132_131 := Aside0.mk ((by rw [hg]; exact Nat.ne_of_gt (blk_lt (g := gb131) (o := .cells #[.int .i64 a0_0, .int .i64 a0_1, .int .i64 a0_2] 55 (0, 0)) (by (with_reducible repeat (first | refine blk_drewN ?_ _ | refine blk_drew ?_ | refine blk_alloc ?_ _)); exact BK131.out)) : gb132 ≠ gb131)); replace BK131 := Aside0.mk (blk_below (g := gb131) (o := .cells #[.int .i64 a0_0, .int .i64 a0_1, .int .i64 a0_2] 55 (0, 0)) (by (with_reducible repeat (first | refine blk_drewN ?_ _ | refine blk_drew ?_ | refine blk_alloc ?_ _)); exact BK131.out) hb); clear hb hbox hg))
 replace BK131 := Aside0.mk (blk_drew BK131.out)
 replace BK132 := Aside0.mk (blk_drew BK132.out)
 replace HB := Aside0.mk (below_drew1 HB.out)
 refine start_ (n := 22) (S := fun w' => w'.cell? ⟨gb131, 0, none⟩ = some (.int .i64 a0_0) ∧ w'.cell? ⟨gb131, 1, none⟩ = some (.int .i64 a0_1) ∧ w'.cell? ⟨gb131, 2, none⟩ = some (.int .i64 a0_2) ∧ w'.cell? ⟨gb132, 0, none⟩ = some (.int .i64 a1_0) ∧ w'.cell? ⟨gb132, 1, none⟩ = some (.int .i64 a1_1) ∧ w'.cell? ⟨gb132, 2, none⟩ = some (.int .i64 a1_2)) (ds := []) #[false, false, false, false, false, false, false, false, false, false, false, false, false, false, false, false, false, false, false, false, false, false] (by kernel_rfl) rfl rfl ⟨(blk_cell BK131.out 0).trans rfl, (blk_cell BK131.out 1).trans rfl, (blk_cell BK131.out 2).trans rfl, (blk_cell BK132.out 0).trans rfl, (blk_cell BK132.out 1).trans rfl, (blk_cell BK132.out 2).trans rfl⟩ (fun hHeld => ?_); refine with_tabW quot_Fit_1.tab1 quot_Fit_1.bits1 (fun HT_ HW_ => ?_)
 generalize w9.drew = w10 at BK131 BK132 HB hHeld ⊢
 refine pure_ (i := 0) (N := some 5) (v := ?_) (a' := ?_) #[true, false, false, false, false, false, false, false, false, false, false, false, false, false, false, false, false, false, false, false, false, false] rfl rfl (any_of HT_.out (by kernel_rfl)) (fun _ _ _ h => h) (Or.inl ⟨by rfl, ?_⟩) ?_ ?_
 rotate_left
 · intro w'
   go_simp
   with_reducible rfl
 rotate_left
 · simp only [Act.put, List.setIfInBounds_toArray, List.set_cons_zero, List.set_cons_succ, i64_w, i32_w]
   rfl
 refine pure_ (i := 2) (N := some 7) (v := ?_) (a' := ?_) #[true, false, true, false, false, false, false, false, false, false, false, false, false, false, false, false, false, false, false, false, false, false] rfl rfl (any_of HT_.out (by kernel_rfl)) (fun _ _ _ h => h) (Or.inl ⟨by rfl, ?_⟩) ?_ ?_
 rotate_left
 · intro w'
   go_simp
   with_reducible rfl
 rotate_left
 · simp only [Act.put, List.setIfInBounds_toArray, List.set_cons_zero, List.set_cons_succ, i64_w, i32_w]
   rfl
 refine pure_ (i := 6) (N := some 11) (v := ?_) (a' := ?_) #[true, false, true, false, false, false, true, false, false, false, false, false, false, false, false, false, false, false, false, false, false, false] rfl rfl (any_of HT_.out (by kernel_rfl)) (fun _ _ _ h => h) (Or.inl ⟨by rfl, ?_⟩) ?_ ?_
 rotate_left
 · intro w'
   go_simp
   with_reducible rfl
 rotate_left
 · simp only [Act.put, List.setIfInBounds_toArray, List.set_cons_zero, List.set_cons_succ, i64_w, i32_w]
   rfl
 refine pure_ (i := 8) (N := some 13) (v := ?_) (a' := ?_) #[true, false, true, false, false, false, true, false, true, false, false, false, false, false, false, false, false, false, false, false, false, false] rfl rfl (any_of HT_.out (by kernel_rfl)) (fun _ _ _ h => h) (Or.inl ⟨by rfl, ?_⟩) ?_ ?_
 rotate_left
 · intro w'
   go_simp
   with_reducible rfl
 rotate_left
 · simp only [Act.put, List.setIfInBounds_toArray, List.set_cons_zero, List.set_cons_succ, i64_w, i32_w]
   rfl
 refine pure_ (i := 13) (N := some 18) (v := ?_) (a' := ?_) #[true, false, true, false, false, false, true, false, true, false, false, false, false, true, false, false, false, false, false, false, false, false] rfl rfl (any_of HT_.out (by kernel_rfl)) (fun _ _ _ h => h) (Or.inl ⟨by rfl, ?_⟩) ?_ ?_
 rotate_left
 · intro w'
   go_simp
   with_reducible rfl
 rotate_left
 · simp only [Act.put, List.setIfInBounds_toArray, List.set_cons_zero, List.set_cons_succ, i64_w, i32_w]
   rfl
 refine pure_ (i := 15) (N := some 20) (v := ?_) (a' := ?_) #[true, false, true, false, false, false, true, false, true, false, false, false, false, true, false, true, false, false, false, false, false, false] rfl rfl (any_of HT_.out (by kernel_rfl)) (fun _ _ _ h => h) (Or.inl ⟨by rfl, ?_⟩) ?_ ?_
 rotate_left
 · intro w'
   go_simp
   with_reducible rfl
 rotate_left
 · simp only [Act.put, List.setIfInBounds_toArray, List.set_cons_zero, List.set_cons_succ, i64_w, i32_w]
   rfl
 refine take_ (i := 1) (N := some 6) (v := ?_) (a' := ?_) #[true, true, true, false, false, false, true, false, true, false, false, false, false, true, false, true, false, false, false, false, false, false] rfl rfl (take_ofW HT_.out HW_.out (by kernel_rfl)) (fun _ _ _ h => h) (Or.inl ⟨by rfl, ?_⟩) hHeld ?_ ?_
 rotate_left
 · rintro w' ⟨s0, s1, s2, s3, s4, s5⟩
   go_simp
   with_reducible rfl
 rotate_left
 · simp only [Act.put, List.setIfInBounds_toArray, List.set_cons_zero, List.set_cons_succ, i64_w, i32_w]
   rfl
 refine take_ (i := 3) (N := some 8) (v := ?_) (a' := ?_) #[true, true, true, true, false, false, true, false, true, false, false, false, false, true, false, true, false, false, false, false, false, false] rfl rfl (take_ofW HT_.out HW_.out (by kernel_rfl)) (fun _ _ _ h => h) (Or.inl ⟨by rfl, ?_⟩) hHeld ?_ ?_
 rotate_left
 · rintro w' ⟨s0, s1, s2, s3, s4, s5⟩
   go_simp
   with_reducible rfl
 rotate_left
 · simp only [Act.put, List.setIfInBounds_toArray, List.set_cons_zero, List.set_cons_succ, i64_w, i32_w]
   rfl
 refine pure_ (i := 4) (N := some 9) (v := ?_) (a' := ?_) #[true, true, true, true, true, false, true, false, true, false, false, false, false, true, false, true, false, false, false, false, false, false] rfl rfl (any_of HT_.out (by kernel_rfl)) (fun _ _ _ h => h) (Or.inl ⟨by rfl, ?_⟩) ?_ ?_
 rotate_left
 · intro w'
   go_simp
   with_reducible rfl
 rotate_left
 · simp only [Act.put, List.setIfInBounds_toArray, List.set_cons_zero, List.set_cons_succ, i64_w, i32_w]
   rfl
 refine pure_ (i := 5) (N := some 10) (v := ?_) (a' := ?_) #[true, true, true, true, true, true, true, false, true, false, false, false, false, true, false, true, false, false, false, false, false, false] rfl rfl (any_of HT_.out (by kernel_rfl)) (fun _ _ _ h => h) (Or.inl ⟨by rfl, ?_⟩) ?_ ?_
 rotate_left
 · intro w'
   go_simp
   with_reducible rfl
 rotate_left
 · simp only [Act.put, List.setIfInBounds_toArray, List.set_cons_zero, List.set_cons_succ, i64_w, i32_w]
   rfl
 refine take_ (i := 7) (N := some 12) (v := ?_) (a' := ?_) #[true, true, true, true, true, true, true, true, true, false, false, false, false, true, false, true, false, false, false, false, false, false] rfl rfl (take_ofW HT_.out HW_.out (by kernel_rfl)) (fun _ _ _ h => h) (Or.inl ⟨by rfl, ?_⟩) hHeld ?_ ?_
 rotate_left
 · rintro w' ⟨s0, s1, s2, s3, s4, s5⟩
   go_simp
   with_reducible rfl
 rotate_left
 · simp only [Act.put, List.setIfInBounds_toArray, List.set_cons_zero, List.set_cons_succ, i64_w, i32_w]
   rfl
 refine take_ (i := 9) (N := some 14) (v := ?_) (a' := ?_) #[true, true, true, true, true, true, true, true, true, true, false, false, false, true, false, true, false, false, false, false, false, false] rfl rfl (take_ofW HT_.out HW_.out (by kernel_rfl)) (fun _ _ _ h => h) (Or.inl ⟨by rfl, ?_⟩) hHeld ?_ ?_
 rotate_left
 · rintro w' ⟨s0, s1, s2, s3, s4, s5⟩
   go_simp
   with_reducible rfl
 rotate_left
 · simp only [Act.put, List.setIfInBounds_toArray, List.set_cons_zero, List.set_cons_succ, i64_w, i32_w]
   rfl
 refine pure_ (i := 10) (N := some 15) (v := ?_) (a' := ?_) #[true, true, true, true, true, true, true, true, true, true, true, false, false, true, false, true, false, false, false, false, false, false] rfl rfl (any_of HT_.out (by kernel_rfl)) (fun _ _ _ h => h) (Or.inl ⟨by rfl, ?_⟩) ?_ ?_
 rotate_left
 · intro w'
   go_simp
   with_reducible rfl
 rotate_left
 · simp only [Act.put, List.setIfInBounds_toArray, List.set_cons_zero, List.set_cons_succ, i64_w, i32_w]
   rfl
 refine pure_ (i := 11) (N := some 16) (v := ?_) (a' := ?_) #[true, true, true, true, true, true, true, true, true, true, true, true, false, true, false, true, false, false, false, false, false, false] rfl rfl (any_of HT_.out (by kernel_rfl)) (fun _ _ _ h => h) (Or.inl ⟨by rfl, ?_⟩) ?_ ?_
 rotate_left
 · intro w'
   go_simp
   with_reducible rfl
 rotate_left
 · simp only [Act.put, List.setIfInBounds_toArray, List.set_cons_zero, List.set_cons_succ, i64_w, i32_w]
   rfl
 refine take_ (i := 14) (N := some 19) (v := ?_) (a' := ?_) #[true, true, true, true, true, true, true, true, true, true, true, true, false, true, true, true, false, false, false, false, false, false] rfl rfl (take_ofW HT_.out HW_.out (by kernel_rfl)) (fun _ _ _ h => h) (Or.inl ⟨by rfl, ?_⟩) hHeld ?_ ?_
 rotate_left
 · rintro w' ⟨s0, s1, s2, s3, s4, s5⟩
   go_simp
   with_reducible rfl
 rotate_left
 · simp only [Act.put, List.setIfInBounds_toArray, List.set_cons_zero, List.set_cons_succ, i64_w, i32_w]
   rfl
 refine take_ (i := 16) (N := some 21) (v := ?_) (a' := ?_) #[true, true, true, true, true, true, true, true, true, true, true, true, false, true, true, true, true, false, false, false, false, false] rfl rfl (take_ofW HT_.out HW_.out (by kernel_rfl)) (fun _ _ _ h => h) (Or.inl ⟨by rfl, ?_⟩) hHeld ?_ ?_
 rotate_left
 · rintro w' ⟨s0, s1, s2, s3, s4, s5⟩
   go_simp
   with_reducible rfl
 rotate_left
 · simp only [Act.put, List.setIfInBounds_toArray, List.set_cons_zero, List.set_cons_succ, i64_w, i32_w]
   rfl
 refine one_ (i := 12) (N := some 17) #[true, true, true, true, true, true, true, true, true, true, true, true, true, true, true, true, true, false, false, false, false, false] rfl rfl (one_of HT_.out (by kernel_rfl)) (by decide) (fun K hK => ?_)
 refine goes_ Try.func111 (by kernel_rfl) rfl #[.int .i64 ji3, .int .i64 ji4] (by rfl) rfl rfl (by (try simp only [List.map_toArray, List.map_cons, List.map_nil]); first | done | (simp only [hji3, hji4]; rfl) | rfl | (simp only [List.length_drop, List.length_take]; rfl)) ?_
 with_reducible refine (cmp_Compare_int.calls ji3 ji4 t133 _ A5.out).mono ?_
 rintro e w' ⟨rfl, ⟨nd, rfl⟩⟩
 refine ⟨_, rfl, ?_⟩
 refine hK.out _ _ ⟨(blk_cell BK131.out 0).trans rfl, (blk_cell BK131.out 1).trans rfl, (blk_cell BK131.out 2).trans rfl, (blk_cell BK132.out 0).trans rfl, (blk_cell BK132.out 1).trans rfl, (blk_cell BK132.out 2).trans rfl⟩ (fun hHeld => ?_)
 clear hK K
 refine norm_ (a' := ?_) ?_ ?_
 rotate_left
 · show Act.put _ (some 17) _ = _
   simp only [Act.put, List.setIfInBounds_toArray, List.set_cons_zero, List.set_cons_succ, i64_w, i32_w]
   rfl
 refine one_ (i := 17) (N := some 22) #[true, true, true, true, true, true, true, true, true, true, true, true, true, true, true, true, true, true, false, false, false, false] rfl rfl (one_of HT_.out (by kernel_rfl)) (by decide) (fun K hK => ?_)
 refine goes_ Try.func111 (by kernel_rfl) rfl #[.int .i64 a0_0, .int .i64 a1_0] (by rfl) rfl rfl (by (try simp only [List.map_toArray, List.map_cons, List.map_nil]); first | done | rfl | (simp only [List.length_drop, List.length_take]; rfl)) ?_
 with_reducible refine (cmp_Compare_int.calls a0_0 a1_0 t134 _ A6.out).mono ?_
 rintro e w' ⟨rfl, ⟨nd, rfl⟩⟩
 refine ⟨_, rfl, ?_⟩
 refine hK.out _ _ ⟨(blk_cell BK131.out 0).trans rfl, (blk_cell BK131.out 1).trans rfl, (blk_cell BK131.out 2).trans rfl, (blk_cell BK132.out 0).trans rfl, (blk_cell BK132.out 1).trans rfl, (blk_cell BK132.out 2).trans rfl⟩ (fun hHeld => ?_)
 clear hK K
 refine norm_ (a' := ?_) ?_ ?_
 rotate_left
 · show Act.put _ (some 22) _ = _
   simp only [Act.put, List.setIfInBounds_toArray, List.set_cons_zero, List.set_cons_succ, i64_w, i32_w]
   rfl
 refine one_ (i := 18) (N := some 23) #[true, true, true, true, true, true, true, true, true, true, true, true, true, true, true, true, true, true, true, false, false, false] rfl rfl (one_of HT_.out (by kernel_rfl)) (by decide) (fun K hK => ?_)
 refine Kd.R_lit_step (Kd.int .i64) _ 3 ?hg (N := 23) ?hd (xs := ([t133, t134] : List Int)) (inner := [.int .i64 t133, .int .i64 t134]) (ok := fun _ => True) (okp := fun _ => True) ?hr ?hp (fun _ hk => hk) trivial (Below.refl _ _) (Nat.le_refl _) (by simp) ?_; (case hd => rfl); (case hg => rfl); (case hr => first | (go_simp; done) | (go_simp; rfl)); (case hp => exact (Reps.one (show Kd.M (Kd.int .i64) _ _ _ t133 [.int .i64 t133] from rfl) (Reps.one (show Kd.M (Kd.int .i64) _ _ _ t134 [.int .i64 t134] from rfl) (Reps.none _ _))))
 intro v136 w11 ho12 hb hg_ hnew_
 clear hg_ hnew_
 (first | rw [← Ny135.out] at ho12 | (simp only [Int.reduceToNat] at ho12; rw [← Ny135.out] at ho12))
 have HO137 := Aside0.mk (Kd.R_lower ho12 (below_size (by repeat (first | (with_reducible first | exact HB.out | apply below_alloc | apply pw_below_drewN | apply below_drew1 | refine below_set ?_ GE131.out | refine below_set ?_ GE132.out) | exact HB.out))))
 replace BK131 := Aside0.mk (blk_below (g := gb131) (o := .cells #[.int .i64 a0_0, .int .i64 a0_1, .int .i64 a0_2] 55 (0, 0)) (by (with_reducible repeat (first | refine blk_drewN ?_ _ | refine blk_drew ?_ | refine blk_alloc ?_ _)); exact BK131.out) hb)
 replace BK132 := Aside0.mk (blk_below (g := gb132) (o := .cells #[.int .i64 a1_0, .int .i64 a1_1, .int .i64 a1_2] 55 (0, 0)) (by (with_reducible repeat (first | refine blk_drewN ?_ _ | refine blk_drew ?_ | refine blk_alloc ?_ _)); exact BK132.out) hb)
 replace HB := Aside0.mk (below_step (by repeat (first | (with_reducible first | exact HB.out | apply below_alloc | apply pw_below_drewN | apply below_drew1 | refine below_set ?_ GE131.out | refine below_set ?_ GE132.out) | exact HB.out)) hb)
 clear hb ho12
 obtain ⟨Ao13, co13, eo13⟩ := Kd.R_slice HO137.out
 (first | subst eo13 | (injection eo13 with f1_ f2_ f3_; have f4_ := f1_.symm; have f5_ := f3_.symm; clear f1_ f2_ f3_; subst f4_; subst f5_))
 refine hK.out _ _ ⟨(blk_cell BK131.out 0).trans rfl, (blk_cell BK131.out 1).trans rfl, (blk_cell BK131.out 2).trans rfl, (blk_cell BK132.out 0).trans rfl, (blk_cell BK132.out 1).trans rfl, (blk_cell BK132.out 2).trans rfl⟩ (fun hHeld => ?_)
 clear hK K
 refine norm_ (a' := ?_) ?_ ?_
 rotate_left
 · show Act.put _ (some 23) _ = _
   simp only [Act.put, List.setIfInBounds_toArray, List.set_cons_zero, List.set_cons_succ, i64_w, i32_w]
   rfl
 refine one_ (i := 19) (N := some 24) #[true, true, true, true, true, true, true, true, true, true, true, true, true, true, true, true, true, true, true, true, false, false] rfl rfl (one_of HT_.out (by kernel_rfl)) (by decide) (fun K hK => ?_)
 refine goes_ Try.func110 (by kernel_rfl) rfl #[.slice Ao13 y135.length co13] (by rfl) rfl rfl (by (try simp only [List.map_toArray, List.map_cons, List.map_nil]); first | done | rfl | (simp only [List.length_drop, List.length_take]; rfl)) ?_
 with_reducible refine (cmp_Or_int.calls k _ _ y135 t138 _ ?side1 ?side2 A7.out).mono ?_
 (case side1 => repeat (first | exact (Kd.R_reads' HO137.out).2.2 | (with_reducible refine Kd.C_alloc ?_ _) | (with_reducible refine Kd.C_drewN ?_ _) | (with_reducible refine Kd.C_drew ?_)))
 (case side2 => exact (Kd.R_reads' HO137.out).2.1)
 rintro e w' ⟨rfl, ⟨nd, rfl⟩⟩
 refine ⟨_, rfl, ?_⟩
 refine hK.out _ _ ⟨(blk_cell BK131.out 0).trans rfl, (blk_cell BK131.out 1).trans rfl, (blk_cell BK131.out 2).trans rfl, (blk_cell BK132.out 0).trans rfl, (blk_cell BK132.out 1).trans rfl, (blk_cell BK132.out 2).trans rfl⟩ (fun hHeld => ?_)
 clear hK K
 refine norm_ (a' := ?_) ?_ ?_
 rotate_left
 · show Act.put _ (some 24) _ = _
   simp only [Act.put, List.setIfInBounds_toArray, List.set_cons_zero, List.set_cons_succ, i64_w, i32_w]
   rfl
 refine pure_ (i := 20) (N := some 25) (v := ?_) (a' := ?_) #[true, true, true, true, true, true, true, true, true, true, true, true, true, true, true, true, true, true, true, true, true, false] rfl rfl (any_of HT_.out (by kernel_rfl)) (fun _ _ _ h => h) (Or.inl ⟨by rfl, ?_⟩) ?_ ?_
 rotate_left
 · intro w'
   go_simp
   with_reducible rfl
 rotate_left
 · simp only [Act.put, List.setIfInBounds_toArray, List.set_cons_zero, List.set_cons_succ, i64_w, i32_w]
   rfl
 refine pure_ (i := 21) (N := some 4) (v := ?_) (a' := ?_) #[true, true, true, true, true, true, true, true, true, true, true, true, true, true, true, true, true, true, true, true, true, true] rfl rfl (any_of HT_.out (by kernel_rfl)) (fun _ _ _ h => h) (Or.inl ⟨by rfl, ?_⟩) ?_ ?_
 rotate_left
 · intro w'
   go_simp
   with_reducible rfl
 rotate_left
 · simp only [Act.put, List.setIfInBounds_toArray, List.set_cons_zero, List.set_cons_succ, i64_w, i32_w]
   rfl
 refine done_ (done_of HT_.out (by kernel_rfl)) ?_
 try go_wp2
 go_ret
 exact ⟨by first | rfl | (simp [errW_none, errW_some] <;> rfl) | (simp only [← hji3, ← hji4]; first | rfl | (simp [errW_none, errW_some] <;> rfl)) | (simp [*, errW_none, errW_some] <;> rfl), by repeat (first | (with_reducible first | exact HB.out | apply below_alloc | apply pw_below_drewN | apply below_drew1 | refine below_set ?_ GE131.out | refine below_set ?_ GE132.out) | exact HB.out)⟩
set_option maxHeartbeats 8000000 in
set_option maxRecDepth 100000 in
theorem quot_isCoord.calls (a0 : Int) (r : Bool) (w : World) (h : quot_isCoord.f a0 = some r) :
  Calls Try.prog 87 #[.int .i64 a0] w fun e w' => e = .returned (.bool r) ∧ Drawn0 w w' := by
 have H : (if (-1000000000) ≤ a0 then (some (decide (a0 ≤ 1000000000))) else (some false)) = some r := h
 clear h
 by_cases c2 : (-1000000000) ≤ a0
 · rw [if_pos c2] at H
   have c2b0 : decide ((-1000000000) ≤ a0) = true := decide_eq_true c2
   clear c2
   obtain rfl := Option.some.inj H
   go_enter Try.func87, Try.ntmps87
   go_wp2
   go_ret
   exact ⟨by first | rfl | (simp; done) | (simp [*]; done), by repeat (first | exact Drawn0.refl _ | apply Drawn0.step)⟩
 · rw [if_neg c2] at H
   have c2b0 : decide ((-1000000000) ≤ a0) = false := decide_eq_false c2
   clear c2
   obtain rfl := Option.some.inj H
   go_enter Try.func87, Try.ntmps87
   go_wp2
   go_ret
   exact ⟨by first | rfl | (simp; done) | (simp [*]; done), by repeat (first | exact Drawn0.refl _ | apply Drawn0.step)⟩
set_option maxHeartbeats 8000000 in
set_option maxRecDepth 100000 in
theorem quot_floor.calls (a0 : Int) (a1 : Int) (r : Int) (w : World) (h : quot_floor.f a0 a1 = some r) :
  Calls Try.prog 88 #[.int .i64 a0, .int .i64 a1] w fun e w' => e = .returned (.int .i64 r) ∧ Drawn0 w w' := by
 have H : (if a0 < 0 then (if a1 = 0 then (none) else (some (wrap64 (-(wrap64 (Int.tdiv (wrap64 ((wrap64 ((wrap64 (-a0)) + a1)) - 1)) a1)))))) else (if a1 = 0 then (none) else (some (wrap64 (Int.tdiv a0 a1))))) = some r := h
 clear h
 by_cases c3 : a0 < 0
 · rw [if_pos c3] at H
   have c3b0 : decide (a0 < 0) = true := decide_eq_true c3
   clear c3
   by_cases c4 : a1 = 0
   · rw [if_pos c4] at H
     exact absurd H (by simp)
   · rw [if_neg c4] at H
     have c4b0 : (a1 == 0) = false := beq_eq_false_iff_ne.mpr c4
     have c4b1 : (a1 != 0) = true := bne_iff_ne.mpr c4
     obtain rfl := Option.some.inj H
     go_enter Try.func88, Try.ntmps88
     go_wp2
     go_ret
     exact ⟨by first | rfl | (simp; done) | (simp [*]; done), by repeat (first | exact Drawn0.refl _ | apply Drawn0.step)⟩
 · rw [if_neg c3] at H
   have c3b0 : decide (a0 < 0) = false := decide_eq_false c3
   clear c3
   by_cases c5 : a1 = 0
   · rw [if_pos c5] at H
     exact absurd H (by simp)
   · rw [if_neg c5] at H
     have c5b0 : (a1 == 0) = false := beq_eq_false_iff_ne.mpr c5
     have c5b1 : (a1 != 0) = true := bne_iff_ne.mpr c5
     obtain rfl := Option.some.inj H
     go_enter Try.func88, Try.ntmps88
     go_wp2
     go_ret
     exact ⟨by first | rfl | (simp; done) | (simp [*]; done), by repeat (first | exact Drawn0.refl _ | apply Drawn0.step)⟩
end
section
open Go.Proofs.YtdigjjncoeaiiaaGlib
attribute [local go_sem] Oper.semAt_some
set_option maxHeartbeats 8000000 in
set_option maxRecDepth 100000 in
theorem cand1_calls {base bx g1 g2 : Nat} {A0 : Option Addr} {c0 : Nat} {l0 : List Int} {d : Int} {w : World}
  (hv : ValsOk l0) (hl1 : 1 ≤ l0.length) (hl2 : l0.length ≤ 4000) (hd0 : 1 ≤ d) (hd1 : d ≤ 16) (hc0 : l0.length ≤ c0)
  (hbw : base ≤ w.heap.size) (hR0 : ∀ B, Below base w B → Kd.C (Kd.int .i64) B A0 l0.length l0)
  (hcap : CapsQ g1 g2 (.slice A0 l0.length c0) d w) (hb1 : g1 ≠ bx) (hb2 : g2 ≠ bx) (hbx : bx < w.heap.size)
  (l : Nat) (J : List S55 → World → Prop) (W : World) (hl : w.heap.size ≤ l) (hlW : l < W.heap.size) (hs : Stp (fun _ => False) 0 base w W)
  (hJ : ∀ pre A B, J pre A → Stp (fun _ => False) 0 base A B → J pre B)
  (hY : ∀ pre x A, J pre A → coordB x.f0 = true ∧ x.f2 = d → YieldAt Fence.wide 0 Try.prog l (encQ x) A fun e B => e = .returned (.bool true) ∧ J (pre ++ [x]) B ∧ Stp (fun k => k = bx ∨ k = l) 0 base A B)
  (hJ0 : J [] W) :
  CallsIn Fence.wide 0 Try.prog 117 (#[.func (.yield l) #[] #[]] ++ #[.pointer (some ⟨g1, 0, none⟩), .pointer (some ⟨g2, 0, none⟩)]) W fun e B => (∃ v, e = .returned v) ∧ ∃ xs : List S55, xs = candL l0 d ∧ J xs B := by
 have HJ := Aside0.mk hJ
 have HY := Aside0.mk hY
 have HR0 := Aside0.mk hR0
 have HC := Aside0.mk (hcap.stp hs id id (by decide) (by decide))
 have HB := Aside0.mk (hs.below hbw)
 have HJ0 := Aside0.mk hJ0
 have HV := Aside0.mk hv
 have hg1 := (Array.getElem?_eq_some_iff.1 hcap.b1).1
 have hg2 := (Array.getElem?_eq_some_iff.1 hcap.b2).1
 have hrb := rise_bound hv hl1 hd0 hd1
 have HRW := Aside0.mk (HR0.out W (hs.below hbw))
 clear hJ hY hR0 hcap hJ0 hs hv
 have x1 : W.cell? ⟨g1, 0, none⟩ = some (.slice A0 l0.length c0) := (blk_cell HC.out.b1 0).trans rfl
 have x2 : W.cell? ⟨g2, 0, none⟩ = some (.int .i64 d) := (blk_cell HC.out.b2 0).trans rfl
 have w1 : wrap64 ((l0.length : Int) - 1) = (l0.length : Int) - 1 := wrap64_id (by omega) (by omega)
 refine callsIn_wide.2 (calls_of_wp Try.func117 rfl ?_)
 simp only [Try.ntmps117, List.size_toArray, List.length_cons, List.length_nil, Nat.reduceAdd, Nat.reduceSub, Array.replicate_succ, Array.replicate_zero, List.push_toArray, List.append_toArray, List.nil_append, List.cons_append]
 by_cases h1 : l0.length = 1
 · have e1 : ((l0.length : Int) - 1 == 0) = true := by rw [h1]; rfl
   have HCL := Aside0.mk (show candL l0 d = [⟨0, 0, d⟩] by unfold candL; rw [if_pos h1])
   clear h1
   refine (wpIn_wide (n := 0)).1 ?_
   obtain ⟨fn, tmps, assign, body, hy, hR⟩ := HY.out [] ⟨0, 0, d⟩ W HJ0.out ⟨rfl, rfl⟩
   dsimp only [encQ] at hy
   gi_wp2
   refine ⟨rfl, hR.mono ?_⟩
   rintro e B ⟨rfl, hJ3, hS3⟩
   gi_wp2
   refine bodyPost_ret (results_none rfl _ _ _) rfl ?_
   exact ⟨⟨_, rfl⟩, _, HCL.out.symm, hJ3⟩
 · have e1 : ((l0.length : Int) - 1 == 0) = false := beq_eq_false_iff_ne.mpr (by omega)
   have hn : 1 ≤ (l0.length : Int) - 1 := by omega
   have HCL := Aside0.mk (show candL l0 d = candR d (hiA l0 d - loA l0 d + 1).toNat (loA l0 d) by unfold candL; rw [if_neg h1])
   clear h1
   have FL := Aside0.mk (fun W => quot_floor.calls (d - 1 - riseP l0 d) ((l0.length : Int) - 1) _ W (qfloor_of _ _ (by omega) (by omega) (by omega) (by omega)))
   have hlo := div_bound (a := d - 1 - riseP l0 d) (n := (l0.length : Int) - 1) (m := 33000000000) hn (by omega) (by omega) (by omega)
   have hhi := div_bound (a := riseP l0 d + d - 1) (n := (l0.length : Int) - 1) (m := 33000000000) hn (by omega) (by omega) (by omega)
   have HLO := Aside0.mk (show loA l0 d = -((d - 1 - riseP l0 d) / ((l0.length : Int) - 1)) from rfl)
   have HHI := Aside0.mk (show hiA l0 d = (riseP l0 d + d - 1) / ((l0.length : Int) - 1) from rfl)
   obtain ⟨ad, ea, y0⟩ := Kd.at_int HRW.out 0 (by omega) (by omega)
   subst ea
   rw [show ((0 : Int)).toNat = 0 from rfl, Addr.add_zero'] at y0
   obtain ⟨ad', ea, y1⟩ := Kd.at_int HRW.out ((l0.length : Int) - 1) (by omega) (by omega)
   obtain rfl := Option.some.inj ea
   rw [show ((l0.length : Int) - 1).toNat = l0.length - 1 by omega] at y1
   have q3 : (1 : Int) ≤ (l0.length : Int) := by omega
   have v0 := vals_at HV.out (i := 0) (by omega) (by omega)
   have v1 := vals_at HV.out (i := (l0.length : Int) - 1) (by omega) (by omega)
   have hm := mul_bound (a := d) (b := rd l0 ((l0.length : Int) - 1) - rd l0 0) (m := 16) (n := 2000000000) (by omega) (by omega) (by omega) (by omega)
   have w2 : wrap64 (rd l0 ((l0.length : Int) - 1) - rd l0 0) = rd l0 ((l0.length : Int) - 1) - rd l0 0 := wrap64_id (by omega) (by omega)
   have w3 : wrap64 (d * (rd l0 ((l0.length : Int) - 1) - rd l0 0)) = riseP l0 d := wrap64_id (by omega) (by omega)
   have q0 : 0 ≤ (l0.length : Int) - 1 := by omega
   have q1 : (l0.length : Int) - 1 < (l0.length : Int) := by omega
   have q2 : (0 : Int) < (l0.length : Int) := by omega
   have w4 : wrap64 (d - 1) = d - 1 := wrap64_id (by omega) (by omega)
   have w5 : wrap64 (d - 1 - riseP l0 d) = d - 1 - riseP l0 d := wrap64_id (by omega) (by omega)
   have w6 : wrap64 (-((d - 1 - riseP l0 d) / ((l0.length : Int) - 1))) = loA l0 d := wrap64_id (by omega) (by omega)
   have HRB := Aside0.mk hrb
   have HLB := Aside0.mk hlo
   have HHB := Aside0.mk hhi
   rw [HLO.out] at w6
   rw [HLO.out, HHI.out] at HCL
   clear HLO HHI hrb hlo hhi w3
   unfold riseP at *
   go_wp2_with fail
   go_quiet (fail)
   generalize d * (rd l0 ((l0.length : Int) - 1) - rd l0 0) = R at *
   go_wp2_with (go_at_call 88; with_reducible refine (FL.out _).mono ?_; rintro r w3 ⟨rfl, hd⟩; have hb := Drawn0.below hd; clear hd; have HS3 := Aside0.mk (Stp.of_below (X := fun _ => False) (t := 0) (base := base) (below_step (by repeat (first | (with_reducible first | exact Below.refl _ _ | apply below_alloc | apply pw_below_drewN | apply below_drew1) | exact Below.refl _ _)) hb)); clear hb)
   have HJ3 := Aside0.mk (HJ.out _ _ _ (HJ.out _ _ _ HJ0.out (Stp.of_below (X := fun _ => False) (t := 0) (base := base) (pw_below_drewN (Below.refl _ _) nq))) HS3.out)
   have HC3 := Aside0.mk ((HC.out.stp (Stp.of_below (X := fun _ => False) (t := 0) (base := base) (pw_below_drewN (Below.refl _ _) nq)) id id (by decide) (by decide)).stp HS3.out id id (by decide) (by decide))
   have HNB := Aside0.mk (show 1 ≤ (l0.length : Int) - 1 ∧ (l0.length : Int) - 1 ≤ 3999 by omega)
   have HG1 := Aside0.mk (show g1 ≠ l ∧ g2 ≠ l by omega)
   have HDB := Aside0.mk (show 1 ≤ d ∧ d ≤ 16 from ⟨hd0, hd1⟩)
   clear HC HJ0 FL HRW x1 x2 y0 y1 v0 v1 hm w2 w4 w5 w6 HV hd0 hd1 hg1 hg2 q3 q2 q1 q0 hn w1 e1
   generalize (l0.length : Int) - 1 = N at *
   obtain ⟨H, hH⟩ : ∃ H, H = (R + d - 1) / N := ⟨_, rfl⟩
   have HH := Aside0.mk hH
   rw [← hH] at HCL HHB
   clear hH
   have HLL := Aside0.mk (show -33000000000 ≤ -((d - 1 - R) / N) ∧ -((d - 1 - R) / N) ≤ 33000000000 by have := HLB.out; omega)
   generalize -((d - 1 - R) / N) = L at *
   have wl : wrap64 L = L := wrap64_id (by have := HLL.out; omega) (by have := HLL.out; omega)
   have wr1 : wrap64 (R + d) = R + d := wrap64_id (by have := HRB.out; have := HDB.out; omega) (by have := HRB.out; have := HDB.out; omega)
   have wr2 : wrap64 (R + d - 1) = R + d - 1 := wrap64_id (by have := HRB.out; have := HDB.out; omega) (by have := HRB.out; have := HDB.out; omega)
   rw [wl]
   refine (wpIn_wide (n := 0)).1 ?_
   gi_loopw [6] (fun v wr => ∃ (a : Int) (kk : Nat) (pre : List S55), v = .int .i64 a ∧ Aside0 (-33000000000 ≤ a ∧ a ≤ 33000000001) ∧ Aside0 (kk = (H - a + 1).toNat) ∧ Aside0 (pre ++ candR d kk a = candL l0 d) ∧ Aside0 (J pre wr) ∧ Aside0 (CapsQ g1 g2 (.slice (some ad) l0.length c0) d wr)) (fun v _ => (H + 1 - Go.RowKit.intOf v).toNat)
   case atStart => exact ⟨L, (H - L + 1).toNat, [], rfl, ⟨by have := HLL.out; omega⟩, ⟨rfl⟩, ⟨by rw [HCL.out]; rfl⟩, HJ3, HC3⟩
   case round =>
    clear HJ3 HC3
    obtain ⟨a, kk, pre, rfl, HA, HK, HE, HJp, HCp⟩ := hrel
    have x2 : wr.cell? ⟨g2, 0, none⟩ = some (.int .i64 d) := (blk_cell HCp.out.b2 0).trans rfl
    have wm : wrap64 (a * N) = a * N := wrap_cand HA.out HNB.out
    have hcmp : a * N ≤ R + d - 1 ↔ a ≤ H := by rw [HH.out]; exact (Int.le_ediv_iff_mul_le (by have := HNB.out; omega)).symm
    by_cases hle : a ≤ H
    · have d0 : decide (a * N ≤ R + d - 1) = true := decide_eq_true (hcmp.2 hle)
      clear hcmp
      obtain ⟨k1, hk1⟩ : ∃ k1, kk = k1 + 1 := ⟨kk - 1, by have := HK.out; omega⟩
      subst hk1
      have HK1 := Aside0.mk (show k1 = (H - (a + 1) + 1).toNat by have := HK.out; omega)
      have HA1 := Aside0.mk (show -33000000000 ≤ a + 1 ∧ a + 1 ≤ 33000000001 by have h1 := HA.out; have h2 := HHB.out; omega)
      have wn : wrap64 (a + 1) = a + 1 := wrap64_id (by have := HA.out; omega) (by have := HA.out; omega)
      have CO := Aside0.mk (fun W => quot_isCoord.calls a _ W (isCoord_of a))
      have HM := Aside0.mk (show (H + 1 - (a + 1)).toNat < (H + 1 - a).toNat by omega)
      cases hca : coordB a with
      | true =>
       rw [hca] at CO
       have HE1 := Aside0.mk (show (pre ++ [(⟨a, 0, d⟩ : S55)]) ++ candR d k1 (a + 1) = candL l0 d by have h := HE.out; unfold candR at h; rw [if_pos hca] at h; rw [List.append_assoc]; exact h)
       have HCA := Aside0.mk hca
       clear hca
       gi_wp2
       refine ⟨trivial, rfl, (callsIn_wide.2 (CO.out _)).mono ?_⟩
       rintro e w8 ⟨rfl, ⟨nd, rfl⟩⟩
       obtain ⟨fn, tmps, assign, body, hy, hR⟩ := HY.out pre ⟨a, 0, d⟩ (wr.drewN nd) (HJ.out _ _ _ HJp.out (Stp.of_below (pw_below_drewN (Below.refl _ _) nd))) ⟨HCA.out, rfl⟩
       dsimp only [encQ] at hy
       gi_wp2
       refine ⟨rfl, hR.mono ?_⟩
       rintro e B ⟨rfl, hJ3, hS3⟩
       gi_wp2
       go_roundw
       case rel => exact ⟨a + 1, k1, pre ++ [⟨a, 0, d⟩], congrArg (Value.int .i64) wn, HA1, HK1, HE1, ⟨hJ3⟩, ⟨(HCp.out.stp (Stp.of_below (X := fun _ => False) (t := 0) (base := base) (pw_below_drewN (Below.refl _ _) nd)) id id (by decide) (by decide)).stp hS3 (fun h => h.elim hb1 HG1.out.1) (fun h => h.elim hb2 HG1.out.2) (by decide) (by decide)⟩⟩
       case measure => exact meas_int wn HM.out
      | false =>
       rw [hca] at CO
       have HE1 := Aside0.mk (show pre ++ candR d k1 (a + 1) = candL l0 d by have h := HE.out; unfold candR at h; rw [if_neg (by rw [hca]; simp)] at h; exact h)
       clear hca
       gi_wp2
       refine ⟨trivial, rfl, (callsIn_wide.2 (CO.out _)).mono ?_⟩
       rintro e w8 ⟨rfl, ⟨nd, rfl⟩⟩
       gi_wp2
       refine ⟨(fun f h => nomatch h), ?_⟩
       gi_wp2
       go_roundw
       case rel => exact ⟨a + 1, k1, pre, congrArg (Value.int .i64) wn, HA1, HK1, HE1, ⟨HJ.out _ _ _ HJp.out (Stp.of_below (pw_below_drewN (Below.refl _ _) nd))⟩, ⟨HCp.out.stp (Stp.of_below (X := fun _ => False) (t := 0) (base := base) (pw_below_drewN (Below.refl _ _) nd)) id id (by decide) (by decide)⟩⟩
       case measure => exact meas_int wn HM.out
    · have d0 : decide (a * N ≤ R + d - 1) = false := decide_eq_false (fun h => hle (hcmp.1 h))
      have HK0 := HK.out
      rw [show (H - a + 1).toNat = 0 by omega] at HK0
      subst HK0
      have HE1 := HE.out
      unfold candR at HE1
      rw [List.append_nil] at HE1
      clear hcmp
      gi_wp2
      refine bodyPost_end (results_none rfl _ _ _) rfl ?_
      exact ⟨⟨_, rfl⟩, by rw [← HE1]; exact HJp.out⟩
end
section
set_option maxHeartbeats 4000000 in
set_option maxRecDepth 100000 in
theorem candidates_calls (A : Option Addr) (n c : Nat) (d : Int) (w : World) :
  Calls Try.prog 112 #[.slice A n c, .int .i64 d] w fun e w' => e = .returned (.func (.func 117) #[] #[.pointer (some ⟨w.heap.size, 0, none⟩), .pointer (some ⟨w.heap.size + 1, 0, none⟩)]) ∧ CapsQ w.heap.size (w.heap.size + 1) (.slice A n c) d w' ∧ Below w.heap.size w w' ∧ w'.heap.size = w.heap.size + 2 := by
 have hmf : ∀ (fn : Fn) (first cap : Array Value) (w : World), (Instr.makeFunc fn first cap).run Try.prog w = .ok (.func fn first cap) w := fun _ _ _ _ => rfl
 go_enter Try.func112, Try.ntmps112
 go_wp2
 go_ret
 exact ⟨rfl, ⟨blk_alloc (blk_new w _) _, by simpa using blk_new (w.alloc (.cells #[.slice A n c] 33)) (.cells #[.int .i64 d] 3)⟩, below_alloc (below_alloc (Below.refl _ _) _) _, by simp⟩
end
end Go.Proofs.Ytdigjjncoeaiiaa.PAll
