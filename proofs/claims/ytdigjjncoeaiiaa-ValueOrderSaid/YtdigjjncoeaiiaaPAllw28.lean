/- Printed by a program of this session (wip/gprint.py) over the translation, cut to what is named (wip/dcut.py). Not trusted: Lean checks it. -/
import Derived.Test.YtdigjjncoeaiiaaPAlld0
import Derived.Test.YtdigjjncoeaiiaaPAllw20
import Derived.Test.YtdigjjncoeaiiaaPAllw24
import Derived.Test.YtdigjjncoeaiiaaPAllw27
namespace Go.Proofs.Ytdigjjncoeaiiaa.PAll
open Go.RowKit Go.Proofs.YtdigjjncoeaiiaaW.PrintWords Go.Proofs.YtdigjjncoeaiiaaW.PrintLast Go.Proofs.YtdigjjncoeaiiaaW.PrintMore
attribute [local go_sem] max2_int min2_int max_two min_two max_three min_three max_four min_four -- for this text's walks alone
set_option linter.unusedVariables false
set_option linter.unusedSimpArgs false
set_option maxHeartbeats 8000000 in
set_option maxRecDepth 100000 in
theorem uses_calls (e : S24) (A : Option Addr) (c : Nat) (w : World) (hr : Kd.C k24 w A e.f2.length e.f2) (hc : e.f2.length ≤ c) :
    Calls Try.prog 15 #[.agg #[.int .i64 e.f0, .int .i64 e.f1, .slice A e.f2.length c]] w fun r w' => ∃ v, r = .returned (.tuple #[v, .int .i64 (usesP e).2]) ∧ Kd.R (Kd.int .i64) 3 w' w.heap.size (fun _ => True) v (usesP e).1 ∧ Below w.heap.size w w' := by
  have VC := Aside0.mk (fun W h => valid_calls e A c W h hc)
  have HR := Aside0.mk hr
  have HB := Aside0.mk (below_alloc (Below.refl w.heap.size w) (.cells #[.int .i64 e.f0, .int .i64 e.f1, .slice A e.f2.length c] 24))
  have N1 := Aside0.mk (blk_new w (.cells #[.int .i64 e.f0, .int .i64 e.f1, .slice A e.f2.length c] 24))
  have hmm := @run_makeMap Try.prog
  unfold usesP
  cases hv : validE e with
  | false =>
    rw [hv] at VC
    clear hr hv
    go_enter Try.func15, Try.ntmps15
    go_wp2_with (go_at_call 13; with_reducible refine (VC.out _ ?b1).mono ?_; (case b1 => exact Kd.C_below HR.out HB.out); rintro r w1 ⟨rfl, hb⟩; have HB1 := Aside0.mk (below_step HB.out hb); clear hb)
    go_ret2
    exact ⟨_, rfl, Kd.R_nil _ _ _ _ _, HB1.out⟩
  | true =>
    have hwf := formed_wf 30 e 100 hv
    have hlen := var_len 30 e hwf
    obtain ⟨hm1, hm2, hm3⟩ := uses_room hlen
    have CC := Aside0.mk (fun (b : Nat) W hb0 h1 h2 => collect_calls w b hb0 30 e A c 0 [] W hwf hr hc h1 h2 hm1)
    have HPM := Aside0.mk (used_perm (varF 30 e) (var_range 30 e hwf))
    have HSZ := Aside0.mk (Nat.le_trans (size_setI (varF 30 e)) hm2)
    have HSB := Aside0.mk (Nat.le_trans (Nat.mul_le_mul_right 8 (size_setI (varF 30 e))) hm3)
    have HUS := Aside0.mk (used_sorted (varF 30 e))
    rw [hv] at VC
    simp only [List.nil_append] at CC
    generalize varF 30 e = vs at *
    clear hr hv hwf hlen hm1 hm2 hm3
    go_enter Try.func15, Try.ntmps15
    go_wp2_with (first
      | (go_at_call 13; with_reducible refine (VC.out _ ?b1).mono ?_; (case b1 => exact Kd.C_below HR.out HB.out); rintro r w1 ⟨rfl, hb⟩; have HB1 := Aside0.mk (below_step HB.out hb); have M1 := Aside0.mk (blk_alloc (blk_below N1.out hb) (.map #[] 0)); clear hb; have c0 := (blk_cell M1.out 0).trans rfl; have c1 := (blk_cell M1.out 1).trans rfl; have c2 := (blk_cell M1.out 2).trans rfl)
      | (go_at_call 35; go_loud (refine (CC.out _ _ ?b0 ?b1 ?b2).mono ?_; (case b0 => exact HB1.out.size); (case b1 => exact below_alloc HB1.out _); (case b2 => exact World.ownsMap_made _ _ _ _)); rintro r w2 ⟨rfl, ho, hg⟩; have HO2 := Aside0.mk ho; have HB2 := Aside0.mk (below_grown (below_alloc HB1.out _) HB1.out.size hg); clear ho hg)
      | (go_at_call 37; refine (keys_call _ _).mono ?_; rintro r w3 ⟨rfl, rfl⟩)
      | (go_at_call 36; go_loud (refine (sorted_call _ _ _ _ w2 HO2.out HSZ.out HSB.out).mono ?_); rintro r w4 ⟨v, ss, rfl, hS, hrow, hnil, hb⟩; have HB4 := Aside0.mk (below_then HB2.out HB2.out.size hb); have HS := Aside0.mk hS; have HROW := Aside0.mk hrow; clear hS hrow hnil hb))
    go_ret2
    have hms : ss.mergeSort (fun x y => decide (x ≤ y)) = usedL vs := by
      rw [← HUS.out]
      exact mergeSort_of_perm_i (HS.out.trans HPM.out.symm)
    have hll : ss.length = (usedL vs).length := (HS.out.trans HPM.out.symm).length_eq
    refine ⟨_, rfl, ?_, HB4.out⟩
    have hrow := HROW.out
    rw [hms, hll] at hrow
    exact Kd.R_lower (Kd.R_of_own (h1 := fun _ => rfl) hrow (fun _ _ => trivial)) HB2.out.size
theorem value_Uses.calls (a0_0 a0_1 : Int) (A0_2 : Option Addr) (c0_2 : Nat) (l0_2 : List (S24)) (r1 : List Int) (r2 : Int) (w : World) (hr0_2 : Kd.C k24 w A0_2 l0_2.length l0_2) (hc0_2 : l0_2.length ≤ c0_2) (h : value_Uses.f a0_0 a0_1 l0_2 = some (r1, r2)) :
    Calls Try.prog 15 #[.agg #[.int .i64 a0_0, .int .i64 a0_1, .slice A0_2 l0_2.length c0_2]] w fun e w' => ∃ v0_ : Value, e = .returned (.tuple #[v0_, .int .i64 r2]) ∧ Kd.R (Kd.int .i64) 3 w' w.heap.size (fun _ => True) v0_ r1 ∧ Below w.heap.size w w' := by
  have h1 := Option.some.inj h
  have h2 := uses_calls ⟨a0_0, a0_1, l0_2⟩ A0_2 c0_2 w hr0_2 hc0_2
  rw [h1] at h2
  exact h2
end Go.Proofs.Ytdigjjncoeaiiaa.PAll
