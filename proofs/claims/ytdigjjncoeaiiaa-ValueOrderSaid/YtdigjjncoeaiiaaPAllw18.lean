/- Printed by a program of this session (wip/gprint.py) over the translation, cut to what is named (wip/dcut.py). Not trusted: Lean checks it. -/
import Derived.Test.YtdigjjncoeaiiaaPAlld0
import Derived.Test.YtdigjjncoeaiiaaPAllw3
import Derived.Test.YtdigjjncoeaiiaaPAllw15
import Derived.Test.YtdigjjncoeaiiaaPAllw17
namespace Go.Proofs.Ytdigjjncoeaiiaa.PAll
open Go.RowKit Go.Proofs.YtdigjjncoeaiiaaW.PrintWords Go.Proofs.YtdigjjncoeaiiaaW.PrintLast Go.Proofs.YtdigjjncoeaiiaaW.PrintMore
attribute [local go_sem] max2_int min2_int max_two min_two max_three min_three max_four min_four -- for this text's walks alone
set_option linter.unusedVariables false
set_option linter.unusedSimpArgs false
open Go.Proofs.YtdigjjncoeaiiaaGlib
set_option maxHeartbeats 8000000 in
set_option maxRecDepth 100000 in
theorem curve_Make.calls (k : Nat) (a0 : Int) (P1_ : Nat → Prop) (A1 : Option Addr) (c1 : Nat) (l1 : List Int) (r1 : List S57) (r2 : Int) (w : World) (hs1 : Kd.V (Kd.int .i64) 3 w w.heap.size (fun k_ => P1_ k_) (.slice A1 l1.length c1) l1) (h : curve_Make.f k a0 l1 = some (r1, r2)) :
    Calls Try.prog 38 #[.int .i64 a0, .slice A1 l1.length c1] w fun e w' => ∃ v0_ : Value, e = .returned (.tuple #[v0_, .int .i64 r2]) ∧ Kd.R k57 57 w' w.heap.size (fun k_ => (w.heap.size ≤ k_)) v0_ r1 ∧ Below w.heap.size w w' := by
  have HC := Aside0.mk (Kd.V_reads' hs1)
  have HV := Aside0.mk hs1
  have hwl : wrap64 (4001 - (l1.length : Int)) = 4001 - (l1.length : Int) := wrap64_id (by have := Kd.C_max HC.out.2.2; omega) (by have := Kd.C_max HC.out.2.2; omega)
  have CO := Aside0.mk (fun W (h : Below w.heap.size w W) => containsI_calls 66 #[] enters66 (fun z => !coordB z) (fun _ => True) (fun _ _ h _ => h) (fun z W _ => (curve_Make_1.calls z _ W (make1_of z)).mono (fun e w' h => ⟨h.1, h.2.below⟩)) A1 c1 l1 W (Kd.C_below HC.out.2.2 h) HC.out.2.1 trivial)
  have H := Aside0.mk h
  clear hs1 h
  go_enter Try.func38, Try.ntmps38
  by_cases hbig : l1.length > 4000
  · have d0 : decide ((4000 : Int) < (l1.length : Int)) = true := decide_eq_true (by omega)
    have H1 := H.out
    unfold curve_Make.f at H1
    rw [if_pos hbig] at H1
    obtain ⟨rfl, rfl⟩ := Prod.mk.inj (Option.some.inj H1)
    clear H1
    go_wp2
    go_ret2
    exact ⟨_, rfl, Kd.R_nil _ _ _ _ _, Below.refl _ _⟩
  · have d0 : decide ((4000 : Int) < (l1.length : Int)) = false := decide_eq_false (by omega)
    have H1 := H.out
    unfold curve_Make.f at H1
    rw [if_neg hbig] at H1
    have H1 := Aside0.mk H1
    clear H
    by_cases hz : l1.length = 0
    · have d1 : (((l1.length : Int)) == 0) = true := by rw [hz]; rfl
      have H2 := H1.out
      rw [if_pos (show badM a0 l1 = true by unfold badM; rw [decide_eq_true hz]; rfl)] at H2
      obtain ⟨rfl, rfl⟩ := Prod.mk.inj (Option.some.inj H2)
      clear H2 H1
      go_wp2
      go_ret2
      exact ⟨_, rfl, Kd.R_nil _ _ _ _ _, Below.refl _ _⟩
    · have d1 : (((l1.length : Int)) == 0) = false := beq_eq_false_iff_ne.mpr (by omega)
      by_cases hn : a0 < 0
      · have d2 : decide (a0 < 0) = true := decide_eq_true hn
        have H2 := H1.out
        rw [if_pos (show badM a0 l1 = true by unfold badM; rw [d2]; simp)] at H2
        obtain ⟨rfl, rfl⟩ := Prod.mk.inj (Option.some.inj H2)
        clear H2 H1
        go_wp2
        go_ret2
        exact ⟨_, rfl, Kd.R_nil _ _ _ _ _, Below.refl _ _⟩
      · have d2 : decide (a0 < 0) = false := decide_eq_false hn
        by_cases hm : 4001 - (l1.length : Int) < a0
        · have d3 : decide (4001 - (l1.length : Int) < a0) = true := decide_eq_true hm
          have H2 := H1.out
          rw [if_pos (show badM a0 l1 = true by unfold badM; rw [decide_eq_true (show a0 > 4001 - (l1.length : Int) from hm)]; simp)] at H2
          obtain ⟨rfl, rfl⟩ := Prod.mk.inj (Option.some.inj H2)
          clear H2 H1
          go_wp2
          go_ret2
          exact ⟨_, rfl, Kd.R_nil _ _ _ _ _, Below.refl _ _⟩
        · have d3 : decide (4001 - (l1.length : Int) < a0) = false := decide_eq_false hm
          have hb : badM a0 l1 = l1.any (fun z => !coordB z) := by unfold badM; rw [decide_eq_false hz, d2, decide_eq_false (show ¬ a0 > 4001 - (l1.length : Int) from hm)]; simp
          rw [hb] at H1
          clear hb
          cases hany : l1.any (fun z => !coordB z) with
          | true =>
            rw [hany] at CO H1
            have H2 := H1.out
            rw [if_pos rfl] at H2
            obtain ⟨rfl, rfl⟩ := Prod.mk.inj (Option.some.inj H2)
            clear H2 H1 hany
            go_wp2_with (go_at_call 45; with_reducible refine (CO.out _ (Below.refl _ _)).mono ?_; rintro e w3 ⟨rfl, hb⟩)
            go_ret2
            exact ⟨_, rfl, Kd.R_nil _ _ _ _ _, hb⟩
          | false =>
            rw [hany] at CO H1
            have H2 := H1.out
            rw [if_neg (by simp)] at H2
            obtain ⟨r, hr, he⟩ := Option.bind_eq_some_iff.mp H2
            obtain ⟨rfl, rfl⟩ := Prod.mk.inj (Option.some.inj he)
            have HSP := Aside0.mk (fun W (h : Below w.heap.size w W) => curve_split.calls k a0 (fun k_ => P1_ k_) A1 c1 l1 r W (by exact Kd.V_below HV.out h) hr)
            clear H2 H1 hany he hr
            go_wp2_with (first | (go_at_call 45; with_reducible refine (CO.out _ (Below.refl _ _)).mono ?_; rintro e w3 ⟨rfl, hb⟩; have HB3 := Aside0.mk hb; clear hb) | (go_at_call 68; with_reducible refine (HSP.out _ HB3.out).mono ?_; rintro e w4 ⟨v0, rfl, hR, hb⟩; have HR4 := Aside0.mk hR; have HB4 := Aside0.mk (below_step HB3.out hb); clear hR hb))
            go_ret2
            have hs := HB3.out.size
            exact ⟨_, rfl, Kd.R_mono (Kd.R_lower HR4.out hs) (fun k h => by omega), HB4.out⟩
end Go.Proofs.Ytdigjjncoeaiiaa.PAll
