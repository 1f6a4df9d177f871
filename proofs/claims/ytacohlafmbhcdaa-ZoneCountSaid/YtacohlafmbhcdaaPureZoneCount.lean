/- The plain statement of ZoneCount: zones have as many readers as their canonical form, which has scales times widths for each of its zones, in order. -/
import Derived.Test.YtacohlafmbhcdaaStmZoneCount
import Derived.Test.YtacohlafmbhcdaaZPlain
namespace Go.Proofs.Ytacohlafmbhcdaa.ZoneCountPure
open Go.RowKit Go.Proofs.Ytacohlafmbhcdaa.PAll Go.Proofs.Ytacohlafmbhcdaa.Plain Go.Proofs.YtacohlafmbhcdaaW.PrintWords Go.Proofs.YtacohlafmbhcdaaW.PrintLast Go.Proofs.YtacohlafmbhcdaaW.PrintMore Go.Proofs.YtacohlafmbhcdaaGopen

theorem count_loop {c : List S35} (hr : c.Pairwise LtZ) (hc : c.length ≤ 1000) : ∀ (d i : Nat), i + d = c.length → Ev (fun k => formelaw03_ZoneCount.l0 k true c 0 (cntZ c) 0 (cntZ c) 0 (cntZ (c.take i)) c (c.length : Int) (i : Int)) true
  | 0, i, hi => by
    refine Ev.step (f := fun _ => some true) (fun k => ?_) (Ev.now _)
    simp only [formelaw03_ZoneCount.l0]
    rw [if_neg (by omega), List.take_of_length_le (by omega)]
    simp
  | d + 1, i, hi => by
    have h : i < c.length := by omega
    refine Ev.step (f := fun k => formelaw03_ZoneCount.l0 k true c 0 (cntZ c) 0 (cntZ c) 0 (cntZ (c.take (i + 1))) c (c.length : Int) ((i + 1 : Nat) : Int)) (fun k => ?_) (count_loop hr hc d (i + 1) (by omega))
    rw [List.take_succ_eq_append_getElem h, cntZ_snoc]
    simp only [formelaw03_ZoneCount.l0]
    rw [if_pos (by omega), if_pos (by omega), if_pos (by omega)]
    by_cases h0 : i = 0
    · subst h0
      rw [if_neg (by omega), rd35_at h, wrap_id (x := ((0 : Nat) : Int) + 1) (by omega) (by omega)]
      rfl
    · obtain ⟨j, rfl⟩ : ∃ j, i = j + 1 := ⟨i - 1, by omega⟩
      have hj : j < c.length := by omega
      have hlt : LtZ c[j] c[j + 1] := List.pairwise_iff_getElem.1 hr j (j + 1) hj h (by omega)
      have e1 : wrap64 (((j + 1 : Nat) : Int) - 1) = (j : Int) := by unfold wrap64; omega
      rw [if_pos (by omega), e1, if_pos (by omega), if_pos (by omega), rd35_at h, rd35_at hj]
      unfold formeref03_First.f
      rw [Option.bind_some, Option.bind_some]
      simp only []
      rw [before_of _ _ _ _ _ _ hlt, Option.bind_some, if_pos rfl, wrap_id (x := ((j + 1 : Nat) : Int) + 1) (by omega) (by omega)]
      rfl
theorem proved : ZoneCountStm.Pure := by
  intro l h0
  have hl : l.length ≤ 4000000000000000000 := by have := h0.1; omega
  clear h0
  obtain ⟨KU, hU⟩ := usable_ev l [] hl (by simp)
  replace hU : ∀ k, KU ≤ k → formelaw03_usable.f k l [] = some (decide (l.length + ([] : List S35).length ≤ 24) && (validP l && validP [])) := hU
  cases hu : (decide (l.length + ([] : List S35).length ≤ 24) && (validP l && validP [])) with
  | true =>
    rw [hu] at hU
    rw [Bool.and_eq_true, Bool.and_eq_true, decide_eq_true_eq] at hu
    obtain ⟨h24, hv, _⟩ := hu
    have hf := canW_form (valid_ok hv).1 (show l.length ≤ 24 by simpa using h24)
    have c1 := canon_of hv (show l.length ≤ 24 by simpa using h24)
    have c2 := count_of hv
    have c3 := count_of hf.valid
    rw [formP_again hf.can] at c3
    have hr := form_rise hf.can
    have hs := hf.short
    generalize formP (canW l) = c at *
    obtain ⟨KL, hL⟩ := count_loop hr (by omega) c.length 0 (by omega)
    replace hL : ∀ k, KL ≤ k → formelaw03_ZoneCount.l0 k true c 0 (cntZ c) 0 (cntZ c) 0 0 c (c.length : Int) 0 = some true := hL
    refine ⟨KU + KL, ?_⟩
    unfold formelaw03_ZoneCount.f formelaw03_head.f
    rw [Option.bind_some, hU _ (by omega), Option.bind_some, if_pos rfl, c1, Option.bind_some, c2, Option.bind_some]
    simp only []
    rw [c3, Option.bind_some]
    exact hL _ (by omega)
  | false =>
    rw [hu] at hU
    refine ⟨KU, ?_⟩
    unfold formelaw03_ZoneCount.f formelaw03_head.f
    rw [Option.bind_some, hU _ (by omega), Option.bind_some, if_neg (by simp)]

end Go.Proofs.Ytacohlafmbhcdaa.ZoneCountPure
