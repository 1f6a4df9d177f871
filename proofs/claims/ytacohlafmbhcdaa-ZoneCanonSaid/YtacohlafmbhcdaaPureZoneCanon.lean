/- The plain statement of ZoneCanon: a reader is in the canonical form exactly if it is in the zones, and then in one zone of it; the canonical form is its own one. -/
import Derived.Test.YtacohlafmbhcdaaStmZoneCanon
import Derived.Test.YtacohlafmbhcdaaZPlain
namespace Go.Proofs.Ytacohlafmbhcdaa.ZoneCanonPure
open Go.RowKit Go.Proofs.Ytacohlafmbhcdaa.PAll Go.Proofs.Ytacohlafmbhcdaa.Plain Go.Proofs.YtacohlafmbhcdaaW.PrintWords Go.Proofs.YtacohlafmbhcdaaW.PrintLast Go.Proofs.YtacohlafmbhcdaaW.PrintMore Go.Proofs.YtacohlafmbhcdaaGopen

theorem canon_loop {l c : List S35} {w s lang : Int} {b : Bool} (hh : zone_Has.f l w s lang = some (b, 0)) (hc : c.length ≤ 1000) (hN : (c.filter (inB w s lang)).length ≤ 1) (hb : (decide ((c.filter (inB w s lang)).length = 1)) = b) :
    ∀ (d i n : Nat), i + d = c.length → n + ((c.drop i).filter (inB w s lang)).length = (c.filter (inB w s lang)).length → Ev (fun k => formelaw03_ZoneCanon.l0 k l true (n : Int) c (c.length : Int) (i : Int) w s lang) true
  | 0, i, n, hi, hn => by
    rw [List.drop_eq_nil_of_le (by omega), List.filter_nil, List.length_nil, Nat.add_zero] at hn
    refine Ev.step (f := fun _ => some true) (fun k => ?_) (Ev.now _)
    simp only [formelaw03_ZoneCanon.l0]
    rw [if_neg (by omega), hh, Option.bind_some, if_pos rfl]
    simp only []
    rw [if_pos trivial, if_pos (by subst hb; rw [beq_iff_eq, Bool.eq_iff_iff, beq_iff_eq, decide_eq_true_iff]; omega), decide_eq_true (by omega)]
  | d + 1, i, n, hi, hn => by
    have h : i < c.length := by omega
    rw [List.drop_eq_getElem_cons h, List.filter_cons] at hn
    cases hz : inB w s lang c[i] with
    | true =>
      rw [if_pos hz, List.length_cons] at hn
      refine Ev.step (f := fun k => formelaw03_ZoneCanon.l0 k l true ((n + 1 : Nat) : Int) c (c.length : Int) ((i + 1 : Nat) : Int) w s lang) (fun k => ?_) (canon_loop hh hc hN hb d (i + 1) (n + 1) (by omega) (by omega))
      simp only [formelaw03_ZoneCanon.l0]
      rw [if_pos (by omega), if_pos (by omega), if_pos (by omega), rd35_at h, in_of, hz, Option.bind_some, if_pos rfl, wrap_id (by omega) (by omega), wrap_id (by omega) (by omega)]
      rfl
    | false =>
      rw [if_neg (by simp [hz])] at hn
      refine Ev.step (f := fun k => formelaw03_ZoneCanon.l0 k l true (n : Int) c (c.length : Int) ((i + 1 : Nat) : Int) w s lang) (fun k => ?_) (canon_loop hh hc hN hb d (i + 1) n (by omega) (by omega))
      simp only [formelaw03_ZoneCanon.l0]
      rw [if_pos (by omega), if_pos (by omega), if_pos (by omega), rd35_at h, in_of, hz, Option.bind_some, if_neg (by simp), wrap_id (by omega) (by omega)]
      rfl
theorem proved : ZoneCanonStm.Pure := by
  intro l a h0 h1
  obtain ⟨w, s, lang⟩ := a
  have hl : l.length ≤ 4000000000000000000 := by have := h0.1; omega
  clear h0 h1
  obtain ⟨KU, hU⟩ := usable_ev l [] hl (by simp)
  replace hU : ∀ k, KU ≤ k → formelaw03_usable.f k l [] = some (decide (l.length + ([] : List S35).length ≤ 24) && (validP l && validP [])) := hU
  by_cases hu : l.length ≤ 24 ∧ validP l = true
  · obtain ⟨h24, hv⟩ := hu
    have e : (decide (l.length + ([] : List S35).length ≤ 24) && (validP l && validP [])) = true := by
      rw [decide_eq_true (by simpa using h24), hv]
      rfl
    rw [e] at hU
    have hok := (valid_ok hv).1
    have hf := canW_form hok h24
    have c1 := canon_of hv h24
    have c2 := hf.again
    have cv := hf.valid
    have cs := hf.short
    obtain ⟨KS, hS⟩ := same_ev (formP (canW l)) (formP (canW l)) (by omega)
    replace hS : ∀ k, KS ≤ k → formeref03_Same.f k (formP (canW l)) (formP (canW l)) = some true := fun k hk => (hS k hk).trans (by simp)
    have hcnt : RD w s lang → ((formP (canW l)).filter (inB w s lang)).length = if memB w (canW l lang s) = true then 1 else 0 := fun hr => by
      rw [in_count, widths_form hr]
      exact can_count (hf.can lang s)
    have hmem := memB_can hok w lang s
    by_cases hr : RD w s lang
    · have hc := hcnt hr
      have hh := has_of_valid hv hr
      rw [← hmem] at hh
      generalize formP (canW l) = c at *
      generalize memB w (canW l lang s) = b at *
      obtain ⟨KL, hL⟩ := canon_loop (c := c) hh (by omega) (by rw [hc]; split <;> omega) (by rw [hc]; cases b <;> rfl) c.length 0 0 (by omega) (by simp)
      replace hL : ∀ k, KL ≤ k → formelaw03_ZoneCanon.l0 k l true 0 c (c.length : Int) 0 w s lang = some true := hL
      refine ⟨KU + KS + KL + 1, ?_⟩
      show formelaw03_ZoneCanon.f _ l w s lang = some true
      unfold formelaw03_ZoneCanon.f formelaw03_head.f
      rw [Option.bind_some, hU _ (by omega), Option.bind_some, if_pos rfl, c1, Option.bind_some]
      simp only []
      rw [c2, Option.bind_some]
      simp only [if_true]
      rw [hS _ (by omega), Option.bind_some, if_pos rfl]
      unfold zone_Valid.f
      rw [cv, Option.bind_some]
      simp only [formelaw03_ZoneCanon.j0]
      rw [if_neg (by simp), reader_yes hr, Option.bind_some, if_pos rfl]
      exact hL _ (by omega)
    · generalize formP (canW l) = c at *
      refine ⟨KU + KS + 1, ?_⟩
      show formelaw03_ZoneCanon.f _ l w s lang = some true
      unfold formelaw03_ZoneCanon.f formelaw03_head.f
      rw [Option.bind_some, hU _ (by omega), Option.bind_some, if_pos rfl, c1, Option.bind_some]
      simp only []
      rw [c2, Option.bind_some]
      simp only [if_true]
      rw [hS _ (by omega), Option.bind_some, if_pos rfl]
      unfold zone_Valid.f
      rw [cv, Option.bind_some]
      simp only [formelaw03_ZoneCanon.j0]
      rw [if_neg (by simp), reader_no hr, Option.bind_some, if_neg (by simp)]
  · have e : (decide (l.length + ([] : List S35).length ≤ 24) && (validP l && validP [])) = false := by
      by_cases h : l.length ≤ 24
      · have : validP l = false := by
          rw [Bool.eq_false_iff]
          exact fun h' => hu ⟨h, h'⟩
        rw [this]
        simp
      · rw [decide_eq_false (by simpa using h)]
        rfl
    rw [e] at hU
    refine ⟨KU, ?_⟩
    show formelaw03_ZoneCanon.f _ l w s lang = some true
    unfold formelaw03_ZoneCanon.f formelaw03_head.f
    rw [Option.bind_some, hU _ (Nat.le_refl _), Option.bind_some, if_neg (by simp)]

end Go.Proofs.Ytacohlafmbhcdaa.ZoneCanonPure
