/- The plain statement of ZoneSets: a reader is in the union, the meet and what is left exactly if it is in one of both, in both, in the first one only. -/
import Derived.Test.YtacohlafmbhcdaaStmZoneSets
import Derived.Test.YtacohlafmbhcdaaZPlain
namespace Go.Proofs.Ytacohlafmbhcdaa.ZoneSetsPure
open Go.RowKit Go.Proofs.Ytacohlafmbhcdaa.PAll Go.Proofs.Ytacohlafmbhcdaa.Plain Go.Proofs.YtacohlafmbhcdaaW.PrintWords Go.Proofs.YtacohlafmbhcdaaW.PrintLast Go.Proofs.YtacohlafmbhcdaaW.PrintMore Go.Proofs.YtacohlafmbhcdaaGopen

theorem proved : ZoneSetsStm.Pure := by
  intro a b r ha hb _
  obtain ⟨w, s, lang⟩ := r
  have hla : a.length ≤ 4000000000000000000 := by have := ha.1; omega
  have hlb : b.length ≤ 4000000000000000000 := by have := hb.1; omega
  clear ha hb
  obtain ⟨KU, hU⟩ := usable_ev a b hla hlb
  replace hU : ∀ k, KU ≤ k → formelaw03_usable.f k a b = some (decide (a.length + b.length ≤ 24) && (validP a && validP b)) := hU
  cases hu : (decide (a.length + b.length ≤ 24) && (validP a && validP b)) with
  | true =>
    rw [hu] at hU
    rw [Bool.and_eq_true, Bool.and_eq_true, decide_eq_true_eq] at hu
    obtain ⟨h24, hva, hvb⟩ := hu
    have oa := (valid_ok hva).1
    have ob := (valid_ok hvb).1
    refine ⟨KU + 1, ?_⟩
    show formelaw03_ZoneSets.f _ a b w s lang = some true
    unfold formelaw03_ZoneSets.f formelaw03_head.f
    rw [Option.bind_some, hU _ (by omega), Option.bind_some, if_pos rfl]
    by_cases hr : RD w s lang
    · have f0 := has_form (both_form oa ob h24 0) hr
      have f1 := has_form (both_form oa ob h24 1) hr
      have f2 := has_form (both_form oa ob h24 2) hr
      rw [memB_both oa ob] at f0 f1 f2
      have g0 := has_zones hva hr
      have g1 := has_zones hvb hr
      have u := union_of hva hvb h24
      have m := meet_of hva hvb h24
      have n := less_of hva hvb h24
      generalize formP (bothP a b 0) = x at *
      generalize formP (bothP a b 1) = y at *
      generalize formP (bothP a b 2) = z at *
      generalize memB w (canW a lang s) = p at *
      generalize memB w (canW b lang s) = q at *
      rw [reader_yes hr, Option.bind_some]
      simp only [formelaw03_ZoneSets.j0]
      rw [if_neg (by simp), u, Option.bind_some, m, Option.bind_some, n, Option.bind_some, g0, Option.bind_some, g1, Option.bind_some]
      simp only []
      rw [f0, Option.bind_some, f1, Option.bind_some, f2, Option.bind_some]
      cases p <;> cases q <;> rfl
    · rw [reader_no hr, Option.bind_some]
      simp only [formelaw03_ZoneSets.j0]
      rw [if_pos (by rfl)]
  | false =>
    rw [hu] at hU
    refine ⟨KU + 1, ?_⟩
    show formelaw03_ZoneSets.f _ a b w s lang = some true
    unfold formelaw03_ZoneSets.f formelaw03_head.f
    rw [Option.bind_some, hU _ (by omega), Option.bind_some, if_neg (by simp)]
    simp only [formelaw03_ZoneSets.j0]
    rw [if_pos trivial]

end Go.Proofs.Ytacohlafmbhcdaa.ZoneSetsPure
