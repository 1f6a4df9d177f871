/- The plain statement of ZoneSums: readers are counted as those of union and meet together; meet and what is left make the first list again. -/
import Derived.Test.YtacohlafmbhcdaaStmZoneSums
import Derived.Test.YtacohlafmbhcdaaZPlain
namespace Go.Proofs.Ytacohlafmbhcdaa.ZoneSumsPure
open Go.RowKit Go.Proofs.Ytacohlafmbhcdaa.PAll Go.Proofs.Ytacohlafmbhcdaa.Plain Go.Proofs.YtacohlafmbhcdaaW.PrintWords Go.Proofs.YtacohlafmbhcdaaW.PrintLast Go.Proofs.YtacohlafmbhcdaaW.PrintMore Go.Proofs.YtacohlafmbhcdaaGopen

theorem proved : ZoneSumsStm.Pure := by
  intro a b ha hb
  have hla : a.length ≤ 4000000000000000000 := by have := ha.1; omega
  have hlb : b.length ≤ 4000000000000000000 := by have := hb.1; omega
  clear ha hb
  obtain ⟨KU, hU⟩ := usable_ev a b hla hlb
  replace hU : ∀ k, KU ≤ k → formelaw03_usable.f k a b = some (decide (a.length + b.length ≤ 24) && (validP a && validP b)) := hU
  cases hu : (decide (a.length + b.length ≤ 24) && (validP a && validP b)) with
  | true =>
    rw [hu] at hU
    rw [Bool.and_eq_true, Bool.and_eq_true, decide_eq_true_eq] at hu
    obtain ⟨h24, hva, hvb⟩ := hu
    have oa := (valid_ok hva).1
    have ob := (valid_ok hvb).1
    have u := union_of hva hvb h24
    have m := meet_of hva hvb h24
    have n := less_of hva hvb h24
    have fa := canW_form oa (show a.length ≤ 24 by omega)
    have fb := canW_form ob (show b.length ≤ 24 by omega)
    have f0 := both_form oa ob h24 0
    have f1 := both_form oa ob h24 1
    have ca := count_of hva
    have cb := count_of hvb
    have c0 := count_of f0.valid
    have c1 := count_of f1.valid
    rw [formP_again f0.can, cnt_form f0] at c0
    rw [formP_again f1.can, cnt_form f1] at c1
    rw [cnt_form fa] at ca
    rw [cnt_form fb] at cb
    have tot := total_both oa ob
    have ag := again_of oa ob h24
    have cn := canon_of hva (show a.length ≤ 24 by omega)
    obtain ⟨KS, hS⟩ := same_ev (formP (canW a)) (formP (canW a)) (by have := fa.short; omega)
    replace hS : ∀ k, KS ≤ k → formeref03_Same.f k (formP (canW a)) (formP (canW a)) = some true := fun k hk => (hS k hk).trans (by simp)
    generalize total (bothP a b 0) = t0 at *
    generalize total (bothP a b 1) = t1 at *
    generalize total (canW a) = ta at *
    generalize total (canW b) = tb at *
    generalize formP (bothP a b 0) = x at *
    generalize formP (bothP a b 1) = y at *
    generalize formP (bothP a b 2) = z at *
    generalize formP (canW a) = c at *
    refine ⟨KU + KS + 1, ?_⟩
    unfold formelaw03_ZoneSums.f formelaw03_head.f
    rw [Option.bind_some, hU _ (by omega), Option.bind_some, if_pos rfl, u, Option.bind_some, m, Option.bind_some, n, Option.bind_some]
    simp only [if_true]
    simp only [formelaw03_ZoneSums.j0]
    rw [if_neg (by simp), ca, Option.bind_some, cb, Option.bind_some, c0, Option.bind_some, c1, Option.bind_some, ag, Option.bind_some, cn, Option.bind_some]
    simp only [if_true]
    rw [if_pos (by rw [tot]), hS _ (by omega), Option.bind_some]
  | false =>
    rw [hu] at hU
    refine ⟨KU, ?_⟩
    unfold formelaw03_ZoneSums.f formelaw03_head.f
    rw [Option.bind_some, hU _ (by omega), Option.bind_some, if_neg (by simp)]

end Go.Proofs.Ytacohlafmbhcdaa.ZoneSumsPure
