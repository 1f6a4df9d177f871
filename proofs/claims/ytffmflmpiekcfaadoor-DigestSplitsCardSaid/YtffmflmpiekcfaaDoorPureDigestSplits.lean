/- The plain statement of DigestSplits: the root of a list is Pair of the roots of its two parts. -/
import Derived.Test.YtffmflmpiekcfaaDoorStmDigestSplits
import Derived.Test.YtffmflmpiekcfaaDoorPlain
namespace Go.Proofs.YtffmflmpiekcfaaDoor.DigestSplitsPure
open Go.RowKit Go.Proofs.YtffmflmpiekcfaaDoor.PAll Go.Proofs.YtffmflmpiekcfaaDoor.Plain Go.Proofs.YtffmflmpiekcfaaDoorW.PrintWords Go.Proofs.YtffmflmpiekcfaaDoorW.PrintLast Go.Proofs.YtffmflmpiekcfaaDoorW.PrintMore Go.Proofs.YtffmflmpiekcfaaDoorGopen Go.Proofs.YtffmflmpiekcfaaDoorGlib
open DigestSplitsStm

theorem proved : DigestSplitsStm.Pure := by
  intro l0 h0
  by_cases hf : 0 < l0.length ∧ l0.length ≤ 200
  · have few : formelaw04_few.f l0 = some true := by
      unfold formelaw04_few.f
      rw [if_pos (by omega), decide_eq_true (by omega)]
    have r0 : digest_Root.f l0 = some (rootP l0, 0) := by
      rw [root_ev]
      unfold rootE
      rw [if_neg (by omega), if_neg (by omega)]
    by_cases h1 : l0.length = 1
    · obtain ⟨K, hK⟩ := (leaf_ev (rd l0 0)).rounds
      refine ⟨K, ?_⟩
      rw [root_one h1] at r0
      generalize leafP (rd l0 0) = x at *
      unfold formelaw04_DigestSplits.f formelaw04_head.f
      rw [Option.bind_some, few, Option.bind_some, if_pos rfl, r0, Option.bind_some, if_pos (by omega), if_pos rfl]
      simp only []
      rw [if_pos trivial, if_pos (by omega), hK, Option.bind_some]
      simp
    · have hp := halfP_spec (n := l0.length) (by omega)
      have r1 : digest_Root.f (l0.take (halfP l0.length)) = some (rootP (l0.take (halfP l0.length)), 0) := by
        rw [root_ev]
        unfold rootE
        rw [if_neg (by rw [List.length_take]; omega), if_neg (by rw [List.length_take]; omega)]
      have r2 : digest_Root.f (l0.drop (halfP l0.length)) = some (rootP (l0.drop (halfP l0.length)), 0) := by
        rw [root_ev]
        unfold rootE
        rw [if_neg (by rw [List.length_drop]; omega), if_neg (by rw [List.length_drop]; omega)]
      obtain ⟨K, hK⟩ := (Ev.p (refhalf_ev (n := l0.length) (by omega) (by omega))).and (Ev.p (pair_ev (rootP (l0.take (halfP l0.length))) (rootP (l0.drop (halfP l0.length)))))
      refine ⟨K, ?_⟩
      obtain ⟨e1, e2⟩ := hK K (Nat.le_refl _)
      rw [← root_two (by omega)] at e2
      generalize rootP (l0.take (halfP l0.length)) = x at *
      generalize rootP (l0.drop (halfP l0.length)) = y at *
      generalize rootP l0 = z at *
      unfold formelaw04_DigestSplits.f formelaw04_head.f
      rw [Option.bind_some, few, Option.bind_some, if_pos rfl, r0, Option.bind_some, if_neg (by omega), e1, Option.bind_some, if_pos (by omega), if_pos (by omega), Int.toNat_natCast, r1, Option.bind_some, r2, Option.bind_some, if_pos rfl]
      simp only []
      rw [if_pos trivial, if_pos trivial, if_pos trivial, e2, Option.bind_some, if_pos rfl, wrap64_id (by omega) (by omega), if_pos (by omega), decide_eq_true (by omega)]
  · refine ⟨0, ?_⟩
    have few : formelaw04_few.f l0 = some false := by
      unfold formelaw04_few.f
      by_cases h : 0 < l0.length
      · rw [if_pos (by omega), decide_eq_false (by omega)]
      · rw [if_neg (by omega)]
    unfold formelaw04_DigestSplits.f formelaw04_head.f
    rw [Option.bind_some, few, Option.bind_some, if_neg (by simp)]

end Go.Proofs.YtffmflmpiekcfaaDoor.DigestSplitsPure
