/- The plain statement of DigestTexts: Next is Sum of a text, and the digest of more bytes tells the digest of the first ones. -/
import Derived.Test.YtffmflmpiekcfaaDoorStmDigestTexts
import Derived.Test.YtffmflmpiekcfaaDoorPlain
namespace Go.Proofs.YtffmflmpiekcfaaDoor.DigestTextsPure
open Go.RowKit Go.Proofs.YtffmflmpiekcfaaDoor.PAll Go.Proofs.YtffmflmpiekcfaaDoor.Plain Go.Proofs.YtffmflmpiekcfaaDoorW.PrintWords Go.Proofs.YtffmflmpiekcfaaDoorW.PrintLast Go.Proofs.YtffmflmpiekcfaaDoorW.PrintMore Go.Proofs.YtffmflmpiekcfaaDoorGopen Go.Proofs.YtffmflmpiekcfaaDoorGlib
open DigestTextsStm

theorem sum_append (a m : List Int) : sumP (a ++ m) = moreP (sumP a) m := more_append _ _ _
theorem same_more (a b m : List Int) : (sumP (a ++ m) == sumP (b ++ m)) = (sumP a == sumP b) := by
  rw [sum_append, sum_append]
  by_cases h : sumP a = sumP b
  · rw [h]
    simp
  · rw [beq_eq_false_iff_ne.mpr h, beq_eq_false_iff_ne]
    intro he
    exact h (Fnv.more_inj m (sum_ok a) (sum_ok b) he)

theorem proved : DigestTextsStm.Pure := by
  intro a0 l1 l2 l3 l4 _ h1 h2 h3 h4
  by_cases b : l1.length > 100 ∨ l2.length > 100 ∨ l3.length > 100 ∨ l4.length > 100
  · refine ⟨1, ?_⟩
    unfold formelaw04_DigestTexts.f formelaw04_head.f
    simp only [Option.bind_some, formelaw04_DigestTexts.j0, if_true]
    by_cases b1 : (l1.length : Int) > 100
    · rw [if_pos b1]
    · rw [if_neg b1]
      by_cases b2 : (l2.length : Int) > 100
      · rw [if_pos b2]
      · rw [if_neg b2]
        by_cases b3 : (l3.length : Int) > 100
        · rw [if_pos b3]
        · rw [if_neg b3, decide_eq_true (by omega), if_pos rfl]
  · have hok : nextOk l1 := fun x hx => by have := wf64 (h1.2 x hx); omega
    have ht := textAll_len a0 l1 hok
    obtain ⟨K, hK⟩ := ((Ev.p (sum_ev (l := l2) (by omega))).and (Ev.p (sum_ev (l := l3) (by omega)))).and (((Ev.p (next_ev (l := l1) (by omega) hok a0)).and (Ev.p (sum_ev (l := textAll a0 l1) (by omega)))).and
      ((Ev.p (sum_ev (l := l2 ++ l4) (by rw [List.length_append]; omega))).and (Ev.p (sum_ev (l := l3 ++ l4) (by rw [List.length_append]; omega)))))
    refine ⟨K + 1, ?_⟩
    obtain ⟨⟨e1, e2⟩, ⟨e3, e4⟩, e5, e6⟩ := hK K (Nat.le_refl _)
    have e7 := text_ev (d := a0) (l := l1) (by omega) hok
    rw [text_sum] at e4
    have hs := same_more l2 l3 l4
    generalize sumP l2 = s2 at *
    generalize sumP l3 = s3 at *
    generalize sumP (l2 ++ l4) = s4 at *
    generalize sumP (l3 ++ l4) = s5 at *
    generalize nextP a0 l1 = x at *
    generalize textAll a0 l1 = y at *
    unfold formelaw04_DigestTexts.f formelaw04_head.f
    rw [Option.bind_some, if_neg (by omega), if_neg (by omega), if_neg (by omega), decide_eq_false (by omega)]
    simp only [formelaw04_DigestTexts.j0]
    rw [if_neg (by simp), e1, Option.bind_some, e2, Option.bind_some, Option.bind_some, if_pos (by simp; omega), Option.bind_some, List.nil_append, if_pos (by omega), Option.bind_some, if_pos (by simp; omega), Option.bind_some, List.nil_append, if_pos (by omega), if_pos trivial, e3, Option.bind_some, e7, Option.bind_some, e4, Option.bind_some, if_pos rfl, e5, Option.bind_some, e6, Option.bind_some, hs]
    simp

end Go.Proofs.YtffmflmpiekcfaaDoor.DigestTextsPure
