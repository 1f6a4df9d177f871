/- The plain statement of FloatsMatchesReference: program and reference answer alike. -/
import Derived.Test.YtffmflmpiekcfabStmFloatsMatchesReference
import Derived.Test.YtffmflmpiekcfabPlainB
namespace Go.Proofs.Ytffmflmpiekcfab.FloatsMatchesReferencePure
open Go.RowKit Go.Proofs.Ytffmflmpiekcfab.PAll Go.Proofs.Ytffmflmpiekcfab.Plain Go.Proofs.YtffmflmpiekcfabW.PrintWords Go.Proofs.YtffmflmpiekcfabW.PrintLast Go.Proofs.YtffmflmpiekcfabW.PrintMore Go.Proofs.YtffmflmpiekcfabGlib
theorem proved : FloatsMatchesReferenceStm.Pure := by
  intro l a1 a2 a3 a4 a5 hok _ _ _ _ _
  have hl : l.length < 9223372036854775807 := by have := hok.1; omega
  have hp : (placeAns l a1 a2 a3 a4 a5).1.length < 9223372036854775807 := by
    have := hok.1
    unfold placeAns
    repeat' split
    all_goals simp
    all_goals omega
  have same := ref_same_ev (l := (placeAns l a1 a2 a3 a4 a5).1) (placeAns l a1 a2 a3 a4 a5).1 hp
  obtain ⟨K, hK⟩ := (Ev.p head_ev).and ((Ev.p (room_ans hl a1 a3 a5)).and ((Ev.p (ref_room_ans hl a1 a3 a5)).and ((Ev.p (ref_valid_ev hl a1)).and ((Ev.p (below_ans hl a1 a2)).and ((Ev.p (ref_below_ans hl a1 a2)).and ((Ev.p (ref_place_ans hl a1 a2 a3 a4 a5)).and (Ev.p same)))))))
  obtain ⟨q1, _⟩ := hK (K + 2) (by omega)
  obtain ⟨_, r2, r3, r4, _⟩ := hK (K + 1) (by omega)
  obtain ⟨_, _, _, _, s5, s6, s7, s8⟩ := hK K (by omega)
  refine ⟨K + 2, ?_⟩
  unfold formelaw20_FloatsMatchesReference.f
  rw [q1]
  have hj : formelaw20_FloatsMatchesReference.j0 (K + 2) l a1 a2 a3 a4 a5 true false = some true := by
    simp only [formelaw20_FloatsMatchesReference.j0, r2, r3, r4, valid_of, Option.bind_some, if_true, beq_self_eq_true, Bool.and_true, formelaw20_FloatsMatchesReference.j1, s5, s6, s7, s8, place_of]
    simp
  simp only [Option.bind_some]
  split
  · by_cases h2 : (l.length : Int) < 200
    · rw [decide_eq_true h2]
      simp [formelaw20_FloatsMatchesReference.j0]
    · rw [decide_eq_false h2]
      exact hj
  · exact hj
end Go.Proofs.Ytffmflmpiekcfab.FloatsMatchesReferencePure
