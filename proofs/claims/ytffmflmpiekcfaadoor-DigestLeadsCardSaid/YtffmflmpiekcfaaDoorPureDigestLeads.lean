/- The plain statement of DigestLeads: the path of an index leads from its digest to the root, and no other length, and no place outside, does. -/
import Derived.Test.YtffmflmpiekcfaaDoorStmDigestLeads
import Derived.Test.YtffmflmpiekcfaaDoorPlainB
namespace Go.Proofs.YtffmflmpiekcfaaDoor.DigestLeadsPure
open Go.RowKit Go.Proofs.YtffmflmpiekcfaaDoor.PAll Go.Proofs.YtffmflmpiekcfaaDoor.Plain Go.Proofs.YtffmflmpiekcfaaDoorW.PrintWords Go.Proofs.YtffmflmpiekcfaaDoorW.PrintLast Go.Proofs.YtffmflmpiekcfaaDoorW.PrintMore Go.Proofs.YtffmflmpiekcfaaDoorGopen Go.Proofs.YtffmflmpiekcfaaDoorGlib
open DigestLeadsStm

theorem proved : DigestLeadsStm.Pure := by
  intro l0 a1 a2 h0 h1 h2
  have w1 := wfu16 h1
  by_cases hf : 0 < l0.length ∧ l0.length ≤ 200
  · have few : formelaw04_few.f l0 = some true := by
      unfold formelaw04_few.f
      rw [if_pos (by omega), decide_eq_true (by omega)]
    have hw : wrap64 a1 = a1 := wrap64_id (by omega) (by omega)
    obtain ⟨i, hi⟩ : ∃ i : Int, i = Int.tmod a1 (l0.length : Int) := ⟨_, rfl⟩
    have hi0 : 0 ≤ i := by
      rw [hi, Int.tmod_eq_emod_of_nonneg (by omega)]
      exact Int.emod_nonneg _ (by omega)
    have hi1 : i < l0.length := by
      rw [hi, Int.tmod_eq_emod_of_nonneg (by omega)]
      exact Int.emod_lt_of_pos _ (by omega)
    have r0 : digest_Root.f l0 = some (rootP l0, 0) := by
      rw [root_ev]
      unfold rootE
      rw [if_neg (by omega), if_neg (by omega)]
    have p0 : digest_Path.f l0 i = some (pathP l0 i, 0) := by
      rw [path_ev]
      unfold pathE
      rw [if_neg (by omega), if_neg (by omega), if_pos ⟨hi0, hi1⟩]
    have hpl := path_len hi0 hi1
    have hp14 := len_most (f := l0.length) (i := i) hf.2
    rw [← hpl] at hp14
    have b1 := leads_own hi0 hi1 (by omega)
    have c1 := leads_ev (rootP l0) (rd l0 i) i l0.length (p := pathP l0 i) (by omega)
    have c2 := leads_ev (rootP l0) (rd l0 i) i l0.length (p := pathP l0 i ++ [a2]) (by rw [List.length_append]; simp; omega)
    have c3 := leads_ev (rootP l0) (rd l0 i) l0.length l0.length (p := pathP l0 i) (by omega)
    have c4 := leads_ev (rootP l0) (rd l0 i) (-1) l0.length (p := pathP l0 i) (by omega)
    have c5 := leads_ev (rootP l0) (rd l0 i) i l0.length (p := (pathP l0 i).drop 1) (by rw [List.length_drop]; omega)
    have c6 := leads_ev (rootP l0) (rd l0 i) i l0.length (p := (pathP l0 i).take ((pathP l0 i).length - 1)) (by rw [List.length_take]; omega)
    rw [b1] at c1
    rw [leads_not (by rw [List.length_append, hpl]; simp)] at c2
    rw [leads_not (by omega)] at c3
    rw [leads_not (by omega)] at c4
    have n5 : ¬ (pathP l0 i).length = 0 → leadsE (rootP l0) (rd l0 i) i l0.length ((pathP l0 i).drop 1) = false := fun hne => leads_not (by rw [List.length_drop]; omega)
    have n6 : ¬ (pathP l0 i).length = 0 → leadsE (rootP l0) (rd l0 i) i l0.length ((pathP l0 i).take ((pathP l0 i).length - 1)) = false := fun hne => leads_not (by rw [List.length_take]; omega)
    clear b1 hpl
    generalize pathP l0 i = p at *
    generalize rootP l0 = r at *
    refine ⟨1, ?_⟩
    unfold formelaw04_DigestLeads.f formelaw04_head.f
    rw [Option.bind_some, few, Option.bind_some, if_pos rfl, if_neg (by omega), r0, Option.bind_some, hw, ← hi, p0, Option.bind_some]
    simp only []
    rw [if_pos trivial, if_pos trivial, if_neg (by omega), if_pos hi0, if_pos hi1, c1, Option.bind_some]
    simp only [formelaw04_DigestLeads.j0, Bool.not_true, Bool.false_eq_true, if_false]
    rw [Option.bind_some, List.nil_append, if_pos (by simp; omega), Option.bind_some, if_pos (by omega), if_pos trivial, if_pos hi0, if_pos hi1, c2, Option.bind_some, if_neg (by simp), c3, Option.bind_some, if_neg (by simp), c4, Option.bind_some, if_neg (by simp)]
    by_cases he : p.length = 0
    · rw [if_pos (by omega)]
    · have wl : wrap64 ((p.length : Int) - 1) = (p.length : Int) - 1 := wrap64_id (by omega) (by omega)
      have tl : ((p.length : Int) - 1).toNat = p.length - 1 := by omega
      rw [if_neg (by omega), if_pos (by omega), c5, n5 he, Option.bind_some, if_neg (by simp), wl, if_pos (by omega), if_pos (by omega), tl, c6, n6 he, Option.bind_some]
      rfl
  · refine ⟨0, ?_⟩
    have few : formelaw04_few.f l0 = some false := by
      unfold formelaw04_few.f
      by_cases h : 0 < l0.length
      · rw [if_pos (by omega), decide_eq_false (by omega)]
      · rw [if_neg (by omega)]
    unfold formelaw04_DigestLeads.f formelaw04_head.f
    rw [Option.bind_some, few, Option.bind_some, if_neg (by simp)]

end Go.Proofs.YtffmflmpiekcfaaDoor.DigestLeadsPure
