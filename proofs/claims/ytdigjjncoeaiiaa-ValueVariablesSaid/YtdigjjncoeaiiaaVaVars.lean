/- Plain facts for ValueVariables: the value depends on the variables that stand in the expression alone; they are told rising. -/
import Derived.Test.YtdigjjncoeaiiaaVaPlain
namespace Go.Proofs.Ytdigjjncoeaiiaa.Plain
open Go.RowKit Go.Proofs.Ytdigjjncoeaiiaa.PAll Go.Proofs.YtdigjjncoeaiiaaW.PrintWords Go.Proofs.YtdigjjncoeaiiaaW.PrintLast Go.Proofs.YtdigjjncoeaiiaaW.PrintMore Go.Proofs.YtdigjjncoeaiiaaGlib
set_option linter.unusedSimpArgs false

theorem opP_vars {width scale : Int} {v v' : List Int} {op n : Int} {l : List Int} (h : op = 4 → rd v (n - 1) = rd v' (n - 1)) : opP width scale v op n l = opP width scale v' op n l := by
  unfold opP
  by_cases h4 : op = 4
  · have h' : v.getD (n - 1).toNat 0 = v'.getD (n - 1).toNat 0 := h h4
    rw [h']
  · simp [h4]
theorem evF_vars {width scale : Int} {v v' : List Int} : ∀ (m : Nat) (e : S24), (∀ j ∈ varF m e, rd v (j - 1) = rd v' (j - 1)) → evF width scale v m e = evF width scale v' m e
  | 0, e, _ => rfl
  | m + 1, e, h => by
    unfold varF at h
    unfold evF
    rw [evL_congr e.f2 (fun k hk => evF_vars m k (fun j hj => h j (List.mem_append_right _ (List.mem_flatMap.2 ⟨k, hk, hj⟩))))]
    congr 1
    funext l
    rw [opP_vars (fun h4 => h e.f1 (List.mem_append_left _ (by rw [if_pos h4]; simp)))]
/-- The variables of an expression, rising. -/
def ksP (e : S24) : List Int := usedL (varF 30 e)
theorem ks_range (e : S24) : ∀ k ∈ ksP e, 1 ≤ k ∧ k ≤ 8 := by
  intro k hk
  have := (List.mem_filter.1 hk).1
  simp at this
  omega
theorem ks_pairs (e : S24) : (ksP e).Pairwise (fun a b => a < b) := List.Pairwise.filter _ (by decide)
theorem ks_length (e : S24) : (ksP e).length ≤ 8 := List.length_filter_le _ _
theorem ks_rising (e : S24) {i : Nat} (hi : i + 1 < (ksP e).length) : (ksP e)[i] < (ksP e)[i + 1] := (List.pairwise_iff_getElem.1 (ks_pairs e)) i (i + 1) (by omega) hi (by omega)
theorem ks_mem (e : S24) (h : wfE 30 e) {k : Int} (hk : k ∈ varF 30 e) : k ∈ ksP e := by
  have := var_range 30 e h k hk
  unfold ksP usedL
  refine List.mem_filter.2 ⟨?_, List.contains_iff_mem.2 hk⟩
  simp
  omega
/-- What is last of the first ones. -/
def lastP (ks : List Int) (n : Nat) : Int := if n = 0 then 0 else rd ks ((n : Int) - 1)
theorem rd_n {l : List Int} {n : Nat} (h : n < l.length) : rd l (n : Int) = l[n] := by unfold rd; exact getD_at h
theorem ks_last (e : S24) {n : Nat} (hn : n < (ksP e).length) : lastP (ksP e) n < rd (ksP e) (n : Int) := by
  have e1 : rd (ksP e) (n : Int) = (ksP e)[n] := by unfold rd; exact getD_at hn
  unfold lastP
  by_cases h : n = 0
  · subst h
    rw [if_pos rfl, e1]
    have := ks_range e _ (List.getElem_mem hn)
    omega
  · rw [if_neg h]
    have h2 := ks_rising e (i := n - 1) (by omega)
    have e2 : rd (ksP e) ((n : Int) - 1) = (ksP e)[n - 1] := by
      rw [show (n : Int) - 1 = ((n - 1 : Nat) : Int) by omega]
      unfold rd
      exact getD_at (by omega)
    rw [e1, e2]
    have e3 : (ksP e)[n - 1 + 1]'(by omega) = (ksP e)[n] := by congr 1; omega
    omega
theorem last_next (ks : List Int) (n : Nat) : lastP ks (n + 1) = rd ks (n : Int) := by
  unfold lastP
  rw [if_neg (by omega)]
  congr 1
  omega
/-- The others, with the first variables in their places. -/
def mixL (v o : List Int) (ks : List Int) : List Int := ks.foldl (fun m k => m.set (k - 1).toNat (rd v (k - 1))) o
theorem mix_length (v : List Int) : ∀ (ks o : List Int), (mixL v o ks).length = o.length
  | [], o => rfl
  | k :: ks, o => by
    have := mix_length v ks (o.set (k - 1).toNat (rd v (k - 1)))
    rw [List.length_set] at this
    exact this
theorem mix_step (v o ks : List Int) {n : Nat} (h : n < ks.length) : mixL v o (ks.take (n + 1)) = (mixL v o (ks.take n)).set (ks[n] - 1).toNat (rd v (ks[n] - 1)) := by
  unfold mixL
  rw [List.take_succ_eq_append_getElem h, List.foldl_append]
  rfl
theorem mix_in (v : List Int) : ∀ (ks o : List Int) (i : Nat), i < o.length → (((i : Int) + 1) ∈ ks ∧ (∀ k ∈ ks, 1 ≤ k) ∧ (mixL v o ks)[i]? = some (rd v i)) ∨ ((∀ k ∈ ks, 1 ≤ k) → ¬ ((i : Int) + 1) ∈ ks ∧ (mixL v o ks)[i]? = o[i]?)
  | [], o, i, hi => .inr fun _ => ⟨by simp, rfl⟩
  | k :: ks, o, i, hi => by
    have ih := mix_in v ks (o.set (k - 1).toNat (rd v (k - 1))) i (by rw [List.length_set]; exact hi)
    have e : mixL v o (k :: ks) = mixL v (o.set (k - 1).toNat (rd v (k - 1))) ks := rfl
    rw [e]
    by_cases hp : ∀ x ∈ k :: ks, 1 ≤ x
    · have hk := hp k (by simp)
      have hks : ∀ x ∈ ks, 1 ≤ x := fun x hx => hp x (List.mem_cons_of_mem _ hx)
      rcases ih with ⟨h1, h2, h3⟩ | h
      · exact .inl ⟨List.mem_cons_of_mem _ h1, hp, h3⟩
      · obtain ⟨h1, h2⟩ := h hks
        by_cases hik : (i : Int) + 1 = k
        · left
          refine ⟨by rw [hik]; simp, hp, ?_⟩
          rw [h2, show (k - 1).toNat = i by omega, List.getElem?_set_self hi, show k - 1 = (i : Int) by omega]
        · right
          intro _
          refine ⟨by rw [List.mem_cons]; rintro (h | h); exact hik h; exact h1 h, ?_⟩
          rw [h2, List.getElem?_set_ne (by omega)]
    · exact .inr fun h => absurd h hp
theorem mix_rd (v o : List Int) (ks : List Int) (hks : ∀ k ∈ ks, 1 ≤ k ∧ k ≤ 8) (ho : o.length = 8) {k : Int} (hk : k ∈ ks) : rd (mixL v o ks) (k - 1) = rd v (k - 1) := by
  have hr := hks k hk
  have h := mix_in v ks o (k - 1).toNat (by omega)
  have hp : ∀ k ∈ ks, 1 ≤ k := fun k hk => (hks k hk).1
  have e : (((k - 1).toNat : Nat) : Int) + 1 = k := by omega
  rw [e] at h
  rcases h with ⟨_, _, h⟩ | h
  · have hl := mix_length v ks o
    rw [show rd (mixL v o ks) (k - 1) = (mixL v o ks).getD (k - 1).toNat 0 from rfl, List.getD_eq_getElem?_getD, h, show (((k - 1).toNat : Nat) : Int) = k - 1 by omega]
    rfl
  · exact absurd hk (h hp).1
theorem mix_coord (v o : List Int) (ks : List Int) (hv : v.all coordB = true) (hvl : v.length = 8) (ho : o.all coordB = true) (hks : ∀ k ∈ ks, 1 ≤ k ∧ k ≤ 8) : (mixL v o ks).all coordB = true := by
  induction ks generalizing o with
  | nil => exact ho
  | cons k ks ih =>
    refine ih _ ?_ (fun x hx => hks x (List.mem_cons_of_mem _ hx))
    rw [List.all_eq_true] at *
    intro x hx
    rcases List.mem_or_eq_of_mem_set hx with h | h
    · exact ho x h
    · have := hks k (by simp)
      rw [h]
      refine hv _ ?_
      unfold rd
      rw [List.getD_eq_getElem?_getD, List.getElem?_eq_getElem (show (k - 1).toNat < v.length by omega)]
      exact List.getElem_mem _
theorem mix_eval (e : S24) (w s : Int) (v o : List Int) (he : validE e = true) (hv : v.all coordB = true) (hvl : v.length = 8) (ho : o.all coordB = true) (hol : o.length = 8) : evalP e w s v = evalP e w s (mixL v o (ksP e)) := by
  rw [evalP_eq, evalP_eq]
  have hc : condB w s v = condB w s (mixL v o (ksP e)) := by
    unfold condB
    rw [hv, mix_coord v o (ksP e) hv hvl ho (ks_range e)]
  have hE : evF w s v 30 e = evF w s (mixL v o (ksP e)) 30 e := evF_vars 30 e fun j hj => (mix_rd v o (ksP e) (ks_range e) hol (ks_mem e (valid_wf he) hj)).symm
  rw [hc, hE]
theorem uses_ok (e : S24) (h : validE e = true) : usesP e = (ksP e, 0) := if_pos h
theorem uses_no (e : S24) (h : validE e = false) : usesP e = ([], 1) := if_neg (by rw [h]; simp)
theorem eight {l : List Int} (h : l.length = 8) : ∃ a0 a1 a2 a3 a4 a5 a6 a7, l = [a0, a1, a2, a3, a4, a5, a6, a7] := by
  match l, h with
  | [a0, a1, a2, a3, a4, a5, a6, a7], _ => exact ⟨a0, a1, a2, a3, a4, a5, a6, a7, rfl⟩

end Go.Proofs.Ytdigjjncoeaiiaa.Plain
