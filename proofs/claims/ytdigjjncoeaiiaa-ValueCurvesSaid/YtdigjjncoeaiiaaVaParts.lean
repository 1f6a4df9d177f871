/- Printed by a program of this session (wip/gprint.py) over the translation, cut to what is named (wip/dcut.py). Not trusted: Lean checks it. -/
import Derived.Test.YtdigjjncoeaiiaaVaFit
namespace Go.Proofs.Ytdigjjncoeaiiaa.Plain
open Go.RowKit Go.Proofs.Ytdigjjncoeaiiaa.PAll Go.Proofs.YtdigjjncoeaiiaaW.PrintWords Go.Proofs.YtdigjjncoeaiiaaW.PrintLast Go.Proofs.YtdigjjncoeaiiaaW.PrintMore Go.Proofs.YtdigjjncoeaiiaaGlib
set_option linter.unusedSimpArgs false
theorem fold_fits {l : List Int} {d : Int} : ∀ (cs : List S55) (b : S55), (∀ c ∈ cs, coordB c.f0 = true) → (b = z55 ∨ (b.f2 = d ∧ coordB b.f0 = true ∧ fitB b.f0 d l = some b.f1)) →
    (cs.foldl (stepQ l d) b = z55 ∨ ((cs.foldl (stepQ l d) b).f2 = d ∧ coordB (cs.foldl (stepQ l d) b).f0 = true ∧ fitB (cs.foldl (stepQ l d) b).f0 d l = some (cs.foldl (stepQ l d) b).f1))
  | [], b, _, h => h
  | c :: cs, b, hc, h => by
    rw [List.foldl_cons]
    refine fold_fits cs _ (fun x hx => hc x (List.mem_cons_of_mem _ hx)) ?_
    unfold stepQ
    cases hf : fitB c.f0 d l with
    | none => exact h
    | some lo =>
      simp only
      split
      · exact .inr ⟨rfl, hc c (by simp), hf⟩
      · exact h
theorem cand_coord {l : List Int} {d : Int} : ∀ c ∈ candL l d, coordB c.f0 = true := by
  intro c hc
  unfold candL at hc
  split at hc
  · rw [List.mem_singleton.1 hc]; rfl
  · obtain ⟨x, rfl⟩ := candR_form _ _ _ hc
    exact ((mem_candR _ _ _).1 hc).1
theorem fitD_fits {l : List Int} : ∀ (n : Nat) (d : Int), 1 ≤ d → d + n = 17 → 0 < (fitD l n d).f2 → 1 ≤ (fitD l n d).f2 ∧ (fitD l n d).f2 ≤ 16 ∧ coordB (fitD l n d).f0 = true ∧ fitB (fitD l n d).f0 (fitD l n d).f2 l = some (fitD l n d).f1
  | 0, d, h, h1, hp => absurd hp (by show ¬ 0 < z55.f2; decide)
  | n + 1, d, h, h1, hp => by
    by_cases hb : 0 < (bestQ l d).f2
    · rw [fitD_at hb]
      rcases fold_fits (l := l) (d := d) (candL l d) z55 cand_coord (.inl rfl) with h2 | h2
      · have : bestQ l d = z55 := h2
        rw [this] at hb
        exact absurd hb (by decide)
      · have h3 : (bestQ l d).f2 = d ∧ coordB (bestQ l d).f0 = true ∧ fitB (bestQ l d).f0 d l = some (bestQ l d).f1 := h2
        refine ⟨by omega, by omega, h3.2.1, ?_⟩
        rw [h3.1]
        exact h3.2.2
    · rw [fitD_go hb] at hp ⊢
      exact fitD_fits n (d + 1) (by omega) (by omega) hp
theorem fit_fits {l : List Int} (hv : ValsOk l) (hl : l.length ≤ 4000) (h1 : 1 ≤ l.length) (ho : okL l = true) : quotOk (fitP l).1 = true ∧ fits (fitP l).1.f0 (fitP l).1.f2 (fitP l).1.f1 l 0 := by
  unfold okL at ho
  rw [fit_good (by omega) (vals_all hv) (by omega)] at ho ⊢
  obtain ⟨a1, a2, a3, a4⟩ := fitD_fits 16 1 (by omega) (by omega) (of_decide_eq_true ho)
  obtain ⟨b1, b2⟩ := accF_some l 0 _ _ _ (by omega) a4
  refine ⟨?_, b2⟩
  show quotOk (fitD l 16 1) = true
  unfold quotOk
  rw [a3, show coordB (fitD l 16 1).f1 = true by unfold coordB; rw [decide_eq_true b1.1, decide_eq_true b1.2]; rfl, decide_eq_true a1, decide_eq_true a2]
  rfl
theorem atQ_fits {q : S55} {l : List Int} (hq : quotOk q = true) (h : fits q.f0 q.f2 q.f1 l 0) {n : Nat} (hn : n < l.length) : atQ q n = l[n] := by
  have h1 := h n hn
  rw [show (0 : Int) + (n : Int) = (n : Int) by omega] at h1
  unfold quotOk at hq
  simp at hq
  have hd : 0 < q.f2 := by omega
  unfold atQ
  have h2 : l[n] ≤ (q.f0 * (n : Int) + q.f1) / q.f2 := (Int.le_ediv_iff_mul_le hd).2 (by rw [Int.mul_comm]; exact h1.1)
  have h3 : (q.f0 * (n : Int) + q.f1) / q.f2 < l[n] + 1 := Int.ediv_lt_of_lt_mul hd (by rw [Int.add_mul, Int.one_mul, Int.mul_comm l[n] q.f2]; omega)
  omega
theorem vals_part {a : Int} {g : Nat} {q : S55} {l : List Int} (hq : quotOk q = true) (h : fits q.f0 q.f2 q.f1 (l.take g) 0) (hg : g ≤ l.length) : valsQ ⟨a, a + (g : Int), q⟩ = l.take g := by
  unfold valsQ
  have e : (a + (g : Int) - a).toNat = g := by omega
  simp only [e]
  refine List.ext_getElem (by rw [List.length_map, List.length_range, List.length_take]; omega) fun i h1 h2 => ?_
  rw [List.getElem_map, List.getElem_range]
  exact atQ_fits hq h h2
theorem vals_split : ∀ (m : Nat) (a : Int) (l : List Int), ValsOk l → l.length ≤ 4000 → l.length ≤ m → valsC (splitP m a l) = l
  | 0, a, l, hv, hl, hm => by
    obtain rfl := List.length_eq_zero_iff.1 (by omega : l.length = 0)
    rfl
  | m + 1, a, l, hv, hl, hm => by
    unfold splitP
    by_cases h0 : l = []
    · rw [if_pos h0, h0]; rfl
    · have h1 : 1 ≤ l.length := by cases l with | nil => exact absurd rfl h0 | cons x l => simp
      obtain ⟨g1, g2, g3, g4⟩ := lenP_long hv h1
      rw [if_neg h0]
      obtain ⟨f1, f2⟩ := fit_fits (vals_take (lenP l) hv) (by rw [List.length_take]; omega) (by rw [List.length_take]; omega) g3
      show valsQ _ ++ valsC _ = l
      rw [vals_part f1 f2 g2, vals_split m _ _ (vals_drop _ hv) (by rw [List.length_drop]; omega) (by rw [List.length_drop]; omega)]
      exact List.take_append_drop _ _
theorem quotV_of (q : S55) : quot_Valid.f q.f0 q.f1 q.f2 = some (quotOk q) := by
  unfold quot_Valid.f quotOk
  simp only [isCoord_of, Option.bind_some]
  by_cases h1 : 1 ≤ q.f2
  · by_cases h2 : q.f2 ≤ 16
    · simp only [if_pos h1, if_pos h2, decide_eq_true h1, decide_eq_true h2]
      cases coordB q.f0 <;> simp
    · simp [h1, h2]
  · simp [h1]
theorem rd57_at {l : List S57} {i : Nat} (h : i < l.length) : rd_T57 l (i : Int) = l[i] := getD_at h
theorem joined_step (l0 l : List S57) (hl : l.length ≤ 9223372036854775807) (i : Nat) (z : Int) (hlt : i < l.length) (k : Nat) : curve_joined.l0 (k + 1) l0 z l (l.length : Int) (i : Int) = if quotOk l[i].f2 = true ∧ l[i].f0 = z ∧ ¬ l[i].f0 < 0 ∧ ¬ l[i].f1 ≤ l[i].f0 ∧ ¬ l[i].f1 > 4001 then curve_joined.l0 k l0 l[i].f1 l (l.length : Int) ((i + 1 : Nat) : Int) else some false := by
  simp only [curve_joined.l0]
  rw [if_pos (by omega), if_pos (by omega), if_pos (by omega), rd57_at hlt, quotV_of, Option.bind_some, wrap_next (by omega)]
  cases hq : quotOk l[i].f2 with
  | false => rw [if_neg (by simp), if_neg (by simp)]
  | true =>
    rw [if_pos rfl]
    by_cases h1 : l[i].f0 = z
    · rw [if_pos h1]
      by_cases h2 : l[i].f0 < 0
      · rw [if_pos h2, if_neg (fun h => h.2.2.1 h2)]
      · rw [if_neg h2]
        by_cases h3 : l[i].f1 ≤ l[i].f0
        · rw [if_pos h3, if_neg (fun h => h.2.2.2.1 h3)]
        · rw [if_neg h3]
          by_cases h4 : l[i].f1 > 4001
          · rw [if_pos h4, if_neg (fun h => h.2.2.2.2 h4)]
          · rw [if_neg h4, if_pos ⟨rfl, h1, h2, h3, h4⟩]
    · rw [if_neg h1, if_neg (fun h => h1 h.2.1)]
theorem joined_loop (l0 : List S57) (h0 : 0 < l0.length) (hb : 0 ≤ (rd_T57 l0 0).f0 ∧ (rd_T57 l0 0).f0 ≤ 4001) (l : List S57) (hl : l.length ≤ 9223372036854775807) : ∀ (n i : Nat) (z : Int), i + n = l.length → 0 ≤ z → z ≤ 4001 →
    Ev (fun k => curve_joined.l0 k l0 z l (l.length : Int) (i : Int)) (match joinE z (l.drop i) with | none => false | some z => decide (z - (rd_T57 l0 0).f0 ≤ 4000))
  | 0, i, z, h, hz, hz2 => by
    rw [drop_all (by omega)]
    refine Ev.zero fun k => ?_
    simp only [curve_joined.l0, joinE]
    rw [if_neg (by omega), if_pos (by omega), wrap64_id (by omega) (by omega)]
  | n + 1, i, z, h, hz, hz2 => by
    have hlt : i < l.length := by omega
    rw [drop_get hlt]
    unfold joinE
    refine Ev.step (joined_step l0 l hl i z hlt) ?_
    by_cases hc : quotOk l[i].f2 = true ∧ l[i].f0 = z ∧ ¬ l[i].f0 < 0 ∧ ¬ l[i].f1 ≤ l[i].f0 ∧ ¬ l[i].f1 > 4001
    · simp only [if_pos hc]
      exact joined_loop l0 h0 hb l hl n (i + 1) l[i].f1 (by omega) (by omega) (by omega)
    · simp only [if_neg hc]
      exact Ev.now _
theorem joined_ev (l : List S57) (hl : l.length ≤ 9223372036854775807) : Ev (fun k => curve_joined.f k l) (joinedB l) := by
  unfold curve_joined.f joinedB
  match l, hl with
  | [], _ => exact Ev.now _
  | p :: l, hl =>
    have e0 : rd_T57 (p :: l) 0 = p := rfl
    simp only [if_neg (show ¬ ((p :: l).length : Int) = 0 by rw [List.length_cons]; omega), if_pos (show (0 : Int) < ((p :: l).length : Int) by rw [List.length_cons]; omega), e0]
    refine Ev.step (joined_step (p :: l) (p :: l) hl 0 p.f0 (by simp)) ?_
    unfold joinE
    by_cases hc : quotOk p.f2 = true ∧ p.f0 = p.f0 ∧ ¬ p.f0 < 0 ∧ ¬ p.f1 ≤ p.f0 ∧ ¬ p.f1 > 4001
    · have := joined_loop (p :: l) (by simp) (by rw [e0]; omega) (p :: l) hl l.length 1 p.f1 (by simp; omega) (by omega) (by omega)
      have hc' : quotOk p.f2 = true ∧ True ∧ ¬ p.f0 < 0 ∧ ¬ p.f1 ≤ p.f0 ∧ ¬ p.f1 > 4001 := ⟨hc.1, trivial, hc.2.2⟩
      simp only [List.getElem_cons_zero]
      simp only [if_pos hc']
      exact this
    · have hc' : ¬ (quotOk p.f2 = true ∧ True ∧ ¬ p.f0 < 0 ∧ ¬ p.f1 ≤ p.f0 ∧ ¬ p.f1 > 4001) := fun h => hc ⟨h.1, rfl, h.2.2⟩
      simp only [List.getElem_cons_zero]
      simp only [if_neg hc']
      exact Ev.now _
theorem eqParts_self : ∀ l : List S57, eqParts l l = true
  | [] => rfl
  | p :: l => by unfold eqParts eqPart; rw [eqParts_self l]; simp
theorem join_split : ∀ (m : Nat) (a : Int) (l : List Int), ValsOk l → l.length ≤ 4000 → l.length ≤ m → 0 ≤ a → a + l.length ≤ 4001 → joinE a (splitP m a l) = some (a + l.length)
  | 0, a, l, hv, hl, hm, h0, h1 => by
    obtain rfl := List.length_eq_zero_iff.1 (by omega : l.length = 0)
    show some a = some (a + ((0 : Nat) : Int))
    congr 1
    omega
  | m + 1, a, l, hv, hl, hm, h0, h1 => by
    unfold splitP
    by_cases hz : l = []
    · subst hz
      show some a = some (a + ((0 : Nat) : Int))
      congr 1
      omega
    · have hl1 : 1 ≤ l.length := by cases l with | nil => exact absurd rfl hz | cons x l => simp
      obtain ⟨g1, g2, g3, g4⟩ := lenP_long hv hl1
      obtain ⟨f1, f2⟩ := fit_fits (vals_take (lenP l) hv) (by rw [List.length_take]; omega) (by rw [List.length_take]; omega) g3
      rw [if_neg hz]
      unfold joinE
      rw [if_pos ⟨f1, rfl, by show ¬ a < 0; omega, by show ¬ a + (lenP l : Int) ≤ a; omega, by show ¬ a + (lenP l : Int) > 4001; omega⟩]
      have := join_split m (a + (lenP l : Int)) (l.drop (lenP l)) (vals_drop _ hv) (by rw [List.length_drop]; omega) (by rw [List.length_drop]; omega) (by omega) (by rw [List.length_drop]; omega)
      rw [List.length_drop] at this
      show joinE (a + (lenP l : Int)) _ = _
      rw [this]
      congr 1
      omega
theorem split_ne {m : Nat} {a : Int} {l : List Int} (hm : l.length ≤ m) (h1 : 1 ≤ l.length) : ∃ p r, splitP m a l = p :: r ∧ p.f0 = a := by
  obtain ⟨m, rfl⟩ : ∃ k, m = k + 1 := ⟨m - 1, by omega⟩
  unfold splitP
  rw [if_neg (by intro h; subst h; simp at h1)]
  exact ⟨_, _, rfl, rfl⟩
/-- What is made is a function. -/
theorem valid_made {a : Int} {l : List Int} (hv : ValsOk l) (hl : l.length ≤ 4000) (h1 : 1 ≤ l.length) (h0 : 0 ≤ a) (ha : a + l.length ≤ 4001) : validC (splitP l.length a l) = true := by
  obtain ⟨p, r, hp, hpa⟩ := split_ne (a := a) (Nat.le_refl l.length) h1
  have hj := join_split l.length a l hv hl (Nat.le_refl _) h0 ha
  unfold validC
  rw [vals_split l.length a l hv hl (Nat.le_refl _)]
  have e1 : joinedB (splitP l.length a l) = true := by
    rw [hp] at hj ⊢
    unfold joinedB
    simp only [hpa, hj]
    exact decide_eq_true (by omega)
  have e2 : rd_T57 (splitP l.length a l) 0 = p := by rw [hp]; rfl
  have e3 : badM a l = false := by
    unfold badM
    rw [decide_eq_false (by omega), decide_eq_false (by omega), decide_eq_false (by omega)]
    simp
    exact fun x hx => hv x hx
  rw [e1, e2, hpa, Bool.true_and]
  have e4 : makeP a l = (splitP l.length a l, 0) := by unfold makeP; rw [if_neg (by omega), if_neg (by rw [e3]; simp)]
  rw [e4]
  show (decide ((0 : Int) = 0) && eqParts _ _) = true
  rw [eqParts_self]
  rfl
theorem idx_from {α : Type} {p : α → Bool} : ∀ (l : List α) (n : Nat), idxP p l n = -1 ∨ ∃ i : Nat, idxP p l n = (n : Int) + i ∧ ∃ h : i < l.length, p l[i] = true
  | [], n => .inl rfl
  | x :: l, n => by
    unfold idxP
    by_cases hx : p x = true
    · rw [if_pos hx]
      exact .inr ⟨0, by omega, by simp, hx⟩
    · rw [if_neg hx]
      rcases idx_from (p := p) l (n + 1) with h | ⟨i, h, hi, h2⟩
      · exact .inl h
      · exact .inr ⟨i + 1, by omega, by simp; omega, by simpa using h2⟩
/-- The parts that are made have the values, each at its place. -/
theorem split_at : ∀ (m : Nat) (a : Int) (l : List Int), ValsOk l → l.length ≤ 4000 → l.length ≤ m → ∀ (j : Nat) (hj : j < l.length), ∃ i : Nat, ∃ h : i < (splitP m a l).length, (∀ b : Nat, idxP (hasB (a + j)) (splitP m a l) b = (b : Int) + i) ∧ quotOk (splitP m a l)[i].f2 = true ∧ 0 ≤ a + j - (splitP m a l)[i].f0 ∧ a + j - (splitP m a l)[i].f0 ≤ j ∧ atQ (splitP m a l)[i].f2 (a + j - (splitP m a l)[i].f0) = l[j]
  | 0, a, l, hv, hl, hm => fun j hj => by omega
  | m + 1, a, l, hv, hl, hm => fun j hj => by
    have hl1 : 1 ≤ l.length := by omega
    obtain ⟨g1, g2, g3, g4⟩ := lenP_long hv hl1
    obtain ⟨f1, f2⟩ := fit_fits (vals_take (lenP l) hv) (by rw [List.length_take]; omega) (by rw [List.length_take]; omega) g3
    have hs : splitP (m + 1) a l = ⟨a, a + (lenP l : Int), (fitP (l.take (lenP l))).1⟩ :: splitP m (a + (lenP l : Int)) (l.drop (lenP l)) := by
      conv => lhs; unfold splitP
      rw [if_neg (by intro h; rw [h] at hl1; simp at hl1)]
    by_cases hjg : j < lenP l
    · have hh : hasB (a + (j : Int)) (⟨a, a + (lenP l : Int), (fitP (l.take (lenP l))).1⟩ : S57) = true := by
        unfold hasB
        rw [decide_eq_true (by show a ≤ a + (j : Int); omega), decide_eq_true (by show a + (j : Int) < a + (lenP l : Int); omega)]
        rfl
      refine ⟨0, by rw [hs]; simp, fun b => ?_, ?_⟩
      · rw [hs]
        unfold idxP
        rw [if_pos hh]
        omega
      · have e : (splitP (m + 1) a l)[0]'(by rw [hs]; simp) = ⟨a, a + (lenP l : Int), (fitP (l.take (lenP l))).1⟩ := by simp only [hs, List.getElem_cons_zero]
        rw [e]
        refine ⟨f1, by show 0 ≤ a + (j : Int) - a; omega, by show a + (j : Int) - a ≤ j; omega, ?_⟩
        show atQ (fitP (l.take (lenP l))).1 (a + (j : Int) - a) = l[j]
        rw [show a + (j : Int) - a = (j : Int) by omega, atQ_fits f1 f2 (n := j) (by rw [List.length_take]; omega), List.getElem_take]
    · have hh : hasB (a + (j : Int)) (⟨a, a + (lenP l : Int), (fitP (l.take (lenP l))).1⟩ : S57) = false := by
        unfold hasB
        rw [decide_eq_false (show ¬ a + (j : Int) < a + (lenP l : Int) by omega)]
        simp
      obtain ⟨i, hi, i1, i2, i3, i4, i5⟩ := split_at m (a + (lenP l : Int)) (l.drop (lenP l)) (vals_drop _ hv) (by rw [List.length_drop]; omega) (by rw [List.length_drop]; omega) (j - lenP l) (by rw [List.length_drop]; omega)
      have ej : a + (lenP l : Int) + ((j - lenP l : Nat) : Int) = a + (j : Int) := by omega
      rw [ej] at i1 i3 i4 i5
      have e : (splitP (m + 1) a l)[i + 1]'(by rw [hs]; simp; exact hi) = (splitP m (a + (lenP l : Int)) (l.drop (lenP l)))[i] := by simp only [hs, List.getElem_cons_succ]
      refine ⟨i + 1, by rw [hs]; simp; exact hi, fun b => ?_, ?_⟩
      · rw [hs]
        unfold idxP
        rw [hh, if_neg (by simp), i1 (b + 1)]
        omega
      · rw [e]
        refine ⟨i2, i3, by omega, ?_⟩
        rw [i5, List.getElem_drop]
        congr 1
        omega
/-- The function that is made has the values. -/
theorem at_made {a : Int} {l : List Int} (hv : ValsOk l) (hl : l.length ≤ 4000) (h0 : 0 ≤ a) (ha : a + l.length ≤ 4001) {j : Nat} (hj : j < l.length) : atC (splitP l.length a l) (a + j) = (l[j], 0) := by
  obtain ⟨i, hi, i1, i2, i3, i4, i5⟩ := split_at l.length a l hv hl (Nat.le_refl _) j hj
  have e := i1 0
  unfold atC
  rw [show ((0 : Nat) : Int) + (i : Int) = (i : Int) by omega] at e
  rw [e, if_neg (by rw [valid_made hv hl (by omega) h0 ha]; simp), rd57_at hi]
  unfold quotAt
  rw [if_pos ⟨i2, i3, by omega⟩, i5]
theorem valsQ_len (p : S57) : (valsQ p).length = (p.f1 - p.f0).toNat := by unfold valsQ; rw [List.length_map, List.length_range]
theorem joinE_good : ∀ (l : List S57) (z y : Int), 0 ≤ z → joinE z l = some y → GoodP l ∧ z ≤ y ∧ ((valsC l).length : Int) = y - z
  | [], z, y, h0, h => by
    obtain rfl := Option.some.inj h
    exact ⟨fun p hp => (by cases hp), Int.le_refl _, by simp [valsC]⟩
  | p :: l, z, y, h0, h => by
    unfold joinE at h
    by_cases hc : quotOk p.f2 = true ∧ p.f0 = z ∧ ¬ p.f0 < 0 ∧ ¬ p.f1 ≤ p.f0 ∧ ¬ p.f1 > 4001
    · rw [if_pos hc] at h
      obtain ⟨h1, h2, h3⟩ := joinE_good l p.f1 y (by omega) h
      obtain ⟨c1, c2, c3, c4, c5⟩ := hc
      unfold quotOk at c1
      simp at c1
      refine ⟨fun q hq => ?_, by omega, ?_⟩
      · rcases List.mem_cons.1 hq with rfl | hq
        · exact ⟨⟨c1.1.1, c1.1.2, c1.2.1, c1.2.2⟩, by omega, by omega, by omega⟩
        · exact h1 q hq
      · show ((valsQ p ++ valsC l).length : Int) = y - z
        have := valsQ_len p
        rw [List.length_append, this]
        omega
    · rw [if_neg hc] at h; cases h
theorem joined_good {l : List S57} (h : joinedB l = true) : GoodP l ∧ 0 < l.length ∧ (valsC l).length ≤ 4000 := by
  unfold joinedB at h
  match l, h with
  | p :: l, h =>
    simp only at h
    cases hj : joinE p.f0 (p :: l) with
    | none => rw [hj] at h; simp at h
    | some z =>
      rw [hj] at h
      simp at h
      have h0 : 0 ≤ p.f0 := by
        unfold joinE at hj
        by_cases hc : quotOk p.f2 = true ∧ p.f0 = p.f0 ∧ ¬ p.f0 < 0 ∧ ¬ p.f1 ≤ p.f0 ∧ ¬ p.f1 > 4001
        · omega
        · rw [if_neg hc] at hj; cases hj
      obtain ⟨h1, h2, h3⟩ := joinE_good _ _ _ h0 hj
      exact ⟨h1, by simp, by omega⟩
theorem quotAt_of {q : S55} {m : Int} (h1 : 1 ≤ q.f2) (h2 : q.f2 ≤ 16) (h3 : coordB q.f0 = true) (h4 : coordB q.f1 = true) (h5 : 0 ≤ m) (h6 : m ≤ 4000) : quot_At.f q.f0 q.f1 q.f2 m = some (atQ q m, 0) := by
  have a0 := coordB_of h3
  have a1 := coordB_of h4
  have hb := mul_bound (a := q.f0) (b := m) (m := 1000000000) (n := 4000) (by omega) (by omega) (by omega) (by omega)
  unfold quot_At.f
  rw [quotV_of, show quotOk q = true by unfold quotOk; rw [h3, h4, decide_eq_true h1, decide_eq_true h2]; rfl, Option.bind_some, if_pos rfl]
  unfold quot_isPlace.f
  rw [if_pos h5, Option.bind_some, decide_eq_true h6, if_pos rfl]
  unfold quot_value.f
  rw [wrap64_id (x := q.f0 * m) (by omega) (by omega), wrap64_id (x := q.f0 * m + q.f1) (by omega) (by omega), qfloor_of _ _ (by omega) (by omega) (by omega) (by omega)]
  rfl
theorem valsQ_length (p : S57) : (valsQ p).length = (p.f1 - p.f0).toNat := by unfold valsQ; rw [List.length_map, List.length_range]
theorem valsQ_next (p : S57) {n : Nat} (hn : n < (p.f1 - p.f0).toNat) : (valsQ p).take n ++ [atQ p.f2 (n : Int)] = (valsQ p).take (n + 1) := by
  rw [List.take_succ_eq_append_getElem (by rw [valsQ_length]; exact hn)]
  unfold valsQ
  rw [List.getElem_map, List.getElem_range]
theorem valsQ_all (p : S57) : (valsQ p).take (p.f1 - p.f0).toNat = valsQ p := List.take_of_length_le (by rw [valsQ_length]; exact Nat.le_refl _)
theorem vals_take_next (l : List S57) {i : Int} (h0 : 0 ≤ i) (h1 : i < l.length) : valsC (l.take (i + 1).toNat) = valsC (l.take i.toNat) ++ valsQ (rd_T57 l i) := by
  have hlt : i.toNat < l.length := by omega
  have e : rd_T57 l i = l[i.toNat] := by
    have := rd57_at hlt
    rwa [show ((i.toNat : Nat) : Int) = i by omega] at this
  rw [show (i + 1).toNat = i.toNat + 1 by omega, List.take_succ_eq_append_getElem hlt, e]
  unfold valsC
  rw [List.flatMap_append]
  simp
theorem vals_room (l : List S57) {i : Int} (h0 : 0 ≤ i) (h1 : i < l.length) {n : Nat} (hn : n < ((rd_T57 l i).f1 - (rd_T57 l i).f0).toNat) : (valsC (l.take i.toNat) ++ (valsQ (rd_T57 l i)).take n).length < (valsC l).length := by
  have h2 : valsC l = valsC (l.take (i + 1).toNat) ++ valsC (l.drop (i + 1).toNat) := by
    unfold valsC
    rw [← List.flatMap_append, List.take_append_drop]
  rw [h2, vals_take_next l h0 h1, List.length_append, List.length_append, List.length_append, List.length_take, valsQ_length]
  omega
theorem parts_loop (l m : List S57) (hl : l.length ≤ 9223372036854775807) (hlm : l.length = m.length) : ∀ (n i : Nat), i + n = l.length → Ev (fun k => api_Part_72.l0 k l m (l.length : Int) (i : Int)) (eqParts (l.drop i) (m.drop i))
  | 0, i, h => by
    rw [drop_all (by omega), drop_all (by omega)]
    refine Ev.zero fun k => ?_
    simp only [api_Part_72.l0]
    rw [if_neg (by omega)]
    rfl
  | n + 1, i, h => by
    have hlt : i < l.length := by omega
    have hmt : i < m.length := by omega
    rw [drop_get hlt, drop_get hmt]
    refine Ev.step (f := fun k => if eqPart l[i] m[i] = true then api_Part_72.l0 k l m (l.length : Int) ((i + 1 : Nat) : Int) else some false) (fun k => ?_) ?_
    · simp only [api_Part_72.l0]
      rw [if_pos (by omega), if_pos (by omega), if_pos (by omega), if_pos (by omega), rd57_at hlt, rd57_at hmt, wrap_next (by omega)]
      unfold eqPart
      cases (l[i].f0 == m[i].f0) <;> cases (l[i].f1 == m[i].f1) <;> cases (l[i].f2.f0 == m[i].f2.f0) <;> cases (l[i].f2.f1 == m[i].f2.f1) <;> cases (l[i].f2.f2 == m[i].f2.f2) <;> rfl
    · unfold eqParts
      cases hc : eqPart l[i] m[i] with
      | true =>
        simp only [if_true, Bool.true_and]
        exact parts_loop l m hl hlm n (i + 1) (by omega)
      | false =>
        simp only [if_neg (show ¬ (false = true) by simp), Bool.false_and]
        exact Ev.now _
theorem eqParts_len : ∀ (l m : List S57), l.length ≠ m.length → eqParts l m = false
  | [], [], h => absurd rfl h
  | [], q :: m, h => rfl
  | p :: l, [], h => rfl
  | p :: l, q :: m, h => by
    unfold eqParts
    rw [eqParts_len l m (by simpa using h), Bool.and_false]
theorem parts_ev (l m : List S57) (hl : l.length ≤ 9223372036854775807) : Ev (fun k => api_Part_72.f k l m) (eqParts l m) := by
  unfold api_Part_72.f
  by_cases h : l.length = m.length
  · simp only [if_pos (show (l.length : Int) = (m.length : Int) by omega)]
    exact parts_loop l m hl h l.length 0 (by omega)
  · simp only [if_neg (show ¬ (l.length : Int) = (m.length : Int) by omega)]
    rw [eqParts_len l m h]
    exact Ev.now _
theorem idx_hit {l : List S57} {n : Int} (h : ¬ idxP (hasB n) l 0 < 0) : 0 ≤ idxP (hasB n) l 0 ∧ idxP (hasB n) l 0 < l.length ∧ hasB n (rd_T57 l (idxP (hasB n) l 0)) = true := by
  rcases idx_from (p := hasB n) l 0 with h1 | ⟨i, h1, hi, h2⟩
  · omega
  · rw [show ((0 : Nat) : Int) + (i : Int) = (i : Int) by omega] at h1
    rw [h1, rd57_at hi]
    exact ⟨by omega, by omega, h2⟩
theorem has_of {n : Int} {p : S57} (h : hasB n p = true) : p.f0 ≤ n ∧ n < p.f1 := by
  unfold hasB at h
  simpa using h
theorem atC_hit {l : List S57} {n : Int} (h : ¬ idxP (hasB n) l 0 < 0) (hv : validC l = true) :
    quot_At.f (rd_T57 l (idxP (hasB n) l 0)).f2.f0 (rd_T57 l (idxP (hasB n) l 0)).f2.f1 (rd_T57 l (idxP (hasB n) l 0)).f2.f2 (n - (rd_T57 l (idxP (hasB n) l 0)).f0) = some (atC l n) ∧ 0 ≤ n - (rd_T57 l (idxP (hasB n) l 0)).f0 ∧ n - (rd_T57 l (idxP (hasB n) l 0)).f0 ≤ 4000 := by
  obtain ⟨h0, h1, h2⟩ := idx_hit h
  have hj : joinedB l = true := by unfold validC at hv; exact (Bool.and_eq_true_iff.1 hv).1
  obtain ⟨hg, hn, hl⟩ := joined_good hj
  obtain ⟨⟨q1, q2, q3, q4⟩, q5, q6, q7⟩ := good_at hg h0 h1
  have h3 : (rd_T57 l (idxP (hasB n) l 0)).f0 ≤ n ∧ n < (rd_T57 l (idxP (hasB n) l 0)).f1 := has_of h2
  have e : atC l n = quotAt (rd_T57 l (idxP (hasB n) l 0)).f2 (n - (rd_T57 l (idxP (hasB n) l 0)).f0) := if_neg (by rw [hv]; simp; omega)
  rw [e]
  refine ⟨?_, by omega, by omega⟩
  rw [quotAt_of q1 q2 q3 q4 (by omega) (by omega)]
  unfold quotAt
  rw [if_pos ⟨by unfold quotOk; rw [q3, q4, decide_eq_true q1, decide_eq_true q2]; rfl, by omega, by omega⟩]
theorem atC_no {l : List S57} {n : Int} (h : idxP (hasB n) l 0 < 0 ∨ validC l = false) : atC l n = (0, 1) := if_pos h
end Go.Proofs.Ytdigjjncoeaiiaa.Plain
