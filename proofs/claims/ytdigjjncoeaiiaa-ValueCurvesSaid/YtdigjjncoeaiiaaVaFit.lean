/- Printed by a program of this session (wip/gprint.py) over the translation, cut to what is named (wip/dcut.py). Not trusted: Lean checks it. -/
import Derived.Test.YtdigjjncoeaiiaaVaPlain
namespace Go.Proofs.Ytdigjjncoeaiiaa.Plain
open Go.RowKit Go.Proofs.Ytdigjjncoeaiiaa.PAll Go.Proofs.YtdigjjncoeaiiaaW.PrintWords Go.Proofs.YtdigjjncoeaiiaaW.PrintLast Go.Proofs.YtdigjjncoeaiiaaW.PrintMore Go.Proofs.YtdigjjncoeaiiaaGlib
set_option linter.unusedSimpArgs false
def fits (a d b : Int) (l : List Int) (i : Int) : Prop := ∀ (j : Nat) (h : j < l.length), d * l[j] ≤ a * (i + j) + b ∧ a * (i + j) + b ≤ d * l[j] + d - 1
theorem fits_cons {a d b v i : Int} {l : List Int} : fits a d b (v :: l) i ↔ (d * v ≤ a * i + b ∧ a * i + b ≤ d * v + d - 1) ∧ fits a d b l (i + 1) := by
  constructor
  · intro h
    refine ⟨?_, fun j hj => ?_⟩
    · have := h 0 (by simp)
      simp only [List.getElem_cons_zero] at this
      simpa using this
    have := h (j + 1) (by simp; omega)
    simp only [List.getElem_cons_succ] at this
    rw [show i + ((j + 1 : Nat) : Int) = i + 1 + (j : Int) by omega] at this
    exact this
  · rintro ⟨h0, h⟩ j hj
    cases j with
    | zero => simpa using h0
    | succ j =>
      have := h j (by simpa using hj)
      simp only [List.getElem_cons_succ]
      rw [show i + ((j + 1 : Nat) : Int) = i + 1 + (j : Int) by omega]
      exact this
theorem fits_take {a d b i : Int} {l : List Int} (m : Nat) (h : fits a d b l i) : fits a d b (l.take m) i := by
  intro j hj
  rw [List.length_take] at hj
  have := h j (by omega)
  rw [List.getElem_take]
  exact this
theorem accF_some {a d : Int} : ∀ (l : List Int) (i lo hi b : Int), lo ≤ hi → accF a d l i lo hi = some b → (lo ≤ b ∧ b ≤ hi) ∧ fits a d b l i
  | [], i, lo, hi, b, h, e => by
    obtain rfl : lo = b := Option.some.inj e
    exact ⟨⟨by omega, h⟩, fun j hj => absurd hj (by simp)⟩
  | v :: l, i, lo, hi, b, h, e => by
    unfold accF at e
    by_cases hc : mx lo (d * v - a * i) > mn hi (d * v - a * i + d - 1)
    · rw [if_pos hc] at e; cases e
    · rw [if_neg hc] at e
      obtain ⟨h1, h2⟩ := accF_some l (i + 1) _ _ b (by omega) e
      rw [mx_eq, mn_eq] at h1
      rw [fits_cons]
      exact ⟨⟨by omega, by omega⟩, ⟨by omega, by omega⟩, h2⟩
theorem accF_of {a d b : Int} : ∀ (l : List Int) (i lo hi : Int), lo ≤ b → b ≤ hi → fits a d b l i → ∃ b', accF a d l i lo hi = some b'
  | [], i, lo, hi, h, h', e => ⟨lo, rfl⟩
  | v :: l, i, lo, hi, h, h', e => by
    rw [fits_cons] at e
    have hm : mx lo (d * v - a * i) ≤ b ∧ b ≤ mn hi (d * v - a * i + d - 1) := by rw [mx_eq, mn_eq]; omega
    obtain ⟨b', hb⟩ := accF_of l (i + 1) _ _ hm.1 hm.2 e.2
    refine ⟨b', ?_⟩
    unfold accF
    rw [if_neg (by omega)]
    exact hb
theorem fold_best {l : List Int} {d : Int} (hd : 1 ≤ d) : ∀ (cs : List S55) (b : S55), (b = z55 ∨ b.f2 = d) → ((cs.foldl (stepQ l d) b) = z55 ∨ (cs.foldl (stepQ l d) b).f2 = d) ∧ (0 < (cs.foldl (stepQ l d) b).f2 ↔ 0 < b.f2 ∨ ∃ c ∈ cs, (fitB c.f0 d l).isSome = true)
  | [], b, h => ⟨h, by simp⟩
  | c :: cs, b, h => by
    rw [List.foldl_cons]
    cases hf : fitB c.f0 d l with
    | none =>
      have e : stepQ l d b c = b := by unfold stepQ; rw [hf]
      have ih := fold_best (l := l) hd cs b h
      rw [e]
      refine ⟨ih.1, ih.2.trans ?_⟩
      simp [hf]
    | some lo =>
      have e : (stepQ l d b c = z55 ∨ (stepQ l d b c).f2 = d) ∧ 0 < (stepQ l d b c).f2 := by
        unfold stepQ
        rw [hf]
        simp only
        split
        · exact ⟨.inr rfl, by show 0 < d; omega⟩
        · rename_i hn
          have h0 : b.f2 ≠ 0 := fun h => hn (.inl h)
          rcases h with rfl | h
          · exact absurd rfl h0
          · exact ⟨.inr h, by omega⟩
      have ih := fold_best (l := l) hd cs _ e.1
      refine ⟨ih.1, ih.2.trans ?_⟩
      simp [e.2, hf]
theorem best_pos {l : List Int} {d : Int} (hd : 1 ≤ d) : 0 < (bestQ l d).f2 ↔ ∃ c ∈ candL l d, (fitB c.f0 d l).isSome = true := by
  unfold bestQ
  rw [(fold_best (l := l) hd (candL l d) z55 (.inl rfl)).2]
  have : ¬ (0 : Int) < z55.f2 := by decide
  simp [this]
theorem vals_all {l : List Int} (hv : ValsOk l) : l.all coordB = true := List.all_eq_true.2 hv
theorem fitD_pos {l : List Int} : ∀ (n : Nat) (d : Int), 1 ≤ d → (0 < (fitD l n d).f2 ↔ ∃ j : Nat, j < n ∧ 0 < (bestQ l (d + j)).f2)
  | 0, d, h => by simp [fitD, z55]
  | n + 1, d, h => by
    by_cases hp : 0 < (bestQ l d).f2
    · rw [fitD_at hp]
      exact ⟨fun _ => ⟨0, by omega, by simpa using hp⟩, fun _ => hp⟩
    · rw [fitD_go hp, fitD_pos n (d + 1) (by omega)]
      constructor
      · rintro ⟨j, hj, h2⟩
        exact ⟨j + 1, by omega, by rw [show d + ((j + 1 : Nat) : Int) = d + 1 + (j : Int) by omega]; exact h2⟩
      · rintro ⟨j, hj, h2⟩
        cases j with
        | zero => exact absurd (by simpa using h2) hp
        | succ j => exact ⟨j, by omega, by rw [show d + 1 + (j : Int) = d + ((j + 1 : Nat) : Int) by omega]; exact h2⟩
theorem mem_candR {d : Int} : ∀ (n : Nat) (a x : Int), (⟨x, 0, d⟩ : S55) ∈ candR d n a ↔ coordB x = true ∧ a ≤ x ∧ x < a + n
  | 0, a, x => by
    simp only [candR, List.not_mem_nil, false_iff]
    omega
  | n + 1, a, x => by
    unfold candR
    rw [List.mem_append, mem_candR n (a + 1) x]
    by_cases hc : coordB a = true
    · rw [if_pos hc]
      simp only [List.mem_singleton, S55.mk.injEq, and_true]
      constructor
      · rintro (rfl | h)
        · exact ⟨hc, by omega, by omega⟩
        · exact ⟨h.1, by omega, by omega⟩
      · intro h
        by_cases e : x = a
        · exact .inl e
        · exact .inr ⟨h.1, by omega, by omega⟩
    · rw [if_neg hc]
      constructor
      · rintro (h | h)
        · cases h
        · exact ⟨h.1, by omega, by omega⟩
      · intro h
        refine .inr ⟨h.1, ?_, by omega⟩
        have : x ≠ a := fun e => hc (e ▸ h.1)
        omega
theorem candR_form {d : Int} : ∀ (n : Nat) (a : Int) (c : S55), c ∈ candR d n a → ∃ x, c = ⟨x, 0, d⟩
  | 0, a, c, h => by cases h
  | n + 1, a, c, h => by
    unfold candR at h
    rcases List.mem_append.1 h with h | h
    · split at h
      · exact ⟨a, List.mem_singleton.1 h⟩
      · cases h
    · exact candR_form n (a + 1) c h
theorem okL_iff {l : List Int} (hv : ValsOk l) (hl : l.length ≤ 4000) (h1 : 1 ≤ l.length) : okL l = true ↔ ∃ j : Nat, j < 16 ∧ ∃ c ∈ candL l (1 + j), (fitB c.f0 (1 + j) l).isSome = true := by
  unfold okL
  rw [fit_good (by omega) (vals_all hv) (by omega)]
  simp only [decide_eq_true_eq]
  rw [show (fitD l 16 1).f2 > 0 ↔ 0 < (fitD l 16 1).f2 from Iff.rfl, fitD_pos 16 1 (by omega)]
  constructor
  · rintro ⟨j, hj, h⟩; exact ⟨j, hj, (best_pos (by omega)).1 h⟩
  · rintro ⟨j, hj, h⟩; exact ⟨j, hj, (best_pos (by omega)).2 h⟩
theorem fitB_fits {a d : Int} {l : List Int} : (fitB a d l).isSome = true ↔ ∃ b, -1000000000 ≤ b ∧ b ≤ 1000000000 ∧ fits a d b l 0 := by
  constructor
  · intro h
    obtain ⟨b, hb⟩ := Option.isSome_iff_exists.1 h
    obtain ⟨h1, h2⟩ := accF_some l 0 _ _ b (by omega) hb
    exact ⟨b, h1.1, h1.2, h2⟩
  · rintro ⟨b, h0, h1, h2⟩
    obtain ⟨b', hb⟩ := accF_of l 0 (-1000000000) 1000000000 h0 h1 h2
    unfold fitB
    rw [hb]
    rfl
theorem ok_one {l : List Int} (hv : ValsOk l) (h : l.length = 1) : okL l = true := by
  rw [okL_iff hv (by omega) (by omega)]
  obtain ⟨v, rfl⟩ := List.length_eq_one_iff.1 h
  have hx := coordB_of (hv v (by simp))
  refine ⟨0, by omega, ⟨0, 0, 1⟩, by unfold candL; rw [if_pos h]; simp, ?_⟩
  rw [fitB_fits]
  refine ⟨v, hx.1, hx.2, ?_⟩
  rw [fits_cons]
  exact ⟨by simp, fun j hj => absurd hj (by simp)⟩
theorem vals_take {l : List Int} (m : Nat) (hv : ValsOk l) : ValsOk (l.take m) := fun x hx => hv x (List.mem_of_mem_take hx)
theorem vals_drop {l : List Int} (m : Nat) (hv : ValsOk l) : ValsOk (l.drop m) := fun x hx => hv x (List.mem_of_mem_drop hx)
theorem rd_get {l : List Int} {i : Nat} (h : i < l.length) : rd l (i : Int) = l[i] := by unfold rd; exact getD_at h
theorem ok_front {l : List Int} (hv : ValsOk l) (hl : l.length ≤ 4000) {m : Nat} (hm : 1 ≤ m) (h : okL l = true) : okL (l.take m) = true := by
  by_cases hle : l.length ≤ m
  · rw [List.take_of_length_le hle]; exact h
  by_cases hm1 : m = 1
  · exact ok_one (vals_take m hv) (by rw [List.length_take]; omega)
  rw [okL_iff hv (by omega) (by omega)] at h
  obtain ⟨j, hj, c, hc, hf⟩ := h
  rw [okL_iff (vals_take m hv) (by rw [List.length_take]; omega) (by rw [List.length_take]; omega)]
  have hc' := hc
  unfold candL at hc'
  rw [if_neg (by omega)] at hc'
  obtain ⟨a, rfl⟩ := candR_form _ _ _ hc'
  rw [mem_candR] at hc'
  obtain ⟨b, hb0, hb1, hfit⟩ := fitB_fits.1 hf
  replace hfit : fits a (1 + (j : Int)) b l 0 := hfit
  have ht := fits_take m hfit
  have hlen : (l.take m).length = m := by rw [List.length_take]; omega
  refine ⟨j, hj, ⟨a, 0, 1 + (j : Int)⟩, ?_, fitB_fits.2 ⟨b, hb0, hb1, ht⟩⟩
  unfold candL
  rw [if_neg (by omega), mem_candR]
  refine ⟨hc'.1, ?_⟩
  have h0 := ht 0 (by omega)
  have hn := ht (m - 1) (by omega)
  have e0 : rd (l.take m) 0 = (l.take m)[0]'(by omega) := rd_get (i := 0) (by omega)
  have en : rd (l.take m) (((l.take m).length : Int) - 1) = (l.take m)[m - 1]'(by omega) := by
    rw [show ((l.take m).length : Int) - 1 = ((m - 1 : Nat) : Int) by omega]
    exact rd_get (by omega)
  rw [show (0 : Int) + ((m - 1 : Nat) : Int) = (m : Int) - 1 by omega] at hn
  simp only [show (0 : Int) + ((0 : Nat) : Int) = 0 by omega, Int.mul_zero] at h0
  rw [← e0] at h0
  rw [← en] at hn
  have er : riseP (l.take m) (1 + (j : Int)) = (1 + (j : Int)) * rd (l.take m) (((l.take m).length : Int) - 1) - (1 + (j : Int)) * rd (l.take m) 0 := Int.mul_sub _ _ _
  generalize rd (l.take m) 0 = v0 at h0 er
  generalize rd (l.take m) (((l.take m).length : Int) - 1) = vn at hn er
  have hpos : (0 : Int) < (m : Int) - 1 := by omega
  have b1 : loA (l.take m) (1 + (j : Int)) ≤ a := by
    unfold loA
    rw [hlen]
    have : -a ≤ (1 + (j : Int) - 1 - riseP (l.take m) (1 + (j : Int))) / ((m : Int) - 1) := by
      rw [Int.le_ediv_iff_mul_le hpos, er, Int.neg_mul]
      omega
    omega
  have b2 : a ≤ hiA (l.take m) (1 + (j : Int)) := by
    unfold hiA
    rw [hlen, Int.le_ediv_iff_mul_le hpos, er]
    omega
  omega
def isLong (l : List Int) (g : Nat) : Prop := 1 ≤ g ∧ g ≤ l.length ∧ okL (l.take g) = true ∧ (g = l.length ∨ okL (l.take (g + 1)) = false)
theorem ok_mono {l : List Int} (hv : ValsOk l) (hl : l.length ≤ 4000) {m n : Nat} (hm : 1 ≤ m) (hmn : m ≤ n) (h : okL (l.take n) = true) : okL (l.take m) = true := by
  have := ok_front (vals_take n hv) (by rw [List.length_take]; omega) hm h
  rwa [List.take_take, Nat.min_eq_left hmn] at this
theorem long_one {l : List Int} (hv : ValsOk l) (hl : l.length ≤ 4000) {g h : Nat} (hg : isLong l g) (hh : isLong l h) : g = h := by
  obtain ⟨g1, g2, g3, g4⟩ := hg
  obtain ⟨h1, h2, h3, h4⟩ := hh
  rcases Nat.lt_trichotomy g h with hc | hc | hc
  · rcases g4 with g4 | g4
    · omega
    · rw [ok_mono hv hl (by omega) (by omega : g + 1 ≤ h) h3] at g4; cases g4
  · exact hc
  · rcases h4 with h4 | h4
    · omega
    · rw [ok_mono hv hl (by omega) (by omega : h + 1 ≤ g) g3] at h4; cases h4
theorem grow_long {l : List Int} : ∀ (k n : Nat), n + k = l.length → 1 ≤ n → okL (l.take n) = true → isLong l (growN l k n) ∧ n ≤ growN l k n
  | 0, n, h, h1, ho => ⟨⟨h1, by show n ≤ _; omega, ho, .inl (by show n = _; omega)⟩, Nat.le_refl _⟩
  | k + 1, n, h, h1, ho => by
    unfold growN
    cases hc : okL (l.take (n + 1)) with
    | true =>
      rw [if_pos rfl]
      have := grow_long (l := l) k (n + 1) (by omega) (by omega) hc
      exact ⟨this.1, by omega⟩
    | false =>
      rw [if_neg (by simp)]
      exact ⟨⟨h1, by omega, ho, .inr hc⟩, Nat.le_refl _⟩
theorem lenP_long {l : List Int} (hv : ValsOk l) (h1 : 1 ≤ l.length) : isLong l (lenP l) := by
  unfold lenP
  exact (grow_long (l.length - 1) 1 (by omega) (by omega) (ok_one (vals_take 1 hv) (by rw [List.length_take]; omega))).1
theorem splitP_fuel : ∀ (k k' : Nat) (a : Int) (l : List Int), ValsOk l → l.length ≤ k → l.length ≤ k' → splitP k a l = splitP k' a l
  | 0, 0, a, l, hv, h, h' => rfl
  | 0, k' + 1, a, l, hv, h, h' => by
    obtain rfl := List.length_eq_zero_iff.1 (by omega : l.length = 0)
    simp [splitP]
  | k + 1, 0, a, l, hv, h, h' => by
    obtain rfl := List.length_eq_zero_iff.1 (by omega : l.length = 0)
    simp [splitP]
  | k + 1, k' + 1, a, l, hv, h, h' => by
    unfold splitP
    by_cases h0 : l = []
    · rw [if_pos h0, if_pos h0]
    · have h1 : 1 ≤ l.length := by cases l with | nil => exact absurd rfl h0 | cons x l => simp
      have hg := (lenP_long hv h1).1
      rw [if_neg h0, if_neg h0, splitP_fuel k k' _ _ (vals_drop _ hv) (by rw [List.length_drop]; omega) (by rw [List.length_drop]; omega)]
theorem seg {l : List Int} {s e : Nat} : (l.take e).drop s = (l.drop s).take (e - s) := List.drop_take
theorem longest_loop {l : List Int} (hv : ValsOk l) (hl : l.length ≤ 4000) : ∀ (m good bad step : Nat), bad - good = m → 1 ≤ good → good < bad → bad ≤ l.length + 1 → okL (l.take good) = true → (bad = l.length + 1 ∨ okL (l.take bad) = false) → (good + 1 < bad → 1 ≤ step ∧ step ≤ 8000) →
    ∀ st : Int, (good + 1 < bad → st = step) → Ev (fun k => curve_longest.l0 k l (good : Int) (bad : Int) st (fitP (l.take good)).1.f0 (fitP (l.take good)).1.f1 (fitP (l.take good)).1.f2) (((lenP l : Nat) : Int), (fitP (l.take (lenP l))).1.f0, (fitP (l.take (lenP l))).1.f1, (fitP (l.take (lenP l))).1.f2) := by
  intro m
  induction m using Nat.strongRecOn with
  | _ m ih =>
    intro good bad step hm hg hgb hbl hok hbad hstep st hst
    by_cases hc : good + 1 < bad
    · have e1 : wrap64 ((good : Int) + 1) = (good : Int) + 1 := wrap64_id (by omega) (by omega)
      obtain ⟨hs1, hs2⟩ := hstep hc
      obtain rfl := hst hc
      have e2 : mn (wrap64 ((good : Int) + (step : Int))) (wrap64 ((bad : Int) - 1)) = ((min (good + step) (bad - 1) : Nat) : Int) := by
        rw [wrap64_id (by omega) (by omega), wrap64_id (by omega) (by omega), mn_eq]
        omega
      generalize hn : min (good + step) (bad - 1) = n at e2
      refine Ev.step (f := fun k => (quot_Fit.f (l.take n)).bind fun bt163 => (if bt163.2.2.2.1 = true then (curve_longest.l0 k l (n : Int) (bad : Int) (wrap64 (2 * (step : Int))) bt163.1 bt163.2.1 bt163.2.2.1) else (curve_longest.l0 k l (good : Int) (n : Int) (mx 1 (wrap64 (Int.tdiv (wrap64 ((n : Int) - (good : Int))) 2))) (fitP (l.take good)).1.f0 (fitP (l.take good)).1.f1 (fitP (l.take good)).1.f2))) (fun k => ?_) ?_
      · simp only [curve_longest.l0, e1, e2]
        rw [if_pos (by omega), if_pos (by omega), if_pos (by omega), show ((n : Nat) : Int).toNat = n by omega]
      · unfold quot_Fit.f
        simp only [Option.bind_some]
        cases ho : okL (l.take n) with
        | true =>
          have ho' : (fitP (l.take n)).2.1 = true := ho
          simp only [ho', if_true]
          refine ih (bad - n) (by omega) n bad (2 * step) rfl (by omega) (by omega) hbl ho hbad (fun h => by omega) _ (fun h => ?_)
          rw [wrap64_id (by omega) (by omega)]
          omega
        | false =>
          have ho' : (fitP (l.take n)).2.1 = false := ho
          simp only [ho', if_neg (show ¬ (false = true) by simp)]
          have e3 : Int.tdiv (wrap64 ((n : Int) - (good : Int))) 2 = (((n - good) / 2 : Nat) : Int) := by
            rw [wrap64_id (by omega) (by omega), Int.tdiv_eq_ediv_of_nonneg (by omega)]
            omega
          refine ih (n - good) (by omega) good n (max 1 ((n - good) / 2)) rfl hg (by omega) (by omega) hok (.inr ho) (fun h => by omega) _ (fun h => ?_)
          rw [e3, wrap64_id (by omega) (by omega), mx_eq]
          omega
    · have hbe : bad = good + 1 := by omega
      subst hbe
      have hgl : lenP l = good := by
        refine long_one hv hl (lenP_long hv (by omega)) ⟨hg, by omega, hok, ?_⟩
        rcases hbad with h | h
        · left; omega
        · exact .inr h
      rw [hgl]
      refine Ev.zero fun k => ?_
      simp only [curve_longest.l0]
      rw [wrap64_id (x := (good : Int) + 1) (by omega) (by omega), if_neg (by omega)]
theorem longest_ev {l : List Int} (hv : ValsOk l) (hl : l.length ≤ 4000) (h1 : 1 ≤ l.length) : Ev (fun k => curve_longest.f k l) (((lenP l : Nat) : Int), (fitP (l.take (lenP l))).1.f0, (fitP (l.take (lenP l))).1.f1, (fitP (l.take (lenP l))).1.f2) := by
  unfold curve_longest.f
  simp only [if_pos (show 1 ≤ (l.length : Int) by omega), quot_Fit.f, Option.bind_some]
  have h := longest_loop hv hl (l.length + 1 - 1) 1 (l.length + 1) 2 rfl (by omega) (by omega) (by omega) (ok_one (vals_take 1 hv) (by rw [List.length_take]; omega)) (.inl rfl) (fun _ => ⟨by omega, by omega⟩) 2 (fun _ => rfl)
  rw [wrap64_id (x := (l.length : Int) + 1) (by omega) (by omega)]
  exact h
theorem split_loop : ∀ (m : Nat) (l : List Int) (a : Int) (acc : List S57), l.length = m → ValsOk l → l.length ≤ 4000 → 0 ≤ a → a + l.length ≤ 8001 → acc.length + m ≤ 4000 → Ev (fun j => curve_split.l0 j a l acc) (acc ++ splitP m a l) := by
  intro m
  induction m using Nat.strongRecOn with
  | _ m ih =>
    intro l a acc hm hv hl h0 h1 hacc
    by_cases hz : m = 0
    · subst hz
      refine Ev.zero fun j => ?_
      simp only [curve_split.l0]
      rw [if_neg (by omega)]
      simp [splitP]
    · obtain ⟨m, rfl⟩ : ∃ k, m = k + 1 := ⟨m - 1, by omega⟩
      obtain ⟨g1, g2, g3, g4⟩ := lenP_long hv (by omega)
      unfold splitP
      rw [if_neg (by intro h; rw [h] at hm; simp at hm)]
      have hrest := ih (m + 1 - lenP l) (by omega) (l.drop (lenP l)) (a + (lenP l : Int)) (acc ++ [⟨a, a + (lenP l : Int), (fitP (l.take (lenP l))).1⟩]) (by rw [List.length_drop]; omega) (vals_drop _ hv) (by rw [List.length_drop]; omega) (by omega) (by rw [List.length_drop]; omega) (by simp; omega)
      rw [splitP_fuel (m + 1 - lenP l) m _ _ (vals_drop _ hv) (by rw [List.length_drop]; omega) (by rw [List.length_drop]; omega), List.append_assoc, List.singleton_append] at hrest
      refine Ev.step (f := fun k => (curve_longest.f k l).bind fun bt169 => (if 0 ≤ bt169.1 then (if bt169.1 ≤ (l.length : Int) then (curve_split.l0 k (wrap64 (a + bt169.1)) (l.drop (bt169.1 : Int).toNat) (acc ++ [(⟨a, wrap64 (a + bt169.1), (⟨bt169.2.1, bt169.2.2.1, bt169.2.2.2⟩ : S55)⟩ : S57)])) else (none)) else (none))) (fun k => ?_) ?_
      · simp only [curve_split.l0]
        rw [if_pos (by omega)]
        simp only [if_pos (show acc.length < 3518437208883 by omega)]
      · refine Ev.bind (longest_ev hv hl (by omega)) ?_
        simp only [if_pos (show (0 : Int) ≤ ((lenP l : Nat) : Int) by omega), if_pos (show ((lenP l : Nat) : Int) ≤ (l.length : Int) by omega), wrap64_id (x := a + ((lenP l : Nat) : Int)) (by omega) (by omega), show ((lenP l : Nat) : Int).toNat = lenP l by omega]
        exact hrest
theorem badM_vals {a : Int} {l : List Int} (h : ¬ badM a l = true) : 1 ≤ l.length ∧ 0 ≤ a ∧ a + l.length ≤ 4001 ∧ ValsOk l := by
  unfold badM at h
  simp at h
  obtain ⟨⟨⟨h1, h2⟩, h3⟩, h4⟩ := h
  exact ⟨by cases l with | nil => exact absurd rfl h1 | cons x l => simp, h2, by omega, h4⟩
theorem pmake_ev (a : Int) (l : List Int) : Ev (fun k => curve_Make.f k a l) (makeP a l) := by
  unfold curve_Make.f makeP
  by_cases h1 : l.length > 4000
  · simp only [if_pos h1]; exact Ev.now _
  simp only [if_neg h1]
  by_cases h2 : badM a l = true
  · simp only [if_pos h2]; exact Ev.now _
  simp only [if_neg h2]
  obtain ⟨b1, b2, b3, b4⟩ := badM_vals h2
  have := split_loop l.length l a [] rfl b4 (by omega) b2 (by omega) (by simp; omega)
  exact Ev.bind this (Ev.now _)
end Go.Proofs.Ytdigjjncoeaiiaa.Plain
