/- Printed by a program of this session (wip/gprint.py) over the translation, cut to what is named (wip/dcut.py). Not trusted: Lean checks it. -/
import Derived.Test.YtdigjjncoeaiiaaVaPlain
namespace Go.Proofs.Ytdigjjncoeaiiaa.Plain
open Go.RowKit Go.Proofs.Ytdigjjncoeaiiaa.PAll Go.Proofs.YtdigjjncoeaiiaaW.PrintWords Go.Proofs.YtdigjjncoeaiiaaW.PrintLast Go.Proofs.YtdigjjncoeaiiaaW.PrintMore Go.Proofs.YtdigjjncoeaiiaaGlib
set_option linter.unusedSimpArgs false
def fits (a d b : Int) (l : List Int) (i : Int) : Prop := ∀ (j : Nat) (h : j < l.length), d * l[j] ≤ a * (i + j) + b ∧ a * (i + j) + b ≤ d * l[j] + d - 1
theorem fits_cons {a d b v i : Int} {l : List Int} : fits a d b (v :: l) i ↔ (d * v ≤ a * i + b ∧ a * i + b ≤ d * v + d - 1) ∧ fits a d b l (i + 1) := by
  constructor
  · intro h
    refine ⟨?_, fun j hj => ?_⟩
    · have := h 0 (by simp)
      simp only [List.getElem_cons_zero] at this
      simpa using this
    have := h (j + 1) (by simp; omega)
    simp only [List.getElem_cons_succ] at this
    rw [show i + ((j + 1 : Nat) : Int) = i + 1 + (j : Int) by omega] at this
    exact this
  · rintro ⟨h0, h⟩ j hj
    cases j with
    | zero => simpa using h0
    | succ j =>
      have := h j (by simpa using hj)
      simp only [List.getElem_cons_succ]
      rw [show i + ((j + 1 : Nat) : Int) = i + 1 + (j : Int) by omega]
      exact this
theorem fits_take {a d b i : Int} {l : List Int} (m : Nat) (h : fits a d b l i) : fits a d b (l.take m) i := by
  intro j hj
  rw [List.length_take] at hj
  have := h j (by omega)
  rw [List.getElem_take]
  exact this
theorem accF_some {a d : Int} : ∀ (l : List Int) (i lo hi b : Int), lo ≤ hi → accF a d l i lo hi = some b → (lo ≤ b ∧ b ≤ hi) ∧ fits a d b l i
  | [], i, lo, hi, b, h, e => by
    obtain rfl : lo = b := Option.some.inj e
    exact ⟨⟨by omega, h⟩, fun j hj => absurd hj (by simp)⟩
  | v :: l, i, lo, hi, b, h, e => by
    unfold accF at e
    by_cases hc : mx lo (d * v - a * i) > mn hi (d * v - a * i + d - 1)
    · rw [if_pos hc] at e; cases e
    · rw [if_neg hc] at e
      obtain ⟨h1, h2⟩ := accF_some l (i + 1) _ _ b (by omega) e
      rw [mx_eq, mn_eq] at h1
      rw [fits_cons]
      exact ⟨⟨by omega, by omega⟩, ⟨by omega, by omega⟩, h2⟩
theorem accF_of {a d b : Int} : ∀ (l : List Int) (i lo hi : Int), lo ≤ b → b ≤ hi → fits a d b l i → ∃ b', accF a d l i lo hi = some b'
  | [], i, lo, hi, h, h', e => ⟨lo, rfl⟩
  | v :: l, i, lo, hi, h, h', e => by
    rw [fits_cons] at e
    have hm : mx lo (d * v - a * i) ≤ b ∧ b ≤ mn hi (d * v - a * i + d - 1) := by rw [mx_eq, mn_eq]; omega
    obtain ⟨b', hb⟩ := accF_of l (i + 1) _ _ hm.1 hm.2 e.2
    refine ⟨b', ?_⟩
    unfold accF
    rw [if_neg (by omega)]
    exact hb
/-- Both bounds at the end. -/
def boundsF (a d : Int) : List Int → Int → Int → Int → Int × Int
  | [], _, lo, hi => (lo, hi)
  | v :: l, i, lo, hi => boundsF a d l (i + 1) (mx lo (d * v - a * i)) (mn hi (d * v - a * i + d - 1))
theorem bounds_le {a d : Int} : ∀ (l : List Int) (i lo hi : Int), lo ≤ (boundsF a d l i lo hi).1 ∧ (boundsF a d l i lo hi).2 ≤ hi
  | [], i, lo, hi => ⟨by simp [boundsF], by simp [boundsF]⟩
  | v :: l, i, lo, hi => by
    have := bounds_le (a := a) (d := d) l (i + 1) (mx lo (d * v - a * i)) (mn hi (d * v - a * i + d - 1))
    unfold boundsF
    rw [mx_eq, mn_eq] at *
    omega
theorem acc_bounds {a d : Int} : ∀ (l : List Int) (i lo hi : Int), lo ≤ hi → accF a d l i lo hi = if (boundsF a d l i lo hi).1 ≤ (boundsF a d l i lo hi).2 then some (boundsF a d l i lo hi).1 else none
  | [], i, lo, hi, h => by simp [accF, boundsF, h]
  | v :: l, i, lo, hi, h => by
    unfold accF boundsF
    by_cases hc : mx lo (d * v - a * i) > mn hi (d * v - a * i + d - 1)
    · have := bounds_le (a := a) (d := d) l (i + 1) (mx lo (d * v - a * i)) (mn hi (d * v - a * i + d - 1))
      rw [if_pos hc, if_neg (by omega)]
    · rw [if_neg hc]
      exact acc_bounds l (i + 1) _ _ (by omega)
theorem least_loop {l : List Int} {a d : Int} (ha : -64000000000 ≤ a ∧ a ≤ 64000000000) (hd : 1 ≤ d ∧ d ≤ 16) (hv : ValsOk l) (hl : l.length ≤ 4000) :
    ∀ (n i : Nat) (lo hi : Int), i + n = l.length → Ev (fun k => formeref01_least.l0 k l a d lo hi (i : Int)) ((boundsF a d (l.drop i) i lo hi).1, decide ((boundsF a d (l.drop i) i lo hi).1 ≤ (boundsF a d (l.drop i) i lo hi).2))
  | 0, i, lo, hi, h => by
    rw [drop_all (by omega)]
    refine Ev.zero fun k => ?_
    simp only [formeref01_least.l0]
    rw [if_neg (by omega)]
    rfl
  | n + 1, i, lo, hi, h => by
    have hlt : i < l.length := by omega
    have hx := vals_at hv (i := (i : Int)) (by omega) (by omega)
    have h1 := mul_bound (a := d) (b := rd l (i : Int)) (m := 16) (n := 1000000000) (by omega) (by omega) (by omega) (by omega)
    have h2 := mul_bound (a := a) (b := (i : Int)) (m := 64000000000) (n := 4000) (by omega) (by omega) (by omega) (by omega)
    have e0 : rd l (i : Int) = l[i] := by unfold rd; exact getD_at hlt
    have ih := least_loop ha hd hv hl n (i + 1) (mx lo (d * l[i] - a * (i : Int))) (mn hi (d * l[i] - a * (i : Int) + d - 1)) (by omega)
    rw [drop_get hlt]
    unfold boundsF
    refine Ev.step (fun k => ?_) ih
    simp only [formeref01_least.l0]
    rw [if_pos (by omega), if_pos (by omega), wrap64_id (x := d * rd l (i : Int)) (by omega) (by omega), wrap64_id (x := a * (i : Int)) (by omega) (by omega), wrap64_id (x := d * rd l (i : Int) - a * (i : Int)) (by omega) (by omega),
      wrap64_id (x := d * rd l (i : Int) + d) (by omega) (by omega), wrap64_id (x := d * rd l (i : Int) + d - 1) (by omega) (by omega), wrap64_id (x := d * rd l (i : Int) + d - 1 - a * (i : Int)) (by omega) (by omega), wrap_next (by omega), e0,
      show d * l[i] + d - 1 - a * (i : Int) = d * l[i] - a * (i : Int) + d - 1 by omega]
def leastR (a d : Int) (l : List Int) : Int × Bool := ((boundsF a d l 0 (-1000000000) 1000000000).1, decide ((boundsF a d l 0 (-1000000000) 1000000000).1 ≤ (boundsF a d l 0 (-1000000000) 1000000000).2))
theorem least_ev {l : List Int} {a d : Int} (ha : -64000000000 ≤ a ∧ a ≤ 64000000000) (hd : 1 ≤ d ∧ d ≤ 16) (hv : ValsOk l) (hl : l.length ≤ 4000) : Ev (fun k => formeref01_least.f k l a d) (leastR a d l) := by
  have := least_loop ha hd hv hl l.length 0 (-1000000000) 1000000000 (by omega)
  rw [List.drop_zero] at this
  exact this
theorem fitB_least (a d : Int) (l : List Int) : fitB a d l = if (leastR a d l).2 = true then some (leastR a d l).1 else none := by
  unfold fitB leastR
  rw [acc_bounds l 0 _ _ (by omega)]
  simp only [decide_eq_true_eq]
theorem abs_mx (a : Int) (h : -9000000000000000000 ≤ a) (h' : a ≤ 9000000000000000000) : formeref01_abs.f a = some (mx a (-a)) := by
  unfold formeref01_abs.f
  rw [wrap64_id (by omega) (by omega)]
/-- What the best one so far is. -/
def BestI (d a : Int) (b : S55) : Prop := b = z55 ∨ (b.f2 = d ∧ b.f0 < a ∧ -1000000000 ≤ b.f0 ∧ b.f0 ≤ 1000000000)
def tupQ (b : S55) : Int × Int × Int × Bool := (b.f0, b.f1, b.f2, decide (0 < b.f2))
theorem first_loop {l : List Int} {d hi : Int} (hd : 1 ≤ d ∧ d ≤ 16) (hv : ValsOk l) (hl : l.length ≤ 4000) (hh : -33000000000 ≤ hi ∧ hi ≤ 33000000000) :
    ∀ (n : Nat) (a : Int) (b : S55), (hi - a + 1).toNat = n → -33000000000 ≤ a → BestI d a b →
      Ev (fun k => formeref01_first.l0 k l d hi (decide (0 < b.f2)) a b.f0 b.f1 b.f2) (tupQ ((candR d n a).foldl (stepQ l d) b))
  | 0, a, b, hn, ha, hb => by
    refine Ev.zero fun k => ?_
    simp only [formeref01_first.l0]
    rw [if_neg (by omega)]
    rfl
  | n + 1, a, b, hn, ha, hb => by
    have hw : wrap64 (a + 1) = a + 1 := wrap64_id (by omega) (by omega)
    have ih := fun b' (hb' : BestI d (a + 1) b') => first_loop hd hv hl hh n (a + 1) b' (by omega) (by omega) hb'
    have hold : BestI d (a + 1) b := hb.imp id (fun h => ⟨h.1, by omega, h.2.2⟩)
    refine Ev.step (f := fun k => (formeref01_least.f k l a d).bind fun bt248 => (if bt248.2 = true then ((formeref01_Coord.f a).bind fun t250 => (if t250 = true then (if decide (0 < b.f2) = true then ((formeref01_abs.f a).bind fun t251 => ((formeref01_abs.f b.f0).bind fun t252 => (if t251 < t252 then (formeref01_first.l0 k l d hi true (a + 1) a bt248.1 d) else (formeref01_first.l0 k l d hi (decide (0 < b.f2)) (a + 1) b.f0 b.f1 b.f2)))) else (formeref01_first.l0 k l d hi true (a + 1) a bt248.1 d)) else (formeref01_first.l0 k l d hi (decide (0 < b.f2)) (a + 1) b.f0 b.f1 b.f2))) else (formeref01_first.l0 k l d hi (decide (0 < b.f2)) (a + 1) b.f0 b.f1 b.f2))) (fun k => ?_) ?_
    · simp only [formeref01_first.l0]
      rw [if_pos (by omega), hw]
    refine Ev.bind (least_ev (a := a) (d := d) (by omega) hd hv hl) ?_
    simp only [coord_ref, Option.bind_some]
    unfold candR
    rw [List.foldl_append]
    have hf := fitB_least a d l
    cases h2 : (leastR a d l).2 with
    | false =>
      rw [h2, if_neg (by simp)] at hf
      simp only [if_neg (show ¬ (false = true) by simp)]
      have e : (if coordB a = true then [(⟨a, 0, d⟩ : S55)] else []).foldl (stepQ l d) b = b := by
        split
        · show stepQ l d b ⟨a, 0, d⟩ = b
          unfold stepQ
          simp only [hf]
        · rfl
      rw [e]
      exact ih b hold
    | true =>
      rw [h2, if_pos rfl] at hf
      simp only [if_true]
      cases hc : coordB a with
      | false =>
        simp only [if_neg (show ¬ (false = true) by simp), List.foldl_nil]
        exact ih b hold
      | true =>
        have hca := coordB_of hc
        simp only [if_true, List.foldl_cons, List.foldl_nil]
        have hnew := ih ⟨a, (leastR a d l).1, d⟩ (.inr ⟨rfl, by show a < a + 1; omega, hca.1, hca.2⟩)
        rw [decide_eq_true (show 0 < (⟨a, (leastR a d l).1, d⟩ : S55).f2 by show 0 < d; omega)] at hnew
        rcases hb with rfl | hb
        · have e : stepQ l d z55 ⟨a, 0, d⟩ = ⟨a, (leastR a d l).1, d⟩ := by
            unfold stepQ
            simp only [hf]
            exact if_pos (.inl rfl)
          rw [e]
          exact hnew
        · have hp : 0 < b.f2 := by omega
          rw [decide_eq_true hp] at *
          simp only [if_true]
          rw [abs_mx a (by omega) (by omega), abs_mx b.f0 (by omega) (by omega)]
          simp only [Option.bind_some]
          by_cases hlt : mx a (-a) < mx b.f0 (-b.f0)
          · have e : stepQ l d b ⟨a, 0, d⟩ = ⟨a, (leastR a d l).1, d⟩ := by
              unfold stepQ
              simp only [hf]
              exact if_pos (.inr (by unfold beforeB; simp [hlt]))
            rw [e]
            simp only [if_pos hlt]
            exact hnew
          · have e : stepQ l d b ⟨a, 0, d⟩ = b := by
              unfold stepQ
              simp only [hf]
              refine if_neg (fun h => ?_)
              rcases h with h | h
              · omega
              · unfold beforeB at h
                simp at h
                omega
            rw [e]
            simp only [if_neg hlt]
            have := ih b hold
            rw [decide_eq_true hp] at this
            exact this
theorem fold_best {l : List Int} {d : Int} (hd : 1 ≤ d) : ∀ (cs : List S55) (b : S55), (b = z55 ∨ b.f2 = d) → ((cs.foldl (stepQ l d) b) = z55 ∨ (cs.foldl (stepQ l d) b).f2 = d) ∧ (0 < (cs.foldl (stepQ l d) b).f2 ↔ 0 < b.f2 ∨ ∃ c ∈ cs, (fitB c.f0 d l).isSome = true)
  | [], b, h => ⟨h, by simp⟩
  | c :: cs, b, h => by
    rw [List.foldl_cons]
    cases hf : fitB c.f0 d l with
    | none =>
      have e : stepQ l d b c = b := by unfold stepQ; rw [hf]
      have ih := fold_best (l := l) hd cs b h
      rw [e]
      refine ⟨ih.1, ih.2.trans ?_⟩
      simp [hf]
    | some lo =>
      have e : (stepQ l d b c = z55 ∨ (stepQ l d b c).f2 = d) ∧ 0 < (stepQ l d b c).f2 := by
        unfold stepQ
        rw [hf]
        simp only
        split
        · exact ⟨.inr rfl, by show 0 < d; omega⟩
        · rename_i hn
          have h0 : b.f2 ≠ 0 := fun h => hn (.inl h)
          rcases h with rfl | h
          · exact absurd rfl h0
          · exact ⟨.inr h, by omega⟩
      have ih := fold_best (l := l) hd cs _ e.1
      refine ⟨ih.1, ih.2.trans ?_⟩
      simp [e.2, hf]
theorem best_pos {l : List Int} {d : Int} (hd : 1 ≤ d) : 0 < (bestQ l d).f2 ↔ ∃ c ∈ candL l d, (fitB c.f0 d l).isSome = true := by
  unfold bestQ
  rw [(fold_best (l := l) hd (candL l d) z55 (.inl rfl)).2]
  have : ¬ (0 : Int) < z55.f2 := by decide
  simp [this]
theorem first_ev {l : List Int} {d : Int} (hd : 1 ≤ d ∧ d ≤ 16) (hv : ValsOk l) (hl : l.length ≤ 4000) (h1 : 1 ≤ l.length) :
    ∃ q, Ev (fun k => formeref01_first.f k l d) q ∧ q.2.2.2 = decide (0 < (bestQ l d).f2) ∧ (0 < (bestQ l d).f2 → q = tupQ (bestQ l d)) := by
  by_cases hone : l.length = 1
  · refine ⟨(0, (leastR 0 d l).1, d, (leastR 0 d l).2), ?_, ?_, ?_⟩
    · unfold formeref01_first.f
      simp only [if_pos (show (l.length : Int) = 1 by omega)]
      exact Ev.bind (least_ev (a := 0) (d := d) (by omega) hd hv hl) (Ev.now _)
    · have hb : bestQ l d = stepQ l d z55 ⟨0, 0, d⟩ := by unfold bestQ candL; rw [if_pos hone]; rfl
      rw [hb]
      unfold stepQ
      rw [fitB_least]
      cases h2 : (leastR 0 d l).2 with
      | false => rfl
      | true =>
        simp only [if_true]
        rw [if_pos (.inl rfl)]
        exact (decide_eq_true (show 0 < d by omega)).symm
    · have hb : bestQ l d = stepQ l d z55 ⟨0, 0, d⟩ := by unfold bestQ candL; rw [if_pos hone]; rfl
      rw [hb]
      unfold stepQ
      rw [fitB_least]
      cases h2 : (leastR 0 d l).2 with
      | false => intro h; exact absurd (show (0 : Int) < z55.f2 from h) (by decide)
      | true =>
        intro _
        simp only [if_true]
        rw [if_pos (.inl rfl)]
        show _ = ((0 : Int), (leastR 0 d l).1, d, decide (0 < d))
        rw [decide_eq_true (show 0 < d by omega)]
  · have hr := rise_bound hv h1 hd.1 hd.2
    have hx := vals_at hv (i := (l.length : Int) - 1) (by omega) (by omega)
    have hy := vals_at hv (i := 0) (by omega) (by omega)
    have hlo := div_bound (a := d - 1 - riseP l d) (n := (l.length : Int) - 1) (m := 32000000016) (by omega) (by omega) (by omega) (by omega)
    have hhi := div_bound (a := riseP l d + d - 1) (n := (l.length : Int) - 1) (m := 32000000016) (by omega) (by omega) (by omega) (by omega)
    refine ⟨tupQ (bestQ l d), ?_, rfl, fun _ => rfl⟩
    have hcand : candL l d = candR d (hiA l d - loA l d + 1).toNat (loA l d) := by unfold candL; rw [if_neg hone]
    have hloop := first_loop (l := l) (d := d) (hi := hiA l d) hd hv hl (by unfold hiA; omega) (hiA l d - loA l d + 1).toNat (loA l d) z55 rfl (by unfold loA; omega) (.inl rfl)
    rw [← hcand] at hloop
    refine Ev.congr (fun k => ?_) hloop
    unfold formeref01_first.f
    have e1 : wrap64 ((l.length : Int) - 1) = (l.length : Int) - 1 := wrap64_id (by omega) (by omega)
    have e2 : wrap64 (rd l ((l.length : Int) - 1) - rd l 0) = rd l ((l.length : Int) - 1) - rd l 0 := wrap64_id (by omega) (by omega)
    have e3 : wrap64 (d * (rd l ((l.length : Int) - 1) - rd l 0)) = riseP l d := wrap64_id (by show _ ≤ riseP l d; omega) (by show riseP l d ≤ _; omega)
    rw [if_neg (by omega)]
    simp only [e1, e2, e3]
    rw [if_pos (by omega), if_pos (by omega), if_pos (by omega)]
    rw [wrap64_id (x := riseP l d - d) (by omega) (by omega), wrap64_id (x := riseP l d - d + 1) (by omega) (by omega), wrap64_id (x := -(riseP l d - d + 1)) (by omega) (by omega),
      wrap64_id (x := riseP l d + d) (by omega) (by omega), wrap64_id (x := riseP l d + d - 1) (by omega) (by omega), floor_ref (by omega) (by omega) (by omega), Option.bind_some, floor_ref (by omega) (by omega) (by omega), Option.bind_some]
    rw [show -(riseP l d - d + 1) = d - 1 - riseP l d by omega, wrap64_id (x := -((d - 1 - riseP l d) / ((l.length : Int) - 1))) (by omega) (by omega)]
    rfl
theorem values_loop {l : List Int} (hl : l.length ≤ 4000) (h1 : 1 ≤ l.length) : ∀ (n i : Nat), i + n = l.length → Ev (fun k => formeref01_Values.l0 k l (i : Int)) ((l.drop i).all coordB)
  | 0, i, h => by
    rw [drop_all (by omega)]
    refine Ev.zero fun k => ?_
    simp only [formeref01_Values.l0]
    rw [if_neg (by omega), if_pos (by omega), decide_eq_true (by omega)]
    rfl
  | n + 1, i, h => by
    have hlt : i < l.length := by omega
    have e0 : rd l (i : Int) = l[i] := by unfold rd; exact getD_at hlt
    have ih := values_loop hl h1 n (i + 1) (by omega)
    rw [drop_get hlt, List.all_cons]
    refine Ev.step (f := fun k => if coordB l[i] = true then formeref01_Values.l0 k l ((i + 1 : Nat) : Int) else some false) (fun k => ?_) ?_
    · simp only [formeref01_Values.l0]
      rw [if_pos (by omega), if_pos (by omega), coord_ref, Option.bind_some, e0, wrap_next (by omega)]
    · cases coordB l[i] with
      | true => simpa using ih
      | false => simpa using Ev.now false
theorem vals_all {l : List Int} (hv : ValsOk l) : l.all coordB = true := List.all_eq_true.2 hv
theorem fit_loop {l : List Int} (hv : ValsOk l) (hl : l.length ≤ 4000) (h1 : 1 ≤ l.length) : ∀ (n : Nat) (d : Int), 1 ≤ d → d + n = 17 →
    Ev (fun k => formeref01_Fit.l0 k l d) ((fitD l n d).f0, (fitD l n d).f1, (fitD l n d).f2, decide (0 < (fitD l n d).f2), 0)
  | 0, d, h0, h => by
    refine Ev.zero fun k => ?_
    simp only [formeref01_Fit.l0]
    rw [if_neg (by omega)]
    rfl
  | n + 1, d, h0, h => by
    obtain ⟨q, hq, hq2, hq3⟩ := first_ev (l := l) (d := d) (by omega) hv hl h1
    refine Ev.step (f := fun k => (formeref01_first.f k l d).bind fun bt255 => (if bt255.2.2.2 = true then (some (bt255.1, bt255.2.1, bt255.2.2.1, true, 0)) else (formeref01_Fit.l0 k l (d + 1)))) (fun k => ?_) ?_
    · simp only [formeref01_Fit.l0]
      rw [if_pos (by omega), wrap64_id (x := d + 1) (by omega) (by omega)]
    · refine Ev.bind hq ?_
      simp only [hq2]
      by_cases hp : 0 < (bestQ l d).f2
      · rw [fitD_at hp, decide_eq_true hp, hq3 hp]
        simp only [if_true]
        exact Ev.now _
      · rw [fitD_go hp, decide_eq_false hp]
        simp only [if_neg (show ¬ (false = true) by simp)]
        exact fit_loop hv hl h1 n (d + 1) (by omega) (by omega)
/-- The reference's first quotient is the program's. -/
theorem fit_ev {l : List Int} (hv : ValsOk l) (hl : l.length ≤ 4000) (h1 : 1 ≤ l.length) : Ev (fun k => formeref01_Fit.f k l) ((fitP l).1.f0, (fitP l).1.f1, (fitP l).1.f2, (fitP l).2.1, (fitP l).2.2) := by
  rw [fit_good (by omega) (vals_all hv) (by omega)]
  unfold formeref01_Fit.f
  simp only [if_neg (show ¬ (l.length : Int) > 4000 by omega)]
  have hvl := values_loop hl h1 l.length 0 (by omega)
  rw [List.drop_zero, vals_all hv] at hvl
  refine Ev.bind hvl ?_
  simp only [if_true]
  exact fit_loop hv hl h1 16 1 (by omega) (by omega)
def okL (l : List Int) : Bool := (fitP l).2.1
theorem fitD_pos {l : List Int} : ∀ (n : Nat) (d : Int), 1 ≤ d → (0 < (fitD l n d).f2 ↔ ∃ j : Nat, j < n ∧ 0 < (bestQ l (d + j)).f2)
  | 0, d, h => by simp [fitD, z55]
  | n + 1, d, h => by
    by_cases hp : 0 < (bestQ l d).f2
    · rw [fitD_at hp]
      exact ⟨fun _ => ⟨0, by omega, by simpa using hp⟩, fun _ => hp⟩
    · rw [fitD_go hp, fitD_pos n (d + 1) (by omega)]
      constructor
      · rintro ⟨j, hj, h2⟩
        exact ⟨j + 1, by omega, by rw [show d + ((j + 1 : Nat) : Int) = d + 1 + (j : Int) by omega]; exact h2⟩
      · rintro ⟨j, hj, h2⟩
        cases j with
        | zero => exact absurd (by simpa using h2) hp
        | succ j => exact ⟨j, by omega, by rw [show d + 1 + (j : Int) = d + ((j + 1 : Nat) : Int) by omega]; exact h2⟩
theorem mem_candR {d : Int} : ∀ (n : Nat) (a x : Int), (⟨x, 0, d⟩ : S55) ∈ candR d n a ↔ coordB x = true ∧ a ≤ x ∧ x < a + n
  | 0, a, x => by
    simp only [candR, List.not_mem_nil, false_iff]
    omega
  | n + 1, a, x => by
    unfold candR
    rw [List.mem_append, mem_candR n (a + 1) x]
    by_cases hc : coordB a = true
    · rw [if_pos hc]
      simp only [List.mem_singleton, S55.mk.injEq, and_true]
      constructor
      · rintro (rfl | h)
        · exact ⟨hc, by omega, by omega⟩
        · exact ⟨h.1, by omega, by omega⟩
      · intro h
        by_cases e : x = a
        · exact .inl e
        · exact .inr ⟨h.1, by omega, by omega⟩
    · rw [if_neg hc]
      constructor
      · rintro (h | h)
        · cases h
        · exact ⟨h.1, by omega, by omega⟩
      · intro h
        refine .inr ⟨h.1, ?_, by omega⟩
        have : x ≠ a := fun e => hc (e ▸ h.1)
        omega
theorem candR_form {d : Int} : ∀ (n : Nat) (a : Int) (c : S55), c ∈ candR d n a → ∃ x, c = ⟨x, 0, d⟩
  | 0, a, c, h => by cases h
  | n + 1, a, c, h => by
    unfold candR at h
    rcases List.mem_append.1 h with h | h
    · split at h
      · exact ⟨a, List.mem_singleton.1 h⟩
      · cases h
    · exact candR_form n (a + 1) c h
theorem okL_iff {l : List Int} (hv : ValsOk l) (hl : l.length ≤ 4000) (h1 : 1 ≤ l.length) : okL l = true ↔ ∃ j : Nat, j < 16 ∧ ∃ c ∈ candL l (1 + j), (fitB c.f0 (1 + j) l).isSome = true := by
  unfold okL
  rw [fit_good (by omega) (vals_all hv) (by omega)]
  simp only [decide_eq_true_eq]
  rw [show (fitD l 16 1).f2 > 0 ↔ 0 < (fitD l 16 1).f2 from Iff.rfl, fitD_pos 16 1 (by omega)]
  constructor
  · rintro ⟨j, hj, h⟩; exact ⟨j, hj, (best_pos (by omega)).1 h⟩
  · rintro ⟨j, hj, h⟩; exact ⟨j, hj, (best_pos (by omega)).2 h⟩
theorem fitB_fits {a d : Int} {l : List Int} : (fitB a d l).isSome = true ↔ ∃ b, -1000000000 ≤ b ∧ b ≤ 1000000000 ∧ fits a d b l 0 := by
  constructor
  · intro h
    obtain ⟨b, hb⟩ := Option.isSome_iff_exists.1 h
    obtain ⟨h1, h2⟩ := accF_some l 0 _ _ b (by omega) hb
    exact ⟨b, h1.1, h1.2, h2⟩
  · rintro ⟨b, h0, h1, h2⟩
    obtain ⟨b', hb⟩ := accF_of l 0 (-1000000000) 1000000000 h0 h1 h2
    unfold fitB
    rw [hb]
    rfl
theorem ok_one {l : List Int} (hv : ValsOk l) (h : l.length = 1) : okL l = true := by
  rw [okL_iff hv (by omega) (by omega)]
  obtain ⟨v, rfl⟩ := List.length_eq_one_iff.1 h
  have hx := coordB_of (hv v (by simp))
  refine ⟨0, by omega, ⟨0, 0, 1⟩, by unfold candL; rw [if_pos h]; simp, ?_⟩
  rw [fitB_fits]
  refine ⟨v, hx.1, hx.2, ?_⟩
  rw [fits_cons]
  exact ⟨by simp, fun j hj => absurd hj (by simp)⟩
theorem vals_take {l : List Int} (m : Nat) (hv : ValsOk l) : ValsOk (l.take m) := fun x hx => hv x (List.mem_of_mem_take hx)
theorem vals_drop {l : List Int} (m : Nat) (hv : ValsOk l) : ValsOk (l.drop m) := fun x hx => hv x (List.mem_of_mem_drop hx)
theorem rd_get {l : List Int} {i : Nat} (h : i < l.length) : rd l (i : Int) = l[i] := by unfold rd; exact getD_at h
theorem ok_front {l : List Int} (hv : ValsOk l) (hl : l.length ≤ 4000) {m : Nat} (hm : 1 ≤ m) (h : okL l = true) : okL (l.take m) = true := by
  by_cases hle : l.length ≤ m
  · rw [List.take_of_length_le hle]; exact h
  by_cases hm1 : m = 1
  · exact ok_one (vals_take m hv) (by rw [List.length_take]; omega)
  rw [okL_iff hv (by omega) (by omega)] at h
  obtain ⟨j, hj, c, hc, hf⟩ := h
  rw [okL_iff (vals_take m hv) (by rw [List.length_take]; omega) (by rw [List.length_take]; omega)]
  have hc' := hc
  unfold candL at hc'
  rw [if_neg (by omega)] at hc'
  obtain ⟨a, rfl⟩ := candR_form _ _ _ hc'
  rw [mem_candR] at hc'
  obtain ⟨b, hb0, hb1, hfit⟩ := fitB_fits.1 hf
  replace hfit : fits a (1 + (j : Int)) b l 0 := hfit
  have ht := fits_take m hfit
  have hlen : (l.take m).length = m := by rw [List.length_take]; omega
  refine ⟨j, hj, ⟨a, 0, 1 + (j : Int)⟩, ?_, fitB_fits.2 ⟨b, hb0, hb1, ht⟩⟩
  unfold candL
  rw [if_neg (by omega), mem_candR]
  refine ⟨hc'.1, ?_⟩
  have h0 := ht 0 (by omega)
  have hn := ht (m - 1) (by omega)
  have e0 : rd (l.take m) 0 = (l.take m)[0]'(by omega) := rd_get (i := 0) (by omega)
  have en : rd (l.take m) (((l.take m).length : Int) - 1) = (l.take m)[m - 1]'(by omega) := by
    rw [show ((l.take m).length : Int) - 1 = ((m - 1 : Nat) : Int) by omega]
    exact rd_get (by omega)
  rw [show (0 : Int) + ((m - 1 : Nat) : Int) = (m : Int) - 1 by omega] at hn
  simp only [show (0 : Int) + ((0 : Nat) : Int) = 0 by omega, Int.mul_zero] at h0
  rw [← e0] at h0
  rw [← en] at hn
  have er : riseP (l.take m) (1 + (j : Int)) = (1 + (j : Int)) * rd (l.take m) (((l.take m).length : Int) - 1) - (1 + (j : Int)) * rd (l.take m) 0 := Int.mul_sub _ _ _
  generalize rd (l.take m) 0 = v0 at h0 er
  generalize rd (l.take m) (((l.take m).length : Int) - 1) = vn at hn er
  have hpos : (0 : Int) < (m : Int) - 1 := by omega
  have b1 : loA (l.take m) (1 + (j : Int)) ≤ a := by
    unfold loA
    rw [hlen]
    have : -a ≤ (1 + (j : Int) - 1 - riseP (l.take m) (1 + (j : Int))) / ((m : Int) - 1) := by
      rw [Int.le_ediv_iff_mul_le hpos, er, Int.neg_mul]
      omega
    omega
  have b2 : a ≤ hiA (l.take m) (1 + (j : Int)) := by
    unfold hiA
    rw [hlen, Int.le_ediv_iff_mul_le hpos, er]
    omega
  omega
def isLong (l : List Int) (g : Nat) : Prop := 1 ≤ g ∧ g ≤ l.length ∧ okL (l.take g) = true ∧ (g = l.length ∨ okL (l.take (g + 1)) = false)
theorem ok_mono {l : List Int} (hv : ValsOk l) (hl : l.length ≤ 4000) {m n : Nat} (hm : 1 ≤ m) (hmn : m ≤ n) (h : okL (l.take n) = true) : okL (l.take m) = true := by
  have := ok_front (vals_take n hv) (by rw [List.length_take]; omega) hm h
  rwa [List.take_take, Nat.min_eq_left hmn] at this
theorem long_one {l : List Int} (hv : ValsOk l) (hl : l.length ≤ 4000) {g h : Nat} (hg : isLong l g) (hh : isLong l h) : g = h := by
  obtain ⟨g1, g2, g3, g4⟩ := hg
  obtain ⟨h1, h2, h3, h4⟩ := hh
  rcases Nat.lt_trichotomy g h with hc | hc | hc
  · rcases g4 with g4 | g4
    · omega
    · rw [ok_mono hv hl (by omega) (by omega : g + 1 ≤ h) h3] at g4; cases g4
  · exact hc
  · rcases h4 with h4 | h4
    · omega
    · rw [ok_mono hv hl (by omega) (by omega : h + 1 ≤ g) g3] at h4; cases h4
def growN (l : List Int) : Nat → Nat → Nat
  | 0, n => n
  | k + 1, n => if okL (l.take (n + 1)) = true then growN l k (n + 1) else n
/-- How many of the first values a quotient fits. -/
def lenP (l : List Int) : Nat := growN l (l.length - 1) 1
theorem grow_long {l : List Int} : ∀ (k n : Nat), n + k = l.length → 1 ≤ n → okL (l.take n) = true → isLong l (growN l k n) ∧ n ≤ growN l k n
  | 0, n, h, h1, ho => ⟨⟨h1, by show n ≤ _; omega, ho, .inl (by show n = _; omega)⟩, Nat.le_refl _⟩
  | k + 1, n, h, h1, ho => by
    unfold growN
    cases hc : okL (l.take (n + 1)) with
    | true =>
      rw [if_pos rfl]
      have := grow_long (l := l) k (n + 1) (by omega) (by omega) hc
      exact ⟨this.1, by omega⟩
    | false =>
      rw [if_neg (by simp)]
      exact ⟨⟨h1, by omega, ho, .inr hc⟩, Nat.le_refl _⟩
theorem lenP_long {l : List Int} (hv : ValsOk l) (h1 : 1 ≤ l.length) : isLong l (lenP l) := by
  unfold lenP
  exact (grow_long (l.length - 1) 1 (by omega) (by omega) (ok_one (vals_take 1 hv) (by rw [List.length_take]; omega))).1
/-- The parts of values. -/
def splitP : Nat → Int → List Int → List S57
  | 0, _, _ => []
  | k + 1, a, l => if l = [] then [] else ⟨a, a + (lenP l : Int), (fitP (l.take (lenP l))).1⟩ :: splitP k (a + (lenP l : Int)) (l.drop (lenP l))
theorem splitP_fuel : ∀ (k k' : Nat) (a : Int) (l : List Int), ValsOk l → l.length ≤ k → l.length ≤ k' → splitP k a l = splitP k' a l
  | 0, 0, a, l, hv, h, h' => rfl
  | 0, k' + 1, a, l, hv, h, h' => by
    obtain rfl := List.length_eq_zero_iff.1 (by omega : l.length = 0)
    simp [splitP]
  | k + 1, 0, a, l, hv, h, h' => by
    obtain rfl := List.length_eq_zero_iff.1 (by omega : l.length = 0)
    simp [splitP]
  | k + 1, k' + 1, a, l, hv, h, h' => by
    unfold splitP
    by_cases h0 : l = []
    · rw [if_pos h0, if_pos h0]
    · have h1 : 1 ≤ l.length := by cases l with | nil => exact absurd rfl h0 | cons x l => simp
      have hg := (lenP_long hv h1).1
      rw [if_neg h0, if_neg h0, splitP_fuel k k' _ _ (vals_drop _ hv) (by rw [List.length_drop]; omega) (by rw [List.length_drop]; omega)]
theorem seg {l : List Int} {s e : Nat} : (l.take e).drop s = (l.drop s).take (e - s) := List.drop_take
theorem grow_ev {l : List Int} {a : Int} {s : Nat} (hv : ValsOk l) (hl : l.length ≤ 4000) (hs : s < l.length) (ha : 0 ≤ a ∧ a ≤ 4001) {acc : List S57} (hacc : acc.length < 4001) {R : List S57} :
    ∀ (k n : Nat), s + n + k = l.length → 1 ≤ n →
      Ev (fun j => formeref02_split.l0 j a l (acc ++ [⟨a + s, a + s + (growN (l.drop s) k n : Int), (fitP ((l.drop s).take (growN (l.drop s) k n))).1⟩]) ((s + growN (l.drop s) k n : Nat) : Int)) R →
      Ev (fun j => formeref02_split.l1 j a l acc (s : Int) ((s + n : Nat) : Int) (fitP ((l.drop s).take n)).1.f0 (fitP ((l.drop s).take n)).1.f1 (fitP ((l.drop s).take n)).1.f2) R
  | 0, n, h, h1, hR => by
    refine Ev.step (fun j => ?_) hR
    simp only [formeref02_split.l1, growN]
    rw [if_neg (by omega), if_pos (by omega), wrap64_id (x := a + (s : Int)) (by omega) (by omega), wrap64_id (x := a + ((s + n : Nat) : Int)) (by omega) (by omega), show a + ((s + n : Nat) : Int) = a + (s : Int) + (n : Int) by omega]
  | k + 1, n, h, h1, hR => by
    have hlen : ((l.drop s).take (n + 1)).length = n + 1 := by rw [List.length_take, List.length_drop]; omega
    have hfit := fit_ev (l := (l.drop s).take (n + 1)) (vals_take _ (vals_drop _ hv)) (by omega) (by omega)
    refine Ev.step (f := fun j => (formeref01_Fit.f j ((l.drop s).take (n + 1))).bind fun bt268 => (if bt268.2.2.2.1 = true then (formeref02_split.l1 j a l acc (s : Int) ((s + (n + 1) : Nat) : Int) bt268.1 bt268.2.1 bt268.2.2.1) else formeref02_split.l0 j a l (acc ++ [⟨a + s, a + s + (n : Int), (fitP ((l.drop s).take n)).1⟩]) ((s + n : Nat) : Int))) (fun j => ?_) ?_
    · simp only [formeref02_split.l1]
      rw [if_pos (by omega), if_pos (by omega), wrap_next (by omega), if_pos (by omega), if_pos (by omega), if_pos (show acc.length < 3518437208883 by omega)]
      rw [show ((s + n + 1 : Nat) : Int).toNat = s + n + 1 by omega, show ((s : Nat) : Int).toNat = s by omega, seg, show s + n + 1 - s = n + 1 by omega, wrap64_id (x := a + (s : Int)) (by omega) (by omega), wrap64_id (x := a + ((s + n : Nat) : Int)) (by omega) (by omega), show a + ((s + n : Nat) : Int) = a + (s : Int) + (n : Int) by omega, show s + (n + 1) = s + n + 1 by omega]
    · refine Ev.bind hfit ?_
      unfold growN at hR
      cases hc : okL ((l.drop s).take (n + 1)) with
      | true =>
        rw [hc] at hR
        simp only [if_true] at hR
        have hc' : (fitP ((l.drop s).take (n + 1))).2.1 = true := hc
        simp only [hc', if_true]
        exact grow_ev hv hl hs ha hacc k (n + 1) (by omega) (by omega) hR
      | false =>
        rw [hc] at hR
        simp only [if_neg (show ¬ (false = true) by simp)] at hR
        have hc' : (fitP ((l.drop s).take (n + 1))).2.1 = false := hc
        simp only [hc', if_neg (show ¬ (false = true) by simp)]
        exact hR
theorem splitR_loop {l : List Int} {a : Int} (hv : ValsOk l) (hl : l.length ≤ 4000) (ha : 0 ≤ a ∧ a ≤ 4001) :
    ∀ (m s : Nat) (acc : List S57), s + m = l.length → acc.length ≤ s → Ev (fun j => formeref02_split.l0 j a l acc (s : Int)) (acc ++ splitP m (a + s) (l.drop s)) := by
  intro m
  induction m using Nat.strongRecOn with
  | _ m ih =>
    intro s acc hm hacc
    by_cases h0 : m = 0
    · subst h0
      refine Ev.zero fun j => ?_
      simp only [formeref02_split.l0]
      rw [if_neg (by omega)]
      simp [splitP]
    · obtain ⟨m, rfl⟩ : ∃ k, m = k + 1 := ⟨m - 1, by omega⟩
      have hlen : (l.drop s).length = m + 1 := by rw [List.length_drop]; omega
      have hlong := lenP_long (vals_drop s hv) (by omega)
      have hg : growN (l.drop s) m 1 = lenP (l.drop s) := by unfold lenP; rw [hlen]; rfl
      obtain ⟨g1, g2, g3, g4⟩ := hlong
      unfold splitP
      rw [if_neg (by intro h; rw [h] at hlen; simp at hlen)]
      have hrest := ih (m + 1 - lenP (l.drop s)) (by omega) (s + lenP (l.drop s)) (acc ++ [⟨a + s, a + s + (lenP (l.drop s) : Int), (fitP ((l.drop s).take (lenP (l.drop s)))).1⟩]) (by omega) (by simp; omega)
      have hstep : splitP (m + 1 - lenP (l.drop s)) (a + ((s + lenP (l.drop s) : Nat) : Int)) (l.drop (s + lenP (l.drop s))) = splitP m (a + s + (lenP (l.drop s) : Int)) ((l.drop s).drop (lenP (l.drop s))) := by
        rw [← List.drop_drop, show a + ((s + lenP (l.drop s) : Nat) : Int) = a + s + (lenP (l.drop s) : Int) by omega]
        exact splitP_fuel _ _ _ _ (vals_drop _ (vals_drop _ hv)) (by rw [List.length_drop]; omega) (by rw [List.length_drop]; omega)
      rw [hstep, List.append_assoc, List.singleton_append] at hrest
      have hfit := fit_ev (l := (l.drop s).take 1) (vals_take _ (vals_drop _ hv)) (by rw [List.length_take]; omega) (by rw [List.length_take]; omega)
      refine Ev.step (f := fun j => (formeref01_Fit.f j ((l.drop s).take 1)).bind fun bt261 => formeref02_split.l1 j a l acc (s : Int) ((s + 1 : Nat) : Int) bt261.1 bt261.2.1 bt261.2.2.1) (fun j => ?_) ?_
      · simp only [formeref02_split.l0]
        rw [if_pos (by omega), if_pos (by omega), wrap_next (by omega), if_pos (by omega), if_pos (by omega)]
        rw [show ((s + 1 : Nat) : Int).toNat = s + 1 by omega, show ((s : Nat) : Int).toNat = s by omega, seg, show s + 1 - s = 1 by omega]
      · refine Ev.bind hfit ?_
        exact grow_ev hv hl (by omega) ha (by omega) m 1 (by omega) (by omega) (by rw [hg]; exact hrest)
theorem longest_loop {l : List Int} (hv : ValsOk l) (hl : l.length ≤ 4000) : ∀ (m good bad step : Nat), bad - good = m → 1 ≤ good → good < bad → bad ≤ l.length + 1 → okL (l.take good) = true → (bad = l.length + 1 ∨ okL (l.take bad) = false) → (good + 1 < bad → 1 ≤ step ∧ step ≤ 8000) →
    ∀ st : Int, (good + 1 < bad → st = step) → Ev (fun k => curve_longest.l0 k l (good : Int) (bad : Int) st (fitP (l.take good)).1.f0 (fitP (l.take good)).1.f1 (fitP (l.take good)).1.f2) (((lenP l : Nat) : Int), (fitP (l.take (lenP l))).1.f0, (fitP (l.take (lenP l))).1.f1, (fitP (l.take (lenP l))).1.f2) := by
  intro m
  induction m using Nat.strongRecOn with
  | _ m ih =>
    intro good bad step hm hg hgb hbl hok hbad hstep st hst
    by_cases hc : good + 1 < bad
    · have e1 : wrap64 ((good : Int) + 1) = (good : Int) + 1 := wrap64_id (by omega) (by omega)
      obtain ⟨hs1, hs2⟩ := hstep hc
      obtain rfl := hst hc
      have e2 : mn (wrap64 ((good : Int) + (step : Int))) (wrap64 ((bad : Int) - 1)) = ((min (good + step) (bad - 1) : Nat) : Int) := by
        rw [wrap64_id (by omega) (by omega), wrap64_id (by omega) (by omega), mn_eq]
        omega
      generalize hn : min (good + step) (bad - 1) = n at e2
      refine Ev.step (f := fun k => (quot_Fit.f (l.take n)).bind fun bt163 => (if bt163.2.2.2.1 = true then (curve_longest.l0 k l (n : Int) (bad : Int) (wrap64 (2 * (step : Int))) bt163.1 bt163.2.1 bt163.2.2.1) else (curve_longest.l0 k l (good : Int) (n : Int) (mx 1 (wrap64 (Int.tdiv (wrap64 ((n : Int) - (good : Int))) 2))) (fitP (l.take good)).1.f0 (fitP (l.take good)).1.f1 (fitP (l.take good)).1.f2))) (fun k => ?_) ?_
      · simp only [curve_longest.l0, e1, e2]
        rw [if_pos (by omega), if_pos (by omega), if_pos (by omega), show ((n : Nat) : Int).toNat = n by omega]
      · unfold quot_Fit.f
        simp only [Option.bind_some]
        cases ho : okL (l.take n) with
        | true =>
          have ho' : (fitP (l.take n)).2.1 = true := ho
          simp only [ho', if_true]
          refine ih (bad - n) (by omega) n bad (2 * step) rfl (by omega) (by omega) hbl ho hbad (fun h => by omega) _ (fun h => ?_)
          rw [wrap64_id (by omega) (by omega)]
          omega
        | false =>
          have ho' : (fitP (l.take n)).2.1 = false := ho
          simp only [ho', if_neg (show ¬ (false = true) by simp)]
          have e3 : Int.tdiv (wrap64 ((n : Int) - (good : Int))) 2 = (((n - good) / 2 : Nat) : Int) := by
            rw [wrap64_id (by omega) (by omega), Int.tdiv_eq_ediv_of_nonneg (by omega)]
            omega
          refine ih (n - good) (by omega) good n (max 1 ((n - good) / 2)) rfl hg (by omega) (by omega) hok (.inr ho) (fun h => by omega) _ (fun h => ?_)
          rw [e3, wrap64_id (by omega) (by omega), mx_eq]
          omega
    · have hbe : bad = good + 1 := by omega
      subst hbe
      have hgl : lenP l = good := by
        refine long_one hv hl (lenP_long hv (by omega)) ⟨hg, by omega, hok, ?_⟩
        rcases hbad with h | h
        · left; omega
        · exact .inr h
      rw [hgl]
      refine Ev.zero fun k => ?_
      simp only [curve_longest.l0]
      rw [wrap64_id (x := (good : Int) + 1) (by omega) (by omega), if_neg (by omega)]
theorem longest_ev {l : List Int} (hv : ValsOk l) (hl : l.length ≤ 4000) (h1 : 1 ≤ l.length) : Ev (fun k => curve_longest.f k l) (((lenP l : Nat) : Int), (fitP (l.take (lenP l))).1.f0, (fitP (l.take (lenP l))).1.f1, (fitP (l.take (lenP l))).1.f2) := by
  unfold curve_longest.f
  simp only [if_pos (show 1 ≤ (l.length : Int) by omega), quot_Fit.f, Option.bind_some]
  have h := longest_loop hv hl (l.length + 1 - 1) 1 (l.length + 1) 2 rfl (by omega) (by omega) (by omega) (ok_one (vals_take 1 hv) (by rw [List.length_take]; omega)) (.inl rfl) (fun _ => ⟨by omega, by omega⟩) 2 (fun _ => rfl)
  rw [wrap64_id (x := (l.length : Int) + 1) (by omega) (by omega)]
  exact h
theorem split_loop : ∀ (m : Nat) (l : List Int) (a : Int) (acc : List S57), l.length = m → ValsOk l → l.length ≤ 4000 → 0 ≤ a → a + l.length ≤ 8001 → acc.length + m ≤ 4000 → Ev (fun j => curve_split.l0 j a l acc) (acc ++ splitP m a l) := by
  intro m
  induction m using Nat.strongRecOn with
  | _ m ih =>
    intro l a acc hm hv hl h0 h1 hacc
    by_cases hz : m = 0
    · subst hz
      refine Ev.zero fun j => ?_
      simp only [curve_split.l0]
      rw [if_neg (by omega)]
      simp [splitP]
    · obtain ⟨m, rfl⟩ : ∃ k, m = k + 1 := ⟨m - 1, by omega⟩
      obtain ⟨g1, g2, g3, g4⟩ := lenP_long hv (by omega)
      unfold splitP
      rw [if_neg (by intro h; rw [h] at hm; simp at hm)]
      have hrest := ih (m + 1 - lenP l) (by omega) (l.drop (lenP l)) (a + (lenP l : Int)) (acc ++ [⟨a, a + (lenP l : Int), (fitP (l.take (lenP l))).1⟩]) (by rw [List.length_drop]; omega) (vals_drop _ hv) (by rw [List.length_drop]; omega) (by omega) (by rw [List.length_drop]; omega) (by simp; omega)
      rw [splitP_fuel (m + 1 - lenP l) m _ _ (vals_drop _ hv) (by rw [List.length_drop]; omega) (by rw [List.length_drop]; omega), List.append_assoc, List.singleton_append] at hrest
      refine Ev.step (f := fun k => (curve_longest.f k l).bind fun bt169 => (if 0 ≤ bt169.1 then (if bt169.1 ≤ (l.length : Int) then (curve_split.l0 k (wrap64 (a + bt169.1)) (l.drop (bt169.1 : Int).toNat) (acc ++ [(⟨a, wrap64 (a + bt169.1), (⟨bt169.2.1, bt169.2.2.1, bt169.2.2.2⟩ : S55)⟩ : S57)])) else (none)) else (none))) (fun k => ?_) ?_
      · simp only [curve_split.l0]
        rw [if_pos (by omega)]
        simp only [if_pos (show acc.length < 3518437208883 by omega)]
      · refine Ev.bind (longest_ev hv hl (by omega)) ?_
        simp only [if_pos (show (0 : Int) ≤ ((lenP l : Nat) : Int) by omega), if_pos (show ((lenP l : Nat) : Int) ≤ (l.length : Int) by omega), wrap64_id (x := a + ((lenP l : Nat) : Int)) (by omega) (by omega), show ((lenP l : Nat) : Int).toNat = lenP l by omega]
        exact hrest
def makeP (a : Int) (l : List Int) : List S57 × Int :=
  if l.length > 4000 then ([], 2) else if badM a l = true then ([], 1) else (splitP l.length a l, 0)
theorem badM_vals {a : Int} {l : List Int} (h : ¬ badM a l = true) : 1 ≤ l.length ∧ 0 ≤ a ∧ a + l.length ≤ 4001 ∧ ValsOk l := by
  unfold badM at h
  simp at h
  obtain ⟨⟨⟨h1, h2⟩, h3⟩, h4⟩ := h
  exact ⟨by cases l with | nil => exact absurd rfl h1 | cons x l => simp, h2, by omega, h4⟩
theorem pmake_ev (a : Int) (l : List Int) : Ev (fun k => curve_Make.f k a l) (makeP a l) := by
  unfold curve_Make.f makeP
  by_cases h1 : l.length > 4000
  · simp only [if_pos h1]; exact Ev.now _
  simp only [if_neg h1]
  by_cases h2 : badM a l = true
  · simp only [if_pos h2]; exact Ev.now _
  simp only [if_neg h2]
  obtain ⟨b1, b2, b3, b4⟩ := badM_vals h2
  have := split_loop l.length l a [] rfl b4 (by omega) b2 (by omega) (by simp; omega)
  exact Ev.bind this (Ev.now _)
theorem rmake_loop {a : Int} {l : List Int} (hl : l.length ≤ 4000) (h1 : 1 ≤ l.length) (ha : 0 ≤ a ∧ a + l.length ≤ 4001) : ∀ (n i : Nat), i + n = l.length → (l.take i).all coordB = true →
    Ev (fun k => formeref02_Make.l0 k a l (i : Int)) (if (l.drop i).all coordB = true then (splitP l.length a l, 0) else ([], 1))
  | 0, i, h, hp => by
    have hv : ValsOk l := by
      rw [List.take_of_length_le (by omega)] at hp
      exact List.all_eq_true.1 hp
    rw [drop_all (by omega)]
    refine Ev.step (f := fun k => (formeref02_split.f k a l).bind fun t282 => (some (t282, 0))) (fun k => ?_) ?_
    · simp only [formeref02_Make.l0]
      rw [if_neg (by omega)]
    · have := splitR_loop (a := a) hv hl (by omega) l.length 0 [] (by omega) (by simp)
      rw [List.drop_zero, show a + ((0 : Nat) : Int) = a by omega] at this
      exact Ev.bind this (Ev.now _)
  | n + 1, i, h, hp => by
    have hlt : i < l.length := by omega
    have e0 : rd l (i : Int) = l[i] := rd_get hlt
    rw [drop_get hlt, List.all_cons]
    refine Ev.step (f := fun k => if coordB l[i] = true then formeref02_Make.l0 k a l ((i + 1 : Nat) : Int) else some ([], 1)) (fun k => ?_) ?_
    · simp only [formeref02_Make.l0]
      rw [if_pos (by omega), if_pos (by omega), coord_ref, Option.bind_some, e0, wrap_next (by omega)]
    · cases hc : coordB l[i] with
      | true =>
        have := rmake_loop hl h1 ha n (i + 1) (by omega) (by rw [List.take_succ_eq_append_getElem hlt, List.all_append, hp]; simp [hc])
        simpa using this
      | false => simpa using Ev.now _
theorem rmake_ev (a : Int) (l : List Int) : Ev (fun k => formeref02_Make.f k a l) (makeP a l) := by
  unfold formeref02_Make.f makeP
  by_cases h1 : l.length > 4000
  · simp only [if_pos h1, if_pos (show (l.length : Int) > 4000 by omega)]; exact Ev.now _
  simp only [if_neg h1, if_neg (show ¬ (l.length : Int) > 4000 by omega)]
  have hE : badM a l = true ↔ l.length = 0 ∨ a < 0 ∨ a + l.length > 4001 ∨ ¬ l.all coordB = true := by
    unfold badM
    simp
    constructor
    · rintro (((h | h) | h) | h)
      · exact .inl h
      · exact .inr (.inl h)
      · exact .inr (.inr (.inl (by omega)))
      · exact .inr (.inr (.inr h))
    · rintro (h | h | h | h)
      · exact .inl (.inl (.inl h))
      · exact .inl (.inl (.inr h))
      · exact .inl (.inr (by omega))
      · exact .inr h
  have hstop : Ev (fun k => formeref02_Make.j0 k a l true) ([], 1) := Ev.zero (fun k => by simp [formeref02_Make.j0])
  by_cases c1 : (l.length : Int) = 0
  · simp only [if_pos c1]
    rw [if_pos (hE.2 (.inl (by omega)))]
    exact hstop
  simp only [if_neg c1]
  by_cases c2 : a < 0
  · simp only [if_pos c2]
    rw [if_pos (hE.2 (.inr (.inl c2)))]
    exact hstop
  simp only [if_neg c2]
  by_cases c3 : a > 4001
  · simp only [if_pos c3]
    rw [if_pos (hE.2 (.inr (.inr (.inl (by omega)))))]
    exact hstop
  simp only [if_neg c3]
  rw [wrap64_id (x := a + (l.length : Int)) (by omega) (by omega)]
  by_cases c4 : a + (l.length : Int) > 4001
  · rw [if_pos (hE.2 (.inr (.inr (.inl c4)))), decide_eq_true c4]
    exact hstop
  rw [decide_eq_false c4]
  have hlp := rmake_loop (a := a) (l := l) (by omega) (by omega) (by omega) l.length 0 (by omega) rfl
  rw [List.drop_zero] at hlp
  have hr : (if badM a l = true then (([] : List S57), (1 : Int)) else (splitP l.length a l, 0)) = if l.all coordB = true then (splitP l.length a l, 0) else ([], 1) := by
    by_cases c5 : l.all coordB = true
    · rw [if_pos c5, if_neg]
      intro h
      rcases hE.1 h with h | h | h | h
      · omega
      · omega
      · omega
      · exact h c5
    · rw [if_neg c5, if_pos (hE.2 (.inr (.inr (.inr c5))))]
  rw [hr]
  exact Ev.step (fun k => by simp [formeref02_Make.j0]) hlp
end Go.Proofs.Ytdigjjncoeaiiaa.Plain
