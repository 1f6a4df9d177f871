/- Printed by a program of this session (wip/gprint.py) over the translation, cut to what is named (wip/dcut.py). Not trusted: Lean checks it. -/
import Derived.Test.YtacohlafmbhcdaaGreatZPlain
namespace Go.Proofs.YtacohlafmbhcdaaGreat.Plain
open Go.RowKit Go.Proofs.YtacohlafmbhcdaaGreat.PAll Go.Proofs.YtacohlafmbhcdaaGreatW.PrintWords Go.Proofs.YtacohlafmbhcdaaGreatW.PrintLast Go.Proofs.YtacohlafmbhcdaaGreatW.PrintMore Go.Proofs.YtacohlafmbhcdaaGreatGlib
def Bd (l : List S40) : Prop := ∀ r ∈ l, (-1000000 ≤ r.f0 ∧ r.f0 ≤ 1000000) ∧ (-1000000 ≤ r.f1 ∧ r.f1 ≤ 1000000)
theorem mn_eq (a b : Int) : mn a b = min a b := by unfold mn; omega
theorem mx_eq (a b : Int) : mx a b = max a b := by unfold mx; omega
theorem put1_ev {l : List S40} (hb : Bd l) (hl : l.length ≤ 1000000) : ∀ (d i : Nat) (acc : List S40) (x : S40), i + d = l.length → acc.length ≤ 1000000 → (-1000000 ≤ x.f0 ∧ x.f0 ≤ 1000000) → (-1000000 ≤ x.f1 ∧ x.f1 ≤ 1000000) →
  Ev (fun k => formeref03_put.l1 k l acc (i : Int) x.f0 x.f1) (acc ++ putJ (l.drop i) x)
 | 0, i, acc, x, hi, ha, h0, h1 => by
  refine Ev.step (f := fun _ => some (acc ++ putJ (l.drop i) x)) (fun k => ?_) (Ev.now _)
  simp only [formeref03_put.l1]
  rw [if_neg (by omega), if_pos (by omega), Option.bind_some, if_pos (by omega), if_pos (by omega), Option.bind_some, show ((i : Int)).toNat = i by omega, List.drop_eq_nil_of_le (by omega), if_pos (by simp; omega)]
  simp [putJ]
 | d + 1, i, acc, x, hi, ha, h0, h1 => by
  have h : i < l.length := by omega
  have hr := hb l[i] (List.getElem_mem h)
  rw [List.drop_eq_getElem_cons h]
  by_cases hj : l[i].f0 ≤ x.f1 + 1
  · refine Ev.step (f := fun k => formeref03_put.l1 k l acc ((i + 1 : Nat) : Int) (min x.f0 l[i].f0) (max x.f1 l[i].f1)) (fun k => ?_) ?_
    · simp only [formeref03_put.l1]
      rw [if_pos (by omega), if_pos (by omega), rd33_at h, wrap_id (x := x.f1 + 1) (by omega) (by omega), if_pos hj, wrap_id (x := (i : Int) + 1) (by omega) (by omega), mn_eq, mx_eq]
      rfl
    · have := put1_ev hb hl d (i + 1) acc ⟨min x.f0 l[i].f0, max x.f1 l[i].f1⟩ (by omega) ha (by simp only; omega) (by simp only; omega)
      rw [show putJ (l[i] :: l.drop (i + 1)) x = putJ (l.drop (i + 1)) ⟨min x.f0 l[i].f0, max x.f1 l[i].f1⟩ by simp only [putJ]; rw [if_pos hj]]
      exact this
  · refine Ev.step (f := fun _ => some (acc ++ putJ (l[i] :: l.drop (i + 1)) x)) (fun k => ?_) (Ev.now _)
    simp only [formeref03_put.l1]
    rw [if_pos (by omega), if_pos (by omega), rd33_at h, wrap_id (x := x.f1 + 1) (by omega) (by omega), if_neg hj, if_pos (by omega), Option.bind_some, if_pos (by omega), Option.bind_some, show ((i : Int)).toNat = i by omega,
     if_pos (by rw [List.length_append, List.length_drop]; simp; omega), show putJ (l[i] :: l.drop (i + 1)) x = x :: l[i] :: l.drop (i + 1) by simp only [putJ]; rw [if_neg hj], List.drop_eq_getElem_cons h]
    simp
theorem put0_ev {l : List S40} (hb : Bd l) (hl : l.length ≤ 1000000) (x : S40) (h0 : -1000000 ≤ x.f0 ∧ x.f0 ≤ 1000000) (h1 : -1000000 ≤ x.f1 ∧ x.f1 ≤ 1000000) : ∀ (d i : Nat) (acc : List S40), i + d = l.length → acc.length ≤ i →
  Ev (fun k => formeref03_put.l0 k l acc (i : Int) x.f0 x.f1) (acc ++ putP (l.drop i) x)
 | 0, i, acc, hi, ha => by
  refine Ev.step (f := fun k => formeref03_put.j1 k l acc (i : Int) x.f0 x.f1) (fun k => ?_) (Ev.step (f := fun k => formeref03_put.l1 k l acc (i : Int) x.f0 x.f1) (fun k => ?_) ?_)
  · simp only [formeref03_put.l0]
    rw [if_neg (by omega)]
  · simp only [formeref03_put.j1]
  · have := put1_ev hb hl 0 i acc x (by omega) (by omega) h0 h1
    rw [List.drop_eq_nil_of_le (by omega)] at *
    exact this
 | d + 1, i, acc, hi, ha => by
  have h : i < l.length := by omega
  have hr := hb l[i] (List.getElem_mem h)
  by_cases hj : l[i].f1 + 1 < x.f0
  · rw [List.drop_eq_getElem_cons h, show putP (l[i] :: l.drop (i + 1)) x = l[i] :: putP (l.drop (i + 1)) x by simp only [putP]; rw [if_pos hj]]
    refine Ev.step (f := fun k => formeref03_put.l0 k l (acc ++ [l[i]]) ((i + 1 : Nat) : Int) x.f0 x.f1) (fun k => ?_) ?_
    · simp only [formeref03_put.l0]
      rw [if_pos (by omega), if_pos (by omega), rd33_at h, wrap_id (x := l[i].f1 + 1) (by omega) (by omega), if_pos hj, if_pos (by omega), wrap_id (x := (i : Int) + 1) (by omega) (by omega)]
      rfl
    · have := put0_ev hb hl x h0 h1 d (i + 1) (acc ++ [l[i]]) (by omega) (by simp; omega)
      rwa [List.append_assoc] at this
  · refine Ev.step (f := fun k => formeref03_put.j1 k l acc (i : Int) x.f0 x.f1) (fun k => ?_) (Ev.step (f := fun k => formeref03_put.l1 k l acc (i : Int) x.f0 x.f1) (fun k => ?_) ?_)
    · simp only [formeref03_put.l0]
      rw [if_pos (by omega), if_pos (by omega), rd33_at h, wrap_id (x := l[i].f1 + 1) (by omega) (by omega), if_neg hj]
    · simp only [formeref03_put.j1]
    · have := put1_ev hb hl (d + 1) i acc x (by omega) (by omega) h0 h1
      rw [List.drop_eq_getElem_cons h] at *
      rw [show putP (l[i] :: l.drop (i + 1)) x = putJ (l[i] :: l.drop (i + 1)) x by simp only [putP]; rw [if_neg hj]]
      exact this
theorem put_ev {l : List S40} (hb : Bd l) (hl : l.length ≤ 1000000) (x : S40) (h0 : -1000000 ≤ x.f0 ∧ x.f0 ≤ 1000000) (h1 : -1000000 ≤ x.f1 ∧ x.f1 ≤ 1000000) : Ev (fun k => formeref03_put.f k l x.f0 x.f1) (putP l x) :=
 put0_ev hb hl x h0 h1 l.length 0 [] (by omega) (by simp)
theorem bd_can {x : List S40} (h : ∀ r ∈ x, okR 200 4000 r) : Bd x := fun r hr => by
 have := h r hr
 unfold okR at this
 omega
theorem bd_putJ : ∀ (l : List S40) (x : S40), Bd l → (-1000000 ≤ x.f0 ∧ x.f0 ≤ 1000000) → (-1000000 ≤ x.f1 ∧ x.f1 ≤ 1000000) → Bd (putJ l x)
 | [], x, _, h0, h1, r, hr => by
  simp only [putJ, List.mem_singleton] at hr
  subst hr
  exact ⟨h0, h1⟩
 | y :: l, x, hb, h0, h1, r, hr => by
  have hy := hb y List.mem_cons_self
  simp only [putJ] at hr
  split at hr
  · exact bd_putJ l _ (fun z hz => hb z (List.mem_cons_of_mem _ hz)) (by simp only; omega) (by simp only; omega) r hr
  · rcases List.mem_cons.1 hr with rfl | hr
    · exact ⟨h0, h1⟩
    · exact hb r hr
theorem bd_putP : ∀ (l : List S40) (x : S40), Bd l → (-1000000 ≤ x.f0 ∧ x.f0 ≤ 1000000) → (-1000000 ≤ x.f1 ∧ x.f1 ≤ 1000000) → Bd (putP l x)
 | [], x, _, h0, h1, r, hr => by
  simp only [putP, List.mem_singleton] at hr
  subst hr
  exact ⟨h0, h1⟩
 | y :: l, x, hb, h0, h1, r, hr => by
  simp only [putP] at hr
  split at hr
  · rcases List.mem_cons.1 hr with rfl | hr
    · exact hb _ List.mem_cons_self
    · exact bd_putP l x (fun z hz => hb z (List.mem_cons_of_mem _ hz)) h0 h1 r hr
  · exact bd_putJ (y :: l) x hb h0 h1 r hr
theorem widths_loop {l : List S42} (ho : OkL l) (hl : l.length ≤ 1000) (lang s : Int) : ∀ (d i : Nat) (acc : List S40), i + d = l.length → acc.length ≤ i → Bd acc →
  Ev (fun k => formeref03_widths.l0 k l lang s acc (i : Int)) (layAll acc (widthsOf (l.drop i) lang s))
 | 0, i, acc, hi, ha, hb => by
  refine Ev.step (f := fun _ => some acc) (fun k => ?_) ?_
  · simp only [formeref03_widths.l0]
    rw [if_neg (by omega)]
  · rw [List.drop_eq_nil_of_le (by omega)]
    exact Ev.now _
 | d + 1, i, acc, hi, ha, hb => by
  have h : i < l.length := by omega
  have hz := ho l[i] (List.getElem_mem h)
  unfold okZ okR at hz
  rw [List.drop_eq_getElem_cons h, widthsOf_cons]
  by_cases hat : l[i].f0 = lang ∧ l[i].f1.f0 ≤ s ∧ s ≤ l[i].f1.f1
  · have e : atZ lang s l[i] = true := by
     unfold atZ
     simp only [Bool.and_eq_true, decide_eq_true_eq]
     exact hat
    rw [if_pos e]
    obtain ⟨K, hK⟩ := put_ev hb (by omega) l[i].f2 (by omega) (by omega)
    obtain ⟨K', hK'⟩ := widths_loop ho hl lang s d (i + 1) (putP acc l[i].f2) (by omega) (by have := putP_len acc l[i].f2; omega) (bd_putP acc _ hb (by omega) (by omega))
    refine ⟨K + K' + 1, fun k hk => ?_⟩
    obtain ⟨k, rfl⟩ : ∃ m, k = m + 1 := ⟨k - 1, by omega⟩
    replace hK : formeref03_put.f k acc l[i].f2.f0 l[i].f2.f1 = some (putP acc l[i].f2) := hK k (by omega)
    show formeref03_widths.l0 (k + 1) l lang s acc (i : Int) = _
    simp only [formeref03_widths.l0]
    rw [if_pos (by omega), if_pos (by omega), rd35_at h, if_pos hat.1, if_pos hat.2.1, if_pos hat.2.2, hK, Option.bind_some, wrap_id (x := (i : Int) + 1) (by omega) (by omega)]
    exact hK' k (by omega)
  · have e : ¬ atZ lang s l[i] = true := by
     unfold atZ
     simp only [Bool.and_eq_true, decide_eq_true_eq]
     exact hat
    rw [if_neg e]
    refine Ev.step (f := fun k => formeref03_widths.l0 k l lang s acc ((i + 1 : Nat) : Int)) (fun k => ?_) (widths_loop ho hl lang s d (i + 1) acc (by omega) (by omega) hb)
    simp only [formeref03_widths.l0]
    rw [if_pos (by omega), if_pos (by omega), rd35_at h, wrap_id (x := (i : Int) + 1) (by omega) (by omega)]
    repeat' split
    all_goals first | rfl | (exfalso; omega)
theorem rwidths_ev {l : List S42} (ho : OkL l) (hl : l.length ≤ 1000) (lang s : Int) : Ev (fun k => formeref03_widths.f k l lang s) (canW l lang s) :=
 widths_loop ho hl lang s l.length 0 [] (by omega) (by simp) (fun r hr => by cases hr)
theorem less_in {a b : List S40} (hb : Bd b) (hb' : b.length ≤ 100000) (i : Nat) (h : i < a.length) (ha : Bd a) (ha' : a.length ≤ 1000000) (r : List S40)
  (hn : ∀ acc : List S40, acc.length ≤ 1000000 * (i + 1) → Ev (fun k => formeref03_less.l0 k a b acc ((i + 1 : Nat) : Int)) (acc ++ r)) : ∀ (d j : Nat) (lo : Int) (acc : List S40), j + d = b.length → (-1000001 ≤ lo ∧ lo ≤ 1000001) → acc.length ≤ 1000000 * i + j →
  Ev (fun k => formeref03_less.l1 k a b acc (i : Int) lo (j : Int)) (acc ++ (less1 lo a[i].f1 (b.drop j) ++ r))
 | 0, j, lo, acc, hj, hlo, hacc => by
  have hr := ha a[i] (List.getElem_mem h)
  rw [List.drop_eq_nil_of_le (by omega)]
  simp only [less1]
  by_cases hc : lo ≤ a[i].f1
  · rw [if_pos hc]
    have := hn (acc ++ [⟨lo, a[i].f1⟩]) (by simp; omega)
    rw [List.append_assoc] at this
    refine Ev.step (f := fun k => formeref03_less.l0 k a b (acc ++ [⟨lo, a[i].f1⟩]) ((i + 1 : Nat) : Int)) (fun k => ?_) this
    simp only [formeref03_less.l1]
    rw [if_neg (by omega), if_pos (by omega), if_pos (by omega), rd33_at h, if_pos hc, if_pos (by omega), wrap_id (x := (i : Int) + 1) (by omega) (by omega)]
    rfl
  · rw [if_neg hc, List.nil_append]
    refine Ev.step (f := fun k => formeref03_less.l0 k a b acc ((i + 1 : Nat) : Int)) (fun k => ?_) (hn acc (by omega))
    simp only [formeref03_less.l1]
    rw [if_neg (by omega), if_pos (by omega), if_pos (by omega), rd33_at h, if_neg hc, wrap_id (x := (i : Int) + 1) (by omega) (by omega)]
    rfl
 | d + 1, j, lo, acc, hj, hlo, hacc => by
  have hr := ha a[i] (List.getElem_mem h)
  have hjb : j < b.length := by omega
  have hbr := hb b[j] (List.getElem_mem hjb)
  rw [List.drop_eq_getElem_cons hjb]
  simp only [less1]
  have skip : ∀ k, formeref03_less.j2 (k + 1) a b acc (i : Int) lo (j : Int) true = formeref03_less.l1 k a b acc (i : Int) lo ((j + 1 : Nat) : Int) := fun k => by
   simp only [formeref03_less.j2]
   rw [if_pos trivial, wrap_id (x := (j : Int) + 1) (by omega) (by omega)]
   rfl
  by_cases hs : b[j].f1 < lo ∨ b[j].f0 > a[i].f1
  · rw [if_pos hs]
    refine Ev.step (f := fun k => formeref03_less.j2 k a b acc (i : Int) lo (j : Int) true) (fun k => ?_) (Ev.step (f := fun k => formeref03_less.l1 k a b acc (i : Int) lo ((j + 1 : Nat) : Int)) skip (less_in hb hb' i h ha ha' r hn d (j + 1) lo acc (by omega) hlo (by omega)))
    simp only [formeref03_less.l1]
    rw [if_pos (by omega), if_pos (by omega), rd33_at hjb]
    by_cases h1 : b[j].f1 < lo
    · rw [if_pos h1]
    · rw [if_neg h1, if_pos (by omega), if_pos (by omega), rd33_at h, decide_eq_true (hs.resolve_left h1)]
  · rw [if_neg hs]
    have h1 : ¬ b[j].f1 < lo := fun h1 => hs (.inl h1)
    have h2 : ¬ b[j].f0 > a[i].f1 := fun h2 => hs (.inr h2)
    have first : ∀ k, formeref03_less.l1 (k + 1) a b acc (i : Int) lo (j : Int) = formeref03_less.j2 k a b acc (i : Int) lo (j : Int) false := fun k => by
     simp only [formeref03_less.l1]
     rw [if_pos (by omega), if_pos (by omega), rd33_at hjb, if_neg h1, if_pos (by omega), if_pos (by omega), rd33_at h, decide_eq_false h2]
    by_cases hg : b[j].f0 > lo
    · rw [if_pos hg]
      have := less_in hb hb' i h ha ha' r hn d (j + 1) (b[j].f1 + 1) (acc ++ [⟨lo, b[j].f0 - 1⟩]) (by omega) (by omega) (by simp; omega)
      rw [List.append_assoc] at this
      refine Ev.step (f := fun k => formeref03_less.j2 k a b acc (i : Int) lo (j : Int) false) first (Ev.step (f := fun k => formeref03_less.l1 k a b (acc ++ [⟨lo, b[j].f0 - 1⟩]) (i : Int) (b[j].f1 + 1) ((j + 1 : Nat) : Int)) (fun k => ?_) this)
      simp only [formeref03_less.j2]
      rw [if_neg (by simp), if_pos (by omega), if_pos (by omega), rd33_at hjb, if_pos hg, if_pos (by omega), wrap_id (x := b[j].f0 - 1) (by omega) (by omega), wrap_id (x := b[j].f1 + 1) (by omega) (by omega), wrap_id (x := (j : Int) + 1) (by omega) (by omega)]
      rfl
    · rw [if_neg hg]
      refine Ev.step (f := fun k => formeref03_less.j2 k a b acc (i : Int) lo (j : Int) false) first (Ev.step (f := fun k => formeref03_less.l1 k a b acc (i : Int) (b[j].f1 + 1) ((j + 1 : Nat) : Int)) (fun k => ?_) (less_in hb hb' i h ha ha' r hn d (j + 1) (b[j].f1 + 1) acc (by omega) (by omega) (by omega)))
      simp only [formeref03_less.j2]
      rw [if_neg (by simp), if_pos (by omega), if_pos (by omega), rd33_at hjb, if_neg hg, wrap_id (x := b[j].f1 + 1) (by omega) (by omega), wrap_id (x := (j : Int) + 1) (by omega) (by omega)]
      rfl
theorem less_loop {a b : List S40} (ha : Bd a) (hb : Bd b) (ha' : a.length ≤ 1000000) (hb' : b.length ≤ 100000) : ∀ (d i : Nat) (acc : List S40), i + d = a.length → acc.length ≤ 1000000 * i → Ev (fun k => formeref03_less.l0 k a b acc (i : Int)) (acc ++ lessP (a.drop i) b)
 | 0, i, acc, hi, hacc => by
  refine Ev.step (f := fun _ => some acc) (fun k => ?_) ?_
  · simp only [formeref03_less.l0]
    rw [if_neg (by omega)]
  · rw [List.drop_eq_nil_of_le (by omega)]
    simpa [lessP] using Ev.now acc
 | d + 1, i, acc, hi, hacc => by
  have h : i < a.length := by omega
  have hr := ha a[i] (List.getElem_mem h)
  rw [List.drop_eq_getElem_cons h]
  have := less_in hb hb' i h ha ha' (lessP (a.drop (i + 1)) b) (fun acc hac => less_loop ha hb ha' hb' d (i + 1) acc (by omega) hac) b.length 0 a[i].f0 acc (by omega) (by omega) (by omega)
  refine Ev.step (f := fun k => formeref03_less.l1 k a b acc (i : Int) a[i].f0 ((0 : Nat) : Int)) (fun k => ?_) ?_
  · simp only [formeref03_less.l0]
    rw [if_pos (by omega), if_pos (by omega), rd33_at h]
    rfl
  · unfold lessP at *
    rw [List.flatMap_cons]
    exact this
theorem less_ev {a b : List S40} (ha : Bd a) (hb : Bd b) (ha' : a.length ≤ 1000000) (hb' : b.length ≤ 100000) : Ev (fun k => formeref03_less.f k a b) (lessP a b) := by
 have := less_loop ha hb ha' hb' a.length 0 [] (by omega) (by simp)
 exact this
theorem lay_loop {y : List S40} (hy : Bd y) (hl : y.length ≤ 1000) : ∀ (d j : Nat) (x : List S40), j + d = y.length → Bd x → x.length ≤ 1000 + j → Ev (fun k => formeref03_both.l0 k x y (j : Int)) (layAll x (y.drop j))
 | 0, j, x, hj, hb, hx => by
  refine Ev.step (f := fun _ => some x) (fun k => ?_) ?_
  · simp only [formeref03_both.l0]
    rw [if_neg (by omega)]
  · rw [List.drop_eq_nil_of_le (by omega)]
    exact Ev.now _
 | d + 1, j, x, hj, hb, hx => by
  have h : j < y.length := by omega
  have hr := hy y[j] (List.getElem_mem h)
  rw [List.drop_eq_getElem_cons h]
  obtain ⟨K, hK⟩ := put_ev hb (by omega) y[j] hr.1 hr.2
  obtain ⟨K', hK'⟩ := lay_loop hy hl d (j + 1) (putP x y[j]) (by omega) (bd_putP x _ hb hr.1 hr.2) (by have := putP_len x y[j]; omega)
  refine ⟨K + K' + 1, fun k hk => ?_⟩
  obtain ⟨k, rfl⟩ : ∃ m, k = m + 1 := ⟨k - 1, by omega⟩
  replace hK : formeref03_put.f k x y[j].f0 y[j].f1 = some (putP x y[j]) := hK k (by omega)
  show formeref03_both.l0 (k + 1) x y (j : Int) = _
  simp only [formeref03_both.l0]
  rw [if_pos (by omega), if_pos (by omega), rd33_at h, hK, Option.bind_some, wrap_id (x := (j : Int) + 1) (by omega) (by omega)]
  exact hK' k (by omega)
theorem rboth_ev {a b : List S42} (ha : OkL a) (hb : OkL b) (hla : a.length ≤ 1000) (hlb : b.length ≤ 1000) (lang s what : Int) : Ev (fun k => formeref03_both.f k a b lang s what) (bothP a b what lang s) := by
 obtain ⟨K1, h1⟩ := rwidths_ev ha hla lang s
 obtain ⟨K2, h2⟩ := rwidths_ev hb hlb lang s
 replace h1 : ∀ k, K1 ≤ k → formeref03_widths.f k a lang s = some (canW a lang s) := h1
 replace h2 : ∀ k, K2 ≤ k → formeref03_widths.f k b lang s = some (canW b lang s) := h2
 have bx := bd_can (canW_ok ha lang s)
 have by_ := bd_can (canW_ok hb lang s)
 have lx := canW_le (l := a) lang s
 have ly := canW_le (l := b) lang s
 obtain ⟨K3, h3⟩ := less_ev bx by_ (by omega) (by omega)
 replace h3 : ∀ k, K3 ≤ k → formeref03_less.f k (canW a lang s) (canW b lang s) = some (lessP (canW a lang s) (canW b lang s)) := h3
 have hm := opP_len (x := canW a lang s) (y := canW b lang s) 2 (canW_can ha lang s).1 (canW_can hb lang s).1
 have e2 : opP 2 (canW a lang s) (canW b lang s) = lessP (canW a lang s) (canW b lang s) := by unfold opP; rw [if_pos rfl]
 have ok2 := both_ok ha hb 2 lang s
 unfold bothP at ok2
 rw [e2] at hm ok2
 obtain ⟨K4, h4⟩ := less_ev bx (bd_can ok2) (by omega) (by omega)
 replace h4 : ∀ k, K4 ≤ k → formeref03_less.f k (canW a lang s) (lessP (canW a lang s) (canW b lang s)) = some (lessP (canW a lang s) (lessP (canW a lang s) (canW b lang s))) := h4
 obtain ⟨K5, h5⟩ := lay_loop by_ (by omega) (canW b lang s).length 0 (canW a lang s) (by omega) bx (by omega)
 replace h5 : ∀ k, K5 ≤ k → formeref03_both.l0 k (canW a lang s) (canW b lang s) 0 = some (layAll (canW a lang s) (canW b lang s)) := h5
 refine ⟨K1 + K2 + K3 + K4 + K5, fun k hk => ?_⟩
 show formeref03_both.f k a b lang s what = _
 unfold formeref03_both.f bothP opP
 rw [h1 k (by omega), Option.bind_some, h2 k (by omega), Option.bind_some]
 by_cases w2 : what = 2
 · rw [if_pos w2, if_pos w2, h3 k (by omega), Option.bind_some]
 · rw [if_neg w2, if_neg w2]
   by_cases w1 : what = 1
   · rw [if_pos w1, if_pos w1, h3 k (by omega), Option.bind_some, h4 k (by omega), Option.bind_some]
   · rw [if_neg w1, if_neg w1]
     exact h5 k (by omega)
theorem zones_loop (lang lo hi : Int) {l : List S40} (hl : l.length ≤ 1000000) : ∀ (d j : Nat) (acc : List S42), j + d = l.length → acc.length ≤ j → Ev (fun k => formeref03_zones.l0 k lang lo hi l acc (j : Int)) (acc ++ zonesP lang lo hi (l.drop j))
 | 0, j, acc, hj, ha => by
  refine Ev.step (f := fun _ => some acc) (fun k => ?_) ?_
  · simp only [formeref03_zones.l0]
    rw [if_neg (by omega)]
  · rw [List.drop_eq_nil_of_le (by omega)]
    simpa [zonesP] using Ev.now acc
 | d + 1, j, acc, hj, ha => by
  have h : j < l.length := by omega
  rw [List.drop_eq_getElem_cons h]
  have := zones_loop lang lo hi hl d (j + 1) (acc ++ [⟨lang, ⟨lo, hi⟩, l[j]⟩]) (by omega) (by simp; omega)
  rw [List.append_assoc] at this
  refine Ev.step (f := fun k => formeref03_zones.l0 k lang lo hi l (acc ++ [⟨lang, ⟨lo, hi⟩, l[j]⟩]) ((j + 1 : Nat) : Int)) (fun k => ?_) this
  simp only [formeref03_zones.l0]
  rw [if_pos (by omega), if_pos (by omega), if_pos (by omega), rd33_at h, wrap_id (x := (j : Int) + 1) (by omega) (by omega)]
  rfl
theorem zones_ev (lang lo hi : Int) {l : List S40} (hl : l.length ≤ 1000000) : Ev (fun k => formeref03_zones.f k lang lo hi l) (zonesP lang lo hi l) := zones_loop lang lo hi hl l.length 0 [] (by omega) (by simp)
theorem ranges_loop (a b : List S40) (hab : a.length = b.length) (ha : a.length ≤ 1000000) : ∀ (d i : Nat), i + d = a.length → (∀ j, j < i → a[j]? = b[j]?) → Ev (fun k => formeref03_SameRanges.l0 k a b (i : Int)) (decide (a = b))
 | 0, i, hi, hj => by
  refine Ev.step (f := fun _ => some true) (fun k => ?_) ?_
  · simp only [formeref03_SameRanges.l0]
    rw [if_neg (by omega)]
  · have : a = b := List.ext_getElem? fun j => by
     by_cases h : j < i
     · exact hj j h
     · rw [List.getElem?_eq_none (by omega), List.getElem?_eq_none (by omega)]
    rw [decide_eq_true this]
    exact Ev.now _
 | d + 1, i, hi, hj => by
  have h1 : i < a.length := by omega
  have h2 : i < b.length := by omega
  by_cases he : a[i] = b[i]
  · refine Ev.step (f := fun k => formeref03_SameRanges.l0 k a b ((i + 1 : Nat) : Int)) (fun k => ?_) ?_
    · simp only [formeref03_SameRanges.l0]
      rw [if_pos (by omega), if_pos (by omega), if_pos (by omega), rd33_at h1, rd33_at h2, he, if_neg (by simp), wrap_id (by omega) (by omega)]
      rfl
    · refine ranges_loop a b hab ha d (i + 1) (by omega) fun j hj' => ?_
      by_cases h : j = i
      · subst h
        rw [List.getElem?_eq_getElem h1, List.getElem?_eq_getElem h2, he]
      · exact hj j (by omega)
  · have hne : ¬ a = b := fun e => he (by subst e; rfl)
    refine Ev.step (f := fun _ => some false) (fun k => ?_) ?_
    · simp only [formeref03_SameRanges.l0]
      rw [if_pos (by omega), if_pos (by omega), if_pos (by omega), rd33_at h1, rd33_at h2, if_pos]
      by_cases h0 : a[i].f0 = b[i].f0
      · have h3 : ¬ a[i].f1 = b[i].f1 := fun h3 => he (by
         cases h4 : a[i]; cases h5 : b[i]
         rw [h4, h5] at h0 h3
         simp only at h0 h3
         rw [h0, h3])
        simp [h3]
      · simp [h0]
    · rw [decide_eq_false hne]
      exact Ev.now _
theorem ranges_ev (a b : List S40) (ha : a.length ≤ 1000000) : Ev (fun k => formeref03_SameRanges.f k a b) (decide (a = b)) := by
 by_cases h : a.length = b.length
 · refine Ev.congr (f := fun k => formeref03_SameRanges.l0 k a b ((0 : Nat) : Int)) (fun k => ?_) (ranges_loop a b h ha a.length 0 (by omega) (fun j hj => by omega))
   unfold formeref03_SameRanges.f
   rw [if_pos (by omega)]
   rfl
 · refine Ev.congr (f := fun _ => some false) (fun k => ?_) ?_
   · unfold formeref03_SameRanges.f
     rw [if_neg (by omega)]
   · rw [decide_eq_false (fun e => h (by rw [e]))]
     exact Ev.now _
theorem both_len {a b : List S42} (ha : OkL a) (hb : OkL b) (hla : a.length ≤ 1000) (hlb : b.length ≤ 1000) (what lang s : Int) : (bothP a b what lang s).length ≤ 2000 := by
 have := opP_len (x := canW a lang s) (y := canW b lang s) what (canW_can ha lang s).1 (canW_can hb lang s).1
 have := canW_le (l := a) lang s
 have := canW_le (l := b) lang s
 unfold bothP
 omega
set_option maxRecDepth 100000 in
theorem form_in {a b : List S42} (ha : OkL a) (hb : OkL b) (hla : a.length ≤ 1000) (hlb : b.length ≤ 1000) (what lang : Int) (hl0 : 0 ≤ lang) (hl1 : lang < 4) (T : List S42 → List S42 × Int)
  (hn : ∀ acc : List S42, acc.length ≤ 2000 * 252 * (lang.toNat + 1) → Ev (fun k => formeref03_form.l0 k a b what acc (lang + 1)) (T acc)) : ∀ (d : Nat) (s low : Int) (now : List S40) (acc : List S42), s + d = 301 → 51 ≤ s → now.length ≤ 2000 → acc.length + 2000 * (d + 1) ≤ 2000 * 252 * (lang.toNat + 1) →
  Ev (fun k => formeref03_form.l1 k a b what acc lang low now s) (T (acc ++ (loopP (bothP a b what lang) d s low now).flatMap (bandZ lang)))
 | 0, s, low, now, acc, hs, hs1, hnow, hacc => by
  obtain ⟨K1, h1⟩ := zones_ev lang low 300 (l := now) (by omega)
  replace h1 : ∀ k, K1 ≤ k → formeref03_zones.f k lang low 300 now = some (zonesP lang low 300 now) := h1
  have hz : (zonesP lang low 300 now).length = now.length := by simp [zonesP]
  obtain ⟨K2, h2⟩ := hn (acc ++ zonesP lang low 300 now) (by rw [List.length_append, hz]; omega)
  refine ⟨K1 + K2 + 1, fun k hk => ?_⟩
  obtain ⟨k, rfl⟩ : ∃ m, k = m + 1 := ⟨k - 1, by omega⟩
  show formeref03_form.l1 (k + 1) a b what acc lang low now s = _
  simp only [formeref03_form.l1]
  rw [if_neg (by omega), h1 k (by omega), Option.bind_some, if_pos (by rw [hz]; omega), wrap_id (x := lang + 1) (by omega) (by omega)]
  have e : (loopP (bothP a b what lang) 0 s low now).flatMap (bandZ lang) = zonesP lang low 300 now := by
   simp only [loopP, List.flatMap_cons, List.flatMap_nil, List.append_nil, bandZ]
   rw [show s - 1 = 300 by omega]
  rw [e]
  exact h2 k (by omega)
 | d + 1, s, low, now, acc, hs, hs1, hnow, hacc => by
  have hb2 := both_len ha hb hla hlb what lang s
  obtain ⟨K1, h1⟩ := rboth_ev ha hb hla hlb lang s what
  replace h1 : ∀ k, K1 ≤ k → formeref03_both.f k a b lang s what = some (bothP a b what lang s) := h1
  obtain ⟨K2, h2⟩ := ranges_ev now (bothP a b what lang s) (by omega)
  replace h2 : ∀ k, K2 ≤ k → formeref03_SameRanges.f k now (bothP a b what lang s) = some (decide (now = bothP a b what lang s)) := h2
  by_cases he : bothP a b what lang s = now
  · obtain ⟨K3, h3⟩ := form_in ha hb hla hlb what lang hl0 hl1 T hn d (s + 1) low now acc (by omega) (by omega) hnow (by omega)
    refine ⟨K1 + K2 + K3 + 1, fun k hk => ?_⟩
    obtain ⟨k, rfl⟩ : ∃ m, k = m + 1 := ⟨k - 1, by omega⟩
    show formeref03_form.l1 (k + 1) a b what acc lang low now s = _
    simp only [formeref03_form.l1]
    rw [if_pos (by omega), h1 k (by omega), Option.bind_some, h2 k (by omega), Option.bind_some, if_pos (decide_eq_true he.symm), wrap_id (x := s + 1) (by omega) (by omega)]
    rw [show loopP (bothP a b what lang) (d + 1) s low now = loopP (bothP a b what lang) d (s + 1) low now by simp only [loopP]; rw [if_pos he]]
    exact h3 k (by omega)
  · obtain ⟨K4, h4⟩ := zones_ev lang low (s - 1) (l := now) (by omega)
    replace h4 : ∀ k, K4 ≤ k → formeref03_zones.f k lang low (s - 1) now = some (zonesP lang low (s - 1) now) := h4
    have hz : (zonesP lang low (s - 1) now).length = now.length := by simp [zonesP]
    obtain ⟨K3, h3⟩ := form_in ha hb hla hlb what lang hl0 hl1 T hn d (s + 1) s (bothP a b what lang s) (acc ++ zonesP lang low (s - 1) now) (by omega) (by omega) hb2 (by rw [List.length_append, hz]; omega)
    refine ⟨K1 + K2 + K3 + K4 + 1, fun k hk => ?_⟩
    obtain ⟨k, rfl⟩ : ∃ m, k = m + 1 := ⟨k - 1, by omega⟩
    show formeref03_form.l1 (k + 1) a b what acc lang low now s = _
    simp only [formeref03_form.l1]
    rw [if_pos (by omega), h1 k (by omega), Option.bind_some, h2 k (by omega), Option.bind_some, if_neg (by rw [decide_eq_true_iff]; exact fun e => he e.symm), wrap_id (x := s - 1) (by omega) (by omega), h4 k (by omega), Option.bind_some, if_pos (by rw [hz]; omega), wrap_id (x := s + 1) (by omega) (by omega)]
    rw [show loopP (bothP a b what lang) (d + 1) s low now = (low, s - 1, now) :: loopP (bothP a b what lang) d (s + 1) s (bothP a b what lang s) by simp only [loopP]; rw [if_neg he]]
    rw [List.flatMap_cons, ← List.append_assoc]
    exact h3 k (by omega)
def endR (out : List S42) : List S42 × Int := if 1000 < out.length then ([], 2) else (out, 0)
theorem form_lang {a b : List S42} (ha : OkL a) (hb : OkL b) (hla : a.length ≤ 1000) (hlb : b.length ≤ 1000) (what lang : Int) (hl0 : 0 ≤ lang) (hl1 : lang < 4) (T : List S42 → List S42 × Int)
  (hn : ∀ acc : List S42, acc.length ≤ 2000 * 252 * (lang.toNat + 1) → Ev (fun k => formeref03_form.l0 k a b what acc (lang + 1)) (T acc)) (acc : List S42) (hacc : acc.length ≤ 2000 * 252 * lang.toNat) :
  Ev (fun k => formeref03_form.l0 k a b what acc lang) (T (acc ++ langP (bothP a b what lang) lang)) := by
 have hb2 := both_len ha hb hla hlb what lang 50
 obtain ⟨K1, h1⟩ := rboth_ev ha hb hla hlb lang 50 what
 replace h1 : ∀ k, K1 ≤ k → formeref03_both.f k a b lang 50 what = some (bothP a b what lang 50) := h1
 obtain ⟨K2, h2⟩ := form_in ha hb hla hlb what lang hl0 hl1 T hn 250 51 50 (bothP a b what lang 50) acc (by omega) (by omega) hb2 (by omega)
 refine ⟨K1 + K2 + 1, fun k hk => ?_⟩
 obtain ⟨k, rfl⟩ : ∃ m, k = m + 1 := ⟨k - 1, by omega⟩
 show formeref03_form.l0 (k + 1) a b what acc lang = _
 simp only [formeref03_form.l0]
 rw [if_pos (by omega), h1 k (by omega), Option.bind_some]
 exact h2 k (by omega)
theorem form_all {a b : List S42} (ha : OkL a) (hb : OkL b) (hla : a.length ≤ 1000) (hlb : b.length ≤ 1000) (what : Int) : Ev (fun k => formeref03_form.l0 k a b what [] 0) (endR (formP (bothP a b what))) := by
 have h4 : ∀ acc : List S42, acc.length ≤ 2000 * 252 * ((3 : Int).toNat + 1) → Ev (fun k => formeref03_form.l0 k a b what acc (3 + 1)) (endR acc) := fun acc _ => by
  refine Ev.step (f := fun _ => some (endR acc)) (fun k => ?_) (Ev.now _)
  simp only [formeref03_form.l0]
  rw [if_neg (by omega)]
  unfold endR
  by_cases h : 1000 < acc.length
  · rw [if_pos (by omega), if_pos h]
  · rw [if_neg (by omega), if_neg h]
 have h3 := fun (acc : List S42) hacc => form_lang ha hb hla hlb what 3 (by omega) (by omega) endR h4 acc hacc
 have h2 := fun (acc : List S42) hacc => form_lang ha hb hla hlb what 2 (by omega) (by omega) (fun x => endR (x ++ langP (bothP a b what 3) 3)) (fun x hx => h3 x hx) acc hacc
 have h1 := fun (acc : List S42) hacc => form_lang ha hb hla hlb what 1 (by omega) (by omega) (fun x => endR ((x ++ langP (bothP a b what 2) 2) ++ langP (bothP a b what 3) 3)) (fun x hx => h2 x hx) acc hacc
 have h0 := form_lang ha hb hla hlb what 0 (by omega) (by omega) (fun x => endR (((x ++ langP (bothP a b what 1) 1) ++ langP (bothP a b what 2) 2) ++ langP (bothP a b what 3) 3)) (fun x hx => h1 x hx) [] (by simp)
 have e : ((([] ++ langP (bothP a b what 0) 0) ++ langP (bothP a b what 1) 1) ++ langP (bothP a b what 2) 2) ++ langP (bothP a b what 3) 3 = formP (bothP a b what) := by
  unfold formP
  simp only [List.nil_append, List.append_assoc]
 simp only [e] at h0
 exact h0
theorem rform_ev (a b : List S42) (hla : a.length ≤ 4000000000000000000) (hlb : b.length ≤ 4000000000000000000) (what : Int) : Ev (fun k => formeref03_form.f k a b what) (formR a b (bothP a b what)) := by
 obtain ⟨K1, h1⟩ := rvalid_ev a (by omega)
 obtain ⟨K2, h2⟩ := rvalid_ev b (by omega)
 replace h1 : ∀ k, K1 ≤ k → formeref03_Valid.f k a = some (validP a) := h1
 replace h2 : ∀ k, K2 ≤ k → formeref03_Valid.f k b = some (validP b) := h2
 unfold formR
 cases hv : validP a with
 | false =>
  refine ⟨K1 + 1, fun k hk => ?_⟩
  obtain ⟨k, rfl⟩ : ∃ m, k = m + 1 := ⟨k - 1, by omega⟩
  show formeref03_form.f (k + 1) a b what = _
  unfold formeref03_form.f
  rw [h1 _ (by omega), hv, Option.bind_some, if_neg (by simp)]
  simp only [formeref03_form.j0]
  rfl
 | true =>
  cases hv' : validP b with
  | false =>
   refine ⟨K1 + K2 + 1, fun k hk => ?_⟩
   obtain ⟨k, rfl⟩ : ∃ m, k = m + 1 := ⟨k - 1, by omega⟩
   show formeref03_form.f (k + 1) a b what = _
   unfold formeref03_form.f
   rw [h1 _ (by omega), hv, Option.bind_some, if_pos rfl, h2 _ (by omega), hv', Option.bind_some]
   simp only [formeref03_form.j0]
   rfl
  | true =>
   obtain ⟨oa, la⟩ := valid_ok hv
   obtain ⟨ob, lb⟩ := valid_ok hv'
   obtain ⟨K3, h3⟩ := form_all oa ob la lb what
   refine ⟨K1 + K2 + K3 + 1, fun k hk => ?_⟩
   obtain ⟨k, rfl⟩ : ∃ m, k = m + 1 := ⟨k - 1, by omega⟩
   show formeref03_form.f (k + 1) a b what = _
   unfold formeref03_form.f
   rw [h1 _ (by omega), hv, Option.bind_some, if_pos rfl, h2 _ (by omega), hv', Option.bind_some]
   simp only [formeref03_form.j0]
   rw [if_neg (by simp), if_pos (by rfl)]
   exact h3 k (by omega)
theorem rhas_loop (l : List S42) (hl : l.length ≤ 1000) (w s lang : Int) : ∀ (d i : Nat), i + d = l.length → Ev (fun k => formeref03_Has.l0 k l (i : Int) w s lang) ((l.drop i).any (inB w s lang), 0)
 | 0, i, hi => by
  refine Ev.step (f := fun _ => some (false, 0)) (fun k => ?_) ?_
  · simp only [formeref03_Has.l0]
    rw [if_neg (by omega)]
  · rw [List.drop_eq_nil_of_le (by omega)]
    exact Ev.now _
 | d + 1, i, hi => by
  have h : i < l.length := by omega
  rw [List.drop_eq_getElem_cons h, List.any_cons]
  cases hb : inB w s lang l[i] with
  | true =>
   refine Ev.step (f := fun _ => some (true, 0)) (fun k => ?_) (Ev.now _)
   simp only [formeref03_Has.l0]
   rw [if_pos (by omega), if_pos (by omega), rd35_at h, in_of, hb, Option.bind_some, if_pos rfl]
  | false =>
   refine Ev.step (f := fun k => formeref03_Has.l0 k l ((i + 1 : Nat) : Int) w s lang) (fun k => ?_) (by simpa using rhas_loop l hl w s lang d (i + 1) (by omega))
   simp only [formeref03_Has.l0]
   rw [if_pos (by omega), if_pos (by omega), rd35_at h, in_of, hb, Option.bind_some, if_neg (by simp), wrap_id (x := (i : Int) + 1) (by omega) (by omega)]
   rfl
theorem readerB_eq (w s lang : Int) : readerB w s lang = decide (RD w s lang) := by
 unfold readerB
 by_cases h : RD w s lang
 · rw [decide_eq_true h, okB_iff]
   unfold okZ okR
   unfold RD at h
   simp only
   omega
 · rw [decide_eq_false h]
   refine okB_no fun h1 => h ?_
   unfold okZ okR at h1
   unfold RD
   simp only at h1
   omega
theorem rhas_ev (l : List S42) (hl : l.length ≤ 4000000000000000000) (w s lang : Int) : Ev (fun k => formeref03_Has.f k l w s lang) (hasP l w s lang) := by
 obtain ⟨K1, h1⟩ := rvalid_ev l (by omega)
 replace h1 : ∀ k, K1 ≤ k → formeref03_Valid.f k l = some (validP l) := h1
 unfold hasP
 rw [readerB_eq]
 cases hv : validP l with
 | false =>
  refine ⟨K1 + 1, fun k hk => ?_⟩
  obtain ⟨k, rfl⟩ : ∃ m, k = m + 1 := ⟨k - 1, by omega⟩
  show formeref03_Has.f (k + 1) l w s lang = _
  unfold formeref03_Has.f
  rw [h1 _ (by omega), hv, Option.bind_some, if_neg (by simp)]
  simp only [formeref03_Has.j0]
  rfl
 | true =>
  obtain ⟨K2, h2⟩ := rhas_loop l (valid_ok hv).2 w s lang l.length 0 (by omega)
  refine ⟨K1 + K2 + 1, fun k hk => ?_⟩
  obtain ⟨k, rfl⟩ : ∃ m, k = m + 1 := ⟨k - 1, by omega⟩
  show formeref03_Has.f (k + 1) l w s lang = _
  unfold formeref03_Has.f
  rw [h1 _ (by omega), hv, Option.bind_some, if_pos rfl, reader_of, Option.bind_some]
  simp only [formeref03_Has.j0]
  by_cases h : RD w s lang
  · rw [decide_eq_true h, if_neg (by simp), if_pos (by rfl)]
    exact h2 k (by omega)
  · rw [decide_eq_false h, if_pos (by rfl), if_neg (by simp)]
def c3 (x y : Int) : Int := if x < y then -1 else if x > y then 1 else 0
theorem compare_of (x y : Int) : cmp_Compare_int.f x y = some (c3 x y) := by
 unfold cmp_Compare_int.f cmp_isNaN_int.f c3
 simp only [Option.bind_some]
 rw [if_neg (by simp), if_neg (by simp)]
 split
 · rfl
 · split <;> rfl
theorem or_loop (a b c : Int) : cmp_Or_int.f 4 [a, b, c] = some (if a = 0 then (if b = 0 then c else b) else a) := by
 unfold cmp_Or_int.f
 by_cases ha : a = 0
 · by_cases hb : b = 0
   · by_cases hc : c = 0
     · subst ha hb hc
       simp [cmp_Or_int.l0, rd, wrap64]
     · subst ha hb
       simp [cmp_Or_int.l0, rd, wrap64, hc]
   · subst ha
     simp [cmp_Or_int.l0, rd, wrap64, hb]
 · simp [cmp_Or_int.l0, rd, ha]
def ordP (a b : S42) : Int := if c3 a.f0 b.f0 = 0 then (if c3 a.f1.f0 b.f1.f0 = 0 then c3 a.f2.f0 b.f2.f0 else c3 a.f1.f0 b.f1.f0) else c3 a.f0 b.f0
theorem ordP_lt (a b : S42) : ordP a b < 0 ↔ LtZ a b := by
 unfold ordP LtZ c3
 repeat' split
 all_goals omega
theorem least1_of (a b : S42) : ∀ k, 4 ≤ k → zone_Least_1.f k a.f0 a.f1.f0 a.f1.f1 a.f2.f0 a.f2.f1 b.f0 b.f1.f0 b.f1.f1 b.f2.f0 b.f2.f1 = some (ordP a b) := fun k hk => by
 unfold zone_Least_1.f
 rw [compare_of, Option.bind_some, compare_of, Option.bind_some, compare_of, Option.bind_some]
 have := at_rounds (fun k => cmp_Or_int.mono [c3 a.f0 b.f0, c3 a.f1.f0 b.f1.f0, c3 a.f2.f0 b.f2.f0] k) hk (or_loop (c3 a.f0 b.f0) (c3 a.f1.f0 b.f1.f0) (c3 a.f2.f0 b.f2.f0))
 rw [this]
 rfl
theorem min_loop (l : List S42) (hl : l.length ≤ 1000) : ∀ (d i : Nat) (m : S42), i + d = l.length → m ∈ l → (∀ j (h : j < l.length), j < i → ¬ LtZ l[j] m) →
  ∃ r, r ∈ l ∧ (∀ z ∈ l, ¬ LtZ z r) ∧ Ev (fun k => api_Zone_38.l0 k l (i : Int) m.f0 m.f1.f0 m.f1.f1 m.f2.f0 m.f2.f1) (r.f0, r.f1.f0, r.f1.f1, r.f2.f0, r.f2.f1)
 | 0, i, m, hi, hm, hlt => by
  refine ⟨m, hm, fun z hz => ?_, Ev.step (f := fun _ => some (m.f0, m.f1.f0, m.f1.f1, m.f2.f0, m.f2.f1)) (fun k => ?_) (Ev.now _)⟩
  · obtain ⟨j, hj, rfl⟩ := List.getElem_of_mem hz
    exact hlt j hj (by omega)
  · simp only [api_Zone_38.l0]
    rw [if_neg (by omega)]
 | d + 1, i, m, hi, hm, hlt => by
  have h : i < l.length := by omega
  by_cases ho : LtZ l[i] m
  · obtain ⟨r, hr, hz, he⟩ := min_loop l hl d (i + 1) l[i] (by omega) (List.getElem_mem h) (fun j hj hji => by
     by_cases e : j = i
     · subst e
       unfold LtZ
       omega
     · have := hlt j hj (by omega)
       unfold LtZ at *
       omega)
    refine ⟨r, hr, hz, ?_⟩
    obtain ⟨K, hK⟩ := he
    refine ⟨K + 5, fun k hk => ?_⟩
    obtain ⟨k, rfl⟩ : ∃ q, k = q + 1 := ⟨k - 1, by omega⟩
    show api_Zone_38.l0 (k + 1) l (i : Int) m.f0 m.f1.f0 m.f1.f1 m.f2.f0 m.f2.f1 = _
    simp only [api_Zone_38.l0]
    rw [if_pos (by omega), if_pos (by omega), rd35_at h, least1_of l[i] m k (by omega), Option.bind_some, if_pos ((ordP_lt _ _).2 ho), wrap_id (by omega) (by omega)]
    exact hK k (by omega)
  · obtain ⟨r, hr, hz, he⟩ := min_loop l hl d (i + 1) m (by omega) hm (fun j hj hji => by
     by_cases e : j = i
     · subst e
       exact ho
     · exact hlt j hj (by omega))
    refine ⟨r, hr, hz, ?_⟩
    obtain ⟨K, hK⟩ := he
    refine ⟨K + 5, fun k hk => ?_⟩
    obtain ⟨k, rfl⟩ : ∃ q, k = q + 1 := ⟨k - 1, by omega⟩
    show api_Zone_38.l0 (k + 1) l (i : Int) m.f0 m.f1.f0 m.f1.f1 m.f2.f0 m.f2.f1 = _
    simp only [api_Zone_38.l0]
    rw [if_pos (by omega), if_pos (by omega), rd35_at h, least1_of l[i] m k (by omega), Option.bind_some, if_neg (fun h1 => ho ((ordP_lt _ _).1 h1)), wrap_id (by omega) (by omega)]
    exact hK k (by omega)
theorem least_of {l : List S42} (hv : validP l = true) (hn : 0 < l.length) : ∃ r, r ∈ l ∧ (∀ z ∈ l, ¬ LtZ z r) ∧ Ev (fun k => zone_Least.f k l) (r.f2.f0, r.f1.f0, r.f0, true, 0) := by
 obtain ⟨r, hr, hz, K, hK⟩ := min_loop l (valid_ok hv).2 (l.length - 1) 1 l[0] (by omega) (List.getElem_mem hn) (fun j hj hji => by
  obtain rfl : j = 0 := by omega
  unfold LtZ
  omega)
 refine ⟨r, hr, hz, K, fun k hk => ?_⟩
 have h := hK k hk
 show zone_Least.f k l = _
 unfold zone_Least.f zone_Valid.f
 rw [hv, Option.bind_some, if_pos rfl, if_neg (by omega)]
 unfold api_Zone_38.f
 have e := rd35_at hn
 rw [if_neg (by omega), if_pos (by omega), show rd_T42 l 0 = l[0] from e]
 replace h : api_Zone_38.l0 k l 1 l[0].f0 l[0].f1.f0 l[0].f1.f1 l[0].f2.f0 l[0].f2.f1 = _ := h
 rw [h, Option.bind_some]
theorem before_no (w s g w' s' g' : Int) (h : ¬ (g < g' ∨ (g = g' ∧ (s < s' ∨ (s = s' ∧ w < w'))))) : formeref03_Before.f w s g w' s' g' = some false := by
 unfold formeref03_Before.f
 repeat' split
 all_goals rw [decide_eq_false (by omega)]
theorem rleast_loop (l : List S42) (hl : l.length ≤ 1000) : ∀ (d i : Nat) (m : S42), i + d = l.length → 0 < i → m ∈ l → (∀ j (h : j < l.length), j < i → ¬ LtZ l[j] m) →
  ∃ r, r ∈ l ∧ (∀ z ∈ l, ¬ LtZ z r) ∧ Ev (fun k => formeref03_Least.l0 k l (i : Int) m.f2.f0 m.f1.f0 m.f0) (r.f2.f0, r.f1.f0, r.f0, true, 0)
 | 0, i, m, hi, h0, hm, hlt => by
  refine ⟨m, hm, fun z hz => ?_, Ev.step (f := fun _ => some (m.f2.f0, m.f1.f0, m.f0, true, 0)) (fun k => ?_) (Ev.now _)⟩
  · obtain ⟨j, hj, rfl⟩ := List.getElem_of_mem hz
    exact hlt j hj (by omega)
  · simp only [formeref03_Least.l0]
    rw [if_neg (by omega), decide_eq_true (by omega)]
 | d + 1, i, m, hi, h0, hm, hlt => by
  have h : i < l.length := by omega
  by_cases ho : LtZ l[i] m
  · obtain ⟨r, hr, hz, he⟩ := rleast_loop l hl d (i + 1) l[i] (by omega) (by omega) (List.getElem_mem h) (fun j hj hji => by
     by_cases e : j = i
     · subst e
       unfold LtZ
       omega
     · have := hlt j hj (by omega)
       unfold LtZ at *
       omega)
    refine ⟨r, hr, hz, Ev.step (f := fun k => formeref03_Least.l0 k l ((i + 1 : Nat) : Int) l[i].f2.f0 l[i].f1.f0 l[i].f0) (fun k => ?_) he⟩
    simp only [formeref03_Least.l0]
    rw [if_pos (by omega), if_neg (by omega), if_pos (by omega), rd35_at h]
    unfold formeref03_First.f
    rw [Option.bind_some]
    simp only []
    rw [before_of _ _ _ _ _ _ ho, Option.bind_some, if_pos rfl, Option.bind_some, wrap_id (x := (i : Int) + 1) (by omega) (by omega)]
    rfl
  · obtain ⟨r, hr, hz, he⟩ := rleast_loop l hl d (i + 1) m (by omega) (by omega) hm (fun j hj hji => by
     by_cases e : j = i
     · subst e
       exact ho
     · exact hlt j hj (by omega))
    refine ⟨r, hr, hz, Ev.step (f := fun k => formeref03_Least.l0 k l ((i + 1 : Nat) : Int) m.f2.f0 m.f1.f0 m.f0) (fun k => ?_) he⟩
    simp only [formeref03_Least.l0]
    rw [if_pos (by omega), if_neg (by omega), if_pos (by omega), rd35_at h]
    unfold formeref03_First.f
    rw [Option.bind_some]
    simp only []
    rw [before_no _ _ _ _ _ _ ho, Option.bind_some, if_neg (by simp), wrap_id (x := (i : Int) + 1) (by omega) (by omega)]
    rfl
theorem least_both (l : List S42) (hl : l.length ≤ 4000000000000000000) : ∃ r : Int × Int × Int × Bool × Int, Ev (fun k => zone_Least.f k l) r ∧ Ev (fun k => formeref03_Least.f k l) r := by
 obtain ⟨K1, h1⟩ := rvalid_ev l (by omega)
 replace h1 : ∀ k, K1 ≤ k → formeref03_Valid.f k l = some (validP l) := h1
 cases hv : validP l with
 | false =>
  refine ⟨(0, 0, 0, false, 1), ⟨0, fun k _ => ?_⟩, ⟨K1, fun k hk => ?_⟩⟩
  · show zone_Least.f k l = _
    unfold zone_Least.f zone_Valid.f
    rw [hv, Option.bind_some, if_neg (by simp)]
  · show formeref03_Least.f k l = _
    unfold formeref03_Least.f
    rw [h1 k hk, hv, Option.bind_some, if_neg (by simp)]
 | true =>
  by_cases hn : 0 < l.length
  · obtain ⟨r, hr, hz, he⟩ := least_of hv hn
    obtain ⟨r', hr', hz', K2, h2⟩ := rleast_loop l (valid_ok hv).2 (l.length - 1) 1 l[0] (by omega) (by omega) (List.getElem_mem hn) (fun j hj hji => by
     obtain rfl : j = 0 := by omega
     unfold LtZ
     omega)
    have e1 := hz r' hr'
    have e2 := hz' r hr
    unfold LtZ at e1 e2
    have e : (r'.f2.f0, r'.f1.f0, r'.f0, true, (0 : Int)) = (r.f2.f0, r.f1.f0, r.f0, true, 0) := by
     rw [show r'.f2.f0 = r.f2.f0 by omega, show r'.f1.f0 = r.f1.f0 by omega, show r'.f0 = r.f0 by omega]
    refine ⟨_, he, ⟨K1 + K2 + 1, fun k hk => ?_⟩⟩
    obtain ⟨k, rfl⟩ : ∃ m, k = m + 1 := ⟨k - 1, by omega⟩
    show formeref03_Least.f (k + 1) l = _
    unfold formeref03_Least.f
    rw [h1 _ (by omega), hv, Option.bind_some, if_pos rfl]
    simp only [formeref03_Least.l0]
    have e0 := rd35_at hn
    rw [if_pos (by omega), if_pos trivial, if_pos (by omega), show rd_T42 l 0 = l[0] from e0]
    unfold formeref03_First.f
    rw [Option.bind_some, ← e, wrap_id (x := (0 : Int) + 1) (by omega) (by omega)]
    exact h2 k (by omega)
  · have e : l = [] := List.eq_nil_of_length_eq_zero (by omega)
    subst e
    refine ⟨(0, 0, 0, false, 0), ⟨1, fun k hk => ?_⟩, ⟨K1 + 1, fun k hk => ?_⟩⟩
    · rfl
    · obtain ⟨k, rfl⟩ : ∃ m, k = m + 1 := ⟨k - 1, by omega⟩
      show formeref03_Least.f (k + 1) [] = _
      unfold formeref03_Least.f
      rw [h1 _ (by omega), Option.bind_some, if_pos (by rfl)]
      rfl
theorem lenW_cons (r : S40) (l : List S40) : lenW (r :: l) = (r.f1 - r.f0 + 1) + lenW l := by simp [lenW]
theorem lenW_bound : ∀ (x : List S40), (∀ r ∈ x, okR 200 4000 r) → 0 ≤ lenW x ∧ lenW x ≤ 3801 * x.length
 | [], _ => ⟨Int.le_refl _, Int.le_refl _⟩
 | r :: x, h => by
  have h1 := h r List.mem_cons_self
  have h2 := lenW_bound x fun y hy => h y (List.mem_cons_of_mem _ hy)
  unfold okR at h1
  rw [lenW_cons, List.length_cons]
  omega
theorem cnt_in (l : List S42) (lang s : Int) {x : List S40} (hx : ∀ r ∈ x, okR 200 4000 r) (hl : x.length ≤ 1000) (B : Int) (hB : B ≤ 100000000000) (T : Int → Int) (hn : ∀ n, 0 ≤ n → n ≤ B → Ev (fun k => formeref03_Count.l1 k l n lang (s + 1)) (T n, 0)) (hs : 0 ≤ s ∧ s ≤ 1000) :
  ∀ (d j : Nat) (n : Int), j + d = x.length → 0 ≤ n → n + lenW (x.drop j) ≤ B → Ev (fun k => formeref03_Count.l2 k l n lang s x (j : Int)) (T (n + lenW (x.drop j)), 0)
 | 0, j, n, hj, h0, h1 => by
  rw [List.drop_eq_nil_of_le (by omega)] at *
  rw [show lenW [] = 0 from rfl, Int.add_zero] at *
  refine Ev.step (f := fun k => formeref03_Count.l1 k l n lang (s + 1)) (fun k => ?_) (hn n h0 h1)
  simp only [formeref03_Count.l2]
  rw [if_neg (by omega), wrap_id (x := s + 1) (by omega) (by omega)]
 | d + 1, j, n, hj, h0, h1 => by
  have h : j < x.length := by omega
  have hr := hx x[j] (List.getElem_mem h)
  have hb := lenW_bound (x.drop (j + 1)) fun y hy => hx y (List.mem_of_mem_drop hy)
  rw [List.drop_eq_getElem_cons h, lenW_cons] at *
  unfold okR at hr
  have := cnt_in l lang s hx hl B hB T hn hs d (j + 1) (n + (x[j].f1 - x[j].f0 + 1)) (by omega) (by omega) (by omega)
  rw [Int.add_assoc] at this
  refine Ev.step (f := fun k => formeref03_Count.l2 k l (n + (x[j].f1 - x[j].f0 + 1)) lang s x ((j + 1 : Nat) : Int)) (fun k => ?_) this
  simp only [formeref03_Count.l2]
  rw [if_pos (by omega), if_pos (by omega), rd33_at h, wrap_id (x := n + x[j].f1) (by omega) (by omega), wrap_id (x := n + x[j].f1 - x[j].f0) (by omega) (by omega), wrap_id (x := n + x[j].f1 - x[j].f0 + 1) (by omega) (by omega), wrap_id (x := (j : Int) + 1) (by omega) (by omega),
   show n + x[j].f1 - x[j].f0 + 1 = n + (x[j].f1 - x[j].f0 + 1) by omega]
  rfl
theorem sumL_bound {g : Int → Int} {B : Int} (hg : ∀ n, 0 ≤ g n ∧ g n ≤ B) : ∀ (m : Nat) (s : Int), 0 ≤ sumL g m s ∧ sumL g m s ≤ B * m
 | 0, _ => by simp [sumL]
 | m + 1, s => by
  have h1 := hg s
  have h2 := sumL_bound hg m (s + 1)
  simp only [sumL]
  rw [show ((m + 1 : Nat) : Int) = (m : Int) + 1 by omega, Int.mul_add, Int.mul_one]
  omega
theorem cnt_scales {l : List S42} (ho : OkL l) (hl : l.length ≤ 1000) (lang : Int) (hl0 : 0 ≤ lang ∧ lang < 4) (B : Int) (hB : B ≤ 100000000000) (T : Int → Int) (hn : ∀ n, 0 ≤ n → n ≤ B → Ev (fun k => formeref03_Count.l0 k l n (lang + 1)) (T n, 0)) :
  ∀ (d : Nat) (s n : Int), s + d = 301 → 50 ≤ s → 0 ≤ n → n + sumL (fun t => lenW (canW l lang t)) d s ≤ B → Ev (fun k => formeref03_Count.l1 k l n lang s) (T (n + sumL (fun t => lenW (canW l lang t)) d s), 0)
 | 0, s, n, hs, hs1, h0, h1 => by
  simp only [sumL, Int.add_zero] at *
  refine Ev.step (f := fun k => formeref03_Count.l0 k l n (lang + 1)) (fun k => ?_) (hn n h0 h1)
  simp only [formeref03_Count.l1]
  rw [if_neg (by omega), wrap_id (x := lang + 1) (by omega) (by omega)]
 | d + 1, s, n, hs, hs1, h0, h1 => by
  have hx := canW_ok ho lang s
  have hlen := canW_le (l := l) lang s
  have hb := lenW_bound _ hx
  have hs2 := sumL_bound (g := fun t => lenW (canW l lang t)) (B := 3801000) (fun t => by
   have h3 := lenW_bound _ (canW_ok ho lang t)
   have h4 := canW_le (l := l) lang t
   show 0 ≤ lenW (canW l lang t) ∧ lenW (canW l lang t) ≤ 3801000
   omega) d (s + 1)
  simp only [sumL] at *
  obtain ⟨K1, h1'⟩ := rwidths_ev ho hl lang s
  replace h1' : ∀ k, K1 ≤ k → formeref03_widths.f k l lang s = some (canW l lang s) := h1'
  obtain ⟨K2, h2⟩ := cnt_in l lang s hx (by omega) (B - sumL (fun t => lenW (canW l lang t)) d (s + 1)) (by omega) (fun m => T (m + sumL (fun t => lenW (canW l lang t)) d (s + 1))) (fun m hm0 hm1 => cnt_scales ho hl lang hl0 B hB T hn d (s + 1) m (by omega) (by omega) hm0 (by omega)) ⟨by omega, by omega⟩ (canW l lang s).length 0 n (by omega) h0 (by rw [List.drop_zero]; omega)
  rw [List.drop_zero] at h2
  refine ⟨K1 + K2 + 1, fun k hk => ?_⟩
  obtain ⟨k, rfl⟩ : ∃ m, k = m + 1 := ⟨k - 1, by omega⟩
  show formeref03_Count.l1 (k + 1) l n lang s = _
  simp only [formeref03_Count.l1]
  rw [if_pos (by omega), h1' k (by omega), Option.bind_some, ← Int.add_assoc]
  exact h2 k (by omega)
theorem rcount_ev (l : List S42) (hl : l.length ≤ 4000000000000000000) (h20 : l.length ≤ 24 ∨ 1000 < l.length) : Ev (fun k => formeref03_Count.f k l) (countR l) := by
 obtain ⟨K1, h1⟩ := rvalid_ev l (by omega)
 replace h1 : ∀ k, K1 ≤ k → formeref03_Valid.f k l = some (validP l) := h1
 unfold countR
 cases hv : validP l with
 | false =>
  refine ⟨K1, fun k hk => ?_⟩
  show formeref03_Count.f k l = _
  unfold formeref03_Count.f
  rw [h1 k hk, hv, Option.bind_some, if_neg (by simp), if_neg (by simp)]
 | true =>
  obtain ⟨ho, hlen⟩ := valid_ok hv
  have hf := canW_form ho (show l.length ≤ 24 by omega)
  rw [if_pos rfl, cnt_form hf]
  have bnd := fun lang => sumL_bound (g := fun t => lenW (canW l lang t)) (B := 3801000) (fun t => by
   have h3 := lenW_bound _ (canW_ok ho lang t)
   have h4 := canW_le (l := l) lang t
   show 0 ≤ lenW (canW l lang t) ∧ lenW (canW l lang t) ≤ 3801000
   omega) 251 50
  have b0 := bnd 0
  have b1 := bnd 1
  have b2 := bnd 2
  have b3 := bnd 3
  have l0 : ∀ (lang n : Int) (T : Int → Int), lang < 4 → Ev (fun k => formeref03_Count.l1 k l n lang 50) (T n, 0) → Ev (fun k => formeref03_Count.l0 k l n lang) (T n, 0) := fun lang n T h he => Ev.step (f := fun k => formeref03_Count.l1 k l n lang 50) (fun k => by simp only [formeref03_Count.l0]; rw [if_pos h]) he
  have e4 : ∀ n, 0 ≤ n → n ≤ 50000000000 → Ev (fun k => formeref03_Count.l0 k l n (3 + 1)) (n, 0) := fun n _ _ => by
   refine Ev.step (f := fun _ => some (n, 0)) (fun k => ?_) (Ev.now _)
   simp only [formeref03_Count.l0]
   rw [if_neg (by omega)]
  have e3 : ∀ n, 0 ≤ n → n ≤ 40000000000 → Ev (fun k => formeref03_Count.l0 k l n (2 + 1)) (n + sumL (fun t => lenW (canW l 3 t)) 251 50, 0) := fun n h0 h1 => by
   have := cnt_scales ho hlen 3 ⟨by omega, by omega⟩ 50000000000 (by omega) (fun n => n) e4 251 50 n (by omega) (by omega) h0 (by omega)
   exact Ev.step (f := fun k => formeref03_Count.l1 k l n 3 50) (fun k => by simp only [formeref03_Count.l0]; rw [if_pos (by omega)]; rfl) this
  have e2 : ∀ n, 0 ≤ n → n ≤ 30000000000 → Ev (fun k => formeref03_Count.l0 k l n (1 + 1)) (n + sumL (fun t => lenW (canW l 2 t)) 251 50 + sumL (fun t => lenW (canW l 3 t)) 251 50, 0) := fun n h0 h1 => by
   have := cnt_scales ho hlen 2 ⟨by omega, by omega⟩ 40000000000 (by omega) (fun n => n + sumL (fun t => lenW (canW l 3 t)) 251 50) e3 251 50 n (by omega) (by omega) h0 (by omega)
   exact Ev.step (f := fun k => formeref03_Count.l1 k l n 2 50) (fun k => by simp only [formeref03_Count.l0]; rw [if_pos (by omega)]; rfl) this
  have e1 : ∀ n, 0 ≤ n → n ≤ 20000000000 → Ev (fun k => formeref03_Count.l0 k l n (0 + 1)) (n + sumL (fun t => lenW (canW l 1 t)) 251 50 + sumL (fun t => lenW (canW l 2 t)) 251 50 + sumL (fun t => lenW (canW l 3 t)) 251 50, 0) := fun n h0 h1 => by
   have := cnt_scales ho hlen 1 ⟨by omega, by omega⟩ 30000000000 (by omega) (fun n => n + sumL (fun t => lenW (canW l 2 t)) 251 50 + sumL (fun t => lenW (canW l 3 t)) 251 50) e2 251 50 n (by omega) (by omega) h0 (by omega)
   exact Ev.step (f := fun k => formeref03_Count.l1 k l n 1 50) (fun k => by simp only [formeref03_Count.l0]; rw [if_pos (by omega)]; rfl) this
  have e0 := cnt_scales ho hlen 0 ⟨by omega, by omega⟩ 20000000000 (by omega) (fun n => n + sumL (fun t => lenW (canW l 1 t)) 251 50 + sumL (fun t => lenW (canW l 2 t)) 251 50 + sumL (fun t => lenW (canW l 3 t)) 251 50) e1 251 50 0 (by omega) (by omega) (by omega) (by omega)
  have tot : (0 + sumL (fun t => lenW (canW l 0 t)) 251 50 + sumL (fun t => lenW (canW l 1 t)) 251 50 + sumL (fun t => lenW (canW l 2 t)) 251 50 + sumL (fun t => lenW (canW l 3 t)) 251 50) = total (canW l) := by
   unfold total
   omega
  simp only [tot] at e0
  obtain ⟨K2, h2⟩ := e0
  refine ⟨K1 + K2 + 1, fun k hk => ?_⟩
  obtain ⟨k, rfl⟩ : ∃ m, k = m + 1 := ⟨k - 1, by omega⟩
  show formeref03_Count.f (k + 1) l = _
  unfold formeref03_Count.f
  rw [h1 _ (by omega), hv, Option.bind_some, if_pos rfl]
  simp only [formeref03_Count.l0]
  rw [if_pos (by omega)]
  exact h2 k (by omega)
theorem formR_len (a b : List S42) (f : Int → Int → List S40) : (formR a b f).1.length ≤ 1000 := by
 unfold formR
 split
 · split
   · simp
   · simp only
     omega
 · simp
theorem canon_same (a : List S42) : formR a [] (bothP a [] 0) = formR a [] (canW a) := by
 have e : bothP a [] 0 = canW a := by
  funext lang s
  exact bothP_nil a lang s
 rw [e]
end Go.Proofs.YtacohlafmbhcdaaGreat.Plain
