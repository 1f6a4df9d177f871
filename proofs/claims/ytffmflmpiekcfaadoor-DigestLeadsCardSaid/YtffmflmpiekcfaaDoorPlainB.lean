/- Plain facts on paths of layer 4 (digest): the path of an index leads to the root, and two ways to one root meet. -/
import Derived.Test.YtffmflmpiekcfaaDoorPlain
namespace Go.Proofs.YtffmflmpiekcfaaDoor.Plain
open Go.RowKit Go.Proofs.YtffmflmpiekcfaaDoor.PAll Go.Proofs.YtffmflmpiekcfaaDoorW.PrintWords Go.Proofs.YtffmflmpiekcfaaDoorW.PrintLast Go.Proofs.YtffmflmpiekcfaaDoorW.PrintMore Go.Proofs.YtffmflmpiekcfaaDoorGlib

theorem rd_take {l : List Int} {i : Int} {n : Nat} (h0 : 0 ≤ i) (h : i < n) (hn : n ≤ l.length) : rd (l.take n) i = rd l i := by
  unfold rd
  rw [List.getD_eq_getElem?_getD, List.getD_eq_getElem?_getD, List.getElem?_take_of_lt (by omega)]
theorem rd_drop {l : List Int} {i : Int} {n : Nat} (h : (n : Int) ≤ i) : rd (l.drop n) (i - n) = rd l i := by
  unfold rd
  rw [List.getD_eq_getElem?_getD, List.getD_eq_getElem?_getD, List.getElem?_drop]
  congr 2
  omega
theorem rd_last {l : List Int} {x : Int} : rd (l ++ [x]) (((l ++ [x]).length : Int) - 1) = x := by
  unfold rd
  have : ((((l ++ [x]).length : Nat) : Int) - 1).toNat = l.length := by simp
  rw [this]
  simp
/-- The path of an index leads to the root. -/
theorem path_leads : ∀ (f : Nat) (l : List Int) (i : Int), 0 ≤ i → i < l.length → l.length ≤ f → followF f (rd l i) i l.length (pathP l i) = (rootP l, true)
  | 0, l, i, h0, h1, hf => by omega
  | f + 1, l, i, h0, h1, hf => by
    simp only [followF]
    by_cases hn : l.length = 1
    · have hi : i = 0 := by omega
      subst hi
      rw [if_pos hn, root_one hn, path_one hn]
      rfl
    · rw [if_neg hn]
      have hp := halfP_spec (n := l.length) (by omega)
      by_cases hlt : i < halfP l.length
      · have hl : (l.take (halfP l.length)).length = halfP l.length := by rw [List.length_take]; omega
        have ih := path_leads f (l.take (halfP l.length)) i h0 (by omega) (by omega)
        rw [hl, rd_take h0 hlt (by omega)] at ih
        rw [path_two (l := l) (by omega), if_pos hlt, root_two (l := l) (by omega)]
        rw [if_neg (by simp), if_pos hlt, rd_last]
        have e : (pathP (l.take (halfP l.length)) i ++ [rootP (l.drop (halfP l.length))]).take ((pathP (l.take (halfP l.length)) i ++ [rootP (l.drop (halfP l.length))]).length - 1) = pathP (l.take (halfP l.length)) i := by simp
        rw [e, ih]
      · have hl : (l.drop (halfP l.length)).length = l.length - halfP l.length := List.length_drop
        have ih := path_leads f (l.drop (halfP l.length)) (i - halfP l.length) (by omega) (by omega) (by omega)
        rw [hl, rd_drop (by omega)] at ih
        rw [path_two (l := l) (by omega), if_neg hlt, root_two (l := l) (by omega)]
        rw [if_neg (by simp), if_neg hlt, rd_last]
        have e : (pathP (l.drop (halfP l.length)) (i - halfP l.length) ++ [rootP (l.take (halfP l.length))]).take ((pathP (l.drop (halfP l.length)) (i - halfP l.length) ++ [rootP (l.take (halfP l.length))]).length - 1) = pathP (l.drop (halfP l.length)) (i - halfP l.length) := by simp
        rw [e, ih]
theorem path_len {l : List Int} {i : Int} (h0 : 0 ≤ i) (h1 : i < l.length) : (pathP l i).length = lenF l.length i l.length :=
  (follow_len l.length (rd l i) i l.length (pathP l i) h0 h1 (Nat.le_refl _)).1 (by rw [path_leads l.length l i h0 h1 (Nat.le_refl _)])
theorem half_pow : ∀ (f : Nat) (n : Int) (a : Nat), ∃ b, halfF f n (2 ^ a) = 2 ^ b
  | 0, n, a => ⟨a, rfl⟩
  | f + 1, n, a => by
    simp only [halfF]
    split
    · have e : 2 * (2 : Int) ^ a = 2 ^ (a + 1) := by rw [Int.pow_succ, Int.mul_comm]
      rw [e]
      exact half_pow f n (a + 1)
    · exact ⟨a, rfl⟩
theorem len_pow : ∀ (f k : Nat) (i : Int) (n : Nat), n ≤ 2 ^ k → lenF f i n ≤ k
  | 0, k, i, n, h => by simp [lenF]
  | f + 1, k, i, n, h => by
    simp only [lenF]
    by_cases hn : n ≤ 1
    · rw [if_pos hn]
      exact Nat.zero_le _
    · rw [if_neg hn]
      have hp := halfP_spec (n := n) (by omega)
      obtain ⟨b, hb⟩ := half_pow n (n : Int) 0
      have hb' : halfP n = 2 ^ b := by
        unfold halfP
        have : ((2 : Int) ^ 0) = 1 := rfl
        rw [this] at hb
        rw [hb]
        have e : (2 : Int) ^ b = ((2 ^ b : Nat) : Int) := by simp
        rw [e, Int.toNat_natCast]
      have hbk : b < k := by
        rcases Nat.lt_or_ge b k with h' | h'
        · exact h'
        · have := Nat.pow_le_pow_right (show 0 < 2 by decide) h'
          omega
      obtain ⟨j, rfl⟩ : ∃ j, k = j + 1 := ⟨k - 1, by omega⟩
      have h2 : 2 ^ b ≤ 2 ^ j := Nat.pow_le_pow_right (by decide) (by omega)
      split
      · have := len_pow f j i (halfP n) (by omega)
        omega
      · have := len_pow f j (i - halfP n) (n - halfP n) (by omega)
        omega
theorem len_most {f : Nat} {i : Int} {n : Nat} (h : n ≤ 200) : lenF f i n ≤ 14 := by
  have := len_pow f 8 i n (by omega)
  omega

/-! ### what Leads says -/
theorem leads_own {l : List Int} {i : Int} (h0 : 0 ≤ i) (h1 : i < l.length) (hm : l.length ≤ 10000) : leadsE (rootP l) (rd l i) i l.length (pathP l i) = true := by
  unfold leadsE
  rw [if_pos (by omega), Int.toNat_natCast, path_leads l.length l i h0 h1 (Nat.le_refl _)]
  simp
theorem leads_len {r d i : Int} {n : Nat} {p : List Int} (h : leadsE r d i n p = true) : 0 ≤ i ∧ i < n ∧ p.length = lenF n i n ∧ (followF n d i n p).1 = r := by
  unfold leadsE at h
  split at h
  case isFalse => cases h
  rename_i hc
  rw [Int.toNat_natCast] at h
  simp only [Bool.and_eq_true, decide_eq_true_eq] at h
  exact ⟨hc.2.2.1, hc.2.2.2, (follow_len n d i n p hc.2.2.1 hc.2.2.2 (Nat.le_refl _)).1 h.1, h.2⟩
theorem leads_not {r d i : Int} {n : Nat} {p : List Int} (h : ¬ (0 ≤ i ∧ i < n ∧ p.length = lenF n i n)) : leadsE r d i n p = false := by
  cases hb : leadsE r d i n p with
  | false => rfl
  | true =>
    have := leads_len hb
    exact absurd ⟨this.1, this.2.1, this.2.2.1⟩ h

/-! ### ways, from the leaf on -/
def ups : Nat → Int → Nat → List Bool
  | 0, _, _ => []
  | f + 1, i, n => if n ≤ 1 then [] else if i < halfP n then ups f i (halfP n) ++ [true] else ups f (i - halfP n) (n - halfP n) ++ [false]
theorem ups_len : ∀ (f : Nat) (i : Int) (n : Nat), (ups f i n).length = lenF f i n
  | 0, _, _ => rfl
  | f + 1, i, n => by
    simp only [ups, lenF]
    split
    · rfl
    · split
      · rw [List.length_append, ups_len f]; rfl
      · rw [List.length_append, ups_len f]; rfl
def up1 (left : Bool) (a y : Int) : Int := if left then pairP a y else pairP y a
def climb : Int → List Bool → List Int → Int
  | a, t :: ts, y :: ys => climb (up1 t a y) ts ys
  | a, _, _ => a
theorem climb_cons (a : Int) (t : Bool) (ts : List Bool) (y : Int) (ys : List Int) : climb a (t :: ts) (y :: ys) = climb (up1 t a y) ts ys := rfl
theorem climb_nil (a : Int) (ts : List Bool) : climb a ts [] = a := by cases ts <;> rfl
theorem climb_snoc : ∀ (ts : List Bool) (ys : List Int) (a : Int) (t : Bool) (y : Int), ts.length = ys.length → climb a (ts ++ [t]) (ys ++ [y]) = up1 t (climb a ts ys) y
  | [], [], a, t, y, _ => rfl
  | _ :: ts, _ :: ys, a, t, y, h => climb_snoc ts ys _ t y (by simpa using h)
  | [], _ :: _, _, _, _, h => by simp at h
  | _ :: _, [], _, _, _, h => by simp at h
theorem split_last {p : List Int} (h : ¬ p.length = 0) : p = p.take (p.length - 1) ++ [rd p ((p.length : Int) - 1)] := by
  have e : ((p.length : Int) - 1).toNat = p.length - 1 := by omega
  unfold rd
  rw [e, List.getD_eq_getElem?_getD, List.getElem?_eq_getElem (by omega)]
  simp only [Option.getD_some]
  rw [← List.take_succ_eq_append_getElem (by omega)]
  rw [show p.length - 1 + 1 = p.length by omega, List.take_length]
theorem follow_climb : ∀ (f : Nat) (d i : Int) (n : Nat) (p : List Int), 0 ≤ i → i < n → n ≤ f → p.length = lenF f i n → (followF f d i n p).1 = climb (leafP d) (ups f i n) p
  | 0, d, i, n, p, h0, h1, hf, _ => by omega
  | f + 1, d, i, n, p, h0, h1, hf, hl => by
    simp only [lenF] at hl
    simp only [followF, ups]
    by_cases hn : n = 1
    · rw [if_pos hn, if_pos (show n ≤ 1 by omega)]
      rw [if_pos (show n ≤ 1 by omega)] at hl
      rw [List.eq_nil_of_length_eq_zero hl]
      rfl
    · rw [if_neg hn, if_neg (show ¬ n ≤ 1 by omega)]
      rw [if_neg (show ¬ n ≤ 1 by omega)] at hl
      have hp := halfP_spec (n := n) (by omega)
      have he : ¬ p.length = 0 := by
        intro he
        split at hl <;> omega
      rw [if_neg he]
      by_cases hlt : i < halfP n
      · rw [if_pos hlt, if_pos hlt]
        rw [if_pos hlt] at hl
        have hq : (p.take (p.length - 1)).length = lenF f i (halfP n) := by rw [List.length_take]; omega
        have ih := follow_climb f d i (halfP n) (p.take (p.length - 1)) h0 hlt (by omega) hq
        conv => rhs; rw [split_last he]
        rw [climb_snoc _ _ _ _ _ (by rw [ups_len, hq]), ← ih]
        rfl
      · rw [if_neg hlt, if_neg hlt]
        rw [if_neg hlt] at hl
        have hq : (p.take (p.length - 1)).length = lenF f (i - halfP n) (n - halfP n) := by rw [List.length_take]; omega
        have ih := follow_climb f d (i - halfP n) (n - halfP n) (p.take (p.length - 1)) (by omega) (by omega) (by omega) hq
        conv => rhs; rw [split_last he]
        rw [climb_snoc _ _ _ _ _ (by rw [ups_len, hq]), ← ih]
        rfl
/-- What Left tells of a list of turns. -/
def leftAt (t : List Bool) (k : Int) : Bool := if 0 ≤ (t.length : Int) - 1 - k ∧ (t.length : Int) - 1 - k < t.length then rdOf false t ((t.length : Int) - 1 - k) else false
theorem left_loop : ∀ (f : Nat) (i : Int) (n : Nat) (k : Int) (acc : List Bool), 0 ≤ i → i < n → n ≤ f → n ≤ 1000000 → acc.length + f ≤ 1000000000 → 0 ≤ k → k ≤ 1000000000 → Ev (fun r => formeref04_Left.l0 r i (n : Int) k acc) (leftAt (acc ++ (ups f i n).reverse) k)
  | 0, i, n, k, acc, h0, h1, hf, _, _, _, _ => by omega
  | f + 1, i, n, k, acc, h0, h1, hf, hm, ha, hk0, hk1 => by
    simp only [ups]
    by_cases hn : n ≤ 1
    · rw [if_pos hn]
      refine Ev.zero fun r => ?_
      simp only [formeref04_Left.l0, List.reverse_nil, List.append_nil]
      unfold leftAt
      rw [if_neg (by omega), wrap64_id (x := (acc.length : Int) - 1) (by omega) (by omega), wrap64_id (by omega) (by omega)]
      by_cases h2 : 0 ≤ (acc.length : Int) - 1 - k
      · rw [if_pos h2, if_pos (by omega), if_pos h2, if_pos (by omega)]
      · rw [if_neg (by omega), if_neg (by omega)]
    · rw [if_neg hn]
      have hp := halfP_spec (n := n) (by omega)
      by_cases hlt : i < halfP n
      · rw [if_pos hlt, List.reverse_append, ← List.append_assoc]
        refine Ev.succ2 (refhalf_ev (n := n) (by omega) (by omega)) (left_loop f i (halfP n) k (acc ++ [true]) h0 hlt (by omega) (by omega) (by simp; omega) hk0 hk1) fun r e1 e2 => ?_
        simp only [formeref04_Left.l0]
        rw [if_pos (by omega), e1]
        simp only [Option.bind_some]
        rw [if_pos hlt, if_pos (by omega)]
        exact e2
      · rw [if_neg hlt, List.reverse_append, ← List.append_assoc]
        refine Ev.succ2 (refhalf_ev (n := n) (by omega) (by omega)) (left_loop f (i - halfP n) (n - halfP n) k (acc ++ [false]) (by omega) (by omega) (by omega) (by omega) (by simp; omega) hk0 hk1) fun r e1 e2 => ?_
        have c : ((n - halfP n : Nat) : Int) = (n : Int) - halfP n := by omega
        rw [c] at e2
        simp only [formeref04_Left.l0]
        rw [if_pos (by omega), e1]
        simp only [Option.bind_some]
        rw [if_neg hlt, if_pos (by omega), wrap64_id (x := i - halfP n) (by omega) (by omega), wrap64_id (x := (n : Int) - halfP n) (by omega) (by omega)]
        exact e2
theorem left_ev {i : Int} {n k : Nat} (h0 : 0 ≤ i) (h1 : i < n) (hm : n ≤ 1000000) (hk : k < (ups n i n).length) : Ev (fun r => formeref04_Left.f r i (n : Int) (k : Int)) ((ups n i n)[k]) := by
  have hl := ups_len n i n
  have hb := len_pow n 20 i n (by omega)
  have h := left_loop n i n (k : Int) [] h0 h1 (Nat.le_refl _) hm (by simp; omega) (by omega) (by omega)
  have e : leftAt ([] ++ (ups n i n).reverse) (k : Int) = (ups n i n)[k] := by
    rw [List.nil_append]
    unfold leftAt
    rw [List.length_reverse, if_pos (by omega)]
    unfold rdOf
    have e1 : (((ups n i n).length : Int) - 1 - (k : Int)).toNat = (ups n i n).length - 1 - k := by omega
    rw [e1, List.getD_eq_getElem?_getD, List.getElem?_reverse (by omega)]
    have e2 : (ups n i n).length - 1 - ((ups n i n).length - 1 - k) = k := by omega
    rw [e2, List.getElem?_eq_getElem hk]
    rfl
  rw [← e]
  exact h

/-! ### two ways meet -/
theorem pair_at (b : Bool) (a y : Int) : up1 b a y = if b then pairP a y else pairP y a := rfl
theorem meets_loop {i : Int} {n : Nat} {p q : List Int} (h0 : 0 ≤ i) (h1 : i < n) (hm : n ≤ 1000000) (hp : p.length = (ups n i n).length) (hq : q.length = (ups n i n).length) :
    ∀ (m k : Nat) (a b : Int), k + m = p.length → a ≠ b → climb a ((ups n i n).drop k) (p.drop k) = climb b ((ups n i n).drop k) (q.drop k) → Ev (fun r => formelaw04_meets.l0 r i (n : Int) p q a b (p.length : Int) (k : Int)) true := by
  have hl := ups_len n i n
  have hb := len_pow n 20 i n (by omega)
  intro m
  induction m with
  | zero =>
    intro k a b hk hab hc
    rw [drop_all (l := p) (by omega), drop_all (l := q) (by omega)] at hc
    exfalso
    apply hab
    rwa [climb_nil, climb_nil] at hc
  | succ m ih =>
    intro k a b hk hab hc
    have hk1 : k < (ups n i n).length := by omega
    have hk2 : k < p.length := by omega
    have hk3 : k < q.length := by omega
    rw [drop_get hk1, drop_get hk2, drop_get hk3] at hc
    have r1 : rd p (k : Int) = p[k] := rd_at hk2
    have r2 : rd q (k : Int) = q[k] := rd_at hk3
    have hc' := hc
    rw [climb_cons, climb_cons] at hc'
    have L := Ev.p (left_ev h0 h1 hm hk1)
    have P1 := Ev.p (pair_ev a p[k])
    have P2 := Ev.p (pair_ev b q[k])
    have P3 := Ev.p (pair_ev p[k] a)
    have P4 := Ev.p (pair_ev q[k] b)
    by_cases he : up1 (ups n i n)[k] a p[k] = up1 (ups n i n)[k] b q[k]
    · obtain ⟨K, hK⟩ := L.and ((P1.and P2).and (P3.and P4))
      refine ⟨K + 1, fun r hr => ?_⟩
      obtain ⟨r, rfl⟩ : ∃ s, r = s + 1 := ⟨r - 1, by omega⟩
      obtain ⟨e1, ⟨e2, e3⟩, e4, e5⟩ := hK r (by omega)
      unfold up1 at he
      generalize pairP a p[k] = x2 at e2 he
      generalize pairP b q[k] = x3 at e3 he
      generalize pairP p[k] a = x4 at e4 he
      generalize pairP q[k] b = x5 at e5 he
      show formelaw04_meets.l0 (r + 1) i (n : Int) p q a b (p.length : Int) (k : Int) = some true
      simp only [formelaw04_meets.l0]
      rw [if_pos (by omega), e1]
      rw [Option.bind_some]
      rw [if_pos (by omega), if_pos (by omega), r1, e2]
      rw [Option.bind_some]
      rw [if_pos (by omega), r2, e3]
      rw [Option.bind_some]
      cases hb : (ups n i n)[k] with
      | true =>
        rw [hb] at he
        simp only [if_true] at he
        rw [if_pos (show true = true from rfl), if_pos he, if_neg hab]
      | false =>
        rw [hb] at he
        simp only [Bool.false_eq_true, if_false] at he
        rw [if_neg (show ¬ false = true by simp), e4]
        rw [Option.bind_some]
        rw [e5]
        rw [Option.bind_some]
        rw [if_pos he, if_neg hab]
    · have i1 := Ev.p (ih (k + 1) _ _ (by omega) he hc')
      obtain ⟨K, hK⟩ := i1.and (L.and ((P1.and P2).and (P3.and P4)))
      refine ⟨K + 1, fun r hr => ?_⟩
      obtain ⟨r, rfl⟩ : ∃ s, r = s + 1 := ⟨r - 1, by omega⟩
      obtain ⟨e0, e1, ⟨e2, e3⟩, e4, e5⟩ := hK r (by omega)
      unfold up1 at he e0
      generalize pairP a p[k] = x2 at e0 e2 he
      generalize pairP b q[k] = x3 at e0 e3 he
      generalize pairP p[k] a = x4 at e0 e4 he
      generalize pairP q[k] b = x5 at e0 e5 he
      show formelaw04_meets.l0 (r + 1) i (n : Int) p q a b (p.length : Int) (k : Int) = some true
      simp only [formelaw04_meets.l0]
      rw [if_pos (by omega), e1]
      rw [Option.bind_some]
      rw [if_pos (by omega), if_pos (by omega), r1, e2]
      rw [Option.bind_some]
      rw [if_pos (by omega), r2, e3]
      rw [Option.bind_some]
      rw [wrap_next (by omega)]
      cases hb : (ups n i n)[k] with
      | true =>
        rw [hb] at he e0
        simp only [if_true] at he e0
        rw [if_pos (show true = true from rfl), if_neg he]
        exact e0
      | false =>
        rw [hb] at he e0
        simp only [Bool.false_eq_true, if_false] at he e0
        rw [if_neg (show ¬ false = true by simp), e4]
        rw [Option.bind_some]
        rw [e5]
        rw [Option.bind_some]
        rw [if_neg he]
        exact e0
/-- Two ways of the right length to one root, from two digests, meet. -/
theorem meets_ev {d e i : Int} {n : Nat} {p q : List Int} (h0 : 0 ≤ i) (h1 : i < n) (hm : n ≤ 1000000) (hp : p.length = lenF n i n) (hq : q.length = lenF n i n) (hr : (followF n d i n p).1 = (followF n e i n q).1) : Ev (fun r => formelaw04_meets.f r d e i (n : Int) p q) true := by
  have hl := ups_len n i n
  by_cases he : leafP d = leafP e
  · refine Ev.same2 (leaf_ev d) (leaf_ev e) fun r e1 e2 => ?_
    generalize leafP d = a at e1 he
    generalize leafP e = b at e2 he
    unfold formelaw04_meets.f
    rw [e1]
    rw [Option.bind_some]
    rw [e2]
    rw [Option.bind_some]
    rw [if_pos he]
  · rw [follow_climb n d i n p h0 h1 (Nat.le_refl _) hp, follow_climb n e i n q h0 h1 (Nat.le_refl _) hq] at hr
    have i1 := Ev.p (meets_loop (p := p) (q := q) h0 h1 hm (by omega) (by omega) p.length 0 _ _ (by omega) he (by rw [List.drop_zero, List.drop_zero, List.drop_zero]; exact hr))
    obtain ⟨K, hK⟩ := i1.and ((Ev.p (leaf_ev d)).and (Ev.p (leaf_ev e)))
    refine ⟨K, fun r hr => ?_⟩
    obtain ⟨e0, e1, e2⟩ := hK r hr
    generalize leafP d = a at e0 e1 he
    generalize leafP e = b at e0 e2 he
    show formelaw04_meets.f r d e i (n : Int) p q = some true
    unfold formelaw04_meets.f
    rw [e1]
    rw [Option.bind_some]
    rw [e2]
    rw [Option.bind_some]
    rw [if_neg he]
    exact e0
end Go.Proofs.YtffmflmpiekcfaaDoor.Plain
