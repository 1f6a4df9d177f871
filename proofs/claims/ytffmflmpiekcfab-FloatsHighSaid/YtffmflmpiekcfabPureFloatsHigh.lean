/- The plain statement of FloatsHigh: a float stands as high as it can. -/
import Derived.Test.YtffmflmpiekcfabStmFloatsHigh
import Derived.Test.YtffmflmpiekcfabPlainE
namespace Go.Proofs.Ytffmflmpiekcfab.FloatsHighPure
open Go.RowKit Go.Proofs.Ytffmflmpiekcfab.PAll Go.Proofs.Ytffmflmpiekcfab.Plain Go.Proofs.YtffmflmpiekcfabW.PrintWords Go.Proofs.YtffmflmpiekcfabW.PrintLast Go.Proofs.YtffmflmpiekcfabW.PrintMore Go.Proofs.YtffmflmpiekcfabGlib
def less (s : S43) : S43 := ⟨s.f0, s.f1 % 300, s.f2, s.f3 % 100⟩
theorem shape_of {s : S43} (h : FloatsHighStm.okS43 s) : ShapeOk s := by
  have h0 := wfu8 h.1
  have h1 := wfu16 h.2.1
  have h2 := wfu16 h.2.2.1
  have h3 := wfu16 h.2.2.2
  unfold ShapeOk
  omega
theorem less_ok {s : S43} (h : ShapeOk s) : ShapeOk (less s) ∧ (less s).f1 ≤ 299 ∧ (less s).f3 ≤ 99 := by
  unfold ShapeOk at h ⊢
  unfold less
  simp only []
  omega
theorem rd43_at {l : List S43} {n : Nat} (h : n < l.length) : rd_T43 l (n : Int) = l[n] := by
  unfold rd_T43
  exact getD_at h
theorem rd_last (l : List S41) (x : S41) : rd_T41 (l ++ [x]) (l.length : Int) = x := by
  have h : l.length < (l ++ [x]).length := by simp
  rw [rd_at h]
  simp
theorem one_more (n : Int) : n < n + 1 := by omega
theorem free_at {l : List S41} (hl : l.length ≤ 100) (W a ww h : Int) : Ev (fun k => formeref20_Free.f k l W a ww h) (fitsP l W ww h a) := free_ev (by omega) W a ww h
theorem down_loop (l : List S41) (hl : l.length ≤ 100) (W ww h y x0 x1 x3 x4 a : Int) (ha : a ≤ 5000) (hb : ∀ b, y ≤ b → b < a → fitsP l W ww h b = false) : ∀ (d : Nat) (t : Int), 0 ≤ t → y ≤ t → a - t ≤ d →
    Ev (fun k => formelaw20_FloatsHigh.l2 k true W l ww h t x0 x1 a x3 x4) true := by
  intro d
  induction d with
  | zero =>
    intro t h0 hy hd
    refine Ev.zero fun k => ?_
    simp only [formelaw20_FloatsHigh.l2]
    rw [if_neg (by omega)]
  | succ d ih =>
    intro t h0 hy hd
    by_cases hlt : t < a
    · refine Ev.succ2 (free_at hl W t ww h) (ih (t + 1) (by omega) (by omega) (by omega)) fun k q1 q2 => ?_
      simp only [formelaw20_FloatsHigh.l2]
      rw [if_pos hlt, q1, hb t hy hlt, wrap64_id (by omega) (by omega)]
      simp only [Option.bind_some]
      rw [if_neg (by decide)]
      exact q2
    · refine Ev.zero fun k => ?_
      simp only [formelaw20_FloatsHigh.l2]
      rw [if_neg hlt]
theorem top_loop (l out : List S41) (hl : l.length ≤ 100) (hout : out.take l.length = l) (hol : l.length ≤ out.length) (W ww h y x0 x1 x3 x4 a : Int) (hy : 0 ≤ y) (hya : topY l y ≤ a) (ha : a ≤ 5000) (hfit : fitsP l W ww h a = true) (hb : ∀ b, topY l y ≤ b → b < a → fitsP l W ww h b = false) : ∀ (d n : Nat) (m : Int), n + d = l.length → topY (l.drop n) m = topY l y →
    Ev (fun k => formelaw20_FloatsHigh.l1 k true W l ww h out m (n : Int) x0 x1 a x3 x4) true := by
  have hty := (topY_spec l y).1
  intro d
  induction d with
  | zero =>
    intro n m hn hm
    rw [drop_all (by omega)] at hm
    have hm : m = topY l y := hm
    subst hm
    obtain ⟨K, hK⟩ := (Ev.p (ref_same_ev (l := l) (out.take l.length) (by omega))).and ((Ev.p (free_at hl W a ww h)).and (Ev.p (down_loop l hl W ww h (topY l y) x0 x1 x3 x4 a ha hb (a - topY l y).toNat (topY l y) (by omega) (by omega) (by omega))))
    refine ⟨K + 2, fun k hk => ?_⟩
    obtain ⟨k, rfl⟩ : ∃ m, k = m + 2 := ⟨k - 2, by omega⟩
    obtain ⟨q1, q2, _⟩ := hK (k + 1) (by omega)
    obtain ⟨_, _, q3⟩ := hK k (by omega)
    rw [hout] at q1
    simp only [formelaw20_FloatsHigh.l1]
    rw [if_neg (by omega), if_neg (by omega), if_neg (by omega), if_pos (show (0 : Int) ≤ (l.length : Int) by omega), if_pos (by omega), Int.toNat_natCast, hout, q1]
    simp only [Option.bind_some, decide_true, if_true]
    rw [q2, hfit]
    simp only [Option.bind_some, formelaw20_FloatsHigh.j3, Bool.not_true]
    rw [if_neg (by decide)]
    exact q3
  | succ d ih =>
    intro n m hn hm
    have hlt : n < l.length := by omega
    rw [drop_get hlt] at hm
    refine Ev.succ (ih (n + 1) (mx m l[n].f2) (by omega) hm) fun k hk => ?_
    simp only [formelaw20_FloatsHigh.l1]
    rw [if_pos (by omega), if_pos (show (0 : Int) ≤ (n : Int) by omega), rd_at hlt, wrap_next (by omega)]
    exact hk
theorem set_at {α : Type} (pre : List α) (x : α) (post : List α) (z : α) : (pre ++ x :: post).set pre.length z = pre ++ z :: post := by
  induction pre with
  | nil => rfl
  | cons a l ih => simp [ih]
theorem less_loop (xs : List S43) (hok : ∀ s ∈ xs, ShapeOk s) (hlen : xs.length ≤ 20) (W b0 b1 b2 b3 : Int) (hR : Ev (fun k => formelaw20_FloatsHigh.l0 k W true (xs.map less) (xs.length : Int) b0 b1 b2 b3) true) : ∀ (d n : Nat), n + d = xs.length →
    Ev (fun k => formelaw20_FloatsHigh.l0 k W true ((xs.take n).map less ++ xs.drop n) (n : Int) b0 b1 b2 b3) true := by
  intro d
  induction d with
  | zero =>
    intro n hn
    have : n = xs.length := by omega
    subst this
    rw [List.take_of_length_le (by omega), drop_all (by omega), List.append_nil]
    exact hR
  | succ d ih =>
    intro n hn
    have hlt : n < xs.length := by omega
    have hs := hok _ (List.getElem_mem hlt)
    refine Ev.succ (ih (n + 1) (by omega)) fun k hk => ?_
    rw [List.take_succ_eq_append_getElem hlt, List.map_append] at hk
    rw [drop_get hlt]
    generalize hpre : (xs.take n).map less = pre at hk
    have hpl : pre.length = n := by rw [← hpre]; simp; omega
    generalize xs.drop (n + 1) = post at hk
    generalize hx : xs[n] = x at hk hs
    have hl0 : n < (pre ++ x :: post).length := by simp; omega
    simp only [formelaw20_FloatsHigh.l0]
    have r0 : rd_T43 (pre ++ x :: post) (n : Int) = x := by
      rw [rd43_at hl0]
      subst hpl
      simp
    have e0 : (pre ++ x :: post).set (n : Int).toNat ⟨x.f0, Int.tmod x.f1 300, x.f2, x.f3⟩ = pre ++ ⟨x.f0, Int.tmod x.f1 300, x.f2, x.f3⟩ :: post := by
      rw [Int.toNat_natCast]
      subst hpl
      exact set_at _ _ _ _
    have hl1 : n < (pre ++ (⟨x.f0, Int.tmod x.f1 300, x.f2, x.f3⟩ : S43) :: post).length := by simp; omega
    have r1 : rd_T43 (pre ++ (⟨x.f0, Int.tmod x.f1 300, x.f2, x.f3⟩ : S43) :: post) (n : Int) = ⟨x.f0, Int.tmod x.f1 300, x.f2, x.f3⟩ := by
      rw [rd43_at hl1]
      subst hpl
      simp
    rw [if_pos (by omega), if_pos (show (0 : Int) ≤ (n : Int) by omega)]
    simp only [Option.bind_some]
    rw [r0, e0, r1, Int.toNat_natCast]
    have e1 : (pre ++ (⟨x.f0, Int.tmod x.f1 300, x.f2, x.f3⟩ : S43) :: post).set n ⟨x.f0, Int.tmod x.f1 300, x.f2, Int.tmod x.f3 100⟩ = pre ++ [less x] ++ post := by
      have : (⟨x.f0, Int.tmod x.f1 300, x.f2, Int.tmod x.f3 100⟩ : S43) = less x := by
        unfold ShapeOk at hs
        unfold less
        rw [Int.tmod_eq_emod_of_nonneg (by omega), Int.tmod_eq_emod_of_nonneg (by omega)]
      rw [this]
      subst hpl
      rw [set_at]
      simp
    simp only []
    rw [e1, wrap_next (by omega)]
    simpa using hk
set_option maxHeartbeats 1000000 in
theorem proved : FloatsHighStm.Pure := by
  intro xs W s hok hW hs
  have hW := wfu16 hW
  have hsh : ∀ s ∈ xs, ShapeOk s := fun s hs => shape_of (hok.2 s hs)
  have hs := shape_of hs
  have hs' := hs
  unfold ShapeOk at hs'
  by_cases hlen : (xs.length : Int) > 20
  · refine (Ev.same head_ev fun k q => ?_ : Ev (fun k => formelaw20_FloatsHigh.f k xs W s.f0 s.f1 s.f2 s.f3) true).rounds
    unfold formelaw20_FloatsHigh.f
    rw [q]
    simp only [Option.bind_some]
    rw [if_pos hlen]
  · have hd : (xs.length : Int) * 99 ≤ 20 * 99 := Int.mul_le_mul_of_nonneg_right (by omega) (by omega)
    have hsh' : ∀ z ∈ xs.map less, ShapeOk z ∧ z.f1 ≤ 299 ∧ z.f3 ≤ 99 := fun z hz => by
      obtain ⟨q, hq, rfl⟩ := List.mem_map.1 hz
      exact less_ok (hsh q hq)
    obtain ⟨p1, g0⟩ := placed_loop (xs.map less) (fun z hz => (hsh' z hz).1) W 99 299 hW (fun z hz => (hsh' z hz).2.1) (fun z hz => (hsh' z hz).2.2) (by omega) false (by simp; omega) (xs.map less).length 0 [] 299 (by omega) rfl (by omega) (by simp; omega) (Lies.nil _ _)
    rw [List.drop_zero] at p1 g0
    have hl := placeAll_len W false (xs.map less) []
    simp only [List.length_nil, Nat.zero_add, List.length_map] at hl
    have p1 : Ev (fun k => formelaw20_placed.f k (xs.map less) W false) (placeAll W false (xs.map less) [], true) := by simpa [formelaw20_placed.f] using p1
    generalize placeAll W false (xs.map less) [] = l at p1 g0 hl
    have g : Lies l W 2300 := ⟨g0.fine, g0.inside, fun f hf => by have := g0.low f hf; simp only [List.length_map] at this; omega⟩
    obtain ⟨x, a, lo, hi, st⟩ := next_spec (w := W) (ww := s.f2) (l := l) (by omega) g.fine (by omega) (by omega) (sideOf s) (s.f1 % 300) (s.f3 % 100)
    have hab := st.bound g.fine (M := 2300) (by omega) g.low
    have hta := st.above
    have hans := ok_ans (y := s.f1 % 300) (ww := s.f2) (h := s.f3 % 100) g (by omega) (by omega) (side_eq hs).2.1 (by omega) (by omega) (by omega) (by rw [st.is_]; simp only []; omega)
    rw [st.is_] at hans
    have hhigh := fun b => st.highest (b := b) g.fine (by omega) (by omega) (by omega) (by omega)
    have ht := top_loop l (l ++ [⟨sideOf s, x, a, s.f2, s.f3 % 100⟩]) (by omega) (by simp) (by simp) W s.f2 (s.f3 % 100) (s.f1 % 300) (sideOf s) x s.f2 (s.f3 % 100) a (by omega) hta (by omega) st.fits hhigh l.length 0 (s.f1 % 300) (by omega) rfl
    rw [Int.natCast_zero] at ht
    have hR : Ev (fun k => formelaw20_FloatsHigh.l0 k W true (xs.map less) (xs.length : Int) s.f0 s.f1 s.f2 s.f3) true := by
      obtain ⟨K, hK⟩ := (Ev.p p1).and (Ev.p ht)
      refine ⟨K + 2, fun k hk => ?_⟩
      obtain ⟨k, rfl⟩ : ∃ m, k = m + 2 := ⟨k - 2, by omega⟩
      obtain ⟨q1, _⟩ := hK (k + 1) (by omega)
      obtain ⟨_, q2⟩ := hK k (by omega)
      have w1 : wrap64 W = W := wrap64_id (by omega) (by omega)
      have w2 : wrap64 s.f2 = s.f2 := wrap64_id (by omega) (by omega)
      have t1 : Int.tmod s.f1 300 = s.f1 % 300 := Int.tmod_eq_emod_of_nonneg (by omega)
      have t3 : Int.tmod s.f3 100 = s.f3 % 100 := Int.tmod_eq_emod_of_nonneg (by omega)
      have w3 : wrap64 (s.f1 % 300) = s.f1 % 300 := wrap64_id (by omega) (by omega)
      have w4 : wrap64 (s.f3 % 100) = s.f3 % 100 := wrap64_id (by omega) (by omega)
      simp only [formelaw20_FloatsHigh.l0]
      rw [if_neg (by simp), w1, w2, t1, t3, w3, w4, q1, (side_eq hs).1]
      simp only [Option.bind_some, place_of, hans, if_true]
      have hwl : wrap64 ((l.length : Int) + 1) = l.length + 1 := wrap64_id (by omega) (by omega)
      rw [hwl]
      simp only [List.length_append, List.length_cons, List.length_nil, Int.natCast_add, Nat.zero_add, Int.natCast_one, bne_self_eq_false, formelaw20_FloatsHigh.j1]
      rw [if_neg Bool.false_ne_true, if_pos (Int.natCast_nonneg l.length), if_pos (one_more (l.length : Int))]
      rw [rd_last]
      exact q2
    have h0 := less_loop xs hsh (by omega) W s.f0 s.f1 s.f2 s.f3 hR xs.length 0 (by omega)
    refine (Ev.same2 head_ev h0 fun k q1 q2 => ?_ : Ev (fun k => formelaw20_FloatsHigh.f k xs W s.f0 s.f1 s.f2 s.f3) true).rounds
    unfold formelaw20_FloatsHigh.f
    rw [q1]
    simp only [Option.bind_some]
    rw [if_neg hlen, if_pos (by simp; omega), List.nil_append]
    simpa using q2
end Go.Proofs.Ytffmflmpiekcfab.FloatsHighPure
