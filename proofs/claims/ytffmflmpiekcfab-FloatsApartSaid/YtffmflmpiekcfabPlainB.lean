/- Plain facts on layer 20 (floats): placing a float, the reference's search and the program's, come to one place. -/
import Derived.Test.YtffmflmpiekcfabPlain
namespace Go.Proofs.Ytffmflmpiekcfab.Plain
open Go.RowKit Go.Proofs.Ytffmflmpiekcfab.PAll Go.Proofs.YtffmflmpiekcfabW.PrintWords Go.Proofs.YtffmflmpiekcfabW.PrintLast Go.Proofs.YtffmflmpiekcfabW.PrintMore Go.Proofs.YtffmflmpiekcfabGlib

theorem room_flag (y h : Int) : ∀ (l : List S41) (s : Int × Int × Bool), (l.foldl (roomStep y h) s).2.2 = (s.2.2 || l.any fun f => besideB f y h)
  | [], s => by simp
  | f :: l, s => by
    rw [List.foldl_cons, room_flag y h l]
    simp only [List.any_cons]
    unfold roomStep
    cases hb : besideB f y h with
    | true => simp only [if_true]; split <;> simp
    | false => simp
theorem free_loop (l : List S41) (hl : l.length < 9223372036854775807) (w at_ ww h : Int) : ∀ (d n : Nat) (b : Bool), n + d = l.length →
    Ev (fun k => formeref20_Free.l0 k l w at_ ww h b (n : Int)) ((b && (l.drop n).all fun f => !besideB f at_ h) || decide (ww ≤ wrap64 ((roomP l w at_ h).2.1 - (roomP l w at_ h).1))) := by
  intro d
  induction d with
  | zero =>
    intro n b hn
    refine Ev.succ (ref_room_ev hl w at_ h) fun k hk => ?_
    simp only [formeref20_Free.l0]
    rw [if_neg (by omega), drop_all (by omega), hk]
    simp only [Option.bind_some, List.all_nil, Bool.and_true]
    cases b <;> rfl
  | succ d ih =>
    intro n b hn
    have hlt : n < l.length := by omega
    rw [drop_get hlt]
    simp only [List.all_cons]
    refine Ev.succ (ih (n + 1) (b && !besideB l[n] at_ h) (by omega)) fun k hk => ?_
    simp only [formeref20_Free.l0]
    rw [if_pos (by omega), if_pos (by omega), rd_at hlt, ref_beside_of, wrap_next (by omega)]
    simp only [Option.bind_some]
    rw [← Bool.and_assoc, ← hk]
    cases b <;> simp
theorem free_ev {l : List S41} (hl : l.length < 9223372036854775807) (w at_ ww h : Int) : Ev (fun k => formeref20_Free.f k l w at_ ww h) (fitsP l w ww h at_) := by
  refine Ev.same (free_loop l hl w at_ ww h l.length 0 true (by omega)) fun k hk => ?_
  unfold formeref20_Free.f
  rw [Int.natCast_zero] at hk
  rw [hk]
  congr 1
  have hf : (roomP l w at_ h).2.2 = l.any fun f => besideB f at_ h := by
    unfold roomP
    rw [room_flag]
    simp
  unfold fitsP
  rw [hf]
  simp only [List.drop_zero, Bool.true_and]
  have e : (l.all fun f => !besideB f at_ h) = !(l.any fun f => besideB f at_ h) := by
    induction l with
    | nil => rfl
    | cons f l ih => simp [List.all_eq_not_any_not]
  rw [e]
  generalize (l.any fun f => besideB f at_ h) = b
  generalize wrap64 ((roomP l w at_ h).2.1 - (roomP l w at_ h).1) = r
  by_cases hr : ww ≤ r
  · cases b <;> simp [hr, show ¬ ww > r by omega]
  · cases b <;> simp [hr, show ww > r by omega]

/-! ### the reference's search -/
theorem beside_bottom {f : S41} {y h : Int} (hb : besideB f y h = true) : bottomOf f > y ∧ f.f4 > 0 ∧ f.f2 < wrap64 (y + mx h 1) := by
  have h0 := beside_of f y h
  rw [hb] at h0
  unfold floats_placed_beside.f floats_placed_bottom.f at h0
  split at h0
  · rename_i h4
    split at h0
    · rename_i h2
      simp only [Option.bind_some, Option.some.injEq, decide_eq_true_eq] at h0
      exact ⟨h0, h4, h2⟩
    · cases h0
  · cases h0
theorem beside_iff (f : S41) (y h : Int) : besideB f y h = true ↔ bottomOf f > y ∧ f.f4 > 0 ∧ f.f2 < wrap64 (y + mx h 1) := by
  refine ⟨beside_bottom, fun ⟨h1, h2, h3⟩ => ?_⟩
  unfold besideB floats_placed_beside.f floats_placed_bottom.f
  rw [if_pos h2, if_pos h3]
  simp only [Option.bind_some, Option.getD_some, decide_eq_true_eq]
  exact h1
def nxtStep (at_ m : Int) (f : S41) : Int := if bottomOf f > at_ then mn m (bottomOf f) else m
theorem nxt_le (at_ : Int) : ∀ (l : List S41) (m : Int), l.foldl (nxtStep at_) m ≤ m ∧ (∀ g ∈ l, bottomOf g > at_ → l.foldl (nxtStep at_) m ≤ bottomOf g) ∧ (l.foldl (nxtStep at_) m = m ∨ ∃ g ∈ l, bottomOf g > at_ ∧ l.foldl (nxtStep at_) m = bottomOf g)
  | [], m => ⟨by simp, by simp, .inl rfl⟩
  | f :: l, m => by
    obtain ⟨h1, h2, h3⟩ := nxt_le at_ l (nxtStep at_ m f)
    rw [List.foldl_cons]
    have hs : nxtStep at_ m f ≤ m ∧ (bottomOf f > at_ → nxtStep at_ m f ≤ bottomOf f) ∧ (nxtStep at_ m f = m ∨ bottomOf f > at_ ∧ nxtStep at_ m f = bottomOf f) := by
      unfold nxtStep
      rw [mn_eq]
      split <;> omega
    obtain ⟨s1, s2, s3⟩ := hs
    refine ⟨by omega, ?_, ?_⟩
    · intro g hg hgt
      rcases List.mem_cons.1 hg with rfl | hg
      · have := s2 hgt; omega
      · exact h2 g hg hgt
    · rcases h3 with h3 | ⟨g, hg, hgt, h3⟩
      · rcases s3 with s3 | ⟨s3, s4⟩
        · exact .inl (by omega)
        · exact .inr ⟨f, List.mem_cons_self, s3, by omega⟩
      · exact .inr ⟨g, List.mem_cons_of_mem _ hg, hgt, h3⟩
theorem find_least (p : Int → Bool) (a : Int) (hp : p a = true) : ∀ s : List Int, s.Pairwise (· ≤ ·) → a ∈ s → (∀ c ∈ s, c < a → p c = false) → s.find? p = some a
  | [], _, h, _ => by cases h
  | x :: s, hs, ha, hl => by
    have hs' := List.pairwise_cons.1 hs
    by_cases hx : x = a
    · subst hx; simp [hp]
    · have ha' : a ∈ s := by
        rcases List.mem_cons.1 ha with h | h
        · exact absurd h.symm hx
        · exact h
      have : x < a := by have := hs'.1 a ha'; omega
      rw [List.find?_cons, hl x List.mem_cons_self this]
      exact find_least p a hp s hs'.2 ha' (fun c hc => hl c (List.mem_cons_of_mem _ hc))
theorem mem_ends {l : List S41} {y0 c : Int} : c ∈ endsP l y0 ↔ c = y0 ∨ y0 < c ∧ ∃ g ∈ l, bottomOf g = c := by
  unfold endsP
  simp only [List.mem_cons, List.mem_filter, List.mem_map, decide_eq_true_eq]
  constructor
  · rintro (h | ⟨h1, h2⟩)
    · exact .inl h
    · exact .inr ⟨h2, h1⟩
  · rintro (h | ⟨h1, h2⟩)
    · exact .inl h
    · exact .inr ⟨h2, h1⟩

/-- What a float comes to at a height. -/
def atAns (l : List S41) (w side at_ ww h : Int) : List S41 × Int :=
  if at_ > 1000000000 then ([], 3) else (l ++ [⟨side, if side = 2 then mx 0 (wrap64 ((roomP l w at_ h).2.1 - ww)) else (roomP l w at_ h).1, at_, ww, h⟩], 0)

theorem ref_place_l3 (l : List S41) (hl : l.length ≤ 200) (side ww h at_ x : Int) : ∀ (d n : Nat) (acc : List S41), n + d = l.length → acc.length = n →
    Ev (fun k => formeref20_Place.l3 k l side ww h at_ x acc (n : Int)) (acc ++ l.drop n ++ [⟨side, x, at_, ww, h⟩], 0) := by
  intro d
  induction d with
  | zero =>
    intro n acc hn ha
    refine Ev.zero fun k => ?_
    simp only [formeref20_Place.l3]
    rw [if_neg (by omega), if_pos (by omega), drop_all (by omega), List.append_nil]
  | succ d ih =>
    intro n acc hn ha
    have hlt : n < l.length := by omega
    refine Ev.succ (ih (n + 1) (acc ++ [l[n]]) (by omega) (by simp [ha])) fun k hk => ?_
    simp only [formeref20_Place.l3]
    rw [if_pos (by omega), if_pos (by omega), if_pos (by omega), rd_at hlt, wrap_next (by omega)]
    refine hk.trans ?_
    rw [drop_get hlt]
    simp
theorem ref_place_stop (l : List S41) (hl : l.length ≤ 200) (w side ww h at_ : Int) : Ev (fun k => formeref20_Place.l1 k l w side ww h at_ true) (atAns l w side at_ ww h) := by
  have hl' : l.length < 9223372036854775807 := by omega
  obtain ⟨K, hK⟩ := (Ev.p (ref_room_ev hl' w at_ h)).and (Ev.p (ref_place_l3 l hl side ww h at_ (if side = 2 then mx 0 (wrap64 ((roomP l w at_ h).2.1 - ww)) else (roomP l w at_ h).1) l.length 0 [] (by omega) rfl))
  refine ⟨K + 2, fun k hk => ?_⟩
  obtain ⟨k, rfl⟩ : ∃ m, k = m + 2 := ⟨k - 2, by omega⟩
  have h1 := (hK (k + 1) (by omega)).1
  have h2 := (hK k (by omega)).2
  simp only [formeref20_Place.l1]
  unfold atAns
  by_cases hb : at_ > 1000000000
  · rw [if_pos hb]; simp [hb]
  · rw [if_neg hb, if_neg hb]
    simp only [if_true]
    rw [h1]
    simp only [Option.bind_some, formeref20_Place.j4]
    rw [Int.natCast_zero] at h2
    by_cases hs : side = 2
    · simp only [if_pos hs] at h2 ⊢
      rw [h2]; simp
    · simp only [if_neg hs] at h2 ⊢
      rw [h2]; simp
theorem ref_place_l2 (l : List S41) (hl : l.length < 9223372036854775807) (w side ww h at_ nx : Int) (R : List S41 × Int) (hR : Ev (fun k => formeref20_Place.l1 k l w side ww h nx (fitsP l w ww h nx)) R) : ∀ (d n : Nat) (m : Int), n + d = l.length → (l.drop n).foldl (nxtStep at_) m = nx →
    Ev (fun k => formeref20_Place.l2 k l w side ww h at_ m (n : Int)) R := by
  intro d
  induction d with
  | zero =>
    intro n m hn hm
    rw [drop_all (by omega)] at hm
    simp only [List.foldl_nil] at hm
    subst hm
    refine Ev.succ2 (free_ev hl w m ww h) hR fun k hk hk' => ?_
    simp only [formeref20_Place.l2]
    rw [if_neg (by omega)]
    rw [hk, Option.bind_some, hk']
  | succ d ih =>
    intro n m hn hm
    have hlt : n < l.length := by omega
    rw [drop_get hlt, List.foldl_cons] at hm
    refine Ev.succ (ih (n + 1) (nxtStep at_ m l[n]) (by omega) hm) fun k hk => ?_
    simp only [formeref20_Place.l2]
    rw [if_pos (by omega), if_pos (by omega), rd_at hlt, wrap_next (by omega), ← hk]
    unfold nxtStep bottomOf
    split <;> rfl
theorem ref_place_l1 (l : List S41) (hl : l.length ≤ 200) (hf : ∀ f ∈ l, Fine f) (w side ww h y0 : Int) : ∀ (m : Nat) (at_ : Int), (2000000000 - at_).toNat ≤ m → at_ ∈ endsP l y0 → (∀ c ∈ endsP l y0, c < at_ → fitsP l w ww h c = false) →
    ∃ a, (heightsP l y0).find? (fitsP l w ww h) = some a ∧ Ev (fun k => formeref20_Place.l1 k l w side ww h at_ (fitsP l w ww h at_)) (atAns l w side a ww h) := by
  have hl' : l.length < 9223372036854775807 := by omega
  intro m
  induction m with
  | zero =>
    intro at_ hm hin hle
    cases hfit : fitsP l w ww h at_ with
    | true => exact ⟨at_, find_least _ _ hfit _ (isort_sorted _) ((isort_perm _).mem_iff.2 hin) (fun c hc => hle c ((isort_perm _).mem_iff.1 hc)), ref_place_stop l hl w side ww h at_⟩
    | false =>
      exfalso
      unfold fitsP at hfit
      have hany : (l.any fun f => besideB f at_ h) = true := by
        have : (roomP l w at_ h).2.2 = l.any fun f => besideB f at_ h := by unfold roomP; rw [room_flag]; simp
        rw [this] at hfit
        revert hfit
        cases (l.any fun f => besideB f at_ h) <;> simp
      obtain ⟨g, hg, hgb⟩ := List.any_eq_true.1 hany
      have hg1 := (beside_bottom hgb).1
      have hg2 := hf g hg
      unfold bottomOf at hg1
      unfold Fine at hg2
      rw [wrap64_id (by omega) (by omega)] at hg1
      omega
  | succ m ih =>
    intro at_ hm hin hle
    cases hfit : fitsP l w ww h at_ with
    | true => exact ⟨at_, find_least _ _ hfit _ (isort_sorted _) ((isort_perm _).mem_iff.2 hin) (fun c hc => hle c ((isort_perm _).mem_iff.1 hc)), ref_place_stop l hl w side ww h at_⟩
    | false =>
      have hany : (l.any fun f => besideB f at_ h) = true := by
        unfold fitsP at hfit
        have : (roomP l w at_ h).2.2 = l.any fun f => besideB f at_ h := by unfold roomP; rw [room_flag]; simp
        rw [this] at hfit
        revert hfit
        cases (l.any fun f => besideB f at_ h) <;> simp
      obtain ⟨g, hg, hgb⟩ := List.any_eq_true.1 hany
      have hg1 := (beside_bottom hgb).1
      obtain ⟨n1, n2, n3⟩ := nxt_le at_ l 2000000000
      have hgl := n2 g hg hg1
      have hgx : bottomOf g ≤ 1001000000 := by
        have hg2 := hf g hg
        unfold bottomOf
        unfold Fine at hg2
        rw [wrap64_id (by omega) (by omega)]
        omega
      generalize hnx : l.foldl (nxtStep at_) 2000000000 = nx at n1 n2 n3 hgl
      obtain ⟨g', hg', hgt', hnx'⟩ : ∃ g ∈ l, bottomOf g > at_ ∧ nx = bottomOf g := by
        rcases n3 with n3 | n3
        · omega
        · exact n3
      have hy0 : y0 ≤ at_ := by
        rcases mem_ends.1 hin with h | ⟨h, _⟩ <;> omega
      obtain ⟨a, ha, hev⟩ := ih nx (by omega) (mem_ends.2 (.inr ⟨by omega, g', hg', hnx'.symm⟩)) (by
        intro c hc hlt
        rcases Int.lt_trichotomy c at_ with h | h | h
        · exact hle c hc h
        · rw [h]; exact hfit
        · exfalso
          rcases mem_ends.1 hc with h' | ⟨_, g2, hg2, h2⟩
          · omega
          · have := n2 g2 hg2 (by omega)
            omega)
      refine ⟨a, ha, ?_⟩
      have h2 := ref_place_l2 l hl' w side ww h at_ nx _ hev l.length 0 2000000000 (by omega) (by simpa using hnx)
      refine Ev.succ h2 fun k hk => ?_
      rw [Int.natCast_zero] at hk
      simp only [formeref20_Place.l1]
      rw [if_neg (by decide)]
      exact hk
theorem ref_place_l0 (l : List S41) (hl : l.length < 9223372036854775807) (w side ww h top : Int) (R : List S41 × Int) (hR : Ev (fun k => formeref20_Place.l1 k l w side ww h top (fitsP l w ww h top)) R) : ∀ (d n : Nat) (m : Int), n + d = l.length → (l.drop n).foldl (fun m f => mx m f.f2) m = top →
    Ev (fun k => formeref20_Place.l0 k l w side ww h m (n : Int)) R := by
  intro d
  induction d with
  | zero =>
    intro n m hn hm
    rw [drop_all (by omega)] at hm
    simp only [List.foldl_nil] at hm
    subst hm
    refine Ev.succ2 (free_ev hl w m ww h) hR fun k hk hk' => ?_
    simp only [formeref20_Place.l0]
    rw [if_neg (by omega)]
    rw [hk, Option.bind_some, hk']
  | succ d ih =>
    intro n m hn hm
    have hlt : n < l.length := by omega
    rw [drop_get hlt, List.foldl_cons] at hm
    refine Ev.succ (ih (n + 1) _ (by omega) hm) fun k hk => ?_
    simp only [formeref20_Place.l0]
    rw [if_pos (by omega), if_pos (by omega), rd_at hlt, wrap_next (by omega), ← hk]

/-- What placing answers. -/
def placeAns (l : List S41) (w side y ww h : Int) : List S41 × Int :=
  if placeBad l w side y ww h = true then ([], 1)
  else if (l.length : Int) = 200 then ([], 2)
  else if (nextP l w side y ww h).f2 > 1000000000 then ([], 3)
  else (l ++ [nextP l w side y ww h], 0)
theorem place_of (l : List S41) (w side y ww h : Int) : floats_Place.f l w side y ww h = some (placeAns l w side y ww h) := by
  unfold floats_Place.f placeAns
  split
  · rfl
  · split
    · rfl
    · split <;> rfl
theorem bad_of (l : List S41) (w side y ww h : Int) : placeBad l w side y ww h = !(okAll l w && (decide (1 ≤ side) && decide (side ≤ 2)) && (decide (0 ≤ y) && decide (y ≤ 1000000000)) && (decide (0 ≤ ww) && decide (ww ≤ 1000000)) && (decide (0 ≤ h) && decide (h ≤ 1000000))) := by
  unfold placeBad
  rw [valid_of, Option.getD_some]
  have e : (decide (side ≠ 1) && decide (side ≠ 2)) = !(decide (1 ≤ side) && decide (side ≤ 2)) := by
    rw [Bool.eq_iff_iff]
    simp only [Bool.and_eq_true, decide_eq_true_eq, Bool.not_eq_true', Bool.and_eq_false_iff, decide_eq_false_iff_not]
    omega
  rw [e]
  simp only [Bool.not_and]
theorem ref_place_ans {l : List S41} (hl : l.length < 9223372036854775807) (w side y ww h : Int) : Ev (fun k => formeref20_Place.f k l w side y ww h) (placeAns l w side y ww h) := by
  have hv := ref_valid_ev hl w
  have hj : ∀ k, formeref20_Valid.f k l w = some (okAll l w) → formeref20_Place.f k l w side y ww h = formeref20_Place.j0 k l w side y ww h (placeBad l w side y ww h) := by
    intro k hk
    unfold formeref20_Place.f
    rw [bad_of]
    simp only [hk, high_of, size_of, Option.bind_some]
    generalize okAll l w = c1
    generalize (decide (0 ≤ y) && decide (y ≤ 1000000000)) = c2
    generalize (decide (0 ≤ ww) && decide (ww ≤ 1000000)) = c3
    generalize (decide (0 ≤ h) && decide (h ≤ 1000000)) = c4
    have e : (if side < 1 then formeref20_Place.j0 k l w side y ww h true else formeref20_Place.j0 k l w side y ww h (decide (side > 2))) = formeref20_Place.j0 k l w side y ww h (!(decide (1 ≤ side) && decide (side ≤ 2))) := by
      by_cases h1 : side < 1
      · rw [if_pos h1]; simp [show ¬ 1 ≤ side by omega]
      · rw [if_neg h1]
        by_cases h2 : side > 2
        · simp [h2, show ¬ side ≤ 2 by omega]
        · simp [h2, show 1 ≤ side by omega, show side ≤ 2 by omega]
    rw [e]
    generalize (decide (1 ≤ side) && decide (side ≤ 2)) = c5
    cases c1 <;> cases c2 <;> cases c3 <;> cases c4 <;> cases c5 <;> rfl
  suffices hs : Ev (fun k => formeref20_Place.j0 k l w side y ww h (placeBad l w side y ww h)) (placeAns l w side y ww h) from Ev.same2 hv hs fun k h1 h2 => (hj k h1).trans h2
  unfold placeAns
  cases hbad : placeBad l w side y ww h with
  | true =>
    refine Ev.zero fun k => ?_
    simp only [formeref20_Place.j0]
    rfl
  | false =>
    have hok : okAll l w = true := by
      rw [bad_of] at hbad
      revert hbad
      cases okAll l w <;> simp
    have hok' := (okAll_iff l w).1 hok
    by_cases hfull : (l.length : Int) = 200
    · refine Ev.zero fun k => ?_
      simp only [formeref20_Place.j0]
      rw [if_neg (by decide), if_pos (by omega), if_neg (by decide), if_pos hfull]
    · rw [if_neg (by decide), if_neg hfull]
      obtain ⟨a, ha, hev⟩ := ref_place_l1 l hok'.2.2.1 hok'.2.2.2 w side ww h (topY l y) _ (topY l y) (Nat.le_refl _) (mem_ends.2 (.inl rfl)) (by
        intro c hc hlt
        rcases mem_ends.1 hc with h | ⟨h, _⟩ <;> omega)
      have hnp : nextP l w side y ww h = ⟨side, if side = 2 then mx 0 (wrap64 ((roomP l w a h).2.1 - ww)) else (roomP l w a h).1, a, ww, h⟩ := by
        unfold nextP
        rw [ha]
      have h0 := ref_place_l0 l hl w side ww h (topY l y) _ hev l.length 0 y (by omega) rfl
      refine Ev.succ h0 fun k hk => ?_
      rw [Int.natCast_zero] at hk
      simp only [formeref20_Place.j0]
      rw [if_neg (by decide), if_neg (by omega), hk, hnp]
      unfold atAns
      split <;> rfl
end Go.Proofs.Ytffmflmpiekcfab.Plain
