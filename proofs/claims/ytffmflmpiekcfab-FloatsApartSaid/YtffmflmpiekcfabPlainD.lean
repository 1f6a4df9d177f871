/- Plain facts on layer 20 (floats): where a float comes to stand, and rows of floats that are placed one after the other. -/
import Derived.Test.YtffmflmpiekcfabPlainC
namespace Go.Proofs.Ytffmflmpiekcfab.Plain
open Go.RowKit Go.Proofs.Ytffmflmpiekcfab.PAll Go.Proofs.YtffmflmpiekcfabW.PrintWords Go.Proofs.YtffmflmpiekcfabW.PrintLast Go.Proofs.YtffmflmpiekcfabW.PrintMore Go.Proofs.YtffmflmpiekcfabGlib

theorem find_min (p : Int → Bool) (a : Int) : ∀ s : List Int, s.Pairwise (· ≤ ·) → s.find? p = some a → a ∈ s ∧ p a = true ∧ ∀ c ∈ s, c < a → p c = false
  | [], _, h => by simp at h
  | x :: s, hs, h => by
    have hs' := List.pairwise_cons.1 hs
    rw [List.find?_cons] at h
    cases hx : p x with
    | true =>
      rw [hx] at h
      obtain rfl := Option.some.inj h
      refine ⟨List.mem_cons_self, hx, fun c hc hlt => ?_⟩
      rcases List.mem_cons.1 hc with rfl | hc
      · omega
      · have := hs'.1 c hc; omega
    | false =>
      rw [hx] at h
      obtain ⟨h1, h2, h3⟩ := find_min p a s hs'.2 h
      refine ⟨List.mem_cons_of_mem _ h1, h2, fun c hc hlt => ?_⟩
      rcases List.mem_cons.1 hc with rfl | hc
      · exact hx
      · exact h3 c hc hlt
theorem topY_spec : ∀ (l : List S41) (y : Int), y ≤ topY l y ∧ (∀ f ∈ l, f.f2 ≤ topY l y) ∧ (topY l y = y ∨ ∃ f ∈ l, topY l y = f.f2)
  | [], y => ⟨by simp [topY], by simp, .inl rfl⟩
  | f :: l, y => by
    have h := topY_spec l (mx y f.f2)
    have e : topY (f :: l) y = topY l (mx y f.f2) := rfl
    rw [e]
    rw [mx_eq] at h ⊢
    obtain ⟨h1, h2, h3⟩ := h
    refine ⟨by omega, ?_, ?_⟩
    · intro g hg
      rcases List.mem_cons.1 hg with rfl | hg
      · omega
      · exact h2 g hg
    · rcases h3 with h3 | ⟨g, hg, h3⟩
      · by_cases hc : f.f2 ≤ y
        · exact .inl (by omega)
        · exact .inr ⟨f, List.mem_cons_self, by omega⟩
      · exact .inr ⟨g, List.mem_cons_of_mem _ hg, h3⟩
/-- Whether there is room, told by what is beside. -/
theorem fits_iff {l : List S41} (hf : ∀ f ∈ l, Fine f) {w ww h c lo hi : Int} (hw : 0 ≤ w ∧ w ≤ 1000000) (a : LoHi l w c h lo hi) : fitsP l w ww h c = true ↔ (∀ f ∈ l, besideB f c h = false) ∨ ww ≤ max lo hi - lo := by
  obtain ⟨lo', hi', e, a'⟩ := room_lohi hf w c h
  have m1 := a.mono a' fun f hf hb => ⟨hf, hb⟩
  have m2 := a'.mono a fun f hf hb => ⟨hf, hb⟩
  obtain rfl : lo = lo' := by omega
  obtain rfl : hi = hi' := by omega
  have hz := a.bounds hf hw
  unfold fitsP
  rw [e]
  simp only []
  rw [wrap64_id (by omega) (by omega)]
  simp only [Bool.not_eq_true', Bool.and_eq_false_iff, decide_eq_false_iff_not, List.any_eq_false]
  constructor
  · rintro (h1 | h1)
    · exact .inl fun f hf => by simpa using h1 f hf
    · exact .inr (by omega)
  · rintro (h1 | h1)
    · exact .inl fun f hf => by simpa using h1 f hf
    · exact .inr (by omega)

/-- Where the next float comes to stand. -/
structure Stands (l : List S41) (w side y ww h x a lo hi : Int) : Prop where
  is_ : nextP l w side y ww h = ⟨side, x, a, ww, h⟩
  room : LoHi l w a h lo hi
  fits : fitsP l w ww h a = true
  end_ : a ∈ endsP l (topY l y)
  first : ∀ c ∈ endsP l (topY l y), c < a → fitsP l w ww h c = false
  at_ : x = if side = 2 then max 0 (max lo hi - ww) else lo
theorem next_spec {l : List S41} (hl : l.length ≤ 200) (hf : ∀ f ∈ l, Fine f) {w ww : Int} (hw : 0 ≤ w ∧ w ≤ 1000000) (hww : 0 ≤ ww ∧ ww ≤ 1000000) (side y h : Int) : ∃ x a lo hi, Stands l w side y ww h x a lo hi := by
  obtain ⟨a, ha, _⟩ := ref_place_l1 l hl hf w side ww h (topY l y) _ (topY l y) (Nat.le_refl _) (mem_ends.2 (.inl rfl)) (by
        intro c hc hlt
        rcases mem_ends.1 hc with h | ⟨h, _⟩ <;> omega)
  obtain ⟨h1, h2, h3⟩ := find_min _ _ _ (isort_sorted _) ha
  obtain ⟨lo, hi, e, r⟩ := room_lohi hf w a h
  refine ⟨_, a, lo, hi, ?_, r, h2, (isort_perm _).mem_iff.1 h1, fun c hc => h3 c ((isort_perm _).mem_iff.2 hc), rfl⟩
  unfold nextP
  unfold heightsP at ha ⊢
  have hz := r.bounds hf hw
  rw [ha]
  simp only []
  rw [e]
  simp only [mx_eq]
  rw [wrap64_id (by omega) (by omega)]
theorem Stands.above {l : List S41} {w side y ww h x a lo hi : Int} (s : Stands l w side y ww h x a lo hi) : topY l y ≤ a := by
  rcases mem_ends.1 s.end_ with q | ⟨q, _⟩ <;> omega
theorem Stands.bound {l : List S41} (hf : ∀ f ∈ l, Fine f) {w side y ww h x a lo hi : Int} (s : Stands l w side y ww h x a lo hi) {M : Int} (hy : y ≤ M) (hM : ∀ f ∈ l, f.f2 + f.f4 ≤ M) : a ≤ M := by
  rcases mem_ends.1 s.end_ with q | ⟨q, g, hg, q2⟩
  · rcases (topY_spec l y).2.2 with h | ⟨f, hf', h⟩
    · omega
    · have := hM f hf'
      have := hf f hf'
      unfold Fine at this
      omega
  · rw [bottom_fine (hf g hg)] at q2
    have := hM g hg
    omega
/-- Inside: what fits has its room. -/
theorem Stands.inside {l : List S41} (hf : ∀ f ∈ l, Fine f) {w side y ww h x a lo hi : Int} (s : Stands l w side y ww h x a lo hi) (hw : 0 ≤ w ∧ w ≤ 1000000) (hin : ∀ f ∈ l, f.f1 + f.f3 ≤ w) (hww : 0 ≤ ww ∧ ww ≤ w) (h1 : 1 ≤ ww ∨ w = 0) :
    0 ≤ lo ∧ lo + ww ≤ hi ∧ hi ≤ w ∧ x = if side = 2 then hi - ww else lo := by
  have hz := s.room.bounds hf hw
  have hlo : lo ≤ w := by
    rcases s.room.lo2 with q | ⟨f, hf', q, q2, q3⟩
    · omega
    · have := hin f hf'; omega
  have hhi := s.room.hi0
  have key : lo + ww ≤ hi := by
    rcases (fits_iff hf hw s.room).1 s.fits with q | q
    · have e1 : lo = 0 := by
        rcases s.room.lo2 with q' | ⟨f, hf', q', _⟩
        · exact q'
        · rw [q f hf'] at q'; cases q'
      have e2 : hi = w := by
        rcases s.room.hi2 with q' | ⟨f, hf', q', _⟩
        · exact q'
        · rw [q f hf'] at q'; cases q'
      omega
    · omega
  refine ⟨hz.1, key, hhi, ?_⟩
  rw [s.at_]
  split <;> omega
/-- Between the top and its height there is no room. -/
theorem Stands.highest {l : List S41} (hf : ∀ f ∈ l, Fine f) {w side y ww h x a lo hi : Int} (s : Stands l w side y ww h x a lo hi) (hw : 0 ≤ w ∧ w ≤ 1000000) (hy : 0 ≤ y) (ha : a ≤ 1000000000) (hh : 0 ≤ h ∧ h ≤ 1000000) {b : Int} (hb0 : topY l y ≤ b) (hb1 : b < a) : fitsP l w ww h b = false := by
  have hty := (topY_spec l y).1
  -- the last end at or above b
  have hlast : ∃ c ∈ endsP l (topY l y), c ≤ b ∧ ∀ d ∈ endsP l (topY l y), d ≤ b → d ≤ c := by
    have : ∀ s : List Int, (∃ c ∈ s, c ≤ b) → ∃ c ∈ s, c ≤ b ∧ ∀ d ∈ s, d ≤ b → d ≤ c := by
      intro s
      induction s with
      | nil => rintro ⟨c, hc, _⟩; cases hc
      | cons z s ih =>
        rintro ⟨c, hc, hcb⟩
        by_cases hs : ∃ c ∈ s, c ≤ b
        · obtain ⟨c', h1, h2, h3⟩ := ih hs
          by_cases hz : z ≤ b ∧ c' < z
          · refine ⟨z, List.mem_cons_self, hz.1, fun d hd hdb => ?_⟩
            rcases List.mem_cons.1 hd with rfl | hd
            · exact Int.le_refl _
            · have := h3 d hd hdb; omega
          · refine ⟨c', List.mem_cons_of_mem _ h1, h2, fun d hd hdb => ?_⟩
            rcases List.mem_cons.1 hd with rfl | hd
            · omega
            · exact h3 d hd hdb
        · rcases List.mem_cons.1 hc with rfl | hc
          · refine ⟨c, List.mem_cons_self, hcb, fun d hd hdb => ?_⟩
            rcases List.mem_cons.1 hd with rfl | hd
            · exact Int.le_refl _
            · exact (hs ⟨d, hd, hdb⟩).elim
          · exact (hs ⟨c, hc, hcb⟩).elim
    exact this _ ⟨topY l y, mem_ends.2 (.inl rfl), hb0⟩
  obtain ⟨c, hc, hcb, hcl⟩ := hlast
  have hct : topY l y ≤ c := by
    rcases mem_ends.1 hc with q | ⟨q, _⟩ <;> omega
  have hno := s.first c hc (by omega)
  obtain ⟨loc, hic, _, rc⟩ := room_lohi hf w c h
  obtain ⟨lob, hib, _, rb⟩ := room_lohi hf w b h
  cases hfit : fitsP l w ww h b with
  | false => rfl
  | true =>
    exfalso
    have hsub : ∀ f ∈ l, besideB f c h = true → besideB f b h = true := by
      intro f hf' hb
      have hff := hf f hf'
      rw [beside_fine hff (by omega) (by omega)] at hb ⊢
      have hend : f.f2 + f.f4 ∈ endsP l (topY l y) := mem_ends.2 (.inr ⟨by omega, f, hf', bottom_fine hff⟩)
      refine ⟨?_, hb.2.1, by omega⟩
      by_cases hq : f.f2 + f.f4 > b
      · exact hq
      · have := hcl _ hend (by omega); omega
    have hm := rc.mono rb fun f hf' hb => ⟨hf', hsub f hf' hb⟩
    have : fitsP l w ww h c = true := by
      refine (fits_iff hf hw rc).2 ?_
      rcases (fits_iff hf hw rb).1 hfit with q | q
      · refine .inl fun f hf' => ?_
        cases hbc : besideB f c h with
        | false => rfl
        | true => have := hsub f hf' hbc; rw [q f hf'] at this; cases this
      · exact .inr (by omega)
    rw [this] at hno
    cases hno
end Go.Proofs.Ytffmflmpiekcfab.Plain
