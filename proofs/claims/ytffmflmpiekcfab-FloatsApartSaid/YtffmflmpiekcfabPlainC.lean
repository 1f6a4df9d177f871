/- Plain facts on layer 20 (floats): the room at a height, told by what is beside it. -/
import Derived.Test.YtffmflmpiekcfabPlainB
namespace Go.Proofs.Ytffmflmpiekcfab.Plain
open Go.RowKit Go.Proofs.Ytffmflmpiekcfab.PAll Go.Proofs.YtffmflmpiekcfabW.PrintWords Go.Proofs.YtffmflmpiekcfabW.PrintLast Go.Proofs.YtffmflmpiekcfabW.PrintMore Go.Proofs.YtffmflmpiekcfabGlib

theorem beside_fine {f : S41} (hf : Fine f) {y h : Int} (hy : 0 ≤ y ∧ y ≤ 3000000000) (hh : 0 ≤ h ∧ h ≤ 1000000) : besideB f y h = true ↔ f.f2 + f.f4 > y ∧ f.f4 > 0 ∧ f.f2 < y + max h 1 := by
  rw [beside_iff, mx_eq]
  unfold Fine at hf
  unfold bottomOf
  rw [wrap64_id (by omega) (by omega), wrap64_id (by omega) (by omega)]
theorem bottom_fine {f : S41} (hf : Fine f) : bottomOf f = f.f2 + f.f4 := by
  unfold Fine at hf
  exact wrap64_id (by omega) (by omega)

/-- The two sides of the room at a height. -/
structure LoHi (l : List S41) (w y h lo hi : Int) : Prop where
  lo0 : 0 ≤ lo
  lo1 : ∀ f ∈ l, besideB f y h = true → f.f0 = 1 → f.f1 + f.f3 ≤ lo
  lo2 : lo = 0 ∨ ∃ f ∈ l, besideB f y h = true ∧ f.f0 = 1 ∧ lo = f.f1 + f.f3
  hi0 : hi ≤ w
  hi1 : ∀ f ∈ l, besideB f y h = true → f.f0 ≠ 1 → hi ≤ f.f1
  hi2 : hi = w ∨ ∃ f ∈ l, besideB f y h = true ∧ f.f0 ≠ 1 ∧ hi = f.f1
theorem lohi_fold (w y h : Int) : ∀ (l : List S41), (∀ f ∈ l, Fine f) → ∀ (pre : List S41) (s : Int × Int × Bool), LoHi pre w y h s.1 s.2.1 → LoHi (pre ++ l) w y h (l.foldl (roomStep y h) s).1 (l.foldl (roomStep y h) s).2.1
  | [], _, pre, s, h => by simpa using h
  | f :: l, hf, pre, s, hs => by
    have hff := hf f List.mem_cons_self
    have := lohi_fold w y h l (fun g hg => hf g (List.mem_cons_of_mem _ hg)) (pre ++ [f]) (roomStep y h s f) (by
      have e : wrap64 (f.f1 + f.f3) = f.f1 + f.f3 := by unfold Fine at hff; exact wrap64_id (by omega) (by omega)
      have e0 : 0 ≤ f.f1 + f.f3 := by unfold Fine at hff; omega
      unfold roomStep
      rw [mx_eq, mn_eq, e]
      cases hb : besideB f y h with
      | false =>
        simp only [Bool.false_eq_true, if_false]
        refine ⟨hs.lo0, ?_, ?_, hs.hi0, ?_, ?_⟩
        · intro g hg hgb hg1
          rcases List.mem_append.1 hg with hg | hg
          · exact hs.lo1 g hg hgb hg1
          · obtain rfl := List.mem_singleton.1 hg; rw [hb] at hgb; cases hgb
        · rcases hs.lo2 with h2 | ⟨g, hg, h2⟩
          · exact .inl h2
          · exact .inr ⟨g, List.mem_append_left _ hg, h2⟩
        · intro g hg hgb hg1
          rcases List.mem_append.1 hg with hg | hg
          · exact hs.hi1 g hg hgb hg1
          · obtain rfl := List.mem_singleton.1 hg; rw [hb] at hgb; cases hgb
        · rcases hs.hi2 with h2 | ⟨g, hg, h2⟩
          · exact .inl h2
          · exact .inr ⟨g, List.mem_append_left _ hg, h2⟩
      | true =>
        simp only [if_true]
        by_cases h1 : f.f0 = 1
        · rw [if_pos h1]
          refine ⟨?_, ?_, ?_, hs.hi0, ?_, ?_⟩
          · have := hs.lo0; simp only []; omega
          · intro g hg hgb hg1
            simp only []
            rcases List.mem_append.1 hg with hg | hg
            · have := hs.lo1 g hg hgb hg1; omega
            · obtain rfl := List.mem_singleton.1 hg; omega
          · simp only []
            by_cases hc : f.f1 + f.f3 ≤ s.1
            · rcases hs.lo2 with h2 | ⟨g, hg, h2, h3, h4⟩
              · exact .inl (by omega)
              · exact .inr ⟨g, List.mem_append_left _ hg, h2, h3, by omega⟩
            · exact .inr ⟨f, by simp, hb, h1, by omega⟩
          · intro g hg hgb hg1
            rcases List.mem_append.1 hg with hg | hg
            · exact hs.hi1 g hg hgb hg1
            · obtain rfl := List.mem_singleton.1 hg; exact absurd h1 hg1
          · rcases hs.hi2 with h2 | ⟨g, hg, h2⟩
            · exact .inl h2
            · exact .inr ⟨g, List.mem_append_left _ hg, h2⟩
        · rw [if_neg h1]
          refine ⟨hs.lo0, ?_, ?_, ?_, ?_, ?_⟩
          · intro g hg hgb hg1
            rcases List.mem_append.1 hg with hg | hg
            · exact hs.lo1 g hg hgb hg1
            · obtain rfl := List.mem_singleton.1 hg; exact absurd hg1 h1
          · rcases hs.lo2 with h2 | ⟨g, hg, h2⟩
            · exact .inl h2
            · exact .inr ⟨g, List.mem_append_left _ hg, h2⟩
          · have := hs.hi0; simp only []; omega
          · intro g hg hgb hg1
            simp only []
            rcases List.mem_append.1 hg with hg | hg
            · have := hs.hi1 g hg hgb hg1; omega
            · obtain rfl := List.mem_singleton.1 hg; omega
          · simp only []
            by_cases hc : s.2.1 ≤ f.f1
            · rcases hs.hi2 with h2 | ⟨g, hg, h2, h3, h4⟩
              · exact .inl (by omega)
              · exact .inr ⟨g, List.mem_append_left _ hg, h2, h3, by omega⟩
            · exact .inr ⟨f, by simp, hb, h1, by omega⟩)
    simpa using this
theorem room_lohi {l : List S41} (hf : ∀ f ∈ l, Fine f) (w y h : Int) : ∃ lo hi, roomP l w y h = (lo, max lo hi, l.any fun f => besideB f y h) ∧ LoHi l w y h lo hi := by
  have h0 : LoHi [] w y h (0, w, false).1 (0, w, false).2.1 := ⟨by simp, by simp, .inl rfl, by simp, by simp, .inl rfl⟩
  have := lohi_fold w y h l hf [] (0, w, false) h0
  refine ⟨_, _, ?_, by simpa using this⟩
  unfold roomP
  rw [room_flag, mx_eq]
  simp
/-- What is beside the one is beside the other: less room. -/
theorem LoHi.mono {l l' : List S41} {w y h lo hi y' h' lo' hi' : Int} (a : LoHi l w y h lo hi) (b : LoHi l' w y' h' lo' hi') (hm : ∀ f ∈ l, besideB f y h = true → f ∈ l' ∧ besideB f y' h' = true) : lo ≤ lo' ∧ hi' ≤ hi := by
  constructor
  · rcases a.lo2 with h2 | ⟨f, hf, h2, h3, h4⟩
    · have := b.lo0; omega
    · have := hm f hf h2
      have := b.lo1 f this.1 this.2 h3; omega
  · rcases a.hi2 with h2 | ⟨f, hf, h2, h3, h4⟩
    · have := b.hi0; omega
    · have := hm f hf h2
      have := b.hi1 f this.1 this.2 h3; omega
/-- The one's neighbours are the neighbours of two others. -/
theorem LoHi.both {l : List S41} {w y h lo hi y1 h1 lo1 hi1 y2 h2 lo2 hi2 : Int} (a : LoHi l w y h lo hi) (b : LoHi l w y1 h1 lo1 hi1) (c : LoHi l w y2 h2 lo2 hi2) (hm : ∀ f ∈ l, besideB f y h = true ↔ besideB f y1 h1 = true ∨ besideB f y2 h2 = true) : lo = max lo1 lo2 ∧ hi = min hi1 hi2 := by
  have m1 := b.mono a fun f hf hb => ⟨hf, (hm f hf).2 (.inl hb)⟩
  have m2 := c.mono a fun f hf hb => ⟨hf, (hm f hf).2 (.inr hb)⟩
  constructor
  · rcases a.lo2 with q | ⟨f, hf, q2, q3, q4⟩
    · have := b.lo0; have := c.lo0; omega
    · rcases (hm f hf).1 q2 with q | q
      · have := b.lo1 f hf q q3; omega
      · have := c.lo1 f hf q q3; omega
  · rcases a.hi2 with q | ⟨f, hf, q2, q3, q4⟩
    · have := b.hi0; have := c.hi0; omega
    · rcases (hm f hf).1 q2 with q | q
      · have := b.hi1 f hf q q3; omega
      · have := c.hi1 f hf q q3; omega
theorem LoHi.bounds {l : List S41} (hf : ∀ f ∈ l, Fine f) {w y h lo hi : Int} (hw : 0 ≤ w ∧ w ≤ 1000000) (a : LoHi l w y h lo hi) : 0 ≤ lo ∧ lo ≤ 2000000 ∧ 0 ≤ hi ∧ hi ≤ 1000000 := by
  have h1 : lo ≤ 2000000 := by
    rcases a.lo2 with q | ⟨f, hf', q2, q3, q4⟩
    · omega
    · have := hf f hf'; unfold Fine at this; omega
  have h2 : 0 ≤ hi := by
    rcases a.hi2 with q | ⟨f, hf', q2, q3, q4⟩
    · omega
    · have := hf f hf'; unfold Fine at this; omega
  have := a.lo0
  have := a.hi0
  omega
theorem room_ok {l : List S41} {w y h : Int} (hok : okAll l w = true) (hy : 0 ≤ y ∧ y ≤ 1000000000) (hh : 0 ≤ h ∧ h ≤ 1000000) : ∃ lo hi, roomAns l w y h = (lo, max lo hi, 0) ∧ LoHi l w y h lo hi ∧ roomP l w y h = (lo, max lo hi, l.any fun f => besideB f y h) := by
  obtain ⟨lo, hi, h1, h2⟩ := room_lohi ((okAll_iff l w).1 hok).2.2.2 w y h
  refine ⟨lo, hi, ?_, h2, h1⟩
  unfold roomAns
  rw [hok, h1]
  simp [hy.1, hy.2, hh.1, hh.2]
end Go.Proofs.Ytffmflmpiekcfab.Plain
