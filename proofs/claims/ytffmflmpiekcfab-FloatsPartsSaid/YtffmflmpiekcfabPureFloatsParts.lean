/- The plain statement of FloatsParts: the room of a whole height is the room of its parts. -/
import Derived.Test.YtffmflmpiekcfabStmFloatsParts
import Derived.Test.YtffmflmpiekcfabPlainC
namespace Go.Proofs.Ytffmflmpiekcfab.FloatsPartsPure
open Go.RowKit Go.Proofs.Ytffmflmpiekcfab.PAll Go.Proofs.Ytffmflmpiekcfab.Plain Go.Proofs.YtffmflmpiekcfabW.PrintWords Go.Proofs.YtffmflmpiekcfabW.PrintLast Go.Proofs.YtffmflmpiekcfabW.PrintMore Go.Proofs.YtffmflmpiekcfabGlib
theorem below_bound (side : Int) : ∀ (l : List S41) (m : Int), (∀ f ∈ l, Fine f) → 0 ≤ m → m ≤ 1001000000 → 0 ≤ l.foldl (belowStep side) m ∧ l.foldl (belowStep side) m ≤ 1001000000 ∧ m ≤ l.foldl (belowStep side) m
  | [], m, _, h0, h1 => ⟨h0, h1, Int.le_refl m⟩
  | f :: l, m, hf, h0, h1 => by
    rw [List.foldl_cons]
    have hff := hf f List.mem_cons_self
    have hb := bottom_fine hff
    have hs : 0 ≤ belowStep side m f ∧ belowStep side m f ≤ 1001000000 ∧ m ≤ belowStep side m f := by
      unfold belowStep
      rw [mx_eq, hb]
      unfold Fine at hff
      split
      · omega
      · split <;> omega
    have := below_bound side l (belowStep side m f) (fun g hg => hf g (List.mem_cons_of_mem _ hg)) hs.1 hs.2.1
    omega
theorem below_all : ∀ (l : List S41) (m : Int), (∀ f ∈ l, Fine f) → 0 ≤ m → m ≤ 1001000000 → ∀ f ∈ l, bottomOf f ≤ l.foldl (belowStep 0) m
  | [], _, _, _, _ => by simp
  | f :: l, m, hf, h0, h1 => by
    intro g hg
    rw [List.foldl_cons]
    have hff := hf f List.mem_cons_self
    have hs : 0 ≤ belowStep 0 m f ∧ belowStep 0 m f ≤ 1001000000 ∧ bottomOf f ≤ belowStep 0 m f := by
      unfold belowStep
      rw [if_pos rfl, mx_eq, bottom_fine hff]
      unfold Fine at hff
      omega
    rcases List.mem_cons.1 hg with rfl | hg
    · have := below_bound 0 l (belowStep 0 m g) (fun g hg => hf g (List.mem_cons_of_mem _ hg)) hs.1 hs.2.1
      omega
    · exact below_all l _ (fun g hg => hf g (List.mem_cons_of_mem _ hg)) hs.1 hs.2.1 g hg
theorem proved : FloatsPartsStm.Pure := by
  intro l w y h1 h2 hok _ _ hu1 hu2
  have hl : l.length < 9223372036854775807 := by have := hok.1; omega
  have hu1 := wfu16 hu1
  have hu2 := wfu16 hu2
  by_cases hc : okAll l w = true ∧ 0 ≤ y ∧ y ≤ 999800000 ∧ h1 ≠ 0 ∧ h2 ≠ 0 ∧ l.length ≤ 30
  · obtain ⟨ho, hy0, hy1, n1, n2, hl30⟩ := hc
    have hok' := (okAll_iff l w).1 ho
    obtain ⟨loa, hia, ea, la, _⟩ := room_ok (y := y) (h := h1) ho (by omega) (by omega)
    obtain ⟨lob, hib, eb, lb, _⟩ := room_ok (y := y + h1) (h := h2) ho (by omega) (by omega)
    obtain ⟨loc, hic, ec, lc, _⟩ := room_ok (y := y) (h := h1 + h2) ho (by omega) (by omega)
    have hbb := below_bound 0 l 0 hok'.2.2.2 (by omega) (by omega)
    have hba := below_all l 0 hok'.2.2.2 (by omega) (by omega)
    generalize hbe : l.foldl (belowStep 0) 0 = be at hbb hba
    have ebe : belowAns l w 0 = (be, 0) := by unfold belowAns; rw [ho, hbe]; simp
    obtain ⟨lod, hid, ed, ld, _⟩ := room_ok (y := min be 1000000000) (h := h1) ho (by omega) (by omega)
    have hbo := lc.both la lb (by
      intro f hf
      have hff := hok'.2.2.2 f hf
      rw [beside_fine hff (by omega) (by omega), beside_fine hff (by omega) (by omega), beside_fine hff (by omega) (by omega)]
      omega)
    have hza := la.bounds hok'.2.2.2 ⟨hok'.1, hok'.2.1⟩
    have hzb := lb.bounds hok'.2.2.2 ⟨hok'.1, hok'.2.1⟩
    have hd : be ≤ 1000000000 → lod = 0 ∧ hid = w := by
      intro hbe'
      have hnb : ∀ f ∈ l, besideB f (min be 1000000000) h1 = true → False := by
        intro f hf hb
        have := (beside_bottom hb).1
        have := hba f hf
        omega
      constructor
      · rcases ld.lo2 with q | ⟨f, hf, q, _⟩
        · exact q
        · exact (hnb f hf q).elim
      · rcases ld.hi2 with q | ⟨f, hf, q, _⟩
        · exact q
        · exact (hnb f hf q).elim
    obtain ⟨K, hK⟩ := (Ev.p head_ev).and ((Ev.p (room_ans hl w y h1)).and ((Ev.p (room_ans hl w (y + h1) h2)).and ((Ev.p (room_ans hl w y (h1 + h2))).and ((Ev.p (ref_valid_ev hl w)).and ((Ev.p (below_ans hl w 0)).and (Ev.p (room_ans hl w (min be 1000000000) h1)))))))
    obtain ⟨q1, _, _, _, q2, _⟩ := hK (K + 2) (by omega)
    obtain ⟨_, r1, r2, r3, _, r4, r5⟩ := hK (K + 1) (by omega)
    rw [ea] at r1
    rw [eb] at r2
    rw [ec] at r3
    rw [ebe] at r4
    rw [ed] at r5
    refine ⟨K + 2, ?_⟩
    unfold formelaw20_FloatsParts.f
    have w1 : wrap64 h1 = h1 := wrap64_id (by omega) (by omega)
    have w2 : wrap64 h2 = h2 := wrap64_id (by omega) (by omega)
    have w3 : wrap64 (y + h1) = y + h1 := wrap64_id (by omega) (by omega)
    have w4 : wrap64 (h1 + h2) = h1 + h2 := wrap64_id (by omega) (by omega)
    rw [q1, q2]
    simp only [Option.bind_some]
    rw [if_neg (by omega), ho, if_pos rfl, if_neg (by omega), if_neg (by omega), if_neg n1]
    have hz : (h2 == 0) = false := by simpa using n2
    rw [hz]
    simp only [formelaw20_FloatsParts.j0, w1, w2, w3, w4, r1, r2, r3, r4, Option.bind_some]
    rw [mn_eq, r5]
    simp only [Option.bind_some, if_true, formelaw20_FloatsParts.j1, mx_eq, mn_eq, hbo.1, hbo.2]
    rw [if_neg (by decide), if_neg (by decide), if_neg (by omega)]
    have fin : (if be > 1000000000 then some true else some (lod == 0 && max lod hid == w)) = some true := by
      by_cases hb : be > 1000000000
      · rw [if_pos hb]
      · rw [if_neg hb]
        obtain ⟨rfl, rfl⟩ := hd (by omega)
        have : max 0 hid = hid := by have := hok'.1; omega
        simp [this]
    rw [fin]
    split
    · rename_i hm
      rw [if_neg (by omega), if_neg (by omega)]
    · rfl
  · obtain ⟨K, hK⟩ := (Ev.p head_ev).and (Ev.p (ref_valid_ev hl w))
    obtain ⟨q1, q2⟩ := hK (K + 1) (by omega)
    refine ⟨K + 1, ?_⟩
    unfold formelaw20_FloatsParts.f
    rw [q1, q2]
    have hj : formelaw20_FloatsParts.j0 (K + 1) l w y h1 h2 true true = some true := by simp [formelaw20_FloatsParts.j0]
    simp only [Option.bind_some, hj]
    split
    · rfl
    · split
      · rename_i ho
        split
        · rfl
        · split
          · rfl
          · split
            · rfl
            · have : h2 = 0 := Decidable.byContradiction fun n2 => hc ⟨ho, by omega, by omega, by assumption, n2, by omega⟩
              subst this
              simpa using hj
      · rfl
end Go.Proofs.Ytffmflmpiekcfab.FloatsPartsPure
