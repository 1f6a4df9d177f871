/- The plain statement of FloatsMirror: shapes on the other sides come to stand mirrored. -/
import Derived.Test.YtffmflmpiekcfabStmFloatsMirror
import Derived.Test.YtffmflmpiekcfabPlainE
namespace Go.Proofs.Ytffmflmpiekcfab.FloatsMirrorPure
open Go.RowKit Go.Proofs.Ytffmflmpiekcfab.PAll Go.Proofs.Ytffmflmpiekcfab.Plain Go.Proofs.YtffmflmpiekcfabW.PrintWords Go.Proofs.YtffmflmpiekcfabW.PrintLast Go.Proofs.YtffmflmpiekcfabW.PrintMore Go.Proofs.YtffmflmpiekcfabGlib
def mir (W : Int) (f : S41) : S41 := ⟨3 - f.f0, W - f.f1 - f.f3, f.f2, f.f3, f.f4⟩
theorem beside_mir (W y h : Int) (f : S41) : besideB (mir W f) y h = besideB f y h := rfl
theorem bottom_mir (W : Int) (f : S41) : bottomOf (mir W f) = bottomOf f := rfl
theorem top_mir (W : Int) : ∀ (l : List S41) (y : Int), topY (l.map (mir W)) y = topY l y
  | [], _ => rfl
  | f :: l, y => top_mir W l (mx y f.f2)
theorem ends_mir (W y0 : Int) (l : List S41) : endsP (l.map (mir W)) y0 = endsP l y0 := by
  unfold endsP
  rw [List.map_map]
  rfl
theorem lohi_mir {l : List S41} (hf : ∀ f ∈ l, Fine f) {W c h lo hi : Int} (a : LoHi l W c h lo hi) : LoHi (l.map (mir W)) W c h (W - hi) (W - lo) := by
  refine ⟨by have := a.hi0; omega, ?_, ?_, by have := a.lo0; omega, ?_, ?_⟩
  · intro f hf' hb h1
    obtain ⟨g, hg, rfl⟩ := List.mem_map.1 hf'
    rw [beside_mir] at hb
    unfold mir at h1 ⊢
    simp only [] at h1 ⊢
    have := a.hi1 g hg hb (by omega)
    omega
  · rcases a.hi2 with q | ⟨g, hg, q, q2, q3⟩
    · exact .inl (by omega)
    · refine .inr ⟨mir W g, List.mem_map_of_mem hg, q, ?_, ?_⟩
      · have := hf g hg; unfold Fine at this; unfold mir; simp only []; omega
      · unfold mir; simp only []; omega
  · intro f hf' hb h1
    obtain ⟨g, hg, rfl⟩ := List.mem_map.1 hf'
    rw [beside_mir] at hb
    have hg' := hf g hg
    unfold Fine at hg'
    unfold mir at h1 ⊢
    simp only [] at h1 ⊢
    have := a.lo1 g hg hb (by omega)
    omega
  · rcases a.lo2 with q | ⟨g, hg, q, q2, q3⟩
    · exact .inl (by omega)
    · refine .inr ⟨mir W g, List.mem_map_of_mem hg, q, ?_, ?_⟩
      · unfold mir; simp only []; omega
      · unfold mir; simp only []; omega
theorem fine_mir {l : List S41} {W M : Int} (g : Lies l W M) (hW : 0 ≤ W ∧ W ≤ 65535) : Lies (l.map (mir W)) W M := by
  refine ⟨?_, ?_, ?_⟩
  · intro f hf
    obtain ⟨q, hq, rfl⟩ := List.mem_map.1 hf
    have h1 := g.fine q hq
    have h2 := g.inside q hq
    unfold Fine at h1 ⊢
    unfold mir
    simp only []
    omega
  · intro f hf
    obtain ⟨q, hq, rfl⟩ := List.mem_map.1 hf
    have h1 := g.fine q hq
    unfold Fine at h1
    unfold mir
    simp only []
    omega
  · intro f hf
    obtain ⟨q, hq, rfl⟩ := List.mem_map.1 hf
    exact g.low q hq
theorem fits_mir {l : List S41} {W M : Int} (g : Lies l W M) (hW : 0 ≤ W ∧ W ≤ 65535) (ww h c : Int) : fitsP (l.map (mir W)) W ww h c = fitsP l W ww h c := by
  obtain ⟨lo, hi, _, a⟩ := room_lohi g.fine W c h
  rw [Bool.eq_iff_iff, fits_iff g.fine (by omega) a, fits_iff (fine_mir g hW).fine (by omega) (lohi_mir g.fine a)]
  have e : max (W - hi) (W - lo) - (W - hi) = max lo hi - lo := by omega
  rw [e]
  constructor
  · rintro (q | q)
    · exact .inl fun f hf => by have := q _ (List.mem_map_of_mem (f := mir W) hf); rwa [beside_mir] at this
    · exact .inr q
  · rintro (q | q)
    · refine .inl fun f hf => ?_
      obtain ⟨z, hz, rfl⟩ := List.mem_map.1 hf
      rw [beside_mir]
      exact q z hz
    · exact .inr q
theorem next_mir {l : List S41} {W M : Int} (g : Lies l W M) (hl : l.length ≤ 200) (hW : 0 ≤ W ∧ W ≤ 65535) {side : Int} (hs : side = 1 ∨ side = 2) {y ww h : Int} (hy : 0 ≤ y ∧ y ≤ M) (hww : 0 ≤ ww ∧ ww ≤ W) (h1 : 1 ≤ ww ∨ W = 0) :
    nextP (l.map (mir W)) W (3 - side) y ww h = mir W (nextP l W side y ww h) := by
  obtain ⟨x, a, lo, hi, n⟩ := g.next hl hW side (h := h) hy hww h1
  obtain ⟨x', a', lo', hi', n'⟩ := (fine_mir g hW).next (by simpa using hl) hW (3 - side) (h := h) hy hww h1
  have hz := n.lo0
  have ea : a' = a := by
    have f1 := n.st.fits
    have f2 := n'.st.fits
    have e1 := n.st.end_
    have e2 := n'.st.end_
    rw [fits_mir g hW] at f2
    rw [top_mir, ends_mir] at e2
    rcases Int.lt_trichotomy a' a with q | q | q
    · have := n.st.first a' e2 q
      rw [f2] at this; cases this
    · exact q
    · have := n'.st.first a (by rw [top_mir, ends_mir]; exact e1) q
      rw [fits_mir g hW, f1] at this; cases this
  subst ea
  have m := lohi_mir g.fine n.st.room
  have q1 := m.mono n'.st.room fun f hf hb => ⟨hf, hb⟩
  have q2 := n'.st.room.mono m fun f hf hb => ⟨hf, hb⟩
  have k1 := n.at_
  have k2 := n'.at_
  have k3 := n.key
  rw [n.st.is_, n'.st.is_]
  unfold mir
  simp only [S41.mk.injEq, true_and, and_true]
  rw [k1, k2]
  rcases hs with rfl | rfl
  · rw [if_pos (by decide), if_neg (by decide)]; omega
  · rw [if_neg (by decide), if_pos (by decide)]; omega
theorem all_mir {W : Int} (hW : 0 ≤ W ∧ W ≤ 65535) : ∀ (ss : List S43) (out : List S41) (M : Int), (∀ s ∈ ss, ShapeOk s) → out.length + ss.length ≤ 30 → 65535 ≤ M → M + ss.length * 65535 ≤ 1000000000 → Lies out W M → placeAll W true ss (out.map (mir W)) = (placeAll W false ss out).map (mir W)
  | [], out, M, _, _, _, _, _ => rfl
  | s :: ss, out, M, hok, hlen, hM, hM2, g => by
    have hs := hok s List.mem_cons_self
    have e2 := wide_eq hs hW
    have hs' := hs
    unfold ShapeOk at hs'
    simp only [List.length_cons] at hlen
    have hm2 : M + 65535 + (ss.length : Int) * 65535 ≤ 1000000000 := by
      have : ((s :: ss).length : Int) * 65535 = ss.length * 65535 + 65535 := by simp only [List.length_cons]; omega
      omega
    obtain ⟨x, a, lo, hi, nx⟩ := g.next (by omega) hW (sideOf s) (y := s.f1) (ww := wideOf W s) (h := s.f3) (by omega) ⟨e2.2.1, e2.2.2.1⟩ e2.2.2.2
    have g' := g.snoc nx hW (side_eq hs).2.1 (by omega) ⟨e2.2.1, e2.2.2.1⟩ (by omega) (by omega)
    have hn := next_mir g (by omega) hW (side_eq hs).2.1 (y := s.f1) (ww := wideOf W s) (h := s.f3) (by omega) ⟨e2.2.1, e2.2.2.1⟩ e2.2.2.2
    simp only [placeAll]
    have t1 : turned true (sideOf s) = 3 - sideOf s := rfl
    have t2 : turned false (sideOf s) = sideOf s := rfl
    rw [t1, t2, hn]
    have em : out.map (mir W) ++ [mir W (nextP out W (sideOf s) s.f1 (wideOf W s) s.f3)] = (out ++ [nextP out W (sideOf s) s.f1 (wideOf W s) s.f3]).map (mir W) := by simp
    rw [em]
    exact all_mir hW ss _ (M + 65535) (fun z hz => hok z (List.mem_cons_of_mem _ hz)) (by simp; omega) (by omega) (by omega) ⟨g'.fine, g'.inside, fun f hf => by have := g'.low f hf; omega⟩
theorem check_loop {W M : Int} (hW : 0 ≤ W ∧ W ≤ 65535) (l : List S41) (g : Lies l W M) (hl : l.length ≤ 200) : ∀ (d n : Nat), n + d = l.length →
    Ev (fun k => formelaw20_FloatsMirror.l0 k true W l (l.map (mir W)) (n : Int)) true := by
  intro d
  induction d with
  | zero =>
    intro n hn
    refine Ev.zero fun k => ?_
    simp only [formelaw20_FloatsMirror.l0]
    rw [if_neg (by omega)]
  | succ d ih =>
    intro n hn
    have hlt : n < l.length := by omega
    have hlt' : n < (l.map (mir W)).length := by simpa using hlt
    refine Ev.succ (ih (n + 1) (by omega)) fun k hk => ?_
    simp only [formelaw20_FloatsMirror.l0]
    rw [if_pos (by omega), if_pos (show (0 : Int) ≤ (n : Int) by omega), if_pos (by simpa using hlt), rd_at hlt, rd_at hlt', wrap_next (by omega), hk]
    have hfine := g.fine _ (List.getElem_mem hlt)
    have hin := g.inside _ (List.getElem_mem hlt)
    unfold Fine at hfine
    simp only [List.getElem_map, mir]
    rw [wrap64_id (x := 3 - l[n].f0) (by omega) (by omega), wrap64_id (x := W - l[n].f1) (by omega) (by omega), wrap64_id (x := W - l[n].f1 - l[n].f3) (by omega) (by omega)]
    simp
theorem proved : FloatsMirrorStm.Pure := by
  intro xs W hok hW
  have hW := wfu16 hW
  have hsh : ∀ s ∈ xs, ShapeOk s := fun s hs => by
    have h := hok.2 s hs
    have h0 := wfu8 h.1
    have h1 := wfu16 h.2.1
    have h2 := wfu16 h.2.2.1
    have h3 := wfu16 h.2.2.2
    unfold ShapeOk
    omega
  by_cases hlen : (xs.length : Int) > 20
  · refine (Ev.same head_ev fun k q => ?_ : Ev (fun k => formelaw20_FloatsMirror.f k xs W) true).rounds
    unfold formelaw20_FloatsMirror.f
    rw [q]
    simp only [Option.bind_some]
    rw [if_pos hlen]
  · obtain ⟨p1, g1⟩ := placed_ev hsh hW false (by omega)
    obtain ⟨p2, _⟩ := placed_ev hsh hW true (by omega)
    have hd : (xs.length : Int) * 65535 ≤ 20 * 65535 := Int.mul_le_mul_of_nonneg_right (by omega) (by omega)
    have em := all_mir hW xs [] 65535 hsh (by simp; omega) (by omega) (by omega) (Lies.nil _ _)
    rw [List.map_nil] at em
    rw [em] at p2
    have hl := placeAll_len W false xs []
    simp only [List.length_nil, Nat.zero_add] at hl
    generalize placeAll W false xs [] = l at p1 g1 p2 hl
    have hc := check_loop hW l g1 (by omega) l.length 0 (by omega)
    obtain ⟨K, hK⟩ := (Ev.p head_ev).and ((Ev.p p1).and ((Ev.p p2).and (Ev.p hc)))
    refine ⟨K + 1, ?_⟩
    obtain ⟨q1, q2, q3, _⟩ := hK (K + 1) (by omega)
    obtain ⟨_, _, _, q4⟩ := hK K (by omega)
    rw [Int.natCast_zero] at q4
    have w1 : wrap64 W = W := wrap64_id (by omega) (by omega)
    unfold formelaw20_FloatsMirror.f
    rw [q1, w1]
    simp only [Option.bind_some]
    rw [if_neg hlen, q2, q3]
    simp only [Option.bind_some, if_true, List.length_map, bne_self_eq_false, formelaw20_FloatsMirror.j0]
    rw [if_neg (by decide)]
    exact q4
end Go.Proofs.Ytffmflmpiekcfab.FloatsMirrorPure
