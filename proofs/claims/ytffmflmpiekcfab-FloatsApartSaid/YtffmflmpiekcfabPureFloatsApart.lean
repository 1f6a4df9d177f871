/- The plain statement of FloatsApart: floats stand inside, in order and apart. -/
import Derived.Test.YtffmflmpiekcfabStmFloatsApart
import Derived.Test.YtffmflmpiekcfabPlainE
namespace Go.Proofs.Ytffmflmpiekcfab.FloatsApartPure
open Go.RowKit Go.Proofs.Ytffmflmpiekcfab.PAll Go.Proofs.Ytffmflmpiekcfab.Plain Go.Proofs.YtffmflmpiekcfabW.PrintWords Go.Proofs.YtffmflmpiekcfabW.PrintLast Go.Proofs.YtffmflmpiekcfabW.PrintMore Go.Proofs.YtffmflmpiekcfabGlib
def Off (f g : S41) : Prop := ¬ (max g.f1 f.f1 < min (g.f1 + g.f3) (f.f1 + f.f3) ∧ max g.f2 f.f2 < min (g.f2 + g.f4) (f.f2 + f.f4))
theorem off_next {l : List S41} {W M side y ww h x a lo hi : Int} (hf : ∀ f ∈ l, Fine f) (n : Plain.Next l W M side y ww h x a lo hi) (ha : 0 ≤ a ∧ a ≤ 1000000000) (hh : 0 ≤ h ∧ h ≤ 65535) : ∀ g ∈ l, Off g ⟨side, x, a, ww, h⟩ := by
  rintro g hg ⟨h1, h2⟩
  simp only [] at h1 h2
  have hb : besideB g a h = true := (beside_fine (hf g hg) (by omega) (by omega)).2 (by omega)
  have k1 := n.key
  have k2 := n.at_
  have k3 : lo ≤ x ∧ x + ww ≤ hi := by
    rw [k2]
    split <;> omega
  by_cases hs : g.f0 = 1
  · have := n.st.room.lo1 g hg hb hs
    omega
  · have := n.st.room.hi1 g hg hb hs
    omega
structure Told (xs : List S43) (l : List S41) : Prop where
  tops : ∀ p ∈ xs.zip l, p.1.f1 ≤ p.2.f2
  down : l.Pairwise fun f g => f.f2 ≤ g.f2
  off : l.Pairwise Off
theorem all_told {W : Int} (hW : 0 ≤ W ∧ W ≤ 65535) : ∀ (ss : List S43) (pre : List S43) (out : List S41) (M : Int), (∀ s ∈ ss, ShapeOk s) → pre.length = out.length → out.length + ss.length ≤ 30 → 65535 ≤ M → M + ss.length * 65535 ≤ 1000000000 → Lies out W M → Told pre out → Told (pre ++ ss) (placeAll W false ss out)
  | [], pre, out, M, _, _, _, _, _, _, t => by simpa [placeAll] using t
  | s :: ss, pre, out, M, hok, hpre, hlen, hM, hM2, g, t => by
    have hs := hok s List.mem_cons_self
    have e2 := wide_eq hs hW
    have hs' := hs
    unfold ShapeOk at hs'
    simp only [List.length_cons] at hlen
    have hm2 : M + 65535 + (ss.length : Int) * 65535 ≤ 1000000000 := by
      have : ((s :: ss).length : Int) * 65535 = ss.length * 65535 + 65535 := by simp only [List.length_cons]; omega
      omega
    obtain ⟨x, a, lo, hi, nx⟩ := g.next (by omega) hW (sideOf s) (y := s.f1) (ww := wideOf W s) (h := s.f3) (by omega) ⟨e2.2.1, e2.2.2.1⟩ e2.2.2.2
    have g' := g.snoc nx hW (side_eq hs).2.1 (by omega) ⟨e2.2.1, e2.2.2.1⟩ (by omega) (by omega)
    have ht := topY_spec out s.f1
    have n5 := nx.low
    have n6 := nx.top
    have hoff := off_next g.fine nx (by omega) (by omega)
    have hnx := nx.st.is_
    simp only [placeAll]
    have t2 : turned false (sideOf s) = sideOf s := rfl
    rw [t2]
    rw [show pre ++ s :: ss = (pre ++ [s]) ++ ss by simp]
    refine all_told hW ss (pre ++ [s]) _ (M + 65535) (fun z hz => hok z (List.mem_cons_of_mem _ hz)) (by simp [hpre]) (by simp; omega) (by omega) (by omega) ⟨g'.fine, g'.inside, fun f hf => by have := g'.low f hf; omega⟩ ?_
    rw [hnx]
    refine ⟨?_, ?_, ?_⟩
    · intro p hp
      rw [List.zip_append hpre] at hp
      rcases List.mem_append.1 hp with hp | hp
      · exact t.tops p hp
      · obtain rfl := List.mem_singleton.1 (show p ∈ [(s, (⟨sideOf s, x, a, wideOf W s, s.f3⟩ : S41))] from hp)
        simp only []
        omega
    · refine List.pairwise_append.2 ⟨t.down, List.pairwise_singleton _ _, fun f hf q hq => ?_⟩
      obtain rfl := List.mem_singleton.1 hq
      have := ht.2.1 f hf
      simp only []
      omega
    · refine List.pairwise_append.2 ⟨t.off, List.pairwise_singleton _ _, fun f hf q hq => ?_⟩
      obtain rfl := List.mem_singleton.1 hq
      exact hoff f hf
theorem inner_loop (xs : List S43) (W : Int) (l : List S41) (hl : l.length ≤ 100) (hf : ∀ f ∈ l, Fine f) (hoff : l.Pairwise Off) (i : Nat) (hi : i < l.length) (hR : Ev (fun k => formelaw20_FloatsApart.l0 k xs true W l ((i + 1 : Nat) : Int)) true) : ∀ (d n : Nat), n + d = i →
    Ev (fun k => formelaw20_FloatsApart.l1 k xs true W l (i : Int) (n : Int) l[i].f0 l[i].f1 l[i].f2 l[i].f3 l[i].f4) true := by
  intro d
  induction d with
  | zero =>
    intro n hn
    refine Ev.succ hR fun k hk => ?_
    simp only [formelaw20_FloatsApart.l1]
    rw [if_neg (by omega), wrap_next (by omega)]
    exact hk
  | succ d ih =>
    intro n hn
    have hlt : n < l.length := by omega
    refine Ev.succ (ih (n + 1) (by omega)) fun k hk => ?_
    have hfi := hf _ (List.getElem_mem hi)
    have hfn := hf _ (List.getElem_mem hlt)
    have ho := (List.pairwise_iff_getElem.1 hoff) n i hlt hi (by omega)
    unfold Off at ho
    unfold Fine at hfi hfn
    simp only [formelaw20_FloatsApart.l1]
    rw [if_pos (show (n : Int) < (i : Int) by omega), if_pos (show (0 : Int) ≤ (n : Int) by omega), if_pos (show (n : Int) < (l.length : Int) by omega), rd_at hlt, wrap_next (by omega), hk]
    simp only [mx_eq, mn_eq]
    rw [wrap64_id (x := l[i].f1 + l[i].f3) (by omega) (by omega), wrap64_id (x := l[n].f1 + l[n].f3) (by omega) (by omega), wrap64_id (x := l[i].f2 + l[i].f4) (by omega) (by omega), wrap64_id (x := l[n].f2 + l[n].f4) (by omega) (by omega)]
    split
    · rename_i h1
      rw [if_neg (fun h2 => ho ⟨h1, h2⟩)]
    · rfl
theorem outer_loop (xs : List S43) (hsh : ∀ s ∈ xs, ShapeOk s) (W M : Int) (hW : 0 ≤ W ∧ W ≤ 65535) (l : List S41) (hl : l.length ≤ 100) (hx : xs.length = l.length) (g : Lies l W M) (t : Told xs l) : ∀ (d n : Nat), n + d = l.length →
    Ev (fun k => formelaw20_FloatsApart.l0 k xs true W l (n : Int)) true := by
  intro d
  induction d with
  | zero =>
    intro n hn
    refine Ev.zero fun k => ?_
    simp only [formelaw20_FloatsApart.l0]
    rw [if_neg (by omega)]
  | succ d ih =>
    intro n hn
    have hlt : n < l.length := by omega
    have hlx : n < xs.length := by omega
    have hin := inner_loop xs W l hl g.fine t.off n hlt (ih (n + 1) (by omega)) n 0 (by omega)
    rw [Int.natCast_zero] at hin
    have hj : Ev (fun k => formelaw20_FloatsApart.j2 k xs true W l (n : Int) false l[n].f0 l[n].f1 l[n].f2 l[n].f3 l[n].f4) true := Ev.succ hin fun k hk => by
      simp only [formelaw20_FloatsApart.j2]
      rw [if_neg Bool.false_ne_true]
      exact hk
    refine Ev.succ hj fun k hk => ?_
    have hfn := g.fine _ (List.getElem_mem hlt)
    have hins := g.inside _ (List.getElem_mem hlt)
    have hsn := hsh _ (List.getElem_mem hlx)
    have htop : xs[n].f1 ≤ l[n].f2 := t.tops (xs[n], l[n]) (by
      have : (xs.zip l)[n]'(by simp; omega) = (xs[n], l[n]) := by simp
      rw [← this]
      exact List.getElem_mem _)
    unfold Fine at hfn
    unfold ShapeOk at hsn
    have r43 : rd_T43 xs (n : Int) = xs[n] := by unfold rd_T43; exact getD_at hlx
    simp only [formelaw20_FloatsApart.l0]
    rw [if_pos (show (n : Int) < (l.length : Int) by omega), if_pos (show (0 : Int) ≤ (n : Int) by omega), rd_at hlt, r43, if_neg (show ¬ l[n].f1 < 0 by omega), wrap64_id (x := l[n].f1 + l[n].f3) (by omega) (by omega), if_neg (show ¬ l[n].f1 + l[n].f3 > W by omega), if_pos (show (n : Int) < (xs.length : Int) by omega), wrap64_id (x := xs[n].f1) (by omega) (by omega), if_neg (show ¬ l[n].f2 < xs[n].f1 by omega)]
    by_cases hn0 : (n : Int) > 0
    · have hp : n - 1 < l.length := by omega
      have e : (n : Int) - 1 = ((n - 1 : Nat) : Int) := by omega
      have hd := (List.pairwise_iff_getElem.1 t.down) (n - 1) n hp hlt (by omega)
      rw [if_pos hn0, wrap64_id (x := (n : Int) - 1) (by omega) (by omega), e, if_pos (show (0 : Int) ≤ ((n - 1 : Nat) : Int) by omega), if_pos (show ((n - 1 : Nat) : Int) < (l.length : Int) by omega), rd_at hp, decide_eq_false (show ¬ l[n].f2 < l[n - 1].f2 by omega)]
      exact hk
    · rw [if_neg hn0]
      exact hk
theorem proved : FloatsApartStm.Pure := by
  intro xs W hok hW
  have hW := wfu16 hW
  have hsh : ∀ s ∈ xs, ShapeOk s := fun s hs => by
    have h := hok.2 s hs
    have h0 := wfu8 h.1
    have h1 := wfu16 h.2.1
    have h2 := wfu16 h.2.2.1
    have h3 := wfu16 h.2.2.2
    unfold ShapeOk
    omega
  by_cases hlen : (xs.length : Int) > 20
  · refine (Ev.same head_ev fun k q => ?_ : Ev (fun k => formelaw20_FloatsApart.f k xs W) true).rounds
    unfold formelaw20_FloatsApart.f
    rw [q]
    simp only [Option.bind_some]
    rw [if_pos hlen]
  · obtain ⟨p1, g1⟩ := placed_ev hsh hW false (by omega)
    have hd : (xs.length : Int) * 65535 ≤ 20 * 65535 := Int.mul_le_mul_of_nonneg_right (by omega) (by omega)
    have t := all_told hW xs [] [] 65535 hsh rfl (by simp; omega) (by omega) (by omega) (Lies.nil _ _) ⟨by simp, List.Pairwise.nil, List.Pairwise.nil⟩
    rw [List.nil_append] at t
    have hl := placeAll_len W false xs []
    simp only [List.length_nil, Nat.zero_add] at hl
    generalize placeAll W false xs [] = l at p1 g1 t hl
    have hc := outer_loop xs hsh W _ hW l (by omega) hl.symm g1 t l.length 0 (by omega)
    rw [Int.natCast_zero] at hc
    have hv : okAll l W = true := (okAll_iff l W).2 ⟨hW.1, by omega, by omega, g1.fine⟩
    obtain ⟨K, hK⟩ := (Ev.p head_ev).and ((Ev.p p1).and (Ev.p hc))
    refine ⟨K + 1, ?_⟩
    obtain ⟨q1, q2, _⟩ := hK (K + 1) (by omega)
    obtain ⟨_, _, q4⟩ := hK K (by omega)
    have w1 : wrap64 W = W := wrap64_id (by omega) (by omega)
    unfold formelaw20_FloatsApart.f
    rw [q1, w1]
    simp only [Option.bind_some]
    rw [if_neg hlen, q2]
    simp only [Option.bind_some, if_true, valid_of, hv, Bool.not_true, formelaw20_FloatsApart.j0]
    rw [if_neg Bool.false_ne_true]
    exact q4
end Go.Proofs.Ytffmflmpiekcfab.FloatsApartPure
