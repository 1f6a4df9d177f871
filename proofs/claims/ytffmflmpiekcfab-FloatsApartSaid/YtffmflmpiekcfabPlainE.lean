/- Plain facts on layer 20 (floats): a row of shapes, each placed after the last. -/
import Derived.Test.YtffmflmpiekcfabPAllx18
import Derived.Test.YtffmflmpiekcfabPlainD
namespace Go.Proofs.Ytffmflmpiekcfab.Plain
open Go.RowKit Go.Proofs.Ytffmflmpiekcfab.PAll Go.Proofs.YtffmflmpiekcfabW.PrintWords Go.Proofs.YtffmflmpiekcfabW.PrintLast Go.Proofs.YtffmflmpiekcfabW.PrintMore Go.Proofs.YtffmflmpiekcfabGlib

/-- A shape's numbers. -/
def ShapeOk (s : S43) : Prop := 0 ≤ s.f0 ∧ s.f0 ≤ 255 ∧ 0 ≤ s.f1 ∧ s.f1 ≤ 65535 ∧ 0 ≤ s.f2 ∧ s.f2 ≤ 65535 ∧ 0 ≤ s.f3 ∧ s.f3 ≤ 65535
def sideOf (s : S43) : Int := 1 + s.f0 % 2
def wideOf (W : Int) (s : S43) : Int := min W (1 + s.f2 % (max 1 W))
theorem side_eq {s : S43} (h : ShapeOk s) : wrap64 (1 + (Int.tmod (wrap64 s.f0) 2)) = sideOf s ∧ (sideOf s = 1 ∨ sideOf s = 2) ∧ wrap64 (3 - sideOf s) = 3 - sideOf s := by
  unfold ShapeOk at h
  unfold sideOf
  rw [wrap64_id (x := s.f0) (by omega) (by omega), Int.tmod_eq_emod_of_nonneg h.1]
  refine ⟨wrap64_id (by omega) (by omega), by omega, wrap64_id (by omega) (by omega)⟩
theorem wide_eq {s : S43} (h : ShapeOk s) {W : Int} (hW : 0 ≤ W ∧ W ≤ 65535) : mn W (wrap64 (1 + (Int.tmod (wrap64 s.f2) (mx 1 W)))) = wideOf W s ∧ 0 ≤ wideOf W s ∧ wideOf W s ≤ W ∧ (1 ≤ wideOf W s ∨ W = 0) := by
  unfold ShapeOk at h
  unfold wideOf
  rw [wrap64_id (x := s.f2) (by omega) (by omega), Int.tmod_eq_emod_of_nonneg h.2.2.2.2.1, mx_eq, mn_eq]
  have h1 : 0 ≤ s.f2 % (max 1 W) := Int.emod_nonneg _ (by omega)
  have h2 : s.f2 % (max 1 W) < max 1 W := Int.emod_lt_of_pos _ (by omega)
  rw [wrap64_id (by omega) (by omega)]
  refine ⟨rfl, by omega, by omega, by omega⟩

/-- Floats that stand inside a width, above a bound. -/
structure Lies (l : List S41) (W M : Int) : Prop where
  fine : ∀ f ∈ l, Fine f
  inside : ∀ f ∈ l, f.f1 + f.f3 ≤ W
  low : ∀ f ∈ l, f.f2 + f.f4 ≤ M
theorem Lies.nil (W M : Int) : Lies [] W M := ⟨by simp, by simp, by simp⟩
/-- The next one. -/
structure Next (l : List S41) (W M side y ww h x a lo hi : Int) : Prop where
  st : Stands l W side y ww h x a lo hi
  lo0 : 0 ≤ lo
  key : lo + ww ≤ hi
  hiW : hi ≤ W
  at_ : x = if side = 2 then hi - ww else lo
  low : a ≤ M
  top : topY l y ≤ a
theorem Lies.next {l : List S41} {W M : Int} (g : Lies l W M) (hl : l.length ≤ 200) (hW : 0 ≤ W ∧ W ≤ 65535) (side : Int) {y ww h : Int} (hy : 0 ≤ y ∧ y ≤ M) (hww : 0 ≤ ww ∧ ww ≤ W) (h1 : 1 ≤ ww ∨ W = 0) :
    ∃ x a lo hi, Next l W M side y ww h x a lo hi := by
  obtain ⟨x, a, lo, hi, s⟩ := next_spec hl g.fine (w := W) (ww := ww) (by omega) (by omega) side y h
  obtain ⟨i1, i2, i3, i4⟩ := s.inside g.fine (by omega) g.inside hww h1
  exact ⟨x, a, lo, hi, s, i1, i2, i3, i4, s.bound g.fine hy.2 g.low, s.above⟩
theorem Lies.snoc {l : List S41} {W M side y ww h x a lo hi : Int} (g : Lies l W M) (n : Next l W M side y ww h x a lo hi) (hW : 0 ≤ W ∧ W ≤ 65535) (hs : side = 1 ∨ side = 2) (hy : 0 ≤ y) (hww : 0 ≤ ww ∧ ww ≤ W) (hh : 0 ≤ h ∧ h ≤ 65535) (hM : M ≤ 1000000000) : Lies (l ++ [nextP l W side y ww h]) W (M + h) := by
  have ht := (topY_spec l y).1
  have n1 := n.lo0
  have n2 := n.key
  have n3 := n.hiW
  have n4 := n.at_
  have n5 := n.low
  have n6 := n.top
  have hx : 0 ≤ x ∧ x + ww ≤ W := by
    rw [n4]
    split <;> omega
  rw [n.st.is_]
  refine ⟨?_, ?_, ?_⟩
  · intro f hf
    rcases List.mem_append.1 hf with hf | hf
    · exact g.fine f hf
    · obtain rfl := List.mem_singleton.1 hf
      unfold Fine
      simp only []
      omega
  · intro f hf
    rcases List.mem_append.1 hf with hf | hf
    · exact g.inside f hf
    · obtain rfl := List.mem_singleton.1 hf
      simp only []
      omega
  · intro f hf
    rcases List.mem_append.1 hf with hf | hf
    · have := g.low f hf; omega
    · obtain rfl := List.mem_singleton.1 hf
      simp only []
      omega
theorem ok_ans {l : List S41} {W M side y ww h : Int} (g : Lies l W M) (hl : l.length < 200) (hW : 0 ≤ W ∧ W ≤ 1000000) (hs : side = 1 ∨ side = 2) (hy : 0 ≤ y ∧ y ≤ 1000000000) (hww : 0 ≤ ww ∧ ww ≤ 1000000) (hh : 0 ≤ h ∧ h ≤ 1000000) (ha : (nextP l W side y ww h).f2 ≤ 1000000000) : placeAns l W side y ww h = (l ++ [nextP l W side y ww h], 0) := by
  have hok : okAll l W = true := (okAll_iff l W).2 ⟨hW.1, hW.2, by omega, g.fine⟩
  unfold placeAns
  rw [if_neg, if_neg (by omega), if_neg (by omega)]
  rw [bad_of, hok]
  have e1 : (decide (1 ≤ side) && decide (side ≤ 2)) = true := by rcases hs with rfl | rfl <;> rfl
  rw [e1]
  simp [hy.1, hy.2, hww.1, hww.2, hh.1, hh.2]

/-- A row of shapes. -/
def turned (mir : Bool) (side : Int) : Int := if mir = true then 3 - side else side
def placeAll (W : Int) (mir : Bool) : List S43 → List S41 → List S41
  | [], out => out
  | s :: ss, out => placeAll W mir ss (out ++ [nextP out W (turned mir (sideOf s)) s.f1 (wideOf W s) s.f3])
theorem placeAll_len (W : Int) (mir : Bool) : ∀ (ss : List S43) (out : List S41), (placeAll W mir ss out).length = out.length + ss.length
  | [], out => by simp [placeAll]
  | s :: ss, out => by simp only [placeAll, placeAll_len W mir ss, List.length_append, List.length_cons, List.length_nil]; omega
theorem turned_ok {s : S43} (h : ShapeOk s) (mir : Bool) : turned mir (sideOf s) = 1 ∨ turned mir (sideOf s) = 2 := by
  have := (side_eq h).2.1
  unfold turned
  split <;> omega
theorem placed_loop (xs : List S43) (hok : ∀ s ∈ xs, ShapeOk s) (W H B : Int) (hW : 0 ≤ W ∧ W ≤ 65535) (hB : ∀ s ∈ xs, s.f1 ≤ B) (hH : ∀ s ∈ xs, s.f3 ≤ H) (hH0 : 0 ≤ H) (mir : Bool) (hlen : xs.length ≤ 100) : ∀ (d n : Nat) (out : List S41) (M : Int), n + d = xs.length → out.length = n → B ≤ M → M + d * H ≤ 1000000000 → Lies out W M →
    Ev (fun k => formelaw20_placed.l0 k xs W mir out (n : Int)) (placeAll W mir (xs.drop n) out, true) ∧ Lies (placeAll W mir (xs.drop n) out) W (M + d * H) := by
  intro d
  induction d with
  | zero =>
    intro n out M hn ho hBM hM g
    refine ⟨Ev.zero fun k => ?_, ?_⟩
    · simp only [formelaw20_placed.l0]
      rw [if_neg (by omega), drop_all (by omega)]
      rfl
    · rw [drop_all (by omega)]
      simpa [placeAll] using g
  | succ d ih =>
    intro n out M hn ho hBM hM g
    have hlt : n < xs.length := by omega
    have hs := hok _ (List.getElem_mem hlt)
    have hsB := hB _ (List.getElem_mem hlt)
    have hsH := hH _ (List.getElem_mem hlt)
    rw [drop_get hlt]
    simp only [placeAll]
    have e1 := side_eq hs
    have e2 := wide_eq hs hW
    have hs' := hs
    unfold ShapeOk at hs'
    have eM : M + ((d + 1 : Nat) : Int) * H = M + H + d * H := by
      have : ((d + 1 : Nat) : Int) * H = d * H + H := by rw [Int.natCast_add, Int.add_mul]; simp
      omega
    have hdH : 0 ≤ (d : Int) * H := Int.mul_nonneg (by omega) hH0
    obtain ⟨x, a, lo, hi, nx⟩ := g.next (by omega) hW (turned mir (sideOf xs[n])) (y := xs[n].f1) (ww := wideOf W xs[n]) (h := xs[n].f3) (by omega) ⟨e2.2.1, e2.2.2.1⟩ e2.2.2.2
    have g' := g.snoc nx hW (turned_ok hs mir) (by omega) ⟨e2.2.1, e2.2.2.1⟩ (by omega) (by omega)
    have hans := ok_ans (l := out) (W := W) (side := turned mir (sideOf xs[n])) (y := xs[n].f1) (ww := wideOf W xs[n]) (h := xs[n].f3) g (by omega) (by omega) (turned_ok hs mir) (by omega) (by omega) (by omega) (by
      rw [nx.st.is_]
      have := nx.low
      simp only []
      omega)
    generalize hnx : nextP out W (turned mir (sideOf xs[n])) xs[n].f1 (wideOf W xs[n]) xs[n].f3 = f at g' hans
    have g'' : Lies (out ++ [f]) W (M + H) := ⟨g'.fine, g'.inside, fun q hq => by have := g'.low q hq; omega⟩
    obtain ⟨i1, i2⟩ := ih (n + 1) (out ++ [f]) (M + H) (by omega) (by simp [ho]) (by omega) (by omega) g''
    refine ⟨Ev.succ i1 fun k hk => ?_, by rw [eM]; exact i2⟩
    have r43 : rd_T43 xs (n : Int) = xs[n] := by unfold rd_T43; exact getD_at hlt
    have hm1 : ¬ mx 1 W = 0 := by rw [mx_eq]; omega
    have w1 : wrap64 xs[n].f1 = xs[n].f1 := wrap64_id (by omega) (by omega)
    have w3 : wrap64 xs[n].f3 = xs[n].f3 := wrap64_id (by omega) (by omega)
    have hlen' : ((out ++ [f]).length : Int) = ((n + 1 : Nat) : Int) := by simp [ho]
    simp only [formelaw20_placed.l0]
    rw [if_pos (by omega), if_pos (show (0 : Int) ≤ (n : Int) by omega), r43, e1.1, e2.1, w1, w3, wrap_next (by omega), e1.2.2]
    simp only [place_of, Option.bind_some]
    cases mir with
    | true =>
      rw [if_pos rfl, if_neg hm1]
      have : 3 - sideOf xs[n] = turned true (sideOf xs[n]) := rfl
      rw [this, hans]
      simp only [if_true]
      rw [if_pos hlen']
      exact hk
    | false =>
      rw [if_neg (by decide), if_neg hm1]
      have : sideOf xs[n] = turned false (sideOf xs[n]) := rfl
      rw [this, hans]
      simp only [if_true]
      rw [if_pos hlen']
      exact hk
theorem placed_ev {xs : List S43} (hok : ∀ s ∈ xs, ShapeOk s) {W : Int} (hW : 0 ≤ W ∧ W ≤ 65535) (mir : Bool) (hlen : xs.length ≤ 20) : Ev (fun k => formelaw20_placed.f k xs W mir) (placeAll W mir xs [], true) ∧ Lies (placeAll W mir xs []) W 1400000 := by
  have hd : (xs.length : Int) * 65535 ≤ 20 * 65535 := Int.mul_le_mul_of_nonneg_right (by omega) (by omega)
  have h := placed_loop xs hok W 65535 65535 hW (fun s hs => (hok s hs).2.2.2.1) (fun s hs => (hok s hs).2.2.2.2.2.2.2) (by omega) mir (by omega) xs.length 0 [] 65535 (by omega) rfl (by omega) (by omega) (Lies.nil _ _)
  refine ⟨h.1, h.2.fine, h.2.inside, fun f hf => ?_⟩
  have := h.2.low f hf
  omega
end Go.Proofs.Ytffmflmpiekcfab.Plain
