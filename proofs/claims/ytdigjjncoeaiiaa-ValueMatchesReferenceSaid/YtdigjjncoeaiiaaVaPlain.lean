/- Printed by a program of this session (wip/gprint.py) over the translation, cut to what is named (wip/dcut.py). Not trusted: Lean checks it. -/
import Derived.Test.YtdigjjncoeaiiaaGlib
import Derived.Test.YtdigjjncoeaiiaaPAlld0
namespace Go.Proofs.Ytdigjjncoeaiiaa.Plain
open Go.RowKit Go.Proofs.Ytdigjjncoeaiiaa.PAll Go.Proofs.YtdigjjncoeaiiaaW.PrintWords Go.Proofs.YtdigjjncoeaiiaaW.PrintLast Go.Proofs.YtdigjjncoeaiiaaW.PrintMore Go.Proofs.YtdigjjncoeaiiaaGlib
set_option linter.unusedSimpArgs false
def nodeR (e : S24) : Bool :=
  match shapeP e.f0 with
  | none => false
  | some (lo, hi, kids) => decide ((e.f2.length : Int) = kids) && decide (lo ≤ e.f1) && decide (e.f1 ≤ hi)
theorem in_of14 (a lo hi : Int) : formeref14_in.f a lo hi = some (decide (lo ≤ a) && decide (a ≤ hi)) := by
  unfold formeref14_in.f
  by_cases h : lo ≤ a
  · rw [if_pos h, decide_eq_true h, Bool.true_and]
  · rw [if_neg h, decide_eq_false h, Bool.false_and]
theorem zero_b (x : Int) : (x == 0) = (decide (0 ≤ x) && decide (x ≤ 0)) := by
  rw [Bool.eq_iff_iff]
  simp
  omega
theorem node_of (e : S24) : formeref14_node.f e.f0 e.f1 e.f2 = some (nodeR e) := by
  unfold formeref14_node.f nodeR shapeP
  simp only [in_of14, Option.bind_some]
  by_cases h1 : e.f0 = 1
  · simp [h1]; by_cases h : e.f2 = [] <;> simp [h]
  by_cases h2 : e.f0 = 2
  · simp [h2]; by_cases h : e.f2 = [] <;> simp [h]
  by_cases h3 : e.f0 = 3
  · simp [h3]; by_cases h : e.f2 = [] <;> simp [h]
  by_cases h4 : e.f0 = 4
  · simp [h4]; by_cases h : e.f2 = [] <;> simp [h]
  by_cases h7 : e.f0 = 7
  · simp [h7]; by_cases h : (e.f2.length : Int) = 1 <;> simp [h]
  by_cases h8 : e.f0 = 8
  · simp [h8]; by_cases h : (e.f2.length : Int) = 1 <;> simp [h]
  by_cases h5 : e.f0 = 5
  · rw [zero_b]; simp [h5]; by_cases h : (e.f2.length : Int) = 2 <;> simp [h]
  by_cases h6 : e.f0 = 6
  · rw [zero_b]; simp [h6]; by_cases h : (e.f2.length : Int) = 2 <;> simp [h]
  by_cases h9 : e.f0 = 9
  · rw [zero_b]; simp [h9]; by_cases h : (e.f2.length : Int) = 2 <;> simp [h]
  by_cases h10 : e.f0 = 10
  · rw [zero_b]; simp [h10]; by_cases h : (e.f2.length : Int) = 2 <;> simp [h]
  simp [h1, h2, h3, h4, h5, h6, h7, h8, h9, h10]
/-- How many nodes, by the reference. -/
def kidsS (g : S24 → Int → Int) (most : Int) : List S24 → Int → Int
  | [], acc => acc
  | k :: ks, acc => if acc + g k (most - acc) > most then 1000 else kidsS g most ks (acc + g k (most - acc))
def sizeR : Nat → S24 → Int → Int
  | 0, _, _ => 1000
  | n + 1, e, most => if nodeR e = true ∧ 1 ≤ most then kidsS (sizeR n) most e.f2 1 else 1000
theorem sizeR_bounds : ∀ (n : Nat) (e : S24) (most : Int), most ≤ 100 → 1 ≤ sizeR n e most ∧ sizeR n e most ≤ 1000
  | 0, e, most, h => ⟨by simp [sizeR], by simp [sizeR]⟩
  | n + 1, e, most, h => by
    unfold sizeR
    by_cases hc : nodeR e = true ∧ 1 ≤ most
    · rw [if_pos hc]
      have key : ∀ (ks : List S24) (acc : Int), 1 ≤ acc → acc ≤ most → 1 ≤ kidsS (sizeR n) most ks acc ∧ kidsS (sizeR n) most ks acc ≤ 1000 := by
        intro ks
        induction ks with
        | nil => intro acc h1 h2; exact ⟨h1, by unfold kidsS; omega⟩
        | cons k ks ih =>
          intro acc h1 h2
          unfold kidsS
          have := sizeR_bounds n k (most - acc) (by omega)
          by_cases h3 : acc + sizeR n k (most - acc) > most
          · rw [if_pos h3]; omega
          · rw [if_neg h3]; exact ih _ (by omega) (by omega)
      exact key e.f2 1 (by omega) hc.2
    · rw [if_neg hc]; omega
theorem rd24_at {l : List S24} {i : Nat} (h : i < l.length) : rd_T24 l (i : Int) = l[i] := getD_at h
theorem size_loop {n : Nat} {most : Int} (hm : most ≤ 100) (hm1 : 1 ≤ most) (hn : n ≤ 1000) (f0 f1 : Int) (ks : List S24) (hks : ks.length ≤ 1000) (ih : ∀ (e : S24) (m : Int), m ≤ 100 → 0 ≤ m → Ev (fun k => formeref14_size.f k e.f0 e.f1 e.f2 (n : Int) m) (sizeR n e m)) :
    ∀ (d i : Nat) (acc : Int), i + d = ks.length → 1 ≤ acc → acc ≤ most → Ev (fun k => formeref14_size.l0 k ((n : Int) + 1) most acc (i : Int) f0 f1 ks) (kidsS (sizeR n) most (ks.drop i) acc)
  | 0, i, acc, hi, h1, h2 => by
    refine Ev.step (f := fun _ => some acc) (fun k => ?_) (by rw [drop_all (by omega)]; exact Ev.now _)
    simp only [formeref14_size.l0]
    rw [if_neg (by omega)]
  | d + 1, i, acc, hi, h1, h2 => by
    have hlt : i < ks.length := by omega
    rw [drop_get hlt]
    have hb := sizeR_bounds n ks[i] (most - acc) (by omega)
    have hw1 : wrap64 ((n : Int) + 1 - 1) = (n : Int) := by rw [wrap64_id (by omega) (by omega)]; omega
    have hw2 : wrap64 (most - acc) = most - acc := wrap64_id (by omega) (by omega)
    have hw3 : wrap64 (acc + sizeR n ks[i] (most - acc)) = acc + sizeR n ks[i] (most - acc) := wrap64_id (by omega) (by omega)
    refine Ev.step (f := fun k => (formeref14_size.f k ks[i].f0 ks[i].f1 ks[i].f2 (n : Int) (most - acc)).bind fun t => if wrap64 (acc + t) > most then some 1000 else formeref14_size.l0 k ((n : Int) + 1) most (wrap64 (acc + t)) ((i + 1 : Nat) : Int) f0 f1 ks) (fun k => ?_) ?_
    · simp only [formeref14_size.l0]
      rw [if_pos (by omega), if_pos (by omega), rd24_at hlt, hw1, hw2, wrap_next (by omega)]
    · refine Ev.bind (ih ks[i] (most - acc) (by omega) (by omega)) ?_
      unfold kidsS
      rw [hw3]
      by_cases h3 : acc + sizeR n ks[i] (most - acc) > most
      · rw [if_pos h3]
        simp only [if_pos h3]
        exact Ev.now _
      · rw [if_neg h3]
        simp only [if_neg h3]
        exact size_loop hm hm1 hn f0 f1 ks hks ih d (i + 1) _ (by omega) (by omega) (by omega)
theorem node_kids {e : S24} (h : nodeR e = true) : e.f2.length ≤ 2 := by
  unfold nodeR shapeP at h
  split at h
  · cases h
  · rename_i lo hi kids hs
    simp at h
    repeat' split at hs
    all_goals first | (cases hs; done) | (obtain ⟨rfl, rfl, rfl⟩ := (by simpa using hs : _ ∧ _ ∧ _); omega)
theorem size_ev : ∀ (n : Nat), n ≤ 1000 → ∀ (e : S24) (most : Int), most ≤ 100 → 0 ≤ most → Ev (fun k => formeref14_size.f k e.f0 e.f1 e.f2 (n : Int) most) (sizeR n e most) := by
  intro n
  induction n with
  | zero =>
    intro hn e most hm h0
    refine Ev.succ (f := fun k => formeref14_size.j0 k 0 most true e.f0 e.f1 e.f2) (a := 1000) (Ev.zero (fun k => by simp [formeref14_size.j0])) (fun k hk => ?_)
    simp only [formeref14_size.f, node_of, Option.bind_some]
    cases nodeR e <;> simp [hk, sizeR]
  | succ n ih =>
    intro hn e most hm h0
    have hi := ih (by omega)
    unfold sizeR
    by_cases hc : nodeR e = true ∧ 1 ≤ most
    · rw [if_pos hc]
      have hk2 := node_kids hc.1
      refine Ev.succ (f := fun k => formeref14_size.j0 k ((n : Int) + 1) most false e.f0 e.f1 e.f2) (a := kidsS (sizeR n) most e.f2 1) (Ev.step (fun k => by simp only [formeref14_size.j0]; rfl) (by have := size_loop hm hc.2 (by omega) e.f0 e.f1 e.f2 (by omega) hi e.f2.length 0 1 (by omega) (by omega) hc.2; simpa using this)) (fun k hk => ?_)
      simp only [formeref14_size.f, node_of, Option.bind_some]
      rw [if_pos hc.1, if_neg (by omega), decide_eq_false (by omega)]
      exact hk
    · rw [if_neg hc]
      refine Ev.succ (f := fun k => formeref14_size.j0 k ((n : Int) + 1) most true e.f0 e.f1 e.f2) (a := 1000) (Ev.zero (fun k => by simp [formeref14_size.j0])) (fun k hk => ?_)
      simp only [formeref14_size.f, node_of, Option.bind_some]
      cases hne : nodeR e
      · simpa using hk
      · have h1 : ¬ 1 ≤ most := fun h => hc ⟨hne, h⟩
        rw [if_pos rfl, if_neg (by omega), decide_eq_true (by omega)]
        exact hk
theorem nodeOk_iff (e : S24) (n : Nat) (L : Int) : nodeOk e (n + 1) (L - 1) = (nodeR e && decide (1 ≤ L)) := by
  unfold nodeOk nodeR
  cases shapeP e.f0 with
  | none => rfl
  | some p =>
    obtain ⟨lo, hi, kids⟩ := p
    rw [Bool.eq_iff_iff]
    simp
    constructor
    · intro h; exact ⟨⟨⟨h.1.1.2, h.1.2⟩, h.2⟩, by omega⟩
    · intro h; exact ⟨⟨⟨by omega, h.1.1.1⟩, h.1.1.2⟩, h.1.2⟩
theorem kids_size {g : S24 → Int → Bool × Int} {s : S24 → Int → Int} {most : Int} (hm : most ≤ 100) (h : ∀ k l, l ≤ 100 → 0 ≤ l → (∀ l', g k l = (true, l') → s k l = l - l' ∧ 0 ≤ l' ∧ l' ≤ l - 1) ∧ (∀ l', g k l = (false, l') → s k l = 1000)) : ∀ (ks : List S24) (l : Int), 0 ≤ l → l ≤ most - 1 →
    (∀ l', kidsF g ks l = (true, l') → kidsS s most ks (most - l) = most - l' ∧ 0 ≤ l' ∧ l' ≤ l) ∧ (∀ l', kidsF g ks l = (false, l') → kidsS s most ks (most - l) = 1000)
  | [], l, h0, h1 => by
    refine ⟨fun l' he => ?_, fun l' he => by cases he⟩
    obtain rfl : l = l' := (Prod.mk.inj he).2
    exact ⟨rfl, h0, by omega⟩
  | k :: ks, l, h0, h1 => by
    obtain ⟨ht, hf⟩ := h k l (by omega) h0
    obtain ⟨b, l2, hg⟩ : ∃ b l2, g k l = (b, l2) := ⟨_, _, rfl⟩
    unfold kidsF kidsS
    rw [hg, show most - (most - l) = l by omega]
    cases b with
    | true =>
      obtain ⟨hs, h2, h3⟩ := ht l2 hg
      rw [if_pos rfl, hs, if_neg (by omega), show most - l + (l - l2) = most - l2 by omega]
      have := kids_size hm h ks l2 h2 (by omega)
      exact ⟨fun l' he => by have := this.1 l' he; omega, this.2⟩
    | false =>
      have hs := hf l2 hg
      rw [if_neg (by simp), hs, if_pos (by omega)]
      exact ⟨fun l' he => by simp at he, fun _ _ => rfl⟩
theorem formed_size : ∀ (n : Nat) (e : S24) (L : Int), L ≤ 100 → 0 ≤ L → (∀ L', formedP n e L = (true, L') → sizeR n e L = L - L' ∧ 0 ≤ L' ∧ L' ≤ L - 1) ∧ (∀ L', formedP n e L = (false, L') → sizeR n e L = 1000)
  | 0, e, L, h, h0 => ⟨fun L' he => by simp [formedP] at he, fun L' he => rfl⟩
  | n + 1, e, L, h, h0 => by
    unfold formedP sizeR
    rw [nodeOk_iff]
    by_cases hc : nodeR e = true ∧ 1 ≤ L
    · rw [if_pos hc, if_pos (by simp [hc.1, hc.2])]
      have := kids_size (g := formedP n) (s := sizeR n) (most := L) h (fun k l h1 h2 => formed_size n k l h1 h2) e.f2 (L - 1) (by omega) (by omega)
      rw [show L - (L - 1) = 1 by omega] at this
      exact ⟨fun L' he => by have := this.1 L' he; omega, this.2⟩
    · rw [if_neg hc, if_neg (by intro h; rw [Bool.and_eq_true] at h; exact hc ⟨h.1, of_decide_eq_true h.2⟩)]
      exact ⟨fun L' he => by simp at he, fun _ _ => rfl⟩
theorem valid_size (e : S24) : decide (sizeR 30 e 100 ≤ 100) = validE e := by
  unfold validE
  obtain ⟨ht, hf⟩ := formed_size 30 e 100 (by omega) (by omega)
  obtain ⟨b, L', hg⟩ : ∃ b L', formedP 30 e 100 = (b, L') := ⟨_, _, rfl⟩
  rw [hg]
  cases b with
  | true => have := ht L' hg; exact decide_eq_true (by omega)
  | false => have := hf L' hg; exact decide_eq_false (by omega)
/-- The reference's Valid is the program's. -/
theorem rvalid_ev (e : S24) : Ev (fun k => formeref14_Valid.f k e.f0 e.f1 e.f2) (validE e) := by
  unfold formeref14_Valid.f
  refine Ev.bind (size_ev 30 (by omega) e 100 (by omega) (by omega)) ?_
  rw [valid_size]
  exact Ev.now _
theorem tdiv_b {a d : Int} (hd : 0 < d) (h0 : -4000000000000000000 ≤ a) (h1 : a ≤ 4000000000000000000) : -4000000000000000000 ≤ Int.tdiv a d ∧ Int.tdiv a d ≤ 4000000000000000000 := by
  by_cases ha : 0 ≤ a
  · have h2 := Int.tdiv_nonneg ha (by omega : 0 ≤ d)
    have h3 : Int.tdiv a d ≤ a := Int.tdiv_le_self d ha
    omega
  · have h3 : Int.tdiv (-a) d ≤ -a := Int.tdiv_le_self d (by omega)
    have h2 := Int.tdiv_nonneg (by omega : 0 ≤ -a) (by omega : 0 ≤ d)
    rw [Int.neg_tdiv] at h3 h2
    omega
theorem floor_ref {a d : Int} (hd : 0 < d) (h0 : -4000000000000000000 ≤ a) (h1 : a ≤ 4000000000000000000) : formeref01_Floor.f a d = some (a / d) := by
  have hf := floor_of a d hd
  have hb := tdiv_b hd h0 h1
  unfold formeref01_Floor.f
  rw [if_neg (by omega), ← hf, wrap64_id (x := Int.tdiv a d) (by omega) (by omega)]
  split
  · rw [wrap64_id (by omega) (by omega)]
  · rfl
theorem coord_ref (a : Int) : formeref01_Coord.f a = some (coordB a) := by
  unfold formeref01_Coord.f coordB
  by_cases h : -1000000000 ≤ a
  · rw [if_pos h, decide_eq_true h, Bool.true_and]
  · rw [if_neg h, decide_eq_false h, Bool.false_and]
theorem rd_coord {l : List Int} (h : ∀ x ∈ l, coordB x = true) {i : Nat} (hi : i < l.length) : -1000000000 ≤ rd l (i : Int) ∧ rd l (i : Int) ≤ 1000000000 := vals_at h (by omega) (by omega)
theorem compute_ref {e : S24} {l : List Int} {width scale x0 x1 x2 x3 x4 x5 x6 x7 : Int} (hwf : wfN e) (hl : l.length = e.f2.length) (hc : ∀ x ∈ l, coordB x = true) (hw : 0 ≤ width ∧ width ≤ 1000000) (hs : 50 ≤ scale ∧ scale ≤ 300) :
    formeref14_compute.f e.f0 e.f1 e.f2 l width scale x0 x1 x2 x3 x4 x5 x6 x7 = some (opP width scale [x0, x1, x2, x3, x4, x5, x6, x7] e.f0 e.f1 l) := by
  obtain ⟨lo, hi, kids, hsh, hk, h0, h1⟩ := hwf
  unfold formeref14_compute.f opP
  unfold shapeP at hsh
  by_cases e1 : e.f0 = 1
  · rw [if_pos e1, if_pos e1]
  rw [if_neg e1, if_neg e1]
  rw [if_neg e1] at hsh
  by_cases e2 : e.f0 = 2
  · rw [if_pos (.inl e2)] at hsh
    obtain ⟨rfl, rfl, rfl⟩ : -10000 = lo ∧ 10000 = hi ∧ 0 = kids := by simpa using hsh
    have hb := mul_bound (a := e.f1) (b := width) (m := 10000) (n := 1000000) (by omega) (by omega) (by omega) (by omega)
    rw [if_pos e2, if_pos e2, wrap64_id (x := e.f1 * width) (by omega) (by omega), floor_ref (by omega) (by omega) (by omega)]
    rfl
  rw [if_neg e2, if_neg e2]
  by_cases e3 : e.f0 = 3
  · rw [if_pos (.inr e3)] at hsh
    obtain ⟨rfl, rfl, rfl⟩ : -10000 = lo ∧ 10000 = hi ∧ 0 = kids := by simpa using hsh
    have hb := mul_bound (a := e.f1) (b := scale) (m := 10000) (n := 300) (by omega) (by omega) (by omega) (by omega)
    rw [if_pos e3, if_pos e3, wrap64_id (x := e.f1 * scale) (by omega) (by omega), floor_ref (by omega) (by omega) (by omega)]
    rfl
  rw [if_neg e3, if_neg e3]
  rw [if_neg (by intro h; exact h.elim e2 e3)] at hsh
  by_cases e4 : e.f0 = 4
  · rw [if_pos e4] at hsh
    obtain ⟨rfl, rfl, rfl⟩ : 1 = lo ∧ 8 = hi ∧ 0 = kids := by simpa using hsh
    rw [if_pos e4, if_pos e4, if_pos h0, if_pos h1]
  rw [if_neg e4, if_neg e4]
  rw [if_neg e4] at hsh
  by_cases e7 : e.f0 = 7
  · rw [if_pos e7] at hsh
    obtain ⟨rfl, rfl, rfl⟩ : -1000 = lo ∧ 1000 = hi ∧ 1 = kids := by simpa using hsh
    have hx := rd_coord hc (i := 0) (by omega)
    have hb := mul_bound (a := e.f1) (b := rd l 0) (m := 1000) (n := 1000000000) (by omega) (by omega) hx.1 hx.2
    rw [if_pos e7, if_pos e7, if_pos (by omega), wrap64_id (x := e.f1 * rd l 0) (by omega) (by omega)]
  rw [if_neg e7, if_neg e7]
  rw [if_neg e7] at hsh
  by_cases e8 : e.f0 = 8
  · rw [if_pos e8] at hsh
    obtain ⟨rfl, rfl, rfl⟩ : 1 = lo ∧ 1000 = hi ∧ 1 = kids := by simpa using hsh
    have hx := rd_coord hc (i := 0) (by omega)
    have hx' : -1000000000 ≤ rd l 0 ∧ rd l 0 ≤ 1000000000 := hx
    rw [if_pos e8, if_pos e8, if_pos (by omega), floor_ref (by omega) (by omega) (by omega)]
    rfl
  rw [if_neg e8, if_neg e8]
  rw [if_neg e8] at hsh
  have hd : e.f0 = 5 ∨ e.f0 = 6 ∨ e.f0 = 9 ∨ e.f0 = 10 := by
    by_cases h : e.f0 = 5 ∨ e.f0 = 6 ∨ e.f0 = 9 ∨ e.f0 = 10
    · exact h
    · rw [if_neg h] at hsh; cases hsh
  rw [if_pos hd] at hsh
  obtain ⟨rfl, rfl, rfl⟩ : 0 = lo ∧ 0 = hi ∧ 2 = kids := by simpa using hsh
  have hx : -1000000000 ≤ rd l 0 ∧ rd l 0 ≤ 1000000000 := rd_coord hc (i := 0) (by omega)
  have hy : -1000000000 ≤ rd l 1 ∧ rd l 1 ≤ 1000000000 := rd_coord hc (i := 1) (by omega)
  have p0 : (0 : Int) < (l.length : Int) := by omega
  have p1 : (1 : Int) < (l.length : Int) := by omega
  simp only [if_pos p0, if_pos p1]
  rw [wrap64_id (x := rd l 0 + rd l 1) (by omega) (by omega), wrap64_id (x := rd l 0 - rd l 1) (by omega) (by omega)]
  rcases hd with h | h | h | h <;> simp [h]
/-- A value, as the reference says it. -/
def pairR : Option Int → Int × Bool
  | some x => (x, true)
  | none => (0, false)
theorem evL_length {g : S24 → Option Int} : ∀ (ks : List S24) (l : List Int), evL g ks = some l → l.length = ks.length
  | [], l, h => by obtain rfl := Option.some.inj h; rfl
  | k :: ks, l, h => by
    unfold evL at h
    obtain ⟨x, hx, h⟩ := Option.bind_eq_some_iff.mp h
    obtain ⟨l', hl, h⟩ := Option.bind_eq_some_iff.mp h
    obtain rfl := Option.some.inj h
    simp [evL_length ks l' hl]
theorem evL_coord {width scale : Int} {v : List Int} {n : Nat} : ∀ (ks : List S24) (l : List Int), evL (evF width scale v n) ks = some l → ∀ x ∈ l, coordB x = true
  | [], l, h => by obtain rfl := Option.some.inj h; intro x hx; cases hx
  | k :: ks, l, h => by
    unfold evL at h
    obtain ⟨x, hx, h⟩ := Option.bind_eq_some_iff.mp h
    obtain ⟨l', hl, h⟩ := Option.bind_eq_some_iff.mp h
    obtain rfl := Option.some.inj h
    intro y hy
    rcases List.mem_cons.1 hy with rfl | hy
    · exact evF_coord hx
    · exact evL_coord ks l' hl y hy
theorem wf_kids {e : S24} (h : wfN e) : e.f2.length ≤ 2 := by
  obtain ⟨lo, hi, kids, hs, hk, _, _⟩ := h
  have := shape_kids hs
  omega
theorem eval_loop {n : Nat} {width scale x0 x1 x2 x3 x4 x5 x6 x7 : Int} (f0 f1 : Int) (ks : List S24) (hks : ks.length ≤ 2) {r : Int × Bool}
    (ih : ∀ k ∈ ks, Ev (fun j => formeref14_eval.f j k.f0 k.f1 k.f2 width scale x0 x1 x2 x3 x4 x5 x6 x7) (pairR (evF width scale [x0, x1, x2, x3, x4, x5, x6, x7] n k))) :
    ∀ (d i : Nat) (acc : List Int), i + d = ks.length → acc.length = i →
      (∀ l, evL (evF width scale [x0, x1, x2, x3, x4, x5, x6, x7] n) (ks.drop i) = some l → Ev (fun _ => (formeref14_compute.f f0 f1 ks (acc ++ l) width scale x0 x1 x2 x3 x4 x5 x6 x7).bind fun t => (formeref01_Coord.f t).bind fun u => if u = true then some (t, true) else some (0, false)) r) →
      (evL (evF width scale [x0, x1, x2, x3, x4, x5, x6, x7] n) (ks.drop i) = none → r = (0, false)) →
      Ev (fun j => formeref14_eval.l0 j width scale acc (i : Int) f0 f1 ks x0 x1 x2 x3 x4 x5 x6 x7) r
  | 0, i, acc, hi, ha, hs, hn => by
    have h1 := hs [] (by rw [drop_all (by omega)]; rfl)
    rw [List.append_nil] at h1
    refine Ev.step (fun k => ?_) h1
    simp only [formeref14_eval.l0]
    rw [if_neg (by omega)]
  | d + 1, i, acc, hi, ha, hs, hn => by
    have hlt : i < ks.length := by omega
    rw [drop_get hlt] at hs hn
    unfold evL at hs hn
    refine Ev.step (f := fun k => (formeref14_eval.f k ks[i].f0 ks[i].f1 ks[i].f2 width scale x0 x1 x2 x3 x4 x5 x6 x7).bind fun b => if b.2 = true then formeref14_eval.l0 k width scale (acc ++ [b.1]) ((i + 1 : Nat) : Int) f0 f1 ks x0 x1 x2 x3 x4 x5 x6 x7 else some (0, false)) (fun k => ?_) ?_
    · simp only [formeref14_eval.l0]
      rw [if_pos (by omega), if_pos (by omega), rd24_at hlt, wrap_next (by omega)]
      simp only [if_pos (show acc.length < 17592186044416 by omega)]
    · refine Ev.bind (ih ks[i] (List.getElem_mem _)) ?_
      cases hz : evF width scale [x0, x1, x2, x3, x4, x5, x6, x7] n ks[i] with
      | none =>
        rw [hz] at hn
        rw [hn rfl]
        exact Ev.now _
      | some x =>
        simp only [pairR, if_true]
        rw [hz] at hs hn
        refine eval_loop f0 f1 ks hks ih d (i + 1) (acc ++ [x]) (by omega) (by simp [ha]) (fun l hl => ?_) (fun hl => ?_)
        · have := hs (x :: l) (by rw [Option.bind_some, hl]; rfl)
          simpa using this
        · exact hn (by rw [Option.bind_some, hl]; rfl)
/-- The reference's value is the program's. -/
theorem reval_ev {width scale x0 x1 x2 x3 x4 x5 x6 x7 : Int} (hw : 0 ≤ width ∧ width ≤ 1000000) (hs : 50 ≤ scale ∧ scale ≤ 300) : ∀ (n : Nat) (e : S24), wfE n e → Ev (fun j => formeref14_eval.f j e.f0 e.f1 e.f2 width scale x0 x1 x2 x3 x4 x5 x6 x7) (pairR (evF width scale [x0, x1, x2, x3, x4, x5, x6, x7] n e))
  | 0, e, h => h.elim
  | n + 1, e, ⟨h1, h2⟩ => by
    refine Ev.step (f := fun j => formeref14_eval.l0 j width scale [] ((0 : Nat) : Int) e.f0 e.f1 e.f2 x0 x1 x2 x3 x4 x5 x6 x7) (fun k => rfl) ?_
    refine eval_loop e.f0 e.f1 e.f2 (wf_kids h1) (fun k hk => reval_ev hw hs n k (h2 k hk)) e.f2.length 0 [] (by omega) rfl (fun l hl => ?_) (fun hl => ?_)
    · rw [List.drop_zero] at hl
      rw [List.nil_append, compute_ref h1 (evL_length _ _ hl) (evL_coord _ _ hl) hw hs]
      simp only [Option.bind_some, coord_ref]
      unfold evF
      rw [hl, Option.bind_some]
      split
      · exact Ev.now _
      · exact Ev.now _
    · rw [List.drop_zero] at hl
      unfold evF
      rw [hl]
      rfl
def hasR (op n : Int) : Nat → S24 → Bool
  | 0, _ => false
  | m + 1, e => (decide (e.f0 = op) && (decide (n < 0) || decide (e.f1 = n))) || e.f2.any (hasR op n m)
theorem has_loop {m : Nat} {op n : Int} (f0 f1 : Int) (ks : List S24) (hks : ks.length ≤ 2) (ih : ∀ k ∈ ks, Ev (fun j => formeref14_Has.f j k.f0 k.f1 k.f2 op n) (hasR op n m k)) :
    ∀ (d i : Nat), i + d = ks.length → Ev (fun j => formeref14_Has.l0 j op n (i : Int) f0 f1 ks) ((ks.drop i).any (hasR op n m))
  | 0, i, hi => by
    refine Ev.step (f := fun _ => some false) (fun k => ?_) (by rw [drop_all (by omega)]; exact Ev.now _)
    simp only [formeref14_Has.l0]
    rw [if_neg (by omega)]
  | d + 1, i, hi => by
    have hlt : i < ks.length := by omega
    rw [drop_get hlt]
    refine Ev.step (f := fun k => (formeref14_Has.f k ks[i].f0 ks[i].f1 ks[i].f2 op n).bind fun b => if b = true then some true else formeref14_Has.l0 k op n ((i + 1 : Nat) : Int) f0 f1 ks) (fun k => ?_) ?_
    · simp only [formeref14_Has.l0]
      rw [if_pos (by omega), if_pos (by omega), rd24_at hlt, wrap_next (by omega)]
    · refine Ev.bind (ih ks[i] (List.getElem_mem _)) ?_
      rw [List.any_cons]
      cases hz : hasR op n m ks[i] with
      | true => simp only [if_true, Bool.true_or]; exact Ev.now _
      | false => simp only [Bool.false_or]; simpa using has_loop f0 f1 ks hks ih d (i + 1) (by omega)
theorem has_ev (op n : Int) : ∀ (m : Nat) (e : S24), wfE m e → Ev (fun j => formeref14_Has.f j e.f0 e.f1 e.f2 op n) (hasR op n m e)
  | 0, e, h => h.elim
  | m + 1, e, ⟨h1, h2⟩ => by
    unfold hasR
    have hl := has_loop (op := op) (n := n) e.f0 e.f1 e.f2 (wf_kids h1) (fun k hk => has_ev op n m k (h2 k hk)) e.f2.length 0 (by omega)
    rw [List.drop_zero] at hl
    have key : ∀ b : Bool, b = (decide (e.f0 = op) && (decide (n < 0) || decide (e.f1 = n))) → Ev (fun j => formeref14_Has.j0 j op n b e.f0 e.f1 e.f2) (b || e.f2.any (hasR op n m)) := by
      intro b hb
      cases b with
      | true => exact Ev.zero (fun k => by simp [formeref14_Has.j0])
      | false => exact Ev.step (fun k => by simp only [formeref14_Has.j0]; rfl) (by simpa using hl)
    refine Ev.succ (key _ rfl) (fun k hk => ?_)
    simp only [formeref14_Has.f]
    by_cases a1 : e.f0 = op
    · rw [if_pos a1]
      by_cases a2 : n < 0
      · rw [if_pos a2]
        simpa [a1, a2] using hk
      · rw [if_neg a2]
        rw [show (e.f1 == n) = decide (e.f1 = n) by rw [Bool.eq_iff_iff]; simp]
        simpa [a1, a2] using hk
    · rw [if_neg a1]
      simpa [a1] using hk
theorem evL_congr {g h : S24 → Option Int} : ∀ (ks : List S24), (∀ k ∈ ks, g k = h k) → evL g ks = evL h ks
  | [], _ => rfl
  | k :: ks, hk => by
    unfold evL
    rw [hk k (by simp), evL_congr ks (fun k' h' => hk k' (List.mem_cons_of_mem _ h'))]
theorem valid_wf {e : S24} (h : validE e = true) : wfE 30 e := formed_wf 30 e 100 h
/-- A remainder that is not negative. -/
theorem modP {a m : Int} (h1 : 0 < m) (h2 : m ≤ 1000000000) (h3 : -9223372036854775808 ≤ a) (h4 : a ≤ 9223372036854775807) : Int.tmod (wrap64 (Int.tmod a m + m)) m = a % m := by
  have e1 := Int.tmod_eq_emod (a := a) (b := m)
  have b0 := Int.emod_nonneg a (show m ≠ 0 by omega)
  have b1 := Int.emod_lt_of_pos a h1
  have b2 : -m < Int.tmod a m ∧ Int.tmod a m < m := by
    rw [e1]
    split <;> omega
  rw [wrap64_id (by omega) (by omega), Int.tmod_eq_emod_of_nonneg (by omega), e1]
  split
  · rw [show a % m - ((0 : Nat) : Int) + m = a % m + m by omega, Int.add_emod_right, Int.emod_eq_of_lt b0 b1]
  · rw [show a % m - (m.natAbs : Int) + m = a % m by omega, Int.emod_eq_of_lt b0 b1]
def cnt : Nat → S24 → Nat
  | 0, _ => 0
  | n + 1, e => 1 + (e.f2.map (cnt n)).sum
theorem node_wf (e : S24) : nodeR e = true ↔ wfN e := by
  unfold nodeR wfN
  cases shapeP e.f0 with
  | none => simp
  | some p =>
    obtain ⟨lo, hi, kids⟩ := p
    simp
    constructor
    · intro h; exact ⟨lo, hi, kids, ⟨rfl, rfl, rfl⟩, h.1.1, h.1.2, h.2⟩
    · rintro ⟨lo', hi', kids', ⟨rfl, rfl, rfl⟩, h1, h2, h3⟩; exact ⟨⟨h1, h2⟩, h3⟩
theorem kids_iff {n : Nat} (ih : ∀ (e : S24) (L L' : Int), 0 ≤ L → (formedP n e L = (true, L') ↔ wfE n e ∧ (cnt n e : Int) ≤ L ∧ L' = L - cnt n e)) : ∀ (ks : List S24) (L L' : Int), 0 ≤ L →
    (kidsF (formedP n) ks L = (true, L') ↔ (∀ k ∈ ks, wfE n k) ∧ (((ks.map (cnt n)).sum : Nat) : Int) ≤ L ∧ L' = L - ((ks.map (cnt n)).sum : Nat))
  | [], L, L', h0 => by
    simp [kidsF]
    constructor
    · intro h; exact ⟨h0, by omega⟩
    · intro h; omega
  | k :: ks, L, L', h0 => by
    obtain ⟨b, l2, hg⟩ : ∃ b l2, formedP n k L = (b, l2) := ⟨_, _, rfl⟩
    have hb := formed_bounds n k L b l2 h0 hg
    simp only [kidsF, hg, List.map_cons, List.sum_cons, List.forall_mem_cons]
    cases b with
    | true =>
      have h1 := (ih k L l2 h0).1 hg
      rw [if_pos rfl, kids_iff ih ks l2 L' (hb.2 rfl)]
      constructor
      · rintro ⟨h2, h3, h4⟩; exact ⟨⟨h1.1, h2⟩, by omega, by omega⟩
      · rintro ⟨⟨_, h2⟩, h3, h4⟩; exact ⟨h2, by omega, by omega⟩
    | false =>
      rw [if_neg (by simp)]
      constructor
      · intro h; simp at h
      · rintro ⟨⟨h1, _⟩, h3, h4⟩
        have := (ih k L (L - cnt n k) h0).2 ⟨h1, by omega, rfl⟩
        rw [hg] at this
        simp at this
theorem formed_iff : ∀ (n : Nat) (e : S24) (L L' : Int), 0 ≤ L → (formedP n e L = (true, L') ↔ wfE n e ∧ (cnt n e : Int) ≤ L ∧ L' = L - cnt n e)
  | 0, e, L, L', h0 => by simp [formedP, wfE]
  | n + 1, e, L, L', h0 => by
    unfold formedP wfE cnt
    rw [nodeOk_iff]
    by_cases hc : nodeR e = true ∧ 1 ≤ L
    · rw [if_pos (by simp [hc.1, hc.2]), kids_iff (fun e L L' h => formed_iff n e L L' h) e.f2 (L - 1) L' (by omega)]
      constructor
      · rintro ⟨h2, h3, h4⟩; exact ⟨⟨(node_wf e).1 hc.1, h2⟩, by omega, by omega⟩
      · rintro ⟨⟨_, h2⟩, h3, h4⟩; exact ⟨h2, by omega, by omega⟩
    · rw [if_neg (by intro h; rw [Bool.and_eq_true] at h; exact hc ⟨h.1, of_decide_eq_true h.2⟩)]
      constructor
      · intro h; simp at h
      · rintro ⟨⟨h1, _⟩, h3, h4⟩; exact absurd ⟨(node_wf e).2 h1, by omega⟩ hc
/-- Well-formed: each node is, at most 30 levels, at most 100 nodes. -/
theorem valid_iff (e : S24) : validE e = true ↔ wfE 30 e ∧ cnt 30 e ≤ 100 := by
  unfold validE
  obtain ⟨b, l2, hg⟩ : ∃ b l2, formedP 30 e 100 = (b, l2) := ⟨_, _, rfl⟩
  rw [hg]
  constructor
  · intro h
    obtain rfl : b = true := h
    have := (formed_iff 30 e 100 l2 (by omega)).1 hg
    exact ⟨this.1, by omega⟩
  · rintro ⟨h1, h2⟩
    have := (formed_iff 30 e 100 (100 - cnt 30 e) (by omega)).2 ⟨h1, by omega, rfl⟩
    rw [hg] at this
    exact (Prod.mk.inj this).1
theorem wfE_succ : ∀ (n : Nat) (e : S24), wfE n e → wfE (n + 1) e
  | 0, e, h => h.elim
  | n + 1, e, ⟨h1, h2⟩ => ⟨h1, fun k hk => wfE_succ n k (h2 k hk)⟩
theorem cnt_succ : ∀ (n : Nat) (e : S24), wfE n e → cnt (n + 1) e = cnt n e
  | 0, e, h => h.elim
  | n + 1, e, ⟨h1, h2⟩ => by
    show 1 + (e.f2.map (cnt (n + 1))).sum = 1 + (e.f2.map (cnt n)).sum
    rw [List.map_congr_left (fun k hk => cnt_succ n k (h2 k hk))]
theorem evF_succ {width scale : Int} {v : List Int} : ∀ (n : Nat) (e : S24), wfE n e → evF width scale v (n + 1) e = evF width scale v n e
  | 0, e, h => h.elim
  | n + 1, e, ⟨h1, h2⟩ => by
    show (evL (evF width scale v (n + 1)) e.f2).bind _ = (evL (evF width scale v n) e.f2).bind _
    rw [evL_congr e.f2 (fun k hk => evF_succ n k (h2 k hk))]
/-- A result in range. -/
def chk (r : Int) : Option Int := if coordB r = true then some r else none
theorem evF_one {width scale : Int} {v : List Int} (n : Nat) (op k : Int) (a : S24) : evF width scale v (n + 1) ⟨op, k, [a]⟩ = (evF width scale v n a).bind fun x => chk (opP width scale v op k [x]) := by
  show ((evF width scale v n a).bind fun x => some [x]).bind (fun l => if coordB (opP width scale v op k l) = true then some (opP width scale v op k l) else none) = _
  cases evF width scale v n a <;> rfl
theorem evF_two {width scale : Int} {v : List Int} (n : Nat) (op k : Int) (a b : S24) : evF width scale v (n + 1) ⟨op, k, [a, b]⟩ = (evF width scale v n a).bind fun x => (evF width scale v n b).bind fun y => chk (opP width scale v op k [x, y]) := by
  show ((evF width scale v n a).bind fun x => ((evF width scale v n b).bind fun y => some [y]).bind fun l => some (x :: l)).bind (fun l => if coordB (opP width scale v op k l) = true then some (opP width scale v op k l) else none) = _
  cases evF width scale v n a with
  | none => rfl
  | some x => cases evF width scale v n b <;> rfl
theorem chk_coord {x : Int} (h : coordB x = true) : chk x = some x := if_pos h
/-- What the circumstances must be. -/
def condB (w s : Int) (v : List Int) : Bool := (inI s 50 300 && v.all coordB) && inI w 0 1000000
theorem evalP_eq (e : S24) (w s : Int) (v : List Int) : evalP e w s v = if validE e = true ∧ condB w s v = true then pairE (evF w s v 30 e) else (0, 1) := by
  unfold evalP condB
  generalize (inI s 50 300 && v.all coordB) = c
  cases validE e <;> cases c <;> cases inI w 0 1000000 <;> simp
theorem evalP_ok {e : S24} {w s : Int} {v : List Int} (h : (evalP e w s v).2 = 0) : validE e = true ∧ condB w s v = true ∧ ∃ x, evF w s v 30 e = some x ∧ coordB x = true ∧ (evalP e w s v).1 = x := by
  rw [evalP_eq] at h ⊢
  by_cases hc : validE e = true ∧ condB w s v = true
  · rw [if_pos hc] at h ⊢
    cases hz : evF w s v 30 e with
    | none => rw [hz] at h; simp [pairE] at h
    | some x => exact ⟨hc.1, hc.2, x, rfl, evF_coord hz, rfl⟩
  · rw [if_neg hc] at h; simp at h
theorem pairE_chk (r : Int) : pairE (chk r) = if coordB r = true then (r, 0) else (0, 3) := by
  unfold chk
  split <;> rfl
theorem lawcoord_of (x : Int) : formelaw14_coord.f x = some (coordB x) := by
  unfold formelaw14_coord.f coordB
  by_cases h : x ≥ -1000000000
  · rw [if_pos h, decide_eq_true (show -1000000000 ≤ x from h), Bool.true_and]
  · rw [if_neg h, decide_eq_false (show ¬ -1000000000 ≤ x from h), Bool.false_and]
end Go.Proofs.Ytdigjjncoeaiiaa.Plain
