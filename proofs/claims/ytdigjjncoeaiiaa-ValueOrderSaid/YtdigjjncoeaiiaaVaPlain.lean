/- Printed by a program of this session (wip/gprint.py) over the translation, cut to what is named (wip/dcut.py). Not trusted: Lean checks it. -/
import Derived.Test.YtdigjjncoeaiiaaGlib
import Derived.Test.YtdigjjncoeaiiaaPAlld0
namespace Go.Proofs.Ytdigjjncoeaiiaa.Plain
open Go.RowKit Go.Proofs.Ytdigjjncoeaiiaa.PAll Go.Proofs.YtdigjjncoeaiiaaW.PrintWords Go.Proofs.YtdigjjncoeaiiaaW.PrintLast Go.Proofs.YtdigjjncoeaiiaaW.PrintMore Go.Proofs.YtdigjjncoeaiiaaGlib
set_option linter.unusedSimpArgs false
def nodeR (e : S24) : Bool :=
  match shapeP e.f0 with
  | none => false
  | some (lo, hi, kids) => decide ((e.f2.length : Int) = kids) && decide (lo ≤ e.f1) && decide (e.f1 ≤ hi)
theorem in_of14 (a lo hi : Int) : formeref14_in.f a lo hi = some (decide (lo ≤ a) && decide (a ≤ hi)) := by
  unfold formeref14_in.f
  by_cases h : lo ≤ a
  · rw [if_pos h, decide_eq_true h, Bool.true_and]
  · rw [if_neg h, decide_eq_false h, Bool.false_and]
theorem zero_b (x : Int) : (x == 0) = (decide (0 ≤ x) && decide (x ≤ 0)) := by
  rw [Bool.eq_iff_iff]
  simp
  omega
theorem node_of (e : S24) : formeref14_node.f e.f0 e.f1 e.f2 = some (nodeR e) := by
  unfold formeref14_node.f nodeR shapeP
  simp only [in_of14, Option.bind_some]
  by_cases h1 : e.f0 = 1
  · simp [h1]; by_cases h : e.f2 = [] <;> simp [h]
  by_cases h2 : e.f0 = 2
  · simp [h2]; by_cases h : e.f2 = [] <;> simp [h]
  by_cases h3 : e.f0 = 3
  · simp [h3]; by_cases h : e.f2 = [] <;> simp [h]
  by_cases h4 : e.f0 = 4
  · simp [h4]; by_cases h : e.f2 = [] <;> simp [h]
  by_cases h7 : e.f0 = 7
  · simp [h7]; by_cases h : (e.f2.length : Int) = 1 <;> simp [h]
  by_cases h8 : e.f0 = 8
  · simp [h8]; by_cases h : (e.f2.length : Int) = 1 <;> simp [h]
  by_cases h5 : e.f0 = 5
  · rw [zero_b]; simp [h5]; by_cases h : (e.f2.length : Int) = 2 <;> simp [h]
  by_cases h6 : e.f0 = 6
  · rw [zero_b]; simp [h6]; by_cases h : (e.f2.length : Int) = 2 <;> simp [h]
  by_cases h9 : e.f0 = 9
  · rw [zero_b]; simp [h9]; by_cases h : (e.f2.length : Int) = 2 <;> simp [h]
  by_cases h10 : e.f0 = 10
  · rw [zero_b]; simp [h10]; by_cases h : (e.f2.length : Int) = 2 <;> simp [h]
  simp [h1, h2, h3, h4, h5, h6, h7, h8, h9, h10]
/-- How many nodes, by the reference. -/
def kidsS (g : S24 → Int → Int) (most : Int) : List S24 → Int → Int
  | [], acc => acc
  | k :: ks, acc => if acc + g k (most - acc) > most then 1000 else kidsS g most ks (acc + g k (most - acc))
def sizeR : Nat → S24 → Int → Int
  | 0, _, _ => 1000
  | n + 1, e, most => if nodeR e = true ∧ 1 ≤ most then kidsS (sizeR n) most e.f2 1 else 1000
theorem sizeR_bounds : ∀ (n : Nat) (e : S24) (most : Int), most ≤ 100 → 1 ≤ sizeR n e most ∧ sizeR n e most ≤ 1000
  | 0, e, most, h => ⟨by simp [sizeR], by simp [sizeR]⟩
  | n + 1, e, most, h => by
    unfold sizeR
    by_cases hc : nodeR e = true ∧ 1 ≤ most
    · rw [if_pos hc]
      have key : ∀ (ks : List S24) (acc : Int), 1 ≤ acc → acc ≤ most → 1 ≤ kidsS (sizeR n) most ks acc ∧ kidsS (sizeR n) most ks acc ≤ 1000 := by
        intro ks
        induction ks with
        | nil => intro acc h1 h2; exact ⟨h1, by unfold kidsS; omega⟩
        | cons k ks ih =>
          intro acc h1 h2
          unfold kidsS
          have := sizeR_bounds n k (most - acc) (by omega)
          by_cases h3 : acc + sizeR n k (most - acc) > most
          · rw [if_pos h3]; omega
          · rw [if_neg h3]; exact ih _ (by omega) (by omega)
      exact key e.f2 1 (by omega) hc.2
    · rw [if_neg hc]; omega
theorem rd24_at {l : List S24} {i : Nat} (h : i < l.length) : rd_T24 l (i : Int) = l[i] := getD_at h
theorem size_loop {n : Nat} {most : Int} (hm : most ≤ 100) (hm1 : 1 ≤ most) (hn : n ≤ 1000) (f0 f1 : Int) (ks : List S24) (hks : ks.length ≤ 1000) (ih : ∀ (e : S24) (m : Int), m ≤ 100 → 0 ≤ m → Ev (fun k => formeref14_size.f k e.f0 e.f1 e.f2 (n : Int) m) (sizeR n e m)) :
    ∀ (d i : Nat) (acc : Int), i + d = ks.length → 1 ≤ acc → acc ≤ most → Ev (fun k => formeref14_size.l0 k ((n : Int) + 1) most acc (i : Int) f0 f1 ks) (kidsS (sizeR n) most (ks.drop i) acc)
  | 0, i, acc, hi, h1, h2 => by
    refine Ev.step (f := fun _ => some acc) (fun k => ?_) (by rw [drop_all (by omega)]; exact Ev.now _)
    simp only [formeref14_size.l0]
    rw [if_neg (by omega)]
  | d + 1, i, acc, hi, h1, h2 => by
    have hlt : i < ks.length := by omega
    rw [drop_get hlt]
    have hb := sizeR_bounds n ks[i] (most - acc) (by omega)
    have hw1 : wrap64 ((n : Int) + 1 - 1) = (n : Int) := by rw [wrap64_id (by omega) (by omega)]; omega
    have hw2 : wrap64 (most - acc) = most - acc := wrap64_id (by omega) (by omega)
    have hw3 : wrap64 (acc + sizeR n ks[i] (most - acc)) = acc + sizeR n ks[i] (most - acc) := wrap64_id (by omega) (by omega)
    refine Ev.step (f := fun k => (formeref14_size.f k ks[i].f0 ks[i].f1 ks[i].f2 (n : Int) (most - acc)).bind fun t => if wrap64 (acc + t) > most then some 1000 else formeref14_size.l0 k ((n : Int) + 1) most (wrap64 (acc + t)) ((i + 1 : Nat) : Int) f0 f1 ks) (fun k => ?_) ?_
    · simp only [formeref14_size.l0]
      rw [if_pos (by omega), if_pos (by omega), rd24_at hlt, hw1, hw2, wrap_next (by omega)]
    · refine Ev.bind (ih ks[i] (most - acc) (by omega) (by omega)) ?_
      unfold kidsS
      rw [hw3]
      by_cases h3 : acc + sizeR n ks[i] (most - acc) > most
      · rw [if_pos h3]
        simp only [if_pos h3]
        exact Ev.now _
      · rw [if_neg h3]
        simp only [if_neg h3]
        exact size_loop hm hm1 hn f0 f1 ks hks ih d (i + 1) _ (by omega) (by omega) (by omega)
theorem node_kids {e : S24} (h : nodeR e = true) : e.f2.length ≤ 2 := by
  unfold nodeR shapeP at h
  split at h
  · cases h
  · rename_i lo hi kids hs
    simp at h
    repeat' split at hs
    all_goals first | (cases hs; done) | (obtain ⟨rfl, rfl, rfl⟩ := (by simpa using hs : _ ∧ _ ∧ _); omega)
theorem size_ev : ∀ (n : Nat), n ≤ 1000 → ∀ (e : S24) (most : Int), most ≤ 100 → 0 ≤ most → Ev (fun k => formeref14_size.f k e.f0 e.f1 e.f2 (n : Int) most) (sizeR n e most) := by
  intro n
  induction n with
  | zero =>
    intro hn e most hm h0
    refine Ev.succ (f := fun k => formeref14_size.j0 k 0 most true e.f0 e.f1 e.f2) (a := 1000) (Ev.zero (fun k => by simp [formeref14_size.j0])) (fun k hk => ?_)
    simp only [formeref14_size.f, node_of, Option.bind_some]
    cases nodeR e <;> simp [hk, sizeR]
  | succ n ih =>
    intro hn e most hm h0
    have hi := ih (by omega)
    unfold sizeR
    by_cases hc : nodeR e = true ∧ 1 ≤ most
    · rw [if_pos hc]
      have hk2 := node_kids hc.1
      refine Ev.succ (f := fun k => formeref14_size.j0 k ((n : Int) + 1) most false e.f0 e.f1 e.f2) (a := kidsS (sizeR n) most e.f2 1) (Ev.step (fun k => by simp only [formeref14_size.j0]; rfl) (by have := size_loop hm hc.2 (by omega) e.f0 e.f1 e.f2 (by omega) hi e.f2.length 0 1 (by omega) (by omega) hc.2; simpa using this)) (fun k hk => ?_)
      simp only [formeref14_size.f, node_of, Option.bind_some]
      rw [if_pos hc.1, if_neg (by omega), decide_eq_false (by omega)]
      exact hk
    · rw [if_neg hc]
      refine Ev.succ (f := fun k => formeref14_size.j0 k ((n : Int) + 1) most true e.f0 e.f1 e.f2) (a := 1000) (Ev.zero (fun k => by simp [formeref14_size.j0])) (fun k hk => ?_)
      simp only [formeref14_size.f, node_of, Option.bind_some]
      cases hne : nodeR e
      · simpa using hk
      · have h1 : ¬ 1 ≤ most := fun h => hc ⟨hne, h⟩
        rw [if_pos rfl, if_neg (by omega), decide_eq_true (by omega)]
        exact hk
theorem nodeOk_iff (e : S24) (n : Nat) (L : Int) : nodeOk e (n + 1) (L - 1) = (nodeR e && decide (1 ≤ L)) := by
  unfold nodeOk nodeR
  cases shapeP e.f0 with
  | none => rfl
  | some p =>
    obtain ⟨lo, hi, kids⟩ := p
    rw [Bool.eq_iff_iff]
    simp
    constructor
    · intro h; exact ⟨⟨⟨h.1.1.2, h.1.2⟩, h.2⟩, by omega⟩
    · intro h; exact ⟨⟨⟨by omega, h.1.1.1⟩, h.1.1.2⟩, h.1.2⟩
theorem kids_size {g : S24 → Int → Bool × Int} {s : S24 → Int → Int} {most : Int} (hm : most ≤ 100) (h : ∀ k l, l ≤ 100 → 0 ≤ l → (∀ l', g k l = (true, l') → s k l = l - l' ∧ 0 ≤ l' ∧ l' ≤ l - 1) ∧ (∀ l', g k l = (false, l') → s k l = 1000)) : ∀ (ks : List S24) (l : Int), 0 ≤ l → l ≤ most - 1 →
    (∀ l', kidsF g ks l = (true, l') → kidsS s most ks (most - l) = most - l' ∧ 0 ≤ l' ∧ l' ≤ l) ∧ (∀ l', kidsF g ks l = (false, l') → kidsS s most ks (most - l) = 1000)
  | [], l, h0, h1 => by
    refine ⟨fun l' he => ?_, fun l' he => by cases he⟩
    obtain rfl : l = l' := (Prod.mk.inj he).2
    exact ⟨rfl, h0, by omega⟩
  | k :: ks, l, h0, h1 => by
    obtain ⟨ht, hf⟩ := h k l (by omega) h0
    obtain ⟨b, l2, hg⟩ : ∃ b l2, g k l = (b, l2) := ⟨_, _, rfl⟩
    unfold kidsF kidsS
    rw [hg, show most - (most - l) = l by omega]
    cases b with
    | true =>
      obtain ⟨hs, h2, h3⟩ := ht l2 hg
      rw [if_pos rfl, hs, if_neg (by omega), show most - l + (l - l2) = most - l2 by omega]
      have := kids_size hm h ks l2 h2 (by omega)
      exact ⟨fun l' he => by have := this.1 l' he; omega, this.2⟩
    | false =>
      have hs := hf l2 hg
      rw [if_neg (by simp), hs, if_pos (by omega)]
      exact ⟨fun l' he => by simp at he, fun _ _ => rfl⟩
theorem formed_size : ∀ (n : Nat) (e : S24) (L : Int), L ≤ 100 → 0 ≤ L → (∀ L', formedP n e L = (true, L') → sizeR n e L = L - L' ∧ 0 ≤ L' ∧ L' ≤ L - 1) ∧ (∀ L', formedP n e L = (false, L') → sizeR n e L = 1000)
  | 0, e, L, h, h0 => ⟨fun L' he => by simp [formedP] at he, fun L' he => rfl⟩
  | n + 1, e, L, h, h0 => by
    unfold formedP sizeR
    rw [nodeOk_iff]
    by_cases hc : nodeR e = true ∧ 1 ≤ L
    · rw [if_pos hc, if_pos (by simp [hc.1, hc.2])]
      have := kids_size (g := formedP n) (s := sizeR n) (most := L) h (fun k l h1 h2 => formed_size n k l h1 h2) e.f2 (L - 1) (by omega) (by omega)
      rw [show L - (L - 1) = 1 by omega] at this
      exact ⟨fun L' he => by have := this.1 L' he; omega, this.2⟩
    · rw [if_neg hc, if_neg (by intro h; rw [Bool.and_eq_true] at h; exact hc ⟨h.1, of_decide_eq_true h.2⟩)]
      exact ⟨fun L' he => by simp at he, fun _ _ => rfl⟩
theorem valid_size (e : S24) : decide (sizeR 30 e 100 ≤ 100) = validE e := by
  unfold validE
  obtain ⟨ht, hf⟩ := formed_size 30 e 100 (by omega) (by omega)
  obtain ⟨b, L', hg⟩ : ∃ b L', formedP 30 e 100 = (b, L') := ⟨_, _, rfl⟩
  rw [hg]
  cases b with
  | true => have := ht L' hg; exact decide_eq_true (by omega)
  | false => have := hf L' hg; exact decide_eq_false (by omega)
/-- The reference's Valid is the program's. -/
theorem rvalid_ev (e : S24) : Ev (fun k => formeref14_Valid.f k e.f0 e.f1 e.f2) (validE e) := by
  unfold formeref14_Valid.f
  refine Ev.bind (size_ev 30 (by omega) e 100 (by omega) (by omega)) ?_
  rw [valid_size]
  exact Ev.now _
theorem evL_congr {g h : S24 → Option Int} : ∀ (ks : List S24), (∀ k ∈ ks, g k = h k) → evL g ks = evL h ks
  | [], _ => rfl
  | k :: ks, hk => by
    unfold evL
    rw [hk k (by simp), evL_congr ks (fun k' h' => hk k' (List.mem_cons_of_mem _ h'))]
def cnt : Nat → S24 → Nat
  | 0, _ => 0
  | n + 1, e => 1 + (e.f2.map (cnt n)).sum
theorem node_wf (e : S24) : nodeR e = true ↔ wfN e := by
  unfold nodeR wfN
  cases shapeP e.f0 with
  | none => simp
  | some p =>
    obtain ⟨lo, hi, kids⟩ := p
    simp
    constructor
    · intro h; exact ⟨lo, hi, kids, ⟨rfl, rfl, rfl⟩, h.1.1, h.1.2, h.2⟩
    · rintro ⟨lo', hi', kids', ⟨rfl, rfl, rfl⟩, h1, h2, h3⟩; exact ⟨⟨h1, h2⟩, h3⟩
theorem kids_iff {n : Nat} (ih : ∀ (e : S24) (L L' : Int), 0 ≤ L → (formedP n e L = (true, L') ↔ wfE n e ∧ (cnt n e : Int) ≤ L ∧ L' = L - cnt n e)) : ∀ (ks : List S24) (L L' : Int), 0 ≤ L →
    (kidsF (formedP n) ks L = (true, L') ↔ (∀ k ∈ ks, wfE n k) ∧ (((ks.map (cnt n)).sum : Nat) : Int) ≤ L ∧ L' = L - ((ks.map (cnt n)).sum : Nat))
  | [], L, L', h0 => by
    simp [kidsF]
    constructor
    · intro h; exact ⟨h0, by omega⟩
    · intro h; omega
  | k :: ks, L, L', h0 => by
    obtain ⟨b, l2, hg⟩ : ∃ b l2, formedP n k L = (b, l2) := ⟨_, _, rfl⟩
    have hb := formed_bounds n k L b l2 h0 hg
    simp only [kidsF, hg, List.map_cons, List.sum_cons, List.forall_mem_cons]
    cases b with
    | true =>
      have h1 := (ih k L l2 h0).1 hg
      rw [if_pos rfl, kids_iff ih ks l2 L' (hb.2 rfl)]
      constructor
      · rintro ⟨h2, h3, h4⟩; exact ⟨⟨h1.1, h2⟩, by omega, by omega⟩
      · rintro ⟨⟨_, h2⟩, h3, h4⟩; exact ⟨h2, by omega, by omega⟩
    | false =>
      rw [if_neg (by simp)]
      constructor
      · intro h; simp at h
      · rintro ⟨⟨h1, _⟩, h3, h4⟩
        have := (ih k L (L - cnt n k) h0).2 ⟨h1, by omega, rfl⟩
        rw [hg] at this
        simp at this
theorem formed_iff : ∀ (n : Nat) (e : S24) (L L' : Int), 0 ≤ L → (formedP n e L = (true, L') ↔ wfE n e ∧ (cnt n e : Int) ≤ L ∧ L' = L - cnt n e)
  | 0, e, L, L', h0 => by simp [formedP, wfE]
  | n + 1, e, L, L', h0 => by
    unfold formedP wfE cnt
    rw [nodeOk_iff]
    by_cases hc : nodeR e = true ∧ 1 ≤ L
    · rw [if_pos (by simp [hc.1, hc.2]), kids_iff (fun e L L' h => formed_iff n e L L' h) e.f2 (L - 1) L' (by omega)]
      constructor
      · rintro ⟨h2, h3, h4⟩; exact ⟨⟨(node_wf e).1 hc.1, h2⟩, by omega, by omega⟩
      · rintro ⟨⟨_, h2⟩, h3, h4⟩; exact ⟨h2, by omega, by omega⟩
    · rw [if_neg (by intro h; rw [Bool.and_eq_true] at h; exact hc ⟨h.1, of_decide_eq_true h.2⟩)]
      constructor
      · intro h; simp at h
      · rintro ⟨⟨h1, _⟩, h3, h4⟩; exact absurd ⟨(node_wf e).2 h1, by omega⟩ hc
/-- Well-formed: each node is, at most 30 levels, at most 100 nodes. -/
theorem valid_iff (e : S24) : validE e = true ↔ wfE 30 e ∧ cnt 30 e ≤ 100 := by
  unfold validE
  obtain ⟨b, l2, hg⟩ : ∃ b l2, formedP 30 e 100 = (b, l2) := ⟨_, _, rfl⟩
  rw [hg]
  constructor
  · intro h
    obtain rfl : b = true := h
    have := (formed_iff 30 e 100 l2 (by omega)).1 hg
    exact ⟨this.1, by omega⟩
  · rintro ⟨h1, h2⟩
    have := (formed_iff 30 e 100 (100 - cnt 30 e) (by omega)).2 ⟨h1, by omega, rfl⟩
    rw [hg] at this
    exact (Prod.mk.inj this).1
theorem wfE_succ : ∀ (n : Nat) (e : S24), wfE n e → wfE (n + 1) e
  | 0, e, h => h.elim
  | n + 1, e, ⟨h1, h2⟩ => ⟨h1, fun k hk => wfE_succ n k (h2 k hk)⟩
theorem cnt_succ : ∀ (n : Nat) (e : S24), wfE n e → cnt (n + 1) e = cnt n e
  | 0, e, h => h.elim
  | n + 1, e, ⟨h1, h2⟩ => by
    show 1 + (e.f2.map (cnt (n + 1))).sum = 1 + (e.f2.map (cnt n)).sum
    rw [List.map_congr_left (fun k hk => cnt_succ n k (h2 k hk))]
theorem evF_succ {width scale : Int} {v : List Int} : ∀ (n : Nat) (e : S24), wfE n e → evF width scale v (n + 1) e = evF width scale v n e
  | 0, e, h => h.elim
  | n + 1, e, ⟨h1, h2⟩ => by
    show (evL (evF width scale v (n + 1)) e.f2).bind _ = (evL (evF width scale v n) e.f2).bind _
    rw [evL_congr e.f2 (fun k hk => evF_succ n k (h2 k hk))]
/-- A result in range. -/
def chk (r : Int) : Option Int := if coordB r = true then some r else none
theorem evF_two {width scale : Int} {v : List Int} (n : Nat) (op k : Int) (a b : S24) : evF width scale v (n + 1) ⟨op, k, [a, b]⟩ = (evF width scale v n a).bind fun x => (evF width scale v n b).bind fun y => chk (opP width scale v op k [x, y]) := by
  show ((evF width scale v n a).bind fun x => ((evF width scale v n b).bind fun y => some [y]).bind fun l => some (x :: l)).bind (fun l => if coordB (opP width scale v op k l) = true then some (opP width scale v op k l) else none) = _
  cases evF width scale v n a with
  | none => rfl
  | some x => cases evF width scale v n b <;> rfl
theorem chk_coord {x : Int} (h : coordB x = true) : chk x = some x := if_pos h
/-- What the circumstances must be. -/
def condB (w s : Int) (v : List Int) : Bool := (inI s 50 300 && v.all coordB) && inI w 0 1000000
theorem evalP_eq (e : S24) (w s : Int) (v : List Int) : evalP e w s v = if validE e = true ∧ condB w s v = true then pairE (evF w s v 30 e) else (0, 1) := by
  unfold evalP condB
  generalize (inI s 50 300 && v.all coordB) = c
  cases validE e <;> cases c <;> cases inI w 0 1000000 <;> simp
theorem pairE_chk (r : Int) : pairE (chk r) = if coordB r = true then (r, 0) else (0, 3) := by
  unfold chk
  split <;> rfl
end Go.Proofs.Ytdigjjncoeaiiaa.Plain
