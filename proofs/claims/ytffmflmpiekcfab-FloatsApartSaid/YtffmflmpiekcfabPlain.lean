/- Plain facts on the printed functions of layer 20 (floats) and of its reference: what they compute. -/
import Derived.Test.YtffmflmpiekcfabPAllx13
import Derived.Test.YtffmflmpiekcfabPAllx14
import Derived.Test.YtffmflmpiekcfabPAllx15
import Derived.Test.YtffmflmpiekcfabPAllx16
import Derived.Test.YtffmflmpiekcfabPAllx17
import Derived.Test.YtffmflmpiekcfabPAllx8
import Derived.Test.YtffmflmpiekcfabGlib
namespace Go.Proofs.Ytffmflmpiekcfab.Plain
open Go.RowKit Go.Proofs.Ytffmflmpiekcfab.PAll Go.Proofs.YtffmflmpiekcfabW.PrintWords Go.Proofs.YtffmflmpiekcfabW.PrintLast Go.Proofs.YtffmflmpiekcfabW.PrintMore Go.Proofs.YtffmflmpiekcfabGlib

/-! ### one float -/
theorem ref_beside_of (f : S41) (y h : Int) : formeref20_Beside.f f.f0 f.f1 f.f2 f.f3 f.f4 y h = some (besideB f y h) := by
  rw [← beside_of]
  unfold formeref20_Beside.f floats_placed_beside.f floats_placed_bottom.f
  simp only [Option.bind_some]
theorem within_of (a b : Int) : floats_within.f a b = some (decide (0 ≤ a) && decide (a ≤ b)) := by
  unfold floats_within.f
  split <;> simp [*]
theorem size_of (a : Int) : formeref20_size.f a = some (decide (0 ≤ a) && decide (a ≤ 1000000)) := by
  unfold formeref20_size.f
  split
  · rename_i h; simp [show 0 ≤ a from h]
  · rename_i h; simp [show ¬ 0 ≤ a from h]
theorem high_of (a : Int) : formeref20_high.f a = some (decide (0 ≤ a) && decide (a ≤ 1000000000)) := by
  unfold formeref20_high.f
  split
  · rename_i h; simp [show 0 ≤ a from h]
  · rename_i h; simp [show ¬ 0 ≤ a from h]

/-- A float that is well-formed. -/
def Fine (f : S41) : Prop := (f.f0 = 1 ∨ f.f0 = 2) ∧ 0 ≤ f.f1 ∧ f.f1 ≤ 1000000 ∧ 0 ≤ f.f2 ∧ f.f2 ≤ 1000000000 ∧ 0 ≤ f.f3 ∧ f.f3 ≤ 1000000 ∧ 0 ≤ f.f4 ∧ f.f4 ≤ 1000000
instance (f : S41) : Decidable (Fine f) := by unfold Fine; infer_instance
theorem wrong_fine (f : S41) : wrongB f = !decide (Fine f) := by
  have : floats_wrong.f f.f0 f.f1 f.f2 f.f3 f.f4 = some (!decide (Fine f)) := by
    unfold floats_wrong.f
    simp only [within_of, Option.bind_some]
    unfold Fine
    repeat' split
    all_goals simp_all
    all_goals omega
  simp [wrongB, this]

/-- Floats that are well-formed in a width. -/
def okAll (l : List S41) (w : Int) : Bool := decide (0 ≤ w) && decide (w ≤ 1000000) && decide ((l.length : Int) ≤ 200) && l.all fun f => decide (Fine f)
theorem okAll_iff (l : List S41) (w : Int) : okAll l w = true ↔ 0 ≤ w ∧ w ≤ 1000000 ∧ l.length ≤ 200 ∧ ∀ f ∈ l, Fine f := by
  simp only [okAll, Bool.and_eq_true, decide_eq_true_eq, List.all_eq_true]
  constructor
  · rintro ⟨⟨⟨a, b⟩, c⟩, d⟩; exact ⟨a, b, by omega, d⟩
  · rintro ⟨a, b, c, d⟩; exact ⟨⟨⟨a, b⟩, by omega⟩, d⟩
theorem valid_of (l : List S41) (w : Int) : floats_Valid.f l w = some (okAll l w) := by
  unfold floats_Valid.f okAll
  congr 2
  induction l with
  | nil => rfl
  | cons f l ih => simp only [List.any_cons, List.all_cons, wrong_fine, Bool.not_or, Bool.not_not, ih]

theorem ite_some_and (c x : Bool) : (if c = true then some x else some false) = some (c && x) := by cases c <;> rfl

/-! ### loops -/
theorem ref_room_loop (y h : Int) (l : List S41) (hl : l.length < 9223372036854775807) : ∀ (d n : Nat) (lo hi : Int) (b : Bool), n + d = l.length →
    Ev (fun k => formeref20_room.l0 k l y h (n : Int) lo hi) (((l.drop n).foldl (roomStep y h) (lo, hi, b)).1, mx ((l.drop n).foldl (roomStep y h) (lo, hi, b)).1 ((l.drop n).foldl (roomStep y h) (lo, hi, b)).2.1) := by
  intro d
  induction d with
  | zero =>
    intro n lo hi b hn
    refine Ev.zero fun k => ?_
    simp only [formeref20_room.l0]
    rw [if_neg (by omega), drop_all (by omega)]
    rfl
  | succ d ih =>
    intro n lo hi b hn
    have hlt : n < l.length := by omega
    rw [drop_get hlt]
    simp only [List.foldl_cons]
    cases hb : besideB l[n] y h with
    | true =>
      by_cases h1 : l[n].f0 = 1
      · refine Ev.succ (ih (n + 1) (mx lo (wrap64 (l[n].f1 + l[n].f3))) hi true (by omega)) fun k hk => ?_
        simp only [formeref20_room.l0]
        rw [if_pos (by omega), if_pos (by omega), rd_at hlt, ref_beside_of, hb]
        simp only [Option.bind_some, if_true]
        rw [if_pos h1, wrap_next (by omega), hk]
        simp only [roomStep, hb, if_true, h1]
      · refine Ev.succ (ih (n + 1) lo (mn hi l[n].f1) true (by omega)) fun k hk => ?_
        simp only [formeref20_room.l0]
        rw [if_pos (by omega), if_pos (by omega), rd_at hlt, ref_beside_of, hb]
        simp only [Option.bind_some, if_true]
        rw [if_neg h1, wrap_next (by omega), hk]
        simp only [roomStep, hb, if_true, h1, if_false]
    | false =>
      refine Ev.succ (ih (n + 1) lo hi b (by omega)) fun k hk => ?_
      simp only [formeref20_room.l0]
      rw [if_pos (by omega), if_pos (by omega), rd_at hlt, ref_beside_of, hb]
      simp only [Option.bind_some]
      rw [if_neg (by decide), wrap_next (by omega), hk]
      simp only [roomStep, hb]
      rfl
theorem ref_room_ev {l : List S41} (hl : l.length < 9223372036854775807) (w y h : Int) : Ev (fun k => formeref20_room.f k l w y h) ((roomP l w y h).1, (roomP l w y h).2.1) := ref_room_loop y h l hl l.length 0 0 w false (by omega)

theorem ref_valid_loop (l : List S41) (hl : l.length < 9223372036854775807) : ∀ (d n : Nat), n + d = l.length → Ev (fun k => formeref20_Valid.l0 k l (n : Int)) ((l.drop n).all fun f => decide (Fine f)) := by
  intro d
  induction d with
  | zero =>
    intro n hn
    refine Ev.zero fun k => ?_
    simp only [formeref20_Valid.l0]
    rw [if_neg (by omega), drop_all (by omega)]
    simp
  | succ d ih =>
    intro n hn
    have hlt : n < l.length := by omega
    refine Ev.succ (ih (n + 1) (by omega)) fun k hk => ?_
    simp only [formeref20_Valid.l0]
    rw [if_pos (by omega), if_pos (by omega), rd_at hlt, drop_get hlt]
    simp only [size_of, high_of, Option.bind_some, wrap_next (show n < 9223372036854775807 by omega), hk, List.all_cons]
    generalize ((l.drop (n + 1)).all fun f => decide (Fine f)) = r
    generalize l[n] = f
    have e0 : (if f.f0 < 1 then some false else if f.f0 > 2 then some false else some r) = some (decide (1 ≤ f.f0 ∧ f.f0 ≤ 2) && r) := by
      by_cases h1 : f.f0 < 1
      · rw [if_pos h1]; simp [show ¬ 1 ≤ f.f0 by omega]
      · rw [if_neg h1]
        by_cases h2 : f.f0 > 2
        · rw [if_pos h2]; simp [show ¬ f.f0 ≤ 2 by omega]
        · rw [if_neg h2]; simp [show 1 ≤ f.f0 by omega, show f.f0 ≤ 2 by omega]
    rw [e0]
    simp only [ite_some_and]
    congr 1
    rw [Bool.eq_iff_iff]
    simp only [Bool.and_eq_true, decide_eq_true_eq]
    unfold Fine
    constructor
    · rintro ⟨⟨a1, a2⟩, ⟨b1, b2⟩, ⟨c1, c2⟩, ⟨d1, d2⟩, ⟨e1, e2⟩, hr⟩
      exact ⟨⟨by omega, a1, a2, b1, b2, c1, c2, d1, d2⟩, hr⟩
    · rintro ⟨⟨e1, a1, a2, b1, b2, c1, c2, d1, d2⟩, hr⟩
      exact ⟨⟨a1, a2⟩, ⟨b1, b2⟩, ⟨c1, c2⟩, ⟨d1, d2⟩, ⟨by omega, by omega⟩, hr⟩
theorem ref_valid_ev {l : List S41} (hl : l.length < 9223372036854775807) (w : Int) : Ev (fun k => formeref20_Valid.f k l w) (okAll l w) := by
  have h0 := ref_valid_loop l hl l.length 0 (by omega)
  refine Ev.succ h0 fun k hk => ?_
  have hk' : formeref20_Valid.l0 k l 0 = some (l.all fun f => decide (Fine f)) := by simpa using hk
  unfold formeref20_Valid.f okAll
  simp only [size_of, Option.bind_some, formeref20_Valid.j0, hk']
  generalize (l.all fun f => decide (Fine f)) = r
  by_cases h1 : (0 ≤ w) <;> by_cases h2 : (w ≤ 1000000) <;> by_cases h3 : ((l.length : Int) ≤ 200) <;> simp [h1, h2, h3]
  all_goals omega

/-! ### Room -/
def roomAns (l : List S41) (w y h : Int) : Int × Int × Int :=
  if (okAll l w && (decide (0 ≤ y) && decide (y ≤ 1000000000)) && (decide (0 ≤ h) && decide (h ≤ 1000000))) = true then ((roomP l w y h).1, (roomP l w y h).2.1, 0) else (0, 0, 1)
theorem room_ans {l : List S41} (hl : l.length < 9223372036854775807) (w y h : Int) : Ev (fun k => floats_Room.f k l w y h) (roomAns l w y h) := by
  refine Ev.same (room_ev hl w y h) fun k hk => ?_
  unfold floats_Room.f roomAns
  simp only [valid_of, within_of, Option.bind_some, hk]
  generalize okAll l w = c1
  generalize (decide (0 ≤ y) && decide (y ≤ 1000000000)) = c2
  generalize (decide (0 ≤ h) && decide (h ≤ 1000000)) = c3
  cases c1 <;> cases c2 <;> cases c3 <;> rfl
theorem ref_room_ans {l : List S41} (hl : l.length < 9223372036854775807) (w y h : Int) : Ev (fun k => formeref20_Room.f k l w y h) (roomAns l w y h) := by
  refine Ev.same2 (ref_valid_ev hl w) (ref_room_ev hl w y h) fun k hv hk => ?_
  unfold formeref20_Room.f roomAns
  simp only [hv, high_of, size_of, Option.bind_some, hk]
  generalize okAll l w = c1
  generalize (decide (0 ≤ y) && decide (y ≤ 1000000000)) = c2
  generalize (decide (0 ≤ h) && decide (h ≤ 1000000)) = c3
  cases c1 <;> cases c2 <;> cases c3 <;> rfl

/-! ### Below -/
def belowStep (side m : Int) (f : S41) : Int := if side = 0 then mx m (bottomOf f) else if f.f0 = side then mx m (bottomOf f) else m
def belowAns (l : List S41) (w side : Int) : Int × Int :=
  if (okAll l w && (decide (0 ≤ side) && decide (side ≤ 2))) = true then (l.foldl (belowStep side) 0, 0) else (0, 1)
theorem below_loop (side : Int) (l : List S41) (hl : l.length < 9223372036854775807) : ∀ (d n : Nat) (m : Int), n + d = l.length →
    Ev (fun k => floats_Below.l0 k side m l (l.length : Int) (n : Int)) ((l.drop n).foldl (belowStep side) m, 0) := by
  intro d
  induction d with
  | zero =>
    intro n m hn
    refine Ev.zero fun k => ?_
    simp only [floats_Below.l0]
    rw [if_neg (by omega), drop_all (by omega)]
    rfl
  | succ d ih =>
    intro n m hn
    have hlt : n < l.length := by omega
    rw [drop_get hlt]
    simp only [List.foldl_cons]
    refine Ev.succ (ih (n + 1) (belowStep side m l[n]) (by omega)) fun k hk => ?_
    simp only [floats_Below.l0]
    rw [if_pos (by omega), if_pos (by omega), if_pos (by omega), rd_at hlt, wrap_next (by omega), ← hk]
    unfold floats_placed_bottom.f belowStep bottomOf
    simp only [Option.bind_some]
    by_cases h1 : side = 0
    · simp only [if_pos h1]
    · simp only [if_neg h1]
      by_cases h2 : l[n].f0 = side
      · simp only [if_pos h2]
      · simp only [if_neg h2]
theorem ref_below_loop (side : Int) (l : List S41) (hl : l.length < 9223372036854775807) : ∀ (d n : Nat) (m : Int), n + d = l.length →
    Ev (fun k => formeref20_Below.l0 k l side m (n : Int)) ((l.drop n).foldl (belowStep side) m, 0) := by
  intro d
  induction d with
  | zero =>
    intro n m hn
    refine Ev.zero fun k => ?_
    simp only [formeref20_Below.l0]
    rw [if_neg (by omega), drop_all (by omega)]
    rfl
  | succ d ih =>
    intro n m hn
    have hlt : n < l.length := by omega
    rw [drop_get hlt]
    simp only [List.foldl_cons]
    refine Ev.succ (ih (n + 1) (belowStep side m l[n]) (by omega)) fun k hk => ?_
    simp only [formeref20_Below.l0]
    simp only [if_pos (show (0 : Int) ≤ (n : Int) by omega)]
    rw [if_pos (by omega), rd_at hlt, wrap_next (by omega), ← hk]
    unfold belowStep bottomOf
    by_cases h1 : side = 0
    · simp only [if_pos h1]
    · simp only [if_neg h1]
      by_cases h2 : l[n].f0 = side
      · simp only [if_pos h2]
      · simp only [if_neg h2]
theorem below_ans {l : List S41} (hl : l.length < 9223372036854775807) (w side : Int) : Ev (fun k => floats_Below.f k l w side) (belowAns l w side) := by
  refine Ev.succ (below_loop side l hl l.length 0 0 (by omega)) fun k hk => ?_
  have hk' : floats_Below.l0 k side 0 l (l.length : Int) 0 = some (l.foldl (belowStep side) 0, 0) := by simpa using hk
  unfold floats_Below.f belowAns
  simp only [valid_of, within_of, Option.bind_some, floats_Below.j0, hk']
  generalize okAll l w = c1
  generalize (decide (0 ≤ side) && decide (side ≤ 2)) = c2
  cases c1 <;> cases c2 <;> rfl
theorem ref_below_ans {l : List S41} (hl : l.length < 9223372036854775807) (w side : Int) : Ev (fun k => formeref20_Below.f k l w side) (belowAns l w side) := by
  have e1 : Ev (fun k => formeref20_Below.l0 k l side 0 0) (l.foldl (belowStep side) 0, 0) := by simpa using ref_below_loop side l hl l.length 0 0 (by omega)
  obtain ⟨K, hK⟩ := (Ev.p (ref_valid_ev hl w)).and (Ev.p e1)
  refine ⟨K + 1, fun k hk => ?_⟩
  obtain ⟨k, rfl⟩ : ∃ m, k = m + 1 := ⟨k - 1, by omega⟩
  have hv := (hK (k + 1) (by omega)).1
  have hk' := (hK k (by omega)).2
  unfold formeref20_Below.f belowAns
  simp only [hv, Option.bind_some, formeref20_Below.j0, hk']
  generalize okAll l w = c1
  by_cases h1 : side < 0
  · rw [if_pos h1]; simp [show ¬ 0 ≤ side by omega]
  · rw [if_neg h1]
    by_cases h2 : side > 2
    · simp [h2, show ¬ side ≤ 2 by omega]
    · simp only [h2, show 0 ≤ side by omega, show side ≤ 2 by omega, decide_true, decide_false, Bool.and_true]
      cases c1 <;> rfl

/-! ### Same -/
instance : DecidableEq S41 := fun a b => decidable_of_iff (a.f0 = b.f0 ∧ a.f1 = b.f1 ∧ a.f2 = b.f2 ∧ a.f3 = b.f3 ∧ a.f4 = b.f4) (by
  obtain ⟨a0, a1, a2, a3, a4⟩ := a
  obtain ⟨b0, b1, b2, b3, b4⟩ := b
  simp)
theorem ref_same_loop (l m : List S41) (hl : l.length < 9223372036854775807) (hm : l.length = m.length) : ∀ (d n : Nat), n + d = l.length →
    Ev (fun k => formeref20_Same.l0 k l m (n : Int)) (decide (l.drop n = m.drop n)) := by
  intro d
  induction d with
  | zero =>
    intro n hn
    refine Ev.zero fun k => ?_
    simp only [formeref20_Same.l0]
    rw [if_neg (by omega), drop_all (by omega), drop_all (by omega)]
    rfl
  | succ d ih =>
    intro n hn
    have hlt : n < l.length := by omega
    have hlt' : n < m.length := by omega
    refine Ev.succ (ih (n + 1) (by omega)) fun k hk => ?_
    simp only [formeref20_Same.l0]
    rw [if_pos (by omega), if_pos (by omega), if_pos (by omega), rd_at hlt, rd_at hlt', wrap_next (by omega), hk, drop_get hlt, drop_get hlt']
    generalize l[n] = a
    generalize m[n] = b
    obtain ⟨a0, a1, a2, a3, a4⟩ := a
    obtain ⟨b0, b1, b2, b3, b4⟩ := b
    split
    · rename_i h
      congr 1
      symm
      rw [decide_eq_false_iff_not]
      intro he
      injection he with h1 h2
      injection h1 with e0 e1 e2 e3 e4
      subst e0 e1 e2 e3 e4
      simp at h
    · rename_i h
      congr 1
      simp only [Bool.or_eq_true, Bool.not_eq_true', beq_eq_false_iff_ne, ne_eq, not_or, Decidable.not_not] at h
      obtain ⟨e0, e1, e2, e3, e4⟩ := h
      subst e0 e1 e2 e3 e4
      simp
theorem ref_same_ev {l : List S41} (m : List S41) (hl : l.length < 9223372036854775807) : Ev (fun k => formeref20_Same.f k l m) (decide (l = m)) := by
  by_cases hm : l.length = m.length
  · refine Ev.same (ref_same_loop l m hl hm l.length 0 (by omega)) fun k hk => ?_
    have hk' : formeref20_Same.l0 k l m 0 = some (decide (l = m)) := by simpa using hk
    unfold formeref20_Same.f
    rw [if_pos (by omega), hk']
  · refine Ev.any fun k => ?_
    unfold formeref20_Same.f
    rw [if_neg (by omega)]
    congr 1
    symm
    rw [decide_eq_false_iff_not]
    rintro rfl
    exact hm rfl

/-! ### the head -/
theorem head_ev : Ev formelaw20_head.f true := Ev.of formelaw20_head.mono (k := 12) (by decide +kernel)
end Go.Proofs.Ytffmflmpiekcfab.Plain
