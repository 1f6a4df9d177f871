/- Printed by a program of this session (wip/gprint.py) over the translation. Not trusted: Lean checks it. -/
import Derived.Test.YtffmflmpiekcfabPAllx0
import Derived.Test.YtffmflmpiekcfabPAllx3
import Derived.Shelf.Abstract
import Derived.Below
namespace Go.Proofs.Ytffmflmpiekcfab.PAll
open Go.RowKit Go.Proofs.YtffmflmpiekcfabW.PrintWords Go.Proofs.YtffmflmpiekcfabW.PrintLast Go.Proofs.YtffmflmpiekcfabW.PrintMore
attribute [local go_sem] max2_int min2_int max_two min_two max_three min_three max_four min_four   -- for this text's walks alone
set_option linter.unusedVariables false
set_option linter.unusedSimpArgs false

-- GIVEN floats_Valid
/-! ### floats_Valid: function 12 -/
open Go.Shelf
/-- A predicate's contract: at any element, in any later world, it answers p. -/
def PredB (f : Nat) (cap : Array Value) (p : S41 → Bool) (w : World) : Prop :=
  ∀ (W : World) (x : S41), Below w.heap.size w W → Calls Try.prog f (#[.agg #[.int .i64 x.f0, .int .i64 x.f1, .int .i64 x.f2, .int .i64 x.f3, .int .i64 x.f4]] ++ cap) W fun e w' => e = .returned (.bool (p x)) ∧ Below W.heap.size W w'

def idxB (p : S41 → Bool) (l : List S41) : Int := if l.any p then ((l.findIdx p : Nat) : Int) else -1

theorem idxB_hit {p : S41 → Bool} {l : List S41} {i : Nat} (h : i < l.length) (hi : p (rd_T41 l i) = true) (hb : ∀ j : Nat, j < i → p (rd_T41 l j) = false) : idxB p l = i := by
  have e : ∀ j : Nat, (hj : j < l.length) → rd_T41 l j = l[j] := fun j hj => by simp [rd_T41, List.getD_eq_getElem?_getD, hj]
  have h1 : l.findIdx p = i := by
    rw [List.findIdx_eq h]
    refine ⟨by rw [← e i h]; exact hi, fun j hj => ?_⟩
    rw [← e j (by omega)]
    exact Bool.eq_false_iff.1 (hb j hj) |> fun h => by simpa using h
  have h2 : l.any p = true := by
    rw [List.any_eq_true]
    exact ⟨l[i], List.getElem_mem h, by rw [← e i h]; exact hi⟩
  unfold idxB
  rw [if_pos h2, h1]
theorem idxB_miss {p : S41 → Bool} {l : List S41} (hb : ∀ j : Nat, j < l.length → p (rd_T41 l j) = false) : idxB p l = -1 := by
  have e : ∀ j : Nat, (hj : j < l.length) → rd_T41 l j = l[j] := fun j hj => by simp [rd_T41, List.getD_eq_getElem?_getD, hj]
  have h2 : l.any p = false := by
    rw [List.any_eq_false]
    intro x hx
    obtain ⟨j, hj, rfl⟩ := List.mem_iff_getElem.1 hx
    rw [← e j hj, hb j hj]
    simp
  unfold idxB
  rw [if_neg (by simp [h2])]

set_option maxHeartbeats 1000000 in
set_option maxRecDepth 100000 in
theorem idx33 (f : Nat) (cap : Array Value) (p : S41 → Bool) (eg : ∀ args w, (callFunc f args).run Try.prog w = .ok (.enter f args) w) (A : Option Addr) (c : Nat) (l : List S41) (w : World) (hr : Kd.C k41 w A l.length l) (hc : l.length ≤ c) (hp : PredB f cap p w) :
    Calls Try.prog 33 #[.slice A l.length c, .func (.func f) #[] cap] w fun e w' => e = .returned (.int .i64 (idxB p l)) ∧ Below w.heap.size w w' := by
  have hu41 := Try.underlying41
  have hn : l.length ≤ 9223372036854775807 := hr.2.1
  have HR := Aside0.mk hr
  have HP := Aside0.mk hp
  clear hr hp
  go_enter Try.func33, Try.ntmps33
  go_wp2_with fail
  go_loopw [8] (fun v8 wr => ∃ i : Nat, i ≤ l.length ∧ v8 = .int .i64 i ∧ Aside0 (∀ j : Nat, j < i → p (rd_T41 l j) = false) ∧ Aside0 (Below w.heap.size w wr)) (fun v8 _ => l.length - (intOf v8).toNat)
  case atStart => exact ⟨0, by omega, rfl, ⟨fun j h => by omega⟩, ⟨Below.refl _ _⟩⟩
  case round =>
    obtain ⟨i, hi, rfl, HB, HW⟩ := hrel
    by_cases hlt : i < l.length
    · obtain ⟨ad, ea, c0, c1, c2, c3, c4⟩ := at_T41 HR.out i (by omega) (by omega)
      cases ea
      rw [Int.toNat_natCast] at c0 c1 c2 c3 c4
      replace c0 := (HW.out.cell (World.block_lt_of_cell? w _ c0)).trans c0
      replace c1 := (HW.out.cell (World.block_lt_of_cell? w _ c1)).trans c1
      replace c2 := (HW.out.cell (World.block_lt_of_cell? w _ c2)).trans c2
      replace c3 := (HW.out.cell (World.block_lt_of_cell? w _ c3)).trans c3
      replace c4 := (HW.out.cell (World.block_lt_of_cell? w _ c4)).trans c4
      have hcp := HP.out wr (rd_T41 l i) HW.out
      generalize hx : rd_T41 l i = x at hcp c0 c1 c2 c3 c4
      have hx' := Aside0.mk hx
      clear hx
      go_wp2_with (refine hcp.mono ?_; rintro e w' ⟨rfl, hb⟩)
      · go_ret
        exact ⟨by rw [idxB_hit hlt (by rw [hx'.out]; assumption) HB.out]; rfl, below_then HW.out HW.out.size hb⟩
      · refine ⟨⟨i + 1, by omega, by go_num, ⟨fun j hj => ?_⟩, ⟨below_then HW.out HW.out.size hb⟩⟩, by simp [intOf]; omega⟩
        by_cases e : j = i
        · subst e; rw [hx'.out]; assumption
        · exact HB.out j (by omega)
    · go_wp2_with fail
      go_ret
      exact ⟨by rw [idxB_miss (fun j hj => HB.out j (by omega))]; rfl, HW.out⟩

theorem idxB_any (p : S41 → Bool) (l : List S41) : decide (idxB p l ≥ 0) = l.any p := by
  unfold idxB
  cases h : l.any p <;> simp

set_option maxHeartbeats 1000000 in
theorem any27 (f : Nat) (cap : Array Value) (p : S41 → Bool) (eg : ∀ args w, (callFunc f args).run Try.prog w = .ok (.enter f args) w) (A : Option Addr) (c : Nat) (l : List S41) (w : World) (hr : Kd.C k41 w A l.length l) (hc : l.length ≤ c) (hp : PredB f cap p w) :
    Calls Try.prog 27 #[.slice A l.length c, .func (.func f) #[] cap] w fun e w' => e = .returned (.bool (l.any p)) ∧ Below w.heap.size w w' := by
  have hcon := idx33 f cap p eg A c l w hr hc hp
  rw [← idxB_any]
  clear eg hr hp
  generalize idxB p l = r at hcon ⊢
  go_enter Try.func27, Try.ntmps27
  go_wp2_with (go_at_call 33; refine hcon.mono ?_; rintro e w' ⟨rfl, hb⟩)
  go_ret
  exact ⟨rfl, hb⟩

def wrongB (x : S41) : Bool := (floats_wrong.f x.f0 x.f1 x.f2 x.f3 x.f4).getD false
theorem wrongB_of (x : S41) : floats_wrong.f x.f0 x.f1 x.f2 x.f3 x.f4 = some (wrongB x) := by
  have w : ∀ a b, ∃ r, floats_within.f a b = some r := fun a b => by unfold floats_within.f; split <;> exact ⟨_, rfl⟩
  have : ∃ r, floats_wrong.f x.f0 x.f1 x.f2 x.f3 x.f4 = some r := by
    obtain ⟨r1, h1⟩ := w x.f1 1000000
    obtain ⟨r2, h2⟩ := w x.f3 1000000
    obtain ⟨r3, h3⟩ := w x.f4 1000000
    obtain ⟨r4, h4⟩ := w x.f2 1000000000
    unfold floats_wrong.f
    simp only [h1, h2, h3, h4, Option.bind_some]
    repeat' split
    all_goals exact ⟨_, rfl⟩
  obtain ⟨r, h⟩ := this
  simp [wrongB, h]

def floats_Valid.f (l0 : List (S41)) (a1 : Int) : Option (Bool) := some (decide (0 ≤ a1) && decide (a1 ≤ 1000000) && decide ((l0.length : Int) ≤ 200) && !(l0.any wrongB))

set_option maxHeartbeats 1000000 in
theorem floats_Valid.calls (A0 : Option Addr) (c0 : Nat) (l0 : List (S41)) (a1 : Int) (r : Bool) (w : World) (hr0 : Kd.C k41 w A0 l0.length l0) (hc0 : l0.length ≤ c0) (h : floats_Valid.f l0 a1 = some r) :
    Calls Try.prog 12 #[.slice A0 l0.length c0, .int .i64 a1] w fun e w' => e = .returned (.bool r) ∧ Below w.heap.size w w' := by
  obtain ⟨q, hq⟩ : ∃ q, floats_within.f a1 1000000 = some q := by unfold floats_within.f; split <;> exact ⟨_, rfl⟩
  have hwi := fun W => floats_within.calls a1 1000000 q W hq
  have hcon : ∀ W, Below w.heap.size w W → Calls Try.prog 27 #[.slice A0 l0.length c0, .func (.func 28) #[] #[]] W fun e w' => e = .returned (.bool (l0.any wrongB)) ∧ Below W.heap.size W w' := fun W hW => any27 28 #[] wrongB (enters_of Try.func28 (by kernel_rfl) rfl) A0 c0 l0 W (Kd.C_below hr0 hW) hc0 (fun W' x _ => (floats_wrong.calls x.f0 x.f1 x.f2 x.f3 x.f4 (wrongB x) W' (wrongB_of x)).mono fun e w' hh => ⟨hh.1, by exact hh.2⟩)
  have hcon' := Aside0.mk hcon
  have hq' : q = (decide (0 ≤ a1) && decide (a1 ≤ 1000000)) := by
    unfold floats_within.f at hq
    split at hq <;> rename_i g <;> simp at hq <;> subst hq <;> simp [g]
  have hres : r = (q && decide ((l0.length : Int) ≤ 200) && !(l0.any wrongB)) := by
    unfold floats_Valid.f at h
    rw [hq']
    exact (Option.some.inj h).symm
  have hres' := Aside0.mk hres
  clear hres hq' hq h hcon hr0
  generalize l0.any wrongB = z at hcon' hres'
  cases q with
  | false =>
    go_enter Try.func12, Try.ntmps12
    go_wp2_with ((go_at_call 22; refine (hwi _).mono ?_; rintro e w' ⟨rfl, hb⟩))
    go_ret
    exact ⟨by rw [hres'.out]; rfl, hb.below⟩
  | true =>
    by_cases hl : (l0.length : Int) ≤ 200
    · have hl1 : decide ((l0.length : Int) ≤ 200) = true := decide_eq_true hl
      go_enter Try.func12, Try.ntmps12
      go_wp2_with (first | (go_at_call 22; refine (hwi _).mono ?_; rintro e w' ⟨rfl, hb⟩) | (go_at_call 27; refine (hcon'.out _ hb.below).mono ?_; rintro e w2 ⟨rfl, hb2⟩))
      go_ret
      exact ⟨by rw [hres'.out]; simp [hl1], below_then hb.below hb.below.size hb2⟩
    · have hl1 : decide ((l0.length : Int) ≤ 200) = false := decide_eq_false hl
      go_enter Try.func12, Try.ntmps12
      go_wp2_with ((go_at_call 22; refine (hwi _).mono ?_; rintro e w' ⟨rfl, hb⟩))
      go_ret
      exact ⟨by rw [hres'.out]; simp [hl1], hb.below⟩


end Go.Proofs.Ytffmflmpiekcfab.PAll
