/- Printed by wip/gprint.py. -/
import Derived.Test.YtacohlafmbhcdaaGreatPAlld1
import Derived.Test.YtacohlafmbhcdaaGreatPAllw3
import Derived.Test.YtacohlafmbhcdaaGreatPAllw16
namespace Go.Proofs.YtacohlafmbhcdaaGreat.PAll
open Go.RowKit Go.Proofs.YtacohlafmbhcdaaGreatW.PrintWords Go.Proofs.YtacohlafmbhcdaaGreatW.PrintLast Go.Proofs.YtacohlafmbhcdaaGreatW.PrintMore
attribute [local go_sem] max2_int min2_int max_two min_two max_three min_three max_four min_four
section
set_option maxHeartbeats 1000000 in
theorem zone_Canon.calls (A0 : Option Addr) (c0 : Nat) (l0 : List (S42)) (r1 : List S42) (r2 : Int) (w : World) (hr0 : Kd.C k42 w A0 l0.length l0) (hc0 : l0.length ≤ c0) (h : zone_Canon.f l0 = some (r1, r2)) :
  Calls Tryz.prog 9 #[.slice A0 l0.length c0] w fun e w' => ∃ v0_ : Value, e = .returned (.tuple #[v0_, .int .i64 r2]) ∧ Kd.R k42 42 w' w.heap.size (fun _ => True) v0_ r1 ∧ Below w.heap.size w w' := by
 have HX := Aside0.mk (form_any (A1 := none) (c1 := 0) (l0 := l0) (l1 := []) (f := canW l0) w enters33 (fun a b r W h => zone_Canon_1.calls a b r W h) (fun h0 _ => ⟨fun lang s => sweep_first (valid_ok h0).1 (by have := (valid_ok h0).2; omega) lang s, canF_len h0⟩) hc0 (by simp) hr0 (Kd.C_nil k42 w))
 have e := Option.some.inj h
 rw [e] at HX
 clear h e hr0
 go_enter Tryz.func9, Tryz.ntmps9
 go_wp2_with (go_at_call 32; refine HX.out.mono ?_; rintro e w' ⟨v, rfl, ho, hb⟩)
 go_ret2
 exact ⟨_, rfl, ho, hb⟩
end
section
set_option maxHeartbeats 1000000 in
theorem zone_Meet.calls (A0 : Option Addr) (c0 : Nat) (l0 : List (S42)) (A1 : Option Addr) (c1 : Nat) (l1 : List (S42)) (r1 : List S42) (r2 : Int) (w : World) (hr0 : Kd.C k42 w A0 l0.length l0) (hc0 : l0.length ≤ c0) (hr1 : Kd.C k42 w A1 l1.length l1) (hc1 : l1.length ≤ c1) (h : zone_Meet.f l0 l1 = some (r1, r2)) :
  Calls Tryz.prog 14 #[.slice A0 l0.length c0, .slice A1 l1.length c1] w fun e w' => ∃ v0_ : Value, e = .returned (.tuple #[v0_, .int .i64 r2]) ∧ Kd.R k42 42 w' w.heap.size (fun _ => True) v0_ r1 ∧ Below w.heap.size w w' := by
 have HX := Aside0.mk (form_any (l0 := l0) (l1 := l1) (wf := opB 1) (f := bothP l0 l1 1) w enters36 (fun a b r W h => zone_Meet_1.calls a b r W (by cases a <;> cases b <;> exact h)) (fun h0 h1 => ⟨fun lang s => sweep_both (valid_ok h0).1 (valid_ok h1).1 (by have := (valid_ok h0).2; omega) (by have := (valid_ok h1).2; omega) 1 lang s, bothF_len h0 h1 1⟩) hc0 hc1 hr0 hr1)
 have e := Option.some.inj h
 rw [e] at HX
 clear h e hr0 hr1
 go_enter Tryz.func14, Tryz.ntmps14
 go_wp2_with (go_at_call 32; refine HX.out.mono ?_; rintro e w' ⟨v, rfl, ho, hb⟩)
 go_ret2
 exact ⟨_, rfl, ho, hb⟩
end
section
set_option maxHeartbeats 1000000 in
theorem zone_Less.calls (A0 : Option Addr) (c0 : Nat) (l0 : List (S42)) (A1 : Option Addr) (c1 : Nat) (l1 : List (S42)) (r1 : List S42) (r2 : Int) (w : World) (hr0 : Kd.C k42 w A0 l0.length l0) (hc0 : l0.length ≤ c0) (hr1 : Kd.C k42 w A1 l1.length l1) (hc1 : l1.length ≤ c1) (h : zone_Less.f l0 l1 = some (r1, r2)) :
  Calls Tryz.prog 16 #[.slice A0 l0.length c0, .slice A1 l1.length c1] w fun e w' => ∃ v0_ : Value, e = .returned (.tuple #[v0_, .int .i64 r2]) ∧ Kd.R k42 42 w' w.heap.size (fun _ => True) v0_ r1 ∧ Below w.heap.size w w' := by
 have HX := Aside0.mk (form_any (l0 := l0) (l1 := l1) (wf := opB 2) (f := bothP l0 l1 2) w enters37 (fun a b r W h => zone_Less_1.calls a b r W (by cases a <;> cases b <;> exact h)) (fun h0 h1 => ⟨fun lang s => sweep_both (valid_ok h0).1 (valid_ok h1).1 (by have := (valid_ok h0).2; omega) (by have := (valid_ok h1).2; omega) 2 lang s, bothF_len h0 h1 2⟩) hc0 hc1 hr0 hr1)
 have e := Option.some.inj h
 rw [e] at HX
 clear h e hr0 hr1
 go_enter Tryz.func16, Tryz.ntmps16
 go_wp2_with (go_at_call 32; refine HX.out.mono ?_; rintro e w' ⟨v, rfl, ho, hb⟩)
 go_ret2
 exact ⟨_, rfl, ho, hb⟩
end
section
theorem zone_Count.calls (A0 : Option Addr) (c0 : Nat) (l0 : List (S42)) (r1 r2 : Int) (w : World) (hr0 : Kd.C k42 w A0 l0.length l0) (hc0 : l0.length ≤ c0) (h : zone_Count.f l0 = some (r1, r2)) :
  Calls Tryz.prog 20 #[.slice A0 l0.length c0] w fun e w' => e = .returned (.tuple #[.int .i64 r1, .int .i64 r2]) ∧ Below w.heap.size w w' := by
 have e : countR l0 = (r1, r2) := Option.some.inj h
 cases hv : validP l0 with
 | true =>
  obtain ⟨a1, a2⟩ := valid_ok hv
  have h1 := count_calls hc0 (fun _ _ lang s => sweep_first a1 (by omega) lang s) hr0 (canF_len hv) hv a1 (by omega)
  unfold countR at e
  rw [if_pos hv] at e
  cases e
  exact h1
 | false =>
  have h1 := count_bad hc0 hr0 hv
  unfold countR at e
  rw [if_neg (by simp [hv])] at e
  cases e
  exact h1
end
section
set_option maxHeartbeats 1000000 in
theorem zone_Union.calls (A0 : Option Addr) (c0 : Nat) (l0 : List (S42)) (A1 : Option Addr) (c1 : Nat) (l1 : List (S42)) (r1 : List S42) (r2 : Int) (w : World) (hr0 : Kd.C k42 w A0 l0.length l0) (hc0 : l0.length ≤ c0) (hr1 : Kd.C k42 w A1 l1.length l1) (hc1 : l1.length ≤ c1) (h : zone_Union.f l0 l1 = some (r1, r2)) :
  Calls Tryz.prog 12 #[.slice A0 l0.length c0, .slice A1 l1.length c1] w fun e w' => ∃ v0_ : Value, e = .returned (.tuple #[v0_, .int .i64 r2]) ∧ Kd.R k42 42 w' w.heap.size (fun _ => True) v0_ r1 ∧ Below w.heap.size w w' := by
 have HX := Aside0.mk (form_any (l0 := l0) (l1 := l1) (wf := opB 0) (f := bothP l0 l1 0) w enters35 (fun a b r W h => zone_Union_1.calls a b r W (by cases a <;> cases b <;> exact h)) (fun h0 h1 => ⟨fun lang s => sweep_both (valid_ok h0).1 (valid_ok h1).1 (by have := (valid_ok h0).2; omega) (by have := (valid_ok h1).2; omega) 0 lang s, bothF_len h0 h1 0⟩) hc0 hc1 hr0 hr1)
 have e := Option.some.inj h
 rw [e] at HX
 clear h e hr0 hr1
 go_enter Tryz.func12, Tryz.ntmps12
 go_wp2_with (go_at_call 32; refine HX.out.mono ?_; rintro e w' ⟨v, rfl, ho, hb⟩)
 go_ret2
 exact ⟨_, rfl, ho, hb⟩
end
end Go.Proofs.YtacohlafmbhcdaaGreat.PAll
