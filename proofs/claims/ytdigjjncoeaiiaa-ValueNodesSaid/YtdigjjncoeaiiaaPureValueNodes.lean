/- The plain statement of ValueNodes: the values of sums, differences, multiples, parts, lesser and greater ones are those of the values. -/
import Derived.Test.YtdigjjncoeaiiaaStmValueNodes
import Derived.Test.YtdigjjncoeaiiaaVaPlain
namespace Go.Proofs.Ytdigjjncoeaiiaa.ValueNodesPure
open Go.RowKit Go.Proofs.Ytdigjjncoeaiiaa.PAll Go.Proofs.Ytdigjjncoeaiiaa.Plain Go.Proofs.YtdigjjncoeaiiaaW.PrintWords Go.Proofs.YtdigjjncoeaiiaaW.PrintLast Go.Proofs.YtdigjjncoeaiiaaW.PrintMore Go.Proofs.YtdigjjncoeaiiaaGopen Go.Proofs.YtdigjjncoeaiiaaGlib

theorem two_law {a b : S24} {op w s x y : Int} {v : List Int} (hx : evalP a w s v = (x, 0)) (hy : evalP b w s v = (y, 0)) (hv : validE ⟨op, 0, [a, b]⟩ = true) : evalP ⟨op, 0, [a, b]⟩ w s v = pairE (chk (opP w s v op 0 [x, y])) := by
  obtain ⟨_, hc, x', ex, _, e1⟩ := evalP_ok (e := a) (w := w) (s := s) (v := v) (by rw [hx])
  obtain ⟨_, _, y', ey, _, e2⟩ := evalP_ok (e := b) (w := w) (s := s) (v := v) (by rw [hy])
  rw [hx] at e1
  rw [hy] at e2
  obtain rfl : x = x' := e1
  obtain rfl : y = y' := e2
  have hw := (valid_iff _).1 hv
  have wa : wfE 29 a := hw.1.2 a (by simp)
  have wb : wfE 29 b := hw.1.2 b (by simp)
  rw [evalP_eq, if_pos ⟨hv, hc⟩, evF_two 29, ← evF_succ 29 a wa, ← evF_succ 29 b wb, ex, ey]
  rfl
theorem one_law {a : S24} {op n w s x : Int} {v : List Int} (hx : evalP a w s v = (x, 0)) (hv : validE ⟨op, n, [a]⟩ = true) : evalP ⟨op, n, [a]⟩ w s v = pairE (chk (opP w s v op n [x])) := by
  obtain ⟨_, hc, x', ex, _, e1⟩ := evalP_ok (e := a) (w := w) (s := s) (v := v) (by rw [hx])
  rw [hx] at e1
  obtain rfl : x = x' := e1
  have hw := (valid_iff _).1 hv
  have wa : wfE 29 a := hw.1.2 a (by simp)
  rw [evalP_eq, if_pos ⟨hv, hc⟩, evF_one 29, ← evF_succ 29 a wa, ex]
  rfl
theorem j2_ev {w s x y t o i want p q a0 a1 b0 b1 v0 v1 v2 v3 v4 v5 v6 v7 : Int} {ks ls r : List S24} (h : validE ⟨p, q, r⟩ = true → evalP ⟨p, q, r⟩ w s [v0, v1, v2, v3, v4, v5, v6, v7] = pairE (chk want))
    (hn : Ev (fun k => formelaw14_ValueNodes.l0 k w s true x y t o (wrap64 (i + 1)) a0 a1 ks b0 b1 ls v0 v1 v2 v3 v4 v5 v6 v7) true) :
    Ev (fun k => formelaw14_ValueNodes.j2 k w s true x y t o i want a0 a1 ks b0 b1 ls v0 v1 v2 v3 v4 v5 v6 v7 p q r) true := by
  refine Ev.step (f := fun k => (formeref14_Valid.f k p q r).bind fun u => if u = true then ((value_Eval.f p q r w s v0 v1 v2 v3 v4 v5 v6 v7).bind fun c => ((formelaw14_coord.f want).bind fun d => if d = true then (if c.2 = 0 then (if c.1 = want then ((formelaw14_coord.f want).bind fun d => if d = true then formelaw14_ValueNodes.l0 k w s true x y t o (wrap64 (i + 1)) a0 a1 ks b0 b1 ls v0 v1 v2 v3 v4 v5 v6 v7 else (if c.2 = 3 then (if c.1 = 0 then formelaw14_ValueNodes.l0 k w s true x y t o (wrap64 (i + 1)) a0 a1 ks b0 b1 ls v0 v1 v2 v3 v4 v5 v6 v7 else some false) else some false)) else some false) else some false) else ((formelaw14_coord.f want).bind fun d => if d = true then formelaw14_ValueNodes.l0 k w s true x y t o (wrap64 (i + 1)) a0 a1 ks b0 b1 ls v0 v1 v2 v3 v4 v5 v6 v7 else (if c.2 = 3 then (if c.1 = 0 then formelaw14_ValueNodes.l0 k w s true x y t o (wrap64 (i + 1)) a0 a1 ks b0 b1 ls v0 v1 v2 v3 v4 v5 v6 v7 else some false) else some false)))) else formelaw14_ValueNodes.l0 k w s true x y t o (wrap64 (i + 1)) a0 a1 ks b0 b1 ls v0 v1 v2 v3 v4 v5 v6 v7) (fun k => by simp only [formelaw14_ValueNodes.j2]) ?_
  refine Ev.bind (rvalid_ev ⟨p, q, r⟩) ?_
  cases hv : validE ⟨p, q, r⟩ with
  | false => simpa using hn
  | true =>
    simp only [value_Eval.f, h hv, pairE_chk, lawcoord_of, Option.bind_some, if_true]
    cases hc : coordB want with
    | true => simpa using hn
    | false => simpa using hn
theorem proved : ValueNodesStm.Pure := by
  intro a b w s v times over _ _ _ _ _ h5 h6
  obtain ⟨a0, a1, ks⟩ := a
  obtain ⟨b0, b1, ls⟩ := b
  obtain ⟨v0, v1, v2, v3, v4, v5, v6, v7⟩ := v
  obtain ⟨b3, b4⟩ := wf64 h6
  have e1 := modP (a := over) (m := 1000) (by omega) (by omega) b3 b4
  have q0 := Int.emod_nonneg over (show (1000 : Int) ≠ 0 by omega)
  have q1 := Int.emod_lt_of_pos over (show (0 : Int) < 1000 by omega)
  have e2 : wrap64 (1 + over % 1000) = 1 + over % 1000 := wrap64_id (by omega) (by omega)
  have o0 : 1 ≤ 1 + over % 1000 := by omega
  have o1 : 1 + over % 1000 ≤ 1000 := by omega
  have t0 : -1000 ≤ Int.tmod times 1001 ∧ Int.tmod times 1001 ≤ 1000 := by
    have b0 := Int.emod_nonneg times (show (1001 : Int) ≠ 0 by omega)
    have b1 := Int.emod_lt_of_pos times (show (0 : Int) < 1001 by omega)
    rw [Int.tmod_eq_emod]
    split <;> omega
  obtain ⟨x, ex, hx⟩ : ∃ x ex, evalP ⟨a0, a1, ks⟩ w s [v0, v1, v2, v3, v4, v5, v6, v7] = (x, ex) := ⟨_, _, rfl⟩
  obtain ⟨y, ey, hy⟩ : ∃ y ey, evalP ⟨b0, b1, ls⟩ w s [v0, v1, v2, v3, v4, v5, v6, v7] = (y, ey) := ⟨_, _, rfl⟩
  simp only [formelaw14_ValueNodes.f, formelaw14_head.f, value_Eval.f, Option.bind_some, hx, hy]
  by_cases h0 : ex = 0
  · subst h0
    by_cases h1 : ey = 0
    · subst h1
      simp only [if_true]
      refine Ev.rounds (g := fun k => formelaw14_ValueNodes.j0 k w s times over true x y (0 != 0) a0 a1 ks b0 b1 ls v0 v1 v2 v3 v4 v5 v6 v7) ?_
      refine Ev.step (f := fun k => formelaw14_ValueNodes.l0 k w s true x y (Int.tmod times 1001) (1 + over % 1000) 0 a0 a1 ks b0 b1 ls v0 v1 v2 v3 v4 v5 v6 v7) (fun k => by simp [formelaw14_ValueNodes.j0, e1, e2]) ?_
      generalize 1 + over % 1000 = o at *
      generalize Int.tmod times 1001 = t at *
      obtain ⟨_, _, x', _, cx, e3⟩ := evalP_ok (e := ⟨a0, a1, ks⟩) (w := w) (s := s) (v := [v0, v1, v2, v3, v4, v5, v6, v7]) (by rw [hx])
      obtain ⟨_, _, y', _, cy, e4⟩ := evalP_ok (e := ⟨b0, b1, ls⟩) (w := w) (s := s) (v := [v0, v1, v2, v3, v4, v5, v6, v7]) (by rw [hy])
      rw [hx] at e3
      rw [hy] at e4
      obtain rfl : x = x' := e3
      obtain rfl : y = y' := e4
      have bx := coordB_of cx
      have by_ := coordB_of cy
      have m1 : wrap64 (x + y) = x + y := wrap64_id (by omega) (by omega)
      have m2 : wrap64 (x - y) = x - y := wrap64_id (by omega) (by omega)
      have m3 : wrap64 (t * x) = t * x := by
        have := mul_bound (a := t) (b := x) (m := 1000) (n := 1000000000) t0.1 t0.2 bx.1 bx.2
        exact wrap64_id (by omega) (by omega)
      have m4 : wrap64 (Int.tdiv (wrap64 (x - (Int.tmod (wrap64 ((Int.tmod x o) + o)) o))) o) = x / o := by
        rw [modP (by omega) (by omega) (by omega) (by omega)]
        have r0 := Int.emod_nonneg x (show o ≠ 0 by omega)
        have r1 := Int.emod_lt_of_pos x (show 0 < o by omega)
        have r2 := Int.mul_ediv_add_emod x o
        have r3 := div_bound (a := x) (n := o) (m := 1000000000) o0 bx.1 bx.2 (by omega)
        rw [wrap64_id (x := x - x % o) (by omega) (by omega), show x - x % o = o * (x / o) by omega, Int.mul_tdiv_cancel_left _ (by omega)]
        exact wrap64_id (by omega) (by omega)
      have w1 : wrap64 (0 + 1) = 1 := wrap64_id (by omega) (by omega)
      have w2 : wrap64 (1 + 1) = 2 := wrap64_id (by omega) (by omega)
      have w3 : wrap64 (2 + 1) = 3 := wrap64_id (by omega) (by omega)
      have w4 : wrap64 (3 + 1) = 4 := wrap64_id (by omega) (by omega)
      have w5 : wrap64 (4 + 1) = 5 := wrap64_id (by omega) (by omega)
      have w6 : wrap64 (5 + 1) = 6 := wrap64_id (by omega) (by omega)
      have s6 : Ev (fun k => formelaw14_ValueNodes.l0 k w s true x y t o (wrap64 (5 + 1)) a0 a1 ks b0 b1 ls v0 v1 v2 v3 v4 v5 v6 v7) true := by
        rw [w6]
        exact Ev.zero (fun k => by simp [formelaw14_ValueNodes.l0])
      have s5 : Ev (fun k => formelaw14_ValueNodes.l0 k w s true x y t o (wrap64 (4 + 1)) a0 a1 ks b0 b1 ls v0 v1 v2 v3 v4 v5 v6 v7) true := by
        rw [w5]
        refine Ev.step (fun k => ?_) (j2_ev (p := 8) (q := o) (r := [⟨a0, a1, ks⟩]) (want := x / o) (fun hv => one_law hx hv) s6)
        simp only [formelaw14_ValueNodes.l0, formelaw14_two.f, formelaw14_one.f, Option.bind_some]
        rw [if_pos (by omega), if_neg (by omega), if_neg (by omega), if_neg (by omega), if_neg (by omega), if_pos (show True from trivial), if_neg (by omega), m4]
      have s4 : Ev (fun k => formelaw14_ValueNodes.l0 k w s true x y t o (wrap64 (3 + 1)) a0 a1 ks b0 b1 ls v0 v1 v2 v3 v4 v5 v6 v7) true := by
        rw [w4]
        refine Ev.step (fun k => ?_) (j2_ev (p := 7) (q := t) (r := [⟨a0, a1, ks⟩]) (want := t * x) (fun hv => one_law hx hv) s5)
        simp only [formelaw14_ValueNodes.l0, formelaw14_two.f, formelaw14_one.f, Option.bind_some]
        rw [if_pos (by omega), if_neg (by omega), if_neg (by omega), if_neg (by omega), if_pos (show True from trivial), m3]
      have s3 : Ev (fun k => formelaw14_ValueNodes.l0 k w s true x y t o (wrap64 (2 + 1)) a0 a1 ks b0 b1 ls v0 v1 v2 v3 v4 v5 v6 v7) true := by
        rw [w3]
        refine Ev.step (fun k => ?_) (j2_ev (p := 10) (q := 0) (r := [⟨a0, a1, ks⟩, ⟨b0, b1, ls⟩]) (want := mx x y) (fun hv => two_law hx hy hv) s4)
        simp only [formelaw14_ValueNodes.l0, formelaw14_two.f, formelaw14_one.f, Option.bind_some]
        rw [if_pos (by omega), if_neg (by omega), if_neg (by omega), if_pos (show True from trivial)]
      have s2 : Ev (fun k => formelaw14_ValueNodes.l0 k w s true x y t o (wrap64 (1 + 1)) a0 a1 ks b0 b1 ls v0 v1 v2 v3 v4 v5 v6 v7) true := by
        rw [w2]
        refine Ev.step (fun k => ?_) (j2_ev (p := 9) (q := 0) (r := [⟨a0, a1, ks⟩, ⟨b0, b1, ls⟩]) (want := mn x y) (fun hv => two_law hx hy hv) s3)
        simp only [formelaw14_ValueNodes.l0, formelaw14_two.f, formelaw14_one.f, Option.bind_some]
        rw [if_pos (by omega), if_neg (by omega), if_pos (show True from trivial)]
      have s1 : Ev (fun k => formelaw14_ValueNodes.l0 k w s true x y t o (wrap64 (0 + 1)) a0 a1 ks b0 b1 ls v0 v1 v2 v3 v4 v5 v6 v7) true := by
        rw [w1]
        refine Ev.step (fun k => ?_) (j2_ev (p := 6) (q := 0) (r := [⟨a0, a1, ks⟩, ⟨b0, b1, ls⟩]) (want := x - y) (fun hv => two_law hx hy hv) s2)
        simp only [formelaw14_ValueNodes.l0, formelaw14_two.f, formelaw14_one.f, Option.bind_some]
        rw [if_pos (by omega), if_pos (show True from trivial), m2]
      refine Ev.step (fun k => ?_) (j2_ev (i := 0) (p := 5) (q := 0) (r := [⟨a0, a1, ks⟩, ⟨b0, b1, ls⟩]) (want := x + y) (fun hv => two_law hx hy hv) s1)
      simp only [formelaw14_ValueNodes.l0, formelaw14_two.f, formelaw14_one.f, Option.bind_some]
      rw [if_pos (by omega), if_neg (by omega), if_neg (by omega), if_neg (by omega), if_neg (by omega), if_neg (by omega), m1]
    · refine ⟨1, ?_⟩
      simp [formelaw14_ValueNodes.j0, h1]
  · refine ⟨1, ?_⟩
    simp [formelaw14_ValueNodes.j0, h0]

end Go.Proofs.Ytdigjjncoeaiiaa.ValueNodesPure
