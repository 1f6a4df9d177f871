/- Printed by a program of this session (wip/gprint.py) over the translation, cut to what is named (wip/dcut.py). Not trusted: Lean checks it. -/
import Derived.Test.YtdigjjncoeaiiaaPAlld0
import Derived.Test.YtdigjjncoeaiiaaPAllw8
namespace Go.Proofs.Ytdigjjncoeaiiaa.PAll
open Go.RowKit Go.Proofs.YtdigjjncoeaiiaaW.PrintWords Go.Proofs.YtdigjjncoeaiiaaW.PrintLast Go.Proofs.YtdigjjncoeaiiaaW.PrintMore
attribute [local go_sem] max2_int min2_int max_two min_two max_three min_three max_four min_four -- for this text's walks alone
set_option linter.unusedVariables false
set_option linter.unusedSimpArgs false
set_option maxHeartbeats 4000000 in
set_option maxRecDepth 100000 in
theorem eval_calls (width scale x0 x1 x2 x3 x4 x5 x6 x7 : Int) (hw : 0 ≤ width ∧ width ≤ 1000000) (hs : 50 ≤ scale ∧ scale ≤ 300) (b : Nat) (n : Nat) (e : S24) (A : Option Addr) (c : Nat) (w : World) (hwf : wfE n e) (hr : Kd.C k24 w A e.f2.length e.f2) (hc : e.f2.length ≤ c) (ho : OpsAt b w) :
    Calls Try.prog 29 #[aboutV width scale x0 x1 x2 x3 x4 x5 x6 x7, .agg #[.int .i64 e.f0, .int .i64 e.f1, .slice A e.f2.length c], .map (some b)] w fun r w' =>
      r = .returned (.tuple #[.int .i64 (pairE (evF width scale [x0, x1, x2, x3, x4, x5, x6, x7] n e)).1, .int .i64 (pairE (evF width scale [x0, x1, x2, x3, x4, x5, x6, x7] n e)).2]) ∧ Below w.heap.size w w' := by
  have CA := Aside0.mk (fun W h1 h2 => value_calls width scale x0 x1 x2 x3 x4 x5 x6 x7 hw hs b n e A c W hwf h1 hc h2)
  have HR := Aside0.mk hr
  have HO := Aside0.mk ho
  clear hr ho hwf hw hs
  unfold aboutV at *
  have BX := Aside0.mk (below_alloc (below_alloc (below_alloc (below_alloc (Below.refl w.heap.size w) (.cells #[.int .i64 width, .int .i64 scale, .int .i64 x0, .int .i64 x1, .int .i64 x2, .int .i64 x3, .int .i64 x4, .int .i64 x5, .int .i64 x6, .int .i64 x7] 59)) (.cells #[.int .i64 e.f0, .int .i64 e.f1, .slice A e.f2.length c] 24)) (.cells #[.int .i64 0] 3)) (.cells #[.int .i64 0] 29))
  have N3 := Aside0.mk (blk_alloc (blk_new ((w.alloc (.cells #[.int .i64 width, .int .i64 scale, .int .i64 x0, .int .i64 x1, .int .i64 x2, .int .i64 x3, .int .i64 x4, .int .i64 x5, .int .i64 x6, .int .i64 x7] 59)).alloc (.cells #[.int .i64 e.f0, .int .i64 e.f1, .slice A e.f2.length c] 24)) (.cells #[.int .i64 0] 3)) (.cells #[.int .i64 0] 29))
  have N4 := Aside0.mk (blk_new (((w.alloc (.cells #[.int .i64 width, .int .i64 scale, .int .i64 x0, .int .i64 x1, .int .i64 x2, .int .i64 x3, .int .i64 x4, .int .i64 x5, .int .i64 x6, .int .i64 x7] 59)).alloc (.cells #[.int .i64 e.f0, .int .i64 e.f1, .slice A e.f2.length c] 24)).alloc (.cells #[.int .i64 0] 3)) (.cells #[.int .i64 0] 29))
  simp only [World.size_alloc] at N3 N4
  cases hz : evF width scale [x0, x1, x2, x3, x4, x5, x6, x7] n e with
  | none =>
    rw [hz] at CA
    clear hz
    go_enter_defers Try.func29, Try.ntmps29
    go_wp2_with fail
    with_reducible refine (CA.out _ ?b1 ?b2).mono ?_
    case b1 => exact Kd.C_below HR.out BX.out
    case b2 => exact opsAt_below HO.out BX.out
    rintro r w5 ⟨rfl, hb⟩
    have M3 := Aside0.mk (blk_below N3.out hb)
    have M4 := Aside0.mk (blk_below N4.out hb)
    have BY := Aside0.mk (below_step BX.out hb)
    clear hb
    simp only [endV]
    refine leaves_cons (f := 46) (args := #[.pointer (some ⟨w.heap.size + 1 + 1, 0, none⟩), .pointer (some ⟨w.heap.size + 1 + 1 + 1, 0, none⟩)]) (by simp) (by simp [go_sem]) ?_
    refine (caught_panicking _ _ 0 0 [] w5 w M3.out M4.out BY.out (by omega) (by omega)).mono ?_
    rintro e5 u' w6 ⟨rfl, rfl, k3, k4, hb6⟩
    have c3 := cell_of_one k3
    have c4 := cell_of_one k4
    simp [Leaves, settle, results, Try.results29, go_sem, c3, c4]
    exact ⟨⟨rfl, rfl⟩, hb6⟩
  | some x =>
    rw [hz] at CA
    clear hz
    go_enter_defers Try.func29, Try.ntmps29
    go_wp2_with fail
    with_reducible refine (CA.out _ ?b1 ?b2).mono ?_
    case b1 => exact Kd.C_below HR.out BX.out
    case b2 => exact opsAt_below HO.out BX.out
    rintro r w5 ⟨rfl, hb⟩
    have M3 := Aside0.mk (blk_below N3.out hb)
    have M4 := Aside0.mk (blk_below N4.out hb)
    have BY := Aside0.mk (below_step BX.out hb)
    clear hb
    simp only [endV]
    have c3 := cell_of_one M3.out
    have z3 := free_of_one M3.out
    have c4 := cell_of_one M4.out
    have z4 := free_of_one M4.out
    go_wp2_with (first
      | ((with_reducible refine gate_store (t := 3) (p := 6) (v := .tmp 11) rfl ?_); refine store_event ?hg (t := 3) (p := 6) (v := .tmp 11) ?ho ?hN (w1 := w5.setCell ⟨w.heap.size + 1 + 1, 0, none⟩ (.int .i64 x)) ?hr ?_; (case hg => rfl); (case ho => rfl); (case hN => rfl); (case hr => first | (go_simp; done) | (go_simp; rfl)); intro w6 hw6; have P3 := Aside0.mk (set_one hw6 M3.out); have P4 := Aside0.mk (grown_blk (grown_set hw6) M4.out (by omega)); have BZ := Aside0.mk (below_grown BY.out (by omega) (grown_set hw6)); clear hw6 c3 z3 c4 z4; have c4 := cell_of_one P4.out; have z4 := free_of_one P4.out)
      | ((with_reducible refine gate_store (t := 29) (p := 7) (v := .const (.int .i64 0)) rfl ?_); refine store_event ?hg (t := 29) (p := 7) (v := .const (.int .i64 0)) ?ho ?hN (w1 := w6.setCell ⟨w.heap.size + 1 + 1 + 1, 0, none⟩ (.int .i64 0)) ?hr ?_; (case hg => rfl); (case ho => rfl); (case hN => rfl); (case hr => first | (go_simp; done) | (go_simp; rfl)); intro w7 hw7; have Q4 := Aside0.mk (set_one hw7 P4.out); have Q3 := Aside0.mk (grown_blk (grown_set hw7) P3.out (by omega)); have BW := Aside0.mk (below_grown BZ.out (by omega) (grown_set hw7)); clear hw7 c4 z4))
    refine leaves_cons (f := 46) (args := #[.pointer (some ⟨w.heap.size + 1 + 1, 0, none⟩), .pointer (some ⟨w.heap.size + 1 + 1 + 1, 0, none⟩)]) (by simp) (by simp [go_sem]) ?_
    refine (caught_idle _ _ _).mono ?_
    rintro e5 u' w8 ⟨rfl, rfl, hb8⟩
    have c3 := cell_of_one (blk_below Q3.out hb8)
    have c4 := cell_of_one (blk_below Q4.out hb8)
    have BV := Aside0.mk (below_step BW.out hb8)
    simp [Leaves, settle, results, Try.results29, go_sem, c3, c4]
    exact ⟨⟨rfl, rfl⟩, BV.out⟩
end Go.Proofs.Ytdigjjncoeaiiaa.PAll
