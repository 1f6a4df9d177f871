/- Printed by a program of this session (wip/gprint.py) over the translation. Not trusted: Lean checks it. -/
import Derived.Test.YtffmflmpiekcfabPAllx0
import Derived.Test.YtffmflmpiekcfabPAllx6
import Derived.Shelf.Abstract
import Derived.WalkKit
import Derived.Deep.RegionWith
import Derived.Deep.RegionLaw
import Derived.Below
namespace Go.Proofs.Ytffmflmpiekcfab.PAll
open Go.RowKit Go.Proofs.YtffmflmpiekcfabW.PrintWords Go.Proofs.YtffmflmpiekcfabW.PrintLast Go.Proofs.YtffmflmpiekcfabW.PrintMore
attribute [local go_sem] max2_int min2_int max_two min_two max_three min_three max_four min_four   -- for this text's walks alone
set_option linter.unusedVariables false
set_option linter.unusedSimpArgs false

-- GIVEN d_tail
open Go.Shelf
theorem lit_reads {w : World} {base g : Nat} {ok : Nat → Prop} {x : S41} (h : w.heap[g]? = some (.cells #[.int .i64 x.f0, .int .i64 x.f1, .int .i64 x.f2, .int .i64 x.f3, .int .i64 x.f4] 41 (0, 0))) : ReadsRow (k41.M w base ok) k41.sz w (some ⟨g, 0, none⟩) 1 [x] := by
  refine ⟨rfl, by omega, fun _ => ⟨_, rfl, fun j p hj => ?_⟩⟩
  rcases j with _ | j
  · simp at hj; subst hj
    refine ⟨_, by rfl, k41_mkM _ _ _ x, fun i u hi => ?_⟩
    rw [Nat.zero_mul, Nat.zero_add, add_plain, blk_cell h i]
    simpa using hi
  · simp at hj
/-- Nothing but the plain end. -/
def onlyThen (K : Act → World → Prop) : Exit → Act → World → Prop
  | .normal, a, w => K a w
  | _, _, _ => False
def reg20 : Code := (Code.region 20 #[{ dst := some 103, op := Op.load 22 (Operand.tmp 6), type := 22, pos := "floats.go:112", after := #[], guard := none }, { dst := some 104, op := Op.call { callee := Callee.value (Operand.func 31), args := #[Operand.tmp 103], argTypes := #[22] }, type := 22, pos := "floats.go:112", after := #[{ on := 0, ground := Ground.data }], guard := none }, { dst := some 105, op := Op.load 41 (Operand.tmp 16), type := 41, pos := "floats.go:112", after := #[], guard := none }, { dst := some 106, op := Op.buildSlice 22 1 #[(0, Operand.tmp 105)], type := 22, pos := "floats.go:112", after := #[{ on := 2, ground := Ground.data }], guard := none }, { dst := some 107, op := Op.call { callee := Callee.builtin Builtin.append, args := #[Operand.tmp 104, Operand.tmp 106], argTypes := #[22, 22] }, type := 22, pos := "floats.go:112", after := #[{ on := 1, ground := Ground.data }, { on := 3, ground := Ground.data }, { on := 1, ground := Ground.chain }], guard := none }, { dst := some 12, op := Op.assign (Operand.tmp 107), type := 22, pos := "floats.go:112", after := #[{ on := 4, ground := Ground.data }, { on := 4, ground := Ground.chain }, { on := 0, ground := Ground.phase }, { on := 1, ground := Ground.phase }, { on := 2, ground := Ground.phase }, { on := 3, ground := Ground.phase }, { on := 4, ground := Ground.phase }], guard := none }, { dst := some 13, op := Op.assign (Operand.const (Value.int IntKind.i64 0)), type := 26, pos := "floats.go:112", after := #[{ on := 5, ground := Ground.chain }, { on := 0, ground := Ground.phase }, { on := 1, ground := Ground.phase }, { on := 2, ground := Ground.phase }, { on := 3, ground := Ground.phase }, { on := 4, ground := Ground.phase }, { on := 5, ground := Ground.phase }], guard := none }] true)
set_option maxHeartbeats 4000000 in
set_option maxRecDepth 100000 in
theorem tail20 (t0 t1 t2 t3 t4 t5 t7 t8 t9 t10 t11 t12 t13 t14 t15 t17 t18 t19 t20 t21 t22 t23 t24 t25 t26 t27 t28 t29 t30 t31 t32 t33 t34 t35 t36 t37 t38 t39 t40 t41 t42 t43 t44 t45 t46 t47 t48 t49 t50 t51 t52 t53 t54 t55 t56 t57 t58 t59 t60 t61 t62 t63 t64 t65 t66 t67 t68 t69 t70 t71 t72 t73 t74 t75 t76 t77 t78 t79 t80 t81 t82 t83 t84 t85 t86 t87 t88 t89 t90 t91 t92 t93 t94 t95 t96 t97 t98 t99 t100 t101 t102 t103 t104 t105 t106 t107 : Value) (ds : List Deferred) (B6 NB : Nat) (A0 : Option Addr) (c0 : Nat) (l0 : List S41) (nx : S41) (w W : World) (K : Act → World → Prop)
    (hl : l0.length < 3518437208882) (h6 : W.heap[B6]? = some (.cells #[.slice A0 l0.length c0] 22 (0, 0))) (hn : W.heap[NB]? = some (.cells #[.int .i64 nx.f0, .int .i64 nx.f1, .int .i64 nx.f2, .int .i64 nx.f3, .int .i64 nx.f4] 41 (0, 0))) (hr : Kd.C k41 W A0 l0.length l0) (hc : l0.length ≤ c0)
    (hB : Below w.heap.size w W)
    (hQ : ∀ v w1 u103 u104 u105 u106, Kd.R k41 41 w1 W.heap.size (fun _ => True) v (l0 ++ [nx]) → Below W.heap.size W w1 → K { tmps := #[t0, t1, t2, t3, t4, t5, .pointer (some ⟨B6, 0, none⟩), t7, t8, t9, t10, t11, v, .int .i64 0, t14, t15, .pointer (some ⟨NB, 0, none⟩), t17, t18, t19, t20, t21, t22, t23, t24, t25, t26, t27, t28, t29, t30, t31, t32, t33, t34, t35, t36, t37, t38, t39, t40, t41, t42, t43, t44, t45, t46, t47, t48, t49, t50, t51, t52, t53, t54, t55, t56, t57, t58, t59, t60, t61, t62, t63, t64, t65, t66, t67, t68, t69, t70, t71, t72, t73, t74, t75, t76, t77, t78, t79, t80, t81, t82, t83, t84, t85, t86, t87, t88, t89, t90, t91, t92, t93, t94, t95, t96, t97, t98, t99, t100, t101, t102, u103, u104, u105, u106, v], defers := ds } w1) :
    reg20.wp Try.prog (onlyThen K) { tmps := #[t0, t1, t2, t3, t4, t5, .pointer (some ⟨B6, 0, none⟩), t7, t8, t9, t10, t11, t12, t13, t14, t15, .pointer (some ⟨NB, 0, none⟩), t17, t18, t19, t20, t21, t22, t23, t24, t25, t26, t27, t28, t29, t30, t31, t32, t33, t34, t35, t36, t37, t38, t39, t40, t41, t42, t43, t44, t45, t46, t47, t48, t49, t50, t51, t52, t53, t54, t55, t56, t57, t58, t59, t60, t61, t62, t63, t64, t65, t66, t67, t68, t69, t70, t71, t72, t73, t74, t75, t76, t77, t78, t79, t80, t81, t82, t83, t84, t85, t86, t87, t88, t89, t90, t91, t92, t93, t94, t95, t96, t97, t98, t99, t100, t101, t102, t103, t104, t105, t106, t107], defers := ds } W := by
  have c6 : ∀ w', Below W.heap.size W w' → w'.cell? ⟨B6, 0, none⟩ = some (.slice A0 l0.length c0) := fun w' hb => blk_cell (blk_below h6 hb) 0
  have hcl : ∀ w', Below W.heap.size W w' → Calls Try.prog 31 #[.slice A0 l0.length c0] w' fun e w2 => ∃ v0_ : Value, e = .returned v0_ ∧ Kd.R k41 41 w2 w'.heap.size (fun _ => True) v0_ l0 ∧ Below w'.heap.size w' w2 := fun w' hb => api_Float_31.calls A0 c0 l0 l0 w' (Kd.C_below hr hb) hc (by unfold api_Float_31.f; rw [if_pos (by omega)])
  have f6 : W.cell? ⟨B6, 0, none⟩ = some (.slice A0 l0.length c0) := blk_cell h6 0
  have f6' : ∀ o, (W.alloc o).cell? ⟨B6, 0, none⟩ = some (.slice A0 l0.length c0) := fun o => blk_cell (blk_alloc h6 o) 0
  have n0 : W.cell? ⟨NB, 0, none⟩ = some (.int .i64 nx.f0) := blk_cell hn 0
  have n1 : W.cell? ⟨NB, 1, none⟩ = some (.int .i64 nx.f1) := blk_cell hn 1
  have n2 : W.cell? ⟨NB, 2, none⟩ = some (.int .i64 nx.f2) := blk_cell hn 2
  have n3 : W.cell? ⟨NB, 3, none⟩ = some (.int .i64 nx.f3) := blk_cell hn 3
  have n4 : W.cell? ⟨NB, 4, none⟩ = some (.int .i64 nx.f4) := blk_cell hn 4
  have nb : ∀ w2, Below W.heap.size W w2 → w2.cell? ⟨NB, 0, none⟩ = some (.int .i64 nx.f0) ∧ w2.cell? ⟨NB, 1, none⟩ = some (.int .i64 nx.f1) ∧ w2.cell? ⟨NB, 2, none⟩ = some (.int .i64 nx.f2) ∧ w2.cell? ⟨NB, 3, none⟩ = some (.int .i64 nx.f3) ∧ w2.cell? ⟨NB, 4, none⟩ = some (.int .i64 nx.f4) := fun w2 hb => ⟨blk_cell (blk_below hn hb) 0, blk_cell (blk_below hn hb) 1, blk_cell (blk_below hn hb) 2, blk_cell (blk_below hn hb) 3, blk_cell (blk_below hn hb) 4⟩
  have nb' := Aside0.mk nb
  have hcl' := Aside0.mk hcl
  have hQ' := Aside0.mk hQ
  clear c6 nb hcl hQ
  unfold reg20
  go_region_law (first | (go_simp; go_at_call 31; refine (hcl'.out _ ?_).mono ?_; exact (by repeat (first | exact Below.refl _ _ | apply below_alloc | apply pw_below_drewN | apply below_drew | apply below_drew1)); rintro e w2 ⟨v0, rfl, hR, hb⟩; (have hbw : Below W.heap.size W w2 := by first | exact hb | exact below_then (by repeat (first | exact Below.refl _ _ | apply below_alloc | apply pw_below_drewN | apply below_drew | apply below_drew1)) (by simp) hb); obtain ⟨q0, q1, q2, q3, q4⟩ := nb'.out w2 hbw; simp only []) | (refine Kd.R_append_rows_step k41 (w0 := W) W.heap.size (by rfl) (.tmp 104) (.tmp 106) 22 41 (.agg #[(.int .i64 0), (.int .i64 0), (.int .i64 0), (.int .i64 0), (.int .i64 0)]) 40 rfl Try.underlying22 info41 rfl (by decide) (by omega) v0 l0 [nx] _ _ _ (fun _ => True) (fun _ => False) rfl rfl ?_ ?_ (fun _ _ h => h) (fun _ h => h.elim) (fun _ _ => trivial) ?_ ?_ ?_ ?_; (exact Kd.R_lower (by first | exact hR | exact Kd.R_alloc hR _) (by simp)); (first | exact lit_reads (blk_new _ _) | exact lit_reads (blk_below (blk_drew (blk_new _ _)) hb)); (first | exact hbw | exact below_alloc hbw _); (first | exact hbw.size | exact (below_alloc hbw _).size); (first | omega | (simp; omega)); intro v1 w1 HO1 HB1 _ _))
  all_goals (exact hQ'.out _ _ _ _ _ _ HO1 HB1)


end Go.Proofs.Ytffmflmpiekcfab.PAll
