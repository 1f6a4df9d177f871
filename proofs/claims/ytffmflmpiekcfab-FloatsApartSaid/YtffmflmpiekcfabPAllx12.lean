/- Printed by a program of this session (wip/gprint.py) over the translation. Not trusted: Lean checks it. -/
import Derived.Test.YtffmflmpiekcfabPAllx0
import Derived.Test.YtffmflmpiekcfabPAllx3
import Derived.Test.YtffmflmpiekcfabPAllx4
import Derived.Test.YtffmflmpiekcfabPAllx5
import Derived.Test.YtffmflmpiekcfabPAllx8
import Derived.Test.YtffmflmpiekcfabPAllx9
import Derived.Test.YtffmflmpiekcfabPAllx10
import Derived.Test.YtffmflmpiekcfabPAllx11
import Derived.RangeFuncNested
import Derived.Shelf.Abstract
import Derived.WalkKit
import Derived.OwnWalkIn
import Derived.TacticsInMore
import Derived.LoopNIn
import Derived.LoopIn
import Derived.Below
namespace Go.Proofs.Ytffmflmpiekcfab.PAll
open Go.RowKit Go.Proofs.YtffmflmpiekcfabW.PrintWords Go.Proofs.YtffmflmpiekcfabW.PrintLast Go.Proofs.YtffmflmpiekcfabW.PrintMore
attribute [local go_sem] max2_int min2_int max_two min_two max_three min_three max_four min_four   -- for this text's walks alone
set_option linter.unusedVariables false
set_option linter.unusedSimpArgs false

-- GIVEN floats_Place
/-! ### floats_Place: function 16 -/
open Go.Shelf
attribute [local go_sem] Oper.semAt_some
theorem within_q (a b : Int) : floats_within.f a b = some (decide (0 ≤ a) && decide (a ≤ b)) := by
  unfold floats_within.f
  split <;> simp [*]

/-- Five variables' boxes, behind whatever leaves them alone. -/
theorem box5 {w w1 : World} {o0 o1 o2 o3 o4 : Value} {t0 t1 t2 t3 t4 : TypeId} (hb : Below (((((w.alloc (.cells #[o0] t0)).alloc (.cells #[o1] t1)).alloc (.cells #[o2] t2)).alloc (.cells #[o3] t3)).alloc (.cells #[o4] t4)).heap.size (((((w.alloc (.cells #[o0] t0)).alloc (.cells #[o1] t1)).alloc (.cells #[o2] t2)).alloc (.cells #[o3] t3)).alloc (.cells #[o4] t4)) w1) :
    w1.cell? ⟨w.heap.size, 0, none⟩ = some o0 ∧ w1.cell? ⟨w.heap.size + 1, 0, none⟩ = some o1 ∧ w1.cell? ⟨w.heap.size + 1 + 1, 0, none⟩ = some o2 ∧ w1.cell? ⟨w.heap.size + 1 + 1 + 1, 0, none⟩ = some o3 ∧ w1.cell? ⟨w.heap.size + 1 + 1 + 1 + 1, 0, none⟩ = some o4 ∧ Below w.heap.size w w1 := by
  have b0 : Below w.heap.size w (((((w.alloc (.cells #[o0] t0)).alloc (.cells #[o1] t1)).alloc (.cells #[o2] t2)).alloc (.cells #[o3] t3)).alloc (.cells #[o4] t4)) := below_alloc (below_alloc (below_alloc (below_alloc (below_alloc (Below.refl _ _) _) _) _) _) _
  refine ⟨(hb.cell (p := ⟨w.heap.size, 0, none⟩) (by simp <;> omega)).trans (by go_simp), (hb.cell (p := ⟨w.heap.size + 1, 0, none⟩) (by simp <;> omega)).trans (by go_simp), (hb.cell (p := ⟨w.heap.size + 1 + 1, 0, none⟩) (by simp <;> omega)).trans (by go_simp),
    (hb.cell (p := ⟨w.heap.size + 1 + 1 + 1, 0, none⟩) (by simp)).trans (by go_simp), (hb.cell (p := ⟨w.heap.size + 1 + 1 + 1 + 1, 0, none⟩) (by simp)).trans (by go_simp), below_then b0 b0.size hb⟩

/-- The five boxes, as blocks. -/
structure Env5 (B : Nat) (v0 : Value) (a1 a2 a4 a5 : Int) (W : World) : Prop where
  l : W.heap[B]? = some (.cells #[v0] 22 (0, 0))
  wd : W.heap[B + 1]? = some (.cells #[.int .i64 a1] 3 (0, 0))
  sd : W.heap[B + 1 + 1]? = some (.cells #[.int .i64 a2] 3 (0, 0))
  ww : W.heap[B + 1 + 1 + 1]? = some (.cells #[.int .i64 a4] 3 (0, 0))
  hh : W.heap[B + 1 + 1 + 1 + 1]? = some (.cells #[.int .i64 a5] 3 (0, 0))
theorem Env5.grown {B : Nat} {v0 : Value} {a1 a2 a4 a5 : Int} {W W' : World} {row : Option Nat} (h : Env5 B v0 a1 a2 a4 a5 W) (hg : W.grownBy W' row) (hr : ∀ r, row = some r → B + 5 ≤ r) : Env5 B v0 a1 a2 a4 a5 W' :=
  ⟨blk_grown h.l hg (fun e => by have := hr _ e.symm; omega), blk_grown h.wd hg (fun e => by have := hr _ e.symm; omega), blk_grown h.sd hg (fun e => by have := hr _ e.symm; omega), blk_grown h.ww hg (fun e => by have := hr _ e.symm; omega), blk_grown h.hh hg (fun e => by have := hr _ e.symm; omega)⟩
theorem Env5.below {B : Nat} {v0 : Value} {a1 a2 a4 a5 : Int} {W W' : World} (h : Env5 B v0 a1 a2 a4 a5 W) (hb : Below W.heap.size W W') : Env5 B v0 a1 a2 a4 a5 W' := h.grown (grown_of_below hb none) (fun r e => by cases e)
theorem Env5.made (w : World) (v0 : Value) (a1 a2 a4 a5 : Int) : Env5 w.heap.size v0 a1 a2 a4 a5 (((((w.alloc (.cells #[v0] 22)).alloc (.cells #[.int .i64 a1] 3)).alloc (.cells #[.int .i64 a2] 3)).alloc (.cells #[.int .i64 a4] 3)).alloc (.cells #[.int .i64 a5] 3)) := by
  refine ⟨blk_alloc (blk_alloc (blk_alloc (blk_alloc (blk_new _ _) _) _) _) _, blk_alloc (blk_alloc (blk_alloc ?_ _) _) _, blk_alloc (blk_alloc ?_ _) _, blk_alloc ?_ _, ?_⟩
  · have := blk_new (w.alloc (.cells #[v0] 22)) (.cells #[.int .i64 a1] 3); simpa using this
  · have := blk_new ((w.alloc (.cells #[v0] 22)).alloc (.cells #[.int .i64 a1] 3)) (.cells #[.int .i64 a2] 3); simpa using this
  · have := blk_new (((w.alloc (.cells #[v0] 22)).alloc (.cells #[.int .i64 a1] 3)).alloc (.cells #[.int .i64 a2] 3)) (.cells #[.int .i64 a4] 3); simpa using this
  · have := blk_new ((((w.alloc (.cells #[v0] 22)).alloc (.cells #[.int .i64 a1] 3)).alloc (.cells #[.int .i64 a2] 3)).alloc (.cells #[.int .i64 a4] 3)) (.cells #[.int .i64 a5] 3); simpa using this

set_option maxHeartbeats 4000000 in
set_option maxRecDepth 100000 in
/-- What is wrong is refused. -/
theorem place_bad (A0 : Option Addr) (c0 : Nat) (l0 : List S41) (a1 a2 a3 a4 a5 : Int) (vb qy qw qh : Bool) (w : World) (hr0 : Kd.C k41 w A0 l0.length l0) (hc0 : l0.length ≤ c0) (hv : floats_Valid.f l0 a1 = some vb)
    (hy : floats_within.f a3 1000000000 = some qy) (hw : floats_within.f a4 1000000 = some qw) (hh : floats_within.f a5 1000000 = some qh) (hbad : (!vb || ((a2 != 1) && (a2 != 2)) || !qy || !qw || !qh) = true) :
    Calls Try.prog 16 #[.slice A0 l0.length c0, .int .i64 a1, .int .i64 a2, .int .i64 a3, .int .i64 a4, .int .i64 a5] w fun e w' => e = .returned (.tuple #[.slice none 0 0, .int .i64 1]) ∧ Below w.heap.size w w' := by
  have hV := fun (W : World) (hW : Below w.heap.size w W) => floats_Valid.calls A0 c0 l0 a1 vb W (Kd.C_below hr0 hW) hc0 hv
  have hV' := Aside0.mk hV
  have hY := fun W => floats_within.calls a3 1000000000 qy W hy
  have hW := fun W => floats_within.calls a4 1000000 qw W hw
  have hH := fun W => floats_within.calls a5 1000000 qh W hh
  have hbad' := Aside0.mk hbad
  clear hr0 hv hy hw hh hV hbad
  go_enter Try.func16, Try.ntmps16
  go_wp2_with fail
  refine (hV'.out _ (below_alloc (below_alloc (below_alloc (below_alloc (below_alloc (Below.refl _ _) _) _) _) _) _)).mono ?_
  rintro e w1 ⟨rfl, hb⟩
  obtain ⟨x6, x7, x8, x10, x11, hb1⟩ := box5 hb
  have hb1' := Aside0.mk hb1
  clear hb hb1
  cases vb with
  | false =>
    go_wp2_with fail
    go_ret2
    exact ⟨rfl, hb1'.out⟩
  | true =>
    by_cases s1 : a2 = 1
    · subst s1
      cases qy <;> cases qw <;> cases qh <;> first
        | exact absurd hbad'.out (by decide)
        | (go_wp2_with (first | (go_at_call 22; first | ((with_reducible refine (hY _).mono ?_); rintro e w2 ⟨rfl, ⟨nd, rfl⟩⟩) | ((with_reducible refine (hW _).mono ?_); rintro e w2 ⟨rfl, ⟨nd2, rfl⟩⟩) | ((with_reducible refine (hH _).mono ?_); rintro e w2 ⟨rfl, ⟨nd3, rfl⟩⟩)))
           go_ret2
           exact ⟨rfl, by first | exact pw_below_drewN hb1'.out _ | exact hb1'.out⟩)
    · by_cases s2 : a2 = 2
      · subst s2
        cases qy <;> cases qw <;> cases qh <;> first
        | exact absurd hbad'.out (by decide)
        | (go_wp2_with (first | (go_at_call 22; first | ((with_reducible refine (hY _).mono ?_); rintro e w2 ⟨rfl, ⟨nd, rfl⟩⟩) | ((with_reducible refine (hW _).mono ?_); rintro e w2 ⟨rfl, ⟨nd2, rfl⟩⟩) | ((with_reducible refine (hH _).mono ?_); rintro e w2 ⟨rfl, ⟨nd3, rfl⟩⟩)))
           go_ret2
           exact ⟨rfl, by first | exact pw_below_drewN hb1'.out _ | exact hb1'.out⟩)
      · go_wp2_with fail
        go_ret2
        exact ⟨rfl, hb1'.out⟩

theorem heights30 (A : Option Addr) (n c : Nat) (y : Int) (w : World) : Calls Try.prog 30 #[.slice A n c, .int .i64 y] w fun e w' => e = .returned (.func (.func 34) #[] #[.pointer (some ⟨w.heap.size + 1, 0, none⟩), .pointer (some ⟨w.heap.size, 0, none⟩)]) ∧ w' = (w.alloc (.cells #[.slice A n c] 22)).alloc (.cells #[.int .i64 y] 3) := by
  go_enter Try.func30, Try.ntmps30
  go_wp2
  go_ret
  exact ⟨rfl, rfl⟩

/-- Where a float is placed at a height. -/
def nextAt (l : List S41) (width side w h at_ : Int) : S41 := ⟨side, if side = 2 then mx 0 (wrap64 ((roomP l width at_ h).2.1 - w)) else (roomP l width at_ h).1, at_, w, h⟩
def cells41 (x : S41) : Array Value := #[.int .i64 x.f0, .int .i64 x.f1, .int .i64 x.f2, .int .i64 x.f3, .int .i64 x.f4]
/-- Between two rounds. -/
structure PI (w : World) (NB : Nat) (v0 : Value) (l : List S41) (a1 a2 a4 a5 : Int) (pre : List Int) (W : World) : Prop where
  env : Env5 w.heap.size v0 a1 a2 a4 a5 W
  nx : W.heap[NB]? = some (.cells (cells41 ⟨a2, 0, 0, a4, a5⟩) 41 (0, 0))
  below : Below w.heap.size w W
  no : ∀ y ∈ pre, fitsP l a1 a4 a5 y = false
/-- Where a round has left. -/
structure PX (w : World) (NB : Nat) (v0 : Value) (l : List S41) (a1 a2 a4 a5 : Int) (c : Code) (pre : List Int) (W : World) : Prop where
  env : Env5 w.heap.size v0 a1 a2 a4 a5 W
  below : Below w.heap.size w W
  how : c = .exit 2
  at_ : ∃ p x, pre = p ++ [x] ∧ (∀ y ∈ p, fitsP l a1 a4 a5 y = false) ∧ fitsP l a1 a4 a5 x = true ∧ W.heap[NB]? = some (.cells (cells41 (nextAt l a1 a2 a4 a5 x)) 41 (0, 0))
theorem PI.own {w : World} {NB B : Nat} {v0 : Value} {l : List S41} {a1 a2 a4 a5 : Int} (h1 : w.heap.size + 5 ≤ NB) (h2 : NB < B) : OwnFrom B (PI w NB v0 l a1 a2 a4 a5) := fun s W W' row h hg hr =>
  ⟨h.env.grown hg (fun r e => by have := (hr r e).1; omega), blk_grown h.nx hg (fun e => by have := (hr _ e.symm).1; omega), h.below.grown hg h.below.size (fun k e => by have := (hr k e).1; omega), h.no⟩
theorem PX.own {w : World} {NB B : Nat} {v0 : Value} {l : List S41} {a1 a2 a4 a5 : Int} (h1 : w.heap.size + 5 ≤ NB) (h2 : NB < B) (c : Code) : OwnFrom B (PX w NB v0 l a1 a2 a4 a5 c) := fun s W W' row h hg hr => by
  obtain ⟨p, x, e1, e2, e3, e4⟩ := h.at_
  exact ⟨h.env.grown hg (fun r e => by have := (hr r e).1; omega), h.below.grown hg h.below.size (fun k e => by have := (hr k e).1; omega), h.how, p, x, e1, e2, e3, blk_grown e4 hg (fun e => by have := (hr _ e.symm).1; omega)⟩
theorem keepsCells_grown {B NB : Nat} {W W' : World} (hg : W.grownBy W' (some NB)) (h : NB < B) : KeepsCells B W W' := fun k hk c t f hc => (hg.block k (blk_lt hc) (fun e => by injection e with e; omega)).trans hc
theorem R_putObj {W w1 : World} {D : Nat} {v : Value} {xs : List S41} (o : Obj) (hR : Kd.R k41 41 w1 W.heap.size (fun _ => True) v xs) (hD : D < W.heap.size) : Kd.R k41 41 (w1.putObj D o) W.heap.size (fun _ => True) v xs :=
  Kd.R_mono (Kd.R_step (Kd.R_bound hR) (fun k hk _ => World.putObj_heap_other (fun e => by have := hk.2.1; omega))) (fun _ _ => trivial)
theorem grownBy_set (W : World) (k j : Nat) (v : Value) : W.grownBy (W.setCell ⟨k, j, none⟩ v) (some k) :=
  ⟨rfl, rfl, rfl, (KeepsWalks.setCell W _ v).size, fun i _ hi => Below.heap_setCell _ _ _ i (fun e => hi (by rw [e]))⟩
/-- A round that goes on. -/
theorem round_on {w W w' : World} {NB B : Nat} {v0 : Value} {l : List S41} {a1 a2 a4 a5 x : Int} {pre : List Int} (o : Obj) (h1 : w.heap.size + 5 ≤ NB) (h2 : NB < B) (hI : PI w NB v0 l a1 a2 a4 a5 pre W) (hb : Below W.heap.size W w') (hx : fitsP l a1 a4 a5 x = false) :
    KeepsFrom B W (w'.alloc o) ∧ KeepsCells B W (w'.alloc o) ∧ PI w NB v0 l a1 a2 a4 a5 (pre ++ [x]) (w'.alloc o) := by
  have hb2 : Below W.heap.size W (w'.alloc o) := below_alloc hb o
  have hg : W.grownBy (w'.alloc o) (some NB) := grown_of_below hb2 _
  refine ⟨KeepsFrom.of_grownBy hg (fun j e => by cases e; exact h2), keepsCells_grown hg h2, hI.env.below hb2, blk_below hI.nx hb2, below_then hI.below hI.below.size hb2, fun y hy => ?_⟩
  rcases List.mem_append.1 hy with hy | hy
  · exact hI.no y hy
  · rw [List.mem_singleton.1 hy]; exact hx
/-- A round that places the float. -/
theorem round_out {w W w' W2 : World} {NB B : Nat} {v0 : Value} {l : List S41} {a1 a2 a4 a5 x : Int} {pre : List Int} (h1 : w.heap.size + 5 ≤ NB) (h2 : NB < B) (hI : PI w NB v0 l a1 a2 a4 a5 pre W) (hb : Below W.heap.size W w') (hg2 : w'.grownBy W2 (some NB)) (hx : fitsP l a1 a4 a5 x = true)
    (hc : W2.heap[NB]? = some (.cells (cells41 (nextAt l a1 a2 a4 a5 x)) 41 (0, 0))) : KeepsFrom B W W2 ∧ PX w NB v0 l a1 a2 a4 a5 (.exit 2) (pre ++ [x]) W2 := by
  have hg : W.grownBy W2 (some NB) := World.grownBy.trans (grown_of_below hb _) hg2
  exact ⟨KeepsFrom.of_grownBy hg (fun j e => by cases e; exact h2), hI.env.grown hg (fun r e => by cases e; exact h1), hI.below.grown hg hI.below.size (fun k e => by cases e; omega), rfl, pre, x, rfl, hI.no, hx, hc⟩
theorem room_fits (l : List S41) (width w h at_ : Int) : fitsP l width w h at_ = !((roomP l width at_ h).2.2 && decide (w > wrap64 ((roomP l width at_ h).2.1 - (roomP l width at_ h).1))) := rfl
theorem next_none {l : List S41} {a1 a2 a3 a4 a5 : Int} (h : ∀ y ∈ heightsP l (topY l a3), fitsP l a1 a4 a5 y = false) : nextP l a1 a2 a3 a4 a5 = ⟨a2, 0, 0, a4, a5⟩ := by
  unfold nextP
  rw [List.find?_eq_none.2 (fun y hy => by simp [h y hy])]
theorem next_some {l : List S41} {a1 a2 a3 a4 a5 : Int} {p : List Int} {x : Int} (hp : p ++ [x] <+: heightsP l (topY l a3)) (h : ∀ y ∈ p, fitsP l a1 a4 a5 y = false) (hx : fitsP l a1 a4 a5 x = true) : nextP l a1 a2 a3 a4 a5 = nextAt l a1 a2 a4 a5 x := by
  obtain ⟨r, hr⟩ := hp
  unfold nextP
  have : (heightsP l (topY l a3)).find? (fitsP l a1 a4 a5) = some x := by
    rw [← hr, List.find?_append, List.find?_append, List.find?_eq_none.2 (fun y hy => by simp [h y hy])]
    simp [hx]
  rw [this]
  rfl

set_option maxHeartbeats 4000000 in
set_option maxRecDepth 100000 in
/-- What is well-formed is placed. -/
theorem place_main (A0 : Option Addr) (c0 : Nat) (l0 : List S41) (a1 a2 a3 a4 a5 : Int) (b1 b2 b3 : Bool) (w : World) (hr0 : Kd.C k41 w A0 l0.length l0) (hc0 : l0.length ≤ c0) (hv : floats_Valid.f l0 a1 = some true)
    (hy : floats_within.f a3 1000000000 = some true) (hw : floats_within.f a4 1000000 = some true) (hh : floats_within.f a5 1000000 = some true) (hlen : l0.length < 200)
    (e1 : (a2 != 1) = b1) (e2 : (a2 != 2) = b2) (e3 : (a2 == 2) = b3) (hb : b1 = false ∧ b2 = true ∧ b3 = false ∨ b1 = true ∧ b2 = false ∧ b3 = true) (r1 : List S41) (r2 : Int)
    (hres : (if (nextP l0 a1 a2 a3 a4 a5).f2 > 1000000000 then (([], 3) : List S41 × Int) else (l0 ++ [nextP l0 a1 a2 a3 a4 a5], 0)) = (r1, r2)) :
    Calls Try.prog 16 #[.slice A0 l0.length c0, .int .i64 a1, .int .i64 a2, .int .i64 a3, .int .i64 a4, .int .i64 a5] w fun e w' => ∃ v0_ : Value, e = .returned (.tuple #[v0_, .int .i64 r2]) ∧ Kd.R k41 41 w' w.heap.size (fun _ => True) v0_ r1 ∧ Below w.heap.size w w' := by
  have hu41 := Try.underlying41
  have hV := fun (W : World) (hW : Below w.heap.size w W) => floats_Valid.calls A0 c0 l0 a1 true W (Kd.C_below hr0 hW) hc0 hv
  have hV' := Aside0.mk hV
  have hY := fun W => floats_within.calls a3 1000000000 true W hy
  have hW := fun W => floats_within.calls a4 1000000 true W hw
  have hH := fun W => floats_within.calls a5 1000000 true W hh
  have hres' := Aside0.mk hres
  have HR := Aside0.mk hr0
  have hl0 : ((l0.length : Int) == 200) = false := by simp; omega
  clear hr0 hv hy hw hh hV hres
  rcases hb with ⟨rfl, rfl, rfl⟩ | ⟨rfl, rfl, rfl⟩
  all_goals
    refine callsIn_wide.1 (callsIn_of_wp_marks (n := 5) Try.func16 rfl trivial ?_ rfl)
    simp only [Try.ntmps16, List.size_toArray, List.length_cons, List.length_nil, Nat.reduceAdd, Nat.reduceSub, Array.replicate_succ, Array.replicate_zero, List.push_toArray, List.append_toArray, List.nil_append, List.cons_append]
    refine wpIn_wide.2 ?_
    go_wp2_with fail
    refine (hV'.out _ (below_alloc (below_alloc (below_alloc (below_alloc (below_alloc (Below.refl _ _) _) _) _) _) _)).mono ?_
    rintro e w1 ⟨rfl, hb⟩
    have E1 := Aside0.mk ((Env5.made w _ _ _ _ _).below hb)
    obtain ⟨x6, x7, x8, x10, x11, hb1⟩ := box5 hb
    have hb1' := Aside0.mk hb1
    clear hb hb1
    go_wp2_with (first | (go_at_call 22; first | ((with_reducible refine (hY _).mono ?_); rintro e w2 ⟨rfl, ⟨nd, rfl⟩⟩) | ((with_reducible refine (hW _).mono ?_); rintro e w2 ⟨rfl, ⟨nd2, rfl⟩⟩) | ((with_reducible refine (hH _).mono ?_); rintro e w2 ⟨rfl, ⟨nd3, rfl⟩⟩)))
    obtain ⟨W2, hW2⟩ : ∃ W2, w1.drewN (nd + nd2 + nd3) = W2 := ⟨_, rfl⟩
    rw [hW2]
    have B2 := Aside0.mk (show Below w.heap.size w W2 by rw [← hW2]; exact pw_below_drewN hb1'.out _)
    have E2 := Aside0.mk (show Env5 w.heap.size (.slice A0 l0.length c0) a1 a2 a4 a5 W2 by rw [← hW2]; exact ⟨E1.out.l, E1.out.wd, E1.out.sd, E1.out.ww, E1.out.hh⟩)
    clear E1 x6 x7 x8 x10 x11 hb1' hW2 hY hW hH hV'
    clear nd nd2 nd3 w1
    go_loopw [3, 52] (fun v3 v52 wr => ∃ i : Nat, i ≤ l0.length ∧ v52 = .int .i64 i ∧ v3 = .int .i64 (topY (l0.take i) a3) ∧ Aside0 (Below W2.heap.size W2 wr)) (fun _ v52 _ => l0.length - (intOf v52).toNat)
    case atStart => exact ⟨0, by omega, rfl, rfl, ⟨Below.refl _ _⟩⟩
    case round =>
      obtain ⟨i, hi, rfl, rfl, HB⟩ := hrel
      by_cases hlt : i < l0.length
      · obtain ⟨ad, ea, c0, c1, c2, c3, c4⟩ := at_T41 HR.out i (by omega) (by omega)
        cases ea
        rw [Int.toNat_natCast] at c0 c1 c2 c3 c4
        have hbw := below_then B2.out B2.out.size HB.out
        replace c0 := (hbw.cell (World.block_lt_of_cell? w _ c0)).trans c0
        replace c1 := (hbw.cell (World.block_lt_of_cell? w _ c1)).trans c1
        replace c2 := (hbw.cell (World.block_lt_of_cell? w _ c2)).trans c2
        replace c3 := (hbw.cell (World.block_lt_of_cell? w _ c3)).trans c3
        replace c4 := (hbw.cell (World.block_lt_of_cell? w _ c4)).trans c4
        rw [rd_nat hlt] at c0 c1 c2 c3 c4
        have hx : topY (l0.take (i + 1)) a3 = mx (topY (l0.take i) a3) l0[i].f2 := foldl_take_succ _ _ _ _ hlt
        generalize l0[i] = x at c0 c1 c2 c3 c4 hx
        generalize topY (l0.take i) a3 = y0 at hx
        have hx' := Aside0.mk hx
        clear hx hbw
        go_wp2_with fail
        exact ⟨⟨i + 1, by omega, by go_num, by rw [hx'.out]; rfl, ⟨below_alloc HB.out _⟩⟩, by simp [intOf]; omega⟩
      · have hfin : topY (l0.take i) a3 = topY l0 a3 := by rw [List.take_of_length_le (by omega)]
        rw [hfin]
        clear hfin
        have B3 := Aside0.mk (below_then B2.out B2.out.size HB.out)
        have E3 := Aside0.mk (E2.out.below HB.out)
        have z6 := (blk_cell E3.out.l 0).trans rfl
        have z8 := (blk_cell E3.out.sd 0).trans rfl
        have z10 := (blk_cell E3.out.ww 0).trans rfl
        have z11 := (blk_cell E3.out.hh 0).trans rfl
        have hfar : ∀ o, (wr.alloc o).cell? ⟨w.heap.size, 0, none⟩ = some (.slice A0 l0.length c0) := fun o => (blk_cell (blk_alloc E3.out.l o) 0).trans rfl
        clear E2 B2
        go_wp2_with (go_at_call 30; refine (heights30 _ _ _ _ _).mono ?_; rintro e w' ⟨rfl, rfl⟩)
        refine (wpIn_wide (n := 5)).1 ?_
        have Bn := Aside0.mk (blk_alloc (blk_alloc (blk_new wr (.cells #[.int .i64 a2, .int .i64 0, .int .i64 0, .int .i64 a4, .int .i64 a5] 41)) (.cells #[.slice A0 l0.length c0] 22)) (.cells #[.int .i64 (topY l0 a3)] 3))
        have E4 := Aside0.mk (E3.out.below (below_alloc (below_alloc (below_alloc (Below.refl _ _) (.cells #[.int .i64 a2, .int .i64 0, .int .i64 0, .int .i64 a4, .int .i64 a5] 41)) (.cells #[.slice A0 l0.length c0] 22)) (.cells #[.int .i64 (topY l0 a3)] 3)))
        have B4 := Aside0.mk (below_alloc (below_alloc (below_alloc B3.out (.cells #[.int .i64 a2, .int .i64 0, .int .i64 0, .int .i64 a4, .int .i64 a5] 41)) (.cells #[.slice A0 l0.length c0] 22)) (.cells #[.int .i64 (topY l0 a3)] 3))
        have NB5 : w.heap.size + 5 ≤ wr.heap.size := blk_lt E3.out.hh
        have hs4 : ((((wr.alloc (.cells #[.int .i64 a2, .int .i64 0, .int .i64 0, .int .i64 a4, .int .i64 a5] 41)).alloc (.cells #[.slice A0 l0.length c0] 22)).alloc (.cells #[.int .i64 (topY l0 a3)] 3))).heap.size = wr.heap.size + 1 + 1 + 1 := by simp
        have hcl := Aside0.mk (blk_cell (blk_alloc (blk_new (wr.alloc (.cells #[.int .i64 a2, .int .i64 0, .int .i64 0, .int .i64 a4, .int .i64 a5] 41)) (.cells #[.slice A0 l0.length c0] 22)) (.cells #[.int .i64 (topY l0 a3)] 3)) 0)
        have hcf := Aside0.mk (blk_cell (blk_new ((wr.alloc (.cells #[.int .i64 a2, .int .i64 0, .int .i64 0, .int .i64 a4, .int .i64 a5] 41)).alloc (.cells #[.slice A0 l0.length c0] 22)) (.cells #[.int .i64 (topY l0 a3)] 3)) 0)
        simp only [World.size_alloc] at hcl hcf
        generalize hWX : (((wr.alloc (.cells #[.int .i64 a2, .int .i64 0, .int .i64 0, .int .i64 a4, .int .i64 a5] 41)).alloc (.cells #[.slice A0 l0.length c0] 22)).alloc (.cells #[.int .i64 (topY l0 a3)] 3)) = WX at Bn E4 B4 hs4 hcl hcf ⊢
        have HS4 := Aside0.mk hs4
        clear hs4
        clear hWX z6 z8 z10 z11 hfar E3 B3 HB
        have hRX := Aside0.mk (Kd.C_below HR.out B4.out)
        apply wpIn_rangeFunc_ownG (F := Fence.wide) (n := 5) (α := Int) rfl (by omega) (gf := 34) (lb := #[.pointer (some ⟨wr.heap.size + 1 + 1, 0, none⟩), .pointer (some ⟨wr.heap.size + 1, 0, none⟩)]) rfl trivial (enters_of Try.func34 (by kernel_rfl) rfl) (encs := fun x : Int => #[Value.int .i64 x]) (Kp := KeepsCells WX.heap.size)
          (S := fun ys => ys = heightsP l0 (topY l0 a3)) (Sp := fun pre => pre <+: heightsP l0 (topY l0 a3)) (N := (heightsP l0 (topY l0 a3)).length) (w0 := WX) (hb0 := Below.refl _ _)
          (I := PI w wr.heap.size (.slice A0 l0.length c0) l0 a1 a2 a4 a5) (Ix := PX w wr.heap.size (.slice A0 l0.length c0) l0 a1 a2 a4 a5)
        case hseq =>
          intro l J Jx W hWW hJ hJx hY h0
          refine callsIn_wide.2 (heights1_calls 4 l (wr.heap.size + 1 + 1) (wr.heap.size + 1) WX.heap.size A0 c0 l0 (topY l0 a3) J Jx W hWW.size (fun pre W1 W2 h hg => hJ pre W1 W2 none h hg (fun r e => by cases e)) hY ?_ ?_ (Kd.C_below hRX.out hWW) (by have := HS4.out; omega) h0)
          · exact (hWW.cell (p := ⟨wr.heap.size + 1 + 1, 0, none⟩) (by have := HS4.out; simp; omega)).trans hcf.out
          · exact (hWW.cell (p := ⟨wr.heap.size + 1, 0, none⟩) (by have := HS4.out; simp; omega)).trans hcl.out
        case hKt => exact fun h k => h.trans k
        case hKb => exact fun W l o o' _ ho hc _ => keepsCells_put W l o o' ho hc
        case hps => exact fun _ => rfl
        case hI => exact PI.own NB5 (by have := HS4.out; omega)
        case hIx => exact fun c => PX.own NB5 (by have := HS4.out; omega) c
        case h0 => exact ⟨E4.out, Bn.out, B4.out, fun y hy => by cases hy⟩
        case hassign =>
          intro l x W K hK
          gi_wp2
          exact hK
        case hbody =>
          intro l pre x W hI hpre
          have hrm := fun W' (hW' : Below w.heap.size w W') (k : Nat) r1 r2 r3 h => floats_room.calls k A0 c0 l0 a1 x a5 r1 r2 r3 W' (Kd.C_below HR.out hW') hc0 h
          have HI := Aside0.mk hI
          have y6 : W.cell? ⟨w.heap.size, 0, none⟩ = some (.slice A0 l0.length c0) := blk_cell hI.env.l 0
          have y7 : W.cell? ⟨w.heap.size + 1, 0, none⟩ = some (.int .i64 a1) := blk_cell hI.env.wd 0
          have y11 : W.cell? ⟨w.heap.size + 1 + 1 + 1 + 1, 0, none⟩ = some (.int .i64 a5) := blk_cell hI.env.hh 0
          clear hI
          gi_wp2_with fail
          obtain ⟨kr, hkr⟩ := room_some (l := l0) (by omega) a1 x a5
          have hfx := room_fits l0 a1 a4 a5 x
          have hnx : nextAt l0 a1 a2 a4 a5 x = ⟨a2, if a2 = 2 then mx 0 (wrap64 ((roomP l0 a1 x a5).2.1 - a4)) else (roomP l0 a1 x a5).1, x, a4, a5⟩ := rfl
          rcases hrp : roomP l0 a1 x a5 with ⟨rl, rh, rs⟩
          rw [hrp] at hkr hfx hnx
          obtain ⟨jm, hjm⟩ : ∃ j : Int, mx 0 (wrap64 (rh - a4)) = j := ⟨_, rfl⟩
          have hjm_ : (if 0 < wrap64 (rh - a4) then wrap64 (rh - a4) else 0) = jm := hjm
          simp only [] at hkr hfx hnx
          rw [hjm] at hnx
          clear hjm
          refine ⟨trivial, (CallsIn.inRound l (callsIn_wide.2 (hrm W HI.out.below kr rl rh rs hkr))).mono ?_⟩
          rintro e w' ⟨rfl, hb⟩
          have g1 := grown_of_below hb (some wr.heap.size)
          have hnxt : w'.heap[wr.heap.size]? = some (.cells (cells41 ⟨a2, 0, 0, a4, a5⟩) 41 (0, 0)) := blk_below HI.out.nx hb
          have E5 := Aside0.mk (HI.out.env.below hb)
          have B5 := Aside0.mk (below_then HI.out.below HI.out.below.size hb)
          have hNX := Aside0.mk hnxt
          have hG1 := Aside0.mk g1
          have hFX := Aside0.mk hfx
          have hNA := Aside0.mk hnx
          have hlw := Aside0.mk (blk_lt hnxt)
          have q1 : ∀ o, (w'.alloc o).frozen? ⟨wr.heap.size, 1, none⟩ = false := fun o => blk_frozen (blk_alloc hNX.out o) 1
          have q2 : ∀ o, (w'.alloc o).frozen? ⟨wr.heap.size, 2, none⟩ = false := fun o => blk_frozen (blk_alloc hNX.out o) 2
          have q1c : ∀ o, (w'.alloc o).cell? ⟨wr.heap.size, 1, none⟩ = some (.int .i64 0) := fun o => blk_cell (blk_alloc hNX.out o) 1
          have q2c : ∀ o, (w'.alloc o).cell? ⟨wr.heap.size, 2, none⟩ = some (.int .i64 0) := fun o => blk_cell (blk_alloc hNX.out o) 2
          have v8 : ∀ o, (w'.alloc o).cell? ⟨w.heap.size + 1 + 1, 0, none⟩ = some (.int .i64 a2) := fun o => blk_cell (blk_alloc E5.out.sd o) 0
          have v10 : ∀ o, (w'.alloc o).cell? ⟨w.heap.size + 1 + 1 + 1, 0, none⟩ = some (.int .i64 a4) := fun o => blk_cell (blk_alloc E5.out.ww o) 0
          have n8 : ¬ (w.heap.size + 1 + 1 = wr.heap.size) := by omega
          have n8' : ¬ (wr.heap.size = w.heap.size + 1 + 1) := by omega
          have n10 : ¬ (w.heap.size + 1 + 1 + 1 = wr.heap.size) := by omega
          have n10' : ¬ (wr.heap.size = w.heap.size + 1 + 1 + 1) := by omega
          have nr : ¬ (w'.heap.size = wr.heap.size) := by have := hlw.out; omega
          have nr' : ¬ (wr.heap.size = w'.heap.size) := by have := hlw.out; omega
          have hB := Aside0.mk hb
          clear hb g1 hrm hfx hnx hrp hkr hnxt y6 y7 y11
          cases rs with
          | false =>
            gi_wp2_with fail
            first
              | (have := round_out (x := x) NB5 (show wr.heap.size < WX.heap.size by have := HS4.out; omega) HI.out hB.out (World.grownBy.trans (World.grownBy_alloc w' (.cells #[.int .i64 rl, .int .i64 rh] 25) _) (World.grownBy.trans (grownBy_set _ wr.heap.size 1 (.int .i64 rl)) (grownBy_set _ wr.heap.size 2 (.int .i64 x)))) (by rw [hFX.out]; rfl) (by
                  rw [hNA.out, if_neg (by simpa using e3)]
                  exact blk_put (blk_put (blk_alloc hNX.out _) 1 _ rfl) 2 _ rfl)
                 exact ⟨this.1, this.2⟩)
              | (have := round_out (x := x) NB5 (show wr.heap.size < WX.heap.size by have := HS4.out; omega) HI.out hB.out (World.grownBy.trans (World.grownBy_alloc w' (.cells #[.int .i64 rl, .int .i64 rh] 25) _) (World.grownBy.trans (grownBy_set _ wr.heap.size 1 (.int .i64 rl)) (World.grownBy.trans (grownBy_set _ wr.heap.size 2 (.int .i64 x)) (grownBy_set _ wr.heap.size 1 (.int .i64 jm))))) (by rw [hFX.out]; rfl) (by
                  rw [hNA.out, if_pos (by simpa using e3)]
                  exact blk_put (blk_put (blk_put (blk_alloc hNX.out _) 1 _ rfl) 2 _ rfl) 1 _ rfl)
                 exact ⟨this.1, this.2⟩)
          | true =>
            by_cases hgt : a4 > wrap64 (rh - rl)
            · gi_wp2_with fail
              have := round_on (x := x) (.cells #[.int .i64 rl, .int .i64 rh] 25) NB5 (show wr.heap.size < WX.heap.size by have := HS4.out; omega) HI.out hB.out (by rw [hFX.out]; simp; exact hgt)
              exact ⟨this.1, this.2⟩
            · gi_wp2_with fail
              first
                | (have := round_out (x := x) NB5 (show wr.heap.size < WX.heap.size by have := HS4.out; omega) HI.out hB.out (World.grownBy.trans (World.grownBy_alloc w' (.cells #[.int .i64 rl, .int .i64 rh] 25) _) (World.grownBy.trans (grownBy_set _ wr.heap.size 1 (.int .i64 rl)) (grownBy_set _ wr.heap.size 2 (.int .i64 x)))) (by rw [hFX.out]; simp; omega) (by
                    rw [hNA.out, if_neg (by simpa using e3)]
                    exact blk_put (blk_put (blk_alloc hNX.out _) 1 _ rfl) 2 _ rfl)
                   exact ⟨this.1, this.2⟩)
                | (have := round_out (x := x) NB5 (show wr.heap.size < WX.heap.size by have := HS4.out; omega) HI.out hB.out (World.grownBy.trans (World.grownBy_alloc w' (.cells #[.int .i64 rl, .int .i64 rh] 25) _) (World.grownBy.trans (grownBy_set _ wr.heap.size 1 (.int .i64 rl)) (World.grownBy.trans (grownBy_set _ wr.heap.size 2 (.int .i64 x)) (grownBy_set _ wr.heap.size 1 (.int .i64 jm))))) (by rw [hFX.out]; simp; omega) (by
                    rw [hNA.out, if_pos (by simpa using e3)]
                    exact blk_put (blk_put (blk_put (blk_alloc hNX.out _) 1 _ rfl) 2 _ rfl) 1 _ rfl)
                   exact ⟨this.1, this.2⟩)
        case hdone =>
          intro D xs W hD hxs hI hK
          subst hxs
          have hnp : nextP l0 a1 a2 a3 a4 a5 = ⟨a2, 0, 0, a4, a5⟩ := next_none hI.no
          have hW0 : W.heap[wr.heap.size]? = some (.cells (cells41 (nextP l0 a1 a2 a3 a4 a5)) 41 (0, 0)) := by rw [hnp]; exact hI.nx
          have E6 := Aside0.mk hI.env
          have B6 := Aside0.mk hI.below
          have HN := Aside0.mk hW0
          have HK := Aside0.mk hK
          clear hI hnp hW0 hK
          generalize nextP l0 a1 a2 a3 a4 a5 = nx at hres' HN
          have y2 : W.cell? ⟨wr.heap.size, 2, none⟩ = some (.int .i64 nx.f2) := blk_cell HN.out 2
          have hE : ∀ r1' r2', (if nx.f2 > 1000000000 then (([], 3) : List S41 × Int) else (l0 ++ [nx], 0)) = (r1', r2') → (nx.f2 > 1000000000 ∧ r1' = [] ∧ r2' = 3) ∨ (¬ nx.f2 > 1000000000 ∧ r1' = l0 ++ [nx] ∧ r2' = 0) := fun r1' r2' h => by
            by_cases hb : nx.f2 > 1000000000
            · rw [if_pos hb] at h; injection h with h1 h2; exact .inl ⟨hb, h1.symm, h2.symm⟩
            · rw [if_neg hb] at h; injection h with h1 h2; exact .inr ⟨hb, h1.symm, h2.symm⟩
          rcases hE _ _ hres'.out with ⟨hbig, rfl, rfl⟩ | ⟨hbig, rfl, rfl⟩
          · gi_wp2_with fail
            go_wp2_with fail
            refine ⟨by simp, .inl ⟨_, _, rfl, run_takeDeferred HK.out, ?_⟩⟩
            exact ⟨_, results_tmp2 rfl _ _ _, _, rfl, Kd.R_nil _ _ _ _ _, B6.out.trans (belowK_b (w := w) (Nat.le_refl _) W D _ _ (by have := B4.out.size; omega) HK.out rfl rfl)⟩
          · gi_wp2_with fail
            go_wp2_with fail
            refine Code.wp_mono (fun e a w q => by cases e <;> first | exact q | exact q.elim) (tail20 _ _ _ _ _ _ _ _ _ _ _ _ _ _ _ _ _ _ _ _ _ _ _ _ _ _ _ _ _ _ _ _ _ _ _ _ _ _ _ _ _ _ _ _ _ _ _ _ _ _ _ _ _ _ _ _ _ _ _ _ _ _ _ _ _ _ _ _ _ _ _ _ _ _ _ _ _ _ _ _ _ _ _ _ _ _ _ _ _ _ _ _ _ _ _ _ _ _ _ _ _ _ _ _ _ _ _ w.heap.size wr.heap.size A0 c0 l0 nx w W _ (by omega) E6.out.l HN.out (Kd.C_below HR.out B6.out) hc0 B6.out ?_)
            intro v w1 u103 u104 u105 u106 HO HBW
            have HKw := Aside0.mk (blk_below HK.out HBW)
            have HO' := Aside0.mk HO
            have HBW' := Aside0.mk HBW
            have hDW := blk_lt HK.out
            clear HO HBW
            go_wp2_with fail
            refine ⟨by simp, .inl ⟨_, _, rfl, run_takeDeferred HKw.out, ?_⟩⟩
            exact ⟨_, results_tmp2 rfl _ _ _, _, rfl, Kd.R_lower (R_putObj _ HO'.out hDW) B6.out.size, (below_then B6.out B6.out.size HBW'.out).trans (belowK_b (w := w) (Nat.le_refl _) w1 D _ _ (by have := B4.out.size; omega) HKw.out rfl rfl)⟩
        case hstop =>
          intro D c pre W hD hpre hI hK
          obtain ⟨p, x, hp1, hp2, hp3, hp4⟩ := hI.at_
          obtain rfl := hI.how
          have hnp : nextP l0 a1 a2 a3 a4 a5 = nextAt l0 a1 a2 a4 a5 x := next_some (by rw [← hp1]; exact hpre) hp2 hp3
          have hW0 : W.heap[wr.heap.size]? = some (.cells (cells41 (nextP l0 a1 a2 a3 a4 a5)) 41 (0, 0)) := by rw [hnp]; exact hp4
          clear hp1 hp2 hp3 hp4 hpre
          have E6 := Aside0.mk hI.env
          have B6 := Aside0.mk hI.below
          have HN := Aside0.mk hW0
          have HK := Aside0.mk hK
          clear hI hnp hW0 hK
          generalize nextP l0 a1 a2 a3 a4 a5 = nx at hres' HN
          have y2 : W.cell? ⟨wr.heap.size, 2, none⟩ = some (.int .i64 nx.f2) := blk_cell HN.out 2
          have hE : ∀ r1' r2', (if nx.f2 > 1000000000 then (([], 3) : List S41 × Int) else (l0 ++ [nx], 0)) = (r1', r2') → (nx.f2 > 1000000000 ∧ r1' = [] ∧ r2' = 3) ∨ (¬ nx.f2 > 1000000000 ∧ r1' = l0 ++ [nx] ∧ r2' = 0) := fun r1' r2' h => by
            by_cases hb : nx.f2 > 1000000000
            · rw [if_pos hb] at h; injection h with h1 h2; exact .inl ⟨hb, h1.symm, h2.symm⟩
            · rw [if_neg hb] at h; injection h with h1 h2; exact .inr ⟨hb, h1.symm, h2.symm⟩
          rcases hE _ _ hres'.out with ⟨hbig, rfl, rfl⟩ | ⟨hbig, rfl, rfl⟩
          · gi_wp2_with fail
            go_wp2_with fail
            refine ⟨by simp, .inl ⟨_, _, rfl, run_takeDeferred HK.out, ?_⟩⟩
            exact ⟨_, results_tmp2 rfl _ _ _, _, rfl, Kd.R_nil _ _ _ _ _, B6.out.trans (belowK_b (w := w) (Nat.le_refl _) W D _ _ (by have := B4.out.size; omega) HK.out rfl rfl)⟩
          · gi_wp2_with fail
            go_wp2_with fail
            refine Code.wp_mono (fun e a w q => by cases e <;> first | exact q | exact q.elim) (tail20 _ _ _ _ _ _ _ _ _ _ _ _ _ _ _ _ _ _ _ _ _ _ _ _ _ _ _ _ _ _ _ _ _ _ _ _ _ _ _ _ _ _ _ _ _ _ _ _ _ _ _ _ _ _ _ _ _ _ _ _ _ _ _ _ _ _ _ _ _ _ _ _ _ _ _ _ _ _ _ _ _ _ _ _ _ _ _ _ _ _ _ _ _ _ _ _ _ _ _ _ _ _ _ _ _ _ _ w.heap.size wr.heap.size A0 c0 l0 nx w W _ (by omega) E6.out.l HN.out (Kd.C_below HR.out B6.out) hc0 B6.out ?_)
            intro v w1 u103 u104 u105 u106 HO HBW
            have HKw := Aside0.mk (blk_below HK.out HBW)
            have HO' := Aside0.mk HO
            have HBW' := Aside0.mk HBW
            have hDW := blk_lt HK.out
            clear HO HBW
            go_wp2_with fail
            refine ⟨by simp, .inl ⟨_, _, rfl, run_takeDeferred HKw.out, ?_⟩⟩
            exact ⟨_, results_tmp2 rfl _ _ _, _, rfl, Kd.R_lower (R_putObj _ HO'.out hDW) B6.out.size, (below_then B6.out B6.out.size HBW'.out).trans (belowK_b (w := w) (Nat.le_refl _) w1 D _ _ (by have := B4.out.size; omega) HKw.out rfl rfl)⟩

set_option maxHeartbeats 4000000 in
set_option maxRecDepth 100000 in
/-- No more than 200 floats. -/
theorem place_full (A0 : Option Addr) (c0 : Nat) (l0 : List S41) (a1 a2 a3 a4 a5 : Int) (b1 b2 : Bool) (w : World) (hr0 : Kd.C k41 w A0 l0.length l0) (hc0 : l0.length ≤ c0) (hv : floats_Valid.f l0 a1 = some true)
    (hy : floats_within.f a3 1000000000 = some true) (hw : floats_within.f a4 1000000 = some true) (hh : floats_within.f a5 1000000 = some true) (hlen : (l0.length : Int) = 200)
    (e1 : (a2 != 1) = b1) (e2 : (a2 != 2) = b2) (hb : b1 = false ∧ b2 = true ∨ b1 = true ∧ b2 = false) :
    Calls Try.prog 16 #[.slice A0 l0.length c0, .int .i64 a1, .int .i64 a2, .int .i64 a3, .int .i64 a4, .int .i64 a5] w fun e w' => e = .returned (.tuple #[.slice none 0 0, .int .i64 2]) ∧ Below w.heap.size w w' := by
  have hV := fun (W : World) (hW : Below w.heap.size w W) => floats_Valid.calls A0 c0 l0 a1 true W (Kd.C_below hr0 hW) hc0 hv
  have hV' := Aside0.mk hV
  have hY := fun W => floats_within.calls a3 1000000000 true W hy
  have hW := fun W => floats_within.calls a4 1000000 true W hw
  have hH := fun W => floats_within.calls a5 1000000 true W hh
  have hl0 : ((l0.length : Int) == 200) = true := by simpa using hlen
  clear hr0 hv hy hw hh hV hlen
  rcases hb with ⟨rfl, rfl⟩ | ⟨rfl, rfl⟩
  all_goals
    go_enter Try.func16, Try.ntmps16
    go_wp2_with fail
    refine (hV'.out _ (below_alloc (below_alloc (below_alloc (below_alloc (below_alloc (Below.refl _ _) _) _) _) _) _)).mono ?_
    rintro e w1 ⟨rfl, hb⟩
    obtain ⟨x6, x7, x8, x10, x11, hb1⟩ := box5 hb
    have hb1' := Aside0.mk hb1
    clear hb hb1
    go_wp2_with (first | (go_at_call 22; first | ((with_reducible refine (hY _).mono ?_); rintro e w2 ⟨rfl, ⟨nd, rfl⟩⟩) | ((with_reducible refine (hW _).mono ?_); rintro e w2 ⟨rfl, ⟨nd2, rfl⟩⟩) | ((with_reducible refine (hH _).mono ?_); rintro e w2 ⟨rfl, ⟨nd3, rfl⟩⟩)))
    go_ret2
    exact ⟨rfl, pw_below_drewN hb1'.out _⟩

theorem sides (a2 : Int) (h : (decide (a2 ≠ 1) && decide (a2 ≠ 2)) = false) : (a2 = 1 ∧ (a2 != 1) = false ∧ (a2 != 2) = true ∧ (a2 == 2) = false) ∨ (a2 = 2 ∧ (a2 != 1) = true ∧ (a2 != 2) = false ∧ (a2 == 2) = true) := by
  by_cases h1 : a2 = 1
  · subst h1; exact .inl ⟨rfl, by decide, by decide, by decide⟩
  · by_cases h2 : a2 = 2
    · subst h2; exact .inr ⟨rfl, by decide, by decide, by decide⟩
    · simp [h1, h2] at h

def floats_Place.f (l0 : List (S41)) (a1 : Int) (a2 : Int) (a3 : Int) (a4 : Int) (a5 : Int) : Option ((List (S41)) × Int) :=
  if placeBad l0 a1 a2 a3 a4 a5 = true then some ([], 1)
  else if (l0.length : Int) = 200 then some ([], 2)
  else if (nextP l0 a1 a2 a3 a4 a5).f2 > 1000000000 then some ([], 3)
  else some (l0 ++ [nextP l0 a1 a2 a3 a4 a5], 0)
theorem floats_Place.calls (A0 : Option Addr) (c0 : Nat) (l0 : List (S41)) (a1 : Int) (a2 : Int) (a3 : Int) (a4 : Int) (a5 : Int) (r1 : List (S41)) (r2 : Int) (w : World) (hr0 : Kd.C k41 w A0 l0.length l0) (hc0 : l0.length ≤ c0) (h : floats_Place.f l0 a1 a2 a3 a4 a5 = some (r1, r2)) :
    Calls Try.prog 16 #[.slice A0 l0.length c0, .int .i64 a1, .int .i64 a2, .int .i64 a3, .int .i64 a4, .int .i64 a5] w fun e w' => ∃ v0_ : Value, e = .returned (.tuple #[v0_, .int .i64 r2]) ∧ Kd.R k41 41 w' w.heap.size (fun _ => True) v0_ r1 ∧ Below w.heap.size w w' := by
  obtain ⟨vb, hv⟩ : ∃ vb, floats_Valid.f l0 a1 = some vb := ⟨_, rfl⟩
  have hy := within_q a3 1000000000
  have hw := within_q a4 1000000
  have hh := within_q a5 1000000
  unfold floats_Place.f at h
  by_cases hbad : placeBad l0 a1 a2 a3 a4 a5 = true
  · rw [if_pos hbad] at h
    injection h with h
    injection h with h1 h2
    subst h1 h2
    refine (place_bad A0 c0 l0 a1 a2 a3 a4 a5 _ _ _ _ w hr0 hc0 hv hy hw hh ?_).mono ?_
    · unfold placeBad at hbad
      rw [hv] at hbad
      rw [← hbad]
      have n1 : (a2 != 1) = decide (a2 ≠ 1) := by by_cases hq : a2 = 1 <;> simp [hq]
      have n2 : (a2 != 2) = decide (a2 ≠ 2) := by by_cases hq : a2 = 2 <;> simp [hq]
      rw [n1, n2]
      rfl
    · rintro e w' ⟨rfl, hb⟩
      exact ⟨_, rfl, Kd.R_nil _ _ _ _ _, hb⟩
  · rw [if_neg hbad] at h
    have hbad' : placeBad l0 a1 a2 a3 a4 a5 = false := by simpa using hbad
    unfold placeBad at hbad'
    rw [hv] at hbad'
    simp only [Option.getD_some, Bool.or_eq_false_iff, Bool.not_eq_false'] at hbad'
    obtain ⟨⟨⟨⟨p1, p2⟩, p3⟩, p4⟩, p5⟩ := hbad'
    subst p1
    rw [p3] at hy
    rw [p4] at hw
    rw [p5] at hh
    have hl200 : (l0.length : Int) ≤ 200 := by
      unfold floats_Valid.f at hv
      have := Option.some.inj hv
      simp at this
      omega
    by_cases hfull : (l0.length : Int) = 200
    · rw [if_pos hfull] at h
      injection h with h
      injection h with h1 h2
      subst h1 h2
      have hs := sides a2 p2
      rcases hs with ⟨_, s1, s2, _⟩ | ⟨_, s1, s2, _⟩
      · refine (place_full A0 c0 l0 a1 a2 a3 a4 a5 _ _ w hr0 hc0 hv hy hw hh hfull s1 s2 (.inl ⟨rfl, rfl⟩)).mono ?_
        rintro e w' ⟨rfl, hb⟩
        exact ⟨_, rfl, Kd.R_nil _ _ _ _ _, hb⟩
      · refine (place_full A0 c0 l0 a1 a2 a3 a4 a5 _ _ w hr0 hc0 hv hy hw hh hfull s1 s2 (.inr ⟨rfl, rfl⟩)).mono ?_
        rintro e w' ⟨rfl, hb⟩
        exact ⟨_, rfl, Kd.R_nil _ _ _ _ _, hb⟩
    · rw [if_neg hfull] at h
      have h' : (if (nextP l0 a1 a2 a3 a4 a5).f2 > 1000000000 then (([], 3) : List S41 × Int) else (l0 ++ [nextP l0 a1 a2 a3 a4 a5], 0)) = (r1, r2) := by
        split at h <;> rename_i g
        · rw [if_pos g]; exact Option.some.inj h
        · rw [if_neg g]; exact Option.some.inj h
      have hs := sides a2 p2
      rcases hs with ⟨_, s1, s2, s3⟩ | ⟨_, s1, s2, s3⟩
      · exact place_main A0 c0 l0 a1 a2 a3 a4 a5 _ _ _ w hr0 hc0 hv hy hw hh (by omega) s1 s2 s3 (.inl ⟨rfl, rfl, rfl⟩) r1 r2 h'
      · exact place_main A0 c0 l0 a1 a2 a3 a4 a5 _ _ _ w hr0 hc0 hv hy hw hh (by omega) s1 s2 s3 (.inr ⟨rfl, rfl, rfl⟩) r1 r2 h'


end Go.Proofs.Ytffmflmpiekcfab.PAll
