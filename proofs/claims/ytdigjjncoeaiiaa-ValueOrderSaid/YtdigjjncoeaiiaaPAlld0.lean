/- Printed by a program of this session (wip/gprint.py) over the translation, cut to what is named (wip/dcut.py). Not trusted: Lean checks it. -/
import Derived.Test.YtdigjjncoeaiiaaProg
import Derived.Below
import Derived.Deep.Draws
import Derived.Deep.AppendLies
import Derived.Maps.AppendAt
import Derived.OwnWalk
import Derived.Laws.BytesArg
import Derived.Laws.MakeOwn
import Derived.Laws.OwnMore
import Derived.Deep.OwnRows
import Derived.Tactics
import Derived.Lib.ConvBytes
import Derived.Laws.Slices
import Derived.WalkKit
import Derived.KernelRfl
import Derived.RowKit3
import Derived.Deep.LoopGhost
import Derived.Deep.QuietTactic
import Derived.BigQuiet
import Derived.WideLaws
import Derived.Deep.DeepCutAuto
import Derived.Deep.CutBlock
import Derived.Deep.RegionHeld3
import Derived.Laws.Rows
import Derived.Lib.AppendStr
import Derived.ArgAppend
import Derived.Laws.IdiomCopy
import Derived.OrdersHeld
import Derived.Laws.BitsLemmas
import Derived.RowKit
import Derived.Test.YtdigjjncoeaiiaaVWords
import Derived.Test.YtdigjjncoeaiiaaVLast
import Derived.Test.YtdigjjncoeaiiaaVTab
import Derived.Test.YtdigjjncoeaiiaaVApart
import Derived.Test.YtdigjjncoeaiiaaVFoot
import Derived.Test.YtdigjjncoeaiiaaVKept
import Derived.Test.YtdigjjncoeaiiaaVShare
import Derived.Test.YtdigjjncoeaiiaaVN
import Derived.Test.YtdigjjncoeaiiaaVEqStruct
import Derived.Test.YtdigjjncoeaiiaaVRepsOne
import Derived.Test.YtdigjjncoeaiiaaVInv
import Derived.Test.YtdigjjncoeaiiaaVNEv
import Derived.Test.YtdigjjncoeaiiaaVMore
import Derived.RangeFuncNested
import Derived.RangeFuncFrom
import Derived.BigFrameIn
import Derived.OwnWalkIn
import Derived.TacticsInMore
import Derived.LoopNIn
import Derived.LoopIn
import Derived.Shelf.AbstractIn
import Derived.Scope
import Derived.Test.YtdigjjncoeaiiaaGlib
import Derived.MapKept
import Derived.Carry
import Derived.Laws.EntriesVeiled
import Derived.Shelf.Abstract
import Derived.Recover
import Derived.Laws.Pointers
import Derived.OneCell
import Derived.RangeFuncBox
import Derived.Deep.RegionWith
import Derived.Maps.Own
import Derived.Maps.Views
import Derived.Lib.SlKeysI
import Derived.Maps.Keyed
import Derived.Maps.OwnIn
import Derived.RangeFuncLeaves
import Derived.Shelf.SlGeneric
import Derived.Shelf.SlLaysZI
import Derived.Shelf.SlLaysM
import Derived.Shelf.SlIterI.Nil
import Derived.Shelf.SortM.Plain
import Derived.Shelf.SortM.SortNone
namespace Go.Proofs.Ytdigjjncoeaiiaa.PAll
open Go.RowKit Go.Proofs.YtdigjjncoeaiiaaW.PrintWords Go.Proofs.YtdigjjncoeaiiaaW.PrintLast Go.Proofs.YtdigjjncoeaiiaaW.PrintMore
attribute [local go_sem] max2_int min2_int max_two min_two max_three min_three max_four min_four -- for this text's walks alone
set_option linter.unusedVariables false
set_option linter.unusedSimpArgs false
section
def errW : Option Int → Value
  | none => .nilIface
  | some c => .iface 0 (.int .i64 c)
theorem errW_none : errW none = .nilIface := rfl
theorem errW_some (c : Int) : errW (some c) = .iface 0 (.int .i64 c) := rfl
theorem info3 : (Try.prog.info? 3).map (fun i => (i.zero, i.size, i.bytes)) = some (some (.int .i64 0), 1, 8) := by kernel_rfl
theorem info57 : (Try.prog.info? 57).map (fun i => (i.zero, i.size, i.bytes)) = some (some (.agg #[(.int .i64 0), (.int .i64 0), (.int .i64 0), (.int .i64 0), (.int .i64 0)]), 5, 40) := by kernel_rfl
structure S25 where
  f0 : Int
  f1 : Int
  f2 : Int
  f3 : Int
  f4 : Int
  f5 : Int
  f6 : Int
  f7 : Int
def z25 : S25 := ⟨(0 : Int), (0 : Int), (0 : Int), (0 : Int), (0 : Int), (0 : Int), (0 : Int), (0 : Int)⟩
def k25 : Kd S25 := Kd.iso (Kd.pair (Kd.int .i64) (Kd.pair (Kd.int .i64) (Kd.pair (Kd.int .i64) (Kd.pair (Kd.int .i64) (Kd.pair (Kd.int .i64) (Kd.pair (Kd.int .i64) (Kd.pair (Kd.int .i64) (Kd.int .i64)))))))) (fun x : S25 => (x.f0, x.f1, x.f2, x.f3, x.f4, x.f5, x.f6, x.f7))
theorem k25_open {w : World} {x : S25} {cs : List Value} (h : k25.K w x cs) : cs = [.int .i64 x.f0, .int .i64 x.f1, .int .i64 x.f2, .int .i64 x.f3, .int .i64 x.f4, .int .i64 x.f5, .int .i64 x.f6, .int .i64 x.f7] := by
  obtain ⟨_, _, rfl, rfl, ⟨_, _, rfl, rfl, ⟨_, _, rfl, rfl, ⟨_, _, rfl, rfl, ⟨_, _, rfl, rfl, ⟨_, _, rfl, rfl, ⟨_, _, rfl, rfl, rfl⟩⟩⟩⟩⟩⟩⟩ := h
  exact rfl
theorem k25_mk (w : World) (x : S25)  : k25.K w x [.int .i64 x.f0, .int .i64 x.f1, .int .i64 x.f2, .int .i64 x.f3, .int .i64 x.f4, .int .i64 x.f5, .int .i64 x.f6, .int .i64 x.f7] := ⟨[.int .i64 x.f0], [.int .i64 x.f1, .int .i64 x.f2, .int .i64 x.f3, .int .i64 x.f4, .int .i64 x.f5, .int .i64 x.f6, .int .i64 x.f7], rfl, rfl, ⟨[.int .i64 x.f1], [.int .i64 x.f2, .int .i64 x.f3, .int .i64 x.f4, .int .i64 x.f5, .int .i64 x.f6, .int .i64 x.f7], rfl, rfl, ⟨[.int .i64 x.f2], [.int .i64 x.f3, .int .i64 x.f4, .int .i64 x.f5, .int .i64 x.f6, .int .i64 x.f7], rfl, rfl, ⟨[.int .i64 x.f3], [.int .i64 x.f4, .int .i64 x.f5, .int .i64 x.f6, .int .i64 x.f7], rfl, rfl, ⟨[.int .i64 x.f4], [.int .i64 x.f5, .int .i64 x.f6, .int .i64 x.f7], rfl, rfl, ⟨[.int .i64 x.f5], [.int .i64 x.f6, .int .i64 x.f7], rfl, rfl, ⟨[.int .i64 x.f6], [.int .i64 x.f7], rfl, rfl, rfl⟩⟩⟩⟩⟩⟩⟩
structure S59 where
  f0 : Int
  f1 : Int
  f2 : S25
structure S24 where
  f0 : Int
  f1 : Int
  f2 : (List S24)
def z24 : S24 := ⟨(0 : Int), (0 : Int), ([] : List S24)⟩
def F24 (d : Kd S24) : Kd S24 := Kd.iso (Kd.pair (Kd.int .i64) (Kd.pair (Kd.int .i64) (Kd.slice 24 d))) (fun x : S24 => (x.f0, x.f1, x.f2))
theorem mono24 : Kd.Mono F24 := Kd.mono_iso _ (Kd.mono_pair (Kd.mono_const _) (Kd.mono_pair (Kd.mono_const _) (Kd.mono_slice 24 Kd.mono_id)))
theorem sub24 : Kd.Sub F24 [24] := Kd.sub_iso _ (Kd.sub_pair (Kd.sub_const _ (by decide)) (Kd.sub_pair (Kd.sub_const _ (by decide)) (Kd.sub_slice 24 (by decide) Kd.sub_id)))
theorem sz24 : ∀ n, (Kd.upto F24 3 [24] n).sz = 3 := Kd.upto_sz (fun _ => rfl)
def k24 : Kd S24 := Kd.fix F24 3 [24] sz24 (Kd.upto_E sub24)
theorem k24_heap : Kd.Heap k24 := Kd.heap_fix (fun _ h_ => Kd.heap_iso _ (Kd.heap_pair (Kd.heap_int .i64) (Kd.heap_pair (Kd.heap_int .i64) (Kd.heap_slice 24 h_))))
theorem k24_open {w : World} {x : S24} {cs : List Value} (h : k24.K w x cs) : ∃ A2 c2, cs = [.int .i64 x.f0, .int .i64 x.f1, .slice A2 x.f2.length c2] ∧ x.f2.length ≤ c2 ∧ k24.C w A2 x.f2.length x.f2 := by
  obtain ⟨n, h⟩ := h
  cases n with
  | zero => exact h.elim
  | succ n =>
    obtain ⟨_, _, rfl, rfl, ⟨_, _, rfl, rfl, ⟨A2, c2, rfl, l2, g2⟩⟩⟩ := h
    exact ⟨A2, c2, rfl, l2, Kd.fix_C g2⟩
theorem k24_mk (w : World) (x : S24) {A2 : Option Addr} {c2 : Nat} (l2 : x.f2.length ≤ c2) (g2 : k24.C w A2 x.f2.length x.f2) : k24.K w x [.int .i64 x.f0, .int .i64 x.f1, .slice A2 x.f2.length c2] := by
  obtain ⟨n2, q2⟩ := Kd.fix_C_back mono24 g2
  have r2 := Kd.upto_C_le mono24 sz24 (show n2 ≤ n2 by omega) q2
  exact ⟨n2 + 1, ⟨[.int .i64 x.f0], [.int .i64 x.f1, .slice A2 x.f2.length c2], rfl, rfl, ⟨[.int .i64 x.f1], [.slice A2 x.f2.length c2], rfl, rfl, ⟨A2, c2, rfl, l2, r2⟩⟩⟩⟩
theorem k24_mkF (W : World) (ok : Nat → Prop) (x : S24) {A2 : Option Addr} {c2 : Nat} (l2 : x.f2.length ≤ c2) (g2 : Kd.F k24 W ok A2 x.f2.length x.f2) : Kd.FK k24 W ok x [.int .i64 x.f0, .int .i64 x.f1, .slice A2 x.f2.length c2] := fun W2 hW => k24_mk W2 x l2 (g2 W2 hW)
def rd_T24 (xs : List S24) (i : Int) : S24 := xs.getD i.toNat z24
theorem at_T24 {w : World} {A : Option Addr} {n : Nat} {xs : List S24} (h : Kd.C k24 w A n xs) (i : Int) (h0 : 0 ≤ i) (h1 : i < n) : ∃ ad A2 c2, A = some ad ∧ w.cell? (ad.add (i.toNat * 3)) = some (.int .i64 (rd_T24 xs i).f0) ∧ w.cell? ⟨(ad.add (i.toNat * 3)).block, (ad.add (i.toNat * 3)).off + 1, none⟩ = some (.int .i64 (rd_T24 xs i).f1) ∧ w.cell? ⟨(ad.add (i.toNat * 3)).block, (ad.add (i.toNat * 3)).off + 2, none⟩ = some (.slice A2 (rd_T24 xs i).f2.length c2) ∧ (rd_T24 xs i).f2.length ≤ c2 ∧ k24.C w A2 (rd_T24 xs i).f2.length (rd_T24 xs i).f2 := by
  obtain ⟨ad, c, e, _, hK, hc0⟩ := Kd.C_get h z24 i h0 h1
  have hc : ∀ j u, c[j]? = some u → w.cell? (ad.add (i.toNat * 3 + j)) = some u := hc0
  obtain ⟨A2, c2, rfl, l2, g2⟩ := k24_open hK
  exact ⟨ad, A2, c2, e, hc 0 _ rfl, by rw [← add_field _ _ 1 (by omega)]; exact hc 1 _ rfl, by rw [← add_field _ _ 2 (by omega)]; exact hc 2 _ rfl, l2, g2⟩
structure S55 where
  f0 : Int
  f1 : Int
  f2 : Int
def z55 : S55 := ⟨(0 : Int), (0 : Int), (0 : Int)⟩
def k55 : Kd S55 := Kd.iso (Kd.pair (Kd.int .i64) (Kd.pair (Kd.int .i64) (Kd.int .i64))) (fun x : S55 => (x.f0, x.f1, x.f2))
theorem k55_open {w : World} {x : S55} {cs : List Value} (h : k55.K w x cs) : cs = [.int .i64 x.f0, .int .i64 x.f1, .int .i64 x.f2] := by
  obtain ⟨_, _, rfl, rfl, ⟨_, _, rfl, rfl, rfl⟩⟩ := h
  exact rfl
theorem k55_mk (w : World) (x : S55)  : k55.K w x [.int .i64 x.f0, .int .i64 x.f1, .int .i64 x.f2] := ⟨[.int .i64 x.f0], [.int .i64 x.f1, .int .i64 x.f2], rfl, rfl, ⟨[.int .i64 x.f1], [.int .i64 x.f2], rfl, rfl, rfl⟩⟩
theorem k55_mkM (w : World) (base : Nat) (ok : Nat → Prop) (x : S55)  : k55.M w base ok x [.int .i64 x.f0, .int .i64 x.f1, .int .i64 x.f2] := ⟨[.int .i64 x.f0], [.int .i64 x.f1, .int .i64 x.f2], rfl, rfl, ⟨[.int .i64 x.f1], [.int .i64 x.f2], rfl, rfl, rfl⟩⟩
structure S57 where
  f0 : Int
  f1 : Int
  f2 : S55
def z57 : S57 := ⟨(0 : Int), (0 : Int), z55⟩
def k57 : Kd S57 := Kd.iso (Kd.pair (Kd.int .i64) (Kd.pair (Kd.int .i64) k55)) (fun x : S57 => (x.f0, x.f1, x.f2))
theorem k57_open {w : World} {x : S57} {cs : List Value} (h : k57.K w x cs) : cs = [.int .i64 x.f0, .int .i64 x.f1, .int .i64 x.f2.f0, .int .i64 x.f2.f1, .int .i64 x.f2.f2] := by
  obtain ⟨_, _, rfl, rfl, ⟨_, _, rfl, rfl, s2⟩⟩ := h
  obtain rfl := k55_open s2
  exact rfl
theorem k57_mk (w : World) (x : S57)  : k57.K w x [.int .i64 x.f0, .int .i64 x.f1, .int .i64 x.f2.f0, .int .i64 x.f2.f1, .int .i64 x.f2.f2] := ⟨[.int .i64 x.f0], [.int .i64 x.f1, .int .i64 x.f2.f0, .int .i64 x.f2.f1, .int .i64 x.f2.f2], rfl, rfl, ⟨[.int .i64 x.f1], [.int .i64 x.f2.f0, .int .i64 x.f2.f1, .int .i64 x.f2.f2], rfl, rfl, (k55_mk w x.f2 )⟩⟩
theorem k57_mkM (w : World) (base : Nat) (ok : Nat → Prop) (x : S57)  : k57.M w base ok x [.int .i64 x.f0, .int .i64 x.f1, .int .i64 x.f2.f0, .int .i64 x.f2.f1, .int .i64 x.f2.f2] := ⟨[.int .i64 x.f0], [.int .i64 x.f1, .int .i64 x.f2.f0, .int .i64 x.f2.f1, .int .i64 x.f2.f2], rfl, rfl, ⟨[.int .i64 x.f1], [.int .i64 x.f2.f0, .int .i64 x.f2.f1, .int .i64 x.f2.f2], rfl, rfl, (k55_mkM w base ok x.f2 )⟩⟩
def rd_T57 (xs : List S57) (i : Int) : S57 := xs.getD i.toNat z57
theorem at_T57 {w : World} {A : Option Addr} {n : Nat} {xs : List S57} (h : Kd.C k57 w A n xs) (i : Int) (h0 : 0 ≤ i) (h1 : i < n) : ∃ ad , A = some ad ∧ w.cell? (ad.add (i.toNat * 5)) = some (.int .i64 (rd_T57 xs i).f0) ∧ w.cell? ⟨(ad.add (i.toNat * 5)).block, (ad.add (i.toNat * 5)).off + 1, none⟩ = some (.int .i64 (rd_T57 xs i).f1) ∧ w.cell? ⟨(ad.add (i.toNat * 5)).block, (ad.add (i.toNat * 5)).off + 2, none⟩ = some (.int .i64 (rd_T57 xs i).f2.f0) ∧ w.cell? ⟨(ad.add (i.toNat * 5)).block, (ad.add (i.toNat * 5)).off + 3, none⟩ = some (.int .i64 (rd_T57 xs i).f2.f1) ∧ w.cell? ⟨(ad.add (i.toNat * 5)).block, (ad.add (i.toNat * 5)).off + 4, none⟩ = some (.int .i64 (rd_T57 xs i).f2.f2) := by
  obtain ⟨ad, c, e, _, hK, hc0⟩ := Kd.C_get h z57 i h0 h1
  have hc : ∀ j u, c[j]? = some u → w.cell? (ad.add (i.toNat * 5 + j)) = some u := hc0
  obtain rfl := k57_open hK
  exact ⟨ad, e, hc 0 _ rfl, by rw [← add_field _ _ 1 (by omega)]; exact hc 1 _ rfl, by rw [← add_field _ _ 2 (by omega)]; exact hc 2 _ rfl, by rw [← add_field _ _ 3 (by omega)]; exact hc 3 _ rfl, by rw [← add_field _ _ 4 (by omega)]; exact hc 4 _ rfl⟩
structure S27 where
  f0 : Int
  f1 : Int
def z27 : S27 := ⟨(0 : Int), (0 : Int)⟩
end
section
theorem eqA55 (d : Nat) (w : World) (x0 y0 : Int) (x1 y1 : Int) (x2 y2 : Int) :
    (Op.equalIn (d + 2) 55 (.agg #[.int .i64 x0, .int .i64 x1, .int .i64 x2]) (.agg #[.int .i64 y0, .int .i64 y1, .int .i64 y2])).run Try.prog w = .ok (x0 == y0 && (x1 == y1 && (x2 == y2))) w := by
  refine eqA_of Try.underlying55 (by kernel_rfl) ?_
  refine eqf_cons (by rfl) (by go_simp; rfl) (by go_simp; rfl) (by go_simp) ?_
  refine eqf_cons (by rfl) (by go_simp; rfl) (by go_simp; rfl) (by go_simp) ?_
  exact eqf_last (by rfl) (by go_simp; rfl) (by go_simp; rfl) (by go_simp)
theorem eqA57 (d : Nat) (w : World) (x0 y0 : Int) (x1 y1 : Int) (x2 y2 : Int) (x3 y3 : Int) (x4 y4 : Int) :
    (Op.equalIn (d + 3) 57 (.agg #[.int .i64 x0, .int .i64 x1, .int .i64 x2, .int .i64 x3, .int .i64 x4]) (.agg #[.int .i64 y0, .int .i64 y1, .int .i64 y2, .int .i64 y3, .int .i64 y4])).run Try.prog w = .ok (x0 == y0 && (x1 == y1 && ((x2 == y2 && (x3 == y3 && (x4 == y4)))))) w := by
  refine eqA_of Try.underlying57 (by kernel_rfl) ?_
  refine eqf_cons (by rfl) (by go_simp; rfl) (by go_simp; rfl) (by go_simp) ?_
  refine eqf_cons (by rfl) (by go_simp; rfl) (by go_simp; rfl) (by go_simp) ?_
  exact eqf_last (by rfl) (by go_simp) (by go_simp) (eqA55 (d + 0) w _ _ _ _ _ _)
end
section
def value_about_number.f (a0_0 : Int) (a0_1 : Int) (a0_2 : Int) (a0_3 : Int) (a0_4 : Int) (a0_5 : Int) (a0_6 : Int) (a0_7 : Int) (a0_8 : Int) (a0_9 : Int) (a1 : Int) (l2 : List Int) : Option (Int) := some a1
def value_over.f (a0 : Int) (a1 : Int) : Option (Int) := if a1 = 0 then (none) else (if (Int.tmod a0 a1) < 0 then (some (wrap64 ((wrap64 (Int.tdiv a0 a1)) - 1))) else (some (wrap64 (Int.tdiv a0 a1))))
def value_about_percent.f (a0_0 : Int) (a0_1 : Int) (a0_2 : Int) (a0_3 : Int) (a0_4 : Int) (a0_5 : Int) (a0_6 : Int) (a0_7 : Int) (a0_8 : Int) (a0_9 : Int) (a1 : Int) (l2 : List Int) : Option (Int) := (value_over.f (wrap64 (a1 * a0_0)) 100).bind fun t103 => (some t103)
def value_about_em.f (a0_0 : Int) (a0_1 : Int) (a0_2 : Int) (a0_3 : Int) (a0_4 : Int) (a0_5 : Int) (a0_6 : Int) (a0_7 : Int) (a0_8 : Int) (a0_9 : Int) (a1 : Int) (l2 : List Int) : Option (Int) := (value_over.f (wrap64 (a1 * a0_1)) 100).bind fun t105 => (some t105)
end
section
theorem cells10 {W : World} {g T : Nat} {a b x0 x1 x2 x3 x4 x5 x6 x7 r : Int} {n : Nat} (h : W.heap[g]? = some (.cells #[.int .i64 a, .int .i64 b, .int .i64 x0, .int .i64 x1, .int .i64 x2, .int .i64 x3, .int .i64 x4, .int .i64 x5, .int .i64 x6, .int .i64 x7] T (0, 0))) (hn : n < 8) (hr : [x0, x1, x2, x3, x4, x5, x6, x7].getD n 0 = r) : W.cell? ⟨g, 2 + n, none⟩ = some (.int .i64 r) := by
  subst hr
  refine (blk_cell h (2 + n)).trans ?_
  match n, hn with
  | 0, _ => rfl
  | 1, _ => rfl
  | 2, _ => rfl
  | 3, _ => rfl
  | 4, _ => rfl
  | 5, _ => rfl
  | 6, _ => rfl
  | 7, _ => rfl
end
section
def value_about_sum.f (a0_0 : Int) (a0_1 : Int) (a0_2 : Int) (a0_3 : Int) (a0_4 : Int) (a0_5 : Int) (a0_6 : Int) (a0_7 : Int) (a0_8 : Int) (a0_9 : Int) (a1 : Int) (l2 : List Int) : Option (Int) := if 0 < (l2.length : Int) then (if 1 < (l2.length : Int) then (some (wrap64 ((rd l2 0) + (rd l2 1)))) else (none)) else (none)
def value_about_less.f (a0_0 : Int) (a0_1 : Int) (a0_2 : Int) (a0_3 : Int) (a0_4 : Int) (a0_5 : Int) (a0_6 : Int) (a0_7 : Int) (a0_8 : Int) (a0_9 : Int) (a1 : Int) (l2 : List Int) : Option (Int) := if 0 < (l2.length : Int) then (if 1 < (l2.length : Int) then (some (wrap64 ((rd l2 0) - (rd l2 1)))) else (none)) else (none)
def value_about_times.f (a0_0 : Int) (a0_1 : Int) (a0_2 : Int) (a0_3 : Int) (a0_4 : Int) (a0_5 : Int) (a0_6 : Int) (a0_7 : Int) (a0_8 : Int) (a0_9 : Int) (a1 : Int) (l2 : List Int) : Option (Int) := if 0 < (l2.length : Int) then (some (wrap64 (a1 * (rd l2 0)))) else (none)
def value_about_over.f (a0_0 : Int) (a0_1 : Int) (a0_2 : Int) (a0_3 : Int) (a0_4 : Int) (a0_5 : Int) (a0_6 : Int) (a0_7 : Int) (a0_8 : Int) (a0_9 : Int) (a1 : Int) (l2 : List Int) : Option (Int) := if 0 < (l2.length : Int) then ((value_over.f (rd l2 0) a1).bind fun t116 => (some t116)) else (none)
def slices_Min_int_int.l0 : Nat → List Int → Int → Int → Option (Int)
  | 0, _, _, _ => none
  | k + 1, x0, x3, x4 => if x4 < (x0.length : Int) then (if 0 ≤ x4 then (slices_Min_int_int.l0 k x0 (mn x3 (rd x0 x4)) (wrap64 (x4 + 1))) else (none)) else (some x3)
def slices_Min_int_int.f (k : Nat) (l0 : List Int) : Option (Int) := if (l0.length : Int) < 1 then (none) else (if 0 < (l0.length : Int) then (slices_Min_int_int.l0 k l0 (rd l0 0) 1) else (none))
theorem slices_Min_int_int.mono_l : ∀ k, (∀ y0 y1 y2, LeO (slices_Min_int_int.l0 k y0 y1 y2) (slices_Min_int_int.l0 (k + 1) y0 y1 y2))
  | 0 => fun _ _ _ r h => by simp [slices_Min_int_int.l0] at h
  | k + 1 => by
    have ih0 := slices_Min_int_int.mono_l k
    · intro y0 y1 y2
      unfold slices_Min_int_int.l0
      repeat' first
      | (with_reducible exact ih0 _ _ _)
      | (with_reducible exact LeO.refl _)
      | (with_reducible exact LeO.none _)
      | (with_reducible refine LeO.ite ?_ ?_)
      | (with_reducible refine LeO.bind ?_ (fun _ => ?_))
      | exact ih0 _ _ _
      | exact LeO.none _
      | refine LeO.ite ?_ ?_
      | refine LeO.bind ?_ (fun _ => ?_)
theorem slices_Min_int_int.mono : ∀ a0 k, LeO (slices_Min_int_int.f k a0) (slices_Min_int_int.f (k + 1) a0) := by
  intro a0 k
  have ih0 := slices_Min_int_int.mono_l k
  unfold slices_Min_int_int.f
  repeat' first
      | (with_reducible exact ih0 _ _ _)
      | (with_reducible exact LeO.refl _)
      | (with_reducible exact LeO.none _)
      | (with_reducible refine LeO.ite ?_ ?_)
      | (with_reducible refine LeO.bind ?_ (fun _ => ?_))
      | exact ih0 _ _ _
      | exact LeO.none _
      | refine LeO.ite ?_ ?_
      | refine LeO.bind ?_ (fun _ => ?_)
def value_about_least.f (k : Nat) (a0_0 : Int) (a0_1 : Int) (a0_2 : Int) (a0_3 : Int) (a0_4 : Int) (a0_5 : Int) (a0_6 : Int) (a0_7 : Int) (a0_8 : Int) (a0_9 : Int) (a1 : Int) (l2 : List Int) : Option (Int) := (slices_Min_int_int.f k l2).bind fun t120 => (some t120)
theorem value_about_least.mono : ∀ a0 a1 a2 a3 a4 a5 a6 a7 a8 a9 a10 a11 k, LeO (value_about_least.f k a0 a1 a2 a3 a4 a5 a6 a7 a8 a9 a10 a11) (value_about_least.f (k + 1) a0 a1 a2 a3 a4 a5 a6 a7 a8 a9 a10 a11) := by
  intro a0 a1 a2 a3 a4 a5 a6 a7 a8 a9 a10 a11 k
  unfold value_about_least.f
  repeat' first
      | (with_reducible exact slices_Min_int_int.mono _ _)
      | (with_reducible exact LeO.refl _)
      | (with_reducible exact LeO.none _)
      | (with_reducible refine LeO.ite ?_ ?_)
      | (with_reducible refine LeO.bind ?_ (fun _ => ?_))
      | exact slices_Min_int_int.mono _ _
      | exact LeO.none _
      | refine LeO.ite ?_ ?_
      | refine LeO.bind ?_ (fun _ => ?_)
def slices_Max_int_int.l0 : Nat → List Int → Int → Int → Option (Int)
  | 0, _, _, _ => none
  | k + 1, x0, x3, x4 => if x4 < (x0.length : Int) then (if 0 ≤ x4 then (slices_Max_int_int.l0 k x0 (mx x3 (rd x0 x4)) (wrap64 (x4 + 1))) else (none)) else (some x3)
def slices_Max_int_int.f (k : Nat) (l0 : List Int) : Option (Int) := if (l0.length : Int) < 1 then (none) else (if 0 < (l0.length : Int) then (slices_Max_int_int.l0 k l0 (rd l0 0) 1) else (none))
theorem slices_Max_int_int.mono_l : ∀ k, (∀ y0 y1 y2, LeO (slices_Max_int_int.l0 k y0 y1 y2) (slices_Max_int_int.l0 (k + 1) y0 y1 y2))
  | 0 => fun _ _ _ r h => by simp [slices_Max_int_int.l0] at h
  | k + 1 => by
    have ih0 := slices_Max_int_int.mono_l k
    · intro y0 y1 y2
      unfold slices_Max_int_int.l0
      repeat' first
      | (with_reducible exact ih0 _ _ _)
      | (with_reducible exact LeO.refl _)
      | (with_reducible exact LeO.none _)
      | (with_reducible refine LeO.ite ?_ ?_)
      | (with_reducible refine LeO.bind ?_ (fun _ => ?_))
      | exact ih0 _ _ _
      | exact LeO.none _
      | refine LeO.ite ?_ ?_
      | refine LeO.bind ?_ (fun _ => ?_)
theorem slices_Max_int_int.mono : ∀ a0 k, LeO (slices_Max_int_int.f k a0) (slices_Max_int_int.f (k + 1) a0) := by
  intro a0 k
  have ih0 := slices_Max_int_int.mono_l k
  unfold slices_Max_int_int.f
  repeat' first
      | (with_reducible exact ih0 _ _ _)
      | (with_reducible exact LeO.refl _)
      | (with_reducible exact LeO.none _)
      | (with_reducible refine LeO.ite ?_ ?_)
      | (with_reducible refine LeO.bind ?_ (fun _ => ?_))
      | exact ih0 _ _ _
      | exact LeO.none _
      | refine LeO.ite ?_ ?_
      | refine LeO.bind ?_ (fun _ => ?_)
def value_about_greatest.f (k : Nat) (a0_0 : Int) (a0_1 : Int) (a0_2 : Int) (a0_3 : Int) (a0_4 : Int) (a0_5 : Int) (a0_6 : Int) (a0_7 : Int) (a0_8 : Int) (a0_9 : Int) (a1 : Int) (l2 : List Int) : Option (Int) := (slices_Max_int_int.f k l2).bind fun t124 => (some t124)
theorem value_about_greatest.mono : ∀ a0 a1 a2 a3 a4 a5 a6 a7 a8 a9 a10 a11 k, LeO (value_about_greatest.f k a0 a1 a2 a3 a4 a5 a6 a7 a8 a9 a10 a11) (value_about_greatest.f (k + 1) a0 a1 a2 a3 a4 a5 a6 a7 a8 a9 a10 a11) := by
  intro a0 a1 a2 a3 a4 a5 a6 a7 a8 a9 a10 a11 k
  unfold value_about_greatest.f
  repeat' first
      | (with_reducible exact slices_Max_int_int.mono _ _)
      | (with_reducible exact LeO.refl _)
      | (with_reducible exact LeO.none _)
      | (with_reducible refine LeO.ite ?_ ?_)
      | (with_reducible refine LeO.bind ?_ (fun _ => ?_))
      | exact slices_Max_int_int.mono _ _
      | exact LeO.none _
      | refine LeO.ite ?_ ?_
      | refine LeO.bind ?_ (fun _ => ?_)
def value_within.f (a0 : Int) (a1 : Int) (a2 : Int) : Option (Bool) := if a1 ≤ a0 then (some (decide (a0 ≤ a2))) else (some false)
def value_about_right_1.f (a0 : Int) : Option (Bool) := (value_within.f a0 (-1000000000) 1000000000).bind fun t125 => (some (!t125))
def curve_isValue.f (a0 : Int) : Option (Bool) := if (-1000000000) ≤ a0 then (some (decide (a0 ≤ 1000000000))) else (some false)
def curve_Make_1.f (a0 : Int) : Option (Bool) := (curve_isValue.f a0).bind fun t126 => (some (!t126))
def cmp_Or_int.l0 : Nat → Int → List Int → Int → Int → Option (Int)
  | 0, _, _, _, _ => none
  | k + 1, x3, x6, x7, x8 => if x8 < x7 then (if 0 ≤ x8 then (if x8 < (x6.length : Int) then (if (rd x6 x8) = x3 then (cmp_Or_int.l0 k x3 x6 x7 (wrap64 (x8 + 1))) else (some (rd x6 x8))) else (none)) else (none)) else (some x3)
def cmp_Or_int.f (k : Nat) (l0 : List Int) : Option (Int) := cmp_Or_int.l0 k 0 l0 (l0.length : Int) 0
theorem cmp_Or_int.mono_l : ∀ k, (∀ y0 y1 y2 y3, LeO (cmp_Or_int.l0 k y0 y1 y2 y3) (cmp_Or_int.l0 (k + 1) y0 y1 y2 y3))
  | 0 => fun _ _ _ _ r h => by simp [cmp_Or_int.l0] at h
  | k + 1 => by
    have ih0 := cmp_Or_int.mono_l k
    · intro y0 y1 y2 y3
      unfold cmp_Or_int.l0
      repeat' first
      | (with_reducible exact ih0 _ _ _ _)
      | (with_reducible exact LeO.refl _)
      | (with_reducible exact LeO.none _)
      | (with_reducible refine LeO.ite ?_ ?_)
      | (with_reducible refine LeO.bind ?_ (fun _ => ?_))
      | exact ih0 _ _ _ _
      | exact LeO.none _
      | refine LeO.ite ?_ ?_
      | refine LeO.bind ?_ (fun _ => ?_)
theorem cmp_Or_int.mono : ∀ a0 k, LeO (cmp_Or_int.f k a0) (cmp_Or_int.f (k + 1) a0) := by
  intro a0 k
  have ih0 := cmp_Or_int.mono_l k
  unfold cmp_Or_int.f
  repeat' first
      | (with_reducible exact ih0 _ _ _ _)
      | (with_reducible exact LeO.refl _)
      | (with_reducible exact LeO.none _)
      | (with_reducible refine LeO.ite ?_ ?_)
      | (with_reducible refine LeO.bind ?_ (fun _ => ?_))
      | exact ih0 _ _ _ _
      | exact LeO.none _
      | refine LeO.ite ?_ ?_
      | refine LeO.bind ?_ (fun _ => ?_)
def cmp_isNaN_int.f (a0 : Int) : Option (Bool) := some (a0 != a0)
def cmp_Compare_int.f (a0 : Int) (a1 : Int) : Option (Int) := (cmp_isNaN_int.f a0).bind fun t129 => ((cmp_isNaN_int.f a1).bind fun t130 => (if t129 = true then (if t130 = true then (some 0) else (some (-1))) else (if t130 = true then (some 1) else (if a0 < a1 then (some (-1)) else (if a0 > a1 then (some 1) else (some 0))))))
end
section
def quot_Fit_1.f (k : Nat) (a0_0 : Int) (a0_1 : Int) (a0_2 : Int) (a1_0 : Int) (a1_1 : Int) (a1_2 : Int) : Option (Bool) := (cmp_Compare_int.f (mx a0_0 (wrap64 (-a0_0))) (mx a1_0 (wrap64 (-a1_0)))).bind fun t133 => ((cmp_Compare_int.f a0_0 a1_0).bind fun t134 => ((cmp_Or_int.f k (([t133, t134] : List Int))).bind fun t138 => (some (decide (t138 < 0)))))
theorem quot_Fit_1.mono : ∀ a0 a1 a2 a3 a4 a5 k, LeO (quot_Fit_1.f k a0 a1 a2 a3 a4 a5) (quot_Fit_1.f (k + 1) a0 a1 a2 a3 a4 a5) := by
  intro a0 a1 a2 a3 a4 a5 k
  unfold quot_Fit_1.f
  repeat' first
      | (with_reducible exact cmp_Or_int.mono _ _)
      | (with_reducible exact LeO.refl _)
      | (with_reducible exact LeO.none _)
      | (with_reducible refine LeO.ite ?_ ?_)
      | (with_reducible refine LeO.bind ?_ (fun _ => ?_))
      | exact cmp_Or_int.mono _ _
      | exact LeO.none _
      | refine LeO.ite ?_ ?_
      | refine LeO.bind ?_ (fun _ => ?_)
def quot_Fit_1.T1 : Bool × List (List Nat × List Nat) := (true, [([], []), ([0], [0]), ([], []), ([2], [2]), ([3], [3]), ([1, 4], [1, 4]), ([], []), ([6], [6]), ([], []), ([8], [8]), ([9], [9]), ([7, 10], [7, 10]), ([5, 11], [5, 11]), ([], []), ([13], [13]), ([], []), ([15], [15]), ([14, 16, 12], [14, 16]), ([12, 17], [12, 17]), ([18, 17], [18]), ([19], [19]), ([20, 19, 0, 1, 2, 3, 4, 5, 6, 7, 8, 9, 10, 11, 12, 13, 14, 15, 16, 17, 18, 19, 20], [20])])
def quot_Fit_1.B1 : List Nat := [0, 1, 0, 4, 12, 31, 0, 64, 0, 256, 768, 1984, 4095, 0, 8192, 0, 32768, 131071, 262143, 524287, 1048575, 2097151]
theorem quot_Fit_1.tab1 : rtab .any (opsOf Try.f109 1) = quot_Fit_1.T1 := by kernel_rfl
theorem quot_Fit_1.bits1 : waitsOk quot_Fit_1.T1.2 quot_Fit_1.B1 = true := by kernel_rfl
def quot_isCoord.f (a0 : Int) : Option (Bool) := if (-1000000000) ≤ a0 then (some (decide (a0 ≤ 1000000000))) else (some false)
def quot_floor.f (a0 : Int) (a1 : Int) : Option (Int) := if a0 < 0 then (if a1 = 0 then (none) else (some (wrap64 (-(wrap64 (Int.tdiv (wrap64 ((wrap64 ((wrap64 (-a0)) + a1)) - 1)) a1)))))) else (if a1 = 0 then (none) else (some (wrap64 (Int.tdiv a0 a1))))
end
section
/-- A step that turns, of what lay from base on, only the blocks X and the blocks of type t. -/
structure Stp (X : Nat → Prop) (t : TypeId) (base : Nat) (A B : World) : Prop where
  os : B.os = A.os
  tape : B.tape = A.tape
  output : B.output = A.output
  size : A.heap.size ≤ B.heap.size
  same : ∀ (k : Nat) (o : Obj), A.heap[k]? = some o → (k < base ∨ (¬ X k ∧ ∀ cs fr, o ≠ .cells cs t fr)) → B.heap[k]? = some o
theorem Stp.refl {X : Nat → Prop} {t : TypeId} {base : Nat} (A : World) : Stp X t base A A := ⟨rfl, rfl, rfl, Nat.le_refl _, fun _ _ h _ => h⟩
theorem Stp.trans {X : Nat → Prop} {t : TypeId} {base : Nat} {A B C : World} (h : Stp X t base A B) (k : Stp X t base B C) : Stp X t base A C :=
  ⟨k.os.trans h.os, k.tape.trans h.tape, k.output.trans h.output, Nat.le_trans h.size k.size, fun i o hi hx => k.same i o (h.same i o hi hx) hx⟩
theorem Stp.mono {X Y : Nat → Prop} {t : TypeId} {base : Nat} {A B : World} (h : Stp X t base A B) (hxy : ∀ k, X k → Y k) : Stp Y t base A B :=
  ⟨h.os, h.tape, h.output, h.size, fun k o hk ho => h.same k o hk (ho.imp id fun ho => ⟨fun hx => ho.1 (hxy k hx), ho.2⟩)⟩
theorem Stp.below {X : Nat → Prop} {t : TypeId} {base : Nat} {A B : World} (h : Stp X t base A B) (hb : base ≤ A.heap.size) : Below base A B :=
  ⟨h.os, h.tape, h.output, h.size, fun k hk => by
    have : k < A.heap.size := by omega
    rw [Array.getElem?_eq_getElem this]
    exact h.same k _ (Array.getElem?_eq_getElem this) (.inl hk)⟩
theorem Stp.of_grownBy {X : Nat → Prop} {t : TypeId} {base : Nat} {A B : World} {row : Option Nat} (h : A.grownBy B row) (hr : ∀ r, row = some r → base ≤ r ∧ (X r ∨ ∃ cs fr, A.heap[r]? = some (.cells cs t fr))) : Stp X t base A B :=
  ⟨h.os, h.tape, h.output, h.size, fun k o hk ho => (h.block k (Array.getElem?_eq_some_iff.1 hk).1 (fun e => by
    obtain ⟨h1, h2⟩ := hr k e.symm
    rcases ho with ho | ⟨ho1, ho2⟩
    · omega
    · rcases h2 with h2 | ⟨cs, fr, h2⟩
      · exact ho1 h2
      · rw [hk] at h2
        exact ho2 cs fr (Option.some.inj h2))).trans hk⟩
theorem Stp.of_below {X : Nat → Prop} {t : TypeId} {base : Nat} {A B : World} (h : Below A.heap.size A B) : Stp X t base A B :=
  ⟨h.os, h.tape, h.output, h.size, fun k o hk _ => (h.block k (Array.getElem?_eq_some_iff.1 hk).1).trans hk⟩
theorem Stp.noCells {X : Nat → Prop} {t : TypeId} {base : Nat} {A B : World} (h : Stp X t base A B) {k : Nat} {o : Obj} (hk : A.heap[k]? = some o) (ho : o.isCells = false) (hx : ¬ X k) : B.heap[k]? = some o :=
  h.same k o hk (.inr ⟨hx, fun cs fr e => by subst e; cases ho⟩)
set_option maxHeartbeats 1000000 in
/-- A range over a function whose rounds go on to the end. The value that is handed over may lead to memory: Px says of it what the iterator knows in the round's world. -/
theorem range_run {P : Program} {α : Type} {g : Operand} {ps : Array Tmp} {assign body : Code} {Q : Exit → Act → World → Prop} {a : Act} {w : World}
    {gf : Nat} {lb : Array Value} (hg : a.eval g = .func (.func gf) #[] lb) (eg : ∀ args w, (callFunc gf args).run P w = .ok (.enter gf args) w)
    {encs : α → Array Value} {Px : List α → α → World → Prop} {S : List α → Prop} {tb te : TypeId} {base bx : Nat} (hbw : base ≤ w.heap.size) (hbx : bx < w.heap.size) (hps : ∀ x, (encs x).size = ps.size)
    (hseq : ∀ (l : Nat) (J : List α → World → Prop) (W : World), w.heap.size ≤ l → l < W.heap.size → Stp (fun _ => False) tb base w W →
      (∀ pre A B, J pre A → Stp (fun _ => False) tb base A B → J pre B) →
      (∀ pre x A, J pre A → Px pre x A → YieldAt Fence.wide 0 P l (encs x) A fun e B => e = .returned (.bool true) ∧ J (pre ++ [x]) B ∧ Stp (fun k => k = bx ∨ k = l) te base A B) →
      J [] W → CallsIn Fence.wide 0 P gf (#[.func (.yield l) #[] #[]] ++ lb) W fun e B => (∃ v, e = .returned v) ∧ ∃ xs, S xs ∧ J xs B)
    (I : List α → World → Prop) (hI : ∀ pre A B, I pre A → Stp (fun _ => False) tb base A B → I pre B)
    (hIl : ∀ pre A B k, I pre A → w.heap.size ≤ k → (∃ o, A.heap[k]? = some o ∧ o.isCells = false) → A.grownBy B (some k) → I pre B) (h0 : I [] w)
    (hround : ∀ (l : Nat) (pre : List α) (x : α) (A : World), I pre A → Px pre x A → w.heap.size ≤ l →
      assign.wpIn (Fence.wide.inRound l) 0 P (Exit.then (fun a1 B => Stp (fun k => k = bx) te base A B ∧ ∀ B', B.grownBy B' (some l) → (∃ o, B.heap[l]? = some o ∧ o.isCells = false) →
        body.wpIn (Fence.wide.inRound l) 0 P (fun e _ C => e = .normal ∧ Stp (fun k => k = bx) te base B' C ∧ I (pre ++ [x]) C) a1 B') (fun _ _ _ => False))
        { tmps := (ps.zip (encs x)).foldl (fun t (p, v) => t.setIfInBounds p v) a.tmps, defers := [] } A)
    (hdone : ∀ (D : Nat) (xs : List α) (W : World), w.heap.size ≤ D → S xs → I xs W → W.heap[D]? = some (.deferred (some [])) → Q .normal { a with defers := { target := .collected D, args := #[] } :: a.defers } W) :
    (Code.rangeFunc g ps assign body).wpIn Fence.wide 0 P Q a w := by
  refine wpIn_rangeFunc ?_
  intro fn hfn
  rw [show Fence.wide.round = none from rfl]
  obtain ⟨rec, hrec⟩ : ∃ rec : LoopState → Option Code → Loop, rec = fun st pe => { state := st, pending := pe, fn, tmps := a.tmps, params := ps, assign, body, defers := w.heap.size } := ⟨_, rfl⟩
  obtain ⟨W1, hW1⟩ : ∃ W1, (w.alloc (.deferred (some []))).alloc (.loop (rec .ready none)) = W1 := ⟨_, rfl⟩
  have hb1 : Below w.heap.size w W1 := by rw [← hW1]; exact ((Below.refl _ w).alloc (Nat.le_refl _) _).alloc (by simp) _
  have hL : W1.heap[w.heap.size + 1]? = some (.loop (rec .ready none)) := by
    rw [← hW1]
    have := World.alloc_heap_new (w.alloc (.deferred (some []))) (.loop (rec .ready none))
    rwa [World.size_alloc] at this
  have hD : W1.heap[w.heap.size]? = some (.deferred (some [])) := by
    rw [← hW1]
    exact (Below.heap_alloc _ _ _ (by simp)).trans (World.alloc_heap_new w _)
  have hl1 : w.heap.size + 1 < W1.heap.size := (Array.getElem?_eq_some_iff.1 hL).1
  refine ⟨w.heap.size + 1, [{ target := .collected w.heap.size, args := #[] }], W1, { target := .fn (.func gf) lb, args := #[.func (.yield (w.heap.size + 1)) #[] #[]] }, W1, gf,
    #[.func (.yield (w.heap.size + 1)) #[] #[]] ++ lb, W1, ?_, ?_, fun _ _ => trivial, ?_, (fun h => nomatch h), ?_⟩
  · rw [← hW1, hrec]
    exact run_enterLoop_outer _ _ _ _ _
  · simp only [resolve, hg]
    simp [go_sem]
  · simp [invoke, go_sem, eg]
  · refine (hseq (w.heap.size + 1) (fun pre A => I pre A ∧ A.heap[w.heap.size + 1]? = some (.loop (rec .ready none)) ∧ A.heap[w.heap.size]? = some (.deferred (some []))) W1 (by omega) hl1 (Stp.of_below hb1)
      (fun pre A B h hs => ⟨hI _ _ _ h.1 hs, hs.noCells h.2.1 rfl (fun h => h), hs.noCells h.2.2 rfl (fun h => h)⟩) ?_ ⟨hI _ _ _ h0 (Stp.of_below hb1), hL, hD⟩).mono ?_
    · rintro pre x A ⟨hi, hl, hd⟩ hpx
      have hy := run_yield (P := P) (args := encs x) hl (by rw [hrec]; exact hps x)
      rw [hrec] at hy
      refine ⟨fn, _, assign, body, hy, roundIn_of_wpIn hfn (wpIn_mono (hround (w.heap.size + 1) pre x A hi hpx (by omega)) ?_)⟩
      rintro e a1 B hp
      cases e with
      | normal =>
        obtain ⟨hs1, hb⟩ := hp
        have hl2 := hs1.noCells hl rfl (by omega)
        have hd2 := hs1.noCells hd rfl (by omega)
        refine ⟨_, run_beginRound hl2 (by rw [hrec]), ?_⟩
        have hg2 : B.grownBy (B.putObj (w.heap.size + 1) (.loop { rec .ready none with state := .busy })) (some (w.heap.size + 1)) := grownBy_putObj' _ _ _
        have hl3 : (B.putObj (w.heap.size + 1) (.loop { rec .ready none with state := .busy })).heap[w.heap.size + 1]? = some (.loop { rec .ready none with state := .busy }) := World.putObj_heap_same (Array.getElem?_eq_some_iff.1 hl2).1
        have hd3 : (B.putObj (w.heap.size + 1) (.loop { rec .ready none with state := .busy })).heap[w.heap.size]? = some (.deferred (some [])) := (World.putObj_heap_other (by omega)).trans hd2
        refine wpIn_mono (hb _ hg2 ⟨_, hl2, rfl⟩) ?_
        rintro e a2 C ⟨rfl, hs2, hi2⟩
        have hl4 := hs2.noCells hl3 rfl (by omega)
        have hd4 := hs2.noCells hd3 rfl (by omega)
        have hr := run_endRound (P := P) none hl4
        refine ⟨_, _, hr, rfl, ⟨hIl _ _ _ (w.heap.size + 1) hi2 (by omega) ⟨_, hl4, rfl⟩ (grownBy_putObj' _ _ _), ?_, (World.putObj_heap_other (by omega)).trans hd4⟩, ?_⟩
        · rw [World.putObj_heap_same (Array.getElem?_eq_some_iff.1 hl4).1, hrec]
          rfl
        · have up : ∀ k, k = bx → k = bx ∨ k = w.heap.size + 1 := fun _ h => .inl h
          refine ((hs1.mono up).trans (Stp.of_grownBy hg2 ?_)).trans ((hs2.mono up).trans (Stp.of_grownBy (grownBy_putObj' _ _ _) ?_))
          · intro r e
            cases e
            exact ⟨by omega, .inl (.inr rfl)⟩
          · intro r e
            cases e
            exact ⟨by omega, .inl (.inr rfl)⟩
      | _ => exact hp.elim
    · rintro e W2 ⟨⟨v, rfl⟩, xs, hS, hi, hl, hd⟩
      have hr := run_endLoop (P := P) hl (by rw [hrec]; simp)
      rw [hrec] at hr
      exact ⟨none, _, hr, hdone _ xs _ (Nat.le_refl _) hS (hIl _ _ _ (w.heap.size + 1) hi (by omega) ⟨_, hl, rfl⟩ (grownBy_putObj' _ _ _)) ((World.putObj_heap_other (by omega)).trans hd)⟩
end
section
/-- Eight numbers in a row: an array's cells. -/
def Arr8 (g : Nat) (v : List Int) (W : World) : Prop := v.length = 8 ∧ ∀ i : Nat, i < 8 → W.cell? ⟨g, i, none⟩ = some (.int .i64 (v.getD i 0))
theorem Arr8.below {g : Nat} {v : List Int} {W W' : World} (h : Arr8 g v W) (hb : Below W.heap.size W W') : Arr8 g v W' :=
  ⟨h.1, fun i hi => (hb.cell (World.block_lt_of_cell? W _ (h.2 i hi))).trans (h.2 i hi)⟩
def coordB (x : Int) : Bool := decide (-1000000000 ≤ x) && decide (x ≤ 1000000000)
def inI (n lo hi : Int) : Bool := decide (lo ≤ n) && decide (n ≤ hi)
/-- A function of the program that has a body: a call of its value enters it. -/
def EntersK (k : FuncId) : Prop := ∀ (args : Array Value) (W : World), (callFunc k args).run Try.prog W = .ok (.enter k args) W
theorem entersK_of {k : FuncId} {fn : Func} (h : Try.prog.funcs[k]? = some fn) (h1 : (fn.name == "runtime.NumGoroutine") = false) (h2 : fn.body.isSome = true) : EntersK k := by
  intro args W
  have e1 : ¬ fn.name = "runtime.NumGoroutine" := by simpa using h1
  have e2 : ¬ fn.body = none := by intro h3; rw [h3] at h2; cases h2
  simp [callFunc, h, e1, e2, Sem.run]
end
section
def value_shapeOf.j0 : Nat → Int → Bool → Option (Int × Int × Int × Bool)
  | 0, _, _ => none
  | k + 1, x4, x8 => if x8 = true then (some ((-10000), 10000, 0, true)) else (if x4 = 4 then (some (1, 8, 0, true)) else (if x4 = 7 then (some ((-1000), 1000, 1, true)) else (if x4 = 8 then (some (1, 1000, 1, true)) else (if x4 = 5 then (some (0, 0, 2, true)) else (if x4 = 6 then (some (0, 0, 2, true)) else (if x4 = 9 then (some (0, 0, 2, true)) else (if x4 = 10 then (some (0, 0, 2, true)) else (some (0, 0, 0, false)))))))))
def value_shapeOf.f (k : Nat) (a0 : Int) : Option (Int × Int × Int × Bool) := if a0 = 1 then (some ((-1000000), 1000000, 0, true)) else (if a0 = 2 then (value_shapeOf.j0 k a0 (a0 == 2)) else (value_shapeOf.j0 k a0 (a0 == 3)))
theorem value_shapeOf.mono_l : ∀ k, (∀ y0 y1, LeO (value_shapeOf.j0 k y0 y1) (value_shapeOf.j0 (k + 1) y0 y1))
  | 0 => fun _ _ r h => by simp [value_shapeOf.j0] at h
  | k + 1 => by
    have ih0 := value_shapeOf.mono_l k
    · intro y0 y1
      unfold value_shapeOf.j0
      repeat' first
      | (with_reducible exact ih0 _ _)
      | (with_reducible exact LeO.refl _)
      | (with_reducible exact LeO.none _)
      | (with_reducible refine LeO.ite ?_ ?_)
      | (with_reducible refine LeO.bind ?_ (fun _ => ?_))
      | exact ih0 _ _
      | exact LeO.none _
      | refine LeO.ite ?_ ?_
      | refine LeO.bind ?_ (fun _ => ?_)
theorem value_shapeOf.mono : ∀ a0 k, LeO (value_shapeOf.f k a0) (value_shapeOf.f (k + 1) a0) := by
  intro a0 k
  have ih0 := value_shapeOf.mono_l k
  unfold value_shapeOf.f
  repeat' first
      | (with_reducible exact ih0 _ _)
      | (with_reducible exact LeO.refl _)
      | (with_reducible exact LeO.none _)
      | (with_reducible refine LeO.ite ?_ ?_)
      | (with_reducible refine LeO.bind ?_ (fun _ => ?_))
      | exact ih0 _ _
      | exact LeO.none _
      | refine LeO.ite ?_ ?_
      | refine LeO.bind ?_ (fun _ => ?_)
end
section
open Go.Proofs.YtdigjjncoeaiiaaGlib
def shapeP (op : Int) : Option (Int × Int × Int) :=
  if op = 1 then some (-1000000, 1000000, 0) else if op = 2 ∨ op = 3 then some (-10000, 10000, 0) else if op = 4 then some (1, 8, 0) else if op = 7 then some (-1000, 1000, 1) else if op = 8 then some (1, 1000, 1) else if op = 5 ∨ op = 6 ∨ op = 9 ∨ op = 10 then some (0, 0, 2) else none
def kidsF (g : S24 → Int → Bool × Int) : List S24 → Int → Bool × Int
  | [], l => (true, l)
  | k :: ks, l => if (g k l).1 = true then kidsF g ks (g k l).2 else (false, (g k l).2)
/-- What a node says by itself, at so many levels, L nodes being left. -/
def nodeOk (e : S24) (n : Nat) (L : Int) : Bool :=
  match shapeP e.f0 with
  | none => false
  | some (lo, hi, kids) => !(n == 0) && decide (0 ≤ L) && decide ((e.f2.length : Int) = kids) && decide (lo ≤ e.f1) && decide (e.f1 ≤ hi)
def formedP : Nat → S24 → Int → Bool × Int
  | 0, _, L => (false, L - 1)
  | n + 1, e, L => if nodeOk e (n + 1) (L - 1) = true then kidsF (formedP n) e.f2 (L - 1) else (false, L - 1)
def cellL (gl : Nat) (L : Int) (W : World) : Prop := W.heap[gl]? = some (.cells #[.int .i64 L] 3 (0, 0))
theorem shape_of (op : Int) : value_shapeOf.f 2 op = some (match shapeP op with | none => (0, 0, 0, false) | some (lo, hi, kids) => (lo, hi, kids, true)) := by
  by_cases h1 : op = 1
  · subst h1; rfl
  by_cases h2 : op = 2
  · subst h2; rfl
  by_cases h3 : op = 3
  · subst h3; rfl
  by_cases h4 : op = 4
  · subst h4; rfl
  by_cases h7 : op = 7
  · subst h7; rfl
  by_cases h8 : op = 8
  · subst h8; rfl
  by_cases h5 : op = 5
  · subst h5; rfl
  by_cases h6 : op = 6
  · subst h6; rfl
  by_cases h9 : op = 9
  · subst h9; rfl
  by_cases h10 : op = 10
  · subst h10; rfl
  have hb : (op == 3) = false := beq_eq_false_iff_ne.mpr h3
  simp [value_shapeOf.f, value_shapeOf.j0, shapeP, h1, h2, h3, h4, h5, h6, h7, h8, h9, h10, hb]
theorem cellL_alloc {gl : Nat} {L : Int} {W : World} (h : cellL gl L W) (o : Obj) : cellL gl L (W.alloc o) := blk_alloc h o
theorem meas_next {m n : Nat} (h : m < n) (hn : n ≤ 9223372036854775807) : n - (intOf (.int .i64 (wrap64 ((m : Int) + 1)))).toNat < n - (intOf (.int .i64 (m : Int))).toNat := by
  rw [wrap_next (Nat.lt_of_lt_of_le h hn)]
  simp [intOf]
  omega
theorem le_step {a b c : Int} (h : a ≤ b - 1) (h2 : b ≤ c) : a ≤ c := by omega
theorem kidsF_bounds (g : S24 → Int → Bool × Int) : ∀ (ks : List S24) (L : Int) (b : Bool) (L' : Int), (∀ k ∈ ks, ∀ L b L', 0 ≤ L → g k L = (b, L') → L' ≤ L - 1 ∧ (b = true → 0 ≤ L')) → 0 ≤ L → kidsF g ks L = (b, L') → L' ≤ L ∧ (b = true → 0 ≤ L')
  | [], L, b, L', _, h0, h => by
    obtain ⟨rfl, rfl⟩ := Prod.mk.inj (show (true, L) = (b, L') from h)
    exact ⟨by omega, fun _ => h0⟩
  | k :: ks, L, b, L', hg, h0, h => by
    obtain ⟨fb, fL, hf⟩ : ∃ fb fL, g k L = (fb, fL) := ⟨_, _, rfl⟩
    have h1 := hg k (by simp) L fb fL h0 hf
    simp only [kidsF, hf] at h
    cases fb with
    | false =>
      simp at h
      obtain ⟨rfl, rfl⟩ := h
      exact ⟨by omega, fun h => by cases h⟩
    | true =>
      simp at h
      have h2 := kidsF_bounds g ks fL b L' (fun k hk => hg k (List.mem_cons_of_mem _ hk)) (h1.2 rfl) h
      exact ⟨by omega, h2.2⟩
theorem formed_bounds : ∀ (n : Nat) (e : S24) (L : Int) (b : Bool) (L' : Int), 0 ≤ L → formedP n e L = (b, L') → L' ≤ L - 1 ∧ (b = true → 0 ≤ L')
  | 0, e, L, b, L', h0, h => by
    obtain ⟨rfl, rfl⟩ := Prod.mk.inj (show (false, L - 1) = (b, L') from h)
    exact ⟨by omega, fun h => by cases h⟩
  | n + 1, e, L, b, L', h0, h => by
    unfold formedP at h
    by_cases hq : nodeOk e (n + 1) (L - 1) = true
    · rw [if_pos hq] at h
      have hl : 0 ≤ L - 1 := by
        unfold nodeOk at hq
        split at hq <;> simp at hq
        omega
      exact kidsF_bounds _ _ _ _ _ (fun k _ L b L' h0 h => formed_bounds n k L b L' h0 h) hl h
    · rw [if_neg hq] at h
      obtain ⟨rfl, rfl⟩ := Prod.mk.inj h
      exact ⟨by omega, fun h => by cases h⟩
theorem below_grown {w0 w w' : World} {gl : Nat} (hb : Below w0.heap.size w0 w) (hgl : w0.heap.size ≤ gl) (h : w.grownBy w' (some gl)) : Below w0.heap.size w0 w' :=
  hb.trans ⟨h.os, h.tape, h.output, h.size, fun k hk => h.block k (Nat.lt_of_lt_of_le hk hb.size) (fun e => by cases e; omega)⟩
theorem grown_below {w w' : World} {gl : Nat} (h : Below w.heap.size w w') : w.grownBy w' (some gl) := ⟨h.os, h.tape, h.output, h.size, fun k hk _ => h.block k hk⟩
theorem grown_blk {w w' : World} {gl g : Nat} {o : Obj} (h : w.grownBy w' (some gl)) (hg : w.heap[g]? = some o) (hne : g ≠ gl) : w'.heap[g]? = some o :=
  (h.block g (Array.getElem?_eq_some_iff.1 hg).1 (fun e => hne (by cases e; rfl))).trans hg
theorem grown_trans {w w1 w2 : World} {gl : Nat} (h : w.grownBy w1 (some gl)) (k : w1.grownBy w2 (some gl)) : w.grownBy w2 (some gl) :=
  ⟨k.os.trans h.os, k.tape.trans h.tape, k.output.trans h.output, Nat.le_trans h.size k.size, fun i hi hn => (k.block i (Nat.lt_of_lt_of_le hi h.size) hn).trans (h.block i hi hn)⟩
theorem within_of (n lo hi : Int) : value_within.f n lo hi = some (inI n lo hi) := by
  unfold value_within.f inI
  by_cases h : lo ≤ n
  · rw [if_pos h, decide_eq_true h, Bool.true_and]
  · rw [if_neg h, decide_eq_false h, Bool.false_and]
theorem node_of (e : S24) (n : Nat) (L lo hi kids : Int) (ok : Bool) (hs : (match shapeP e.f0 with | none => (0, 0, 0, false) | some (lo, hi, kids) => (lo, hi, kids, true) : Int × Int × Int × Bool) = (lo, hi, kids, ok)) :
    nodeOk e n L = (ok && !(n == 0) && decide (0 ≤ L) && !((e.f2.length : Int) != kids) && inI e.f1 lo hi) := by
  unfold nodeOk inI
  cases h : shapeP e.f0 with
  | none =>
    rw [h] at hs
    obtain ⟨rfl, rfl, rfl, rfl⟩ : _ ∧ _ ∧ _ ∧ _ := by simpa using hs
    simp
  | some p =>
    obtain ⟨lo', hi', kids'⟩ := p
    rw [h] at hs
    obtain ⟨rfl, rfl, rfl, rfl⟩ : _ ∧ _ ∧ _ ∧ _ := by simpa using hs
    simp [bne, Bool.and_assoc, show ∀ a b : Int, (a == b) = decide (a = b) from fun _ _ => rfl]
theorem formed_w3' {w2 w3 : World} {o : Obj} {gl : Nat} {v : Value} (h : w3 = (w2.alloc o).setCell ⟨gl, 0, none⟩ v) : (w2.alloc o).grownBy w3 (some gl) := by
  subst h
  exact ⟨rfl, rfl, rfl, by rw [World.size_setCell]; exact Nat.le_refl _, fun k _ hk => Below.heap_setCell _ _ _ k (fun e => hk (by rw [e]))⟩
theorem formed_w3 {w w2 w3 : World} {o : Obj} {gl : Nat} {v : Value} {L : Int} (hg : cellL gl L w) (hb : Below w.heap.size w w2) (h : w3 = (w2.alloc o).setCell ⟨gl, 0, none⟩ v) : w.grownBy w3 (some gl) :=
  grown_trans (grown_below (below_alloc hb o)) (formed_w3' h)
theorem formed_c3 {w w2 w3 : World} {o : Obj} {gl : Nat} {L L' : Int} (hg : cellL gl L w) (hb : Below w.heap.size w w2) (hw : wrap64 (L - 1) = L') (h : w3 = (w2.alloc o).setCell ⟨gl, 0, none⟩ (.int .i64 (wrap64 (L - 1)))) : cellL gl L' w3 := by
  subst h
  rw [hw]
  exact one_setCell (blk_alloc (blk_below hg hb) o)
end
section
open Go.MapKept
/-- The table of what operators do. -/
def opsEs : Array MapEntry := #[⟨.int .i64 1, .func (.func 48) #[] #[], 0⟩, ⟨.int .i64 2, .func (.func 49) #[] #[], 1⟩, ⟨.int .i64 3, .func (.func 50) #[] #[], 2⟩, ⟨.int .i64 4, .func (.func 51) #[] #[], 3⟩, ⟨.int .i64 5, .func (.func 52) #[] #[], 4⟩, ⟨.int .i64 6, .func (.func 53) #[] #[], 5⟩, ⟨.int .i64 7, .func (.func 54) #[] #[], 6⟩, ⟨.int .i64 8, .func (.func 55) #[] #[], 7⟩, ⟨.int .i64 9, .func (.func 56) #[] #[], 8⟩, ⟨.int .i64 10, .func (.func 57) #[] #[], 9⟩]
def OpsAt (b : Nat) (W : World) : Prop := W.heap[b]? = some (.map opsEs 10)
theorem opsAt_below {b : Nat} {W W' : World} (h : OpsAt b W) (hb : Below W.heap.size W W') : OpsAt b W' := blk_below h hb
theorem setMap_alloc (w : World) (o o' : Obj) : ({ (w.alloc o) with heap := (w.alloc o).heap.setIfInBounds w.heap.size o' } : World) = w.alloc o' := by
  have h : (w.heap.push o).setIfInBounds w.heap.size o' = w.heap.push o' := by
    apply Array.ext
    · simp
    · intro i h1 h2
      rw [Array.getElem_setIfInBounds (by simp at h2 ⊢; omega)]
      by_cases h : i = w.heap.size
      · subst h; simp
      · have hl : i < w.heap.size := by simp at h1; omega
        rw [if_neg (fun e => h e.symm), Array.getElem_push_lt hl, Array.getElem_push_lt hl]
  unfold World.alloc
  simp only [h]
theorem map_put {w : World} {es : Array MapEntry} {clock : Nat} (k : Int) (v : Value) (hf : Instr.findNow (.int .i64) (.int .i64 k) es.toList 0 = some none) :
    (Instr.mapUpdate 62 (.map (some w.heap.size)) (.int .i64 k) v).run Try.prog (w.alloc (.map es clock)) = .ok () (w.alloc (.map (es.push { key := .int .i64 k, val := v, born := clock }) (clock + 1))) := by
  have hb := blk_new w (.map es clock)
  have hk : IsKey (.int .i64) (.int .i64 k) := by simp [IsKey]
  simp [Instr.mapUpdate, run_underlying Try.underlying62, MapKept.run_getObj_map hb, run_checkKey Try.underlying3 hk, run_findKey Try.underlying3 hf, MapKept.run_setObj_map _ hb, Result.andThen]
  exact setMap_alloc w _ _
end
section
open Go.MapKept Go.Proofs.YtdigjjncoeaiiaaGlib
/-- What an operator does. -/
def opP (width scale : Int) (v : List Int) (op n : Int) (l : List Int) : Int :=
  if op = 1 then n else if op = 2 then n * width / 100 else if op = 3 then n * scale / 100 else if op = 4 then v.getD (n - 1).toNat 0 else if op = 7 then n * rd l 0 else if op = 8 then rd l 0 / n
  else if op = 5 then rd l 0 + rd l 1 else if op = 6 then rd l 0 - rd l 1 else if op = 9 then mn (rd l 0) (rd l 1) else mx (rd l 0) (rd l 1)
def evL (g : S24 → Option Int) : List S24 → Option (List Int)
  | [] => some []
  | k :: ks => (g k).bind fun x => (evL g ks).bind fun l => some (x :: l)
/-- The value of an expression of at most so many levels. -/
def evF (width scale : Int) (v : List Int) : Nat → S24 → Option Int
  | 0, _ => none
  | n + 1, e => (evL (evF width scale v n) e.f2).bind fun l => if coordB (opP width scale v e.f0 e.f1 l) = true then some (opP width scale v e.f0 e.f1 l) else none
/-- A node that is as it should be. -/
def wfN (e : S24) : Prop := ∃ lo hi kids, shapeP e.f0 = some (lo, hi, kids) ∧ (e.f2.length : Int) = kids ∧ lo ≤ e.f1 ∧ e.f1 ≤ hi
def wfE : Nat → S24 → Prop
  | 0, _ => False
  | n + 1, e => wfN e ∧ ∀ k ∈ e.f2, wfE n k
theorem floor_of (a d : Int) (hd : 0 < d) : (if Int.tmod a d < 0 then Int.tdiv a d - 1 else Int.tdiv a d) = a / d := by
  rw [Int.tmod_eq_emod, Int.tdiv_eq_ediv]
  have h0 := Int.emod_nonneg a (show d ≠ 0 by omega)
  have h1 := Int.emod_lt_of_pos a hd
  by_cases h : 0 ≤ a ∨ d ∣ a
  · rw [if_pos h, if_pos h, if_neg (by omega)]; omega
  · rw [if_neg h, if_neg h, if_pos (by omega), Int.sign_eq_one_of_pos hd]; omega
theorem over_of (a d : Int) (hd : 0 < d) (h0 : -4000000000000000000 ≤ a) (h1 : a ≤ 4000000000000000000) : value_over.f a d = some (a / d) := by
  have hf := floor_of a d hd
  have hb0 : -4000000000000000000 ≤ Int.tdiv a d := by
    have := Int.tdiv_eq_ediv (a := a) (b := d)
    have h2 : a / d * d ≤ a := Int.ediv_mul_le a (by omega)
    have h3 := Int.lt_ediv_add_one_mul_self a hd
    by_cases ha : 0 ≤ a
    · have := Int.tdiv_nonneg ha (by omega : 0 ≤ d); omega
    · have : -a ≥ 0 := by omega
      have h4 : Int.tdiv (-a) d ≤ -a := Int.tdiv_le_self d (by omega)
      rw [Int.neg_tdiv] at h4
      omega
  have hb1 : Int.tdiv a d ≤ 4000000000000000000 := by
    by_cases ha : 0 ≤ a
    · have h4 : Int.tdiv a d ≤ a := Int.tdiv_le_self d ha; omega
    · have h5 : 0 ≤ Int.tdiv (-a) d := Int.tdiv_nonneg (by omega) (by omega)
      rw [Int.neg_tdiv] at h5
      omega
  have hw := wrap64_id (x := Int.tdiv a d) (by omega) (by omega)
  have hw1 := wrap64_id (x := Int.tdiv a d - 1) (by omega) (by omega)
  unfold value_over.f
  rw [if_neg (show ¬ d = 0 by omega), hw, hw1, ← hf]
  split <;> rfl
theorem wrap2 : wrap64 2 = 2 := wrap64_id (by omega) (by omega)
theorem min2_of (x y : Int) : slices_Min_int_int.f 5 [x, y] = some (mn x y) := by
  simp [slices_Min_int_int.f, slices_Min_int_int.l0, rd, wrap2]
theorem max2_of (x y : Int) : slices_Max_int_int.f 5 [x, y] = some (mx x y) := by
  simp [slices_Max_int_int.f, slices_Max_int_int.l0, rd, wrap2]
/-- A reader's width, scale and variables, as a value. -/
def aboutV (width scale x0 x1 x2 x3 x4 x5 x6 x7 : Int) : Value := .agg #[.int .i64 width, .int .i64 scale, .int .i64 x0, .int .i64 x1, .int .i64 x2, .int .i64 x3, .int .i64 x4, .int .i64 x5, .int .i64 x6, .int .i64 x7]
theorem len1 {l : List Int} (h : l.length = 1) : ∃ x, l = [x] := List.length_eq_one_iff.1 h
theorem len2 {l : List Int} (h : l.length = 2) : ∃ x y, l = [x, y] := by
  match l, h with
  | [x, y], _ => exact ⟨x, y, rfl⟩
theorem coordB_of {x : Int} (h : coordB x = true) : -1000000000 ≤ x ∧ x ≤ 1000000000 := by
  unfold coordB at h
  simpa using h
theorem mul_bound {a b m n : Int} (h0 : -m ≤ a) (h1 : a ≤ m) (h2 : -n ≤ b) (h3 : b ≤ n) : -(m * n) ≤ a * b ∧ a * b ≤ m * n := by
  have hm : 0 ≤ m := by omega
  have hn : 0 ≤ n := by omega
  have e1 : 0 ≤ (m - a) * (n + b) := Int.mul_nonneg (by omega) (by omega)
  have e2 : 0 ≤ (m + a) * (n - b) := Int.mul_nonneg (by omega) (by omega)
  have e3 : 0 ≤ (m - a) * (n - b) := Int.mul_nonneg (by omega) (by omega)
  have e4 : 0 ≤ (m + a) * (n + b) := Int.mul_nonneg (by omega) (by omega)
  simp only [Int.sub_mul, Int.add_mul, Int.mul_add, Int.mul_sub] at e1 e2 e3 e4
  omega
def missingE : PanicEntry := { v := .iface 99 (.agg #[]), recovered := false }
def endV : Option Int → Ending
  | some x => .returned (.int .i64 x)
  | none => .panicked [missingE]
theorem ops_look {b : Nat} {W : World} {op : Int} {i : Nat} {v : Value} (h : OpsAt b W) (hf : Instr.findNow (.int .i64) (.int .i64 op) opsEs.toList 0 = some (some (i, v))) :
    (Instr.lookup 62 (.map (some b)) (.int .i64 op) false).run Try.prog W = .ok v W := by
  have hk : IsKey (.int .i64) (.int .i64 op) := by simp [IsKey]
  simp [Instr.lookup, run_underlying Try.underlying62, MapKept.run_getObj_map h, run_checkKey Try.underlying3 hk, run_findKey Try.underlying3 hf, Result.andThen]
theorem shape_kids {op lo hi kids : Int} (h : shapeP op = some (lo, hi, kids)) : kids ≤ 2 := by
  unfold shapeP at h
  repeat' split at h
  all_goals first | (cases h; omega) | cases h
theorem evF_coord {width scale : Int} {v : List Int} : ∀ {n : Nat} {e : S24} {x : Int}, evF width scale v n e = some x → coordB x = true
  | 0, e, x, h => by cases h
  | n + 1, e, x, h => by
    unfold evF at h
    obtain ⟨l, _, h⟩ := Option.bind_eq_some_iff.1 h
    split at h
    · rename_i hq; cases h; exact hq
    · cases h
theorem evL_step {g : S24 → Option Int} {all rest : List S24} {z : S24} {xs : List Int} {x : Int} (h : evL g all = (evL g (z :: rest)).map (xs ++ ·)) (hz : g z = some x) : evL g all = (evL g rest).map ((xs ++ [x]) ++ ·) := by
  rw [h]
  show (((g z).bind fun x => (evL g rest).bind fun l => some (x :: l))).map (xs ++ ·) = _
  rw [hz, Option.bind_some]
  cases evL g rest <;> simp
theorem evL_none {g : S24 → Option Int} {all rest : List S24} {z : S24} {xs : List Int} (h : evL g all = (evL g (z :: rest)).map (xs ++ ·)) (hz : g z = none) : evL g all = none := by
  rw [h]
  show (((g z).bind fun x => (evL g rest).bind fun l => some (x :: l))).map (xs ++ ·) = _
  rw [hz]
  rfl
theorem evL_done {g : S24 → Option Int} {all : List S24} {xs : List Int} (h : evL g all = (evL g []).map (xs ++ ·)) : evL g all = some xs := by
  rw [h]
  simp [evL]
theorem all_snoc {xs : List Int} {x : Int} {p : Int → Bool} (h : ∀ y ∈ xs, p y = true) (hx : p x = true) : ∀ y ∈ xs ++ [x], p y = true := by
  intro y hy
  rcases List.mem_append.1 hy with h1 | h1
  · exact h y h1
  · rw [List.mem_singleton.1 h1]; exact hx
theorem meas_next2 {m n : Nat} (h : m < n) : n - (intOf (.int .i64 ((m : Int) + 1))).toNat < n - (intOf (.int .i64 (m : Int))).toNat := by
  simp [intOf]
  omega
theorem append_room {a m k : Nat} (h : a = m) (h1 : m < k) (h2 : k ≤ 2) : (a + 1) * 8 ≤ 140737488355328 := by omega
theorem evF_none {width scale : Int} {v : List Int} {n : Nat} {e : S24} (h : evL (evF width scale v n) e.f2 = none) : evF width scale v (n + 1) e = none := by
  show (evL (evF width scale v n) e.f2).bind _ = none
  rw [h]; rfl
theorem evF_some {width scale : Int} {v : List Int} {n : Nat} {e : S24} {l : List Int} (h : evL (evF width scale v n) e.f2 = some l) : evF width scale v (n + 1) e = if coordB (opP width scale v e.f0 e.f1 l) = true then some (opP width scale v e.f0 e.f1 l) else none := by
  show (evL (evF width scale v n) e.f2).bind _ = _
  rw [h]; rfl
end
section
open Go.Proofs.YtdigjjncoeaiiaaGlib
def encQ (x : S55) : Array Value := #[.agg #[.int .i64 x.f0, .int .i64 x.f1, .int .i64 x.f2]]
/-- So many candidates from a on. -/
def candR (d : Int) : Nat → Int → List S55
  | 0, _ => []
  | k + 1, a => (if coordB a = true then [(⟨a, 0, d⟩ : S55)] else []) ++ candR d k (a + 1)
def riseP (l : List Int) (d : Int) : Int := d * (rd l ((l.length : Int) - 1) - rd l 0)
def loA (l : List Int) (d : Int) : Int := -((d - 1 - riseP l d) / ((l.length : Int) - 1))
def hiA (l : List Int) (d : Int) : Int := (riseP l d + d - 1) / ((l.length : Int) - 1)
/-- The candidates with some D. -/
def candL (l : List Int) (d : Int) : List S55 := if l.length = 1 then [⟨0, 0, d⟩] else candR d (hiA l d - loA l d + 1).toNat (loA l d)
theorem isCoord_of (x : Int) : quot_isCoord.f x = some (coordB x) := by
  unfold quot_isCoord.f coordB
  by_cases h : -1000000000 ≤ x
  · rw [if_pos h, decide_eq_true h, Bool.true_and]
  · rw [if_neg h, decide_eq_false h, Bool.false_and]
theorem qfloor_of (a d : Int) (hd : 0 < d) (hd1 : d ≤ 1000000000) (h0 : -1000000000000000 ≤ a) (h1 : a ≤ 1000000000000000) : quot_floor.f a d = some (a / d) := by
  unfold quot_floor.f
  by_cases h : a < 0
  · rw [if_pos h, if_neg (show ¬ d = 0 by omega), wrap64_id (x := -a) (by omega) (by omega), wrap64_id (x := -a + d) (by omega) (by omega), wrap64_id (x := -a + d - 1) (by omega) (by omega)]
    have e : Int.tdiv (-a + d - 1) d = (-a + d - 1) / d := Int.tdiv_eq_ediv_of_nonneg (by omega)
    have hq : -(a / d) = (-a + d - 1) / d := by
      have h2 := Int.mul_ediv_add_emod a d
      have h3 := Int.emod_nonneg a (show d ≠ 0 by omega)
      have h4 := Int.emod_lt_of_pos a hd
      have h5 : -a + d - 1 = (d - 1 - a % d) + d * (-(a / d)) := by
        rw [Int.mul_neg]
        omega
      rw [h5, Int.add_mul_ediv_left _ _ (by omega), Int.ediv_eq_zero_of_lt (a := d - 1 - a % d) (b := d) (by omega) (by omega)]
      omega
    have h6 : 0 ≤ (-a + d - 1) / d := Int.ediv_nonneg (by omega) (by omega)
    have h7 : (-a + d - 1) / d ≤ -a + d - 1 := Int.ediv_le_self d (by omega)
    rw [e, wrap64_id (x := (-a + d - 1) / d) (by omega) (by omega), wrap64_id (by omega) (by omega), ← hq]
    congr 1
    omega
  · rw [if_neg h, if_neg (show ¬ d = 0 by omega)]
    have e : Int.tdiv a d = a / d := Int.tdiv_eq_ediv_of_nonneg (by omega)
    have h2 : 0 ≤ a / d := Int.ediv_nonneg (by omega) (by omega)
    have h3 : a / d ≤ a := Int.ediv_le_self d (by omega)
    rw [e, wrap64_id (by omega) (by omega)]
structure CapsQ (g1 g2 : Nat) (v1 : Value) (d : Int) (W : World) : Prop where
  b1 : W.heap[g1]? = some (.cells #[v1] 33 (0, 0))
  b2 : W.heap[g2]? = some (.cells #[.int .i64 d] 3 (0, 0))
theorem CapsQ.stp {g1 g2 : Nat} {v1 : Value} {d : Int} {X : Nat → Prop} {t : TypeId} {base : Nat} {A B : World} (h : CapsQ g1 g2 v1 d A) (hs : Stp X t base A B) (hx1 : ¬ X g1) (hx2 : ¬ X g2) (ht1 : t ≠ 33) (ht2 : t ≠ 3) : CapsQ g1 g2 v1 d B :=
  ⟨hs.same _ _ h.b1 (.inr ⟨hx1, fun cs fr e => by injection e with _ e _; exact ht1 e.symm⟩), hs.same _ _ h.b2 (.inr ⟨hx2, fun cs fr e => by injection e with _ e _; exact ht2 e.symm⟩)⟩
/-- What the numbers of a row of values are. -/
def ValsOk (l : List Int) : Prop := ∀ x ∈ l, coordB x = true
theorem vals_at {l : List Int} (h : ValsOk l) {i : Int} (h0 : 0 ≤ i) (h1 : i < l.length) : -1000000000 ≤ rd l i ∧ rd l i ≤ 1000000000 := by
  refine coordB_of (h _ ?_)
  unfold rd
  rw [List.getD_eq_getElem?_getD, List.getElem?_eq_getElem (show i.toNat < l.length by omega)]
  exact List.getElem_mem _
theorem rise_bound {l : List Int} (h : ValsOk l) (hl : 1 ≤ l.length) {d : Int} (hd0 : 1 ≤ d) (hd1 : d ≤ 16) : -32000000000 ≤ riseP l d ∧ riseP l d ≤ 32000000000 := by
  have h1 := vals_at h (i := (l.length : Int) - 1) (by omega) (by omega)
  have h2 := vals_at h (i := 0) (by omega) (by omega)
  have := mul_bound (a := d) (b := rd l ((l.length : Int) - 1) - rd l 0) (m := 16) (n := 2000000000) (by omega) (by omega) (by omega) (by omega)
  unfold riseP
  omega
theorem div_bound {a n m : Int} (hn : 1 ≤ n) (h0 : -m ≤ a) (h1 : a ≤ m) (hm : 0 ≤ m) : -m ≤ a / n ∧ a / n ≤ m := by
  constructor
  · refine Int.le_ediv_of_mul_le (by omega) ?_
    have : -m * n ≤ -m * 1 := Int.mul_le_mul_of_nonpos_left (by omega) (by omega)
    omega
  · by_cases h : 0 ≤ a
    · have := Int.ediv_le_self n h
      omega
    · have : a / n < 0 := Int.ediv_neg_of_neg_of_pos (by omega) (by omega)
      omega
theorem wrap_cand {a N : Int} (ha : -33000000000 ≤ a ∧ a ≤ 33000000001) (hN : 1 ≤ N ∧ N ≤ 3999) : wrap64 (a * N) = a * N := by
  have h := mul_bound (a := a) (b := N) (m := 33000000001) (n := 3999) (by omega) (by omega) (by omega) (by omega)
  exact wrap64_id (by omega) (by omega)
theorem meas_int {H a : Int} (h : wrap64 (a + 1) = a + 1) (hm : (H + 1 - (a + 1)).toNat < (H + 1 - a).toNat) : (H + 1 - Go.RowKit.intOf (.int .i64 (wrap64 (a + 1)))).toNat < (H + 1 - Go.RowKit.intOf (.int .i64 a)).toNat := by
  rw [h]
  exact hm
attribute [local go_sem] Oper.semAt_some
end
section
open Go.Proofs.YtdigjjncoeaiiaaGlib
/-- Where the first element lies that is as asked. -/
def idxP {α : Type} (p : α → Bool) : List α → Nat → Int
  | [], _ => -1
  | x :: l, n => if p x = true then (n : Int) else idxP p l (n + 1)
theorem idxP_any {α : Type} (p : α → Bool) : ∀ (l : List α) (n : Nat), (idxP p l n ≥ 0 ↔ l.any p = true)
  | [], n => by simp [idxP]
  | x :: l, n => by
    rw [List.any_cons, Bool.or_eq_true]
    unfold idxP
    split
    case isTrue h => exact ⟨fun _ => .inl h, fun _ => by omega⟩
    case isFalse h =>
      rw [idxP_any p l (n + 1)]
      exact ⟨.inr, fun h1 => h1.resolve_left h⟩
end
section
def quot_fitting.l0 : Nat → Int → Int → List Int → Int → Int → Int → Int → Int → Option (Int × Int × Int × Bool)
  | 0, _, _, _, _, _, _, _, _ => none
  | k + 1, x6, x7, x10, x11, x12, x152000, x152001, x152002 => if x12 < x11 then (if 0 ≤ x12 then (if x12 < (x10.length : Int) then (if (mx x6 (wrap64 ((wrap64 (x152002 * (rd x10 x12))) - (wrap64 (x152000 * x12))))) > (mn x7 (wrap64 ((wrap64 ((wrap64 ((wrap64 (x152002 * (rd x10 x12))) - (wrap64 (x152000 * x12)))) + x152002)) - 1))) then (some (0, 0, 0, false)) else (quot_fitting.l0 k (mx x6 (wrap64 ((wrap64 (x152002 * (rd x10 x12))) - (wrap64 (x152000 * x12))))) (mn x7 (wrap64 ((wrap64 ((wrap64 ((wrap64 (x152002 * (rd x10 x12))) - (wrap64 (x152000 * x12)))) + x152002)) - 1))) x10 x11 (wrap64 (x12 + 1)) x152000 x152001 x152002)) else (none)) else (none)) else (some (x152000, x6, x152002, true))
def quot_fitting.f (k : Nat) (a0_0 : Int) (a0_1 : Int) (a0_2 : Int) (l1 : List Int) : Option (Int × Int × Int × Bool) := quot_fitting.l0 k (-1000000000) 1000000000 l1 (l1.length : Int) 0 a0_0 a0_1 a0_2
theorem quot_fitting.mono_l : ∀ k, (∀ y0 y1 y2 y3 y4 y5 y6 y7, LeO (quot_fitting.l0 k y0 y1 y2 y3 y4 y5 y6 y7) (quot_fitting.l0 (k + 1) y0 y1 y2 y3 y4 y5 y6 y7))
  | 0 => fun _ _ _ _ _ _ _ _ r h => by simp [quot_fitting.l0] at h
  | k + 1 => by
    have ih0 := quot_fitting.mono_l k
    · intro y0 y1 y2 y3 y4 y5 y6 y7
      unfold quot_fitting.l0
      repeat' first
      | (with_reducible exact ih0 _ _ _ _ _ _ _ _)
      | (with_reducible exact LeO.refl _)
      | (with_reducible exact LeO.none _)
      | (with_reducible refine LeO.ite ?_ ?_)
      | (with_reducible refine LeO.bind ?_ (fun _ => ?_))
      | exact ih0 _ _ _ _ _ _ _ _
      | exact LeO.none _
      | refine LeO.ite ?_ ?_
      | refine LeO.bind ?_ (fun _ => ?_)
theorem quot_fitting.mono : ∀ a0 a1 a2 a3 k, LeO (quot_fitting.f k a0 a1 a2 a3) (quot_fitting.f (k + 1) a0 a1 a2 a3) := by
  intro a0 a1 a2 a3 k
  have ih0 := quot_fitting.mono_l k
  unfold quot_fitting.f
  repeat' first
      | (with_reducible exact ih0 _ _ _ _ _ _ _ _)
      | (with_reducible exact LeO.refl _)
      | (with_reducible exact LeO.none _)
      | (with_reducible refine LeO.ite ?_ ?_)
      | (with_reducible refine LeO.bind ?_ (fun _ => ?_))
      | exact ih0 _ _ _ _ _ _ _ _
      | exact LeO.none _
      | refine LeO.ite ?_ ?_
      | refine LeO.bind ?_ (fun _ => ?_)
end
section
open Go.Proofs.YtdigjjncoeaiiaaGlib
/-- The least B with which a candidate fits. -/
def accF (a d : Int) : List Int → Int → Int → Int → Option Int
  | [], _, lo, _ => some lo
  | v :: l, i, lo, hi => if mx lo (d * v - a * i) > mn hi (d * v - a * i + d - 1) then none else accF a d l (i + 1) (mx lo (d * v - a * i)) (mn hi (d * v - a * i + d - 1))
def fitB (a d : Int) (l : List Int) : Option Int := accF a d l 0 (-1000000000) 1000000000
def fitR (a d : Int) : Option Int → Int × Int × Int × Bool
  | some lo => (a, lo, d, true)
  | none => (0, 0, 0, false)
theorem fit_wraps {a d v i : Int} (ha : -1000000000 ≤ a ∧ a ≤ 1000000000) (hd : 1 ≤ d ∧ d ≤ 16) (hv : -1000000000 ≤ v ∧ v ≤ 1000000000) (hi : 0 ≤ i ∧ i ≤ 4000) :
    wrap64 ((wrap64 (d * v)) - (wrap64 (a * i))) = d * v - a * i ∧ wrap64 ((wrap64 ((wrap64 ((wrap64 (d * v)) - (wrap64 (a * i)))) + d)) - 1) = d * v - a * i + d - 1 := by
  have h1 := mul_bound (a := d) (b := v) (m := 16) (n := 1000000000) (by omega) (by omega) (by omega) (by omega)
  have h2 := mul_bound (a := a) (b := i) (m := 1000000000) (n := 4000) (by omega) (by omega) (by omega) (by omega)
  rw [wrap64_id (x := d * v) (by omega) (by omega), wrap64_id (x := a * i) (by omega) (by omega), wrap64_id (x := d * v - a * i) (by omega) (by omega), wrap64_id (x := d * v - a * i + d) (by omega) (by omega), wrap64_id (x := d * v - a * i + d - 1) (by omega) (by omega)]
  exact ⟨rfl, rfl⟩
theorem fitting_loop {a d b : Int} {l : List Int} (ha : -1000000000 ≤ a ∧ a ≤ 1000000000) (hd : 1 ≤ d ∧ d ≤ 16) (hv : ValsOk l) (hl : l.length ≤ 4000) : ∀ (n i k : Nat) (lo hi : Int), i + n = l.length → n < k →
    quot_fitting.l0 k lo hi l (l.length : Int) (i : Int) a b d = some (fitR a d (accF a d (l.drop i) i lo hi)) := by
  intro n
  induction n with
  | zero =>
    intro i k lo hi hn hk
    obtain ⟨k, rfl⟩ : ∃ m, k = m + 1 := ⟨k - 1, by omega⟩
    simp only [quot_fitting.l0]
    rw [if_neg (by omega), List.drop_eq_nil_of_le (by omega)]
    rfl
  | succ n ih =>
    intro i k lo hi hn hk
    obtain ⟨k, rfl⟩ : ∃ m, k = m + 1 := ⟨k - 1, by omega⟩
    have hlt : i < l.length := by omega
    have hx := vals_at hv (i := (i : Int)) (by omega) (by omega)
    have hd' : l.drop i = rd l (i : Int) :: l.drop (i + 1) := by
      rw [List.drop_eq_getElem_cons hlt]
      congr 1
      unfold rd
      rw [Int.toNat_natCast, List.getD_eq_getElem?_getD, List.getElem?_eq_getElem hlt]
      rfl
    obtain ⟨w1, w2⟩ := fit_wraps ha hd hx (i := (i : Int)) (by omega)
    simp only [quot_fitting.l0]
    rw [if_pos (show (i : Int) < (l.length : Int) by omega), if_pos (show (0 : Int) ≤ (i : Int) by omega), if_pos (show (i : Int) < (l.length : Int) by omega), w2, w1, hd']
    unfold accF
    by_cases h : mx lo (d * rd l (i : Int) - a * (i : Int)) > mn hi (d * rd l (i : Int) - a * (i : Int) + d - 1)
    · rw [if_pos h, if_pos h]
      rfl
    · rw [if_neg h, if_neg h, wrap_next (show i < 9223372036854775807 by omega)]
      exact ih (i + 1) k _ _ (by omega) (by omega)
theorem fitting_of {a d b : Int} {l : List Int} (ha : -1000000000 ≤ a ∧ a ≤ 1000000000) (hd : 1 ≤ d ∧ d ≤ 16) (hv : ValsOk l) (hl : l.length ≤ 4000) : quot_fitting.f (l.length + 1) a b d l = some (fitR a d (fitB a d l)) := by
  unfold quot_fitting.f fitB
  have := fitting_loop (b := b) ha hd hv hl l.length 0 (l.length + 1) (-1000000000) 1000000000 (by omega) (by omega)
  simpa using this
/-- Which of two candidates comes first. -/
def beforeB (a b : Int) : Bool := decide (mx a (-a) < mx b (-b)) || (decide (mx a (-a) = mx b (-b)) && decide (a < b))
theorem compare_of (a b : Int) : cmp_Compare_int.f a b = some (if a < b then -1 else if a > b then 1 else 0) := by
  unfold cmp_Compare_int.f cmp_isNaN_int.f
  simp
  split
  · rfl
  · split <;> rfl
theorem or_of (x y : Int) : cmp_Or_int.f 3 [x, y] = some (if x = 0 then y else x) := by
  have e1 : wrap64 (0 + 1) = 1 := wrap64_id (by omega) (by omega)
  have e2 : wrap64 (1 + 1) = 2 := wrap64_id (by omega) (by omega)
  by_cases h : x = 0
  · subst h
    by_cases h2 : y = 0
    · subst h2
      simp [cmp_Or_int.f, cmp_Or_int.l0, rd, wrap2, wrap64_id (show (-9223372036854775808 : Int) ≤ 1 by omega) (by omega)]
    · simp [cmp_Or_int.f, cmp_Or_int.l0, rd, h2, wrap2, wrap64_id (show (-9223372036854775808 : Int) ≤ 1 by omega) (by omega)]
  · simp [cmp_Or_int.f, cmp_Or_int.l0, rd, h]
theorem before_of {a b c a' b' c' : Int} (ha : -1000000000 ≤ a ∧ a ≤ 1000000000) (hb : -1000000000 ≤ a' ∧ a' ≤ 1000000000) : quot_Fit_1.f 3 a b c a' b' c' = some (beforeB a a') := by
  unfold quot_Fit_1.f beforeB
  rw [wrap64_id (x := -a) (by omega) (by omega), wrap64_id (x := -a') (by omega) (by omega), compare_of, compare_of]
  simp only [Option.bind_some]
  rw [or_of]
  simp only [Option.bind_some]
  congr 1
  rw [Bool.eq_iff_iff]
  simp only [decide_eq_true_eq, Bool.or_eq_true, Bool.and_eq_true]
  repeat' split
  all_goals omega
def stepQ (l : List Int) (d : Int) (best c : S55) : S55 :=
  match fitB c.f0 d l with
  | none => best
  | some lo => if best.f2 = 0 ∨ beforeB c.f0 best.f0 = true then ⟨c.f0, lo, d⟩ else best
def bestQ (l : List Int) (d : Int) : S55 := (candL l d).foldl (stepQ l d) z55
def fitD (l : List Int) : Nat → Int → S55
  | 0, _ => z55
  | k + 1, d => if 0 < (bestQ l d).f2 then bestQ l d else fitD l k (d + 1)
/-- What Fit returns. -/
def fitP (l : List Int) : S55 × Bool × Int :=
  if l.length > 4000 then (z55, false, 2) else if l.all coordB = false ∨ l.length = 0 then (z55, false, 1) else (fitD l 16 1, decide ((fitD l 16 1).f2 > 0), 0)
theorem enters117 : EntersK 117 := entersK_of Try.func117 (by kernel_rfl) (by kernel_rfl)
open Go in
theorem leaves_marks {F : Fence} {n : Nat} {P : Program} {fn : Func} {tmps : Array Value} {R : Ending → World → Prop} {base : Nat} : ∀ (L : List Nat) (W : World), base ≤ W.heap.size → L.Nodup → (∀ D ∈ L, base ≤ D ∧ W.heap[D]? = some (.deferred (some []))) →
    (∀ W', (∀ (k : Nat) (cs : Array Value) (t : TypeId) (fr : Nat × Nat), W.heap[k]? = some (.cells cs t fr) → W'.heap[k]? = some (.cells cs t fr)) → Below base W W' → ∃ v, (results fn tmps).run P W' = .ok v W' ∧ R (.returned v) W') →
    LeavesInM F n P fn tmps R (L.map fun D => { target := .collected D, args := #[] }) .returning W := by
  intro L
  induction L with
  | nil => exact fun W hb _ _ h => h W (fun _ _ _ _ h => h) (Below.refl _ _)
  | cons D L ih =>
    intro W hb hnd hD h
    obtain ⟨hn1, hn2⟩ := List.nodup_cons.1 hnd
    have hd := (hD D (by simp)).2
    refine ⟨by simp, .inl ⟨_, _, rfl, run_takeDeferred hd, ih _ (by simpa using hb) hn2 ?_ ?_⟩⟩
    · intro E hE
      obtain ⟨h1, h2⟩ := hD E (List.mem_cons_of_mem _ hE)
      exact ⟨h1, (World.putObj_heap_other (fun e => by subst e; exact hn1 hE)).trans h2⟩
    · intro W' hc hbw
      refine h W' ?_ ?_
      · intro k cs t fr hk
        exact hc k cs t fr ((World.putObj_heap_other (fun e => by subst e; rw [hd] at hk; cases hk)).trans hk)
      · exact ((Below.refl base W).grown (grownBy_putObj' _ _ _) hb (fun r e => by cases e; exact (hD D (by simp)).1)).trans hbw
theorem step_shape (l : List Int) (d : Int) (hd : 1 ≤ d) : ∀ (cs : List S55), (∀ c ∈ cs, coordB c.f0 = true) → ∀ b : S55, (b = z55 ∨ (b.f2 = d ∧ coordB b.f0 = true)) → (cs.foldl (stepQ l d) b = z55 ∨ ((cs.foldl (stepQ l d) b).f2 = d ∧ coordB (cs.foldl (stepQ l d) b).f0 = true)) := by
  intro cs
  induction cs with
  | nil => exact fun _ b h => h
  | cons c cs ih =>
    intro hc b hb
    refine ih (fun c' h => hc c' (List.mem_cons_of_mem _ h)) _ ?_
    unfold stepQ
    split
    · exact hb
    · split
      · exact .inr ⟨rfl, hc c (by simp)⟩
      · exact hb
theorem fitD_go {l : List Int} {d : Int} {k : Nat} (h : ¬ 0 < (bestQ l d).f2) : fitD l (k + 1) d = fitD l k (d + 1) := by rw [fitD, if_neg h]
theorem fitD_at {l : List Int} {d : Int} {k : Nat} (h : 0 < (bestQ l d).f2) : fitD l (k + 1) d = bestQ l d := by rw [fitD, if_pos h]
theorem fit_good {l : List Int} (h1 : ¬ l.length > 4000) (h2 : l.all coordB = true) (h3 : l.length ≠ 0) : fitP l = (fitD l 16 1, decide ((fitD l 16 1).f2 > 0), 0) := by unfold fitP; rw [if_neg h1, if_neg (by rw [h2]; simp [h3])]
def enc55 (b : S55) : Obj := .cells #[.int .i64 b.f0, .int .i64 b.f1, .int .i64 b.f2] 55
theorem all_false {l : List Int} {i : Int} (h0 : 0 ≤ i) (h1 : i < l.length) (h : coordB (rd l i) = false) : l.all coordB = false := by
  rw [Bool.eq_false_iff]
  intro hc
  rw [List.all_eq_true] at hc
  have := hc (rd l i) (by
    unfold rd
    rw [List.getD_eq_getElem?_getD, List.getElem?_eq_getElem (show i.toNat < l.length by omega)]
    exact List.getElem_mem _)
  rw [h] at this
  cases this
theorem all_true {l : List Int} (h : ∀ j : Nat, j < l.length → coordB (rd l (j : Int)) = true) : l.all coordB = true := by
  rw [List.all_eq_true]
  intro x hx
  obtain ⟨j, hj, rfl⟩ := List.mem_iff_getElem.1 hx
  have := h j hj
  unfold rd at this
  rwa [List.getD_eq_getElem?_getD, Int.toNat_natCast, List.getElem?_eq_getElem hj] at this
theorem go_on {l : List Int} {i : Nat} (h : ∀ j : Nat, j < i → coordB (rd l (j : Int)) = true) (hi : coordB (rd l (i : Int)) = true) : ∀ j : Nat, j < i + 1 → coordB (rd l (j : Int)) = true := fun j hj => by
  by_cases e : j = i
  · rw [e]; exact hi
  · exact h j (by omega)
theorem fit_big {l : List Int} (h : l.length > 4000) : fitP l = (z55, false, 2) := by unfold fitP; rw [if_pos h]
theorem fit_bad {l : List Int} (h1 : ¬ l.length > 4000) (h : l.all coordB = false ∨ l.length = 0) : fitP l = (z55, false, 1) := by unfold fitP; rw [if_neg h1, if_pos h]
theorem Stp.setX {X : Nat → Prop} {t : TypeId} {base : Nat} {A : World} {b : Nat} (hx : X b) (hb : base ≤ b) (i : Nat) (v : Value) : Stp X t base A (A.setCell ⟨b, i, none⟩ v) :=
  ⟨rfl, rfl, rfl, by simp, fun k o hk ho => by
    by_cases e : k = b
    · subst e
      rcases ho with ho | ho
      · omega
      · exact absurd hx ho.1
    · exact (Below.heap_setCell A _ v k e).trans hk⟩
structure FitI (w : World) (A0 : Option Addr) (n c0 top : Nat) (L : List Nat) (b : S55) (A : World) : Prop where
  hb : Below w.heap.size w A
  nd : L.Nodup
  mr : ∀ D ∈ L, w.heap.size + 4 ≤ D ∧ D < top ∧ A.heap[D]? = some (.deferred (some []))
  gv : A.heap[w.heap.size]? = some (.cells #[.slice A0 n c0] 33 (0, 0))
  g2 : A.heap[w.heap.size + 1]? = some (enc55 z55)
  gb : A.heap[w.heap.size + 1 + 1]? = some (.cells #[.func (.func 109) #[] #[]] 131 (0, 0))
  gx : A.heap[w.heap.size + 1 + 1 + 1]? = some (enc55 b)
theorem FitI.base {w : World} {A0 : Option Addr} {n c0 top : Nat} {L : List Nat} {b : S55} {A : World} (h : FitI w A0 n c0 top L b A) : w.heap.size ≤ A.heap.size := h.hb.size
theorem FitI.stp {w : World} {A0 : Option Addr} {n c0 top : Nat} {L : List Nat} {b : S55} {A B : World} (h : FitI w A0 n c0 top L b A) (hs : Stp (fun _ => False) 0 w.heap.size A B) : FitI w A0 n c0 top L b B where
  hb := h.hb.trans (hs.below h.hb.size)
  nd := h.nd
  mr := fun D hD => ⟨(h.mr D hD).1, (h.mr D hD).2.1, hs.noCells (h.mr D hD).2.2 rfl id⟩
  gv := hs.same _ _ h.gv (.inr ⟨id, fun cs fr e => by injection e with _ e _; cases e⟩)
  g2 := hs.same _ _ h.g2 (.inr ⟨id, fun cs fr e => by injection e with _ e _; cases e⟩)
  gb := hs.same _ _ h.gb (.inr ⟨id, fun cs fr e => by injection e with _ e _; cases e⟩)
  gx := hs.same _ _ h.gx (.inr ⟨id, fun cs fr e => by injection e with _ e _; cases e⟩)
theorem FitI.below {w : World} {A0 : Option Addr} {n c0 top : Nat} {L : List Nat} {b : S55} {A B : World} (h : FitI w A0 n c0 top L b A) (hs : Below A.heap.size A B) : FitI w A0 n c0 top L b B := h.stp (Stp.of_below hs)
theorem FitI.grown {w : World} {A0 : Option Addr} {n c0 top : Nat} {L : List Nat} {b : S55} {A B : World} {k : Nat} (h : FitI w A0 n c0 top L b A) (hk : top ≤ k) (hk2 : w.heap.size + 4 ≤ k) (hg : A.grownBy B (some k)) : FitI w A0 n c0 top L b B where
  hb := h.hb.grown hg h.hb.size (fun r e => by have := Option.some.inj e; omega)
  nd := h.nd
  mr := fun D hD => ⟨(h.mr D hD).1, (h.mr D hD).2.1, blk_grown (h.mr D hD).2.2 hg (fun e => by have := Option.some.inj e; have := (h.mr D hD).2.1; omega)⟩
  gv := blk_grown h.gv hg (fun e => by have := Option.some.inj e; omega)
  g2 := blk_grown h.g2 hg (fun e => by have := Option.some.inj e; omega)
  gb := blk_grown h.gb hg (fun e => by have := Option.some.inj e; omega)
  gx := blk_grown h.gx hg (fun e => by have := Option.some.inj e; omega)
theorem FitI.cons {w : World} {A0 : Option Addr} {n c0 top D : Nat} {L : List Nat} {b : S55} {A : World} (h : FitI w A0 n c0 top L b A) (hD : top ≤ D) (hD4 : w.heap.size + 4 ≤ D) (hd : A.heap[D]? = some (.deferred (some []))) : FitI w A0 n c0 A.heap.size (D :: L) b A where
  hb := h.hb
  nd := List.nodup_cons.2 ⟨fun hm => by have := (h.mr D hm).2.1; omega, h.nd⟩
  mr := fun E hE => (List.mem_cons.1 hE).elim (fun e => by subst e; exact ⟨hD4, (Array.getElem?_eq_some_iff.1 hd).1, hd⟩) (fun hm => ⟨(h.mr E hm).1, (Array.getElem?_eq_some_iff.1 (h.mr E hm).2.2).1, (h.mr E hm).2.2⟩)
  gv := h.gv
  g2 := h.g2
  gb := h.gb
  gx := h.gx
def FitR (w : World) (A0 : Option Addr) (n c0 top : Nat) (L : List Nat) (l : List Int) (d : Int) (pre : List S55) (A : World) : Prop := (∀ c ∈ pre, coordB c.f0 = true) ∧ FitI w A0 n c0 top L (pre.foldl (stepQ l d) z55) A
theorem FitR.snoc {w : World} {A0 : Option Addr} {n c0 top : Nat} {L : List Nat} {l : List Int} {d : Int} {pre : List S55} {A : World} {x bq b : S55} (hp : ∀ c ∈ pre, coordB c.f0 = true) (hx : coordB x.f0 = true) (h : pre.foldl (stepQ l d) z55 = bq) (hst : stepQ l d bq x = b) (hI : FitI w A0 n c0 top L b A) : FitR w A0 n c0 top L l d (pre ++ [x]) A :=
  ⟨fun c hc => (List.mem_append.1 hc).elim (hp c) (fun h => by rw [List.mem_singleton.1 h]; exact hx), by rw [List.foldl_append, h]; show FitI w A0 n c0 top L (stepQ l d bq x) A; rw [hst]; exact hI⟩
theorem stp_set3 (A : World) (g : Nat) (v0 v1 v2 : Value) {base : Nat} (hb : base ≤ g) : Stp (fun k => k = g) 0 base A (((A.setCell ⟨g, 0, none⟩ v0).setCell ⟨g, 1, none⟩ v1).setCell ⟨g, 2, none⟩ v2) :=
  ((Stp.setX (X := fun k => k = g) (b := g) rfl hb 0 v0).trans (Stp.setX (X := fun k => k = g) (b := g) rfl hb 1 v1)).trans (Stp.setX (X := fun k => k = g) (b := g) rfl hb 2 v2)
theorem blk_set3 {A : World} {g : Nat} {b c : S55} (h : A.heap[g]? = some (enc55 b)) : (((A.setCell ⟨g, 0, none⟩ (.int .i64 c.f0)).setCell ⟨g, 1, none⟩ (.int .i64 c.f1)).setCell ⟨g, 2, none⟩ (.int .i64 c.f2)).heap[g]? = some (enc55 c) := blk_set (blk_set (blk_set h 0 _) 1 _) 2 _
theorem FitI.put {w : World} {A0 : Option Addr} {n c0 top : Nat} {L : List Nat} {b : S55} {A : World} (h : FitI w A0 n c0 top L b A) (c : S55) : FitI w A0 n c0 top L c (((A.setCell ⟨w.heap.size + 1 + 1 + 1, 0, none⟩ (.int .i64 c.f0)).setCell ⟨w.heap.size + 1 + 1 + 1, 1, none⟩ (.int .i64 c.f1)).setCell ⟨w.heap.size + 1 + 1 + 1, 2, none⟩ (.int .i64 c.f2)) := by
  have hs := stp_set3 A (w.heap.size + 1 + 1 + 1) (.int .i64 c.f0) (.int .i64 c.f1) (.int .i64 c.f2) (base := w.heap.size) (by omega)
  exact ⟨h.hb.trans (hs.below h.hb.size), h.nd, fun D hD => ⟨(h.mr D hD).1, (h.mr D hD).2.1, hs.noCells (h.mr D hD).2.2 rfl (by have := (h.mr D hD).1; omega)⟩,
    hs.same _ _ h.gv (.inr ⟨by omega, fun cs fr e => by injection e with _ e _; cases e⟩), hs.same _ _ h.g2 (.inr ⟨by omega, fun cs fr e => by injection e with _ e _; cases e⟩), hs.same _ _ h.gb (.inr ⟨by omega, fun cs fr e => by injection e with _ e _; cases e⟩), blk_set3 h.gx⟩
open Go in
theorem fit_end {tmps : Array Value} {w W : World} {A0 : Option Addr} {c0 top : Nat} {l0 : List Int} {L : List Nat} {b b' : S55} (h : FitI w A0 l0.length c0 top L b' W) (ht2 : tmps.getD 2 undef = .pointer (some ⟨w.heap.size + 1, 0, none⟩)) (ht3 : tmps.getD 3 undef = .bool (decide (b.f2 > 0))) (ht4 : tmps.getD 4 undef = .int .i64 0)
    (hf : fitP l0 = (b, decide (b.f2 > 0), 0)) :
    LeavesInM Fence.wide 0 Try.prog Try.f100 tmps (fun e w' => e = .returned (.tuple #[.agg #[.int .i64 (fitP l0).1.f0, .int .i64 (fitP l0).1.f1, .int .i64 (fitP l0).1.f2], .bool (fitP l0).2.1, .int .i64 (fitP l0).2.2]) ∧ Below w.heap.size w w') (L.map fun D => { target := .collected D, args := #[] }) .returning
      (((W.setCell ⟨w.heap.size + 1, 0, none⟩ (.int .i64 b.f0)).setCell ⟨w.heap.size + 1, 1, none⟩ (.int .i64 b.f1)).setCell ⟨w.heap.size + 1, 2, none⟩ (.int .i64 b.f2)).drew := by
  have hs := (stp_set3 W (w.heap.size + 1) (.int .i64 b.f0) (.int .i64 b.f1) (.int .i64 b.f2) (base := w.heap.size) (by omega)).trans (Stp.of_below (below_drew1 (Below.refl _ _)))
  have h2 := blk_drew (blk_set3 (c := b) h.g2)
  refine leaves_marks (base := w.heap.size) L _ (Nat.le_trans h.hb.size hs.size) h.nd (fun D hD => ⟨by have := (h.mr D hD).1; omega, hs.noCells (h.mr D hD).2.2 rfl (by have := (h.mr D hD).1; omega)⟩) ?_
  intro W' hc hbw
  refine ⟨_, results_ctt rfl _ _ (w.heap.size + 1) 55 #[.int .i64 b.f0, .int .i64 b.f1, .int .i64 b.f2] (0, 0) _ ht2 (hc _ _ _ _ h2) Try.underlying55 rfl (by kernel_rfl), ?_⟩
  rw [ht3, ht4, hf]
  exact ⟨rfl, (h.hb.trans (hs.below h.hb.size)).trans hbw⟩
theorem undef_bool {b : Bool} (h : some undef = some (Value.bool b)) : False := by
  have := Option.some.inj h
  unfold undef at this
  cases this
attribute [local go_sem] Oper.semAt_some
def quot_Fit.f (l : List Int) : Option (Int × Int × Int × Bool × Int) := some ((fitP l).1.f0, (fitP l).1.f1, (fitP l).1.f2, (fitP l).2.1, (fitP l).2.2)
end
section
def curve_longest.l0 : Nat → List Int → Int → Int → Int → Int → Int → Int → Option (Int × Int × Int × Int)
  | 0, _, _, _, _, _, _, _ => none
  | k + 1, x0, x7, x8, x9, x162000, x162001, x162002 => if (wrap64 (x7 + 1)) < x8 then (if 0 ≤ (mn (wrap64 (x7 + x9)) (wrap64 (x8 - 1))) then (if (mn (wrap64 (x7 + x9)) (wrap64 (x8 - 1))) ≤ (x0.length : Int) then ((quot_Fit.f (x0.take ((mn (wrap64 (x7 + x9)) (wrap64 (x8 - 1))) : Int).toNat)).bind fun bt163 => (if bt163.2.2.2.1 = true then (curve_longest.l0 k x0 (mn (wrap64 (x7 + x9)) (wrap64 (x8 - 1))) x8 (wrap64 (2 * x9)) bt163.1 bt163.2.1 bt163.2.2.1) else (curve_longest.l0 k x0 x7 (mn (wrap64 (x7 + x9)) (wrap64 (x8 - 1))) (mx 1 (wrap64 (Int.tdiv (wrap64 ((mn (wrap64 (x7 + x9)) (wrap64 (x8 - 1))) - x7)) 2))) x162000 x162001 x162002))) else (none)) else (none)) else (some (x7, x162000, x162001, x162002))
def curve_longest.f (k : Nat) (l0 : List Int) : Option (Int × Int × Int × Int) := if 1 ≤ (l0.length : Int) then ((quot_Fit.f (l0.take 1)).bind fun bt156 => (curve_longest.l0 k l0 1 (wrap64 ((l0.length : Int) + 1)) 2 bt156.1 bt156.2.1 bt156.2.2.1)) else (none)
theorem curve_longest.mono_l : ∀ k, (∀ y0 y1 y2 y3 y4 y5 y6, LeO (curve_longest.l0 k y0 y1 y2 y3 y4 y5 y6) (curve_longest.l0 (k + 1) y0 y1 y2 y3 y4 y5 y6))
  | 0 => fun _ _ _ _ _ _ _ r h => by simp [curve_longest.l0] at h
  | k + 1 => by
    have ih0 := curve_longest.mono_l k
    · intro y0 y1 y2 y3 y4 y5 y6
      unfold curve_longest.l0
      repeat' first
      | (with_reducible exact ih0 _ _ _ _ _ _ _)
      | (with_reducible exact LeO.refl _)
      | (with_reducible exact LeO.none _)
      | (with_reducible refine LeO.ite ?_ ?_)
      | (with_reducible refine LeO.bind ?_ (fun _ => ?_))
      | exact ih0 _ _ _ _ _ _ _
      | exact LeO.none _
      | refine LeO.ite ?_ ?_
      | refine LeO.bind ?_ (fun _ => ?_)
theorem curve_longest.mono : ∀ a0 k, LeO (curve_longest.f k a0) (curve_longest.f (k + 1) a0) := by
  intro a0 k
  have ih0 := curve_longest.mono_l k
  unfold curve_longest.f
  repeat' first
      | (with_reducible exact ih0 _ _ _ _ _ _ _)
      | (with_reducible exact LeO.refl _)
      | (with_reducible exact LeO.none _)
      | (with_reducible refine LeO.ite ?_ ?_)
      | (with_reducible refine LeO.bind ?_ (fun _ => ?_))
      | exact ih0 _ _ _ _ _ _ _
      | exact LeO.none _
      | refine LeO.ite ?_ ?_
      | refine LeO.bind ?_ (fun _ => ?_)
def curve_split.l0 : Nat → Int → List Int → List (S57) → Option ((List (S57)))
  | 0, _, _, _ => none
  | k + 1, x0, x1, x5 => if (x1.length : Int) > 0 then ((curve_longest.f k x1).bind fun bt169 => (if x5.length < 3518437208883 then (if 0 ≤ bt169.1 then (if bt169.1 ≤ (x1.length : Int) then (curve_split.l0 k (wrap64 (x0 + bt169.1)) (x1.drop (bt169.1 : Int).toNat) (x5 ++ [(⟨x0, wrap64 (x0 + bt169.1), (⟨bt169.2.1, bt169.2.2.1, bt169.2.2.2⟩ : S55)⟩ : S57)])) else (none)) else (none)) else (none))) else (some x5)
def curve_split.f (k : Nat) (a0 : Int) (l1 : List Int) : Option ((List (S57))) := curve_split.l0 k a0 l1 ([] : List (S57))
theorem curve_split.mono_l : ∀ k, (∀ y0 y1 y2, LeO (curve_split.l0 k y0 y1 y2) (curve_split.l0 (k + 1) y0 y1 y2))
  | 0 => fun _ _ _ r h => by simp [curve_split.l0] at h
  | k + 1 => by
    have ih0 := curve_split.mono_l k
    · intro y0 y1 y2
      unfold curve_split.l0
      repeat' first
      | (with_reducible exact ih0 _ _ _)
      | (with_reducible exact curve_longest.mono _ _)
      | (with_reducible exact LeO.refl _)
      | (with_reducible exact LeO.none _)
      | (with_reducible refine LeO.ite ?_ ?_)
      | (with_reducible refine LeO.bind ?_ (fun _ => ?_))
      | exact ih0 _ _ _
      | exact curve_longest.mono _ _
      | exact LeO.none _
      | refine LeO.ite ?_ ?_
      | refine LeO.bind ?_ (fun _ => ?_)
theorem curve_split.mono : ∀ a0 a1 k, LeO (curve_split.f k a0 a1) (curve_split.f (k + 1) a0 a1) := by
  intro a0 a1 k
  have ih0 := curve_split.mono_l k
  unfold curve_split.f
  repeat' first
      | (with_reducible exact ih0 _ _ _)
      | (with_reducible exact curve_longest.mono _ _)
      | (with_reducible exact LeO.refl _)
      | (with_reducible exact LeO.none _)
      | (with_reducible refine LeO.ite ?_ ?_)
      | (with_reducible refine LeO.bind ?_ (fun _ => ?_))
      | exact ih0 _ _ _
      | exact curve_longest.mono _ _
      | exact LeO.none _
      | refine LeO.ite ?_ ?_
      | refine LeO.bind ?_ (fun _ => ?_)
end
section
open Go.Proofs.YtdigjjncoeaiiaaGlib
theorem enters66 : EntersK 66 := entersK_of Try.func66 (by kernel_rfl) (by kernel_rfl)
theorem make1_of (z : Int) : curve_Make_1.f z = some (!coordB z) := by
  unfold curve_Make_1.f curve_isValue.f coordB
  by_cases h : -1000000000 ≤ z
  · rw [if_pos h, decide_eq_true h, Bool.true_and]
    simp
  · rw [if_neg h, decide_eq_false h, Bool.false_and]
    simp
/-- What makes a row of values no curve. -/
def badM (a : Int) (l : List Int) : Bool := decide (l.length = 0) || decide (a < 0) || decide (a > 4001 - (l.length : Int)) || l.any (fun z => !coordB z)
def curve_Make.f (k : Nat) (a0 : Int) (l1 : List Int) : Option (List S57 × Int) :=
  if l1.length > 4000 then some ([], 2) else if badM a0 l1 = true then some ([], 1) else (curve_split.f k a0 l1).bind fun r => some (r, 0)
theorem curve_Make.mono (a0 : Int) (l1 : List Int) (k : Nat) : LeO (curve_Make.f k a0 l1) (curve_Make.f (k + 1) a0 l1) := by
  unfold curve_Make.f
  refine LeO.ite (LeO.refl _) (LeO.ite (LeO.refl _) (LeO.bind (curve_split.mono _ _ _) (fun _ => LeO.refl _)))
end
section
/-- Whether an expression is well-formed. -/
def validE (e : S24) : Bool := (formedP 30 e 100).1
end
section
theorem wrong_of (x : Int) : value_about_right_1.f x = some (!coordB x) := by
  unfold value_about_right_1.f
  rw [within_of]
  rfl
theorem enters44 : EntersK 44 := entersK_of Try.func44 (by kernel_rfl) (by kernel_rfl)
theorem any_not (v : List Int) (p : Int → Bool) : (v.any fun x => !p x) = !v.all p := by
  induction v with
  | nil => rfl
  | cons x v ih => simp only [List.any_cons, List.all_cons, ih, Bool.not_and]
theorem C_vars {W : World} {g T : Nat} {a b x0 x1 x2 x3 x4 x5 x6 x7 : Int} (h : W.heap[g]? = some (.cells #[.int .i64 a, .int .i64 b, .int .i64 x0, .int .i64 x1, .int .i64 x2, .int .i64 x3, .int .i64 x4, .int .i64 x5, .int .i64 x6, .int .i64 x7] T (0, 0))) : Kd.C (Kd.int .i64) W (some ⟨g, 2, none⟩) 8 [x0, x1, x2, x3, x4, x5, x6, x7] := by
  refine ⟨rfl, by omega, fun _ => ⟨_, rfl, fun j p hj => ⟨[.int .i64 p], rfl, rfl, fun i u hi => ?_⟩⟩⟩
  obtain ⟨hl, hp⟩ := List.getElem?_eq_some_iff.1 hj
  rcases i with _ | i
  · simp only [List.getElem?_cons_zero, Option.some.injEq] at hi
    subst hi
    have hl8 : j < 8 := hl
    have hc := cells10 h hl8 (r := p) (by rw [List.getD_eq_getElem?_getD, hj]; rfl)
    show W.cell? ((⟨g, 2, none⟩ : Addr).add (j * 1 + 0)) = _
    rw [show ((⟨g, 2, none⟩ : Addr).add (j * 1 + 0)) = ⟨g, 2 + j, none⟩ from by unfold Addr.add; split <;> simp_all]
    exact hc
  · simp at hi
end
section
theorem grown_set {w w' : World} {b : Nat} {v : Value} (h : w' = w.setCell ⟨b, 0, none⟩ v) : w.grownBy w' (some b) := by
  subst h
  exact ⟨rfl, rfl, rfl, by rw [World.size_setCell]; exact Nat.le_refl _, fun k _ hk => Below.heap_setCell _ _ _ k (fun e => hk (by rw [e]))⟩
theorem set_one {w w' : World} {b : Nat} {v u : Value} {t : TypeId} (h : w' = w.setCell ⟨b, 0, none⟩ u) (hb : w.heap[b]? = some (.cells #[v] t (0, 0))) : w'.heap[b]? = some (.cells #[u] t (0, 0)) := by
  subst h
  exact one_setCell hb
set_option maxHeartbeats 4000000 in
set_option maxRecDepth 100000 in
theorem caught_panicking (bv be : Nat) (x y : Int) (older : List PanicEntry) (w w0 : World) (hv : w.heap[bv]? = some (.cells #[.int .i64 x] 3 (0, 0))) (he : w.heap[be]? = some (.cells #[.int .i64 y] 29 (0, 0))) (hb0 : Below w0.heap.size w0 w) (hbv : w0.heap.size ≤ bv) (hbe : w0.heap.size ≤ be) :
    CallsD Try.prog 46 #[.pointer (some ⟨bv, 0, none⟩), .pointer (some ⟨be, 0, none⟩)] (.panicking ({ v := .iface 99 (.agg #[]), recovered := false } :: older)) w fun e u' w' =>
      e = .returned (.tuple #[]) ∧ u' = .panicking ({ v := .iface 99 (.agg #[]), recovered := true } :: older) ∧ w'.heap[bv]? = some (.cells #[.int .i64 0] 3 (0, 0)) ∧ w'.heap[be]? = some (.cells #[.int .i64 3] 29 (0, 0)) ∧ Below w0.heap.size w0 w' := by
  have hta : ∀ W, (Instr.typeAssert (.iface 99 (.agg #[])) 20 99 true).run Try.prog W = .ok (.tuple #[.agg #[], .bool true]) W := fun W => rfl
  have hne : bv ≠ be := blk_ne hv he (by decide)
  have HV := Aside0.mk (blk_alloc hv (.cells #[] 99))
  have HE := Aside0.mk (blk_alloc he (.cells #[] 99))
  have HB := Aside0.mk (below_alloc hb0 (.cells #[] 99))
  have HNE := Aside0.mk hne
  have cv := cell_of_one HV.out
  have zv := free_of_one HV.out
  clear hv he hb0 hne
  refine callsD_of_wpS Try.func46 rfl fun c₀ cs hu => ?_
  simp only [Try.ntmps46, List.size_toArray, List.length_cons, List.length_nil, Nat.reduceAdd, Nat.reduceSub, Array.replicate_succ, Array.replicate_zero, List.push_toArray, List.append_toArray, List.nil_append, List.cons_append]
  apply wpS_seq
  apply wpS_region
  simp [wpOpsS, go_sem, recoverD, hu, Exit.thenS]
  refine wpS_of_wp ?_
  go_wp2_with (first
    | ((with_reducible refine gate_store (t := 3) (p := 15) (v := .const (.int .i64 0)) rfl ?_); refine store_event ?hg (t := 3) (p := 15) (v := .const (.int .i64 0)) ?ho ?hN (w1 := (w.alloc (.cells #[] 99)).setCell ⟨bv, 0, none⟩ (.int .i64 0)) ?hr ?_; (case hg => rfl); (case ho => rfl); (case hN => rfl); (case hr => first | (go_simp; done) | (go_simp; rfl)); intro w3 hw3; have HV3 := Aside0.mk (set_one hw3 HV.out); have HE3 := Aside0.mk (grown_blk (grown_set hw3) HE.out (fun e => HNE.out e.symm)); have HB3 := Aside0.mk (below_grown HB.out hbv (grown_set hw3)); clear hw3 cv zv; have ce := cell_of_one HE3.out; have ze := free_of_one HE3.out)
    | ((with_reducible refine gate_store (t := 29) (p := 16) (v := .const (.int .i64 3)) rfl ?_); refine store_event ?hg (t := 29) (p := 16) (v := .const (.int .i64 3)) ?ho ?hN (w1 := w3.setCell ⟨be, 0, none⟩ (.int .i64 3)) ?hr ?_; (case hg => rfl); (case ho => rfl); (case hN => rfl); (case hr => first | (go_simp; done) | (go_simp; rfl)); intro w4 hw4; have HE4 := Aside0.mk (set_one hw4 HE3.out); have HV4 := Aside0.mk (grown_blk (grown_set hw4) HV3.out HNE.out); have HB4 := Aside0.mk (below_grown HB3.out hbe (grown_set hw4)); clear hw4 ce ze))
  simp [bodyPostS, results, Try.results46]
  exact ⟨HV4.out, HE4.out, HB4.out⟩
set_option maxHeartbeats 4000000 in
set_option maxRecDepth 100000 in
theorem caught_idle (bv be : Nat) (w : World) :
    CallsD Try.prog 46 #[.pointer (some ⟨bv, 0, none⟩), .pointer (some ⟨be, 0, none⟩)] .returning w fun e u' w' => e = .returned (.tuple #[]) ∧ u' = .returning ∧ Below w.heap.size w w' := by
  refine callsD_of_wpS Try.func46 rfl fun c₀ cs hu => ?_
  simp only [Try.ntmps46, List.size_toArray, List.length_cons, List.length_nil, Nat.reduceAdd, Nat.reduceSub, Array.replicate_succ, Array.replicate_zero, List.push_toArray, List.append_toArray, List.nil_append, List.cons_append]
  apply wpS_seq
  apply wpS_region
  simp [wpOpsS, go_sem, recoverD, hu, Exit.thenS]
  refine wpS_of_wp ?_
  go_wp2
  simp [bodyPostS, results, Try.results46, hu]
  exact ⟨.returning, by cases c₀; simp_all, rfl, Below.refl _ _⟩
end
section
/-- A value and an error. -/
def pairE : Option Int → Int × Int
  | some x => (x, 0)
  | none => (0, 3)
end
section
theorem kids_wf {n : Nat} (ih : ∀ (e : S24) (L : Int), (formedP n e L).1 = true → wfE n e) : ∀ (ks : List S24) (L : Int), (kidsF (formedP n) ks L).1 = true → ∀ k ∈ ks, wfE n k
  | [], _, _, k, hk => by cases hk
  | k0 :: ks, L, h, k, hk => by
    simp only [kidsF] at h
    by_cases h1 : (formedP n k0 L).1 = true
    · rw [if_pos h1] at h
      rcases List.mem_cons.1 hk with rfl | hk
      · exact ih _ _ h1
      · exact kids_wf ih ks _ h k hk
    · rw [if_neg h1] at h
      cases h
/-- What is well-formed is so at each node. -/
theorem formed_wf : ∀ (n : Nat) (e : S24) (L : Int), (formedP n e L).1 = true → wfE n e
  | 0, e, L, h => by cases h
  | n + 1, e, L, h => by
    unfold formedP at h
    by_cases hq : nodeOk e (n + 1) (L - 1) = true
    · rw [if_pos hq] at h
      refine ⟨?_, kids_wf (formed_wf n) e.f2 _ h⟩
      unfold nodeOk at hq
      cases hs : shapeP e.f0 with
      | none => rw [hs] at hq; cases hq
      | some p =>
        obtain ⟨lo, hi, kids⟩ := p
        rw [hs] at hq
        simp at hq
        exact ⟨lo, hi, kids, hs, by omega, by omega, by omega⟩
    · rw [if_neg hq] at h
      cases h
/-- What Eval returns. -/
def evalP (e : S24) (width scale : Int) (v : List Int) : Int × Int :=
  if (validE e && (inI scale 50 300 && v.all coordB) && inI width 0 1000000) = true then pairE (evF width scale v 30 e) else (0, 1)
def value_Eval.f (a0_0 a0_1 : Int) (l0_2 : List S24) (a1 a2 a3_0 a3_1 a3_2 a3_3 a3_4 a3_5 a3_6 a3_7 : Int) : Option (Int × Int) := some (evalP ⟨a0_0, a0_1, l0_2⟩ a1 a2 [a3_0, a3_1, a3_2, a3_3, a3_4, a3_5, a3_6, a3_7])
end
section
open Go.Proofs.YtdigjjncoeaiiaaGlib Go.Maps
def varF : Nat → S24 → List Int
  | 0, _ => []
  | n + 1, e => (if e.f0 = 4 then [e.f1] else []) ++ e.f2.flatMap (varF n)
/-- The set of some numbers, as a map's datum. -/
def setI (acc : List Int) : DataW Unit := setOf (.lit (.bool true)) (acc.map (Lit.int .i64))
theorem setI_snoc (acc : List Int) (x : Int) : setI (acc ++ [x]) = (setI acc).put (.int .i64 x) (.lit (.bool true)) := by
  unfold setI
  rw [List.map_append, List.map_singleton, setOf_snoc]
def OwnM (w : World) (b n : Nat) (acc : List Int) : Prop := w.ownsMap Try.prog 3 (plainElem Try.prog 4) b n (setI acc)
theorem flat_len {f : S24 → List Int} {k : Nat} : ∀ (ks : List S24), (∀ e ∈ ks, (f e).length ≤ k) → (ks.flatMap f).length ≤ ks.length * k
  | [], _ => by simp
  | e :: ks, h => by
    rw [List.flatMap_cons, List.length_append, List.length_cons, Nat.add_mul, Nat.one_mul]
    have h1 := h e (by simp)
    have h2 := flat_len ks (fun e he => h e (List.mem_cons_of_mem _ he))
    omega
theorem var_len : ∀ (n : Nat) (e : S24), wfE n e → (varF n e).length ≤ 2 ^ n
  | 0, e, h => h.elim
  | n + 1, e, h => by
    obtain ⟨⟨lo, hi, kids, hs, hk, _, _⟩, hks⟩ := h
    have hf := flat_len e.f2 (fun k hk => var_len n k (hks k hk))
    unfold varF
    have h2 := shape_kids hs
    by_cases h4 : e.f0 = 4
    · rw [h4] at hs
      have hk0 : kids = 0 := by simp [shapeP] at hs; omega
      have he : e.f2 = [] := List.eq_nil_of_length_eq_zero (by omega)
      rw [if_pos h4, he]
      have := Nat.one_le_two_pow (n := n + 1)
      simpa using this
    · rw [if_neg h4, List.nil_append]
      have hm : e.f2.length * 2 ^ n ≤ 2 * 2 ^ n := Nat.mul_le_mul_right _ (by omega)
      rw [Nat.pow_succ]
      omega
end
section
attribute [local go_sem] Oper.semAt_some
theorem R_own {W : World} {v : Value} {xs : List Int} {base : Nat} (h : Kd.R (Kd.int .i64) 3 W base (fun _ => True) v xs) : ∀ r, v.ownBlock = some r → base ≤ r ∧ ((fun k => k = base) r ∨ ∃ cs fr, W.heap[r]? = some (.cells cs 3 fr)) := by
  obtain ⟨h0, inner, hown, hr⟩ := h
  exact fun r e => ⟨own_base hown r e, .inr (by obtain ⟨cs, h2⟩ := own_typed hown r e; exact ⟨cs, (0, 0), h2⟩)⟩
end
section
open Go.Shelf
def Try.keysA_ren : Go.Shelf.Ren := ⟨fun | 7 => 37 | 10 => 65 | n => n, fun | 23 => 70 | 26 => 3 | 3 => 4 | 28 => 74 | 0 => 0 | 27 => 73 | 33 => 45 | 4 => 4 | n => n, fun | n => n⟩
theorem Try.keysA : Go.Proofs.SlLaysZI.n7 Try.prog Try.keysA_ren := {
  mixed := by kernel_rfl
  f7 := ⟨Try.f37.name, by decide, Try.func37.trans (congrArg some (by kernel_rfl))⟩
  f10 := ⟨Try.f65.name, by decide, Try.func65.trans (congrArg some (by kernel_rfl))⟩
  t0 := Try.underlying0
  a0 := Try.isAgg0
  z0 := Try.sizeOf0
  v0 := Try.zeroValue0
  t4 := Try.underlying4
  a4 := Try.isAgg4
  z4 := Try.sizeOf4
  v4 := Try.zeroValue4
  t23 := Try.underlying70
  a23 := Try.isAgg70
  z23 := Try.sizeOf70
  v23 := Try.zeroValue70
  t26 := Try.underlying3
  a26 := Try.isAgg3
  z26 := Try.sizeOf3
  v26 := Try.zeroValue3
  t27 := Try.underlying73
  a27 := Try.isAgg73
  z27 := Try.sizeOf73
  v27 := Try.zeroValue73
  t28 := Try.underlying74
  a28 := Try.isAgg74
  z28 := Try.sizeOf74
  v28 := Try.zeroValue74
  t33 := Try.underlying45
  a33 := Try.isAgg45
  z33 := Try.sizeOf45
  v33 := Try.zeroValue45 }
def Try.sortedA_ren : Go.Shelf.Ren := ⟨fun | 6 => 36 | 8 => 63 | 9 => 64 | 11 => 81 | 13 => 83 | 12 => 82 | 23 => 98 | 24 => 99 | 14 => 89 | 15 => 90 | 16 => 91 | 17 => 92 | 18 => 93 | 19 => 94 | 20 => 95 | 21 => 96 | 22 => 97 | 25 => 103 | 26 => 104 | 27 => 105 | 28 => 106 | 29 => 107 | 30 => 108 | 31 => 116 | n => n, fun | 26 => 3 | 28 => 74 | 24 => 33 | 0 => 0 | 3 => 3 | 37 => 105 | 48 => 119 | 50 => 121 | 4 => 4 | 40 => 112 | 39 => 111 | 45 => 65 | 5 => 5 | 9 => 9 | 51 => 125 | 55 => 68 | 57 => 138 | 58 => 139 | 33 => 45 | n => n, fun | n => n⟩
theorem Try.sortedA : Go.Proofs.SlLaysZI.n6 Try.prog Try.sortedA_ren := {
  mixed := by kernel_rfl
  f6 := ⟨Try.f36.name, by decide, Try.func36.trans (congrArg some (by kernel_rfl))⟩
  f8 := ⟨Try.f63.name, by decide, Try.func63.trans (congrArg some (by kernel_rfl))⟩
  f11 := ⟨Try.f81.name, by decide, Try.func81.trans (congrArg some (by kernel_rfl))⟩
  t0 := Try.underlying0
  a0 := Try.isAgg0
  z0 := Try.sizeOf0
  v0 := Try.zeroValue0
  t24 := Try.underlying33
  a24 := Try.isAgg33
  z24 := Try.sizeOf33
  v24 := Try.zeroValue33
  t26 := Try.underlying3
  a26 := Try.isAgg3
  z26 := Try.sizeOf3
  v26 := Try.zeroValue3
  t28 := Try.underlying74
  a28 := Try.isAgg74
  z28 := Try.sizeOf74
  v28 := Try.zeroValue74
  i26 := by kernel_rfl }
def Try.sortA_ren : Go.Shelf.Ren := ⟨fun | 5 => 64 | 8 => 83 | 7 => 82 | 19 => 98 | 20 => 99 | 10 => 89 | 11 => 90 | 12 => 91 | 13 => 92 | 14 => 93 | 15 => 94 | 16 => 95 | 17 => 96 | 18 => 97 | 30 => 103 | 31 => 104 | 32 => 105 | 33 => 106 | 34 => 107 | 35 => 108 | 40 => 116 | n => n, fun | 23 => 33 | 25 => 3 | 3 => 3 | 32 => 105 | 22 => 33 | 0 => 0 | 44 => 119 | 46 => 121 | 4 => 4 | 36 => 112 | 35 => 111 | 41 => 65 | 5 => 5 | 9 => 9 | 53 => 125 | 57 => 68 | 63 => 138 | 64 => 139 | n => n, fun | n => n⟩
theorem Try.sortA : Go.Proofs.SlLaysM.n5 Try.prog Try.sortA_ren := {
  mixed := by kernel_rfl
  f5 := ⟨Try.f64.name, by decide, Try.func64.trans (congrArg some (by kernel_rfl))⟩
  f7 := ⟨Try.f82.name, by decide, Try.func82.trans (congrArg some (by kernel_rfl))⟩
  f8 := Try.func83.trans (congrArg some (by kernel_rfl))
  f10 := ⟨Try.f89.name, by decide, Try.func89.trans (congrArg some (by kernel_rfl))⟩
  f11 := ⟨Try.f90.name, by decide, Try.func90.trans (congrArg some (by kernel_rfl))⟩
  f12 := ⟨Try.f91.name, by decide, Try.func91.trans (congrArg some (by kernel_rfl))⟩
  f13 := ⟨Try.f92.name, by decide, Try.func92.trans (congrArg some (by kernel_rfl))⟩
  f14 := ⟨Try.f93.name, by decide, Try.func93.trans (congrArg some (by kernel_rfl))⟩
  f15 := ⟨Try.f94.name, by decide, Try.func94.trans (congrArg some (by kernel_rfl))⟩
  f16 := ⟨Try.f95.name, by decide, Try.func95.trans (congrArg some (by kernel_rfl))⟩
  f17 := ⟨Try.f96.name, by decide, Try.func96.trans (congrArg some (by kernel_rfl))⟩
  f18 := ⟨Try.f97.name, by decide, Try.func97.trans (congrArg some (by kernel_rfl))⟩
  f19 := Try.func98.trans (congrArg some (by kernel_rfl))
  f20 := Try.func99.trans (congrArg some (by kernel_rfl))
  f30 := ⟨Try.f103.name, by decide, Try.func103.trans (congrArg some (by kernel_rfl))⟩
  f31 := Try.func104.trans (congrArg some (by kernel_rfl))
  f32 := Try.func105.trans (congrArg some (by kernel_rfl))
  f33 := ⟨Try.f106.name, by decide, Try.func106.trans (congrArg some (by kernel_rfl))⟩
  f34 := ⟨Try.f107.name, by decide, Try.func107.trans (congrArg some (by kernel_rfl))⟩
  f35 := ⟨Try.f108.name, by decide, Try.func108.trans (congrArg some (by kernel_rfl))⟩
  f40 := ⟨Try.f116.name, by decide, Try.func116.trans (congrArg some (by kernel_rfl))⟩
  t0 := Try.underlying0
  a0 := Try.isAgg0
  z0 := Try.sizeOf0
  v0 := Try.zeroValue0
  t3 := Try.underlying3
  a3 := Try.isAgg3
  z3 := Try.sizeOf3
  v3 := Try.zeroValue3
  t4 := Try.underlying4
  a4 := Try.isAgg4
  z4 := Try.sizeOf4
  v4 := Try.zeroValue4
  t5 := Try.underlying5
  a5 := Try.isAgg5
  z5 := Try.sizeOf5
  v5 := Try.zeroValue5
  t9 := Try.underlying9
  a9 := Try.isAgg9
  z9 := Try.sizeOf9
  v9 := Try.zeroValue9
  t22 := Try.underlying33
  a22 := Try.isAgg33
  z22 := Try.sizeOf33
  v22 := Try.zeroValue33
  t23 := Try.underlying33
  a23 := Try.isAgg33
  z23 := Try.sizeOf33
  v23 := Try.zeroValue33
  t25 := Try.underlying3
  a25 := Try.isAgg3
  z25 := Try.sizeOf3
  v25 := Try.zeroValue3
  t32 := Try.underlying105
  a32 := Try.isAgg105
  z32 := Try.sizeOf105
  v32 := Try.zeroValue105
  t35 := Try.underlying111
  a35 := Try.isAgg111
  z35 := Try.sizeOf111
  v35 := Try.zeroValue111
  t36 := Try.underlying112
  a36 := Try.isAgg112
  z36 := Try.sizeOf112
  v36 := Try.zeroValue112
  t41 := Try.underlying65
  a41 := Try.isAgg65
  z41 := Try.sizeOf65
  v41 := Try.zeroValue65
  t44 := Try.underlying119
  a44 := Try.isAgg119
  z44 := Try.sizeOf119
  v44 := Try.zeroValue119
  t46 := Try.underlying121
  a46 := Try.isAgg121
  z46 := Try.sizeOf121
  v46 := Try.zeroValue121
  t53 := Try.underlying125
  a53 := Try.isAgg125
  z53 := Try.sizeOf125
  v53 := Try.zeroValue125
  t57 := Try.underlying68
  a57 := Try.isAgg68
  z57 := Try.sizeOf68
  v57 := Try.zeroValue68
  t63 := Try.underlying138
  a63 := Try.isAgg138
  z63 := Try.sizeOf138
  v63 := Try.zeroValue138
  t64 := Try.underlying139
  a64 := Try.isAgg139
  z64 := Try.sizeOf139
  v64 := Try.zeroValue139 }
open Go.Maps Go.Sort
theorem Try.sortsA (m : Nat) : AnyZI.SortsIn Try.prog Try.sortedA_ren Fence.wide m :=
  ⟨fun blk off cap ss W hH hblk hsz => callsIn_wide.2 (AnyM.slices_Sort_int Try.sortA blk off cap ss W hH hblk hsz),
   fun p cap W => callsIn_wide.2 (AnyM.slices_Sort_int_none Try.sortA p cap W)⟩
end
section
theorem mem_insert_key {H : Type} {x p : Lit × DataW H} : ∀ {l : List (Lit × DataW H)}, p ∈ DataW.insert x l → p = x ∨ p ∈ l
  | [], h => by
    simp [DataW.insert] at h
    exact .inl h
  | y :: l, h => by
    unfold DataW.insert at h
    split at h
    · rcases List.mem_cons.1 h with h | h
      · exact .inl h
      · exact .inr h
    · rcases List.mem_cons.1 h with rfl | h
      · exact .inr (by simp)
      · rcases mem_insert_key h with h | h
        · exact .inl h
        · exact .inr (List.mem_cons_of_mem _ h)
def KI {H : Type} (D : DataW H) : Prop := ∃ es, D = .map es ∧ ∀ p ∈ es, ∃ x, p.1 = Lit.int .i64 x
theorem KI.put {H : Type} {D : DataW H} (h : KI D) (x : Int) (d : DataW H) : KI (D.put (.int .i64 x) d) := by
  obtain ⟨es, rfl, h⟩ := h
  refine ⟨_, rfl, fun p hp => ?_⟩
  rcases mem_insert_key hp with rfl | hp
  · exact ⟨x, rfl⟩
  · exact h p (List.mem_filter.1 hp).1
theorem ki_fold {H : Type} (u : DataW H) : ∀ (acc : List Int) (m : DataW H), KI m → KI ((acc.map (Lit.int .i64)).foldl (fun m x => m.put x u) m)
  | [], m, h => h
  | x :: acc, m, h => ki_fold u acc _ (h.put x u)
theorem keyLits (acc : List Int) : ∀ x ∈ acc.map (Lit.int .i64), WideAt.IsKeyLit x := by
  intro x hx
  obtain ⟨a, _, rfl⟩ := List.mem_map.1 hx
  trivial
/-- The numbers from 1 to 8 that are on a list. -/
def usedL (acc : List Int) : List Int := [1, 2, 3, 4, 5, 6, 7, 8].filter fun k => acc.contains k
theorem used_perm (acc : List Int) (hr : ∀ x ∈ acc, 1 ≤ x ∧ x ≤ 8) : (usedL acc).Perm (intKeys (setI acc)) := by
  obtain ⟨es, he, hp⟩ := Go.Maps.tidy_setOf (.lit (.bool true) : DataW Unit) (acc.map (Lit.int .i64)) (keyLits acc)
  obtain ⟨es', he', hk⟩ := ki_fold (.lit (.bool true) : DataW Unit) acc (.map []) ⟨[], rfl, fun p hp => by cases hp⟩
  have hs : setI acc = .map es := he
  have hes : es' = es := by
    have h1 : (DataW.map es' : DataW Unit) = .map es := he'.symm.trans he
    injection h1
  subst hes
  rw [hs]
  refine perm_intKeys hp hk (List.Pairwise.filter _ (by decide)) fun x => ?_
  rw [← hs]
  unfold setI
  rw [Go.Maps.has_setOf _ _ _ (keyLits acc), List.any_eq_true]
  unfold usedL
  rw [List.mem_filter, List.contains_iff_mem]
  constructor
  · rintro ⟨_, h⟩
    exact ⟨_, List.mem_map.2 ⟨x, h, rfl⟩, by simp [Lit.sameKey]⟩
  · rintro ⟨y, hy, h⟩
    obtain ⟨a, ha, rfl⟩ := List.mem_map.1 hy
    have hax : a = x := by simpa [Lit.sameKey] using h
    subst hax
    have := hr a ha
    refine ⟨?_, ha⟩
    simp
    omega
theorem used_sorted (acc : List Int) : (usedL acc).mergeSort (fun x y => decide (x ≤ y)) = usedL acc := by
  refine List.mergeSort_of_pairwise ?_
  unfold usedL
  refine List.Pairwise.filter _ ?_
  decide
theorem var_range : ∀ (n : Nat) (e : S24), wfE n e → ∀ x ∈ varF n e, 1 ≤ x ∧ x ≤ 8
  | 0, e, h => h.elim
  | n + 1, e, h => by
    intro x hx
    unfold varF at hx
    obtain ⟨⟨lo, hi, kids, hs, hk, h0, h1⟩, hks⟩ := h
    rcases List.mem_append.1 hx with hx | hx
    · by_cases h4 : e.f0 = 4
      · rw [if_pos h4] at hx
        rw [List.mem_singleton.1 hx]
        rw [h4] at hs
        simp [shapeP] at hs
        omega
      · rw [if_neg h4] at hx; cases hx
    · obtain ⟨k, hk', hx⟩ := List.mem_flatMap.1 hx
      exact var_range n k (hks k hk') x hx
/-- What Uses returns. -/
def usesP (e : S24) : List Int × Int := if validE e = true then (usedL (varF 30 e), 0) else ([], 1)
theorem size_setI (acc : List Int) : Maps.size (setI acc) ≤ acc.length := by
  unfold setI
  rw [Go.Maps.size_setOf _ _ (keyLits acc)]
  have h : ∀ (l L : List Lit), (l.foldl Go.Maps.addKey L).length ≤ L.length + l.length := by
    intro l
    induction l with
    | nil => intro L; simp
    | cons x l ih =>
      intro L
      rw [List.foldl_cons]
      have := ih (Go.Maps.addKey L x)
      have h2 : (Go.Maps.addKey L x).length ≤ L.length + 1 := by
        unfold Go.Maps.addKey
        split
        · omega
        · simp
      rw [List.length_cons]
      omega
  have := h (acc.map (Lit.int .i64)) []
  simpa using this
theorem uses_room {n : Nat} (h : n ≤ 2 ^ 30) : 0 + n < maxLen ∧ n ≤ maxLen ∧ n * 8 ≤ 140737488355328 := by
  unfold maxLen
  have h2 : (2 : Nat) ^ 30 = 1073741824 := by decide
  omega
def value_Uses.f (a0_0 a0_1 : Int) (l0_2 : List S24) : Option (List Int × Int) := some (usesP ⟨a0_0, a0_1, l0_2⟩)
end
section
open Go.Proofs.YtdigjjncoeaiiaaGlib
def valsG (f : Int → Option Int) : Nat → Int → List Int → Option (List Int)
  | 0, _, acc => some acc
  | n + 1, z, acc => match f z with | none => none | some x => valsG f n (z + 1) (acc ++ [x])
/-- What Curve returns. -/
def curveP (k : Nat) (e : S24) (lo hi scale : Int) (v : List Int) : Option (List S57 × Int) :=
  if (validE e && (inI scale 50 300 && v.all coordB)) = true ∧ ¬ lo < 0 ∧ ¬ hi < lo ∧ ¬ 4000 < hi then
    (if 4000 ≤ hi - lo then some ([], 2) else match valsG (fun z => evF z scale v 30 e) (hi - lo + 1).toNat lo [] with | none => some ([], 3) | some ys => curve_Make.f k lo ys)
  else some ([], 1)
theorem valsG_none {f : Int → Option Int} {n : Nat} {z : Int} {acc : List Int} {r : Option (List Int)} (h : valsG f (n + 1) z acc = r) (hz : f z = none) : r = none := by
  rw [← h]; unfold valsG; rw [hz]
theorem valsG_step {f : Int → Option Int} {n : Nat} {z x : Int} {acc : List Int} {r : Option (List Int)} (h : valsG f (n + 1) z acc = r) (hz : f z = some x) : valsG f n (z + 1) (acc ++ [x]) = r := by
  rw [← h]; conv => rhs; unfold valsG
  rw [hz]
def lenOf : Value → Nat
  | .slice _ n _ => n
  | _ => 0
theorem lenOf_R {W : World} {base : Nat} {ok : Nat → Prop} {v : Value} {ys : List Int} (h : Kd.R (Kd.int .i64) 3 W base ok v ys) : lenOf v = ys.length := by
  obtain ⟨A, c, rfl⟩ := Kd.R_slice h
  rfl
structure CurvI (w : World) (e : S24) (A : Option Addr) (c : Nat) (lo hi scale x0 x1 x2 x3 x4 x5 x6 x7 : Int) (z : Int) (W : World) : Prop where
  hb : Below w.heap.size w W
  b1 : W.heap[w.heap.size]? = some (.cells #[.int .i64 e.f0, .int .i64 e.f1, .slice A e.f2.length c] 24)
  b2 : W.heap[w.heap.size + 1]? = some (.cells #[.int .i64 lo, .int .i64 hi] 27)
  b3 : W.heap[w.heap.size + 1 + 1 + 1]? = some (.cells #[.int .i64 z, .int .i64 scale, .int .i64 x0, .int .i64 x1, .int .i64 x2, .int .i64 x3, .int .i64 x4, .int .i64 x5, .int .i64 x6, .int .i64 x7] 59)
theorem CurvI.below {w : World} {e : S24} {A : Option Addr} {c : Nat} {lo hi z scale x0 x1 x2 x3 x4 x5 x6 x7 : Int} {W W1 : World} (h : CurvI w e A c lo hi scale x0 x1 x2 x3 x4 x5 x6 x7 z W) (hs : Below W.heap.size W W1) : CurvI w e A c lo hi scale x0 x1 x2 x3 x4 x5 x6 x7 z W1 :=
  ⟨below_step h.hb hs, blk_below h.b1 hs, blk_below h.b2 hs, blk_below h.b3 hs⟩
theorem CurvI.grown {w : World} {e : S24} {A : Option Addr} {c : Nat} {lo hi z scale x0 x1 x2 x3 x4 x5 x6 x7 : Int} {W W1 : World} (h : CurvI w e A c lo hi scale x0 x1 x2 x3 x4 x5 x6 x7 z W) (hb : Below w.heap.size w W1) {r : Option Nat} (hg : W.grownBy W1 r) (h1 : some w.heap.size ≠ r) (h2 : some (w.heap.size + 1) ≠ r) (h3 : some (w.heap.size + 1 + 1 + 1) ≠ r) : CurvI w e A c lo hi scale x0 x1 x2 x3 x4 x5 x6 x7 z W1 :=
  ⟨hb, blk_grown h.b1 hg h1, blk_grown h.b2 hg h2, blk_grown h.b3 hg h3⟩
theorem CurvI.set {w : World} {e : S24} {A : Option Addr} {c : Nat} {lo hi z scale x0 x1 x2 x3 x4 x5 x6 x7 : Int} {W : World} (h : CurvI w e A c lo hi scale x0 x1 x2 x3 x4 x5 x6 x7 z W) (u : Int) : CurvI w e A c lo hi scale x0 x1 x2 x3 x4 x5 x6 x7 u (W.setCell ⟨w.heap.size + 1 + 1 + 1, 0, none⟩ (.int .i64 u)) :=
  ⟨below_set h.hb (by omega), (Below.heap_setCell _ _ _ _ (by show w.heap.size ≠ w.heap.size + 1 + 1 + 1; omega)).trans h.b1, (Below.heap_setCell _ _ _ _ (by show w.heap.size + 1 ≠ w.heap.size + 1 + 1 + 1; omega)).trans h.b2, blk_set h.b3 0 _⟩
theorem CurvI.up {w : World} {e : S24} {A : Option Addr} {c : Nat} {lo hi z scale x0 x1 x2 x3 x4 x5 x6 x7 : Int} {W W1 : World} {N : Nat} (h : CurvI w e A c lo hi scale x0 x1 x2 x3 x4 x5 x6 x7 z W) (hs : Below N W W1) (hN : w.heap.size + 1 + 1 + 1 < N) : CurvI w e A c lo hi scale x0 x1 x2 x3 x4 x5 x6 x7 z W1 :=
  ⟨h.hb.trans (hs.mono (by omega)), (hs.block _ (by omega)).trans h.b1, (hs.block _ (by omega)).trans h.b2, (hs.block _ hN).trans h.b3⟩
def value_Curve.f (k : Nat) (a0_0 : Int) (a0_1 : Int) (l0_2 : List (S24)) (a1_0 : Int) (a1_1 : Int) (a2 : Int) (a3_0 a3_1 a3_2 a3_3 a3_4 a3_5 a3_6 a3_7 : Int) : Option (List S57 × Int) := curveP k ⟨a0_0, a0_1, l0_2⟩ a1_0 a1_1 a2 [a3_0, a3_1, a3_2, a3_3, a3_4, a3_5, a3_6, a3_7]
theorem value_Curve.mono (a0_0 : Int) (a0_1 : Int) (l0_2 : List (S24)) (a1_0 : Int) (a1_1 : Int) (a2 : Int) (a3_0 a3_1 a3_2 a3_3 a3_4 a3_5 a3_6 a3_7 : Int) (k : Nat) : LeO (value_Curve.f k a0_0 a0_1 l0_2 a1_0 a1_1 a2 a3_0 a3_1 a3_2 a3_3 a3_4 a3_5 a3_6 a3_7) (value_Curve.f (k + 1) a0_0 a0_1 l0_2 a1_0 a1_1 a2 a3_0 a3_1 a3_2 a3_3 a3_4 a3_5 a3_6 a3_7) := by
  unfold value_Curve.f curveP
  refine LeO.ite (LeO.ite (LeO.refl _) ?_) (LeO.refl _)
  cases valsG (fun z => evF z a2 [a3_0, a3_1, a3_2, a3_3, a3_4, a3_5, a3_6, a3_7] 30 ⟨a0_0, a0_1, l0_2⟩) (a1_1 - a1_0 + 1).toNat a1_0 [] with
  | none => exact LeO.refl _
  | some ys => exact curve_Make.mono _ _ _
end
section
attribute [local go_sem high] eqA57
def formeref02_Same.l0 : Nat → List (S57) → List (S57) → Int → Option (Bool)
  | 0, _, _, _ => none
  | k + 1, x0, x1, x5 => if x5 < (x0.length : Int) then (if 0 ≤ x5 then (if x5 < (x1.length : Int) then (if (!(((rd_T57 x0 x5).f0) == ((rd_T57 x1 x5).f0)) || (!(((rd_T57 x0 x5).f1) == ((rd_T57 x1 x5).f1)) || ((!(((rd_T57 x0 x5).f2.f0) == ((rd_T57 x1 x5).f2.f0)) || (!(((rd_T57 x0 x5).f2.f1) == ((rd_T57 x1 x5).f2.f1)) || (!(((rd_T57 x0 x5).f2.f2) == ((rd_T57 x1 x5).f2.f2)))))))) = true then (some false) else (formeref02_Same.l0 k x0 x1 (wrap64 (x5 + 1)))) else (none)) else (none)) else (some true)
def formeref02_Same.f (k : Nat) (l0 : List (S57)) (l1 : List (S57)) : Option (Bool) := if (l0.length : Int) = (l1.length : Int) then (formeref02_Same.l0 k l0 l1 0) else (some false)
theorem formeref02_Same.mono_l : ∀ k, (∀ y0 y1 y2, LeO (formeref02_Same.l0 k y0 y1 y2) (formeref02_Same.l0 (k + 1) y0 y1 y2))
  | 0 => fun _ _ _ r h => by simp [formeref02_Same.l0] at h
  | k + 1 => by
    have ih0 := formeref02_Same.mono_l k
    · intro y0 y1 y2
      unfold formeref02_Same.l0
      repeat' first
      | (with_reducible exact ih0 _ _ _)
      | (with_reducible exact LeO.refl _)
      | (with_reducible exact LeO.none _)
      | (with_reducible refine LeO.ite ?_ ?_)
      | (with_reducible refine LeO.bind ?_ (fun _ => ?_))
      | exact ih0 _ _ _
      | exact LeO.none _
      | refine LeO.ite ?_ ?_
      | refine LeO.bind ?_ (fun _ => ?_)
theorem formeref02_Same.mono : ∀ a0 a1 k, LeO (formeref02_Same.f k a0 a1) (formeref02_Same.f (k + 1) a0 a1) := by
  intro a0 a1 k
  have ih0 := formeref02_Same.mono_l k
  unfold formeref02_Same.f
  repeat' first
      | (with_reducible exact ih0 _ _ _)
      | (with_reducible exact LeO.refl _)
      | (with_reducible exact LeO.none _)
      | (with_reducible refine LeO.ite ?_ ?_)
      | (with_reducible refine LeO.bind ?_ (fun _ => ?_))
      | exact ih0 _ _ _
      | exact LeO.none _
      | refine LeO.ite ?_ ?_
      | refine LeO.bind ?_ (fun _ => ?_)
def formelaw14_two.f (a0 : Int) (a1_0 : Int) (a1_1 : Int) (l1_2 : List (S24)) (a2_0 : Int) (a2_1 : Int) (l2_2 : List (S24)) : Option (Int × Int × (List (S24))) := some (a0, 0, (([(⟨a1_0, a1_1, l1_2⟩ : S24), (⟨a2_0, a2_1, l2_2⟩ : S24)] : List (S24))))
def formelaw14_one.f (a0 : Int) (a1 : Int) (a2_0 : Int) (a2_1 : Int) (l2_2 : List (S24)) : Option (Int × Int × (List (S24))) := some (a0, a1, (([(⟨a2_0, a2_1, l2_2⟩ : S24)] : List (S24))))
end
section
open Go.Proofs.YtdigjjncoeaiiaaGlib
def lessE : S24 := ⟨8, 2, [⟨6, 0, [⟨2, 100, []⟩, ⟨4, 2, []⟩]⟩]⟩
def partL : List S57 := [⟨250, 254, ⟨1, 219, 2⟩⟩]
set_option maxRecDepth 100000 in
theorem ex_1 : evalP ⟨2, 33, []⟩ 250 150 [0, 31, 0, 0, 0, 0, 0, 0] = (82, 0) := by kernel_rfl
set_option maxRecDepth 100000 in
theorem ex_2 : evalP ⟨3, 5, []⟩ 250 150 [0, 31, 0, 0, 0, 0, 0, 0] = (7, 0) := by kernel_rfl
set_option maxRecDepth 100000 in
theorem ex_3 : evalP ⟨3, -5, []⟩ 250 150 [0, 31, 0, 0, 0, 0, 0, 0] = (-8, 0) := by kernel_rfl
set_option maxRecDepth 100000 in
theorem ex_4 : evalP lessE 250 150 [0, 31, 0, 0, 0, 0, 0, 0] = (109, 0) := by kernel_rfl
set_option maxRecDepth 100000 in
theorem ex_5 : evalP lessE 250 49 [0, 31, 0, 0, 0, 0, 0, 0] = (0, 1) := by kernel_rfl
set_option maxRecDepth 100000 in
theorem ex_uses : usesP lessE = ([2], 0) := by kernel_rfl
set_option maxRecDepth 100000 in
theorem ex_curve : curveP 20 lessE 250 253 150 [0, 31, 0, 0, 0, 0, 0, 0] = some (partL, 0) := by kernel_rfl
set_option maxRecDepth 100000 in
theorem ex_bad : validE ⟨0, 0, []⟩ = false := by kernel_rfl
theorem ex_same : formeref02_Same.f 9 partL partL = some true := by kernel_rfl
theorem C_blk57 {w : World} {g : Nat} {fr : Nat × Nat} {a b c d e : Int} (h : w.heap[g]? = some (.cells #[.int .i64 a, .int .i64 b, .int .i64 c, .int .i64 d, .int .i64 e] 57 fr)) : Kd.C k57 w (some ⟨g, 0, none⟩) 1 [⟨a, b, ⟨c, d, e⟩⟩] := by
  refine ⟨rfl, by omega, fun _ => ⟨_, rfl, fun j p hj => ?_⟩⟩
  obtain rfl : j = 0 := by have := (List.getElem?_eq_some_iff.1 hj).1; simp at this; exact this
  obtain rfl : p = ⟨a, b, ⟨c, d, e⟩⟩ := by simp at hj; exact hj.symm
  refine ⟨_, rfl, k57_mk w _, fun i u hi => ?_⟩
  show w.cell? ((⟨g, 0, none⟩ : Addr).add (0 * 5 + i)) = _
  rw [add_plain, show w.cell? ⟨g, 0 * 5 + i, none⟩ = (#[Value.int .i64 a, Value.int .i64 b, Value.int .i64 c, Value.int .i64 d, Value.int .i64 e] : Array Value)[0 * 5 + i]? from by simp [World.cell?, h], Nat.zero_mul, Nat.zero_add, ← Array.getElem?_toList]
  exact hi
def formelaw14_head.f : Option Bool := some true
end
section
def formeref14_in.f (a0 : Int) (a1 : Int) (a2 : Int) : Option (Bool) := if a1 ≤ a0 then (some (decide (a0 ≤ a2))) else (some false)
def formeref14_node.f (a0_0 : Int) (a0_1 : Int) (l0_2 : List (S24)) : Option (Bool) := if a0_0 = 1 then (if (l0_2.length : Int) = 0 then ((formeref14_in.f a0_1 (-1000000) 1000000).bind fun t196 => (some t196)) else (some false)) else (if a0_0 = 2 then (if (l0_2.length : Int) = 0 then ((formeref14_in.f a0_1 (-10000) 10000).bind fun t197 => (some t197)) else (some false)) else (if a0_0 = 3 then (if (l0_2.length : Int) = 0 then ((formeref14_in.f a0_1 (-10000) 10000).bind fun t198 => (some t198)) else (some false)) else (if a0_0 = 4 then (if (l0_2.length : Int) = 0 then ((formeref14_in.f a0_1 1 8).bind fun t199 => (some t199)) else (some false)) else (if a0_0 = 7 then (if (l0_2.length : Int) = 1 then ((formeref14_in.f a0_1 (-1000) 1000).bind fun t200 => (some t200)) else (some false)) else (if a0_0 = 8 then (if (l0_2.length : Int) = 1 then ((formeref14_in.f a0_1 1 1000).bind fun t201 => (some t201)) else (some false)) else (if a0_0 = 5 then (if (l0_2.length : Int) = 2 then (some (a0_1 == 0)) else (some false)) else (if a0_0 = 6 then (if (l0_2.length : Int) = 2 then (some (a0_1 == 0)) else (some false)) else (if a0_0 = 9 then (if (l0_2.length : Int) = 2 then (some (a0_1 == 0)) else (some false)) else (if a0_0 = 10 then (if (l0_2.length : Int) = 2 then (some (a0_1 == 0)) else (some false)) else (some false))))))))))
mutual
def formeref14_size.j0 : Nat → Int → Int → Bool → Int → Int → List (S24) → Option (Int)
  | 0, _, _, _, _, _, _ => none
  | k + 1, x1, x2, x21, x203000, x203001, x203002 => if x21 = true then (some 1000) else (formeref14_size.l0 k x1 x2 1 0 x203000 x203001 x203002)
def formeref14_size.l0 : Nat → Int → Int → Int → Int → Int → Int → List (S24) → Option (Int)
  | 0, _, _, _, _, _, _, _ => none
  | k + 1, x1, x2, x8, x9, x203000, x203001, x203002 => if x9 < (x203002.length : Int) then (if 0 ≤ x9 then ((formeref14_size.f k ((rd_T24 x203002 x9).f0) ((rd_T24 x203002 x9).f1) ((rd_T24 x203002 x9).f2) (wrap64 (x1 - 1)) (wrap64 (x2 - x8))).bind fun t205 => (if (wrap64 (x8 + t205)) > x2 then (some 1000) else (formeref14_size.l0 k x1 x2 (wrap64 (x8 + t205)) (wrap64 (x9 + 1)) x203000 x203001 x203002))) else (none)) else (some x8)
def formeref14_size.f : Nat → Int → Int → List (S24) → Int → Int → Option (Int)
  | 0, _, _, _, _, _ => none
  | k + 1, a0_0, a0_1, l0_2, a1, a2 => (formeref14_node.f a0_0 a0_1 l0_2).bind fun t203 => (if t203 = true then (if a1 < 1 then (formeref14_size.j0 k a1 a2 true a0_0 a0_1 l0_2) else (formeref14_size.j0 k a1 a2 (decide (a2 < 1)) a0_0 a0_1 l0_2)) else (formeref14_size.j0 k a1 a2 true a0_0 a0_1 l0_2))
end
theorem formeref14_size.mono_l : ∀ k, (∀ y0 y1 y2 y3 y4, LeO (formeref14_size.f k y0 y1 y2 y3 y4) (formeref14_size.f (k + 1) y0 y1 y2 y3 y4)) ∧ (∀ y0 y1 y2 y3 y4 y5, LeO (formeref14_size.j0 k y0 y1 y2 y3 y4 y5) (formeref14_size.j0 (k + 1) y0 y1 y2 y3 y4 y5)) ∧ (∀ y0 y1 y2 y3 y4 y5 y6, LeO (formeref14_size.l0 k y0 y1 y2 y3 y4 y5 y6) (formeref14_size.l0 (k + 1) y0 y1 y2 y3 y4 y5 y6))
  | 0 => ⟨fun _ _ _ _ _ r h => by simp [formeref14_size.f] at h, fun _ _ _ _ _ _ r h => by simp [formeref14_size.j0] at h, fun _ _ _ _ _ _ _ r h => by simp [formeref14_size.l0] at h⟩
  | k + 1 => by
    obtain ⟨ih0, ih1, ih2⟩ := formeref14_size.mono_l k
    refine ⟨?_, ?_, ?_⟩
    · intro y0 y1 y2 y3 y4
      unfold formeref14_size.f
      repeat' first
      | (with_reducible exact ih0 _ _ _ _ _)
      | (with_reducible exact ih1 _ _ _ _ _ _)
      | (with_reducible exact ih2 _ _ _ _ _ _ _)
      | (with_reducible exact LeO.refl _)
      | (with_reducible exact LeO.none _)
      | (with_reducible refine LeO.ite ?_ ?_)
      | (with_reducible refine LeO.bind ?_ (fun _ => ?_))
      | exact ih0 _ _ _ _ _
      | exact ih1 _ _ _ _ _ _
      | exact ih2 _ _ _ _ _ _ _
      | exact LeO.none _
      | refine LeO.ite ?_ ?_
      | refine LeO.bind ?_ (fun _ => ?_)
    · intro y0 y1 y2 y3 y4 y5
      unfold formeref14_size.j0
      repeat' first
      | (with_reducible exact ih0 _ _ _ _ _)
      | (with_reducible exact ih1 _ _ _ _ _ _)
      | (with_reducible exact ih2 _ _ _ _ _ _ _)
      | (with_reducible exact LeO.refl _)
      | (with_reducible exact LeO.none _)
      | (with_reducible refine LeO.ite ?_ ?_)
      | (with_reducible refine LeO.bind ?_ (fun _ => ?_))
      | exact ih0 _ _ _ _ _
      | exact ih1 _ _ _ _ _ _
      | exact ih2 _ _ _ _ _ _ _
      | exact LeO.none _
      | refine LeO.ite ?_ ?_
      | refine LeO.bind ?_ (fun _ => ?_)
    · intro y0 y1 y2 y3 y4 y5 y6
      unfold formeref14_size.l0
      repeat' first
      | (with_reducible exact ih0 _ _ _ _ _)
      | (with_reducible exact ih1 _ _ _ _ _ _)
      | (with_reducible exact ih2 _ _ _ _ _ _ _)
      | (with_reducible exact LeO.refl _)
      | (with_reducible exact LeO.none _)
      | (with_reducible refine LeO.ite ?_ ?_)
      | (with_reducible refine LeO.bind ?_ (fun _ => ?_))
      | exact ih0 _ _ _ _ _
      | exact ih1 _ _ _ _ _ _
      | exact ih2 _ _ _ _ _ _ _
      | exact LeO.none _
      | refine LeO.ite ?_ ?_
      | refine LeO.bind ?_ (fun _ => ?_)
theorem formeref14_size.mono : ∀ a0 a1 a2 a3 a4 k, LeO (formeref14_size.f k a0 a1 a2 a3 a4) (formeref14_size.f (k + 1) a0 a1 a2 a3 a4) := by
  intro a0 a1 a2 a3 a4 k
  obtain ⟨ih0, ih1, ih2⟩ := formeref14_size.mono_l k
  exact ih0 a0 a1 a2 a3 a4
def formeref14_Valid.f (k : Nat) (a0_0 : Int) (a0_1 : Int) (l0_2 : List (S24)) : Option (Bool) := (formeref14_size.f k a0_0 a0_1 l0_2 30 100).bind fun t207 => (some (decide (t207 ≤ 100)))
theorem formeref14_Valid.mono : ∀ a0 a1 a2 k, LeO (formeref14_Valid.f k a0 a1 a2) (formeref14_Valid.f (k + 1) a0 a1 a2) := by
  intro a0 a1 a2 k
  unfold formeref14_Valid.f
  repeat' first
      | (with_reducible exact formeref14_size.mono _ _ _ _ _ _)
      | (with_reducible exact LeO.refl _)
      | (with_reducible exact LeO.none _)
      | (with_reducible refine LeO.ite ?_ ?_)
      | (with_reducible refine LeO.bind ?_ (fun _ => ?_))
      | exact formeref14_size.mono _ _ _ _ _ _
      | exact LeO.none _
      | refine LeO.ite ?_ ?_
      | refine LeO.bind ?_ (fun _ => ?_)
end
section
structure VarI (w : World) (e : S24) (A : Option Addr) (c : Nat) (x0 x1 x2 x3 x4 x5 x6 x7 y0 y1 y2 y3 y4 y5 y6 y7 : Int) (W : World) : Prop where
  hb : Below w.heap.size w W
  b1 : W.heap[w.heap.size]? = some (.cells #[.int .i64 e.f0, .int .i64 e.f1, .slice A e.f2.length c] 24)
  b2 : W.heap[w.heap.size + 1]? = some (.cells #[.int .i64 x0, .int .i64 x1, .int .i64 x2, .int .i64 x3, .int .i64 x4, .int .i64 x5, .int .i64 x6, .int .i64 x7] 25)
  b3 : W.heap[w.heap.size + 1 + 1]? = some (.cells #[.int .i64 y0, .int .i64 y1, .int .i64 y2, .int .i64 y3, .int .i64 y4, .int .i64 y5, .int .i64 y6, .int .i64 y7] 25)
theorem VarI.below {w : World} {e : S24} {A : Option Addr} {c : Nat} {x0 x1 x2 x3 x4 x5 x6 x7 y0 y1 y2 y3 y4 y5 y6 y7 : Int} {W W1 : World} (h : VarI w e A c x0 x1 x2 x3 x4 x5 x6 x7 y0 y1 y2 y3 y4 y5 y6 y7 W) (hs : Below W.heap.size W W1) : VarI w e A c x0 x1 x2 x3 x4 x5 x6 x7 y0 y1 y2 y3 y4 y5 y6 y7 W1 :=
  ⟨below_step h.hb hs, blk_below h.b1 hs, blk_below h.b2 hs, blk_below h.b3 hs⟩
theorem VarI.up {w : World} {e : S24} {A : Option Addr} {c : Nat} {x0 x1 x2 x3 x4 x5 x6 x7 y0 y1 y2 y3 y4 y5 y6 y7 : Int} {W W1 : World} {N : Nat} (h : VarI w e A c x0 x1 x2 x3 x4 x5 x6 x7 y0 y1 y2 y3 y4 y5 y6 y7 W) (hs : Below N W W1) (hN : w.heap.size + 1 + 1 < N) : VarI w e A c x0 x1 x2 x3 x4 x5 x6 x7 y0 y1 y2 y3 y4 y5 y6 y7 W1 :=
  ⟨h.hb.trans (hs.mono (by omega)), (hs.block _ (by omega)).trans h.b1, (hs.block _ (by omega)).trans h.b2, (hs.block _ hN).trans h.b3⟩
theorem VarI.at2 {w : World} {e : S24} {A : Option Addr} {c : Nat} {x0 x1 x2 x3 x4 x5 x6 x7 y0 y1 y2 y3 y4 y5 y6 y7 : Int} {W : World} (h : VarI w e A c x0 x1 x2 x3 x4 x5 x6 x7 y0 y1 y2 y3 y4 y5 y6 y7 W) : Arr8 (w.heap.size + 1) [x0, x1, x2, x3, x4, x5, x6, x7] W := by
  refine ⟨rfl, fun i hi => ?_⟩
  rw [blk_cell h.b2 i]
  match i, hi with
  | 0, _ => rfl
  | 1, _ => rfl
  | 2, _ => rfl
  | 3, _ => rfl
  | 4, _ => rfl
  | 5, _ => rfl
  | 6, _ => rfl
  | 7, _ => rfl
theorem VarI.at3 {w : World} {e : S24} {A : Option Addr} {c : Nat} {x0 x1 x2 x3 x4 x5 x6 x7 y0 y1 y2 y3 y4 y5 y6 y7 : Int} {W : World} (h : VarI w e A c x0 x1 x2 x3 x4 x5 x6 x7 y0 y1 y2 y3 y4 y5 y6 y7 W) : Arr8 (w.heap.size + 1 + 1) [y0, y1, y2, y3, y4, y5, y6, y7] W := by
  refine ⟨rfl, fun i hi => ?_⟩
  rw [blk_cell h.b3 i]
  match i, hi with
  | 0, _ => rfl
  | 1, _ => rfl
  | 2, _ => rfl
  | 3, _ => rfl
  | 4, _ => rfl
  | 5, _ => rfl
  | 6, _ => rfl
  | 7, _ => rfl
end
section
def formelaw14_ValueOrder.j0 : Nat → Int → Int → Bool → Bool → Int → Int → Int → Int → Int → Int → Int → Int → Int → Int → List (S24) → Int → Int → List (S24) → Int → Int → List (S24) → Option (Bool)
  | 0, _, _, _, _, _, _, _, _, _, _, _, _, _, _, _, _, _, _, _, _, _ => none
  | k + 1, x2, x3, x11, x46, x331000, x331001, x331002, x331003, x331004, x331005, x331006, x331007, x355000, x355001, x355002, x356000, x356001, x356002, x362000, x362001, x362002 => if x46 = true then (some x11) else ((value_Eval.f x355000 x355001 x355002 x2 x3 x331000 x331001 x331002 x331003 x331004 x331005 x331006 x331007).bind fun bt364 => ((value_Eval.f x356000 x356001 x356002 x2 x3 x331000 x331001 x331002 x331003 x331004 x331005 x331006 x331007).bind fun bt366 => ((value_Eval.f x362000 x362001 x362002 x2 x3 x331000 x331001 x331002 x331003 x331004 x331005 x331006 x331007).bind fun bt368 => (if x11 = true then (if bt364.1 = bt366.1 then (if bt364.2 = bt366.2 then (if bt368.2 = 0 then (some (decide (bt368.1 ≥ 0))) else (some true)) else (some false)) else (some false)) else (some false)))))
def formelaw14_ValueOrder.f (k : Nat) (a0_0 : Int) (a0_1 : Int) (l0_2 : List (S24)) (a1_0 : Int) (a1_1 : Int) (l1_2 : List (S24)) (a2 : Int) (a3 : Int) (a4_0 : Int) (a4_1 : Int) (a4_2 : Int) (a4_3 : Int) (a4_4 : Int) (a4_5 : Int) (a4_6 : Int) (a4_7 : Int) : Option (Bool) := (formelaw14_head.f).bind fun t331 => ((formelaw14_two.f 9 a0_0 a0_1 l0_2 a1_0 a1_1 l1_2).bind fun bt332 => ((formelaw14_two.f 10 a0_0 a0_1 l0_2 a1_0 a1_1 l1_2).bind fun bt337 => ((formelaw14_two.f 5 bt332.1 bt332.2.1 bt332.2.2 bt337.1 bt337.2.1 bt337.2.2).bind fun bt344 => ((formelaw14_two.f 5 a0_0 a0_1 l0_2 a1_0 a1_1 l1_2).bind fun bt349 => ((formelaw14_two.f 6 bt337.1 bt337.2.1 bt337.2.2 bt332.1 bt332.2.1 bt332.2.2).bind fun bt356 => ((formeref14_Valid.f k bt344.1 bt344.2.1 bt344.2.2).bind fun t362 => (if t362 = true then ((formeref14_Valid.f k bt356.1 bt356.2.1 bt356.2.2).bind fun t363 => (formelaw14_ValueOrder.j0 k a2 a3 t331 (!t363) a4_0 a4_1 a4_2 a4_3 a4_4 a4_5 a4_6 a4_7 bt344.1 bt344.2.1 bt344.2.2 bt349.1 bt349.2.1 bt349.2.2 bt356.1 bt356.2.1 bt356.2.2)) else (formelaw14_ValueOrder.j0 k a2 a3 t331 true a4_0 a4_1 a4_2 a4_3 a4_4 a4_5 a4_6 a4_7 bt344.1 bt344.2.1 bt344.2.2 bt349.1 bt349.2.1 bt349.2.2 bt356.1 bt356.2.1 bt356.2.2))))))))
theorem formelaw14_ValueOrder.mono_l : ∀ k, (∀ y0 y1 y2 y3 y4 y5 y6 y7 y8 y9 y10 y11 y12 y13 y14 y15 y16 y17 y18 y19 y20, LeO (formelaw14_ValueOrder.j0 k y0 y1 y2 y3 y4 y5 y6 y7 y8 y9 y10 y11 y12 y13 y14 y15 y16 y17 y18 y19 y20) (formelaw14_ValueOrder.j0 (k + 1) y0 y1 y2 y3 y4 y5 y6 y7 y8 y9 y10 y11 y12 y13 y14 y15 y16 y17 y18 y19 y20))
  | 0 => fun _ _ _ _ _ _ _ _ _ _ _ _ _ _ _ _ _ _ _ _ _ r h => by simp [formelaw14_ValueOrder.j0] at h
  | k + 1 => by
    have ih0 := formelaw14_ValueOrder.mono_l k
    · intro y0 y1 y2 y3 y4 y5 y6 y7 y8 y9 y10 y11 y12 y13 y14 y15 y16 y17 y18 y19 y20
      unfold formelaw14_ValueOrder.j0
      repeat' first
      | (with_reducible exact ih0 _ _ _ _ _ _ _ _ _ _ _ _ _ _ _ _ _ _ _ _ _)
      | (with_reducible exact formeref14_Valid.mono _ _ _ _)
      | (with_reducible exact LeO.refl _)
      | (with_reducible exact LeO.none _)
      | (with_reducible refine LeO.ite ?_ ?_)
      | (with_reducible refine LeO.bind ?_ (fun _ => ?_))
      | exact ih0 _ _ _ _ _ _ _ _ _ _ _ _ _ _ _ _ _ _ _ _ _
      | exact formeref14_Valid.mono _ _ _ _
      | exact LeO.none _
      | refine LeO.ite ?_ ?_
      | refine LeO.bind ?_ (fun _ => ?_)
theorem formelaw14_ValueOrder.mono : ∀ a0 a1 a2 a3 a4 a5 a6 a7 a8 a9 a10 a11 a12 a13 a14 a15 k, LeO (formelaw14_ValueOrder.f k a0 a1 a2 a3 a4 a5 a6 a7 a8 a9 a10 a11 a12 a13 a14 a15) (formelaw14_ValueOrder.f (k + 1) a0 a1 a2 a3 a4 a5 a6 a7 a8 a9 a10 a11 a12 a13 a14 a15) := by
  intro a0 a1 a2 a3 a4 a5 a6 a7 a8 a9 a10 a11 a12 a13 a14 a15 k
  have ih0 := formelaw14_ValueOrder.mono_l k
  unfold formelaw14_ValueOrder.f
  repeat' first
      | (with_reducible exact ih0 _ _ _ _ _ _ _ _ _ _ _ _ _ _ _ _ _ _ _ _ _)
      | (with_reducible exact formeref14_Valid.mono _ _ _ _)
      | (with_reducible exact LeO.refl _)
      | (with_reducible exact LeO.none _)
      | (with_reducible refine LeO.ite ?_ ?_)
      | (with_reducible refine LeO.bind ?_ (fun _ => ?_))
      | exact ih0 _ _ _ _ _ _ _ _ _ _ _ _ _ _ _ _ _ _ _ _ _
      | exact formeref14_Valid.mono _ _ _ _
      | exact LeO.none _
      | refine LeO.ite ?_ ?_
      | refine LeO.bind ?_ (fun _ => ?_)
def formelaw14_ValueOrder.T2 : Bool × List (List Nat × List Nat) := (true, [([], []), ([], []), ([0, 1], [0, 1]), ([], []), ([], []), ([3, 4, 2], [3, 4]), ([], []), ([], []), ([6, 2, 5, 0, 1, 2, 6, 7], [2, 6]), ([7, 5, 8, 0, 1, 2, 3, 4, 5, 6, 7, 8], [5, 7])])
def formelaw14_ValueOrder.B2 : List Nat := [0, 0, 3, 0, 0, 31, 0, 0, 255, 511]
theorem formelaw14_ValueOrder.tab2 : rtab .any (opsOf Try.f8 2) = formelaw14_ValueOrder.T2 := by kernel_rfl
theorem formelaw14_ValueOrder.bits2 : waitsOk formelaw14_ValueOrder.T2.2 formelaw14_ValueOrder.B2 = true := by kernel_rfl
def formelaw14_ValueOrder.T3 : Bool × List (List Nat × List Nat) := (true, [([], []), ([], []), ([0, 1], [0, 1]), ([], []), ([], []), ([3, 4, 2], [3, 4]), ([], []), ([], []), ([6, 2, 5, 0, 1, 2, 6, 7], [2, 6]), ([7, 5, 8, 0, 1, 2, 3, 4, 5, 6, 7, 8], [5, 7])])
def formelaw14_ValueOrder.B3 : List Nat := [0, 0, 3, 0, 0, 31, 0, 0, 255, 511]
theorem formelaw14_ValueOrder.tab3 : rtab .any (opsOf Try.f8 3) = formelaw14_ValueOrder.T3 := by kernel_rfl
theorem formelaw14_ValueOrder.bits3 : waitsOk formelaw14_ValueOrder.T3.2 formelaw14_ValueOrder.B3 = true := by kernel_rfl
end
end Go.Proofs.Ytdigjjncoeaiiaa.PAll
