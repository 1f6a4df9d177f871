/- Printed by a program of this session (wip/gprint.py) over the translation, cut to what is named (wip/dcut.py). Not trusted: Lean checks it. -/
import Derived.Test.YtacohlafmbhcdaaGreatProg
import Derived.Below
import Derived.Deep.Draws
import Derived.Deep.AppendLies
import Derived.Maps.AppendAt
import Derived.OwnWalk
import Derived.Laws.BytesArg
import Derived.Laws.MakeOwn
import Derived.Laws.OwnMore
import Derived.Deep.OwnRows
import Derived.Tactics
import Derived.Lib.ConvBytes
import Derived.Laws.Slices
import Derived.WalkKit
import Derived.KernelRfl
import Derived.RowKit3
import Derived.Deep.LoopGhost
import Derived.Deep.QuietTactic
import Derived.BigQuiet
import Derived.WideLaws
import Derived.Deep.DeepCutAuto
import Derived.Deep.CutBlock
import Derived.Deep.RegionHeld3
import Derived.Laws.Rows
import Derived.Lib.AppendStr
import Derived.ArgAppend
import Derived.Laws.IdiomCopy
import Derived.OrdersHeld
import Derived.Laws.BitsLemmas
import Derived.RowKit
import Derived.Test.YtacohlafmbhcdaaGreatVWords
import Derived.Test.YtacohlafmbhcdaaGreatVLast
import Derived.Test.YtacohlafmbhcdaaGreatVTab
import Derived.Test.YtacohlafmbhcdaaGreatVApart
import Derived.Test.YtacohlafmbhcdaaGreatVArr
import Derived.Test.YtacohlafmbhcdaaGreatVZeros
import Derived.Test.YtacohlafmbhcdaaGreatVFoot
import Derived.Test.YtacohlafmbhcdaaGreatVKept
import Derived.Test.YtacohlafmbhcdaaGreatVShare
import Derived.Test.YtacohlafmbhcdaaGreatVN
import Derived.Test.YtacohlafmbhcdaaGreatVEqStruct
import Derived.Test.YtacohlafmbhcdaaGreatVRepsOne
import Derived.Test.YtacohlafmbhcdaaGreatVInv
import Derived.Test.YtacohlafmbhcdaaGreatVMore
import Derived.Shelf.SlGeneric
import Derived.Shelf.SlLaysF0
import Derived.Shelf.Sort.Plain
import Derived.Shelf.Slices.In.SortNone
import Derived.Sort.OwnSortedInts
import Derived.Shelf.Slices.CompactI
import Derived.Shelf.SlSortCmp.WholeK
import Derived.Shelf.SlSortCmp.NoneTotal
import Derived.Test.YtacohlafmbhcdaaGreatGlib
import Derived.Lib.SliceRun
import Derived.RangeFuncNested
import Derived.RangeFuncFrom
import Derived.BigFrameIn
import Derived.OwnWalkIn
import Derived.TacticsInMore
import Derived.LoopNIn
import Derived.LoopIn
import Derived.Shelf.AbstractIn
import Derived.Scope
import Derived.Laws.EntriesVeiled
import Derived.Maps.OwnIn
import Derived.RangeFuncLeaves
namespace Go.Proofs.YtacohlafmbhcdaaGreat.PAll
open Go.RowKit Go.Proofs.YtacohlafmbhcdaaGreatW.PrintWords Go.Proofs.YtacohlafmbhcdaaGreatW.PrintLast Go.Proofs.YtacohlafmbhcdaaGreatW.PrintMore
attribute [local go_sem] max2_int min2_int max_two min_two max_three min_three max_four min_four -- for this text's walks alone
set_option linter.unusedVariables false
set_option linter.unusedSimpArgs false
section
def errW : Option Int → Value
 | none => .nilIface
 | some c => .iface 0 (.int .i64 c)
theorem errW_none : errW none = .nilIface := rfl
theorem errW_some (c : Int) : errW (some c) = .iface 0 (.int .i64 c) := rfl
theorem info3 : (Tryz.prog.info? 3).map (fun i => (i.zero, i.size, i.bytes)) = some (some (.int .i64 0), 1, 8) := by kernel_rfl
theorem info40 : (Tryz.prog.info? 40).map (fun i => (i.zero, i.size, i.bytes)) = some (some (.agg #[(.int .i64 0), (.int .i64 0)]), 2, 16) := by kernel_rfl
theorem info42 : (Tryz.prog.info? 42).map (fun i => (i.zero, i.size, i.bytes)) = some (some (.agg #[(.int .i64 0), (.int .i64 0), (.int .i64 0), (.int .i64 0), (.int .i64 0)]), 5, 40) := by kernel_rfl
structure S40 where
 f0 : Int
 f1 : Int
def z40 : S40 := ⟨(0 : Int), (0 : Int)⟩
def k40 : Kd S40 := Kd.iso (Kd.pair (Kd.int .i64) (Kd.int .i64)) (fun x : S40 => (x.f0, x.f1))
theorem k40_open {w : World} {x : S40} {cs : List Value} (h : k40.K w x cs) : cs = [.int .i64 x.f0, .int .i64 x.f1] := by
 obtain ⟨_, _, rfl, rfl, rfl⟩ := h
 exact rfl
theorem k40_openM {w : World} {base : Nat} {ok : Nat → Prop} {x : S40} {cs : List Value} (h : k40.M w base ok x cs) : cs = [.int .i64 x.f0, .int .i64 x.f1] := by
 obtain ⟨_, _, rfl, rfl, rfl⟩ := h
 exact rfl
theorem k40_mk (w : World) (x : S40)  : k40.K w x [.int .i64 x.f0, .int .i64 x.f1] := ⟨[.int .i64 x.f0], [.int .i64 x.f1], rfl, rfl, rfl⟩
theorem k40_mkM (w : World) (base : Nat) (ok : Nat → Prop) (x : S40)  : k40.M w base ok x [.int .i64 x.f0, .int .i64 x.f1] := ⟨[.int .i64 x.f0], [.int .i64 x.f1], rfl, rfl, rfl⟩
def rd_T40 (xs : List S40) (i : Int) : S40 := xs.getD i.toNat z40
theorem at_T40 {w : World} {A : Option Addr} {n : Nat} {xs : List S40} (h : Kd.C k40 w A n xs) (i : Int) (h0 : 0 ≤ i) (h1 : i < n) : ∃ ad , A = some ad ∧ w.cell? (ad.add (i.toNat * 2)) = some (.int .i64 (rd_T40 xs i).f0) ∧ w.cell? ⟨(ad.add (i.toNat * 2)).block, (ad.add (i.toNat * 2)).off + 1, none⟩ = some (.int .i64 (rd_T40 xs i).f1) := by
 obtain ⟨ad, c, e, _, hK, hc0⟩ := Kd.C_get h z40 i h0 h1
 have hc : ∀ j u, c[j]? = some u → w.cell? (ad.add (i.toNat * 2 + j)) = some u := hc0
 obtain rfl := k40_open hK
 exact ⟨ad, e, hc 0 _ rfl, by rw [← add_field _ _ 1 (by omega)]; exact hc 1 _ rfl⟩
structure S42 where
 f0 : Int
 f1 : S40
 f2 : S40
def z42 : S42 := ⟨(0 : Int), z40, z40⟩
def k42 : Kd S42 := Kd.iso (Kd.pair (Kd.int .i64) (Kd.pair k40 k40)) (fun x : S42 => (x.f0, x.f1, x.f2))
theorem k42_open {w : World} {x : S42} {cs : List Value} (h : k42.K w x cs) : cs = [.int .i64 x.f0, .int .i64 x.f1.f0, .int .i64 x.f1.f1, .int .i64 x.f2.f0, .int .i64 x.f2.f1] := by
 obtain ⟨_, _, rfl, rfl, ⟨_, _, rfl, s1, s3⟩⟩ := h
 obtain rfl := k40_open s1
 obtain rfl := k40_open s3
 exact rfl
theorem k42_mk (w : World) (x : S42)  : k42.K w x [.int .i64 x.f0, .int .i64 x.f1.f0, .int .i64 x.f1.f1, .int .i64 x.f2.f0, .int .i64 x.f2.f1] := ⟨[.int .i64 x.f0], [.int .i64 x.f1.f0, .int .i64 x.f1.f1, .int .i64 x.f2.f0, .int .i64 x.f2.f1], rfl, rfl, ⟨[.int .i64 x.f1.f0, .int .i64 x.f1.f1], [.int .i64 x.f2.f0, .int .i64 x.f2.f1], rfl, (k40_mk w x.f1 ), (k40_mk w x.f2 )⟩⟩
theorem k42_mkM (w : World) (base : Nat) (ok : Nat → Prop) (x : S42)  : k42.M w base ok x [.int .i64 x.f0, .int .i64 x.f1.f0, .int .i64 x.f1.f1, .int .i64 x.f2.f0, .int .i64 x.f2.f1] := ⟨[.int .i64 x.f0], [.int .i64 x.f1.f0, .int .i64 x.f1.f1, .int .i64 x.f2.f0, .int .i64 x.f2.f1], rfl, rfl, ⟨[.int .i64 x.f1.f0, .int .i64 x.f1.f1], [.int .i64 x.f2.f0, .int .i64 x.f2.f1], rfl, (k40_mkM w base ok x.f1 ), (k40_mkM w base ok x.f2 )⟩⟩
def rd_T42 (xs : List S42) (i : Int) : S42 := xs.getD i.toNat z42
theorem at_T42 {w : World} {A : Option Addr} {n : Nat} {xs : List S42} (h : Kd.C k42 w A n xs) (i : Int) (h0 : 0 ≤ i) (h1 : i < n) : ∃ ad , A = some ad ∧ w.cell? (ad.add (i.toNat * 5)) = some (.int .i64 (rd_T42 xs i).f0) ∧ w.cell? ⟨(ad.add (i.toNat * 5)).block, (ad.add (i.toNat * 5)).off + 1, none⟩ = some (.int .i64 (rd_T42 xs i).f1.f0) ∧ w.cell? ⟨(ad.add (i.toNat * 5)).block, (ad.add (i.toNat * 5)).off + 2, none⟩ = some (.int .i64 (rd_T42 xs i).f1.f1) ∧ w.cell? ⟨(ad.add (i.toNat * 5)).block, (ad.add (i.toNat * 5)).off + 3, none⟩ = some (.int .i64 (rd_T42 xs i).f2.f0) ∧ w.cell? ⟨(ad.add (i.toNat * 5)).block, (ad.add (i.toNat * 5)).off + 4, none⟩ = some (.int .i64 (rd_T42 xs i).f2.f1) := by
 obtain ⟨ad, c, e, _, hK, hc0⟩ := Kd.C_get h z42 i h0 h1
 have hc : ∀ j u, c[j]? = some u → w.cell? (ad.add (i.toNat * 5 + j)) = some u := hc0
 obtain rfl := k42_open hK
 exact ⟨ad, e, hc 0 _ rfl, by rw [← add_field _ _ 1 (by omega)]; exact hc 1 _ rfl, by rw [← add_field _ _ 2 (by omega)]; exact hc 2 _ rfl, by rw [← add_field _ _ 3 (by omega)]; exact hc 3 _ rfl, by rw [← add_field _ _ 4 (by omega)]; exact hc 4 _ rfl⟩
structure S24 where
 f0 : Int
 f1 : Int
 f2 : Int
def k24 : Kd S24 := Kd.iso (Kd.pair (Kd.int .i64) (Kd.pair (Kd.int .i64) (Kd.int .i64))) (fun x : S24 => (x.f0, x.f1, x.f2))
theorem k24_open {w : World} {x : S24} {cs : List Value} (h : k24.K w x cs) : cs = [.int .i64 x.f0, .int .i64 x.f1, .int .i64 x.f2] := by
 obtain ⟨_, _, rfl, rfl, ⟨_, _, rfl, rfl, rfl⟩⟩ := h
 exact rfl
end
section
theorem eqA40 (d : Nat) (w : World) (x0 y0 : Int) (x1 y1 : Int) :
  (Op.equalIn (d + 2) 40 (.agg #[.int .i64 x0, .int .i64 x1]) (.agg #[.int .i64 y0, .int .i64 y1])).run Tryz.prog w = .ok (x0 == y0 && (x1 == y1)) w := by
 refine eqA_of Tryz.underlying40 (by kernel_rfl) ?_
 refine eqf_cons (by rfl) (by go_simp; rfl) (by go_simp; rfl) (by go_simp) ?_
 exact eqf_last (by rfl) (by go_simp; rfl) (by go_simp; rfl) (by go_simp)
end
section
theorem eqA42 (d : Nat) (w : World) (x0 y0 : Int) (x1 y1 : Int) (x2 y2 : Int) (x3 y3 : Int) (x4 y4 : Int) :
  (Op.equalIn (d + 3) 42 (.agg #[.int .i64 x0, .int .i64 x1, .int .i64 x2, .int .i64 x3, .int .i64 x4]) (.agg #[.int .i64 y0, .int .i64 y1, .int .i64 y2, .int .i64 y3, .int .i64 y4])).run Tryz.prog w = .ok (x0 == y0 && ((x1 == y1 && (x2 == y2)) && ((x3 == y3 && (x4 == y4))))) w := by
 refine eqA_of Tryz.underlying42 (by kernel_rfl) ?_
 refine eqf_cons (by rfl) (by go_simp; rfl) (by go_simp; rfl) (by go_simp) ?_
 refine eqf_cons (by rfl) (by go_simp) (by go_simp) (eqA40 (d + 0) w _ _ _ _) ?_
 exact eqf_last (by rfl) (by go_simp) (by go_simp) (eqA40 (d + 0) w _ _ _ _)
end
section
def cmp_isNaN_int.f (a0 : Int) : Option (Bool) := some (a0 != a0)
def cmp_Compare_int.f (a0 : Int) (a1 : Int) : Option (Int) := (cmp_isNaN_int.f a0).bind fun t101 => ((cmp_isNaN_int.f a1).bind fun t102 => (if t101 = true then (if t102 = true then (some 0) else (some (-1))) else (if t102 = true then (some 1) else (if a0 < a1 then (some (-1)) else (if a0 > a1 then (some 1) else (some 0))))))
def cmp_Or_int.l0 : Nat → Int → List Int → Int → Int → Option (Int)
 | 0, _, _, _, _ => none
 | k + 1, x3, x6, x7, x8 => if x8 < x7 then (if 0 ≤ x8 then (if x8 < (x6.length : Int) then (if (rd x6 x8) = x3 then (cmp_Or_int.l0 k x3 x6 x7 (wrap64 (x8 + 1))) else (some (rd x6 x8))) else (none)) else (none)) else (some x3)
def cmp_Or_int.f (k : Nat) (l0 : List Int) : Option (Int) := cmp_Or_int.l0 k 0 l0 (l0.length : Int) 0
theorem cmp_Or_int.mono_l : ∀ k, (∀ y0 y1 y2 y3, LeO (cmp_Or_int.l0 k y0 y1 y2 y3) (cmp_Or_int.l0 (k + 1) y0 y1 y2 y3))
 | 0 => fun _ _ _ _ r h => by simp [cmp_Or_int.l0] at h
 | k + 1 => by
  have ih0 := cmp_Or_int.mono_l k
  · intro y0 y1 y2 y3
    unfold cmp_Or_int.l0
    repeat' first
    | (with_reducible exact ih0 _ _ _ _)
    | (with_reducible exact LeO.refl _)
    | (with_reducible exact LeO.none _)
    | (with_reducible refine LeO.ite ?_ ?_)
    | (with_reducible refine LeO.bind ?_ (fun _ => ?_))
    | exact ih0 _ _ _ _
    | exact LeO.none _
    | refine LeO.ite ?_ ?_
    | refine LeO.bind ?_ (fun _ => ?_)
theorem cmp_Or_int.mono : ∀ a0 k, LeO (cmp_Or_int.f k a0) (cmp_Or_int.f (k + 1) a0) := by
 intro a0 k
 have ih0 := cmp_Or_int.mono_l k
 unfold cmp_Or_int.f
 repeat' first
   | (with_reducible exact ih0 _ _ _ _)
   | (with_reducible exact LeO.refl _)
   | (with_reducible exact LeO.none _)
   | (with_reducible refine LeO.ite ?_ ?_)
   | (with_reducible refine LeO.bind ?_ (fun _ => ?_))
   | exact ih0 _ _ _ _
   | exact LeO.none _
   | refine LeO.ite ?_ ?_
   | refine LeO.bind ?_ (fun _ => ?_)
def zone_within.f (a0_0 : Int) (a0_1 : Int) (a1 : Int) (a2 : Int) : Option (Bool) := if a1 ≤ a0_0 then (if a0_0 ≤ a0_1 then (some (decide (a0_1 ≤ a2))) else (some false)) else (some false)
def zone_valid.f (a0_0 : Int) (a0_1 : Int) (a0_2 : Int) (a0_3 : Int) (a0_4 : Int) : Option (Bool) := if 0 ≤ a0_0 then (if a0_0 < 4 then ((zone_within.f a0_1 a0_2 50 300).bind fun t106 => (if t106 = true then ((zone_within.f a0_3 a0_4 200 4000).bind fun t107 => (some t107)) else (some false))) else (some false)) else (some false)
def zone_one.f (a0_0 : Int) (a0_1 : Int) (a0_2 : Int) : Option (Int × Int × Int × Int × Int) := some (a0_2, a0_1, a0_1, a0_0, a0_0)
def zone_has.f (a0_0 : Int) (a0_1 : Int) (a1 : Int) : Option (Bool) := if a0_0 ≤ a1 then (some (decide (a1 ≤ a0_1))) else (some false)
end
section
instance decS33 : DecidableEq S40 := fun a b => if h : a.f0 = b.f0 ∧ a.f1 = b.f1 then isTrue (by cases a; cases b; simp_all) else isFalse (by rintro rfl; exact h ⟨rfl, rfl⟩)
instance decS35 : DecidableEq S42 := fun a b => if h : a.f0 = b.f0 ∧ a.f1 = b.f1 ∧ a.f2 = b.f2 then isTrue (by cases a; cases b; simp_all) else isFalse (by rintro rfl; exact h ⟨rfl, rfl, rfl⟩)
def mem (n : Int) (l : List S40) : Prop := ∃ r ∈ l, r.f0 ≤ n ∧ n ≤ r.f1
theorem mem_nil {n : Int} : ¬ mem n [] := by rintro ⟨r, h, _⟩; cases h
theorem mem_cons {n : Int} {r : S40} {l : List S40} : mem n (r :: l) ↔ (r.f0 ≤ n ∧ n ≤ r.f1) ∨ mem n l := by
 constructor
 · rintro ⟨s, hs, h⟩
   rcases List.mem_cons.1 hs with rfl | hs
   · exact .inl h
   · exact .inr ⟨s, hs, h⟩
 · rintro (h | ⟨s, hs, h⟩)
   · exact ⟨r, List.mem_cons_self, h⟩
   · exact ⟨s, List.mem_cons_of_mem _ hs, h⟩
theorem mem_append {n : Int} {a b : List S40} : mem n (a ++ b) ↔ mem n a ∨ mem n b := by
 constructor
 · rintro ⟨s, hs, h⟩
   rcases List.mem_append.1 hs with hs | hs
   · exact .inl ⟨s, hs, h⟩
   · exact .inr ⟨s, hs, h⟩
 · rintro (⟨s, hs, h⟩ | ⟨s, hs, h⟩)
   · exact ⟨s, List.mem_append_left _ hs, h⟩
   · exact ⟨s, List.mem_append_right _ hs, h⟩
theorem mem_perm {n : Int} {a b : List S40} (h : a.Perm b) : mem n a ↔ mem n b := by
 constructor
 · rintro ⟨s, hs, h'⟩
   exact ⟨s, h.mem_iff.1 hs, h'⟩
 · rintro ⟨s, hs, h'⟩
   exact ⟨s, h.mem_iff.2 hs, h'⟩
instance memDec (n : Int) (l : List S40) : Decidable (mem n l) := by unfold mem; infer_instance
/-- Rising, none touching the next, all from b on. -/
def CanF : Int → List S40 → Prop
 | _, [] => True
 | b, r :: l => b ≤ r.f0 ∧ r.f0 ≤ r.f1 ∧ CanF (r.f1 + 2) l
theorem CanF.mono : ∀ {l : List S40} {b c : Int}, CanF b l → c ≤ b → CanF c l
 | [], _, _, _, _ => trivial
 | _ :: _, _, _, h, hc => ⟨by have := h.1; omega, h.2.1, h.2.2⟩
theorem CanF.low : ∀ {l : List S40} {b n : Int}, CanF b l → mem n l → b ≤ n
 | [], _, _, _, h => absurd h mem_nil
 | r :: l, b, n, h, hm => by
  rcases mem_cons.1 hm with h' | h'
  · have := h.1
    omega
  · have := CanF.low h.2.2 h'
    have h1 := h.1
    have h2 := h.2.1
    omega
/-- There is one such list for each set. -/
theorem can_unique : ∀ {a b : List S40} {B : Int}, CanF B a → CanF B b → (∀ n, mem n a ↔ mem n b) → a = b
 | [], [], _, _, _, _ => rfl
 | [], s :: b, B, _, hb, h => absurd ((h s.f0).2 (mem_cons.2 (.inl ⟨by omega, hb.2.1⟩))) mem_nil
 | r :: a, [], B, ha, _, h => absurd ((h r.f0).1 (mem_cons.2 (.inl ⟨by omega, ha.2.1⟩))) mem_nil
 | r :: a, s :: b, B, ha, hb, h => by
  have ha1 := ha.2.1
  have hb1 := hb.2.1
  have e0 : r.f0 = s.f0 := by
   rcases mem_cons.1 ((h r.f0).1 (mem_cons.2 (.inl ⟨by omega, ha.2.1⟩))) with h1 | h1
   · rcases mem_cons.1 ((h s.f0).2 (mem_cons.2 (.inl ⟨by omega, hb.2.1⟩))) with h2 | h2
     · omega
     · have := CanF.low ha.2.2 h2
       omega
   · have h3 := CanF.low hb.2.2 h1
     rcases mem_cons.1 ((h s.f0).2 (mem_cons.2 (.inl ⟨by omega, hb.2.1⟩))) with h2 | h2
     · omega
     · have := CanF.low ha.2.2 h2
       omega
  have e1 : r.f1 = s.f1 := by
   rcases Int.lt_trichotomy r.f1 s.f1 with h1 | h1 | h1
   · rcases mem_cons.1 ((h (r.f1 + 1)).2 (mem_cons.2 (.inl ⟨by omega, by omega⟩))) with h2 | h2
     · omega
     · have := CanF.low ha.2.2 h2
       omega
   · exact h1
   · rcases mem_cons.1 ((h (s.f1 + 1)).1 (mem_cons.2 (.inl ⟨by omega, by omega⟩))) with h2 | h2
     · omega
     · have := CanF.low hb.2.2 h2
       omega
  have er : r = s := by
   obtain ⟨r0, r1⟩ := r
   obtain ⟨s0, s1⟩ := s
   simp only at e0 e1
   rw [e0, e1]
  subst er
  have et : a = b := can_unique ha.2.2 hb.2.2 fun n => by
   constructor
   · intro hn
     have h3 := CanF.low ha.2.2 hn
     rcases mem_cons.1 ((h n).1 (mem_cons.2 (.inr hn))) with h2 | h2
     · omega
     · exact h2
   · intro hn
     have h3 := CanF.low hb.2.2 hn
     rcases mem_cons.1 ((h n).2 (mem_cons.2 (.inr hn))) with h2 | h2
     · omega
     · exact h2
  rw [et]
theorem can_uniq {a b : List S40} {A B : Int} (ha : CanF A a) (hb : CanF B b) (h : ∀ n, mem n a ↔ mem n b) : a = b :=
 can_unique (ha.mono (c := min A B) (by omega)) (hb.mono (c := min A B) (by omega)) h
def Ok (l : List S40) : Prop := ∀ r ∈ l, r.f0 ≤ r.f1
def putJ : List S40 → S40 → List S40
 | [], x => [x]
 | r :: l, x => if r.f0 ≤ x.f1 + 1 then putJ l ⟨min x.f0 r.f0, max x.f1 r.f1⟩ else x :: r :: l
def putP : List S40 → S40 → List S40
 | [], x => [x]
 | r :: l, x => if r.f1 + 1 < x.f0 then r :: putP l x else putJ (r :: l) x
theorem putJ_can : ∀ (l : List S40) (x : S40) (B : Int), CanF B l → x.f0 ≤ x.f1 → x.f0 ≤ B + 1 → ∀ C, C ≤ B → C ≤ x.f0 → CanF C (putJ l x) ∧ ∀ n, mem n (putJ l x) ↔ (x.f0 ≤ n ∧ n ≤ x.f1) ∨ mem n l
 | [], x, B, _, hx, _, C, _, h2 => ⟨⟨h2, hx, trivial⟩, fun n => by simp [putJ, mem_cons]⟩
 | r :: l, x, B, hl, hx, hB, C, h1, h2 => by
  have hl0 := hl.1
  have hl1 := hl.2.1
  simp only [putJ]
  by_cases h : r.f0 ≤ x.f1 + 1
  · rw [if_pos h]
    obtain ⟨a, b⟩ := putJ_can l ⟨min x.f0 r.f0, max x.f1 r.f1⟩ (r.f1 + 2) hl.2.2 (by simp only; omega) (by simp only; omega) C (by omega) (by simp only; omega)
    refine ⟨a, fun n => ?_⟩
    rw [b n, mem_cons]
    simp only
    constructor
    · rintro (h3 | h3)
      · by_cases h4 : x.f0 ≤ n ∧ n ≤ x.f1
        · exact .inl h4
        · exact .inr (.inl (by omega))
      · exact .inr (.inr h3)
    · rintro (h3 | h3 | h3)
      · exact .inl (by omega)
      · exact .inl (by omega)
      · exact .inr h3
  · rw [if_neg h]
    refine ⟨⟨h2, hx, by omega, hl.2.1, hl.2.2⟩, fun n => by rw [mem_cons]⟩
theorem putP_can : ∀ (l : List S40) (x : S40) (B : Int), CanF B l → x.f0 ≤ x.f1 → ∀ C, C ≤ B → C ≤ x.f0 → CanF C (putP l x) ∧ ∀ n, mem n (putP l x) ↔ (x.f0 ≤ n ∧ n ≤ x.f1) ∨ mem n l
 | [], x, B, _, hx, C, _, h2 => ⟨⟨h2, hx, trivial⟩, fun n => by simp [putP, mem_cons]⟩
 | r :: l, x, B, hl, hx, C, h1, h2 => by
  have hl0 := hl.1
  have hl1 := hl.2.1
  simp only [putP]
  by_cases h : r.f1 + 1 < x.f0
  · rw [if_pos h]
    obtain ⟨a, b⟩ := putP_can l x (r.f1 + 2) hl.2.2 hx (r.f1 + 2) (by omega) (by omega)
    refine ⟨⟨by omega, hl.2.1, a⟩, fun n => ?_⟩
    rw [mem_cons, b n, mem_cons]
    constructor
    · rintro (h3 | h3 | h3)
      · exact .inr (.inl h3)
      · exact .inl h3
      · exact .inr (.inr h3)
    · rintro (h3 | h3 | h3)
      · exact .inr (.inl h3)
      · exact .inl h3
      · exact .inr (.inr h3)
  · rw [if_neg h]
    by_cases h5 : r.f0 ≤ x.f1 + 1
    · simp only [putJ]
      rw [if_pos h5]
      obtain ⟨a, b⟩ := putJ_can l ⟨min x.f0 r.f0, max x.f1 r.f1⟩ (r.f1 + 2) hl.2.2 (by simp only; omega) (by simp only; omega) C (by omega) (by simp only; omega)
      refine ⟨a, fun n => ?_⟩
      rw [b n, mem_cons]
      simp only
      constructor
      · rintro (h3 | h3)
        · by_cases h4 : x.f0 ≤ n ∧ n ≤ x.f1
          · exact .inl h4
          · exact .inr (.inl (by omega))
        · exact .inr (.inr h3)
      · rintro (h3 | h3 | h3)
        · exact .inl (by omega)
        · exact .inl (by omega)
        · exact .inr h3
    · simp only [putJ]
      rw [if_neg h5]
      exact ⟨⟨h2, hx, by omega, hl.2.1, hl.2.2⟩, fun n => by rw [mem_cons]⟩
/-- Ranges put one after the other. -/
def layAll (out l : List S40) : List S40 := l.foldl putP out
theorem layAll_can : ∀ (l out : List S40) (B : Int), CanF B out → Ok l → (∀ r ∈ l, B ≤ r.f0) → CanF B (layAll out l) ∧ ∀ n, mem n (layAll out l) ↔ mem n out ∨ mem n l
 | [], out, B, h, _, _ => ⟨h, fun n => by simp [layAll, mem_nil]⟩
 | x :: l, out, B, h, hl, hb => by
  obtain ⟨a, b⟩ := putP_can out x B h (hl x List.mem_cons_self) B (Int.le_refl _) (hb x List.mem_cons_self)
  obtain ⟨c, d⟩ := layAll_can l (putP out x) B a (fun r hr => hl r (List.mem_cons_of_mem _ hr)) (fun r hr => hb r (List.mem_cons_of_mem _ hr))
  refine ⟨c, fun n => ?_⟩
  show mem n (layAll (putP out x) l) ↔ _
  rw [d n, b n, mem_cons]
  constructor
  · rintro ((h3 | h3) | h3)
    · exact .inr (.inl h3)
    · exact .inl h3
    · exact .inr (.inr h3)
  · rintro (h3 | h3 | h3)
    · exact .inl (.inr h3)
    · exact .inl (.inl h3)
    · exact .inr h3
def less1 : Int → Int → List S40 → List S40
 | lo, hi, [] => if lo ≤ hi then [⟨lo, hi⟩] else []
 | lo, hi, b :: bs => if b.f1 < lo ∨ b.f0 > hi then less1 lo hi bs else if b.f0 > lo then ⟨lo, b.f0 - 1⟩ :: less1 (b.f1 + 1) hi bs else less1 (b.f1 + 1) hi bs
def lessP (a b : List S40) : List S40 := a.flatMap fun r => less1 r.f0 r.f1 b
theorem less1_can : ∀ (bs : List S40) (lo hi B : Int), CanF B bs → CanF lo (less1 lo hi bs) ∧ (∀ n, mem n (less1 lo hi bs) ↔ lo ≤ n ∧ n ≤ hi ∧ ¬ mem n bs)
 | [], lo, hi, B, _ => by
  simp only [less1]
  by_cases h : lo ≤ hi
  · rw [if_pos h]
    exact ⟨⟨Int.le_refl _, h, trivial⟩, fun n => by simp [mem_cons, mem_nil]⟩
  · rw [if_neg h]
    exact ⟨trivial, fun n => by simp only [mem_nil, false_iff, not_and]; omega⟩
 | b :: bs, lo, hi, B, hb => by
  have hb1 := hb.2.1
  simp only [less1]
  by_cases h : b.f1 < lo ∨ b.f0 > hi
  · rw [if_pos h]
    obtain ⟨c, d⟩ := less1_can bs lo hi (b.f1 + 2) hb.2.2
    refine ⟨c, fun n => ?_⟩
    rw [d n, mem_cons]
    constructor
    · rintro ⟨h1, h2, h3⟩
      refine ⟨h1, h2, fun h4 => ?_⟩
      rcases h4 with h4 | h4
      · omega
      · exact h3 h4
    · rintro ⟨h1, h2, h3⟩
      exact ⟨h1, h2, fun h4 => h3 (.inr h4)⟩
  · rw [if_neg h]
    obtain ⟨c, d⟩ := less1_can bs (b.f1 + 1) hi (b.f1 + 2) hb.2.2
    have hlow : ∀ n, mem n bs → b.f1 + 2 ≤ n := fun n hn => CanF.low hb.2.2 hn
    by_cases h5 : b.f0 > lo
    · rw [if_pos h5]
      refine ⟨⟨Int.le_refl _, by simp only; omega, c.mono (by simp only; omega)⟩, fun n => ?_⟩
      rw [mem_cons, d n, mem_cons]
      simp only
      constructor
      · rintro (h1 | ⟨h1, h2, h3⟩)
        · refine ⟨by omega, by omega, fun h4 => ?_⟩
          rcases h4 with h4 | h4
          · omega
          · have := hlow n h4
            omega
        · refine ⟨by omega, h2, fun h4 => ?_⟩
          rcases h4 with h4 | h4
          · omega
          · exact h3 h4
      · rintro ⟨h1, h2, h3⟩
        by_cases h6 : n ≤ b.f0 - 1
        · exact .inl ⟨h1, h6⟩
        · refine .inr ⟨?_, h2, fun h4 => h3 (.inr h4)⟩
          rcases Int.lt_or_le b.f1 n with h7 | h7
          · omega
          · exact absurd (.inl ⟨by omega, h7⟩) h3
    · rw [if_neg h5]
      refine ⟨c.mono (by omega), fun n => ?_⟩
      rw [d n, mem_cons]
      constructor
      · rintro ⟨h1, h2, h3⟩
        refine ⟨by omega, h2, fun h4 => ?_⟩
        rcases h4 with h4 | h4
        · omega
        · exact h3 h4
      · rintro ⟨h1, h2, h3⟩
        refine ⟨?_, h2, fun h4 => h3 (.inr h4)⟩
        rcases Int.lt_or_le b.f1 n with h7 | h7
        · omega
        · exact absurd (.inl ⟨by omega, h7⟩) h3
theorem can_append : ∀ {a b : List S40} {A B : Int}, CanF A a → CanF B b → (∀ r ∈ a, r.f1 + 2 ≤ B) → A ≤ B → CanF A (a ++ b)
 | [], _, _, _, _, hb, _, h => hb.mono h
 | r :: a, b, A, B, ha, hb, h, hAB => ⟨ha.1, ha.2.1, can_append ha.2.2 hb (fun s hs => h s (List.mem_cons_of_mem _ hs)) (h r List.mem_cons_self)⟩
theorem lessP_can : ∀ (a b : List S40) (A B : Int), CanF A a → CanF B b → CanF A (lessP a b) ∧ ∀ n, mem n (lessP a b) ↔ mem n a ∧ ¬ mem n b
 | [], b, A, B, _, _ => ⟨trivial, fun n => by simp [lessP, mem_nil]⟩
 | r :: a, b, A, B, ha, hb => by
  obtain ⟨c, d⟩ := less1_can b r.f0 r.f1 B hb
  obtain ⟨e, f⟩ := lessP_can a b (r.f1 + 2) B ha.2.2 hb
  have ha0 := ha.1
  have ha1 := ha.2.1
  have hs : lessP (r :: a) b = less1 r.f0 r.f1 b ++ lessP a b := by simp [lessP]
  have hok : ∀ s ∈ less1 r.f0 r.f1 b, s.f1 ≤ r.f1 := by
   intro s hs
   have hcan : ∀ {l : List S40} {C : Int}, CanF C l → ∀ s ∈ l, s.f0 ≤ s.f1 := by
    intro l
    induction l with
    | nil => intro _ _ s hs; cases hs
    | cons t l ih =>
     intro C h s hs
     rcases List.mem_cons.1 hs with rfl | hs
     · exact h.2.1
     · exact ih h.2.2 s hs
   have := (d s.f1).1 ⟨s, hs, hcan c s hs, Int.le_refl _⟩
   omega
  rw [hs]
  refine ⟨can_append (c.mono ha0) e (fun s hs => by have := hok s hs; omega) (by omega), fun n => ?_⟩
  rw [mem_append, d n, f n, mem_cons]
  constructor
  · rintro (⟨h1, h2, h3⟩ | ⟨h1, h2⟩)
    · exact ⟨.inl ⟨h1, h2⟩, h3⟩
    · exact ⟨.inr h1, h2⟩
  · rintro ⟨h1 | h1, h2⟩
    · exact .inl ⟨h1.1, h1.2, h2⟩
    · exact .inr ⟨h1, h2⟩
theorem CanF.ok : ∀ {l : List S40} {C : Int}, CanF C l → Ok l
 | [], _, _ => fun s hs => by cases hs
 | t :: l, C, h => fun s hs => by
  rcases List.mem_cons.1 hs with rfl | hs
  · exact h.2.1
  · exact CanF.ok h.2.2 s hs
theorem CanF.from_ : ∀ {l : List S40} {C : Int}, CanF C l → ∀ r ∈ l, C ≤ r.f0
 | [], _, _ => fun s hs => by cases hs
 | t :: l, C, h => fun s hs => by
  rcases List.mem_cons.1 hs with rfl | hs
  · exact h.1
  · have := CanF.from_ h.2.2 s hs
    have h1 := h.1
    have h2 := h.2.1
    omega
def joinP : S40 → List S40 → List S40
 | y, [] => [y]
 | y, x :: l => if x.f0 ≤ y.f1 + 1 then joinP ⟨y.f0, max y.f1 x.f1⟩ l else y :: joinP x l
def joinL : List S40 → List S40
 | [] => []
 | y :: l => joinP y l
theorem joinP_can : ∀ (l : List S40) (y : S40), y.f0 ≤ y.f1 → Ok l → l.Pairwise (fun a b => a.f0 ≤ b.f0) → (∀ x ∈ l, y.f0 ≤ x.f0) → CanF y.f0 (joinP y l) ∧ ∀ n, mem n (joinP y l) ↔ (y.f0 ≤ n ∧ n ≤ y.f1) ∨ mem n l
 | [], y, hy, _, _, _ => ⟨⟨Int.le_refl _, hy, trivial⟩, fun n => by simp [joinP, mem_cons]⟩
 | x :: l, y, hy, hl, hs, hm => by
  have hx := hl x List.mem_cons_self
  have hyx := hm x List.mem_cons_self
  obtain ⟨hs1, hs2⟩ := List.pairwise_cons.1 hs
  simp only [joinP]
  by_cases h : x.f0 ≤ y.f1 + 1
  · rw [if_pos h]
    obtain ⟨a, b⟩ := joinP_can l ⟨y.f0, max y.f1 x.f1⟩ (by simp only; omega) (fun r hr => hl r (List.mem_cons_of_mem _ hr)) hs2 (fun z hz => hm z (List.mem_cons_of_mem _ hz))
    refine ⟨a, fun n => ?_⟩
    rw [b n, mem_cons]
    simp only
    constructor
    · rintro (h3 | h3)
      · by_cases h4 : y.f0 ≤ n ∧ n ≤ y.f1
        · exact .inl h4
        · exact .inr (.inl (by omega))
      · exact .inr (.inr h3)
    · rintro (h3 | h3 | h3)
      · exact .inl (by omega)
      · exact .inl (by omega)
      · exact .inr h3
  · rw [if_neg h]
    obtain ⟨a, b⟩ := joinP_can l x hx (fun r hr => hl r (List.mem_cons_of_mem _ hr)) hs2 hs1
    exact ⟨⟨Int.le_refl _, hy, a.mono (by omega)⟩, fun n => by rw [mem_cons, b n, mem_cons]⟩
theorem joinL_can : ∀ (l : List S40) (B : Int), Ok l → l.Pairwise (fun a b => a.f0 ≤ b.f0) → (∀ x ∈ l, B ≤ x.f0) → CanF B (joinL l) ∧ ∀ n, mem n (joinL l) ↔ mem n l
 | [], B, _, _, _ => ⟨trivial, fun n => Iff.rfl⟩
 | y :: l, B, hl, hs, hB => by
  obtain ⟨hs1, hs2⟩ := List.pairwise_cons.1 hs
  obtain ⟨a, b⟩ := joinP_can l y (hl y List.mem_cons_self) (fun r hr => hl r (List.mem_cons_of_mem _ hr)) hs2 hs1
  exact ⟨a.mono (hB y List.mem_cons_self), fun n => by rw [mem_cons]; exact b n⟩
def memB (n : Int) (l : List S40) : Bool := l.any fun r => decide (r.f0 ≤ n) && decide (n ≤ r.f1)
theorem memB_iff {n : Int} {l : List S40} : memB n l = true ↔ mem n l := by
 unfold memB mem
 rw [List.any_eq_true]
 constructor
 · rintro ⟨r, hr, h⟩
   simp only [Bool.and_eq_true, decide_eq_true_eq] at h
   exact ⟨r, hr, h⟩
 · rintro ⟨r, hr, h⟩
   exact ⟨r, hr, by simpa only [Bool.and_eq_true, decide_eq_true_eq] using h⟩
theorem memB_false {n : Int} {l : List S40} (h : ¬ mem n l) : memB n l = false := by
 cases hb : memB n l with
 | false => rfl
 | true => exact absurd (memB_iff.1 hb) h
def sweepL (w : Bool → Bool → Bool) (a b : List S40) : List Int → List S40
 | [] => []
 | [_] => []
 | e :: e' :: es => if w (memB e a) (memB e b) = true then ⟨e, e' - 1⟩ :: sweepL w a b (e' :: es) else sweepL w a b (e' :: es)
def Ends (a : List S40) (e : Int) (es : List Int) : Prop := ∀ r ∈ a, (r.f0 ≤ e ∨ r.f0 ∈ es) ∧ (r.f1 + 1 ≤ e ∨ r.f1 + 1 ∈ es)
theorem Ends.next {a : List S40} {e e' : Int} {es : List Int} (h : Ends a e (e' :: es)) (he : e < e') : Ends a e' es := by
 intro r hr
 obtain ⟨h1, h2⟩ := h r hr
 constructor
 · rcases h1 with h1 | h1
   · exact .inl (by omega)
   · rcases List.mem_cons.1 h1 with h1 | h1
     · exact .inl (by omega)
     · exact .inr h1
 · rcases h2 with h2 | h2
   · exact .inl (by omega)
   · rcases List.mem_cons.1 h2 with h2 | h2
     · exact .inl (by omega)
     · exact .inr h2
theorem Ends.const {a : List S40} {e e' n : Int} {es : List Int} (h : Ends a e (e' :: es)) (hs : (e' :: es).Pairwise (· < ·)) (h0 : e ≤ n) (h1 : n < e') : memB n a = memB e a := by
 have hge : ∀ x ∈ e' :: es, e' ≤ x := by
  intro x hx
  rcases List.mem_cons.1 hx with rfl | hx
  · exact Int.le_refl _
  · exact Int.le_of_lt ((List.pairwise_cons.1 hs).1 x hx)
 rw [Bool.eq_iff_iff, memB_iff, memB_iff]
 constructor
 · rintro ⟨r, hr, h2, h3⟩
   refine ⟨r, hr, ?_, by omega⟩
   rcases (h r hr).1 with h4 | h4
   · exact h4
   · have := hge _ h4
     omega
 · rintro ⟨r, hr, h2, h3⟩
   refine ⟨r, hr, by omega, ?_⟩
   rcases (h r hr).2 with h4 | h4
   · omega
   · have := hge _ h4
     omega
theorem Ends.over {a : List S40} {e n : Int} (h : Ends a e []) (h0 : e ≤ n) : memB n a = false := by
 refine memB_false ?_
 rintro ⟨r, hr, h2, h3⟩
 rcases (h r hr).2 with h4 | h4
 · omega
 · cases h4
theorem sweep_mem {w : Bool → Bool → Bool} (hw : w false false = false) {a b : List S40} : ∀ (es : List Int) (e : Int), (e :: es).Pairwise (· < ·) → Ends a e es → Ends b e es →
  ∀ n, mem n (sweepL w a b (e :: es)) ↔ e ≤ n ∧ w (memB n a) (memB n b) = true
 | [], e, _, ha, hb, n => by
  constructor
  · intro h
    exact absurd h mem_nil
  · rintro ⟨h1, h2⟩
    rw [ha.over h1, hb.over h1, hw] at h2
    cases h2
 | e' :: es, e, hs, ha, hb, n => by
  obtain ⟨hs1, hs2⟩ := List.pairwise_cons.1 hs
  have he := hs1 e' List.mem_cons_self
  have ih := sweep_mem hw es e' hs2 (ha.next he) (hb.next he) n
  simp only [sweepL]
  by_cases hn : n < e'
  · have hno : ¬ mem n (sweepL w a b (e' :: es)) := fun h => by have := (ih.1 h).1; omega
    by_cases h0 : e ≤ n
    · rw [ha.const hs2 h0 hn, hb.const hs2 h0 hn]
      split
      case isTrue h =>
       rw [mem_cons]
       exact ⟨fun _ => ⟨h0, h⟩, fun _ => .inl ⟨h0, by simp only; omega⟩⟩
      case isFalse h =>
       exact ⟨fun h1 => absurd h1 hno, fun h1 => absurd h1.2 h⟩
    · split
      case isTrue h =>
       rw [mem_cons]
       constructor
       · rintro (h1 | h1)
         · exact absurd h1.1 h0
         · exact absurd h1 hno
       · intro h1
         exact absurd h1.1 h0
      case isFalse h =>
       exact ⟨fun h1 => absurd h1 hno, fun h1 => absurd h1.1 h0⟩
  · split
    case isTrue h =>
     rw [mem_cons, ih]
     simp only
     constructor
     · rintro (h1 | h1)
       · omega
       · exact ⟨by omega, h1.2⟩
     · intro h1
       exact .inr ⟨by omega, h1.2⟩
    case isFalse h =>
     rw [ih]
     exact ⟨fun h1 => ⟨by omega, h1.2⟩, fun h1 => ⟨by omega, h1.2⟩⟩
theorem sweep_low {w : Bool → Bool → Bool} {a b : List S40} : ∀ (es : List Int) (e : Int), (e :: es).Pairwise (· < ·) → Ok (sweepL w a b (e :: es)) ∧ (sweepL w a b (e :: es)).Pairwise (fun x y => x.f0 ≤ y.f0) ∧ ∀ r ∈ sweepL w a b (e :: es), e ≤ r.f0
 | [], e, _ => ⟨(fun r hr => by cases hr), List.Pairwise.nil, (fun r hr => by cases hr)⟩
 | e' :: es, e, hs => by
  obtain ⟨hs1, hs2⟩ := List.pairwise_cons.1 hs
  have he := hs1 e' List.mem_cons_self
  obtain ⟨i1, i2, i3⟩ := sweep_low (w := w) (a := a) (b := b) es e' hs2
  simp only [sweepL]
  split
  · refine ⟨fun r hr => ?_, List.pairwise_cons.2 ⟨fun r hr => ?_, i2⟩, fun r hr => ?_⟩
    · rcases List.mem_cons.1 hr with rfl | hr
      · simp only; omega
      · exact i1 r hr
    · have := i3 r hr
      simp only; omega
    · rcases List.mem_cons.1 hr with rfl | hr
      · exact Int.le_refl _
      · have := i3 r hr
        omega
  · exact ⟨i1, i2, fun r hr => by have := i3 r hr; omega⟩
/-- What sweep and a join make of two sets: the list of what is wanted. -/
theorem sweep_can {w : Bool → Bool → Bool} (hw : w false false = false) {a b : List S40} {es : List Int} {B : Int} (hs : es.Pairwise (· < ·)) (ha : ∀ r ∈ a, r.f0 ≤ r.f1 ∧ r.f0 ∈ es ∧ r.f1 + 1 ∈ es) (hb : ∀ r ∈ b, r.f0 ≤ r.f1 ∧ r.f0 ∈ es ∧ r.f1 + 1 ∈ es) (hB : ∀ e ∈ es, B ≤ e)
  {l : List S40} (hp : l.Perm (sweepL w a b es)) (hl : l.Pairwise (fun x y => x.f0 ≤ y.f0)) : CanF B (joinL l) ∧ ∀ n, mem n (joinL l) ↔ w (memB n a) (memB n b) = true := by
 cases es with
 | nil =>
  have hl0 : l = [] := by
   have h1 := hp.length_eq
   simp only [sweepL, List.length_nil] at h1
   exact List.eq_nil_of_length_eq_zero h1
  subst hl0
  refine ⟨trivial, fun n => ?_⟩
  have na : a = [] := by
   cases a with
   | nil => rfl
   | cons r a => exact absurd (ha r List.mem_cons_self).2.1 (by simp)
  have nb : b = [] := by
   cases b with
   | nil => rfl
   | cons r b => exact absurd (hb r List.mem_cons_self).2.1 (by simp)
  subst na
  subst nb
  show mem n [] ↔ w false false = true
  rw [hw]
  simp [mem_nil]
 | cons e es =>
  obtain ⟨k1, k2, k3⟩ := sweep_low (w := w) (a := a) (b := b) es e hs
  have hend : ∀ c : List S40, (∀ r ∈ c, r.f0 ≤ r.f1 ∧ r.f0 ∈ e :: es ∧ r.f1 + 1 ∈ e :: es) → Ends c e es := fun c hc r hr => by
   obtain ⟨h1, h2, h3⟩ := hc r hr
   constructor
   · rcases List.mem_cons.1 h2 with h2 | h2
     · exact .inl (by omega)
     · exact .inr h2
   · rcases List.mem_cons.1 h3 with h3 | h3
     · exact .inl (by omega)
     · exact .inr h3
  have hlow : ∀ c : List S40, (∀ r ∈ c, r.f0 ≤ r.f1 ∧ r.f0 ∈ e :: es ∧ r.f1 + 1 ∈ e :: es) → ∀ n, n < e → memB n c = false := fun c hc n hn => by
   refine memB_false ?_
   rintro ⟨r, hr, h2, h3⟩
   have : e ≤ r.f0 := by
    rcases List.mem_cons.1 (hc r hr).2.1 with h4 | h4
    · omega
    · exact Int.le_of_lt ((List.pairwise_cons.1 hs).1 _ h4)
   omega
  have m := sweep_mem hw es e hs (hend a ha) (hend b hb)
  obtain ⟨c1, c2⟩ := joinL_can l B (fun r hr => k1 r (hp.mem_iff.1 hr)) hl (fun r hr => by have h1 := k3 r (hp.mem_iff.1 hr); have h2 := hB e List.mem_cons_self; omega)
  refine ⟨c1, fun n => ?_⟩
  rw [c2 n, mem_perm hp, m n]
  constructor
  · exact fun h => h.2
  · intro h
    refine ⟨?_, h⟩
    rcases Int.lt_or_le n e with h1 | h1
    · rw [hlow a ha n h1, hlow b hb n h1, hw] at h
      cases h
    · exact h1
def atZ (lang s : Int) (z : S42) : Bool := decide (z.f0 = lang) && (decide (z.f1.f0 ≤ s) && decide (s ≤ z.f1.f1))
def widthsOf (l : List S42) (lang s : Int) : List S40 := (l.filter (atZ lang s)).map (·.f2)
theorem widthsOf_append (a b : List S42) (lang s : Int) : widthsOf (a ++ b) lang s = widthsOf a lang s ++ widthsOf b lang s := by
 simp [widthsOf]
theorem widthsOf_cons (z : S42) (l : List S42) (lang s : Int) : widthsOf (z :: l) lang s = if atZ lang s z = true then z.f2 :: widthsOf l lang s else widthsOf l lang s := by
 simp only [widthsOf, List.filter_cons]
 split <;> rfl
def okR (lo hi : Int) (r : S40) : Prop := lo ≤ r.f0 ∧ r.f0 ≤ r.f1 ∧ r.f1 ≤ hi
def okZ (z : S42) : Prop := 0 ≤ z.f0 ∧ z.f0 < 4 ∧ okR 50 300 z.f1 ∧ okR 200 4000 z.f2
def OkL (l : List S42) : Prop := ∀ z ∈ l, okZ z
theorem widthsOf_ok {l : List S42} (h : OkL l) (lang s : Int) : ∀ r ∈ widthsOf l lang s, okR 200 4000 r := by
 intro r hr
 obtain ⟨z, hz, rfl⟩ := List.mem_map.1 hr
 exact (h z (List.mem_filter.1 hz).1).2.2.2
def canW (l : List S42) (lang s : Int) : List S40 := layAll [] (widthsOf l lang s)
theorem canW_can {l : List S42} (h : OkL l) (lang s : Int) : CanF 200 (canW l lang s) ∧ ∀ n, mem n (canW l lang s) ↔ mem n (widthsOf l lang s) := by
 obtain ⟨a, b⟩ := layAll_can (widthsOf l lang s) [] 200 trivial (fun r hr => (widthsOf_ok h lang s r hr).2.1) (fun r hr => (widthsOf_ok h lang s r hr).1)
 exact ⟨a, fun n => by rw [show canW l lang s = layAll [] (widthsOf l lang s) from rfl, b n]; simp [mem_nil]⟩
def loopP (f : Int → List S40) : Nat → Int → Int → List S40 → List (Int × Int × List S40)
 | 0, s, low, now => [(low, s - 1, now)]
 | m + 1, s, low, now => if f s = now then loopP f m (s + 1) low now else (low, s - 1, now) :: loopP f m (s + 1) s (f s)
def zonesP (lang lo hi : Int) (l : List S40) : List S42 := l.map fun r => ⟨lang, ⟨lo, hi⟩, r⟩
def bandZ (lang : Int) (b : Int × Int × List S40) : List S42 := zonesP lang b.1 b.2.1 b.2.2
def langP (f : Int → List S40) (lang : Int) : List S42 := (loopP f 250 51 50 (f 50)).flatMap (bandZ lang)
def formP (f : Int → Int → List S40) : List S42 := langP (f 0) 0 ++ (langP (f 1) 1 ++ (langP (f 2) 2 ++ langP (f 3) 3))
theorem loopP_congr {f g : Int → List S40} : ∀ (m : Nat) (s low : Int) (now : List S40), (∀ t, s ≤ t → t < s + m → f t = g t) → loopP f m s low now = loopP g m s low now
 | 0, _, _, _, _ => rfl
 | m + 1, s, low, now, h => by
  simp only [loopP]
  rw [h s (Int.le_refl _) (by omega), loopP_congr m (s + 1) low now (fun t h1 h2 => h t (by omega) (by omega)), loopP_congr m (s + 1) s (g s) (fun t h1 h2 => h t (by omega) (by omega))]
theorem formP_congr {f g : Int → Int → List S40} (h : ∀ lang s, 0 ≤ lang → lang < 4 → 50 ≤ s → s ≤ 300 → f lang s = g lang s) : formP f = formP g := by
 have e : ∀ lang : Int, 0 ≤ lang → lang < 4 → langP (f lang) lang = langP (g lang) lang := fun lang h1 h2 => by
  unfold langP
  rw [h lang 50 h1 h2 (by omega) (by omega), loopP_congr 250 51 50 (g lang 50) (fun t h3 h4 => h lang t h1 h2 (by omega) (by omega))]
 unfold formP
 rw [e 0 (by omega) (by omega), e 1 (by omega) (by omega), e 2 (by omega) (by omega), e 3 (by omega) (by omega)]
/-- A scale is in one band, that of its own widths. -/
theorem loopP_at (f : Int → List S40) (t : Int) : ∀ (m : Nat) (s low : Int) (now : List S40), low < s → (∀ u, low ≤ u → u < s → f u = now) →
  ((loopP f m s low now).flatMap fun b => if b.1 ≤ t ∧ t ≤ b.2.1 then b.2.2 else []) = if low ≤ t ∧ t < s + m then f t else []
 | 0, s, low, now, hl, hn => by
  simp only [loopP, List.flatMap_cons, List.flatMap_nil, List.append_nil]
  by_cases h : low ≤ t ∧ t < s
  · rw [if_pos (by omega), if_pos (by omega), hn t h.1 h.2]
  · rw [if_neg (by omega), if_neg (by omega)]
 | m + 1, s, low, now, hl, hn => by
  simp only [loopP]
  by_cases hs : f s = now
  · rw [if_pos hs, loopP_at f t m (s + 1) low now (by omega) (fun u h1 h2 => by
     by_cases h3 : u < s
     · exact hn u h1 h3
     · have : u = s := by omega
       rw [this, hs])]
    have : (s + 1 + (m : Int)) = s + ((m + 1 : Nat) : Int) := by omega
    rw [this]
  · rw [if_neg hs, List.flatMap_cons, loopP_at f t m (s + 1) s (f s) (by omega) (fun u h1 h2 => by
     have : u = s := by omega
     rw [this])]
    by_cases h1 : low ≤ t ∧ t ≤ s - 1
    · rw [if_pos h1, if_neg (by omega), if_pos (by omega), List.append_nil, hn t h1.1 (by omega)]
    · rw [if_neg h1, List.nil_append]
      by_cases h2 : s ≤ t ∧ t < s + 1 + (m : Int)
      · rw [if_pos h2, if_pos (by omega)]
      · rw [if_neg h2, if_neg (by omega)]
theorem widthsOf_zonesP (lang lo hi : Int) (l : List S40) (lang' t : Int) : widthsOf (zonesP lang lo hi l) lang' t = if lang = lang' ∧ lo ≤ t ∧ t ≤ hi then l else [] := by
 unfold widthsOf zonesP
 by_cases h : lang = lang' ∧ lo ≤ t ∧ t ≤ hi
 · rw [if_pos h, List.filter_eq_self.2 (by
    intro z hz
    obtain ⟨r, hr, rfl⟩ := List.mem_map.1 hz
    simp only [atZ, Bool.and_eq_true, decide_eq_true_eq]
    exact h), List.map_map]
   simp [Function.comp_def]
 · rw [if_neg h, List.filter_eq_nil_iff.2 (by
    intro z hz
    obtain ⟨r, hr, rfl⟩ := List.mem_map.1 hz
    simp only [atZ, Bool.and_eq_true, decide_eq_true_eq]
    exact h)]
   rfl
theorem widthsOf_flat (lang lang' t : Int) : ∀ (bs : List (Int × Int × List S40)), widthsOf (bs.flatMap (bandZ lang)) lang' t = if lang = lang' then (bs.flatMap fun b => if b.1 ≤ t ∧ t ≤ b.2.1 then b.2.2 else []) else []
 | [] => by
  split <;> rfl
 | b :: bs => by
  rw [List.flatMap_cons, widthsOf_append, widthsOf_flat lang lang' t bs]
  unfold bandZ
  rw [widthsOf_zonesP, List.flatMap_cons]
  by_cases h : lang = lang'
  · rw [if_pos h, if_pos h]
    by_cases h2 : b.1 ≤ t ∧ t ≤ b.2.1
    · rw [if_pos ⟨h, h2⟩, if_pos h2]
    · rw [if_neg (fun h3 => h2 h3.2), if_neg h2]
  · rw [if_neg h, if_neg h, if_neg (fun h3 => h h3.1)]
    rfl
theorem widthsOf_langP (f : Int → List S40) (lang lang' t : Int) : widthsOf (langP f lang) lang' t = if lang = lang' ∧ 50 ≤ t ∧ t ≤ 300 then f t else [] := by
 unfold langP
 rw [widthsOf_flat, loopP_at f t 250 51 50 (f 50) (by omega) (fun u h1 h2 => by
  have : u = 50 := by omega
  rw [this])]
 by_cases h : lang = lang'
 · rw [if_pos h]
   by_cases h2 : 50 ≤ t ∧ t ≤ 300
   · rw [if_pos (by omega), if_pos ⟨h, h2⟩]
   · rw [if_neg (by omega), if_neg (fun h3 => h2 h3.2)]
 · rw [if_neg h, if_neg (fun h3 => h h3.1)]
/-- The widths of a form are those it is made of. -/
theorem widthsOf_formP (f : Int → Int → List S40) (lang s : Int) : widthsOf (formP f) lang s = if 0 ≤ lang ∧ lang < 4 ∧ 50 ≤ s ∧ s ≤ 300 then f lang s else [] := by
 unfold formP
 rw [widthsOf_append, widthsOf_append, widthsOf_append, widthsOf_langP, widthsOf_langP, widthsOf_langP, widthsOf_langP]
 by_cases hs : 50 ≤ s ∧ s ≤ 300
 · by_cases h0 : lang = 0
   · subst h0
     rw [if_pos ⟨rfl, hs⟩, if_neg (by omega), if_neg (by omega), if_neg (by omega), if_pos (by omega)]
     simp
   · by_cases h1 : lang = 1
     · subst h1
       rw [if_neg (by omega), if_pos ⟨rfl, hs⟩, if_neg (by omega), if_neg (by omega), if_pos (by omega)]
       simp
     · by_cases h2 : lang = 2
       · subst h2
         rw [if_neg (by omega), if_neg (by omega), if_pos ⟨rfl, hs⟩, if_neg (by omega), if_pos (by omega)]
         simp
       · by_cases h3 : lang = 3
         · subst h3
           rw [if_neg (by omega), if_neg (by omega), if_neg (by omega), if_pos ⟨rfl, hs⟩, if_pos (by omega)]
           simp
         · rw [if_neg (by omega), if_neg (by omega), if_neg (by omega), if_neg (by omega), if_neg (by omega)]
           rfl
 · rw [if_neg (by omega), if_neg (by omega), if_neg (by omega), if_neg (by omega), if_neg (by omega)]
   rfl
theorem loopP_ok (f : Int → List S40) : ∀ (m : Nat) (s low : Int) (now : List S40), 50 ≤ low → low < s → s + m ≤ 301 → (∀ u, low ≤ u → u < s → f u = now) → (∀ b ∈ loopP f m s low now, 50 ≤ b.1 ∧ b.1 ≤ b.2.1 ∧ b.2.1 ≤ 300 ∧ b.2.2 = f b.1)
 | 0, s, low, now, h0, h1, h2, hn, b, hb => by
  simp only [loopP, List.mem_singleton] at hb
  subst hb
  exact ⟨h0, by simp only; omega, by simp only; omega, (hn low (Int.le_refl _) h1).symm⟩
 | m + 1, s, low, now, h0, h1, h2, hn, b, hb => by
  simp only [loopP] at hb
  split at hb
  case isTrue h =>
   exact loopP_ok f m (s + 1) low now h0 (by omega) (by omega) (fun u h3 h4 => by
    by_cases h5 : u < s
    · exact hn u h3 h5
    · have : u = s := by omega
      rw [this, h]) b hb
  case isFalse h =>
   rcases List.mem_cons.1 hb with rfl | hb
   · exact ⟨h0, by simp only; omega, by simp only; omega, (hn low (Int.le_refl _) h1).symm⟩
   · exact loopP_ok f m (s + 1) s (f s) (by omega) (by omega) (by omega) (fun u h3 h4 => by
      have : u = s := by omega
      rw [this]) b hb
theorem langP_ok {f : Int → List S40} {lang : Int} (h0 : 0 ≤ lang) (h1 : lang < 4) (hf : ∀ s, ∀ r ∈ f s, okR 200 4000 r) : OkL (langP f lang) := by
 intro z hz
 obtain ⟨b, hb, hz⟩ := List.mem_flatMap.1 hz
 obtain ⟨r, hr, rfl⟩ := List.mem_map.1 hz
 obtain ⟨a1, a2, a3, a4⟩ := loopP_ok f 250 51 50 (f 50) (by omega) (by omega) (by omega) (fun u h1 h2 => by
  have : u = 50 := by omega
  rw [this]) b hb
 exact ⟨h0, h1, ⟨a1, a2, a3⟩, hf b.1 r (a4 ▸ hr)⟩
theorem formP_ok {f : Int → Int → List S40} (hf : ∀ lang s, ∀ r ∈ f lang s, okR 200 4000 r) : OkL (formP f) := by
 intro z hz
 unfold formP at hz
 rcases List.mem_append.1 hz with hz | hz
 · exact langP_ok (by omega) (by omega) (hf 0) z hz
 · rcases List.mem_append.1 hz with hz | hz
   · exact langP_ok (by omega) (by omega) (hf 1) z hz
   · rcases List.mem_append.1 hz with hz | hz
     · exact langP_ok (by omega) (by omega) (hf 2) z hz
     · exact langP_ok (by omega) (by omega) (hf 3) z hz
/-- A canonical list, read again and put together, is itself. -/
theorem layAll_self {l : List S40} {B : Int} (h : CanF B l) : layAll [] l = l := by
 obtain ⟨a, b⟩ := layAll_can l [] B trivial (CanF.ok h) (CanF.from_ h)
 exact can_uniq a h (fun n => by rw [b n]; simp [mem_nil])
theorem formP_again {f : Int → Int → List S40} (hf : ∀ lang s, CanF 200 (f lang s)) : formP (canW (formP f)) = formP f :=
 formP_congr fun lang s h0 h1 h2 h3 => by
  unfold canW
  rw [widthsOf_formP, if_pos ⟨h0, h1, h2, h3⟩, layAll_self (hf lang s)]
def pos (lang s : Int) : Int := lang * 1000 + s
def sOf (z : S42) : Int := z.f0 * 1000 + z.f1.f0
def eOf (z : S42) : Int := z.f0 * 1000 + z.f1.f1 + 1
def evs : List S42 → Int → Nat
 | [], _ => 0
 | z :: zs, p => (if sOf z ≤ p then 1 else 0) + (if eOf z ≤ p then 1 else 0) + evs zs p
theorem evs_mono : ∀ (zs : List S42) {p q : Int}, p ≤ q → evs zs p ≤ evs zs q
 | [], _, _, _ => Nat.le_refl _
 | z :: zs, p, q, h => by
  have := evs_mono zs h
  simp only [evs]
  repeat' split
  all_goals omega
theorem evs_same : ∀ (zs : List S42) {p q : Int}, p ≤ q → evs zs p = evs zs q → ∀ z ∈ zs, (sOf z ≤ p ↔ sOf z ≤ q) ∧ (eOf z ≤ p ↔ eOf z ≤ q)
 | [], _, _, _, _, z, hz => by cases hz
 | y :: zs, p, q, h, he, z, hz => by
  have hm := evs_mono zs h
  simp only [evs] at he
  have h1 : evs zs p = evs zs q := by
   revert he
   repeat' split
   all_goals omega
  rcases List.mem_cons.1 hz with rfl | hz
  · revert he
    repeat' split
    all_goals omega
  · exact evs_same zs h h1 z hz
theorem evs_lt : ∀ (zs : List S42) {p q : Int} {z : S42}, p ≤ q → z ∈ zs → p < sOf z → sOf z ≤ q → evs zs p < evs zs q
 | [], _, _, _, _, hz, _, _ => by cases hz
 | y :: zs, p, q, z, h, hz, h1, h2 => by
  have hm := evs_mono zs h
  simp only [evs]
  rcases List.mem_cons.1 hz with rfl | hz
  · rw [if_neg (by omega), if_pos h2]
    repeat' split
    all_goals omega
  · have := evs_lt zs h hz h1 h2
    repeat' split
    all_goals omega
theorem active_le (lang s : Int) : ∀ (zs : List S42), OkL zs → 2 * (widthsOf zs lang s).length ≤ 2 * evs zs (pos lang s) ∧ (widthsOf zs lang s).length + evs zs (pos lang s) ≤ 2 * zs.length
 | [], _ => ⟨Nat.le_refl _, Nat.le_refl _⟩
 | z :: zs, h => by
  obtain ⟨i1, i2⟩ := active_le lang s zs (fun y hy => h y (List.mem_cons_of_mem _ hy))
  have hz := h z List.mem_cons_self
  have hz1 : z.f1.f0 ≤ z.f1.f1 := hz.2.2.1.2.1
  rw [widthsOf_cons]
  simp only [evs, List.length_cons]
  by_cases ha : atZ lang s z = true
  · rw [if_pos ha, List.length_cons]
    simp only [atZ, Bool.and_eq_true, decide_eq_true_eq] at ha
    rw [if_pos (show sOf z ≤ pos lang s by unfold sOf pos; omega), if_neg (show ¬ eOf z ≤ pos lang s by unfold eOf pos; omega)]
    omega
  · rw [if_neg ha]
    by_cases h1 : sOf z ≤ pos lang s
    · by_cases h2 : eOf z ≤ pos lang s
      · rw [if_pos h1, if_pos h2]
        omega
      · rw [if_pos h1, if_neg h2]
        omega
    · rw [if_neg h1, if_neg (show ¬ eOf z ≤ pos lang s by unfold sOf eOf at *; omega)]
      omega
def Phi : Nat → Nat
 | 0 => 0
 | d + 1 => Phi d + min (48 - d) d
theorem phi_mono : ∀ {d e : Nat}, d ≤ e → Phi d ≤ Phi e
 | d, 0, h => by
  have : d = 0 := by omega
  rw [this]
  exact Nat.le_refl _
 | d, e + 1, h => by
  rcases Nat.lt_or_ge e d with h1 | h1
  · have : d = e + 1 := by omega
    rw [this]
    exact Nat.le_refl _
  · exact Nat.le_trans (phi_mono h1) (Nat.le_add_right _ _)
theorem phi_step {e e' n : Nat} (h : e < e') (hn1 : n ≤ e') (hn2 : n + e' ≤ 48) : n + Phi (48 - e') ≤ Phi (48 - e) := by
 have h1 : Phi (48 - e' + 1) ≤ Phi (48 - e) := phi_mono (by omega)
 have h2 : Phi (48 - e' + 1) = Phi (48 - e') + min (48 - (48 - e')) (48 - e') := rfl
 rw [h2] at h1
 have h3 : min (48 - (48 - e')) (48 - e') = min e' (48 - e') := by
  congr 1
  omega
 rw [h3] at h1
 omega
structure Few (zs : List S42) (f : Int → Int → List S40) : Prop where
 ok : OkL zs
 len : zs.length ≤ 24
 most : ∀ lang s, (f lang s).length ≤ (widthsOf zs lang s).length
 same : ∀ lang s, (∀ z ∈ zs, atZ lang s z = atZ lang (s - 1) z) → f lang s = f lang (s - 1)
theorem Few.at_ {zs : List S42} {f : Int → Int → List S40} (h : Few zs f) (lang s : Int) : (f lang s).length ≤ evs zs (pos lang s) ∧ (f lang s).length + evs zs (pos lang s) ≤ 48 := by
 have h1 := active_le lang s zs h.ok
 have h2 := h.most lang s
 have h3 := h.len
 omega
theorem Few.turn {zs : List S42} {f : Int → Int → List S40} (h : Few zs f) {lang s : Int} (hne : f lang s ≠ f lang (s - 1)) : evs zs (pos lang (s - 1)) < evs zs (pos lang s) := by
 have hp : pos lang (s - 1) ≤ pos lang s := by unfold pos; omega
 rcases Nat.lt_or_ge (evs zs (pos lang (s - 1))) (evs zs (pos lang s)) with h1 | h1
 · exact h1
 · have he : evs zs (pos lang (s - 1)) = evs zs (pos lang s) := Nat.le_antisymm (evs_mono zs hp) h1
   exfalso
   apply hne
   apply h.same
   intro z hz
   obtain ⟨a, b⟩ := evs_same zs hp he z hz
   unfold sOf pos at a
   unfold eOf pos at b
   rw [Bool.eq_iff_iff]
   simp only [atZ, Bool.and_eq_true, decide_eq_true_eq]
   omega
theorem bandZ_len (lang : Int) (b : Int × Int × List S40) : (bandZ lang b).length = b.2.2.length := by
 unfold bandZ zonesP
 rw [List.length_map]
theorem loop_tot {zs : List S42} {f : Int → Int → List S40} (h : Few zs f) (lang : Int) : ∀ (m : Nat) (s low : Int) (now : List S40), now = f lang (s - 1) →
  ((loopP (f lang) m s low now).flatMap (bandZ lang)).length + Phi (48 - evs zs (pos lang (s + m - 1))) ≤ now.length + Phi (48 - evs zs (pos lang (s - 1)))
 | 0, s, low, now, hn => by
  simp only [loopP, List.flatMap_cons, List.flatMap_nil, List.append_nil, bandZ_len]
  have : s + ((0 : Nat) : Int) - 1 = s - 1 := by omega
  rw [this]
  exact Nat.le_refl _
 | m + 1, s, low, now, hn => by
  simp only [loopP]
  have e1 : s + ((m + 1 : Nat) : Int) - 1 = s + 1 + (m : Int) - 1 := by omega
  have e2 : s + 1 - 1 = s := by omega
  by_cases hs : f lang s = now
  · rw [if_pos hs, e1]
    have ih := loop_tot h lang m (s + 1) low now (by rw [e2, hs])
    rw [e2] at ih
    have h1 : evs zs (pos lang (s - 1)) ≤ evs zs (pos lang s) := evs_mono zs (by unfold pos; omega)
    have h2 : Phi (48 - evs zs (pos lang s)) ≤ Phi (48 - evs zs (pos lang (s - 1))) := phi_mono (by omega)
    omega
  · rw [if_neg hs, e1, List.flatMap_cons, List.length_append, bandZ_len]
    have ih := loop_tot h lang m (s + 1) s (f lang s) (by rw [e2])
    rw [e2] at ih
    have ht := h.turn (lang := lang) (s := s) (by rw [← hn]; exact hs)
    have ha := h.at_ lang s
    have := phi_step ht ha.1 ha.2
    simp only
    omega
theorem lang_tot {zs : List S42} {f : Int → Int → List S40} (h : Few zs f) (lang : Int) {p : Int} (hp : p < pos lang 50) : (langP (f lang) lang).length + Phi (48 - evs zs (pos lang 300)) ≤ Phi (48 - evs zs p) := by
 have h1 := loop_tot h lang 250 51 50 (f lang 50) rfl
 have e : (51 : Int) + ((250 : Nat) : Int) - 1 = 300 := by omega
 rw [e] at h1
 have e2 : (51 : Int) - 1 = 50 := rfl
 rw [e2] at h1
 have h2 : (f lang 50).length + Phi (48 - evs zs (pos lang 50)) ≤ Phi (48 - evs zs p) := by
  by_cases h0 : (f lang 50).length = 0
  · rw [h0, Nat.zero_add]
    have := evs_mono zs (Int.le_of_lt hp)
    exact phi_mono (by omega)
  · have hm := h.most lang 50
    obtain ⟨r, hr⟩ : ∃ r, r ∈ widthsOf zs lang 50 := by
     cases hw : widthsOf zs lang 50 with
     | nil => rw [hw] at hm; exact absurd (Nat.le_zero.1 hm) h0
     | cons r l => exact ⟨r, List.mem_cons_self⟩
    obtain ⟨z, hz, _⟩ := List.mem_map.1 hr
    have hz1 := (List.mem_filter.1 hz).1
    have hz2 := (List.mem_filter.1 hz).2
    simp only [atZ, Bool.and_eq_true, decide_eq_true_eq] at hz2
    have hok := (h.ok z hz1).2.2.1.1
    have hs : sOf z = pos lang 50 := by unfold sOf pos; omega
    have ht := evs_lt zs (Int.le_of_lt hp) hz1 (by rw [hs]; exact hp) (by rw [hs]; exact Int.le_refl _)
    have ha := h.at_ lang 50
    exact phi_step ht ha.1 ha.2
 exact Nat.le_trans h1 h2
theorem formP_short {zs : List S42} {f : Int → Int → List S40} (h : Few zs f) : (formP f).length ≤ 576 := by
 have a0 := lang_tot h 0 (p := 0) (by decide)
 have a1 := lang_tot h 1 (p := pos 0 300) (by decide)
 have a2 := lang_tot h 2 (p := pos 1 300) (by decide)
 have a3 := lang_tot h 3 (p := pos 2 300) (by decide)
 have hphi : Phi (48 - evs zs 0) ≤ 576 := Nat.le_trans (phi_mono (show 48 - evs zs 0 ≤ 48 by omega)) (by decide)
 unfold formP
 rw [List.length_append, List.length_append, List.length_append]
 omega
theorem putJ_len : ∀ (l : List S40) (x : S40), (putJ l x).length ≤ l.length + 1
 | [], x => Nat.le_refl _
 | r :: l, x => by
  simp only [putJ]
  split
  · have := putJ_len l ⟨min x.f0 r.f0, max x.f1 r.f1⟩
    simp only [List.length_cons]
    omega
  · simp
theorem putP_len : ∀ (l : List S40) (x : S40), (putP l x).length ≤ l.length + 1
 | [], x => Nat.le_refl _
 | r :: l, x => by
  simp only [putP]
  split
  · have := putP_len l x
    simp only [List.length_cons]
    omega
  · exact putJ_len (r :: l) x
theorem layAll_len : ∀ (l out : List S40), (layAll out l).length ≤ out.length + l.length
 | [], out => Nat.le_refl _
 | x :: l, out => by
  have h1 := layAll_len l (putP out x)
  have h2 := putP_len out x
  show (layAll (putP out x) l).length ≤ _
  simp only [List.length_cons]
  omega
theorem filter_lt {p q : Int → Bool} (hpq : ∀ x, p x = true → q x = true) : ∀ (S : List Int), (S.filter p).length ≤ (S.filter q).length ∧ ∀ x ∈ S, q x = true → p x = false → (S.filter p).length + 1 ≤ (S.filter q).length
 | [] => ⟨Nat.le_refl _, fun x hx => by cases hx⟩
 | y :: S => by
  obtain ⟨i1, i2⟩ := filter_lt hpq S
  simp only [List.filter_cons]
  constructor
  · cases hp : p y with
    | true => rw [hpq y hp]; simp; omega
    | false =>
     cases hq : q y with
     | true => simp; omega
     | false => simpa using i1
  · intro x hx h1 h2
    rcases List.mem_cons.1 hx with rfl | hx
    · rw [h1, h2]
      simp
      omega
    · have := i2 x hx h1 h2
      cases hp : p y with
      | true => rw [hpq y hp]; simp; omega
      | false =>
       cases hq : q y with
       | true => simp; omega
       | false => simpa using this
theorem can_len : ∀ {l : List S40} {B : Int} {S : List Int}, CanF B l → (∀ r ∈ l, r.f1 ∈ S) → l.length ≤ (S.filter fun x => decide (B ≤ x)).length
 | [], _, _, _, _ => Nat.zero_le _
 | r :: l, B, S, h, hS => by
  have ih := can_len h.2.2 (fun s hs => hS s (List.mem_cons_of_mem _ hs))
  have h0 := h.1
  have h1 := h.2.1
  have := (filter_lt (p := fun x => decide (r.f1 + 2 ≤ x)) (q := fun x => decide (B ≤ x)) (fun x hx => by simp only [decide_eq_true_eq] at hx ⊢; omega) S).2 r.f1 (hS r List.mem_cons_self) (by simp only [decide_eq_true_eq]; omega) (by simp only [decide_eq_false_iff_not]; omega)
  simp only [List.length_cons]
  omega
theorem can_len' {l : List S40} {B : Int} {S : List Int} (h : CanF B l) (hS : ∀ r ∈ l, r.f1 ∈ S) : l.length ≤ S.length :=
 Nat.le_trans (can_len h hS) (List.length_filter_le _ _)
theorem can_end : ∀ {l : List S40} {B : Int}, CanF B l → ∀ r ∈ l, ¬ mem (r.f1 + 1) l
 | [], _, _, r, hr, _ => by cases hr
 | s :: l, B, h, r, hr, hm => by
  have h1 := h.2.1
  rcases List.mem_cons.1 hr with rfl | hr
  · rcases mem_cons.1 hm with h2 | h2
    · omega
    · have := CanF.low h.2.2 h2
      omega
  · have h3 := CanF.from_ h.2.2 r hr
    have h4 := CanF.ok h.2.2 r hr
    rcases mem_cons.1 hm with h2 | h2
    · omega
    · exact can_end h.2.2 r hr h2
theorem end_of {l : List S40} {n : Int} (h : mem n l) (h' : ¬ mem (n + 1) l) : n ∈ l.map (·.f1) := by
 obtain ⟨r, hr, h1, h2⟩ := h
 have : r.f1 = n := by
  rcases Int.lt_or_le n r.f1 with h3 | h3
  · exact absurd ⟨r, hr, by omega, by omega⟩ h'
  · omega
 exact List.mem_map.2 ⟨r, hr, this⟩
theorem begin_of {l : List S40} {n : Int} (h : ¬ mem n l) (h' : mem (n + 1) l) : n ∈ l.map (fun r => r.f0 - 1) := by
 obtain ⟨r, hr, h1, h2⟩ := h'
 have : r.f0 - 1 = n := by
  rcases Int.lt_or_le n r.f0 with h3 | h3
  · omega
  · exact absurd ⟨r, hr, h3, by omega⟩ h
 exact List.mem_map.2 ⟨r, hr, this⟩
/-- What is done with two sets (0: both together, 1: what is in both, 2: the first without the second). -/
def opB (what : Int) (a b : Bool) : Bool := if what = 2 then a && !b else if what = 1 then a && b else a || b
def opP (what : Int) (x y : List S40) : List S40 := if what = 2 then lessP x y else if what = 1 then lessP x (lessP x y) else layAll x y
theorem opP_can {x y : List S40} (what : Int) (hx : CanF 200 x) (hy : CanF 200 y) : CanF 200 (opP what x y) ∧ ∀ n, mem n (opP what x y) ↔ opB what (memB n x) (memB n y) = true := by
 have hb : ∀ {n : Int} {l : List S40}, (memB n l = true) = mem n l := fun {n l} => propext memB_iff
 unfold opP opB
 by_cases h2 : what = 2
 · rw [if_pos h2]
   obtain ⟨a, b⟩ := lessP_can x y 200 200 hx hy
   refine ⟨a, fun n => ?_⟩
   rw [b n, if_pos h2, Bool.and_eq_true, hb, Bool.not_eq_true', ← Bool.not_eq_true, hb]
 · rw [if_neg h2]
   by_cases h1 : what = 1
   · rw [if_pos h1]
     obtain ⟨a, b⟩ := lessP_can x y 200 200 hx hy
     obtain ⟨c, d⟩ := lessP_can x (lessP x y) 200 200 hx a
     refine ⟨c, fun n => ?_⟩
     rw [d n, b n, if_neg h2, if_pos h1, Bool.and_eq_true, hb, hb]
     constructor
     · rintro ⟨h3, h4⟩
       exact ⟨h3, Decidable.byContradiction fun h5 => h4 ⟨h3, h5⟩⟩
     · rintro ⟨h3, h4⟩
       exact ⟨h3, fun h5 => h5.2 h4⟩
   · rw [if_neg h1]
     obtain ⟨a, b⟩ := layAll_can y x 200 hx (CanF.ok hy) (CanF.from_ hy)
     refine ⟨a, fun n => ?_⟩
     rw [b n, if_neg h2, if_neg h1, Bool.or_eq_true, hb, hb]
theorem opP_len {x y : List S40} (what : Int) (hx : CanF 200 x) (hy : CanF 200 y) : (opP what x y).length ≤ x.length + y.length := by
 unfold opP
 by_cases h2 : what = 2
 · rw [if_pos h2]
   obtain ⟨a, b⟩ := lessP_can x y 200 200 hx hy
   have := can_len' (S := x.map (·.f1) ++ y.map (fun r => r.f0 - 1)) a (fun r hr => by
    have h1 := (b r.f1).1 ⟨r, hr, CanF.ok a r hr, Int.le_refl _⟩
    have h3 := can_end a r hr
    rw [b] at h3
    by_cases h4 : mem (r.f1 + 1) x
    · refine List.mem_append_right _ (begin_of h1.2 (Decidable.byContradiction fun h5 => h3 ⟨h4, h5⟩))
    · exact List.mem_append_left _ (end_of h1.1 h4))
   simpa using this
 · rw [if_neg h2]
   by_cases h1 : what = 1
   · rw [if_pos h1]
     obtain ⟨a, b⟩ := lessP_can x y 200 200 hx hy
     obtain ⟨c, d⟩ := lessP_can x (lessP x y) 200 200 hx a
     have hm : ∀ n, mem n (lessP x (lessP x y)) ↔ mem n x ∧ mem n y := fun n => by
      rw [d n, b n]
      constructor
      · rintro ⟨h3, h4⟩
        exact ⟨h3, Decidable.byContradiction fun h5 => h4 ⟨h3, h5⟩⟩
      · rintro ⟨h3, h4⟩
        exact ⟨h3, fun h5 => h5.2 h4⟩
     have := can_len' (S := x.map (·.f1) ++ y.map (·.f1)) c (fun r hr => by
      have h1 := (hm r.f1).1 ⟨r, hr, CanF.ok c r hr, Int.le_refl _⟩
      have h3 := can_end c r hr
      rw [hm] at h3
      by_cases h4 : mem (r.f1 + 1) x
      · exact List.mem_append_right _ (end_of h1.2 (fun h5 => h3 ⟨h4, h5⟩))
      · exact List.mem_append_left _ (end_of h1.1 h4))
     simpa using this
   · rw [if_neg h1]
     exact layAll_len y x
def bothP (a b : List S42) (what lang s : Int) : List S40 := opP what (canW a lang s) (canW b lang s)
theorem bothP_can {a b : List S42} (ha : OkL a) (hb : OkL b) (what lang s : Int) : CanF 200 (bothP a b what lang s) := (opP_can what (canW_can ha lang s).1 (canW_can hb lang s).1).1
theorem canW_len (l : List S42) (lang s : Int) : (canW l lang s).length ≤ (widthsOf l lang s).length := by
 have := layAll_len (widthsOf l lang s) []
 simpa [canW] using this
theorem widthsOf_same {l : List S42} {lang s t : Int} (h : ∀ z ∈ l, atZ lang s z = atZ lang t z) : widthsOf l lang s = widthsOf l lang t := by
 unfold widthsOf
 rw [List.filter_congr h]
theorem bothP_few {a b : List S42} (ha : OkL a) (hb : OkL b) (hl : a.length + b.length ≤ 24) (what : Int) : Few (a ++ b) (bothP a b what) where
 ok := fun z hz => by
  rcases List.mem_append.1 hz with h | h
  · exact ha z h
  · exact hb z h
 len := by rw [List.length_append]; exact hl
 most := fun lang s => by
  have h1 := opP_len what (canW_can ha lang s).1 (canW_can hb lang s).1
  have h2 := canW_len a lang s
  have h3 := canW_len b lang s
  rw [widthsOf_append, List.length_append]
  unfold bothP
  omega
 same := fun lang s h => by
  have h1 := widthsOf_same (l := a) (fun z hz => h z (List.mem_append_left _ hz))
  have h2 := widthsOf_same (l := b) (fun z hz => h z (List.mem_append_right _ hz))
  unfold bothP canW
  rw [h1, h2]
theorem canW_nil (lang s : Int) : canW [] lang s = [] := rfl
theorem bothP_nil (a : List S42) (lang s : Int) : bothP a [] 0 lang s = canW a lang s := by
 unfold bothP opP
 rw [canW_nil, if_neg (by decide), if_neg (by decide)]
 rfl
end
section
open Go.Shelf
def Tryz.sortR_ren : Go.Shelf.Ren := ⟨fun | 6 => 85 | 15 => 68 | 14 => 91 | 28 => 82 | 29 => 83 | 20 => 93 | 21 => 94 | 22 => 95 | 23 => 96 | 24 => 97 | 25 => 98 | 26 => 99 | 27 => 100 | 46 => 101 | 47 => 87 | 48 => 88 | 49 => 102 | 50 => 103 | 57 => 104 | n => n, fun | 22 => 62 | 24 => 40 | 25 => 90 | 3 => 3 | 39 => 88 | 0 => 0 | 53 => 103 | 55 => 105 | 4 => 4 | 46 => 95 | 45 => 94 | 50 => 100 | 5 => 5 | 9 => 9 | 66 => 108 | 70 => 112 | 76 => 115 | 77 => 116 | n => n, fun | n => n⟩
theorem Tryz.sortR : Go.Proofs.SlLaysF0.n6 Tryz.prog Tryz.sortR_ren := {
 mixed := by kernel_rfl
 f6 := ⟨Tryz.f85.name, by decide, Tryz.func85.trans (congrArg some (by kernel_rfl))⟩
 f14 := ⟨Tryz.f91.name, by decide, Tryz.func91.trans (congrArg some (by kernel_rfl))⟩
 f15 := Tryz.func68.trans (congrArg some (by kernel_rfl))
 f20 := ⟨Tryz.f93.name, by decide, Tryz.func93.trans (congrArg some (by kernel_rfl))⟩
 f21 := ⟨Tryz.f94.name, by decide, Tryz.func94.trans (congrArg some (by kernel_rfl))⟩
 f22 := ⟨Tryz.f95.name, by decide, Tryz.func95.trans (congrArg some (by kernel_rfl))⟩
 f23 := ⟨Tryz.f96.name, by decide, Tryz.func96.trans (congrArg some (by kernel_rfl))⟩
 f24 := ⟨Tryz.f97.name, by decide, Tryz.func97.trans (congrArg some (by kernel_rfl))⟩
 f25 := ⟨Tryz.f98.name, by decide, Tryz.func98.trans (congrArg some (by kernel_rfl))⟩
 f26 := ⟨Tryz.f99.name, by decide, Tryz.func99.trans (congrArg some (by kernel_rfl))⟩
 f27 := ⟨Tryz.f100.name, by decide, Tryz.func100.trans (congrArg some (by kernel_rfl))⟩
 f28 := Tryz.func82.trans (congrArg some (by kernel_rfl))
 f29 := Tryz.func83.trans (congrArg some (by kernel_rfl))
 f46 := ⟨Tryz.f101.name, by decide, Tryz.func101.trans (congrArg some (by kernel_rfl))⟩
 f47 := Tryz.func87.trans (congrArg some (by kernel_rfl))
 f48 := Tryz.func88.trans (congrArg some (by kernel_rfl))
 f49 := ⟨Tryz.f102.name, by decide, Tryz.func102.trans (congrArg some (by kernel_rfl))⟩
 f50 := ⟨Tryz.f103.name, by decide, Tryz.func103.trans (congrArg some (by kernel_rfl))⟩
 f57 := ⟨Tryz.f104.name, by decide, Tryz.func104.trans (congrArg some (by kernel_rfl))⟩
 t0 := Tryz.underlying0
 a0 := Tryz.isAgg0
 z0 := Tryz.sizeOf0
 v0 := Tryz.zeroValue0
 t3 := Tryz.underlying3
 a3 := Tryz.isAgg3
 z3 := Tryz.sizeOf3
 v3 := Tryz.zeroValue3
 t4 := Tryz.underlying4
 a4 := Tryz.isAgg4
 z4 := Tryz.sizeOf4
 v4 := Tryz.zeroValue4
 t5 := Tryz.underlying5
 a5 := Tryz.isAgg5
 z5 := Tryz.sizeOf5
 v5 := Tryz.zeroValue5
 t9 := Tryz.underlying9
 a9 := Tryz.isAgg9
 z9 := Tryz.sizeOf9
 v9 := Tryz.zeroValue9
 t22 := Tryz.underlying62
 a22 := Tryz.isAgg62
 z22 := Tryz.sizeOf62
 v22 := Tryz.zeroValue62
 t25 := Tryz.underlying90
 a25 := Tryz.isAgg90
 z25 := Tryz.sizeOf90
 v25 := Tryz.zeroValue90
 t39 := Tryz.underlying88
 a39 := Tryz.isAgg88
 z39 := Tryz.sizeOf88
 v39 := Tryz.zeroValue88
 t45 := Tryz.underlying94
 a45 := Tryz.isAgg94
 z45 := Tryz.sizeOf94
 v45 := Tryz.zeroValue94
 t46 := Tryz.underlying95
 a46 := Tryz.isAgg95
 z46 := Tryz.sizeOf95
 v46 := Tryz.zeroValue95
 t50 := Tryz.underlying100
 a50 := Tryz.isAgg100
 z50 := Tryz.sizeOf100
 v50 := Tryz.zeroValue100
 t53 := Tryz.underlying103
 a53 := Tryz.isAgg103
 z53 := Tryz.sizeOf103
 v53 := Tryz.zeroValue103
 t55 := Tryz.underlying105
 a55 := Tryz.isAgg105
 z55 := Tryz.sizeOf105
 v55 := Tryz.zeroValue105
 t66 := Tryz.underlying108
 a66 := Tryz.isAgg108
 z66 := Tryz.sizeOf108
 v66 := Tryz.zeroValue108
 t70 := Tryz.underlying112
 a70 := Tryz.isAgg112
 z70 := Tryz.sizeOf112
 v70 := Tryz.zeroValue112
 t76 := Tryz.underlying115
 a76 := Tryz.isAgg115
 z76 := Tryz.sizeOf115
 v76 := Tryz.zeroValue115
 t77 := Tryz.underlying116
 a77 := Tryz.isAgg116
 z77 := Tryz.sizeOf116
 v77 := Tryz.zeroValue116 }
def Tryz.lays189_ren : Go.Shelf.Ren := ⟨fun | 189 => 60 | 125 => 68 | 257 => 67 | 128 => 82 | 129 => 83 | 294 => 73 | 295 => 74 | 296 => 75 | 297 => 76 | 298 => 77 | 299 => 78 | 216 => 79 | 300 => 80 | 301 => 81 | 328 => 86 | 329 => 87 | 330 => 88 | 331 => 89 | 332 => 90 | 215 => 52 | 343 => 92 | n => n, fun | 28 => 71 | 3 => 3 | 46 => 88 | 0 => 0 | 51 => 103 | 53 => 105 | 4 => 4 | 183 => 95 | 182 => 94 | 131 => 100 | 5 => 5 | 9 => 9 | 218 => 108 | 222 => 112 | 228 => 115 | 229 => 116 | n => n, fun | n => n⟩
theorem Tryz.lays189 : Go.Proofs.Lays.n189 Tryz.prog Tryz.lays189_ren := {
 mixed := by kernel_rfl
 f125 := Tryz.func68.trans (congrArg some (by kernel_rfl))
 f128 := Tryz.func82.trans (congrArg some (by kernel_rfl))
 f129 := Tryz.func83.trans (congrArg some (by kernel_rfl))
 f189 := Tryz.func60.trans (congrArg some (by kernel_rfl))
 f215 := Tryz.func52.trans (congrArg some (by kernel_rfl))
 f216 := Tryz.func79.trans (congrArg some (by kernel_rfl))
 f257 := Tryz.func67.trans (congrArg some (by kernel_rfl))
 f294 := Tryz.func73.trans (congrArg some (by kernel_rfl))
 f295 := Tryz.func74.trans (congrArg some (by kernel_rfl))
 f296 := Tryz.func75.trans (congrArg some (by kernel_rfl))
 f297 := Tryz.func76.trans (congrArg some (by kernel_rfl))
 f298 := Tryz.func77.trans (congrArg some (by kernel_rfl))
 f299 := Tryz.func78.trans (congrArg some (by kernel_rfl))
 f300 := Tryz.func80.trans (congrArg some (by kernel_rfl))
 f301 := Tryz.func81.trans (congrArg some (by kernel_rfl))
 f328 := Tryz.func86.trans (congrArg some (by kernel_rfl))
 f329 := Tryz.func87.trans (congrArg some (by kernel_rfl))
 f330 := Tryz.func88.trans (congrArg some (by kernel_rfl))
 f331 := Tryz.func89.trans (congrArg some (by kernel_rfl))
 f332 := Tryz.func90.trans (congrArg some (by kernel_rfl))
 f343 := Tryz.func92.trans (congrArg some (by kernel_rfl))
 t0 := Tryz.underlying0
 a0 := Tryz.isAgg0
 z0 := Tryz.sizeOf0
 v0 := Tryz.zeroValue0
 t3 := Tryz.underlying3
 a3 := Tryz.isAgg3
 z3 := Tryz.sizeOf3
 v3 := Tryz.zeroValue3
 t4 := Tryz.underlying4
 a4 := Tryz.isAgg4
 z4 := Tryz.sizeOf4
 v4 := Tryz.zeroValue4
 t5 := Tryz.underlying5
 a5 := Tryz.isAgg5
 z5 := Tryz.sizeOf5
 v5 := Tryz.zeroValue5
 t9 := Tryz.underlying9
 a9 := Tryz.isAgg9
 z9 := Tryz.sizeOf9
 v9 := Tryz.zeroValue9
 t28 := Tryz.underlying71
 a28 := Tryz.isAgg71
 z28 := Tryz.sizeOf71
 v28 := Tryz.zeroValue71
 t46 := Tryz.underlying88
 a46 := Tryz.isAgg88
 z46 := Tryz.sizeOf88
 v46 := Tryz.zeroValue88
 t51 := Tryz.underlying103
 a51 := Tryz.isAgg103
 z51 := Tryz.sizeOf103
 v51 := Tryz.zeroValue103
 t53 := Tryz.underlying105
 a53 := Tryz.isAgg105
 z53 := Tryz.sizeOf105
 v53 := Tryz.zeroValue105
 t131 := Tryz.underlying100
 a131 := Tryz.isAgg100
 z131 := Tryz.sizeOf100
 v131 := Tryz.zeroValue100
 t182 := Tryz.underlying94
 a182 := Tryz.isAgg94
 z182 := Tryz.sizeOf94
 v182 := Tryz.zeroValue94
 t183 := Tryz.underlying95
 a183 := Tryz.isAgg95
 z183 := Tryz.sizeOf95
 v183 := Tryz.zeroValue95
 t218 := Tryz.underlying108
 a218 := Tryz.isAgg108
 z218 := Tryz.sizeOf108
 v218 := Tryz.zeroValue108
 t222 := Tryz.underlying112
 a222 := Tryz.isAgg112
 z222 := Tryz.sizeOf112
 v222 := Tryz.zeroValue112
 t228 := Tryz.underlying115
 a228 := Tryz.isAgg115
 z228 := Tryz.sizeOf115
 v228 := Tryz.zeroValue115
 t229 := Tryz.underlying116
 a229 := Tryz.isAgg116
 z229 := Tryz.sizeOf116
 v229 := Tryz.zeroValue116 }
def Tryz.lays20_ren : Go.Shelf.Ren := ⟨fun | 20 => 61 | n => n, fun | 22 => 71 | 3 => 3 | 4 => 4 | 0 => 0 | n => n, fun | n => n⟩
theorem Tryz.lays20 : Go.Proofs.Lays2.n20 Tryz.prog Tryz.lays20_ren := {
 mixed := by kernel_rfl
 f20 := Tryz.func61.trans (congrArg some (by kernel_rfl))
 t0 := Tryz.underlying0
 a0 := Tryz.isAgg0
 z0 := Tryz.sizeOf0
 v0 := Tryz.zeroValue0
 t3 := Tryz.underlying3
 a3 := Tryz.isAgg3
 z3 := Tryz.sizeOf3
 v3 := Tryz.zeroValue3
 t4 := Tryz.underlying4
 a4 := Tryz.isAgg4
 z4 := Tryz.sizeOf4
 v4 := Tryz.zeroValue4
 t22 := Tryz.underlying71
 a22 := Tryz.isAgg71
 z22 := Tryz.sizeOf71
 v22 := Tryz.zeroValue71
 i3 := by kernel_rfl }
end
section
open Go.Proofs.YtacohlafmbhcdaaGreatGlib
/-- Where the first element lies that is as asked. -/
def idxP {α : Type} (p : α → Bool) : List α → Nat → Int
 | [], _ => -1
 | x :: l, n => if p x = true then (n : Int) else idxP p l (n + 1)
theorem idxP_any {α : Type} (p : α → Bool) : ∀ (l : List α) (n : Nat), (idxP p l n ≥ 0 ↔ l.any p = true)
 | [], n => by simp [idxP]
 | x :: l, n => by
  rw [List.any_cons, Bool.or_eq_true]
  unfold idxP
  split
  case isTrue h => exact ⟨fun _ => .inl h, fun _ => by omega⟩
  case isFalse h =>
   rw [idxP_any p l (n + 1)]
   exact ⟨.inr, fun h1 => h1.resolve_left h⟩
/-- A function of the program that has a body: a call of its value enters it. -/
def EntersK (k : FuncId) : Prop := ∀ (args : Array Value) (W : World), (callFunc k args).run Tryz.prog W = .ok (.enter k args) W
theorem entersK_of {k : FuncId} {fn : Func} (h : Tryz.prog.funcs[k]? = some fn) (h1 : (fn.name == "runtime.NumGoroutine") = false) (h2 : fn.body.isSome = true) : EntersK k := by
 intro args W
 have e1 : ¬ fn.name = "runtime.NumGoroutine" := by simpa using h1
 have e2 : ¬ fn.body = none := by intro h3; rw [h3] at h2; cases h2
 simp [callFunc, h, e1, e2, Sem.run]
theorem has_of (r : S40) (n : Int) : zone_has.f r.f0 r.f1 n = some (decide (r.f0 ≤ n) && decide (n ≤ r.f1)) := by
 unfold zone_has.f
 by_cases h : r.f0 ≤ n
 · rw [if_pos h, decide_eq_true h]
   rfl
 · rw [if_neg h, decide_eq_false h]
   rfl
end
section
def zone_merged_2.f (a0_0 : Int) (a0_1 : Int) (a1_0 : Int) (a1_1 : Int) : Option (Int × Int × Bool) := some (a0_0, mx a0_1 a1_1, decide (a1_0 ≤ (wrap64 (a0_1 + 1))))
def zone_merged_2.T1 : Bool × List (List Nat × List Nat) := (true, [([], []), ([0], [0]), ([], []), ([2], [2]), ([], []), ([4], [4]), ([3, 5], [3, 5]), ([1, 6], [1, 6]), ([], []), ([8], [8]), ([], []), ([10], [10]), ([11], [11]), ([9, 12], [9, 12]), ([7, 0, 1, 2, 3, 4, 5, 6, 7], [7]), ([13, 14, 0, 1, 2, 3, 4, 5, 6, 7, 8, 9, 10, 11, 12, 13, 14], [13])])
def zone_merged_2.B1 : List Nat := [0, 1, 0, 4, 0, 16, 60, 127, 0, 256, 0, 1024, 3072, 7936, 255, 32767]
theorem zone_merged_2.tab1 : rtab .any (opsOf Tryz.f72 1) = zone_merged_2.T1 := by kernel_rfl
theorem zone_merged_2.bits1 : waitsOk zone_merged_2.T1.2 zone_merged_2.B1 = true := by kernel_rfl
def zone_Canon_1.f (a0 : Bool) (a1 : Bool) : Option (Bool) := some a0
def zone_Meet_1.f (a0 : Bool) (a1 : Bool) : Option (Bool) := if a0 = true then (some a1) else (some false)
def zone_Union_1.f (a0 : Bool) (a1 : Bool) : Option (Bool) := if a0 = true then (some true) else (some a1)
def zone_Less_1.f (a0 : Bool) (a1 : Bool) : Option (Bool) := if a0 = true then (some (!a1)) else (some false)
def zone_Valid_1.f (a0_0 : Int) (a0_1 : Int) (a0_2 : Int) (a0_3 : Int) (a0_4 : Int) : Option (Bool) := (zone_valid.f a0_0 a0_1 a0_2 a0_3 a0_4).bind fun t118 => (some (!t118))
end
section
open Go.Proofs.YtacohlafmbhcdaaGreatGlib
def aggR (z : S40) : Value := .agg #[.int .i64 z.f0, .int .i64 z.f1]
def Reads1 (g : Nat) (a : Int) (W : World) : Prop := W.cell? ⟨g, 0, none⟩ = some (.int .i64 a)
theorem Reads1.below {g : Nat} {a : Int} {W W' : World} (h : Reads1 g a W) (hb : Below W.heap.size W W') : Reads1 g a W' :=
 (hb.cell (World.block_lt_of_cell? W _ h)).trans h
theorem enters64 : EntersK 64 := entersK_of Tryz.func64 (by kernel_rfl) (by kernel_rfl)
def zone_sweep_1.f (l0 : List S40) (a1 : Int) : Option Bool := some (memB a1 l0)
end
section
def zone_Least_1.f (k : Nat) (a0_0 : Int) (a0_1 : Int) (a0_2 : Int) (a0_3 : Int) (a0_4 : Int) (a1_0 : Int) (a1_1 : Int) (a1_2 : Int) (a1_3 : Int) (a1_4 : Int) : Option (Int) := (cmp_Compare_int.f a0_0 a1_0).bind fun t121 => ((cmp_Compare_int.f a0_1 a1_1).bind fun t122 => ((cmp_Compare_int.f a0_3 a1_3).bind fun t123 => ((cmp_Or_int.f k (([t121, t122, t123] : List Int))).bind fun t127 => (some t127))))
theorem zone_Least_1.mono : ∀ a0 a1 a2 a3 a4 a5 a6 a7 a8 a9 k, LeO (zone_Least_1.f k a0 a1 a2 a3 a4 a5 a6 a7 a8 a9) (zone_Least_1.f (k + 1) a0 a1 a2 a3 a4 a5 a6 a7 a8 a9) := by
 intro a0 a1 a2 a3 a4 a5 a6 a7 a8 a9 k
 unfold zone_Least_1.f
 repeat' first
   | (with_reducible exact cmp_Or_int.mono _ _)
   | (with_reducible exact LeO.refl _)
   | (with_reducible exact LeO.none _)
   | (with_reducible refine LeO.ite ?_ ?_)
   | (with_reducible refine LeO.bind ?_ (fun _ => ?_))
   | exact cmp_Or_int.mono _ _
   | exact LeO.none _
   | refine LeO.ite ?_ ?_
   | refine LeO.bind ?_ (fun _ => ?_)
def zone_Least_1.T1 : Bool × List (List Nat × List Nat) := (true, [([], []), ([0], [0]), ([], []), ([2], [2]), ([1, 3], [1, 3]), ([], []), ([5], [5]), ([6], [6]), ([], []), ([8], [8]), ([9], [9]), ([7, 10, 4], [7, 10]), ([], []), ([12], [12]), ([13], [13]), ([], []), ([15], [15]), ([16], [16]), ([14, 17, 11], [14, 17]), ([4, 11, 18], [4, 11, 18]), ([19, 18], [19]), ([20, 20, 0, 1, 2, 3, 4, 5, 6, 7, 8, 9, 10, 11, 12, 13, 14, 15, 16, 17, 18, 19, 20], [20])])
def zone_Least_1.B1 : List Nat := [0, 1, 0, 4, 15, 0, 32, 96, 0, 256, 768, 2047, 0, 4096, 12288, 0, 32768, 98304, 262143, 524287, 1048575, 2097151]
theorem zone_Least_1.tab1 : rtab .any (opsOf Tryz.f39 1) = zone_Least_1.T1 := by kernel_rfl
theorem zone_Least_1.bits1 : waitsOk zone_Least_1.T1.2 zone_Least_1.B1 = true := by kernel_rfl
end
section
def api_Range_84.f (l0 : List S40) : Option (List S40) := if l0.length < 8796093022208 then some l0 else none
end
section
open Go.Sort Go.RowKit Go.Lib
instance : Inhabited S40 := ⟨⟨0, 0⟩⟩
def enc33 (x : S40) : List Value := [.int .i64 x.f0, .int .i64 x.f1]
theorem k40_M {w : World} {base : Nat} {ok : Nat → Prop} {x : S40} {cs : List Value} : k40.M w base ok x cs ↔ cs = enc33 x := by
 constructor
 · rintro ⟨c0, c1, rfl, h0, h1⟩
   rw [show c0 = _ from h0, show c1 = _ from h1]
   rfl
 · rintro rfl
   exact ⟨_, _, rfl, rfl, rfl⟩
theorem reps33_inner {R : S40 → List Value → Prop} (hR : ∀ x c, R x c → c = enc33 x) : ∀ {xs : List S40} {inner : List Value}, Reps R 2 xs inner → inner = xs.flatMap enc33
 | [], inner, h => by
  have := h.1
  simp only [List.length_nil, Nat.zero_mul] at this
  rw [List.eq_nil_of_length_eq_zero this]
  rfl
 | x :: xs, inner, h => by
  have h0 := hR _ _ (h.2 0 x rfl)
  have ih := reps33_inner hR (xs := xs) (inner := inner.drop 2) ⟨by rw [List.length_drop, h.1, List.length_cons]; omega, fun j p hp => by
   rw [List.drop_drop, show 2 + j * 2 = (j + 1) * 2 by omega]
   exact h.2 (j + 1) p (by simpa using hp)⟩
  rw [Nat.zero_mul, List.drop_zero] at h0
  rw [List.flatMap_cons, ← ih, ← h0, List.take_append_drop]
theorem flat_at (enc : S40 → List Value) (he : ∀ x, (enc x).length = 2) : ∀ (xs : List S40) (j : Nat) (p : S40), xs[j]? = some p → ((xs.flatMap enc).drop (j * 2)).take 2 = enc p
 | [], j, p, h => by simp at h
 | x :: xs, 0, p, h => by
  rw [List.getElem?_cons_zero] at h
  cases h
  rw [Nat.zero_mul, List.drop_zero, List.flatMap_cons]
  exact List.take_left' (he _)
 | x :: xs, j + 1, p, h => by
  rw [List.getElem?_cons_succ] at h
  rw [List.flatMap_cons, show (j + 1) * 2 = 2 + j * 2 by omega, ← List.drop_drop, List.drop_left' (he _)]
  exact flat_at enc he xs j p h
theorem flat_len (xs : List S40) : (xs.flatMap enc33).length = xs.length * 2 := by
 induction xs with
 | nil => rfl
 | cons x xs ih => rw [List.flatMap_cons, List.length_append, ih, List.length_cons]; show 2 + _ = _; omega
theorem reps33_flat {w : World} {base : Nat} {ok : Nat → Prop} (xs : List S40) : Reps (k40.M w base ok) 2 xs (xs.flatMap enc33) :=
 ⟨flat_len xs, fun j p hp => k40_M.2 (flat_at enc33 (fun _ => rfl) xs j p hp)⟩
theorem flat_get (xs : List S40) (t : Nat) (h : t < xs.length * 2) : (xs.flatMap enc33)[t]? = some ((flatK enc33 2 xs.toArray)[t]!) := by
 rw [get_flatK _ _ _ _ (by simpa using h)]
 have hj : t / 2 < xs.length := by omega
 have h1 := flat_at enc33 (fun _ => rfl) xs (t / 2) xs[t / 2] (List.getElem?_eq_getElem hj)
 have h2 : (((xs.flatMap enc33).drop (t / 2 * 2)).take 2)[t % 2]? = (enc33 xs[t / 2])[t % 2]? := by rw [h1]
 rw [List.getElem?_take_of_lt (by omega), List.getElem?_drop, show t / 2 * 2 + t % 2 = t by omega] at h2
 rw [h2, show (xs.toArray)[t / 2]! = xs[t / 2] by simp [hj]]
 rcases Nat.mod_two_eq_zero_or_one t with e | e <;> rw [e] <;> rfl
theorem holds33 {w : World} {g : Nat} {cur : Array Value} {xs : List S40} (hb : w.heap[g]? = some (.cells cur 40 (0, 0))) (ht : cur.toList.take (xs.length * 2) = xs.flatMap enc33) : HoldsK enc33 2 w g 0 xs.toArray := by
 intro t hlt
 have hlt' : t < xs.length * 2 := by simpa using hlt
 refine ⟨?_, by simp [World.frozen?, hb]⟩
 have h1 : (cur.toList.take (xs.length * 2))[t]? = (xs.flatMap enc33)[t]? := by rw [ht]
 rw [List.getElem?_take_of_lt hlt', flat_get xs t hlt'] at h1
 simp only [World.cell?, hb, Nat.zero_add]
 simp only [Option.isSome_none, Bool.false_eq_true, if_false]
 rw [← Array.getElem?_toList, h1]
 rfl
theorem heap_sorted33 {w : World} {g n : Nat} {os : Array Obj} {cur : Array Value} {e : TypeId} {fr : Nat × Nat} (d : Array S40) (hb : w.heap[g]? = some (.cells cur e fr)) :
  (sortWorldK enc33 2 w g 0 n d os).heap[g]? = some (.cells (putCells id 0 (flatK enc33 2 d) cur) e fr) := by
 have hg : g < w.heap.size := (Array.getElem?_eq_some_iff.1 hb).1
 unfold sortWorldK putRowK
 rw [Go.Sort.heap_grow_old _ _ (by simpa [putRow, mapBlock, Sort.ahead] using hg)]
 simp [putRow, mapBlock, Sort.ahead, Array.getElem?_modify, hb, onCells]
theorem grownBy_sorted33 {w : World} {g n : Nat} {os : Array Obj} (d : Array S40) : w.grownBy (sortWorldK enc33 2 w g 0 n d os) (some g) := by
 unfold sortWorldK putRowK
 refine ⟨rfl, rfl, rfl, by simp [grow, putRow, mapBlock, Sort.ahead], fun k hk hne => ?_⟩
 rw [Go.Sort.heap_grow_old _ _ (by simpa [putRow, mapBlock, Sort.ahead] using hk)]
 have : g ≠ k := fun e => hne (by rw [e])
 simp [putRow, mapBlock, Sort.ahead, Array.getElem?_modify, this]
theorem take_put33 (cur : Array Value) (ys : List S40) (h : ys.length * 2 ≤ cur.size) : (putCells id 0 (flatK enc33 2 ys.toArray) cur).toList.take (ys.length * 2) = ys.flatMap enc33 := by
 apply List.ext_getElem?
 intro t
 by_cases ht : t < ys.length * 2
 · rw [List.getElem?_take_of_lt ht, Array.getElem?_toList, flat_get ys t ht]
   simp [putCells, ht, show t < cur.size by omega]
 · rw [List.getElem?_take_eq_none (by omega), List.getElem?_eq_none (by rw [flat_len]; omega)]
def cmpR (x y : S40) : Int := Lib.compareInt x.f0 y.f0
theorem cmp_of (a b : Int) : cmp_Compare_int.f a b = some (Lib.compareInt a b) := by
 unfold cmp_Compare_int.f cmp_isNaN_int.f Lib.compareInt
 simp only [bne_self_eq_false, Option.bind_some, Bool.false_eq_true, if_false]
 split
 · rfl
 · split <;> rfl
theorem ltR (x y : S40) : ltOf cmpR x y = decide (x.f0 < y.f0) := by
 unfold ltOf cmpR Lib.compareInt
 by_cases h1 : x.f0 < y.f0
 · simp [h1]
 · by_cases h2 : y.f0 < x.f0 <;> simp [h1, h2]
theorem swoR : SWO (ltOf cmpR) where
 irrefl x := by rw [ltR]; simp
 trans x y z h1 h2 := by rw [ltR] at *; simp at *; omega
 ntrans x y z h1 h2 := by rw [ltR] at *; simp at *; omega
theorem enters70 : ∀ args W, (callFunc 70 args).run Tryz.prog W = .ok (.enter 70 args) W := entersK_of Tryz.func70 (by kernel_rfl) (by kernel_rfl)
def zone_joined.l0 : Nat → List (S40) → List (S40) → Int → Int → Option ((List (S40)))
 | 0, _, _, _, _ => none
 | k + 1, x7, x18, x19, x20 => if x20 < x19 then (if 0 ≤ x20 then (if x20 < (x18.length : Int) then (if (x7.length : Int) > 0 then (if 0 ≤ (wrap64 ((x7.length : Int) - 1)) then (if (wrap64 ((x7.length : Int) - 1)) < (x7.length : Int) then ((zone_merged_2.f ((rd_T40 x7 (wrap64 ((x7.length : Int) - 1))).f0) ((rd_T40 x7 (wrap64 ((x7.length : Int) - 1))).f1) ((rd_T40 x18 x20).f0) ((rd_T40 x18 x20).f1)).bind fun bt134 => (if bt134.2.2 = true then (zone_joined.l0 k (x7.set ((wrap64 ((x7.length : Int) - 1)) : Int).toNat (⟨bt134.1, bt134.2.1⟩ : S40)) x18 x19 (wrap64 (x20 + 1))) else (if x7.length < 8796093022208 then (zone_joined.l0 k (x7 ++ [(⟨(rd_T40 x18 x20).f0, (rd_T40 x18 x20).f1⟩ : S40)]) x18 x19 (wrap64 (x20 + 1))) else (none)))) else (none)) else (none)) else (if x7.length < 8796093022208 then (zone_joined.l0 k (x7 ++ [(⟨(rd_T40 x18 x20).f0, (rd_T40 x18 x20).f1⟩ : S40)]) x18 x19 (wrap64 (x20 + 1))) else (none))) else (none)) else (none)) else (some x7)
def zone_joined.T9 : Bool × List (List Nat × List Nat) := (true, [([], []), ([], []), ([], []), ([2], [2]), ([1, 3], [1, 3]), ([4], [4]), ([], []), ([0, 5, 6], [0, 5, 6]), ([7], [7]), ([8], [8]), ([8], [8]), ([], []), ([11, 9, 7, 0, 1, 2, 3, 4, 5, 6, 7, 8, 9, 11], [9, 11]), ([10, 12, 0, 1, 2, 3, 4, 5, 6, 7, 8, 9, 10, 11, 12], [10])])
def zone_joined.B9 : List Nat := [0, 0, 0, 4, 14, 30, 0, 127, 255, 511, 511, 0, 3071, 8191]
theorem zone_joined.tab9 : rtab .any (opsOf Tryz.f71 9) = zone_joined.T9 := by kernel_rfl
theorem zone_joined.bits9 : waitsOk zone_joined.T9.2 zone_joined.B9 = true := by kernel_rfl
theorem drop_at {l : List S40} {n : Nat} (h : n < l.length) : l.drop n = l[n] :: l.drop (n + 1) := List.drop_eq_getElem_cons h
theorem rd33_at {l : List S40} {n : Nat} (h : n < l.length) : rd_T40 l (n : Int) = l[n] := by
 unfold rd_T40
 rw [Int.toNat_natCast, List.getD_eq_getElem?_getD, List.getElem?_eq_getElem h]
 rfl
def BndR (l : List S40) : Prop := ∀ r ∈ l, r.f0 ≤ r.f1 ∧ -4611686018427387904 ≤ r.f0 ∧ r.f1 ≤ 4611686018427387904
theorem join_run {ys : List S40} (hys : BndR ys) (hlen : ys.length < 8796093022208) : ∀ (m n : Nat) (o : List S40) (y : S40), n + m = ys.length → o.length < n → BndR [y] → zone_joined.l0 (m + 1) (o ++ [y]) ys (ys.length : Int) (n : Int) = some (o ++ joinP y (ys.drop n))
 | 0, n, o, y, hn, ho, hy => by
  unfold zone_joined.l0
  rw [if_neg (by omega), List.drop_eq_nil_of_le (by omega)]
  rfl
 | m + 1, n, o, y, hn, ho, hy => by
  have hlt : n < ys.length := by omega
  have hol : (o ++ [y]).length = o.length + 1 := by simp
  have hw : wrap64 (((o ++ [y]).length : Int) - 1) = ((o.length : Nat) : Int) := by rw [hol, Go.Proofs.YtacohlafmbhcdaaGreatGlib.wrap64_id (by omega) (by omega)]; omega
  have hr : rd_T40 (o ++ [y]) (o.length : Int) = y := by rw [rd33_at (by omega)]; simp
  have hx := rd33_at hlt
  have hwn : wrap64 ((n : Int) + 1) = ((n + 1 : Nat) : Int) := Go.Proofs.YtacohlafmbhcdaaGreatGlib.wrap_next (by omega)
  have hy0 := hy y List.mem_cons_self
  have hx0 := hys ys[n] (List.getElem_mem hlt)
  unfold zone_joined.l0
  rw [if_pos (by omega), if_pos (by omega), if_pos (by omega), if_pos (by omega), hw, if_pos (by omega), if_pos (by omega), hr, hx, hwn]
  unfold zone_merged_2.f
  rw [Option.bind_some, drop_at hlt, joinP, Go.Proofs.YtacohlafmbhcdaaGreatGlib.wrap64_id (by omega) (by omega), Go.Proofs.YtacohlafmbhcdaaGreatGlib.mx_eq]
  by_cases hj : ys[n].f0 ≤ y.f1 + 1
  · rw [if_pos (decide_eq_true hj), if_pos hj, Int.toNat_natCast, show (o ++ [y]).set o.length ⟨y.f0, max y.f1 ys[n].f1⟩ = o ++ [⟨y.f0, max y.f1 ys[n].f1⟩] by simp]
    refine join_run hys hlen m (n + 1) o _ (by omega) (by omega) (fun r hr => ?_)
    rw [List.mem_singleton.1 hr]
    exact ⟨by show y.f0 ≤ max y.f1 ys[n].f1; omega, hy0.2.1, by show max y.f1 ys[n].f1 ≤ _; omega⟩
  · rw [if_neg (by simpa using hj), if_neg hj, if_pos (by omega)]
    have := join_run hys hlen m (n + 1) (o ++ [y]) ys[n] (by omega) (by omega) (fun r hr => by rw [List.mem_singleton.1 hr]; exact hx0)
    exact this.trans (by rw [List.append_assoc]; rfl)
theorem join_all {ys : List S40} (hys : BndR ys) (hlen : ys.length < 8796093022208) : ∃ k, zone_joined.l0 k [] ys (ys.length : Int) 0 = some (joinL ys) := by
 cases ys with
 | nil => exact ⟨1, rfl⟩
 | cons y l =>
  refine ⟨l.length + 2, ?_⟩
  have h := join_run hys hlen l.length 1 [] y (by simp; omega) (by simp) (fun r hr => by rw [List.mem_singleton.1 hr]; exact hys y List.mem_cons_self)
  have hx : rd_T40 (y :: l) 0 = y := rfl
  unfold zone_joined.l0
  rw [if_pos (by simp), if_pos (by omega), if_pos (by simp), if_neg (by simp), if_pos (by simp), hx, show wrap64 (0 + 1) = ((1 : Nat) : Int) by rw [Go.Proofs.YtacohlafmbhcdaaGreatGlib.wrap64_id (by omega) (by omega)]; rfl]
  exact h
/-- What the ranges of a list make: rising, none touching the next. -/
def mergeP (l : List S40) : List S40 := layAll [] l
theorem mergeP_join {l ys : List S40} (hl : Ok l) (hp : ys.Perm l) (hs : ys.Pairwise fun a b => a.f0 ≤ b.f0) (B : Int) (hB : ∀ r ∈ l, B ≤ r.f0) : joinL ys = mergeP l := by
 have h1 := joinL_can ys B (fun r hr => hl r (hp.mem_iff.1 hr)) hs (fun r hr => hB r (hp.mem_iff.1 hr))
 have h2 := layAll_can l [] B trivial hl hB
 refine can_uniq h1.1 h2.1 fun n => ?_
 rw [h1.2, show mergeP l = layAll [] l from rfl, h2.2, mem_perm hp]
 simp [mem_nil]
def bndB (l : List S40) : Bool := decide (l.length < 8796093022208) && l.all fun r => decide (r.f0 ≤ r.f1) && (decide (-4611686018427387904 ≤ r.f0) && decide (r.f1 ≤ 4611686018427387904))
theorem bndB_iff {l : List S40} : bndB l = true ↔ l.length < 8796093022208 ∧ BndR l := by
 simp [bndB, BndR]
def zone_merged.f (l0 : List S40) : Option (List S40) := if bndB l0 = true then some (mergeP l0) else none
end
section
def zone_widths.l0 : Nat → Int → Int → List (S40) → List (S42) → Int → Int → Option ((List (S40)))
 | 0, _, _, _, _, _, _ => none
 | k + 1, x1, x2, x7, x10, x11, x12 => if x12 < x11 then (if 0 ≤ x12 then (if x12 < (x10.length : Int) then (if ((rd_T42 x10 x12).f0) = x1 then ((zone_has.f ((rd_T42 x10 x12).f1.f0) ((rd_T42 x10 x12).f1.f1) x2).bind fun t130 => (if t130 = true then (if x7.length < 8796093022208 then (zone_widths.l0 k x1 x2 (x7 ++ [(⟨(rd_T42 x10 x12).f2.f0, (rd_T42 x10 x12).f2.f1⟩ : S40)]) x10 x11 (wrap64 (x12 + 1))) else (none)) else (zone_widths.l0 k x1 x2 x7 x10 x11 (wrap64 (x12 + 1))))) else (zone_widths.l0 k x1 x2 x7 x10 x11 (wrap64 (x12 + 1)))) else (none)) else (none)) else ((zone_merged.f x7).bind fun t134 => (some t134))
def zone_widths.f (k : Nat) (l0 : List (S42)) (a1 : Int) (a2 : Int) : Option ((List (S40))) := zone_widths.l0 k a1 a2 ([] : List (S40)) l0 (l0.length : Int) 0
theorem zone_widths.mono_l : ∀ k, (∀ y0 y1 y2 y3 y4 y5, LeO (zone_widths.l0 k y0 y1 y2 y3 y4 y5) (zone_widths.l0 (k + 1) y0 y1 y2 y3 y4 y5))
 | 0 => fun _ _ _ _ _ _ r h => by simp [zone_widths.l0] at h
 | k + 1 => by
  have ih0 := zone_widths.mono_l k
  · intro y0 y1 y2 y3 y4 y5
    unfold zone_widths.l0
    repeat' first
    | (with_reducible exact ih0 _ _ _ _ _ _)
    | (with_reducible exact LeO.refl _)
    | (with_reducible exact LeO.none _)
    | (with_reducible refine LeO.ite ?_ ?_)
    | (with_reducible refine LeO.bind ?_ (fun _ => ?_))
    | exact ih0 _ _ _ _ _ _
    | exact LeO.none _
    | refine LeO.ite ?_ ?_
    | refine LeO.bind ?_ (fun _ => ?_)
theorem zone_widths.mono : ∀ a0 a1 a2 k, LeO (zone_widths.f k a0 a1 a2) (zone_widths.f (k + 1) a0 a1 a2) := by
 intro a0 a1 a2 k
 have ih0 := zone_widths.mono_l k
 unfold zone_widths.f
 repeat' first
   | (with_reducible exact ih0 _ _ _ _ _ _)
   | (with_reducible exact LeO.refl _)
   | (with_reducible exact LeO.none _)
   | (with_reducible refine LeO.ite ?_ ?_)
   | (with_reducible refine LeO.bind ?_ (fun _ => ?_))
   | exact ih0 _ _ _ _ _ _
   | exact LeO.none _
   | refine LeO.ite ?_ ?_
   | refine LeO.bind ?_ (fun _ => ?_)
end
section
theorem R33_none {w : World} {base n c : Nat} {ad : Addr} {ok : Nat → Prop} {xs : List S40} (h : Kd.R k40 40 w base ok (.slice (some ad) n c) xs) : Kd.R k40 40 w base ok (.slice (some ad) 0 c) [] := by
 obtain ⟨h0, inner, ho, hr⟩ := h
 rcases ho.2 with ⟨hv, _⟩ | ⟨g, cap, cur, hv, hbg, hg, hnc, hcm, hsz, ht⟩
 · cases hv
 · cases hv
   exact ⟨h0, [], ⟨rfl, .inr ⟨g, c, cur, rfl, hbg, hg, Nat.zero_le _, hcm, hsz, by simp⟩⟩, Reps.none _ _⟩
open Go.Sort Go.RowKit Go.Lib
theorem ints_encs (xs : List Int) : encs (Value.int .i64) xs = xs.map (Value.int .i64) := rfl
/-- The ends of ranges, rising, each once. -/
def endsP (l : List Int) : List Int := Lib.compact (l.mergeSort fun x y => decide (x ≤ y))
def wantO (wf : Bool → Bool → Bool) (a b : Bool) : Option Bool := some (wf a b)
def zone_sweep.l1 (wf : Bool → Bool → Bool) : Nat → List (S40) → List (S40) → List Int → List (S40) → Int → Option ((List (S40)))
 | 0, _, _, _, _, _ => none
 | k + 1, x0, x1, x7, x11, x12 => if (wrap64 (x12 + 1)) < (x7.length : Int) then (if 0 ≤ x12 then (if x12 < (x7.length : Int) then ((zone_sweep_1.f x0 (rd x7 x12)).bind fun t255 => ((zone_sweep_1.f x1 (rd x7 x12)).bind fun t257 => ((wantO wf t255 t257).bind fun t258 => (if t258 = true then (if 0 ≤ (wrap64 (x12 + 1)) then (if x11.length < 8796093022208 then (zone_sweep.l1 wf k x0 x1 x7 (x11 ++ [(⟨rd x7 x12, wrap64 ((rd x7 (wrap64 (x12 + 1))) - 1)⟩ : S40)]) (wrap64 (x12 + 1))) else (none)) else (none)) else (zone_sweep.l1 wf k x0 x1 x7 x11 (wrap64 (x12 + 1))))))) else (none)) else (none)) else ((zone_merged.f x11).bind fun t251 => (some t251))
def zone_sweep.l0 (wf : Bool → Bool → Bool) : Nat → List (S40) → List (S40) → List Int → List (S40) → Int → Int → Option ((List (S40)))
 | 0, _, _, _, _, _, _ => none
 | k + 1, x0, x1, x7, x16, x17, x18 => if x18 < x17 then (if 0 ≤ x18 then (if x18 < (x16.length : Int) then ((some (([(rd_T40 x16 x18).f0, wrap64 (((rd_T40 x16 x18).f1) + 1)] : List Int) : List Int)).bind fun y245 => (if x7.length + y245.length < 17592186044416 then (zone_sweep.l0 wf k x0 x1 (x7 ++ y245) x16 x17 (wrap64 (x18 + 1))) else (none))) else (none)) else (none)) else (if x7.length < 17592186044416 then (zone_sweep.l1 wf k x0 x1 (endsP x7) ([] : List (S40)) 0) else none)
def zone_sweep.f (wf : Bool → Bool → Bool) (k : Nat) (l0 : List (S40)) (l1 : List (S40)) : Option ((List (S40))) := if l0.length + l1.length < 8796093022208 then zone_sweep.l0 wf k l0 l1 ([] : List Int) (l0 ++ l1) ((l0 ++ l1).length : Int) 0 else none
def zone_sweep.T14 : Bool × List (List Nat × List Nat) := (true, [([], []), ([], []), ([], []), ([], []), ([], []), ([3, 4], [3, 4]), ([5], [5]), ([1, 2, 6], [1, 2, 6]), ([], []), ([], []), ([], []), ([], []), ([10, 11], [10, 11]), ([12], [12]), ([8, 9, 13, 7], [8, 9, 13]), ([0, 7, 14, 14], [0, 7, 14])])
def zone_sweep.B14 : List Nat := [0, 0, 0, 0, 0, 24, 56, 126, 0, 0, 0, 0, 3072, 7168, 16382, 32767]
theorem zone_sweep.tab14 : rtab .any (opsOf Tryz.f54 14) = zone_sweep.T14 := by kernel_rfl
theorem zone_sweep.bits14 : waitsOk zone_sweep.T14.2 zone_sweep.B14 = true := by kernel_rfl
def zone_sweep.T15 : Bool × List (List Nat × List Nat) := (true, [([], []), ([], []), ([], []), ([1, 2], [1, 2]), ([3], [3]), ([], []), ([], []), ([6], [6]), ([5, 7], [5, 7]), ([8], [8]), ([9], [9]), ([4, 10], [4, 10]), ([11], [11]), ([0, 12], [0, 12]), ([13, 13, 0, 1, 2, 3, 4, 5, 6, 7, 8, 9, 10, 11, 12, 13], [0, 13])])
def zone_sweep.B15 : List Nat := [0, 0, 0, 6, 14, 0, 0, 64, 224, 480, 992, 2046, 4094, 8191, 16383]
theorem zone_sweep.tab15 : rtab .any (opsOf Tryz.f54 15) = zone_sweep.T15 := by kernel_rfl
theorem zone_sweep.bits15 : waitsOk zone_sweep.T15.2 zone_sweep.B15 = true := by kernel_rfl
end
section
theorem compact_spec (d : Array Int) (hs : ∀ i j, i ≤ j → j < d.size → d[i]! ≤ d[j]!) : ∀ m, m ≤ d.size → (Lib.compactUpTo d m).Pairwise (· < ·) ∧ (∀ x ∈ Lib.compactUpTo d m, ∃ j, j < m ∧ x = d[j]!) ∧ (∀ j, j < m → d[j]! ∈ Lib.compactUpTo d m)
 | 0, _ => ⟨by simp [Lib.compactUpTo], by simp [Lib.compactUpTo], fun j h => by omega⟩
 | m + 1, hm => by
  obtain ⟨h1, h2, h3⟩ := compact_spec d hs m (by omega)
  rw [Lib.compactUpTo_succ]
  by_cases hk : Lib.keeps d m = true
  · rw [if_pos hk]
    refine ⟨?_, ?_, ?_⟩
    · rw [List.pairwise_append]
      refine ⟨h1, by simp, fun x hx y hy => ?_⟩
      rw [List.mem_singleton.1 hy]
      obtain ⟨j, hj, rfl⟩ := h2 x hx
      have hne : d[m]! ≠ d[m - 1]! := by
       rcases (by simpa [Lib.keeps] using hk : m = 0 ∨ ¬ d[m]! = d[m - 1]!) with h | h
       · omega
       · exact h
      have a := hs j (m - 1) (by omega) (by omega)
      have b := hs (m - 1) m (by omega) (by omega)
      omega
    · intro x hx
      rcases List.mem_append.1 hx with hx | hx
      · obtain ⟨j, hj, e⟩ := h2 x hx
        exact ⟨j, by omega, e⟩
      · exact ⟨m, by omega, List.mem_singleton.1 hx⟩
    · intro j hj
      by_cases e : j = m
      · subst e
        exact List.mem_append_right _ (by simp)
      · exact List.mem_append_left _ (h3 j (by omega))
  · rw [if_neg hk, List.append_nil]
    refine ⟨h1, fun x hx => ?_, fun j hj => ?_⟩
    · obtain ⟨j, hj, e⟩ := h2 x hx
      exact ⟨j, by omega, e⟩
    · by_cases e : j = m
      · subst e
        have hh : ¬ (j = 0 ∨ ¬ d[j]! = d[j - 1]!) := by simpa [Lib.keeps] using hk
        have hj0 : j ≠ 0 := fun h => hh (.inl h)
        have he : d[j]! = d[j - 1]! := by
         by_cases q : d[j]! = d[j - 1]!
         · exact q
         · exact absurd (.inr q) hh
        rw [he]
        exact h3 (j - 1) (by omega)
      · exact h3 j (by omega)
theorem endsP_spec (l : List Int) : (endsP l).Pairwise (· < ·) ∧ ∀ x, x ∈ endsP l ↔ x ∈ l := by
 have hsorted : (l.mergeSort fun x y => decide (x ≤ y)).Pairwise fun x y => x ≤ y := by
  have := List.pairwise_mergeSort (le := fun x y : Int => decide (x ≤ y)) (fun a b c h1 h2 => by simp at *; omega) (fun a b => by simp; omega) l
  exact this.imp (fun h => by simpa using h)
 have hperm := List.mergeSort_perm l fun x y => decide (x ≤ y)
 unfold endsP Lib.compact
 generalize (l.mergeSort fun x y => decide (x ≤ y)) = s at *
 have hs : ∀ i j, i ≤ j → j < s.toArray.size → s.toArray[i]! ≤ s.toArray[j]! := by
  intro i j hij hj
  have hj' : j < s.length := by simpa using hj
  have hi' : i < s.length := by omega
  rw [show s.toArray[i]! = s[i] by simp [hi'], show s.toArray[j]! = s[j] by simp [hj']]
  rcases Nat.lt_or_ge i j with h | h
  · exact List.pairwise_iff_getElem.1 hsorted i j hi' hj' h
  · have : i = j := by omega
    subst this
    exact Int.le_refl _
 obtain ⟨h1, h2, h3⟩ := compact_spec s.toArray hs s.length (by simp)
 refine ⟨h1, fun x => ⟨fun hx => ?_, fun hx => ?_⟩⟩
 · obtain ⟨j, hj, rfl⟩ := h2 x hx
   rw [show s.toArray[j]! = s[j] by simp [hj]]
   exact hperm.mem_iff.1 (List.getElem_mem hj)
 · obtain ⟨j, hj, rfl⟩ := List.getElem_of_mem (hperm.mem_iff.2 hx)
   have := h3 j hj
   rwa [show s.toArray[j]! = s[j] by simp [hj]] at this
open Go.Proofs.YtacohlafmbhcdaaGreatGlib
theorem rd_at {l : List Int} {n : Nat} (h : n < l.length) : rd l (n : Int) = l[n] := by
 unfold rd
 rw [Int.toNat_natCast, List.getD_eq_getElem?_getD, List.getElem?_eq_getElem h]
 rfl
theorem bindS {α : Type} (x : Option α) : x.bind some = x := by cases x <;> rfl
theorem sweep_run1 {wf : Bool → Bool → Bool} {a b : List S40} {es : List Int} (hes : ∀ e ∈ es, 0 ≤ e ∧ e ≤ 1099511627776) (hlen : es.length < 4398046511104) : ∀ (m n : Nat) (out : List S40), n + m + 1 = es.length → out.length ≤ n →
  zone_sweep.l1 wf (m + 1) a b es out (n : Int) = zone_merged.f (out ++ sweepL wf a b (es.drop n))
 | 0, n, out, hn, ho => by
  have hlt : n < es.length := by omega
  unfold zone_sweep.l1
  rw [wrap_next (by omega), if_neg (by omega), List.drop_eq_getElem_cons hlt, List.drop_eq_nil_of_le (by omega)]
  show (zone_merged.f out).bind some = _
  rw [bindS]
  simp [sweepL]
 | m + 1, n, out, hn, ho => by
  have hlt : n < es.length := by omega
  have hlt1 : n + 1 < es.length := by omega
  have h1 := hes es[n] (List.getElem_mem hlt)
  have h2 := hes es[n + 1] (List.getElem_mem hlt1)
  have ih := fun out ho => sweep_run1 (wf := wf) (a := a) (b := b) hes hlen m (n + 1) out (by omega) ho
  unfold zone_sweep.l1
  rw [wrap_next (by omega), if_pos (by omega), if_pos (by omega), if_pos (by omega), rd_at hlt, rd_at hlt1, wrap64_id (by omega) (by omega), List.drop_eq_getElem_cons hlt]
  have hd : es.drop (n + 1) = es[n + 1] :: es.drop (n + 1 + 1) := List.drop_eq_getElem_cons hlt1
  rw [hd] at ih ⊢
  unfold zone_sweep_1.f wantO
  simp only [Option.bind_some, sweepL]
  by_cases hw : wf (memB es[n] a) (memB es[n] b) = true
  · rw [if_pos hw, if_pos hw, if_pos (by omega), if_pos (by omega), ih _ (by simp; omega), List.append_assoc]
    rfl
  · rw [if_neg hw, if_neg hw, ih _ (by omega)]
def ends2 (l : List S40) : List Int := l.flatMap fun r => [r.f0, r.f1 + 1]
theorem ends2_len (l : List S40) : (ends2 l).length = 2 * l.length := by
 induction l with
 | nil => rfl
 | cons r l ih =>
  have : (ends2 (r :: l)).length = 2 + (ends2 l).length := by simp [ends2]; omega
  rw [this, ih, List.length_cons]
  omega
theorem sweep_run0 {wf : Bool → Bool → Bool} {a b xs : List S40} (hxs : ∀ r ∈ xs, 0 ≤ r.f0 ∧ r.f0 ≤ r.f1 ∧ r.f1 ≤ 1099511627775) (hlen : xs.length < 1099511627776) (K : Nat) : ∀ (m n : Nat) (acc : List Int), n + m = xs.length → acc.length = 2 * n →
  zone_sweep.l0 wf (m + 1 + K) a b acc xs (xs.length : Int) (n : Int) = zone_sweep.l1 wf K a b (endsP (acc ++ ends2 (xs.drop n))) [] 0
 | 0, n, acc, hn, ho => by
  rw [show 0 + 1 + K = K + 1 by omega]
  unfold zone_sweep.l0
  rw [if_neg (by omega), if_pos (by omega), List.drop_eq_nil_of_le (by omega)]
  simp [ends2]
 | m + 1, n, acc, hn, ho => by
  have hlt : n < xs.length := by omega
  have h1 := hxs xs[n] (List.getElem_mem hlt)
  have ih := sweep_run0 (wf := wf) (a := a) (b := b) hxs hlen K m (n + 1) (acc ++ [xs[n].f0, xs[n].f1 + 1]) (by omega) (by simp; omega)
  rw [show m + 1 + 1 + K = (m + 1 + K) + 1 by omega]
  unfold zone_sweep.l0
  rw [if_pos (by omega), if_pos (by omega), if_pos (by omega), Option.bind_some, rd33_at hlt, wrap64_id (x := xs[n].f1 + 1) (by omega) (by omega), if_pos (by simp; omega), wrap_next (by omega), ih, List.drop_eq_getElem_cons hlt]
  unfold ends2
  rw [List.flatMap_cons, List.append_assoc]
theorem mem_ends2 {l : List S40} {x : Int} : x ∈ ends2 l ↔ ∃ r ∈ l, x = r.f0 ∨ x = r.f1 + 1 := by
 simp [ends2]
theorem sweepL_in {wf : Bool → Bool → Bool} {a b : List S40} : ∀ {es : List Int}, ∀ r ∈ sweepL wf a b es, r.f0 ∈ es ∧ r.f1 + 1 ∈ es
 | [], r, h => by simp [sweepL] at h
 | [e], r, h => by simp [sweepL] at h
 | e :: e' :: es, r, h => by
  rw [sweepL] at h
  have go : ∀ h : r ∈ sweepL wf a b (e' :: es), r.f0 ∈ e :: e' :: es ∧ r.f1 + 1 ∈ e :: e' :: es := fun h => ⟨List.mem_cons_of_mem _ (sweepL_in r h).1, List.mem_cons_of_mem _ (sweepL_in r h).2⟩
  split at h
  · rcases List.mem_cons.1 h with rfl | h
    · exact ⟨List.mem_cons_self, by show e' - 1 + 1 ∈ _; rw [show e' - 1 + 1 = e' by omega]; simp⟩
    · exact go h
  · exact go h
theorem sweepL_len {wf : Bool → Bool → Bool} {a b : List S40} : ∀ {es : List Int}, (sweepL wf a b es).length ≤ es.length
 | [] => by simp [sweepL]
 | [e] => by simp [sweepL]
 | e :: e' :: es => by
  have := sweepL_len (wf := wf) (a := a) (b := b) (es := e' :: es)
  rw [sweepL]
  split
  · simp only [List.length_cons] at *; omega
  · simp only [List.length_cons] at *; omega
/-- Ranges of widths. -/
def OkW (l : List S40) : Prop := l.length < 1000000 ∧ ∀ r ∈ l, 200 ≤ r.f0 ∧ r.f0 ≤ r.f1 ∧ r.f1 ≤ 4000
theorem endsP_len (l : List Int) : (endsP l).length ≤ l.length := by
 unfold endsP Lib.compact Lib.compactUpTo
 rw [List.length_map]
 exact Nat.le_trans (List.length_filter_le _ _) (by simp)
theorem sweep_of {wf : Bool → Bool → Bool} (hw : wf false false = false) {a b : List S40} (ha : OkW a) (hb : OkW b) :
  ∃ k r, zone_sweep.f wf k a b = some r ∧ CanF 200 r ∧ ∀ n, mem n r ↔ wf (memB n a) (memB n b) = true := by
 have hx : ∀ r ∈ a ++ b, 200 ≤ r.f0 ∧ r.f0 ≤ r.f1 ∧ r.f1 ≤ 4000 := fun r hr => (List.mem_append.1 hr).elim (ha.2 r) (hb.2 r)
 have hxl : (a ++ b).length < 2000000 := by have := ha.1; have := hb.1; simp; omega
 obtain ⟨he1, he2⟩ := endsP_spec (ends2 (a ++ b))
 have hel := Nat.le_trans (endsP_len (ends2 (a ++ b))) (Nat.le_of_eq (ends2_len _))
 have heb : ∀ e ∈ endsP (ends2 (a ++ b)), 200 ≤ e ∧ e ≤ 4001 := fun e h => by
  obtain ⟨r, hr, e1⟩ := mem_ends2.1 ((he2 e).1 h)
  have := hx r hr
  rcases e1 with rfl | rfl <;> omega
 have h0 := fun K => sweep_run0 (wf := wf) (a := a) (b := b) (fun r hr => by have := hx r hr; omega) (by omega) K (a ++ b).length 0 [] (by omega) rfl
 simp only [List.drop_zero, List.nil_append] at h0
 have hin : ∀ (l : List S40), (∀ r ∈ l, r ∈ a ++ b) → ∀ r ∈ l, r.f0 ≤ r.f1 ∧ r.f0 ∈ endsP (ends2 (a ++ b)) ∧ r.f1 + 1 ∈ endsP (ends2 (a ++ b)) := fun l hl r hr =>
  ⟨(hx r (hl r hr)).2.1, (he2 _).2 (mem_ends2.2 ⟨r, hl r hr, .inl rfl⟩), (he2 _).2 (mem_ends2.2 ⟨r, hl r hr, .inr rfl⟩)⟩
 generalize endsP (ends2 (a ++ b)) = es at *
 have hres : ∃ K, zone_sweep.l1 wf K a b es [] 0 = zone_merged.f (sweepL wf a b es) := by
  cases es with
  | nil =>
   refine ⟨1, ?_⟩
   unfold zone_sweep.l1
   rw [show wrap64 (0 + 1) = ((1 : Nat) : Int) by rw [wrap64_id (by omega) (by omega)]; rfl, if_neg (by simp)]
   show (zone_merged.f []).bind some = _
   rw [bindS]
   rfl
  | cons e es =>
   refine ⟨es.length + 1, ?_⟩
   have := sweep_run1 (wf := wf) (a := a) (b := b) (es := e :: es) (fun x hx => by have := heb x hx; omega) (by omega) es.length 0 [] (by simp) (by simp)
   simpa using this
 obtain ⟨K, hK⟩ := hres
 have hlow : Ok (sweepL wf a b es) ∧ (sweepL wf a b es).Pairwise (fun x y => x.f0 ≤ y.f0) := by
  cases es with
  | nil => exact ⟨fun r hr => by simp [sweepL] at hr, by simp [sweepL]⟩
  | cons e es => exact ⟨(sweep_low es e he1).1, (sweep_low es e he1).2.1⟩
 have hbnd : bndB (sweepL wf a b es) = true := bndB_iff.2 ⟨by have := sweepL_len (wf := wf) (a := a) (b := b) (es := es); omega, fun r hr => by
  have h1 := heb _ (sweepL_in r hr).1
  have h2 := heb _ (sweepL_in r hr).2
  exact ⟨hlow.1 r hr, by omega, by omega⟩⟩
 have hm : zone_merged.f (sweepL wf a b es) = some (mergeP (sweepL wf a b es)) := if_pos hbnd
 have hj : joinL (sweepL wf a b es) = mergeP (sweepL wf a b es) := mergeP_join hlow.1 (List.Perm.refl _) hlow.2 200 (fun r hr => (heb _ (sweepL_in r hr).1).1)
 have hc := sweep_can hw he1 (hin a fun r hr => List.mem_append_left _ hr) (hin b fun r hr => List.mem_append_right _ hr) (fun e he => (heb e he).1) (List.Perm.refl _) hlow.2
 refine ⟨(a ++ b).length + 1 + K, mergeP (sweepL wf a b es), ?_, by rw [← hj]; exact hc.1, fun n => by rw [← hj]; exact hc.2 n⟩
 unfold zone_sweep.f
 rw [if_pos (by have := ha.1; have := hb.1; omega)]
 exact (h0 K).trans (hK.trans hm)
theorem rd35_at {l : List S42} {n : Nat} (h : n < l.length) : rd_T42 l (n : Int) = l[n] := by
 unfold rd_T42
 rw [Int.toNat_natCast, List.getD_eq_getElem?_getD, List.getElem?_eq_getElem h]
 rfl
theorem widths_run {l : List S42} {lang s : Int} (hlen : l.length < 1000000) : ∀ (m n : Nat) (out : List S40), n + m = l.length → out.length ≤ n →
  zone_widths.l0 (m + 1) lang s out l (l.length : Int) (n : Int) = zone_merged.f (out ++ widthsOf (l.drop n) lang s)
 | 0, n, out, hn, ho => by
  unfold zone_widths.l0
  rw [if_neg (by omega), List.drop_eq_nil_of_le (by omega)]
  show (zone_merged.f out).bind some = _
  rw [bindS]
  simp [widthsOf]
 | m + 1, n, out, hn, ho => by
  have hlt : n < l.length := by omega
  have ih := fun out ho => widths_run (lang := lang) (s := s) hlen m (n + 1) out (by omega) ho
  unfold zone_widths.l0
  rw [if_pos (by omega), if_pos (by omega), if_pos (by omega), rd35_at hlt, wrap_next (by omega), List.drop_eq_getElem_cons hlt, widthsOf_cons, has_of l[n].f1 s]
  by_cases h0 : l[n].f0 = lang
  · rw [if_pos h0, Option.bind_some]
    by_cases h1 : (decide (l[n].f1.f0 ≤ s) && decide (s ≤ l[n].f1.f1)) = true
    · rw [if_pos h1, if_pos (by omega), ih _ (by simp; omega), if_pos (by unfold atZ; rw [decide_eq_true h0, h1]; rfl), List.append_assoc]
      rfl
    · rw [if_neg h1, ih _ (by omega), if_neg (by unfold atZ; rw [decide_eq_true h0]; simpa using h1)]
  · rw [if_neg h0, ih _ (by omega), if_neg (by unfold atZ; rw [decide_eq_false h0]; simp)]
theorem widths_of {l : List S42} (hl : OkL l) (hlen : l.length < 1000000) (lang s : Int) : ∃ k, zone_widths.f k l lang s = some (canW l lang s) := by
 have hok := widthsOf_ok hl lang s
 have hle : (widthsOf l lang s).length ≤ l.length := by
  unfold widthsOf
  rw [List.length_map]
  exact List.length_filter_le _ _
 refine ⟨l.length + 1, ?_⟩
 have := widths_run (lang := lang) (s := s) hlen l.length 0 [] (by omega) (by simp)
 unfold zone_widths.f
 refine this.trans ?_
 rw [List.drop_zero, List.nil_append]
 refine if_pos (bndB_iff.2 ⟨by omega, fun r hr => ?_⟩)
 have := hok r hr
 exact ⟨this.2.1, by have := this.1; omega, by have := this.2.2; omega⟩
theorem sweep_eq {wf : Bool → Bool → Bool} (hw : wf false false = false) {a b r : List S40} {B : Int} (ha : OkW a) (hb : OkW b) (hc : CanF B r) (hm : ∀ n, mem n r ↔ wf (memB n a) (memB n b) = true) : ∃ k, zone_sweep.f wf k a b = some r := by
 obtain ⟨k, r', h, hc', hm'⟩ := sweep_of hw ha hb
 refine ⟨k, h.trans ?_⟩
 rw [can_uniq hc' hc fun n => (hm' n).trans (hm n).symm]
theorem okW_canW {l : List S42} (hl : OkL l) (hlen : l.length < 1000000) (lang s : Int) : OkW (canW l lang s) := by
 have hok := widthsOf_ok hl lang s
 have hle : (widthsOf l lang s).length ≤ l.length := by
  unfold widthsOf
  rw [List.length_map]
  exact List.length_filter_le _ _
 obtain ⟨hc, hm⟩ := canW_can hl lang s
 refine ⟨by have := canW_len l lang s; omega, fun r hr => ?_⟩
 have h1 := hc.from_ r hr
 have h2 := hc.ok r hr
 refine ⟨h1, h2, ?_⟩
 obtain ⟨r', hr', _, h4⟩ := (hm r.f1).1 ⟨r, hr, h2, Int.le_refl _⟩
 have := (hok r' hr').2.2
 omega
theorem sweep_both {a b : List S42} (ha : OkL a) (hb : OkL b) (hla : a.length < 1000000) (hlb : b.length < 1000000) (what lang s : Int) : ∃ k, zone_sweep.f (opB what) k (canW a lang s) (canW b lang s) = some (bothP a b what lang s) := by
 have h := opP_can what (canW_can ha lang s).1 (canW_can hb lang s).1
 refine sweep_eq ?_ (okW_canW ha hla lang s) (okW_canW hb hlb lang s) h.1 h.2
 unfold opB
 split
 · rfl
 · split <;> rfl
theorem sweep_first {a : List S42} (ha : OkL a) (hla : a.length < 1000000) (lang s : Int) : ∃ k, zone_sweep.f (fun x _ => x) k (canW a lang s) (canW [] lang s) = some (canW a lang s) := by
 refine sweep_eq rfl (okW_canW ha hla lang s) (okW_canW (fun z hz => by cases hz) (by simp) lang s) (canW_can ha lang s).1 (fun n => ?_)
 rw [memB_iff]
end
section
/-- A step that turns, of what lay from base on, only the blocks X and the blocks of type t. -/
structure Stp (X : Nat → Prop) (t : TypeId) (base : Nat) (A B : World) : Prop where
 os : B.os = A.os
 tape : B.tape = A.tape
 output : B.output = A.output
 size : A.heap.size ≤ B.heap.size
 same : ∀ (k : Nat) (o : Obj), A.heap[k]? = some o → (k < base ∨ (¬ X k ∧ ∀ cs fr, o ≠ .cells cs t fr)) → B.heap[k]? = some o
theorem Stp.refl {X : Nat → Prop} {t : TypeId} {base : Nat} (A : World) : Stp X t base A A := ⟨rfl, rfl, rfl, Nat.le_refl _, fun _ _ h _ => h⟩
theorem Stp.trans {X : Nat → Prop} {t : TypeId} {base : Nat} {A B C : World} (h : Stp X t base A B) (k : Stp X t base B C) : Stp X t base A C :=
 ⟨k.os.trans h.os, k.tape.trans h.tape, k.output.trans h.output, Nat.le_trans h.size k.size, fun i o hi hx => k.same i o (h.same i o hi hx) hx⟩
theorem Stp.mono {X Y : Nat → Prop} {t : TypeId} {base : Nat} {A B : World} (h : Stp X t base A B) (hxy : ∀ k, X k → Y k) : Stp Y t base A B :=
 ⟨h.os, h.tape, h.output, h.size, fun k o hk ho => h.same k o hk (ho.imp id fun ho => ⟨fun hx => ho.1 (hxy k hx), ho.2⟩)⟩
theorem Stp.below {X : Nat → Prop} {t : TypeId} {base : Nat} {A B : World} (h : Stp X t base A B) (hb : base ≤ A.heap.size) : Below base A B :=
 ⟨h.os, h.tape, h.output, h.size, fun k hk => by
  have : k < A.heap.size := by omega
  rw [Array.getElem?_eq_getElem this]
  exact h.same k _ (Array.getElem?_eq_getElem this) (.inl hk)⟩
theorem Stp.of_grownBy {X : Nat → Prop} {t : TypeId} {base : Nat} {A B : World} {row : Option Nat} (h : A.grownBy B row) (hr : ∀ r, row = some r → base ≤ r ∧ (X r ∨ ∃ cs fr, A.heap[r]? = some (.cells cs t fr))) : Stp X t base A B :=
 ⟨h.os, h.tape, h.output, h.size, fun k o hk ho => (h.block k (Array.getElem?_eq_some_iff.1 hk).1 (fun e => by
  obtain ⟨h1, h2⟩ := hr k e.symm
  rcases ho with ho | ⟨ho1, ho2⟩
  · omega
  · rcases h2 with h2 | ⟨cs, fr, h2⟩
    · exact ho1 h2
    · rw [hk] at h2
      exact ho2 cs fr (Option.some.inj h2))).trans hk⟩
theorem Stp.of_below {X : Nat → Prop} {t : TypeId} {base : Nat} {A B : World} (h : Below A.heap.size A B) : Stp X t base A B :=
 ⟨h.os, h.tape, h.output, h.size, fun k o hk _ => (h.block k (Array.getElem?_eq_some_iff.1 hk).1).trans hk⟩
theorem Stp.noCells {X : Nat → Prop} {t : TypeId} {base : Nat} {A B : World} (h : Stp X t base A B) {k : Nat} {o : Obj} (hk : A.heap[k]? = some o) (ho : o.isCells = false) (hx : ¬ X k) : B.heap[k]? = some o :=
 h.same k o hk (.inr ⟨hx, fun cs fr e => by subst e; cases ho⟩)
set_option maxHeartbeats 1000000 in
/-- A range over a function whose rounds go on to the end. The value that is handed over may lead to memory: Px says of it what the iterator knows in the round's world. -/
theorem range_run {P : Program} {α : Type} {g : Operand} {ps : Array Tmp} {assign body : Code} {Q : Exit → Act → World → Prop} {a : Act} {w : World}
  {gf : Nat} {lb : Array Value} (hg : a.eval g = .func (.func gf) #[] lb) (eg : ∀ args w, (callFunc gf args).run P w = .ok (.enter gf args) w)
  {encs : α → Array Value} {Px : List α → α → World → Prop} {S : List α → Prop} {tb te : TypeId} {base bx : Nat} (hbw : base ≤ w.heap.size) (hbx : bx < w.heap.size) (hps : ∀ x, (encs x).size = ps.size)
  (hseq : ∀ (l : Nat) (J : List α → World → Prop) (W : World), w.heap.size ≤ l → l < W.heap.size → Stp (fun _ => False) tb base w W →
   (∀ pre A B, J pre A → Stp (fun _ => False) tb base A B → J pre B) →
   (∀ pre x A, J pre A → Px pre x A → YieldAt Fence.wide 0 P l (encs x) A fun e B => e = .returned (.bool true) ∧ J (pre ++ [x]) B ∧ Stp (fun k => k = bx ∨ k = l) te base A B) →
   J [] W → CallsIn Fence.wide 0 P gf (#[.func (.yield l) #[] #[]] ++ lb) W fun e B => (∃ v, e = .returned v) ∧ ∃ xs, S xs ∧ J xs B)
  (I : List α → World → Prop) (hI : ∀ pre A B, I pre A → Stp (fun _ => False) tb base A B → I pre B)
  (hIl : ∀ pre A B k, I pre A → w.heap.size ≤ k → (∃ o, A.heap[k]? = some o ∧ o.isCells = false) → A.grownBy B (some k) → I pre B) (h0 : I [] w)
  (hround : ∀ (l : Nat) (pre : List α) (x : α) (A : World), I pre A → Px pre x A → w.heap.size ≤ l →
   assign.wpIn (Fence.wide.inRound l) 0 P (Exit.then (fun a1 B => Stp (fun k => k = bx) te base A B ∧ ∀ B', B.grownBy B' (some l) → (∃ o, B.heap[l]? = some o ∧ o.isCells = false) →
    body.wpIn (Fence.wide.inRound l) 0 P (fun e _ C => e = .normal ∧ Stp (fun k => k = bx) te base B' C ∧ I (pre ++ [x]) C) a1 B') (fun _ _ _ => False))
    { tmps := (ps.zip (encs x)).foldl (fun t (p, v) => t.setIfInBounds p v) a.tmps, defers := [] } A)
  (hdone : ∀ (D : Nat) (xs : List α) (W : World), w.heap.size ≤ D → S xs → I xs W → W.heap[D]? = some (.deferred (some [])) → Q .normal { a with defers := { target := .collected D, args := #[] } :: a.defers } W) :
  (Code.rangeFunc g ps assign body).wpIn Fence.wide 0 P Q a w := by
 refine wpIn_rangeFunc ?_
 intro fn hfn
 rw [show Fence.wide.round = none from rfl]
 obtain ⟨rec, hrec⟩ : ∃ rec : LoopState → Option Code → Loop, rec = fun st pe => { state := st, pending := pe, fn, tmps := a.tmps, params := ps, assign, body, defers := w.heap.size } := ⟨_, rfl⟩
 obtain ⟨W1, hW1⟩ : ∃ W1, (w.alloc (.deferred (some []))).alloc (.loop (rec .ready none)) = W1 := ⟨_, rfl⟩
 have hb1 : Below w.heap.size w W1 := by rw [← hW1]; exact ((Below.refl _ w).alloc (Nat.le_refl _) _).alloc (by simp) _
 have hL : W1.heap[w.heap.size + 1]? = some (.loop (rec .ready none)) := by
  rw [← hW1]
  have := World.alloc_heap_new (w.alloc (.deferred (some []))) (.loop (rec .ready none))
  rwa [World.size_alloc] at this
 have hD : W1.heap[w.heap.size]? = some (.deferred (some [])) := by
  rw [← hW1]
  exact (Below.heap_alloc _ _ _ (by simp)).trans (World.alloc_heap_new w _)
 have hl1 : w.heap.size + 1 < W1.heap.size := (Array.getElem?_eq_some_iff.1 hL).1
 refine ⟨w.heap.size + 1, [{ target := .collected w.heap.size, args := #[] }], W1, { target := .fn (.func gf) lb, args := #[.func (.yield (w.heap.size + 1)) #[] #[]] }, W1, gf,
  #[.func (.yield (w.heap.size + 1)) #[] #[]] ++ lb, W1, ?_, ?_, fun _ _ => trivial, ?_, (fun h => nomatch h), ?_⟩
 · rw [← hW1, hrec]
   exact run_enterLoop_outer _ _ _ _ _
 · simp only [resolve, hg]
   simp [go_sem]
 · simp [invoke, go_sem, eg]
 · refine (hseq (w.heap.size + 1) (fun pre A => I pre A ∧ A.heap[w.heap.size + 1]? = some (.loop (rec .ready none)) ∧ A.heap[w.heap.size]? = some (.deferred (some []))) W1 (by omega) hl1 (Stp.of_below hb1)
    (fun pre A B h hs => ⟨hI _ _ _ h.1 hs, hs.noCells h.2.1 rfl (fun h => h), hs.noCells h.2.2 rfl (fun h => h)⟩) ?_ ⟨hI _ _ _ h0 (Stp.of_below hb1), hL, hD⟩).mono ?_
   · rintro pre x A ⟨hi, hl, hd⟩ hpx
     have hy := run_yield (P := P) (args := encs x) hl (by rw [hrec]; exact hps x)
     rw [hrec] at hy
     refine ⟨fn, _, assign, body, hy, roundIn_of_wpIn hfn (wpIn_mono (hround (w.heap.size + 1) pre x A hi hpx (by omega)) ?_)⟩
     rintro e a1 B hp
     cases e with
     | normal =>
      obtain ⟨hs1, hb⟩ := hp
      have hl2 := hs1.noCells hl rfl (by omega)
      have hd2 := hs1.noCells hd rfl (by omega)
      refine ⟨_, run_beginRound hl2 (by rw [hrec]), ?_⟩
      have hg2 : B.grownBy (B.putObj (w.heap.size + 1) (.loop { rec .ready none with state := .busy })) (some (w.heap.size + 1)) := grownBy_putObj' _ _ _
      have hl3 : (B.putObj (w.heap.size + 1) (.loop { rec .ready none with state := .busy })).heap[w.heap.size + 1]? = some (.loop { rec .ready none with state := .busy }) := World.putObj_heap_same (Array.getElem?_eq_some_iff.1 hl2).1
      have hd3 : (B.putObj (w.heap.size + 1) (.loop { rec .ready none with state := .busy })).heap[w.heap.size]? = some (.deferred (some [])) := (World.putObj_heap_other (by omega)).trans hd2
      refine wpIn_mono (hb _ hg2 ⟨_, hl2, rfl⟩) ?_
      rintro e a2 C ⟨rfl, hs2, hi2⟩
      have hl4 := hs2.noCells hl3 rfl (by omega)
      have hd4 := hs2.noCells hd3 rfl (by omega)
      have hr := run_endRound (P := P) none hl4
      refine ⟨_, _, hr, rfl, ⟨hIl _ _ _ (w.heap.size + 1) hi2 (by omega) ⟨_, hl4, rfl⟩ (grownBy_putObj' _ _ _), ?_, (World.putObj_heap_other (by omega)).trans hd4⟩, ?_⟩
      · rw [World.putObj_heap_same (Array.getElem?_eq_some_iff.1 hl4).1, hrec]
        rfl
      · have up : ∀ k, k = bx → k = bx ∨ k = w.heap.size + 1 := fun _ h => .inl h
        refine ((hs1.mono up).trans (Stp.of_grownBy hg2 ?_)).trans ((hs2.mono up).trans (Stp.of_grownBy (grownBy_putObj' _ _ _) ?_))
        · intro r e
          cases e
          exact ⟨by omega, .inl (.inr rfl)⟩
        · intro r e
          cases e
          exact ⟨by omega, .inl (.inr rfl)⟩
     | _ => exact hp.elim
   · rintro e W2 ⟨⟨v, rfl⟩, xs, hS, hi, hl, hd⟩
     have hr := run_endLoop (P := P) hl (by rw [hrec]; simp)
     rw [hrec] at hr
     exact ⟨none, _, hr, hdone _ xs _ (Nat.le_refl _) hS (hIl _ _ _ (w.heap.size + 1) hi (by omega) ⟨_, hl, rfl⟩ (grownBy_putObj' _ _ _)) ((World.putObj_heap_other (by omega)).trans hd)⟩
end
section
attribute [local go_sem high] eqA40
def api_Range_56.l0 : Nat → List (S40) → List (S40) → Int → Int → Option (Bool)
 | 0, _, _, _, _ => none
 | k + 1, x0, x1, x12, x13 => if x13 < x12 then (if 0 ≤ x13 then (if x13 < (x0.length : Int) then (if x13 < (x1.length : Int) then (if (!(((rd_T40 x0 x13).f0) == ((rd_T40 x1 x13).f0)) || (!(((rd_T40 x0 x13).f1) == ((rd_T40 x1 x13).f1)))) = true then (some false) else (api_Range_56.l0 k x0 x1 x12 (wrap64 (x13 + 1)))) else (none)) else (none)) else (none)) else (some true)
def api_Range_56.f (k : Nat) (l0 : List (S40)) (l1 : List (S40)) : Option (Bool) := if (l0.length : Int) = (l1.length : Int) then (api_Range_56.l0 k l0 l1 (l0.length : Int) 0) else (some false)
theorem api_Range_56.mono_l : ∀ k, (∀ y0 y1 y2 y3, LeO (api_Range_56.l0 k y0 y1 y2 y3) (api_Range_56.l0 (k + 1) y0 y1 y2 y3))
 | 0 => fun _ _ _ _ r h => by simp [api_Range_56.l0] at h
 | k + 1 => by
  have ih0 := api_Range_56.mono_l k
  · intro y0 y1 y2 y3
    unfold api_Range_56.l0
    repeat' first
    | (with_reducible exact ih0 _ _ _ _)
    | (with_reducible exact LeO.refl _)
    | (with_reducible exact LeO.none _)
    | (with_reducible refine LeO.ite ?_ ?_)
    | (with_reducible refine LeO.bind ?_ (fun _ => ?_))
    | exact ih0 _ _ _ _
    | exact LeO.none _
    | refine LeO.ite ?_ ?_
    | refine LeO.bind ?_ (fun _ => ?_)
theorem api_Range_56.mono : ∀ a0 a1 k, LeO (api_Range_56.f k a0 a1) (api_Range_56.f (k + 1) a0 a1) := by
 intro a0 a1 k
 have ih0 := api_Range_56.mono_l k
 unfold api_Range_56.f
 repeat' first
   | (with_reducible exact ih0 _ _ _ _)
   | (with_reducible exact LeO.refl _)
   | (with_reducible exact LeO.none _)
   | (with_reducible refine LeO.ite ?_ ?_)
   | (with_reducible refine LeO.bind ?_ (fun _ => ?_))
   | exact ih0 _ _ _ _
   | exact LeO.none _
   | refine LeO.ite ?_ ?_
   | refine LeO.bind ?_ (fun _ => ?_)
end
section
open Go.Proofs.YtacohlafmbhcdaaGreatGlib
def aggZ (z : S42) : Value := .agg #[.int .i64 z.f0, .int .i64 z.f1.f0, .int .i64 z.f1.f1, .int .i64 z.f2.f0, .int .i64 z.f2.f1]
def okRB (lo hi : Int) (r : S40) : Bool := decide (lo ≤ r.f0) && (decide (r.f0 ≤ r.f1) && decide (r.f1 ≤ hi))
def okB (z : S42) : Bool := decide (0 ≤ z.f0) && (decide (z.f0 < 4) && (okRB 50 300 z.f1 && okRB 200 4000 z.f2))
theorem within_of (r : S40) (lo hi : Int) : zone_within.f r.f0 r.f1 lo hi = some (okRB lo hi r) := by
 unfold zone_within.f okRB
 by_cases h1 : lo ≤ r.f0
 · rw [if_pos h1, decide_eq_true h1]
   by_cases h2 : r.f0 ≤ r.f1
   · rw [if_pos h2, decide_eq_true h2]
     rfl
   · rw [if_neg h2, decide_eq_false h2]
     rfl
 · rw [if_neg h1, decide_eq_false h1]
   rfl
theorem valid_of (z : S42) : zone_valid.f z.f0 z.f1.f0 z.f1.f1 z.f2.f0 z.f2.f1 = some (okB z) := by
 unfold zone_valid.f okB
 rw [within_of, within_of]
 by_cases h1 : 0 ≤ z.f0
 · rw [if_pos h1, decide_eq_true h1]
   by_cases h2 : z.f0 < 4
   · rw [if_pos h2, decide_eq_true h2]
     cases okRB 50 300 z.f1 <;> rfl
   · rw [if_neg h2, decide_eq_false h2]
     rfl
 · rw [if_neg h1, decide_eq_false h1]
   rfl
theorem bad_of (z : S42) : zone_Valid_1.f z.f0 z.f1.f0 z.f1.f1 z.f2.f0 z.f2.f1 = some (!okB z) := by
 unfold zone_Valid_1.f
 rw [valid_of]
 rfl
def validP (l : List S42) : Bool := decide ((l.length : Int) ≤ 1000) && !(l.any fun z => !okB z)
theorem enters30 : EntersK 30 := entersK_of Tryz.func30 (by kernel_rfl) (by kernel_rfl)
def zone_Valid.f (l0 : List S42) : Option Bool := some (validP l0)
end
section
attribute [local go_sem] Oper.semAt_some
structure Band where
 lang : Int
 lo : Int
 hi : Int
 A : Option Addr
 ws : List S40
 c : Nat
def Band.plain (x : Band) : Int × Int × Int × List S40 := (x.lang, x.lo, x.hi, x.ws)
def encB (x : Band) : Array Value := #[.agg #[.int .i64 x.lang, .int .i64 x.lo, .int .i64 x.hi, .slice x.A x.ws.length x.c]]
/-- The bands of a language. -/
def langB (f : Int → List S40) (lang : Int) : List (Int × Int × Int × List S40) := (loopP f 250 51 50 (f 50)).map fun b => (lang, b)
def allB (f : Int → Int → List S40) : Nat → Nat → List (Int × Int × Int × List S40)
 | 0, _ => []
 | m + 1, k => langB (f k) k ++ allB f m (k + 1)
/-- What the iterator says of a band that it hands over: its widths lie in rows of their own, and it is the next one. -/
def PxB (f : Int → Int → List S40) (pre : List Band) (x : Band) (W : World) : Prop := Kd.R k40 40 W 0 (fun _ => True) (.slice x.A x.ws.length x.c) x.ws ∧ ∃ rest, (pre ++ [x]).map Band.plain ++ rest = allB f 4 0
/-- What the iterator has captured. -/
structure Caps (g1 g2 g3 : Nat) (v1 v2 : Value) (kw : FuncId) (W : World) : Prop where
 b1 : W.heap[g1]? = some (.cells #[v1] 22 (0, 0))
 b2 : W.heap[g2]? = some (.cells #[v2] 22 (0, 0))
 b3 : W.heap[g3]? = some (.cells #[.func (.func kw) #[] #[]] 51 (0, 0))
theorem Caps.stp {g1 g2 g3 : Nat} {v1 v2 : Value} {kw : FuncId} {X : Nat → Prop} {t : TypeId} {base : Nat} {A B : World} (h : Caps g1 g2 g3 v1 v2 kw A) (hs : Stp X t base A B) (hx1 : ¬ X g1) (hx2 : ¬ X g2) (hx3 : ¬ X g3) (ht1 : t ≠ 22) (ht2 : t ≠ 51) : Caps g1 g2 g3 v1 v2 kw B :=
 ⟨hs.same _ _ h.b1 (.inr ⟨hx1, fun cs fr e => by injection e with _ e _; exact ht1 e.symm⟩), hs.same _ _ h.b2 (.inr ⟨hx2, fun cs fr e => by injection e with _ e _; exact ht1 e.symm⟩), hs.same _ _ h.b3 (.inr ⟨hx3, fun cs fr e => by injection e with _ e _; exact ht2 e.symm⟩)⟩
theorem equal_loop (a b : List S40) (hab : a.length = b.length) (ha : a.length ≤ 9223372036854775807) : ∀ (d i k : Nat), i + d = a.length → d < k → (∀ j, j < i → a[j]? = b[j]?) → api_Range_56.l0 k a b (a.length : Int) (i : Int) = some (decide (a = b)) := by
 intro d
 induction d with
 | zero =>
  intro i k hi hk hj
  obtain ⟨k, rfl⟩ : ∃ m, k = m + 1 := ⟨k - 1, by omega⟩
  simp only [api_Range_56.l0]
  rw [if_neg (by omega)]
  have : a = b := List.ext_getElem? fun j => by
   by_cases h : j < i
   · exact hj j h
   · rw [List.getElem?_eq_none (by omega), List.getElem?_eq_none (by omega)]
  rw [decide_eq_true this]
 | succ d ih =>
  intro i k hi hk hj
  obtain ⟨k, rfl⟩ : ∃ m, k = m + 1 := ⟨k - 1, by omega⟩
  have h1 : i < a.length := by omega
  have h2 : i < b.length := by omega
  simp only [api_Range_56.l0]
  rw [if_pos (show (i : Int) < (a.length : Int) by omega), if_pos (show (0 : Int) ≤ (i : Int) by omega), if_pos (show (i : Int) < (a.length : Int) by omega), if_pos (show (i : Int) < (b.length : Int) by omega), rd33_at h1, rd33_at h2]
  by_cases he : a[i] = b[i]
  · rw [he, if_neg (by simp), show wrap64 ((i : Int) + 1) = ((i + 1 : Nat) : Int) by unfold wrap64; omega]
    refine ih (i + 1) k (by omega) (by omega) fun j hj' => ?_
    by_cases h : j = i
    · subst h
      rw [List.getElem?_eq_getElem h1, List.getElem?_eq_getElem h2, he]
    · exact hj j (by omega)
  · have hne : ¬ a = b := fun e => he (by subst e; rfl)
    rw [if_pos, decide_eq_false hne]
    by_cases h0 : a[i].f0 = b[i].f0
    · have h3 : ¬ a[i].f1 = b[i].f1 := fun h3 => he (by
       cases h4 : a[i]; cases h5 : b[i]
       rw [h4, h5] at h0 h3
       simp only at h0 h3
       rw [h0, h3])
      simp [h3]
    · simp [h0]
theorem equal_of (a b : List S40) (ha : a.length ≤ 9223372036854775807) : ∃ k, api_Range_56.f k a b = some (decide (a = b)) := by
 unfold api_Range_56.f
 by_cases h : a.length = b.length
 · refine ⟨a.length + 1, ?_⟩
   rw [if_pos (by omega)]
   exact equal_loop a b h ha a.length 0 _ (by omega) (by omega) (fun j hj => by omega)
 · refine ⟨0, ?_⟩
   rw [if_neg (by omega), decide_eq_false (fun e => h (by rw [e]))]
/-- A store into a block of the type that may turn, from base on. -/
theorem Stp.set {t : TypeId} {base : Nat} {A : World} {b : Nat} {cs : Array Value} {fr : Nat × Nat} (h : A.heap[b]? = some (.cells cs t fr)) (hb : base ≤ b) (i : Nat) (v : Value) : Stp (fun _ => False) t base A (A.setCell ⟨b, i, none⟩ v) :=
 ⟨rfl, rfl, rfl, by simp, fun k o hk ho => by
  by_cases e : k = b
  · subst e
    rcases ho with ho | ho
    · omega
    · exact absurd (Option.some.inj (hk.symm.trans h)) (ho.2 _ _)
  · exact (Below.heap_setCell A _ v k e).trans hk⟩
/-- Rows of the call's own outlive a step that turns blocks of another type. -/
theorem R_stp {α : Type} {d : Kd α} {e t base b : Nat} {X : Nat → Prop} {A B : World} {v : Value} {xs : List α} (h : d.R e A b (fun _ => True) v xs) (hs : Stp X t base A B) (hX : ∀ k, X k → k < b) (ht : ∀ q, q ∈ e :: d.E → q ≠ t) : d.R e B b (fun _ => True) v xs := by
 refine Kd.R_mono (Kd.R_step (Kd.R_bound h) fun k hk hlt => ?_) (fun _ _ => trivial)
 obtain ⟨_, h1, _, q, hq, cs, h3⟩ := hk
 rw [h3]
 exact hs.same k _ h3 (.inr ⟨fun hx => by have := hX k hx; omega, fun cs' fr e' => by
  injection e' with _ e2 _
  exact ht q hq e2⟩)
/-- The band after a round without a change. -/
theorem bands_set2 {W : World} {b base : Nat} {c0 c1 c2 c3 u v : Value} (hT : W.heap[b]? = some (.cells #[c0, c1, c2, c3] 64 (0, 0))) (hb : base ≤ b) :
  Stp (fun _ => False) 64 base W ((W.setCell ⟨b, 2, none⟩ u).setCell ⟨b, 3, none⟩ v) ∧ ((W.setCell ⟨b, 2, none⟩ u).setCell ⟨b, 3, none⟩ v).heap[b]? = some (.cells #[c0, c1, u, v] 64 (0, 0)) := by
 have h1 := blk_set hT 2 u
 exact ⟨(Stp.set hT hb 2 u).trans (Stp.set h1 hb 3 v), blk_set h1 3 v⟩
theorem bands_fin {base b l bR g1 g2 g3 : Nat} {v1 v2 : Value} {kw : FuncId} {w W : World} {c0 c1 c2 c3 s u : Value} {xs : List S40} {J : World → Prop} (hJ : ∀ A B, J A → Stp (fun _ => False) 64 base A B → J B)
  (HJ : J W) (HC : Caps g1 g2 g3 v1 v2 kw W) (HB : Below base w W) (HL : l < W.heap.size) (hT : W.heap[b]? = some (.cells #[c0, c1, c2, c3] 64 (0, 0))) (hb : base ≤ b) (hw : base ≤ W.heap.size) (hR : Kd.R k40 40 W bR (fun _ => True) u xs) :
  Aside0 (J ((W.setCell ⟨b, 2, none⟩ s).setCell ⟨b, 3, none⟩ u)) ∧ Aside0 (Caps g1 g2 g3 v1 v2 kw ((W.setCell ⟨b, 2, none⟩ s).setCell ⟨b, 3, none⟩ u)) ∧ Aside0 (Below base w ((W.setCell ⟨b, 2, none⟩ s).setCell ⟨b, 3, none⟩ u)) ∧
   Aside0 (l < ((W.setCell ⟨b, 2, none⟩ s).setCell ⟨b, 3, none⟩ u).heap.size) ∧ Aside0 (((W.setCell ⟨b, 2, none⟩ s).setCell ⟨b, 3, none⟩ u).heap[b]? = some (.cells #[c0, c1, s, u] 64 (0, 0))) ∧
   Aside0 (Kd.R k40 40 ((W.setCell ⟨b, 2, none⟩ s).setCell ⟨b, 3, none⟩ u) 0 (fun _ => True) u xs) := by
 obtain ⟨h1, h2⟩ := bands_set2 (u := s) (v := u) hT hb
 exact ⟨⟨hJ _ _ HJ h1⟩, ⟨HC.stp h1 id id id (by decide) (by decide)⟩, ⟨HB.trans (h1.below hw)⟩, ⟨by simpa using HL⟩, ⟨h2⟩, ⟨Kd.R_lower (R_stp hR h1 (fun _ h => h.elim) (by decide)) (Nat.zero_le _)⟩⟩
theorem loop_same {f : Int → List S40} {s lo : Int} {now : List S40} (h0 : s ≤ 300) (h : f s = now) : loopP f (301 - s).toNat s lo now = loopP f (301 - (s + 1)).toNat (s + 1) lo (f s) := by
 obtain ⟨m, hm⟩ : ∃ m, (301 - s).toNat = m + 1 := ⟨(301 - s).toNat - 1, by omega⟩
 rw [hm, show (301 - (s + 1)).toNat = m by omega]
 simp only [loopP]
 rw [if_pos h, h]
theorem loop_other {f : Int → List S40} {s lo : Int} {now : List S40} (h0 : s ≤ 300) (h : ¬ f s = now) : loopP f (301 - s).toNat s lo now = (lo, s - 1, now) :: loopP f (301 - (s + 1)).toNat (s + 1) s (f s) := by
 obtain ⟨m, hm⟩ : ∃ m, (301 - s).toNat = m + 1 := ⟨(301 - s).toNat - 1, by omega⟩
 rw [hm, show (301 - (s + 1)).toNat = m by omega]
 simp only [loopP]
 rw [if_neg h]
theorem all_first {f : Int → Int → List S40} {k : Nat} (hk : k < 4) : allB f (4 - k) k = (loopP (f k) ((301 : Int) - (50 + 1)).toNat (50 + 1) 50 (f k 50)).map (fun b => ((k : Int), b)) ++ allB f (4 - (k + 1)) (k + 1) := by
 rw [show 4 - k = (4 - (k + 1)) + 1 by omega]
 rfl
def bands1.T7 : Bool × List (List Nat × List Nat) := (true, [([], []), ([], []), ([], []), ([0, 1, 2], [0, 1, 2]), ([], []), ([], []), ([], []), ([4, 5, 6, 3], [4, 5, 6]), ([], []), ([3, 7, 8, 7], [3, 7, 8]), ([9, 9, 0, 1, 2, 3, 4, 5, 6, 7, 8, 9], [9])])
def bands1.B7 : List Nat := [0, 0, 0, 7, 0, 0, 0, 127, 0, 511, 1023]
theorem bands1.tab7 : rtab .any (opsOf Tryz.f53 7) = bands1.T7 := by kernel_rfl
theorem bands1.bits7 : waitsOk bands1.T7.2 bands1.B7 = true := by kernel_rfl
theorem enters53 : EntersK 53 := entersK_of Tryz.func53 (by kernel_rfl) (by kernel_rfl)
theorem R_appendIn {F : Fence} {nF : Nat} {P : Program} {ops : Array Oper} {rest : List Oper} {o : Oper} {a : Act} {Q : Exit → Act → World → Prop} {α : Type} (d : Kd α) {w0 W : World} (base : Nat) (hgd : o.guard = none) (s x : Operand) (t e : TypeId) (z : Value) (bytes : Nat)
  (ho : o.op = .call { callee := .builtin .append, args := #[s, x], argTypes := #[t, t] })
  (ht : P.underlying t = some (.slice e)) (hinfo : (P.info? e).map (fun i => (i.zero, i.size, i.bytes)) = some (some z, d.sz, bytes)) (hz : z.cells.size = d.sz) (hs0 : 0 < d.sz) (hb0 : 0 < bytes)
  (v : Value) (xs : List α) (p : α) (cs : List Value) (ok okp : Nat → Prop) (hs : a.eval s = v) (hx : a.eval x = .slice (some ⟨W.heap.size, 0, none⟩) 1 1) (hp : d.M W base okp p cs) (hokp : ∀ k, okp k → ok k ∧ some k ≠ v.ownBlock) (hfresh : ∀ k, W.heap.size ≤ k → ok k)
  (HO : d.R e W base ok v xs) (HB : Below base w0 W) (hbase : base ≤ W.heap.size) (hl : (xs.length + 1) * bytes ≤ 140737488355328)
  (h : ∀ v1 w1, d.R e w1 base ok v1 (xs ++ [p]) → Below base w0 w1 → W.grownBy w1 v.ownBlock → (v1.ownBlock = v.ownBlock ∨ ∃ b, v1.ownBlock = some b ∧ W.heap.size ≤ b) → wpListIn F nF P ops Q rest (a.put o.dst v1) w1) :
  wpListIn F nF P ops Q (o :: rest) a (W.alloc (.cells cs.toArray e)) := by
 obtain ⟨h0, inner, hown, hr⟩ := HO
 obtain ⟨i0, hi, hzz⟩ := Option.map_eq_some_iff.1 hinfo
 simp only [Prod.mk.injEq] at hzz
 obtain ⟨hz0, hz1, hz2⟩ := hzz
 have hlen : xs.length + 1 ≤ 140737488355328 := Nat.le_trans (Nat.le_mul_of_pos_right _ hb0) hl
 have hys : cs.length = d.sz := d.K_len (d.K_of_M hp)
 refine wpListIn_append_own_at (W.alloc (.cells cs.toArray e)) hgd s x t ho base e i0 z d.sz bytes ht hi hz0 hz1 hz2 hz hs0 v xs.length inner hs (hown.alloc _) ⟨W.heap.size, 0, none⟩ 1 1 cs hx (by rw [hys]; simp)
  (by simpa using World.news_of_block (cs := cs.toArray) (t := e) (fr := (0, 0)) (heap_alloc_new W (.cells cs.toArray e))) (d.K_one (d.K_of_M hp)) (by simp only [maxLen]; omega) hl (by simp; omega) ?_
 intro v1 w1 hown1 hg _ hat
 have hg1 := World.grownBy.trans (World.grownBy_alloc W _ _) hg
 have hat1 : v1.ownBlock = v.ownBlock ∨ ∃ b, v1.ownBlock = some b ∧ W.heap.size ≤ b := hat.imp id fun h => ⟨_, h, by simp⟩
 exact h v1 w1 (Kd.R_appended h0 hr hp hokp hfresh hown1 hg1 hat1) ((HB.alloc hbase _).grown hg (by simp; omega) (own_base hown)) hg1 hat1
def Band.zones (x : Band) : List S42 := zonesP x.lang x.lo x.hi x.ws
def flatZ (l : List Band) : List S42 := l.flatMap Band.zones
def plainZ (b : Int × Int × Int × List S40) : List S42 := zonesP b.1 b.2.1 b.2.2.1 b.2.2.2
theorem flatZ_snoc (l : List Band) (x : Band) : flatZ (l ++ [x]) = flatZ l ++ x.zones := by simp [flatZ]
theorem flatZ_plain (l : List Band) : flatZ l = (l.map Band.plain).flatMap plainZ := by
 unfold flatZ
 rw [List.flatMap_map]
 rfl
theorem langB_langP (f : Int → List S40) (lang : Int) : (langB f lang).flatMap plainZ = langP f lang := by
 unfold langB langP
 rw [List.flatMap_map]
 rfl
theorem allB_formP (f : Int → Int → List S40) : (allB f 4 0).flatMap plainZ = formP f := by
 simp only [allB, List.flatMap_append, langB_langP, List.flatMap_nil, List.append_nil]
 rfl
theorem flatZ_all {f : Int → Int → List S40} {xs : List Band} (h : xs.map Band.plain = allB f 4 0) : flatZ xs = formP f := by
 rw [flatZ_plain, h, allB_formP]
theorem flatZ_le {f : Int → Int → List S40} {pre : List Band} {x : Band} {rest : List (Int × Int × Int × List S40)} (h : (pre ++ [x]).map Band.plain ++ rest = allB f 4 0) : (flatZ pre).length + x.ws.length ≤ (formP f).length := by
 have h1 : flatZ (pre ++ [x]) ++ rest.flatMap plainZ = formP f := by
  rw [flatZ_plain, ← List.flatMap_append, h, allB_formP]
 have h2 := congrArg List.length h1
 rw [flatZ_snoc, List.length_append, List.length_append] at h2
 have h3 : x.zones.length = x.ws.length := by simp [Band.zones, zonesP]
 omega
/-- Rows of the call's own outlive a turn of a loop's record. -/
theorem R_loop {α : Type} {d : Kd α} {e b l : Nat} {A B : World} {v : Value} {xs : List α} (h : d.R e A b (fun _ => True) v xs) (hg : A.grownBy B (some l)) (hl : ∃ o, A.heap[l]? = some o ∧ o.isCells = false) : d.R e B b (fun _ => True) v xs := by
 refine Kd.R_mono (Kd.R_grown (Kd.R_bound h) hg fun k hk e' => ?_) (fun _ _ => trivial)
 obtain ⟨_, _, _, q, _, cs, h3⟩ := hk
 obtain ⟨o, h4, h5⟩ := hl
 obtain rfl := Option.some.inj e'
 rw [h3] at h4
 obtain rfl := Option.some.inj h4
 cases h5
/-- What form returns. -/
def formR (l0 l1 : List S42) (f : Int → Int → List S40) : List S42 × Int := if (validP l0 && validP l1) = true then (if 1000 < (formP f).length then ([], 2) else (formP f, 0)) else ([], 1)
theorem Stp.setX {X : Nat → Prop} {t : TypeId} {base : Nat} {A : World} {b : Nat} (hx : X b) (hb : base ≤ b) (i : Nat) (v : Value) : Stp X t base A (A.setCell ⟨b, i, none⟩ v) :=
 ⟨rfl, rfl, rfl, by simp, fun k o hk ho => by
  by_cases e : k = b
  · subst e
    rcases ho with ho | ho
    · omega
    · exact absurd hx ho.1
  · exact (Below.heap_setCell A _ v k e).trans hk⟩
theorem n33_35 : ∀ q, q ∈ 40 :: k40.E → q ≠ 42 := by decide
theorem zonesP_take (lang lo hi : Int) (ws : List S40) (i : Int) (h0 : 0 ≤ i) (h1 : i < ws.length) : zonesP lang lo hi (ws.take (i + 1).toNat) = zonesP lang lo hi (ws.take i.toNat) ++ [⟨lang, ⟨lo, hi⟩, rd_T40 ws i⟩] := by
 obtain ⟨n, rfl⟩ := Int.eq_ofNat_of_zero_le h0
 have h : n < ws.length := by omega
 rw [show ((n : Int) + 1).toNat = n + 1 by omega, show (n : Int).toNat = n by omega, List.take_succ_eq_append_getElem h, rd33_at h]
 unfold zonesP
 rw [List.map_append]
 rfl
/-- What the consumer has gathered. -/
def GatherI (w0 : World) (bx : Nat) (pre : List Band) (A : World) : Prop := ∃ v, A.heap[bx]? = some (.cells #[v] 22 (0, 0)) ∧ Kd.R k42 42 A w0.heap.size (fun _ => True) v (flatZ pre) ∧ Below w0.heap.size w0 A
theorem okL_nil : OkL [] := fun z hz => by cases hz
/-- How many readers zones stand for, as the program counts. -/
def cntZ (l : List S42) : Int := l.foldl (fun n z => wrap64 (n + wrap64 (wrap64 (wrap64 (z.f1.f1 - z.f1.f0) + 1) * wrap64 (wrap64 (z.f2.f1 - z.f2.f0) + 1)))) 0
theorem cntZ_snoc (l : List S42) (z : S42) : cntZ (l ++ [z]) = wrap64 (cntZ l + wrap64 (wrap64 (wrap64 (z.f1.f1 - z.f1.f0) + 1) * wrap64 (wrap64 (z.f2.f1 - z.f2.f0) + 1))) := by simp [cntZ]
theorem enters45 : EntersK 45 := entersK_of Tryz.func45 (by kernel_rfl) (by kernel_rfl)
def CountI (w0 : World) (bx : Nat) (pre : List Band) (A : World) : Prop := A.heap[bx]? = some (.cells #[.int .i64 (cntZ (flatZ pre))] 3 (0, 0)) ∧ Below w0.heap.size w0 A
theorem valid_ok {l : List S42} (h : validP l = true) : OkL l ∧ l.length ≤ 1000 := by
 unfold validP at h
 rw [Bool.and_eq_true] at h
 obtain ⟨h1, h2⟩ := h
 refine ⟨fun z hz => ?_, by have := of_decide_eq_true h1; omega⟩
 have h3 : okB z = true := by
  cases h4 : okB z
  · exfalso
    have : (l.any fun z => !okB z) = true := List.any_eq_true.2 ⟨z, hz, by simp [h4]⟩
    rw [this] at h2
    cases h2
  · rfl
 unfold okB okRB at h3
 simp only [Bool.and_eq_true, decide_eq_true_eq] at h3
 obtain ⟨a, b, ⟨c, d, e⟩, f, g, i⟩ := h3
 exact ⟨a, b, ⟨c, d, e⟩, f, g, i⟩
theorem loop_len {f : Int → List S40} {lang : Int} {n : Nat} (hf : ∀ s, (f s).length ≤ n) : ∀ (m : Nat) (s low : Int) (now : List S40), now.length ≤ n → ((loopP f m s low now).flatMap (bandZ lang)).length ≤ (m + 1) * n
 | 0, s, low, now, hn => by
  simp only [loopP, List.flatMap_cons, List.flatMap_nil, List.append_nil]
  rw [bandZ_len]
  simpa using hn
 | m + 1, s, low, now, hn => by
  simp only [loopP]
  split
  · have := loop_len (lang := lang) hf m (s + 1) low now hn
    rw [Nat.add_mul, Nat.one_mul]
    omega
  · have := loop_len (lang := lang) hf m (s + 1) s (f s) (hf s)
    rw [List.flatMap_cons, List.length_append, bandZ_len, Nat.add_mul (m + 1) 1 n, Nat.one_mul]
    simp only
    omega
theorem formP_len {f : Int → Int → List S40} {n : Nat} (hf : ∀ lang s, (f lang s).length ≤ n) : (formP f).length ≤ 1004 * n := by
 unfold formP langP
 simp only [List.length_append]
 have h0 := loop_len (lang := 0) (hf 0) 250 51 50 (f 0 50) (hf 0 50)
 have h1 := loop_len (lang := 1) (hf 1) 250 51 50 (f 1 50) (hf 1 50)
 have h2 := loop_len (lang := 2) (hf 2) 250 51 50 (f 2 50) (hf 2 50)
 have h3 := loop_len (lang := 3) (hf 3) 250 51 50 (f 3 50) (hf 3 50)
 omega
theorem canW_le {l : List S42} (lang s : Int) : (canW l lang s).length ≤ l.length := by
 refine Nat.le_trans (canW_len l lang s) ?_
 unfold widthsOf
 rw [List.length_map]
 exact List.length_filter_le _ _
theorem canF_len {l : List S42} (h : validP l = true) : (formP (canW l)).length ≤ 1000000000000 := by
 obtain ⟨h1, h2⟩ := valid_ok h
 have := formP_len (f := canW l) (n := 1000) fun lang s => Nat.le_trans (canW_le lang s) h2
 omega
theorem bothF_len {a b : List S42} (ha : validP a = true) (hb : validP b = true) (what : Int) : (formP (bothP a b what)).length ≤ 1000000000000 := by
 obtain ⟨h1, h2⟩ := valid_ok ha
 obtain ⟨h3, h4⟩ := valid_ok hb
 have := formP_len (f := bothP a b what) (n := 2000) fun lang s => by
  have := opP_len what (canW_can h1 lang s).1 (canW_can h3 lang s).1
  have := canW_le (l := a) lang s
  have := canW_le (l := b) lang s
  unfold bothP
  omega
 omega
theorem enters33 : EntersK 33 := entersK_of Tryz.func33 (by kernel_rfl) (by kernel_rfl)
theorem enters37 : EntersK 37 := entersK_of Tryz.func37 (by kernel_rfl) (by kernel_rfl)
theorem enters35 : EntersK 35 := entersK_of Tryz.func35 (by kernel_rfl) (by kernel_rfl)
theorem enters36 : EntersK 36 := entersK_of Tryz.func36 (by kernel_rfl) (by kernel_rfl)
end
section
open Go.Proofs.YtacohlafmbhcdaaGreatGlib
def inB (width scale lang : Int) (z : S42) : Bool := decide (z.f0 = lang) && (decide (z.f1.f0 ≤ scale) && decide (scale ≤ z.f1.f1) && (decide (z.f2.f0 ≤ width) && decide (width ≤ z.f2.f1)))
def Reads3 (g : Nat) (a b c : Int) (W : World) : Prop := W.cell? ⟨g, 0, none⟩ = some (.int .i64 a) ∧ W.cell? ⟨g, 1, none⟩ = some (.int .i64 b) ∧ W.cell? ⟨g, 2, none⟩ = some (.int .i64 c)
theorem Reads3.below {g : Nat} {a b c : Int} {W W' : World} (h : Reads3 g a b c W) (hb : Below W.heap.size W W') : Reads3 g a b c W' :=
 ⟨(hb.cell (World.block_lt_of_cell? W _ h.1)).trans h.1, (hb.cell (World.block_lt_of_cell? W _ h.2.1)).trans h.2.1, (hb.cell (World.block_lt_of_cell? W _ h.2.2)).trans h.2.2⟩
theorem enters26 : EntersK 26 := entersK_of Tryz.func26 (by kernel_rfl) (by kernel_rfl)
def readerB (width scale lang : Int) : Bool := okB ⟨lang, ⟨scale, scale⟩, ⟨width, width⟩⟩
theorem Reads3.c0 {g : Nat} {a b c : Int} {W : World} (h : Reads3 g a b c W) : W.cell? ⟨g, 0, none⟩ = some (.int .i64 a) := h.1
theorem Reads3.c1 {g : Nat} {a b c : Int} {W : World} (h : Reads3 g a b c W) : W.cell? ⟨g, 1, none⟩ = some (.int .i64 b) := h.2.1
theorem Reads3.c2 {g : Nat} {a b c : Int} {W : World} (h : Reads3 g a b c W) : W.cell? ⟨g, 2, none⟩ = some (.int .i64 c) := h.2.2
/-- What Has returns. -/
def hasP (l : List S42) (width scale lang : Int) : Bool × Int := if (validP l && readerB width scale lang) = true then (l.any (inB width scale lang), 0) else (false, 1)
def zone_Has.f (l0 : List S42) (a1_0 a1_1 a1_2 : Int) : Option (Bool × Int) := some (hasP l0 a1_0 a1_1 a1_2)
end
section
def zone_Canon.f (l0 : List S42) : Option (List S42 × Int) := some (formR l0 [] (canW l0))
end
section
attribute [local go_sem high] eqA42
def formeref03_Same.l0 : Nat → List (S42) → List (S42) → Int → Option (Bool)
 | 0, _, _, _ => none
 | k + 1, x0, x1, x5 => if x5 < (x0.length : Int) then (if 0 ≤ x5 then (if x5 < (x1.length : Int) then (if (!(((rd_T42 x0 x5).f0) == ((rd_T42 x1 x5).f0)) || ((!(((rd_T42 x0 x5).f1.f0) == ((rd_T42 x1 x5).f1.f0)) || (!(((rd_T42 x0 x5).f1.f1) == ((rd_T42 x1 x5).f1.f1)))) || ((!(((rd_T42 x0 x5).f2.f0) == ((rd_T42 x1 x5).f2.f0)) || (!(((rd_T42 x0 x5).f2.f1) == ((rd_T42 x1 x5).f2.f1))))))) = true then (some false) else (formeref03_Same.l0 k x0 x1 (wrap64 (x5 + 1)))) else (none)) else (none)) else (some true)
def formeref03_Same.f (k : Nat) (l0 : List (S42)) (l1 : List (S42)) : Option (Bool) := if (l0.length : Int) = (l1.length : Int) then (formeref03_Same.l0 k l0 l1 0) else (some false)
theorem formeref03_Same.mono_l : ∀ k, (∀ y0 y1 y2, LeO (formeref03_Same.l0 k y0 y1 y2) (formeref03_Same.l0 (k + 1) y0 y1 y2))
 | 0 => fun _ _ _ r h => by simp [formeref03_Same.l0] at h
 | k + 1 => by
  have ih0 := formeref03_Same.mono_l k
  · intro y0 y1 y2
    unfold formeref03_Same.l0
    repeat' first
    | (with_reducible exact ih0 _ _ _)
    | (with_reducible exact LeO.refl _)
    | (with_reducible exact LeO.none _)
    | (with_reducible refine LeO.ite ?_ ?_)
    | (with_reducible refine LeO.bind ?_ (fun _ => ?_))
    | exact ih0 _ _ _
    | exact LeO.none _
    | refine LeO.ite ?_ ?_
    | refine LeO.bind ?_ (fun _ => ?_)
theorem formeref03_Same.mono : ∀ a0 a1 k, LeO (formeref03_Same.f k a0 a1) (formeref03_Same.f (k + 1) a0 a1) := by
 intro a0 a1 k
 have ih0 := formeref03_Same.mono_l k
 unfold formeref03_Same.f
 repeat' first
   | (with_reducible exact ih0 _ _ _)
   | (with_reducible exact LeO.refl _)
   | (with_reducible exact LeO.none _)
   | (with_reducible refine LeO.ite ?_ ?_)
   | (with_reducible refine LeO.bind ?_ (fun _ => ?_))
   | exact ih0 _ _ _
   | exact LeO.none _
   | refine LeO.ite ?_ ?_
   | refine LeO.bind ?_ (fun _ => ?_)
end
section
def zone_Meet.f (l0 l1 : List S42) : Option (List S42 × Int) := some (formR l0 l1 (bothP l0 l1 1))
end
section
def zone_Less.f (l0 l1 : List S42) : Option (List S42 × Int) := some (formR l0 l1 (bothP l0 l1 2))
end
section
def api_Zone_38.l0 : Nat → List (S42) → Int → Int → Int → Int → Int → Int → Option (Int × Int × Int × Int × Int)
 | 0, _, _, _, _, _, _, _ => none
 | k + 1, x0, x6, x244000, x244001, x244002, x244003, x244004 => if x6 < (x0.length : Int) then (if 0 ≤ x6 then ((zone_Least_1.f k ((rd_T42 x0 x6).f0) ((rd_T42 x0 x6).f1.f0) ((rd_T42 x0 x6).f1.f1) ((rd_T42 x0 x6).f2.f0) ((rd_T42 x0 x6).f2.f1) x244000 x244001 x244002 x244003 x244004).bind fun t245 => (if t245 < 0 then (api_Zone_38.l0 k x0 (wrap64 (x6 + 1)) ((rd_T42 x0 x6).f0) ((rd_T42 x0 x6).f1.f0) ((rd_T42 x0 x6).f1.f1) ((rd_T42 x0 x6).f2.f0) ((rd_T42 x0 x6).f2.f1)) else (api_Zone_38.l0 k x0 (wrap64 (x6 + 1)) x244000 x244001 x244002 x244003 x244004))) else (none)) else (some (x244000, x244001, x244002, x244003, x244004))
def api_Zone_38.f (k : Nat) (l0 : List (S42)) (a1 : Int) : Option (Int × Int × Int × Int × Int) := if (l0.length : Int) < 1 then (none) else (if 0 < (l0.length : Int) then (api_Zone_38.l0 k l0 1 ((rd_T42 l0 0).f0) ((rd_T42 l0 0).f1.f0) ((rd_T42 l0 0).f1.f1) ((rd_T42 l0 0).f2.f0) ((rd_T42 l0 0).f2.f1)) else (none))
theorem api_Zone_38.mono_l : ∀ k, (∀ y0 y1 y2 y3 y4 y5 y6, LeO (api_Zone_38.l0 k y0 y1 y2 y3 y4 y5 y6) (api_Zone_38.l0 (k + 1) y0 y1 y2 y3 y4 y5 y6))
 | 0 => fun _ _ _ _ _ _ _ r h => by simp [api_Zone_38.l0] at h
 | k + 1 => by
  have ih0 := api_Zone_38.mono_l k
  · intro y0 y1 y2 y3 y4 y5 y6
    unfold api_Zone_38.l0
    repeat' first
    | (with_reducible exact ih0 _ _ _ _ _ _ _)
    | (with_reducible exact zone_Least_1.mono _ _ _ _ _ _ _ _ _ _ _)
    | (with_reducible exact LeO.refl _)
    | (with_reducible exact LeO.none _)
    | (with_reducible refine LeO.ite ?_ ?_)
    | (with_reducible refine LeO.bind ?_ (fun _ => ?_))
    | exact ih0 _ _ _ _ _ _ _
    | exact zone_Least_1.mono _ _ _ _ _ _ _ _ _ _ _
    | exact LeO.none _
    | refine LeO.ite ?_ ?_
    | refine LeO.bind ?_ (fun _ => ?_)
theorem api_Zone_38.mono : ∀ a0 a1 k, LeO (api_Zone_38.f k a0 a1) (api_Zone_38.f (k + 1) a0 a1) := by
 intro a0 a1 k
 have ih0 := api_Zone_38.mono_l k
 unfold api_Zone_38.f
 repeat' first
   | (with_reducible exact ih0 _ _ _ _ _ _ _)
   | (with_reducible exact zone_Least_1.mono _ _ _ _ _ _ _ _ _ _ _)
   | (with_reducible exact LeO.refl _)
   | (with_reducible exact LeO.none _)
   | (with_reducible refine LeO.ite ?_ ?_)
   | (with_reducible refine LeO.bind ?_ (fun _ => ?_))
   | exact ih0 _ _ _ _ _ _ _
   | exact zone_Least_1.mono _ _ _ _ _ _ _ _ _ _ _
   | exact LeO.none _
   | refine LeO.ite ?_ ?_
   | refine LeO.bind ?_ (fun _ => ?_)
def api_Zone_38.T7 : Bool × List (List Nat × List Nat) := (true, [([], []), ([], []), ([], []), ([1, 2], [1, 2]), ([3], [3]), ([], []), ([0, 4, 5], [0, 4, 5]), ([6], [6])])
def api_Zone_38.B7 : List Nat := [0, 0, 0, 6, 14, 0, 63, 127]
theorem api_Zone_38.tab7 : rtab .any (opsOf Tryz.f38 7) = api_Zone_38.T7 := by kernel_rfl
theorem api_Zone_38.bits7 : waitsOk api_Zone_38.T7.2 api_Zone_38.B7 = true := by kernel_rfl
def zone_Least.f (k : Nat) (l0 : List (S42)) : Option (Int × Int × Int × Bool × Int) := (zone_Valid.f l0).bind fun t248 => (if t248 = true then (if (l0.length : Int) = 0 then (some (0, 0, 0, false, 0)) else ((api_Zone_38.f k l0 0).bind fun bt249 => (some (bt249.2.2.2.1, bt249.2.1, bt249.1, true, 0)))) else (some (0, 0, 0, false, 1)))
theorem zone_Least.mono : ∀ a0 k, LeO (zone_Least.f k a0) (zone_Least.f (k + 1) a0) := by
 intro a0 k
 unfold zone_Least.f
 repeat' first
   | (with_reducible exact api_Zone_38.mono _ _ _)
   | (with_reducible exact LeO.refl _)
   | (with_reducible exact LeO.none _)
   | (with_reducible refine LeO.ite ?_ ?_)
   | (with_reducible refine LeO.bind ?_ (fun _ => ?_))
   | exact api_Zone_38.mono _ _ _
   | exact LeO.none _
   | refine LeO.ite ?_ ?_
   | refine LeO.bind ?_ (fun _ => ?_)
end
section
def countR (l : List S42) : Int × Int := if validP l = true then (cntZ (formP (canW l)), 0) else (0, 1)
def zone_Count.f (l0 : List S42) : Option (Int × Int) := some (countR l0)
end
section
def formelaw03_rect.f (a0 : Int) (a1 : Int) (a2 : Int) (a3 : Int) : Option (Int × Int × Int × Int × Int) := some (0, a0, a1, a2, a3)
end
section
def encZ (z : S42) : List Value := [.int .i64 z.f0, .int .i64 z.f1.f0, .int .i64 z.f1.f1, .int .i64 z.f2.f0, .int .i64 z.f2.f1]
theorem zones_get {α : Type} {encs : α → List Value} {n : Nat} (hs : ∀ x, (encs x).length = n) : ∀ (xs : List α) (j i : Nat) (p : α), xs[j]? = some p → i < n → (xs.flatMap encs)[j * n + i]? = (encs p)[i]?
 | [], j, i, p, h, _ => by simp at h
 | x :: xs, 0, i, p, h, hi => by
  simp only [List.getElem?_cons_zero, Option.some.injEq] at h
  subst h
  rw [List.flatMap_cons, Nat.zero_mul, Nat.zero_add, List.getElem?_append_left (by rw [hs]; exact hi)]
 | x :: xs, j + 1, i, p, h, hi => by
  have e : (j + 1) * n + i - n = j * n + i := by rw [Nat.add_mul]; omega
  rw [List.flatMap_cons, List.getElem?_append_right (by rw [hs, Nat.add_mul]; omega), hs, e]
  exact zones_get hs xs j i p (by simpa using h) hi
/-- A block of the call's own that was written as a literal reads as its zones. -/
theorem C_blockZ {w : World} {g e : Nat} {fr : Nat × Nat} {cs : Array Value} (xs : List S42) (h : w.heap[g]? = some (.cells cs e fr)) (hc : cs.toList = xs.flatMap encZ) (hl : xs.length ≤ 9223372036854775807) : Kd.C k42 w (some ⟨g, 0, none⟩) xs.length xs := by
 refine ⟨rfl, hl, fun _ => ⟨_, rfl, fun j p hj => ⟨_, rfl, k42_mk w p, fun i u hi => ?_⟩⟩⟩
 have hi5 : i < 5 := by
  have := (List.getElem?_eq_some_iff.1 hi).1
  simpa using this
 show w.cell? ((⟨g, 0, none⟩ : Addr).add (j * 5 + i)) = _
 rw [add_plain, show w.cell? ⟨g, j * 5 + i, none⟩ = cs[j * 5 + i]? from by simp [World.cell?, h], ← Array.getElem?_toList, hc, zones_get (n := 5) (fun x => rfl) xs j i p hj hi5]
 exact hi
theorem Drawn0.below' {w w' : World} (h : Drawn0 w w') : Below w.heap.size w w' := by
 obtain ⟨n, rfl⟩ := h
 exact pw_below_drewN (Below.refl _ _) n
def exL : List S42 := [⟨0, ⟨101, 101⟩, ⟨301, 310⟩⟩, ⟨0, ⟨100, 102⟩, ⟨200, 300⟩⟩]
def exC : List S42 := [⟨0, ⟨100, 100⟩, ⟨200, 300⟩⟩, ⟨0, ⟨101, 101⟩, ⟨200, 310⟩⟩, ⟨0, ⟨102, 102⟩, ⟨200, 300⟩⟩]
set_option maxRecDepth 100000 in
theorem ex_canon : zone_Canon.f exL = some (exC, 0) := by kernel_rfl
set_option maxRecDepth 100000 in
theorem ex_less : zone_Less.f exL [⟨0, ⟨101, 101⟩, ⟨200, 310⟩⟩] = some ([⟨0, ⟨100, 100⟩, ⟨200, 300⟩⟩, ⟨0, ⟨102, 102⟩, ⟨200, 300⟩⟩], 0) := by kernel_rfl
set_option maxRecDepth 100000 in
theorem ex_meet : zone_Meet.f exL [⟨0, ⟨102, 300⟩, ⟨250, 4000⟩⟩] = some ([⟨0, ⟨102, 102⟩, ⟨250, 300⟩⟩], 0) := by kernel_rfl
set_option maxRecDepth 100000 in
theorem ex_count : zone_Count.f exL = some (313, 0) := by kernel_rfl
set_option maxRecDepth 100000 in
theorem ex_least : zone_Least.f 9 exL = some (200, 100, 0, true, 0) := by kernel_rfl
set_option maxRecDepth 100000 in
theorem ex_in : zone_Has.f exL 305 101 0 = some (true, 0) := by kernel_rfl
set_option maxRecDepth 100000 in
theorem ex_out : zone_Has.f exL 305 100 0 = some (false, 0) := by kernel_rfl
set_option maxRecDepth 100000 in
theorem ex_none : zone_Least.f 9 [] = some (0, 0, 0, false, 0) := by kernel_rfl
set_option maxRecDepth 100000 in
theorem ex_bad : zone_Canon.f [⟨0, ⟨49, 60⟩, ⟨200, 300⟩⟩] = some ([], 1) := by kernel_rfl
set_option maxRecDepth 100000 in
theorem ex_same1 : formeref03_Same.f 9 exC exC = some true := by kernel_rfl
set_option maxRecDepth 100000 in
theorem ex_same2 : formeref03_Same.f 9 [⟨0, ⟨100, 100⟩, ⟨200, 300⟩⟩, ⟨0, ⟨102, 102⟩, ⟨200, 300⟩⟩] [⟨0, ⟨100, 100⟩, ⟨200, 300⟩⟩, ⟨0, ⟨102, 102⟩, ⟨200, 300⟩⟩] = some true := by kernel_rfl
set_option maxRecDepth 100000 in
theorem ex_same3 : formeref03_Same.f 9 [⟨0, ⟨102, 102⟩, ⟨250, 300⟩⟩] [⟨0, ⟨102, 102⟩, ⟨250, 300⟩⟩] = some true := by kernel_rfl
def head.T13 : Bool × List (List Nat × List Nat) := (true, [([], []), ([0], [0]), ([1], [1]), ([1], [1]), ([2, 3, 1, 1], [1, 2, 3]), ([1, 4], [1, 4]), ([5, 4], [5]), ([6], [6]), ([6], [6]), ([8, 6], [6, 8]), ([9, 6], [6, 9]), ([6], [6]), ([11, 6], [6, 11]), ([12, 6], [6, 12]), ([10, 13, 6], [6, 10, 13]), ([7, 14, 6, 6], [6, 7, 14]), ([6, 15], [6, 15]), ([16, 15], [16]), ([17], [17]), ([17, 17], [17]), ([19, 17], [17, 19]), ([18, 20, 19, 17], [17, 18, 20]), ([17, 21], [17, 21]), ([22, 21, 0, 1, 2, 3, 4, 5, 6, 7, 8, 9, 10, 11, 12, 13, 14, 15, 16, 17, 18, 19, 20, 21, 22], [0, 22])])
def head.B13 : List Nat := [0, 1, 3, 3, 15, 31, 63, 127, 127, 383, 895, 127, 2175, 6271, 16255, 32767, 65535, 131071, 262143, 262143, 786431, 2097151, 4194303, 8388607]
theorem head.tab13 : rtab .any (opsOf Tryz.f4 13) = head.T13 := by kernel_rfl
theorem head.bits13 : waitsOk head.T13.2 head.B13 = true := by kernel_rfl
def formelaw03_head.f : Option Bool := some true
end
section
def formeref03_Reader.f (a0_0 : Int) (a0_1 : Int) (a0_2 : Int) : Option (Bool) := if a0_2 ≥ 0 then (if a0_2 < 4 then (if a0_1 ≥ 50 then (if a0_1 ≤ 300 then (if a0_0 ≥ 200 then (some (decide (a0_0 ≤ 4000))) else (some false)) else (some false)) else (some false)) else (some false)) else (some false)
def formeref03_Zone.f (a0_0 : Int) (a0_1 : Int) (a0_2 : Int) (a0_3 : Int) (a0_4 : Int) : Option (Bool) := (formeref03_Reader.f a0_3 a0_1 a0_0).bind fun t260 => (if t260 = true then ((formeref03_Reader.f a0_4 a0_2 a0_0).bind fun t261 => (if t261 = true then (if a0_3 ≤ a0_4 then (some (decide (a0_1 ≤ a0_2))) else (some false)) else (some false))) else (some false))
def formeref03_Valid.l0 : Nat → List (S42) → Int → Option (Bool)
 | 0, _, _ => none
 | k + 1, x0, x3 => if x3 < (x0.length : Int) then (if 0 ≤ x3 then ((formeref03_Zone.f ((rd_T42 x0 x3).f0) ((rd_T42 x0 x3).f1.f0) ((rd_T42 x0 x3).f1.f1) ((rd_T42 x0 x3).f2.f0) ((rd_T42 x0 x3).f2.f1)).bind fun t263 => (if t263 = true then (formeref03_Valid.l0 k x0 (wrap64 (x3 + 1))) else (some false))) else (none)) else (some (decide ((x0.length : Int) ≤ 1000)))
def formeref03_Valid.f (k : Nat) (l0 : List (S42)) : Option (Bool) := formeref03_Valid.l0 k l0 0
theorem formeref03_Valid.mono_l : ∀ k, (∀ y0 y1, LeO (formeref03_Valid.l0 k y0 y1) (formeref03_Valid.l0 (k + 1) y0 y1))
 | 0 => fun _ _ r h => by simp [formeref03_Valid.l0] at h
 | k + 1 => by
  have ih0 := formeref03_Valid.mono_l k
  · intro y0 y1
    unfold formeref03_Valid.l0
    repeat' first
    | (with_reducible exact ih0 _ _)
    | (with_reducible exact LeO.refl _)
    | (with_reducible exact LeO.none _)
    | (with_reducible refine LeO.ite ?_ ?_)
    | (with_reducible refine LeO.bind ?_ (fun _ => ?_))
    | exact ih0 _ _
    | exact LeO.none _
    | refine LeO.ite ?_ ?_
    | refine LeO.bind ?_ (fun _ => ?_)
theorem formeref03_Valid.mono : ∀ a0 k, LeO (formeref03_Valid.f k a0) (formeref03_Valid.f (k + 1) a0) := by
 intro a0 k
 have ih0 := formeref03_Valid.mono_l k
 unfold formeref03_Valid.f
 repeat' first
   | (with_reducible exact ih0 _ _)
   | (with_reducible exact LeO.refl _)
   | (with_reducible exact LeO.none _)
   | (with_reducible refine LeO.ite ?_ ?_)
   | (with_reducible refine LeO.bind ?_ (fun _ => ?_))
   | exact ih0 _ _
   | exact LeO.none _
   | refine LeO.ite ?_ ?_
   | refine LeO.bind ?_ (fun _ => ?_)
def formeref03_In.f (a0_0 : Int) (a0_1 : Int) (a0_2 : Int) (a0_3 : Int) (a0_4 : Int) (a1_0 : Int) (a1_1 : Int) (a1_2 : Int) : Option (Bool) := if a0_0 = a1_2 then (if a0_1 ≤ a1_1 then (if a1_1 ≤ a0_2 then (if a0_3 ≤ a1_0 then (some (decide (a1_0 ≤ a0_4))) else (some false)) else (some false)) else (some false)) else (some false)
mutual
def formeref03_Has.j0 : Nat → List (S42) → Bool → Int → Int → Int → Option (Bool × Int)
 | 0, _, _, _, _, _ => none
 | k + 1, x0, x14, x267000, x267001, x267002 => if x14 = true then (some (false, 1)) else (formeref03_Has.l0 k x0 0 x267000 x267001 x267002)
def formeref03_Has.l0 : Nat → List (S42) → Int → Int → Int → Int → Option (Bool × Int)
 | 0, _, _, _, _, _ => none
 | k + 1, x0, x6, x267000, x267001, x267002 => if x6 < (x0.length : Int) then (if 0 ≤ x6 then ((formeref03_In.f ((rd_T42 x0 x6).f0) ((rd_T42 x0 x6).f1.f0) ((rd_T42 x0 x6).f1.f1) ((rd_T42 x0 x6).f2.f0) ((rd_T42 x0 x6).f2.f1) x267000 x267001 x267002).bind fun t270 => (if t270 = true then (some (true, 0)) else (formeref03_Has.l0 k x0 (wrap64 (x6 + 1)) x267000 x267001 x267002))) else (none)) else (some (false, 0))
end
def formeref03_Has.f (k : Nat) (l0 : List (S42)) (a1_0 : Int) (a1_1 : Int) (a1_2 : Int) : Option (Bool × Int) := (formeref03_Valid.f k l0).bind fun t267 => (if t267 = true then ((formeref03_Reader.f a1_0 a1_1 a1_2).bind fun t268 => (formeref03_Has.j0 k l0 (!t268) a1_0 a1_1 a1_2)) else (formeref03_Has.j0 k l0 true a1_0 a1_1 a1_2))
theorem formeref03_Has.mono_l : ∀ k, (∀ y0 y1 y2 y3 y4, LeO (formeref03_Has.j0 k y0 y1 y2 y3 y4) (formeref03_Has.j0 (k + 1) y0 y1 y2 y3 y4)) ∧ (∀ y0 y1 y2 y3 y4, LeO (formeref03_Has.l0 k y0 y1 y2 y3 y4) (formeref03_Has.l0 (k + 1) y0 y1 y2 y3 y4))
 | 0 => ⟨fun _ _ _ _ _ r h => by simp [formeref03_Has.j0] at h, fun _ _ _ _ _ r h => by simp [formeref03_Has.l0] at h⟩
 | k + 1 => by
  obtain ⟨ih0, ih1⟩ := formeref03_Has.mono_l k
  refine ⟨?_, ?_⟩
  · intro y0 y1 y2 y3 y4
    unfold formeref03_Has.j0
    repeat' first
    | (with_reducible exact ih0 _ _ _ _ _)
    | (with_reducible exact ih1 _ _ _ _ _)
    | (with_reducible exact formeref03_Valid.mono _ _)
    | (with_reducible exact LeO.refl _)
    | (with_reducible exact LeO.none _)
    | (with_reducible refine LeO.ite ?_ ?_)
    | (with_reducible refine LeO.bind ?_ (fun _ => ?_))
    | exact ih0 _ _ _ _ _
    | exact ih1 _ _ _ _ _
    | exact formeref03_Valid.mono _ _
    | exact LeO.none _
    | refine LeO.ite ?_ ?_
    | refine LeO.bind ?_ (fun _ => ?_)
  · intro y0 y1 y2 y3 y4
    unfold formeref03_Has.l0
    repeat' first
    | (with_reducible exact ih0 _ _ _ _ _)
    | (with_reducible exact ih1 _ _ _ _ _)
    | (with_reducible exact formeref03_Valid.mono _ _)
    | (with_reducible exact LeO.refl _)
    | (with_reducible exact LeO.none _)
    | (with_reducible refine LeO.ite ?_ ?_)
    | (with_reducible refine LeO.bind ?_ (fun _ => ?_))
    | exact ih0 _ _ _ _ _
    | exact ih1 _ _ _ _ _
    | exact formeref03_Valid.mono _ _
    | exact LeO.none _
    | refine LeO.ite ?_ ?_
    | refine LeO.bind ?_ (fun _ => ?_)
theorem formeref03_Has.mono : ∀ a0 a1 a2 a3 k, LeO (formeref03_Has.f k a0 a1 a2 a3) (formeref03_Has.f (k + 1) a0 a1 a2 a3) := by
 intro a0 a1 a2 a3 k
 obtain ⟨ih0, ih1⟩ := formeref03_Has.mono_l k
 unfold formeref03_Has.f
 repeat' first
   | (with_reducible exact ih0 _ _ _ _ _)
   | (with_reducible exact ih1 _ _ _ _ _)
   | (with_reducible exact formeref03_Valid.mono _ _)
   | (with_reducible exact LeO.refl _)
   | (with_reducible exact LeO.none _)
   | (with_reducible refine LeO.ite ?_ ?_)
   | (with_reducible refine LeO.bind ?_ (fun _ => ?_))
   | exact ih0 _ _ _ _ _
   | exact ih1 _ _ _ _ _
   | exact formeref03_Valid.mono _ _
   | exact LeO.none _
   | refine LeO.ite ?_ ?_
   | refine LeO.bind ?_ (fun _ => ?_)
end
section
mutual
def formeref03_put.j1 : Nat → List (S40) → List (S40) → Int → Int → Int → Option ((List (S40)))
 | 0, _, _, _, _, _ => none
 | k + 1, x0, x5, x6, x272000, x272001 => formeref03_put.l1 k x0 x5 x6 x272000 x272001
def formeref03_put.l1 : Nat → List (S40) → List (S40) → Int → Int → Int → Option ((List (S40)))
 | 0, _, _, _, _, _ => none
 | k + 1, x0, x5, x6, x272000, x272001 => if x6 < (x0.length : Int) then (if 0 ≤ x6 then (if ((rd_T40 x0 x6).f0) ≤ (wrap64 (x272001 + 1)) then (formeref03_put.l1 k x0 x5 (wrap64 (x6 + 1)) (mn x272000 ((rd_T40 x0 x6).f0)) (mx x272001 ((rd_T40 x0 x6).f1))) else (if x5.length < 8796093022208 then ((some (x5 ++ [(⟨x272000, x272001⟩ : S40)] : List (S40))).bind fun y280 => (if x6 ≤ (x0.length : Int) then ((some (x0.drop (x6 : Int).toNat : List (S40))).bind fun y283 => (if y280.length + y283.length < 8796093022208 then (some (y280 ++ y283)) else (none))) else (none))) else (none))) else (none)) else (if x5.length < 8796093022208 then ((some (x5 ++ [(⟨x272000, x272001⟩ : S40)] : List (S40))).bind fun y290 => (if 0 ≤ x6 then (if x6 ≤ (x0.length : Int) then ((some (x0.drop (x6 : Int).toNat : List (S40))).bind fun y293 => (if y290.length + y293.length < 8796093022208 then (some (y290 ++ y293)) else (none))) else (none)) else (none))) else (none))
def formeref03_put.l0 : Nat → List (S40) → List (S40) → Int → Int → Int → Option ((List (S40)))
 | 0, _, _, _, _, _ => none
 | k + 1, x0, x5, x6, x272000, x272001 => if x6 < (x0.length : Int) then (if 0 ≤ x6 then (if (wrap64 (((rd_T40 x0 x6).f1) + 1)) < x272000 then (if x5.length < 8796093022208 then (formeref03_put.l0 k x0 (x5 ++ [(⟨(rd_T40 x0 x6).f0, (rd_T40 x0 x6).f1⟩ : S40)]) (wrap64 (x6 + 1)) x272000 x272001) else (none)) else (formeref03_put.j1 k x0 x5 x6 x272000 x272001)) else (none)) else (formeref03_put.j1 k x0 x5 x6 x272000 x272001)
end
def formeref03_put.f (k : Nat) (l0 : List (S40)) (a1_0 : Int) (a1_1 : Int) : Option ((List (S40))) := formeref03_put.l0 k l0 ([] : List (S40)) 0 a1_0 a1_1
theorem formeref03_put.mono_l : ∀ k, (∀ y0 y1 y2 y3 y4, LeO (formeref03_put.j1 k y0 y1 y2 y3 y4) (formeref03_put.j1 (k + 1) y0 y1 y2 y3 y4)) ∧ (∀ y0 y1 y2 y3 y4, LeO (formeref03_put.l1 k y0 y1 y2 y3 y4) (formeref03_put.l1 (k + 1) y0 y1 y2 y3 y4)) ∧ (∀ y0 y1 y2 y3 y4, LeO (formeref03_put.l0 k y0 y1 y2 y3 y4) (formeref03_put.l0 (k + 1) y0 y1 y2 y3 y4))
 | 0 => ⟨fun _ _ _ _ _ r h => by simp [formeref03_put.j1] at h, fun _ _ _ _ _ r h => by simp [formeref03_put.l1] at h, fun _ _ _ _ _ r h => by simp [formeref03_put.l0] at h⟩
 | k + 1 => by
  obtain ⟨ih0, ih1, ih2⟩ := formeref03_put.mono_l k
  refine ⟨?_, ?_, ?_⟩
  · intro y0 y1 y2 y3 y4
    unfold formeref03_put.j1
    repeat' first
    | (with_reducible exact ih0 _ _ _ _ _)
    | (with_reducible exact ih1 _ _ _ _ _)
    | (with_reducible exact ih2 _ _ _ _ _)
    | (with_reducible exact LeO.refl _)
    | (with_reducible exact LeO.none _)
    | (with_reducible refine LeO.ite ?_ ?_)
    | (with_reducible refine LeO.bind ?_ (fun _ => ?_))
    | exact ih0 _ _ _ _ _
    | exact ih1 _ _ _ _ _
    | exact ih2 _ _ _ _ _
    | exact LeO.none _
    | refine LeO.ite ?_ ?_
    | refine LeO.bind ?_ (fun _ => ?_)
  · intro y0 y1 y2 y3 y4
    unfold formeref03_put.l1
    repeat' first
    | (with_reducible exact ih0 _ _ _ _ _)
    | (with_reducible exact ih1 _ _ _ _ _)
    | (with_reducible exact ih2 _ _ _ _ _)
    | (with_reducible exact LeO.refl _)
    | (with_reducible exact LeO.none _)
    | (with_reducible refine LeO.ite ?_ ?_)
    | (with_reducible refine LeO.bind ?_ (fun _ => ?_))
    | exact ih0 _ _ _ _ _
    | exact ih1 _ _ _ _ _
    | exact ih2 _ _ _ _ _
    | exact LeO.none _
    | refine LeO.ite ?_ ?_
    | refine LeO.bind ?_ (fun _ => ?_)
  · intro y0 y1 y2 y3 y4
    unfold formeref03_put.l0
    repeat' first
    | (with_reducible exact ih0 _ _ _ _ _)
    | (with_reducible exact ih1 _ _ _ _ _)
    | (with_reducible exact ih2 _ _ _ _ _)
    | (with_reducible exact LeO.refl _)
    | (with_reducible exact LeO.none _)
    | (with_reducible refine LeO.ite ?_ ?_)
    | (with_reducible refine LeO.bind ?_ (fun _ => ?_))
    | exact ih0 _ _ _ _ _
    | exact ih1 _ _ _ _ _
    | exact ih2 _ _ _ _ _
    | exact LeO.none _
    | refine LeO.ite ?_ ?_
    | refine LeO.bind ?_ (fun _ => ?_)
theorem formeref03_put.mono : ∀ a0 a1 a2 k, LeO (formeref03_put.f k a0 a1 a2) (formeref03_put.f (k + 1) a0 a1 a2) := by
 intro a0 a1 a2 k
 obtain ⟨ih0, ih1, ih2⟩ := formeref03_put.mono_l k
 unfold formeref03_put.f
 repeat' first
   | (with_reducible exact ih0 _ _ _ _ _)
   | (with_reducible exact ih1 _ _ _ _ _)
   | (with_reducible exact ih2 _ _ _ _ _)
   | (with_reducible exact LeO.refl _)
   | (with_reducible exact LeO.none _)
   | (with_reducible refine LeO.ite ?_ ?_)
   | (with_reducible refine LeO.bind ?_ (fun _ => ?_))
   | exact ih0 _ _ _ _ _
   | exact ih1 _ _ _ _ _
   | exact ih2 _ _ _ _ _
   | exact LeO.none _
   | refine LeO.ite ?_ ?_
   | refine LeO.bind ?_ (fun _ => ?_)
def formeref03_put.T3 : Bool × List (List Nat × List Nat) := (true, [([], []), ([], []), ([1], [1]), ([0, 2], [0, 2]), ([3], [3]), ([4], [4]), ([4], [4]), ([5, 6, 4], [4, 5, 6]), ([7, 4], [4, 7]), ([8, 4], [4, 8]), ([9, 4], [4, 9]), ([4], [4]), ([11, 4], [4, 11]), ([10, 12, 4], [4, 10, 12]), ([4, 13], [4, 13])])
def formeref03_put.B3 : List Nat := [0, 0, 2, 7, 15, 31, 31, 127, 255, 511, 1023, 31, 2079, 8191, 16383]
theorem formeref03_put.tab3 : rtab .any (opsOf Tryz.f57 3) = formeref03_put.T3 := by kernel_rfl
theorem formeref03_put.bits3 : waitsOk formeref03_put.T3.2 formeref03_put.B3 = true := by kernel_rfl
def formeref03_put.T6 : Bool × List (List Nat × List Nat) := (true, [([], []), ([], []), ([1], [1]), ([0, 2], [0, 2]), ([3], [3]), ([4], [4]), ([4], [4]), ([5, 6, 4], [4, 5, 6]), ([7, 4], [4, 7]), ([8, 4], [4, 8]), ([4], [4]), ([10, 4], [4, 10]), ([11, 4], [4, 11]), ([9, 12, 4], [4, 9, 12]), ([4, 13], [4, 13])])
def formeref03_put.B6 : List Nat := [0, 0, 2, 7, 15, 31, 31, 127, 255, 511, 31, 1055, 3103, 8191, 16383]
theorem formeref03_put.tab6 : rtab .any (opsOf Tryz.f57 6) = formeref03_put.T6 := by kernel_rfl
theorem formeref03_put.bits6 : waitsOk formeref03_put.T6.2 formeref03_put.B6 = true := by kernel_rfl
def formeref03_put.T7 : Bool × List (List Nat × List Nat) := (true, [([], []), ([0], [0]), ([], []), ([], []), ([2, 3], [2, 3]), ([4], [4]), ([5], [5]), ([1, 6], [1, 6]), ([0, 1, 2, 3, 4, 5, 6, 7], []), ([8, 7, 0, 1, 2, 3, 4, 5, 6, 7], [7, 8])])
def formeref03_put.B7 : List Nat := [0, 1, 0, 0, 12, 28, 60, 127, 255, 511]
theorem formeref03_put.tab7 : rtab .any (opsOf Tryz.f57 7) = formeref03_put.T7 := by kernel_rfl
theorem formeref03_put.bits7 : waitsOk formeref03_put.T7.2 formeref03_put.B7 = true := by kernel_rfl
def formeref03_put.T8 : Bool × List (List Nat × List Nat) := (true, [([], []), ([0], [0]), ([], []), ([], []), ([2, 3], [2, 3]), ([4], [4]), ([5], [5]), ([1, 6], [1, 6]), ([0, 1, 2, 3, 4, 5, 6, 7], []), ([8, 7, 0, 1, 2, 3, 4, 5, 6, 7], [7, 8])])
def formeref03_put.B8 : List Nat := [0, 1, 0, 0, 12, 28, 60, 127, 255, 511]
theorem formeref03_put.tab8 : rtab .any (opsOf Tryz.f57 8) = formeref03_put.T8 := by kernel_rfl
theorem formeref03_put.bits8 : waitsOk formeref03_put.T8.2 formeref03_put.B8 = true := by kernel_rfl
end
section
def formeref03_widths.l0 : Nat → List (S42) → Int → Int → List (S40) → Int → Option ((List (S40)))
 | 0, _, _, _, _, _ => none
 | k + 1, x0, x1, x2, x7, x8 => if x8 < (x0.length : Int) then (if 0 ≤ x8 then (if ((rd_T42 x0 x8).f0) = x1 then (if ((rd_T42 x0 x8).f1.f0) ≤ x2 then (if x2 ≤ ((rd_T42 x0 x8).f1.f1) then ((formeref03_put.f k x7 ((rd_T42 x0 x8).f2.f0) ((rd_T42 x0 x8).f2.f1)).bind fun t304 => (formeref03_widths.l0 k x0 x1 x2 t304 (wrap64 (x8 + 1)))) else (formeref03_widths.l0 k x0 x1 x2 x7 (wrap64 (x8 + 1)))) else (formeref03_widths.l0 k x0 x1 x2 x7 (wrap64 (x8 + 1)))) else (formeref03_widths.l0 k x0 x1 x2 x7 (wrap64 (x8 + 1)))) else (none)) else (some x7)
def formeref03_widths.f (k : Nat) (l0 : List (S42)) (a1 : Int) (a2 : Int) : Option ((List (S40))) := formeref03_widths.l0 k l0 a1 a2 ([] : List (S40)) 0
theorem formeref03_widths.mono_l : ∀ k, (∀ y0 y1 y2 y3 y4, LeO (formeref03_widths.l0 k y0 y1 y2 y3 y4) (formeref03_widths.l0 (k + 1) y0 y1 y2 y3 y4))
 | 0 => fun _ _ _ _ _ r h => by simp [formeref03_widths.l0] at h
 | k + 1 => by
  have ih0 := formeref03_widths.mono_l k
  · intro y0 y1 y2 y3 y4
    unfold formeref03_widths.l0
    repeat' first
    | (with_reducible exact ih0 _ _ _ _ _)
    | (with_reducible exact formeref03_put.mono _ _ _ _)
    | (with_reducible exact LeO.refl _)
    | (with_reducible exact LeO.none _)
    | (with_reducible refine LeO.ite ?_ ?_)
    | (with_reducible refine LeO.bind ?_ (fun _ => ?_))
    | exact ih0 _ _ _ _ _
    | exact formeref03_put.mono _ _ _ _
    | exact LeO.none _
    | refine LeO.ite ?_ ?_
    | refine LeO.bind ?_ (fun _ => ?_)
theorem formeref03_widths.mono : ∀ a0 a1 a2 k, LeO (formeref03_widths.f k a0 a1 a2) (formeref03_widths.f (k + 1) a0 a1 a2) := by
 intro a0 a1 a2 k
 have ih0 := formeref03_widths.mono_l k
 unfold formeref03_widths.f
 repeat' first
   | (with_reducible exact ih0 _ _ _ _ _)
   | (with_reducible exact formeref03_put.mono _ _ _ _)
   | (with_reducible exact LeO.refl _)
   | (with_reducible exact LeO.none _)
   | (with_reducible refine LeO.ite ?_ ?_)
   | (with_reducible refine LeO.bind ?_ (fun _ => ?_))
   | exact ih0 _ _ _ _ _
   | exact formeref03_put.mono _ _ _ _
   | exact LeO.none _
   | refine LeO.ite ?_ ?_
   | refine LeO.bind ?_ (fun _ => ?_)
mutual
def formeref03_less.l0 : Nat → List (S40) → List (S40) → List (S40) → Int → Option ((List (S40)))
 | 0, _, _, _, _ => none
 | k + 1, x0, x1, x5, x6 => if x6 < (x0.length : Int) then (if 0 ≤ x6 then (formeref03_less.l1 k x0 x1 x5 x6 ((rd_T40 x0 x6).f0) 0) else (none)) else (some x5)
def formeref03_less.l1 : Nat → List (S40) → List (S40) → List (S40) → Int → Int → Int → Option ((List (S40)))
 | 0, _, _, _, _, _, _ => none
 | k + 1, x0, x1, x5, x6, x7, x8 => if x8 < (x1.length : Int) then (if 0 ≤ x8 then (if ((rd_T40 x1 x8).f1) < x7 then (formeref03_less.j2 k x0 x1 x5 x6 x7 x8 true) else (if 0 ≤ x6 then (if x6 < (x0.length : Int) then (formeref03_less.j2 k x0 x1 x5 x6 x7 x8 (decide (((rd_T40 x1 x8).f0) > ((rd_T40 x0 x6).f1)))) else (none)) else (none))) else (none)) else (if 0 ≤ x6 then (if x6 < (x0.length : Int) then (if x7 ≤ ((rd_T40 x0 x6).f1) then (if x5.length < 8796093022208 then (formeref03_less.l0 k x0 x1 (x5 ++ [(⟨x7, (rd_T40 x0 x6).f1⟩ : S40)]) (wrap64 (x6 + 1))) else (none)) else (formeref03_less.l0 k x0 x1 x5 (wrap64 (x6 + 1)))) else (none)) else (none))
def formeref03_less.j2 : Nat → List (S40) → List (S40) → List (S40) → Int → Int → Int → Bool → Option ((List (S40)))
 | 0, _, _, _, _, _, _, _ => none
 | k + 1, x0, x1, x5, x6, x7, x8, x45 => if x45 = true then (formeref03_less.l1 k x0 x1 x5 x6 x7 (wrap64 (x8 + 1))) else (if 0 ≤ x8 then (if x8 < (x1.length : Int) then (if ((rd_T40 x1 x8).f0) > x7 then (if x5.length < 8796093022208 then (formeref03_less.l1 k x0 x1 (x5 ++ [(⟨x7, wrap64 (((rd_T40 x1 x8).f0) - 1)⟩ : S40)]) x6 (wrap64 (((rd_T40 x1 x8).f1) + 1)) (wrap64 (x8 + 1))) else (none)) else (formeref03_less.l1 k x0 x1 x5 x6 (wrap64 (((rd_T40 x1 x8).f1) + 1)) (wrap64 (x8 + 1)))) else (none)) else (none))
end
def formeref03_less.f (k : Nat) (l0 : List (S40)) (l1 : List (S40)) : Option ((List (S40))) := formeref03_less.l0 k l0 l1 ([] : List (S40)) 0
theorem formeref03_less.mono_l : ∀ k, (∀ y0 y1 y2 y3, LeO (formeref03_less.l0 k y0 y1 y2 y3) (formeref03_less.l0 (k + 1) y0 y1 y2 y3)) ∧ (∀ y0 y1 y2 y3 y4 y5, LeO (formeref03_less.l1 k y0 y1 y2 y3 y4 y5) (formeref03_less.l1 (k + 1) y0 y1 y2 y3 y4 y5)) ∧ (∀ y0 y1 y2 y3 y4 y5 y6, LeO (formeref03_less.j2 k y0 y1 y2 y3 y4 y5 y6) (formeref03_less.j2 (k + 1) y0 y1 y2 y3 y4 y5 y6))
 | 0 => ⟨fun _ _ _ _ r h => by simp [formeref03_less.l0] at h, fun _ _ _ _ _ _ r h => by simp [formeref03_less.l1] at h, fun _ _ _ _ _ _ _ r h => by simp [formeref03_less.j2] at h⟩
 | k + 1 => by
  obtain ⟨ih0, ih1, ih2⟩ := formeref03_less.mono_l k
  refine ⟨?_, ?_, ?_⟩
  · intro y0 y1 y2 y3
    unfold formeref03_less.l0
    repeat' first
    | (with_reducible exact ih0 _ _ _ _)
    | (with_reducible exact ih1 _ _ _ _ _ _)
    | (with_reducible exact ih2 _ _ _ _ _ _ _)
    | (with_reducible exact LeO.refl _)
    | (with_reducible exact LeO.none _)
    | (with_reducible refine LeO.ite ?_ ?_)
    | (with_reducible refine LeO.bind ?_ (fun _ => ?_))
    | exact ih0 _ _ _ _
    | exact ih1 _ _ _ _ _ _
    | exact ih2 _ _ _ _ _ _ _
    | exact LeO.none _
    | refine LeO.ite ?_ ?_
    | refine LeO.bind ?_ (fun _ => ?_)
  · intro y0 y1 y2 y3 y4 y5
    unfold formeref03_less.l1
    repeat' first
    | (with_reducible exact ih0 _ _ _ _)
    | (with_reducible exact ih1 _ _ _ _ _ _)
    | (with_reducible exact ih2 _ _ _ _ _ _ _)
    | (with_reducible exact LeO.refl _)
    | (with_reducible exact LeO.none _)
    | (with_reducible refine LeO.ite ?_ ?_)
    | (with_reducible refine LeO.bind ?_ (fun _ => ?_))
    | exact ih0 _ _ _ _
    | exact ih1 _ _ _ _ _ _
    | exact ih2 _ _ _ _ _ _ _
    | exact LeO.none _
    | refine LeO.ite ?_ ?_
    | refine LeO.bind ?_ (fun _ => ?_)
  · intro y0 y1 y2 y3 y4 y5 y6
    unfold formeref03_less.j2
    repeat' first
    | (with_reducible exact ih0 _ _ _ _)
    | (with_reducible exact ih1 _ _ _ _ _ _)
    | (with_reducible exact ih2 _ _ _ _ _ _ _)
    | (with_reducible exact LeO.refl _)
    | (with_reducible exact LeO.none _)
    | (with_reducible refine LeO.ite ?_ ?_)
    | (with_reducible refine LeO.bind ?_ (fun _ => ?_))
    | exact ih0 _ _ _ _
    | exact ih1 _ _ _ _ _ _
    | exact ih2 _ _ _ _ _ _ _
    | exact LeO.none _
    | refine LeO.ite ?_ ?_
    | refine LeO.bind ?_ (fun _ => ?_)
theorem formeref03_less.mono : ∀ a0 a1 k, LeO (formeref03_less.f k a0 a1) (formeref03_less.f (k + 1) a0 a1) := by
 intro a0 a1 k
 obtain ⟨ih0, ih1, ih2⟩ := formeref03_less.mono_l k
 unfold formeref03_less.f
 repeat' first
   | (with_reducible exact ih0 _ _ _ _)
   | (with_reducible exact ih1 _ _ _ _ _ _)
   | (with_reducible exact ih2 _ _ _ _ _ _ _)
   | (with_reducible exact LeO.refl _)
   | (with_reducible exact LeO.none _)
   | (with_reducible refine LeO.ite ?_ ?_)
   | (with_reducible refine LeO.bind ?_ (fun _ => ?_))
   | exact ih0 _ _ _ _
   | exact ih1 _ _ _ _ _ _
   | exact ih2 _ _ _ _ _ _ _
   | exact LeO.none _
   | refine LeO.ite ?_ ?_
   | refine LeO.bind ?_ (fun _ => ?_)
def formeref03_both.l0 : Nat → List (S40) → List (S40) → Int → Option ((List (S40)))
 | 0, _, _, _ => none
 | k + 1, x11, x12, x13 => if x13 < (x12.length : Int) then (if 0 ≤ x13 then ((formeref03_put.f k x11 ((rd_T40 x12 x13).f0) ((rd_T40 x12 x13).f1)).bind fun t339 => (formeref03_both.l0 k t339 x12 (wrap64 (x13 + 1)))) else (none)) else (some x11)
def formeref03_both.f (k : Nat) (l0 : List (S42)) (l1 : List (S42)) (a2 : Int) (a3 : Int) (a4 : Int) : Option ((List (S40))) := (formeref03_widths.f k l0 a2 a3).bind fun t323 => ((formeref03_widths.f k l1 a2 a3).bind fun t326 => (if a4 = 2 then ((formeref03_less.f k t323 t326).bind fun t329 => (some t329)) else (if a4 = 1 then ((formeref03_less.f k t323 t326).bind fun t332 => ((formeref03_less.f k t323 t332).bind fun t335 => (some t335))) else (formeref03_both.l0 k t323 t326 0))))
theorem formeref03_both.mono_l : ∀ k, (∀ y0 y1 y2, LeO (formeref03_both.l0 k y0 y1 y2) (formeref03_both.l0 (k + 1) y0 y1 y2))
 | 0 => fun _ _ _ r h => by simp [formeref03_both.l0] at h
 | k + 1 => by
  have ih0 := formeref03_both.mono_l k
  · intro y0 y1 y2
    unfold formeref03_both.l0
    repeat' first
    | (with_reducible exact ih0 _ _ _)
    | (with_reducible exact formeref03_less.mono _ _ _)
    | (with_reducible exact formeref03_put.mono _ _ _ _)
    | (with_reducible exact formeref03_widths.mono _ _ _ _)
    | (with_reducible exact LeO.refl _)
    | (with_reducible exact LeO.none _)
    | (with_reducible refine LeO.ite ?_ ?_)
    | (with_reducible refine LeO.bind ?_ (fun _ => ?_))
    | exact ih0 _ _ _
    | exact formeref03_less.mono _ _ _
    | exact formeref03_put.mono _ _ _ _
    | exact formeref03_widths.mono _ _ _ _
    | exact LeO.none _
    | refine LeO.ite ?_ ?_
    | refine LeO.bind ?_ (fun _ => ?_)
theorem formeref03_both.mono : ∀ a0 a1 a2 a3 a4 k, LeO (formeref03_both.f k a0 a1 a2 a3 a4) (formeref03_both.f (k + 1) a0 a1 a2 a3 a4) := by
 intro a0 a1 a2 a3 a4 k
 have ih0 := formeref03_both.mono_l k
 unfold formeref03_both.f
 repeat' first
   | (with_reducible exact ih0 _ _ _)
   | (with_reducible exact formeref03_less.mono _ _ _)
   | (with_reducible exact formeref03_put.mono _ _ _ _)
   | (with_reducible exact formeref03_widths.mono _ _ _ _)
   | (with_reducible exact LeO.refl _)
   | (with_reducible exact LeO.none _)
   | (with_reducible refine LeO.ite ?_ ?_)
   | (with_reducible refine LeO.bind ?_ (fun _ => ?_))
   | exact ih0 _ _ _
   | exact formeref03_less.mono _ _ _
   | exact formeref03_put.mono _ _ _ _
   | exact formeref03_widths.mono _ _ _ _
   | exact LeO.none _
   | refine LeO.ite ?_ ?_
   | refine LeO.bind ?_ (fun _ => ?_)
end
end Go.Proofs.YtacohlafmbhcdaaGreat.PAll
