/- Printed by a program of this session (wip/gprint.py) over the translation. Not trusted: Lean checks it. -/
import Derived.Test.YtffmflmpiekcfaaDoorProg
import Derived.Below
import Derived.Deep.Draws
import Derived.Deep.AppendLies
import Derived.Maps.AppendAt
import Derived.OwnWalk
import Derived.Laws.BytesArg
import Derived.Laws.MakeOwn
import Derived.Laws.OwnMore
import Derived.Deep.OwnRows
import Derived.Tactics
import Derived.Lib.ConvBytes
import Derived.Laws.Slices
import Derived.WalkKit
import Derived.KernelRfl
import Derived.RowKit3
import Derived.Deep.LoopGhost
import Derived.Deep.QuietTactic
import Derived.BigQuiet
import Derived.WideLaws
import Derived.Deep.DeepCutAuto
import Derived.Deep.CutBlock
import Derived.Deep.RegionHeld3
import Derived.Laws.Rows
import Derived.Lib.AppendStr
import Derived.ArgAppend
import Derived.Laws.IdiomCopy
import Derived.OrdersHeld
import Derived.Laws.BitsLemmas
import Derived.RowKit
import Derived.Test.YtffmflmpiekcfaaDoorVWords
import Derived.Test.YtffmflmpiekcfaaDoorVLast
import Derived.Test.YtffmflmpiekcfaaDoorVTab
import Derived.Test.YtffmflmpiekcfaaDoorVApart
import Derived.Test.YtffmflmpiekcfaaDoorVFoot
import Derived.Test.YtffmflmpiekcfaaDoorVKept
import Derived.Test.YtffmflmpiekcfaaDoorVShare
import Derived.Test.YtffmflmpiekcfaaDoorVN
import Derived.Laws.StructEq
import Derived.Test.YtffmflmpiekcfaaDoorVRepsOne
import Derived.Test.YtffmflmpiekcfaaDoorVGuard
import Derived.Test.YtffmflmpiekcfaaDoorVMore
import Derived.Lib.ItoaLen
import Derived.Shelf.Strconv.AppendIntPublic10
import Derived.Shelf.LaysM
import Derived.Test.YtffmflmpiekcfaaDoorGlib
import Derived.Shelf.Abstract
import Derived.Deep.RegionWith
import Derived.Deep.RegionLaw
import Derived.OwnWalkIn
import Derived.TacticsInMore
import Derived.Laws.EntriesVeiled
import Derived.Lib.ItoaNum
import Derived.LoopNIn
import Derived.LoopIn
namespace Go.Proofs.YtffmflmpiekcfaaDoor.PAll
open Go.RowKit Go.Proofs.YtffmflmpiekcfaaDoorW.PrintWords Go.Proofs.YtffmflmpiekcfaaDoorW.PrintLast Go.Proofs.YtffmflmpiekcfaaDoorW.PrintMore
attribute [local go_sem] max2_int min2_int max_two min_two max_three min_three max_four min_four   -- for this text's walks alone
set_option linter.unusedVariables false
set_option linter.unusedSimpArgs false

section
def errW : Option Int → Value
  | none => .nilIface
  | some c => .iface 0 (.int .i64 c)
theorem errW_none : errW none = .nilIface := rfl
theorem errW_some (c : Int) : errW (some c) = .iface 0 (.int .i64 c) := rfl
theorem info3 : (Tryd.prog.info? 3).map (fun i => (i.zero, i.size, i.bytes)) = some (some (.int .i64 0), 1, 8) := by kernel_rfl
theorem info4 : (Tryd.prog.info? 4).map (fun i => (i.zero, i.size, i.bytes)) = some (some (.bool false), 1, 1) := by kernel_rfl
theorem info5 : (Tryd.prog.info? 5).map (fun i => (i.zero, i.size, i.bytes)) = some (some (.int .u8 0), 1, 1) := by kernel_rfl
theorem info23 : (Tryd.prog.info? 23).map (fun i => (i.zero, i.size, i.bytes)) = some (some (.int .u64 0), 1, 8) := by kernel_rfl
def rd_L1 (xs : List (List Int)) (i : Int) : (List Int) := xs.getD i.toNat ([] : List Int)
theorem at_L1 {w : World} {A : Option Addr} {n : Nat} {xs : List (List Int)} (h : Kd.C (Kd.slice 5 (Kd.int .u8)) w A n xs) (i : Int) (h0 : 0 ≤ i) (h1 : i < n) : ∃ ad A0 c0, A = some ad ∧ w.cell? (ad.add i.toNat) = some (.slice A0 (rd_L1 xs i).length c0) ∧ (rd_L1 xs i).length ≤ c0 ∧ (Kd.int .u8).C w A0 (rd_L1 xs i).length (rd_L1 xs i) := by
  obtain ⟨ad, c, e, _, hK, hc0⟩ := Kd.C_get h ([] : List Int) i h0 h1
  have hc : ∀ j u, c[j]? = some u → w.cell? (ad.add (i.toNat * 1 + j)) = some u := hc0
  obtain ⟨A0, c0, rfl, l0, g0⟩ := hK
  exact ⟨ad, A0, c0, e, by have hq := hc 0 _ rfl; rwa [Nat.mul_one, Nat.add_zero] at hq, l0, g0⟩
def rd_L4 (xs : List (List Int)) (i : Int) : (List Int) := xs.getD i.toNat ([] : List Int)
theorem at_L4 {w : World} {A : Option Addr} {n : Nat} {xs : List (List Int)} (h : Kd.C (Kd.slice 23 (Kd.int .u64)) w A n xs) (i : Int) (h0 : 0 ≤ i) (h1 : i < n) : ∃ ad A0 c0, A = some ad ∧ w.cell? (ad.add i.toNat) = some (.slice A0 (rd_L4 xs i).length c0) ∧ (rd_L4 xs i).length ≤ c0 ∧ (Kd.int .u64).C w A0 (rd_L4 xs i).length (rd_L4 xs i) := by
  obtain ⟨ad, c, e, _, hK, hc0⟩ := Kd.C_get h ([] : List Int) i h0 h1
  have hc : ∀ j u, c[j]? = some u → w.cell? (ad.add (i.toNat * 1 + j)) = some u := hc0
  obtain ⟨A0, c0, rfl, l0, g0⟩ := hK
  exact ⟨ad, A0, c0, e, by have hq := hc 0 _ rfl; rwa [Nat.mul_one, Nat.add_zero] at hq, l0, g0⟩
def rd_L6 (xs : List (List Int)) (i : Int) : (List Int) := xs.getD i.toNat ([] : List Int)
theorem at_L6 {w : World} {A : Option Addr} {n : Nat} {xs : List (List Int)} (h : Kd.C (Kd.slice 3 (Kd.int .i64)) w A n xs) (i : Int) (h0 : 0 ≤ i) (h1 : i < n) : ∃ ad A0 c0, A = some ad ∧ w.cell? (ad.add i.toNat) = some (.slice A0 (rd_L6 xs i).length c0) ∧ (rd_L6 xs i).length ≤ c0 ∧ (Kd.int .i64).C w A0 (rd_L6 xs i).length (rd_L6 xs i) := by
  obtain ⟨ad, c, e, _, hK, hc0⟩ := Kd.C_get h ([] : List Int) i h0 h1
  have hc : ∀ j u, c[j]? = some u → w.cell? (ad.add (i.toNat * 1 + j)) = some u := hc0
  obtain ⟨A0, c0, rfl, l0, g0⟩ := hK
  exact ⟨ad, A0, c0, e, by have hq := hc 0 _ rfl; rwa [Nat.mul_one, Nat.add_zero] at hq, l0, g0⟩
end
section
def digest_more.l0 : Nat → Int → List Int → Int → Int → Option (Int)
  | 0, _, _, _, _ => none
  | k + 1, x0, x7, x8, x9 => if x9 < x8 then (if 0 ≤ x9 then (if x9 < (x7.length : Int) then (digest_more.l0 k (IntKind.u64.wrap ((Go.bits .xor .u64 x0 (IntKind.u64.wrap (rd x7 x9))) * 1099511628211)) x7 x8 (wrap64 (x9 + 1))) else (none)) else (none)) else (some x0)
def digest_more.f (k : Nat) (a0 : Int) (l1 : List Int) : Option (Int) := digest_more.l0 k a0 l1 (l1.length : Int) 0
theorem digest_more.mono_l : ∀ k, (∀ y0 y1 y2 y3, LeO (digest_more.l0 k y0 y1 y2 y3) (digest_more.l0 (k + 1) y0 y1 y2 y3))
  | 0 => fun _ _ _ _ r h => by simp [digest_more.l0] at h
  | k + 1 => by
    have ih0 := digest_more.mono_l k
    · intro y0 y1 y2 y3
      unfold digest_more.l0
      repeat' first
      | (with_reducible exact ih0 _ _ _ _)
      | (with_reducible exact LeO.refl _)
      | (with_reducible exact LeO.none _)
      | (with_reducible refine LeO.ite ?_ ?_)
      | (with_reducible refine LeO.bind ?_ (fun _ => ?_))
      | exact ih0 _ _ _ _
      | exact LeO.none _
      | refine LeO.ite ?_ ?_
      | refine LeO.bind ?_ (fun _ => ?_)
theorem digest_more.mono : ∀ a0 a1 k, LeO (digest_more.f k a0 a1) (digest_more.f (k + 1) a0 a1) := by
  intro a0 a1 k
  have ih0 := digest_more.mono_l k
  unfold digest_more.f
  repeat' first
      | (with_reducible exact ih0 _ _ _ _)
      | (with_reducible exact LeO.refl _)
      | (with_reducible exact LeO.none _)
      | (with_reducible refine LeO.ite ?_ ?_)
      | (with_reducible refine LeO.bind ?_ (fun _ => ?_))
      | exact ih0 _ _ _ _
      | exact LeO.none _
      | refine LeO.ite ?_ ?_
      | refine LeO.bind ?_ (fun _ => ?_)
def digest_Sum.f (k : Nat) (l0 : List Int) : Option (Int) := (digest_more.f k 14695981039346656037 l0).bind fun t102 => (some t102)
theorem digest_Sum.mono : ∀ a0 k, LeO (digest_Sum.f k a0) (digest_Sum.f (k + 1) a0) := by
  intro a0 k
  unfold digest_Sum.f
  repeat' first
      | (with_reducible exact digest_more.mono _ _ _)
      | (with_reducible exact LeO.refl _)
      | (with_reducible exact LeO.none _)
      | (with_reducible refine LeO.ite ?_ ?_)
      | (with_reducible refine LeO.bind ?_ (fun _ => ?_))
      | exact digest_more.mono _ _ _
      | exact LeO.none _
      | refine LeO.ite ?_ ?_
      | refine LeO.bind ?_ (fun _ => ?_)
def digest_number.l0 : Nat → Int → Int → Int → Option (Int)
  | 0, _, _, _ => none
  | k + 1, x0, x1, x5 => if x5 ≥ 0 then (if 0 ≤ x5 then ((digest_more.f k x0 (([(shr .u64 x1 x5) % 256] : List Int))).bind fun t106 => (digest_number.l0 k t106 x1 (wrap64 (x5 - 8)))) else (none)) else (some x0)
def digest_number.f (k : Nat) (a0 : Int) (a1 : Int) : Option (Int) := digest_number.l0 k a0 a1 56
theorem digest_number.mono_l : ∀ k, (∀ y0 y1 y2, LeO (digest_number.l0 k y0 y1 y2) (digest_number.l0 (k + 1) y0 y1 y2))
  | 0 => fun _ _ _ r h => by simp [digest_number.l0] at h
  | k + 1 => by
    have ih0 := digest_number.mono_l k
    · intro y0 y1 y2
      unfold digest_number.l0
      repeat' first
      | (with_reducible exact ih0 _ _ _)
      | (with_reducible exact digest_more.mono _ _ _)
      | (with_reducible exact LeO.refl _)
      | (with_reducible exact LeO.none _)
      | (with_reducible refine LeO.ite ?_ ?_)
      | (with_reducible refine LeO.bind ?_ (fun _ => ?_))
      | exact ih0 _ _ _
      | exact digest_more.mono _ _ _
      | exact LeO.none _
      | refine LeO.ite ?_ ?_
      | refine LeO.bind ?_ (fun _ => ?_)
theorem digest_number.mono : ∀ a0 a1 k, LeO (digest_number.f k a0 a1) (digest_number.f (k + 1) a0 a1) := by
  intro a0 a1 k
  have ih0 := digest_number.mono_l k
  unfold digest_number.f
  repeat' first
      | (with_reducible exact ih0 _ _ _)
      | (with_reducible exact digest_more.mono _ _ _)
      | (with_reducible exact LeO.refl _)
      | (with_reducible exact LeO.none _)
      | (with_reducible refine LeO.ite ?_ ?_)
      | (with_reducible refine LeO.bind ?_ (fun _ => ?_))
      | exact ih0 _ _ _
      | exact digest_more.mono _ _ _
      | exact LeO.none _
      | refine LeO.ite ?_ ?_
      | refine LeO.bind ?_ (fun _ => ?_)
end
section
open Go.Shelf Go.Proofs.YtffmflmpiekcfaaDoorGlib
def Tryd.laysM176_ren : Go.Shelf.Ren := ⟨fun | 176 => 30 | 249 => 43 | 288 => 45 | 283 => 46 | 284 => 47 | 285 => 48 | 286 => 49 | 129 => 51 | 317 => 50 | 318 => 52 | 319 => 53 | 320 => 54 | 337 => 55 | 338 => 56 | n => n, fun | 37 => 22 | 2 => 2 | 3 => 3 | 53 => 23 | 4 => 4 | 9 => 9 | 171 => 66 | 0 => 0 | 173 => 69 | 212 => 72 | 51 => 73 | 5 => 5 | 20 => 20 | 213 => 74 | 46 => 62 | 232 => 78 | 233 => 79 | n => n, fun | 17 => 0 | 18 => 1 | 19 => 2 | n => n⟩
theorem Tryd.laysM176 : Go.Proofs.LaysM.n176 Tryd.prog Tryd.laysM176_ren := {
  mixed := by kernel_rfl
  f129 := Tryd.func51.trans (congrArg some (by kernel_rfl))
  f176 := Tryd.func30.trans (congrArg some (by kernel_rfl))
  f249 := Tryd.func43.trans (congrArg some (by kernel_rfl))
  f283 := Tryd.func46.trans (congrArg some (by kernel_rfl))
  f284 := Tryd.func47.trans (congrArg some (by kernel_rfl))
  f285 := Tryd.func48.trans (congrArg some (by kernel_rfl))
  f286 := Tryd.func49.trans (congrArg some (by kernel_rfl))
  f288 := Tryd.func45.trans (congrArg some (by kernel_rfl))
  f317 := Tryd.func50.trans (congrArg some (by kernel_rfl))
  f318 := Tryd.func52.trans (congrArg some (by kernel_rfl))
  f319 := Tryd.func53.trans (congrArg some (by kernel_rfl))
  f320 := Tryd.func54.trans (congrArg some (by kernel_rfl))
  f337 := Tryd.func55.trans (congrArg some (by kernel_rfl))
  f338 := Tryd.func56.trans (congrArg some (by kernel_rfl))
  t0 := Tryd.underlying0
  a0 := Tryd.isAgg0
  z0 := Tryd.sizeOf0
  v0 := Tryd.zeroValue0
  t2 := Tryd.underlying2
  a2 := Tryd.isAgg2
  z2 := Tryd.sizeOf2
  v2 := Tryd.zeroValue2
  t3 := Tryd.underlying3
  a3 := Tryd.isAgg3
  z3 := Tryd.sizeOf3
  v3 := Tryd.zeroValue3
  t4 := Tryd.underlying4
  a4 := Tryd.isAgg4
  z4 := Tryd.sizeOf4
  v4 := Tryd.zeroValue4
  t5 := Tryd.underlying5
  a5 := Tryd.isAgg5
  z5 := Tryd.sizeOf5
  v5 := Tryd.zeroValue5
  t9 := Tryd.underlying9
  a9 := Tryd.isAgg9
  z9 := Tryd.sizeOf9
  v9 := Tryd.zeroValue9
  t20 := Tryd.underlying20
  a20 := Tryd.isAgg20
  z20 := Tryd.sizeOf20
  v20 := Tryd.zeroValue20
  t37 := Tryd.underlying22
  a37 := Tryd.isAgg22
  z37 := Tryd.sizeOf22
  v37 := Tryd.zeroValue22
  t46 := Tryd.underlying62
  a46 := Tryd.isAgg62
  z46 := Tryd.sizeOf62
  v46 := Tryd.zeroValue62
  t51 := Tryd.underlying73
  a51 := Tryd.isAgg73
  z51 := Tryd.sizeOf73
  v51 := Tryd.zeroValue73
  t53 := Tryd.underlying23
  a53 := Tryd.isAgg23
  z53 := Tryd.sizeOf23
  v53 := Tryd.zeroValue23
  t171 := Tryd.underlying66
  a171 := Tryd.isAgg66
  z171 := Tryd.sizeOf66
  v171 := Tryd.zeroValue66
  t173 := Tryd.underlying69
  a173 := Tryd.isAgg69
  z173 := Tryd.sizeOf69
  v173 := Tryd.zeroValue69
  t212 := Tryd.underlying72
  a212 := Tryd.isAgg72
  z212 := Tryd.sizeOf72
  v212 := Tryd.zeroValue72
  t213 := Tryd.underlying74
  a213 := Tryd.isAgg74
  z213 := Tryd.sizeOf74
  t232 := Tryd.underlying78
  a232 := Tryd.isAgg78
  z232 := Tryd.sizeOf78
  v232 := Tryd.zeroValue78
  t233 := Tryd.underlying79
  a233 := Tryd.isAgg79
  z233 := Tryd.sizeOf79
  v233 := Tryd.zeroValue79
  g17 := by kernel_rfl
  g18 := by kernel_rfl
  g19 := by kernel_rfl
  i0 := by kernel_rfl
  i2 := by kernel_rfl
  i3 := by kernel_rfl
  i4 := by kernel_rfl
  i5 := by kernel_rfl
  i9 := by kernel_rfl
  i20 := by kernel_rfl
  i37 := by kernel_rfl
  i46 := by kernel_rfl
  i51 := by kernel_rfl
  i53 := by kernel_rfl
  i171 := by kernel_rfl
  i173 := by kernel_rfl
  i212 := by kernel_rfl
  i232 := by kernel_rfl
  i233 := by kernel_rfl
  m17 := by kernel_rfl
  m18 := by kernel_rfl
  m19 := by kernel_rfl }
def Tab (w : World) : Prop := Lib.TabIs Tryd.prog w "internal/strconv.uint64pow10" .u64 Lib.pow10Tab
theorem Tab.below {w w1 : World} (h : Tab w) (hb : Below w.heap.size w w1) : Tab w1 := ((Lib.tabBelow_of_tabIs h).on hb).here
def stepB (d x : Int) : Int := IntKind.u64.wrap ((Go.bits .xor .u64 d (IntKind.u64.wrap x)) * 1099511628211)
def moreP (d : Int) (l : List Int) : Int := l.foldl stepB d
def eight (n : Int) : List Int := [(shr .u64 n 56) % 256, (shr .u64 n 48) % 256, (shr .u64 n 40) % 256, (shr .u64 n 32) % 256, (shr .u64 n 24) % 256, (shr .u64 n 16) % 256, (shr .u64 n 8) % 256, (shr .u64 n 0) % 256]
def basisP : Int := 14695981039346656037
def textP (n : Int) : List Int := (Lib.itoa n).map fun b => (b.toNat : Int)
def nextP (d : Int) (l : List Int) : Int := l.foldl (fun o n => moreP o (textP n ++ [32])) (moreP basisP (eight d))
theorem rd_at {l : List Int} {n : Nat} (h : n < l.length) : rd l (n : Int) = l[n] := by
  unfold rd
  exact getD_at h
theorem more_loop (l : List Int) (hl : l.length < 9223372036854775807) : ∀ (m n : Nat) (d : Int), n + m = l.length → Ev (fun k => digest_more.l0 k d l (l.length : Int) (n : Int)) (moreP d (l.drop n)) := by
  intro m
  induction m with
  | zero =>
    intro n d hn
    refine Ev.zero fun k => ?_
    simp only [digest_more.l0]
    rw [if_neg (by omega), drop_all (by omega)]
    rfl
  | succ m ih =>
    intro n d hn
    have hlt : n < l.length := by omega
    rw [drop_get hlt]
    refine Ev.succ (ih (n + 1) (stepB d l[n]) (by omega)) fun k hk => ?_
    simp only [digest_more.l0]
    rw [if_pos (by omega), if_pos (by omega), if_pos (by omega), rd_at hlt, wrap_next (by omega)]
    exact hk
theorem more_ev {l : List Int} (hl : l.length < 9223372036854775807) (d : Int) : Ev (fun k => digest_more.f k d l) (moreP d l) := by
  have h := more_loop l hl l.length 0 d (by omega)
  rwa [List.drop_zero] at h
theorem number_ev (d n : Int) : Ev (fun k => digest_number.f k d n) (moreP d (eight n)) := by
  obtain ⟨K, hK⟩ : EvP fun k => ∀ d x, digest_more.f k d [x] = some (moreP d [x]) := ⟨2, fun k hk d x => by
    obtain ⟨k, rfl⟩ : ∃ m, k = m + 2 := ⟨k - 2, by omega⟩
    have e : wrap64 1 = 1 := wrap64_id (by omega) (by omega)
    have e2 : rd [x] 0 = x := rfl
    simp [digest_more.f, digest_more.l0, e, e2, moreP, stepB]⟩
  refine ⟨K + 10, fun k hk => ?_⟩
  obtain ⟨k, rfl⟩ : ∃ m, k = m + 9 := ⟨k - 9, by omega⟩
  have m0 := hK k (by omega)
  have m1 := hK (k + 1) (by omega)
  have m2 := hK (k + 2) (by omega)
  have m3 := hK (k + 3) (by omega)
  have m4 := hK (k + 4) (by omega)
  have m5 := hK (k + 5) (by omega)
  have m6 := hK (k + 6) (by omega)
  have m7 := hK (k + 7) (by omega)
  have m8 := hK (k + 8) (by omega)
  have w1 : wrap64 (56 - 8) = 48 := wrap64_id (x := 48) (by omega) (by omega)
  have w2 : wrap64 (48 - 8) = 40 := wrap64_id (x := 40) (by omega) (by omega)
  have w3 : wrap64 (40 - 8) = 32 := wrap64_id (x := 32) (by omega) (by omega)
  have w4 : wrap64 (32 - 8) = 24 := wrap64_id (x := 24) (by omega) (by omega)
  have w5 : wrap64 (24 - 8) = 16 := wrap64_id (x := 16) (by omega) (by omega)
  have w6 : wrap64 (16 - 8) = 8 := wrap64_id (x := 8) (by omega) (by omega)
  have w7 : wrap64 (8 - 8) = 0 := wrap64_id (x := 0) (by omega) (by omega)
  have w8 : wrap64 (0 - 8) = -8 := by rw [wrap64_id (by omega) (by omega)]; rfl
  simp only [digest_number.f, digest_number.l0, m0, m1, m2, m3, m4, m5, m6, m7, m8, Option.bind_some, w1, w2, w3, w4, w5, w6, w7, w8]
  simp [moreP, eight]
theorem R_of_own {w : World} {B n : Nat} {v : Value} {xs : List Int} (h : w.ownsRow B 5 1 v n (xs.map (Value.int .u8))) (hn : n = xs.length) : Kd.R (Kd.int .u8) 5 w B (fun _ => True) v xs := by
  subst hn
  refine ⟨fun _ _ => trivial, xs.map (Value.int .u8), h, by simp [Kd.int, Kd.scalar], fun j p hj => ?_⟩
  have hj' : j < xs.length := (List.getElem?_eq_some_iff.1 hj).1
  show _ = _
  simp only [Kd.int, Kd.scalar, Nat.mul_one]
  rw [List.drop_eq_getElem_cons (by simpa using hj')]
  have : xs[j] = p := (List.getElem?_eq_some_iff.1 hj).2
  simp [this]
theorem text_short (i : Int) (h0 : -9223372036854775808 ≤ i) (h1 : i ≤ 9223372036854775807) : (textP i).length ≤ 21 := by
  have := Lib.itoa_length_le i h0 h1
  simpa [textP] using this
end
section
def strconv_AppendInt_30.f (l0 : List Int) (a1 a2 : Int) : Option (List Int) := if l0 = [] ∧ a2 = 10 ∧ -9223372036854775808 ≤ a1 ∧ a1 ≤ 9223372036854775807 then some (textP a1) else none
end
section
def digest_Next.l0 : Nat → Int → List Int → Int → Int → Option (Int)
  | 0, _, _, _, _ => none
  | k + 1, x5, x10, x11, x12 => if x12 < x11 then (if 0 ≤ x12 then (if x12 < (x10.length : Int) then ((strconv_AppendInt_30.f ([] : List Int) (rd x10 x12) 10).bind fun t128 => (if t128.length < 140737488355328 then ((digest_more.f k x5 (t128 ++ [32])).bind fun t134 => (digest_Next.l0 k t134 x10 x11 (wrap64 (x12 + 1)))) else (none))) else (none)) else (none)) else (some x5)
def digest_Next.f (k : Nat) (a0 : Int) (l1 : List Int) : Option (Int) := (digest_number.f k 14695981039346656037 a0).bind fun t126 => (digest_Next.l0 k t126 l1 (l1.length : Int) 0)
theorem digest_Next.mono_l : ∀ k, (∀ y0 y1 y2 y3, LeO (digest_Next.l0 k y0 y1 y2 y3) (digest_Next.l0 (k + 1) y0 y1 y2 y3))
  | 0 => fun _ _ _ _ r h => by simp [digest_Next.l0] at h
  | k + 1 => by
    have ih0 := digest_Next.mono_l k
    · intro y0 y1 y2 y3
      unfold digest_Next.l0
      repeat' first
      | (with_reducible exact ih0 _ _ _ _)
      | (with_reducible exact digest_more.mono _ _ _)
      | (with_reducible exact digest_number.mono _ _ _)
      | (with_reducible exact LeO.refl _)
      | (with_reducible exact LeO.none _)
      | (with_reducible refine LeO.ite ?_ ?_)
      | (with_reducible refine LeO.bind ?_ (fun _ => ?_))
      | exact ih0 _ _ _ _
      | exact digest_more.mono _ _ _
      | exact digest_number.mono _ _ _
      | exact LeO.none _
      | refine LeO.ite ?_ ?_
      | refine LeO.bind ?_ (fun _ => ?_)
theorem digest_Next.mono : ∀ a0 a1 k, LeO (digest_Next.f k a0 a1) (digest_Next.f (k + 1) a0 a1) := by
  intro a0 a1 k
  have ih0 := digest_Next.mono_l k
  unfold digest_Next.f
  repeat' first
      | (with_reducible exact ih0 _ _ _ _)
      | (with_reducible exact digest_more.mono _ _ _)
      | (with_reducible exact digest_number.mono _ _ _)
      | (with_reducible exact LeO.refl _)
      | (with_reducible exact LeO.none _)
      | (with_reducible refine LeO.ite ?_ ?_)
      | (with_reducible refine LeO.bind ?_ (fun _ => ?_))
      | exact ih0 _ _ _ _
      | exact digest_more.mono _ _ _
      | exact digest_number.mono _ _ _
      | exact LeO.none _
      | refine LeO.ite ?_ ?_
      | refine LeO.bind ?_ (fun _ => ?_)
def digest_Pair.f (k : Nat) (a0 : Int) (a1 : Int) : Option (Int) := (digest_more.f k 14695981039346656037 (([1] : List Int))).bind fun t138 => ((digest_number.f k t138 a0).bind fun t139 => ((digest_number.f k t139 a1).bind fun t140 => (some t140)))
theorem digest_Pair.mono : ∀ a0 a1 k, LeO (digest_Pair.f k a0 a1) (digest_Pair.f (k + 1) a0 a1) := by
  intro a0 a1 k
  unfold digest_Pair.f
  repeat' first
      | (with_reducible exact digest_more.mono _ _ _)
      | (with_reducible exact digest_number.mono _ _ _)
      | (with_reducible exact LeO.refl _)
      | (with_reducible exact LeO.none _)
      | (with_reducible refine LeO.ite ?_ ?_)
      | (with_reducible refine LeO.bind ?_ (fun _ => ?_))
      | exact digest_more.mono _ _ _
      | exact digest_number.mono _ _ _
      | exact LeO.none _
      | refine LeO.ite ?_ ?_
      | refine LeO.bind ?_ (fun _ => ?_)
def digest_check.f (l0 : List Int) : Option (Int) := if (l0.length : Int) > 10000 then (some 2) else (if (l0.length : Int) = 0 then (some 1) else (some 0))
def digest_half.l0 : Nat → Int → Int → Option (Int)
  | 0, _, _ => none
  | k + 1, x0, x3 => if (wrap64 (2 * x3)) < x0 then (digest_half.l0 k x0 (wrap64 (x3 * 2))) else (some x3)
def digest_half.f (k : Nat) (a0 : Int) : Option (Int) := digest_half.l0 k a0 1
theorem digest_half.mono_l : ∀ k, (∀ y0 y1, LeO (digest_half.l0 k y0 y1) (digest_half.l0 (k + 1) y0 y1))
  | 0 => fun _ _ r h => by simp [digest_half.l0] at h
  | k + 1 => by
    have ih0 := digest_half.mono_l k
    · intro y0 y1
      unfold digest_half.l0
      repeat' first
      | (with_reducible exact ih0 _ _)
      | (with_reducible exact LeO.refl _)
      | (with_reducible exact LeO.none _)
      | (with_reducible refine LeO.ite ?_ ?_)
      | (with_reducible refine LeO.bind ?_ (fun _ => ?_))
      | exact ih0 _ _
      | exact LeO.none _
      | refine LeO.ite ?_ ?_
      | refine LeO.bind ?_ (fun _ => ?_)
theorem digest_half.mono : ∀ a0 k, LeO (digest_half.f k a0) (digest_half.f (k + 1) a0) := by
  intro a0 k
  have ih0 := digest_half.mono_l k
  unfold digest_half.f
  repeat' first
      | (with_reducible exact ih0 _ _)
      | (with_reducible exact LeO.refl _)
      | (with_reducible exact LeO.none _)
      | (with_reducible refine LeO.ite ?_ ?_)
      | (with_reducible refine LeO.bind ?_ (fun _ => ?_))
      | exact ih0 _ _
      | exact LeO.none _
      | refine LeO.ite ?_ ?_
      | refine LeO.bind ?_ (fun _ => ?_)
end
section
open Go.Proofs.YtffmflmpiekcfaaDoorGlib
theorem cut_hm (A : Option Addr) (len c t : Nat) (h : t ≤ c) (W : World) : (Instr.slice 25 (.slice A len c) none (some (.int .i64 (t : Int))) (some (.int .i64 (t : Int)))).run Tryd.prog W = .ok (.slice A t t) W := by
  obtain ⟨i, hi, _, hsz, _⟩ := info_parts info23
  have hel : Tryd.prog.elem 25 = 23 := by simp [Program.elem, Tryd.underlying25]
  have hu : Tryd.prog.underlying 25 = some (.slice (Tryd.prog.elem 25)) := by rw [hel]; exact Tryd.underlying25
  have ha : (A.map fun x => x.add 0) = A := by cases A <;> simp [Addr.add]
  rw [run_slice_hm W 25 A len c hu .i64 .i64 (t : Int) (t : Int) (by omega) (by omega) (by omega), hel]
  simp [sizeOf, typeInfo, hi, hsz, sliced, Result.andThen, ha]
def halfF : Nat → Int → Int → Int
  | 0, _, x => x
  | f + 1, n, x => if 2 * x < n then halfF f n (2 * x) else x
def halfP (n : Nat) : Nat := (halfF n (n : Int) 1).toNat
theorem halfF_spec (n : Int) : ∀ (f : Nat) (x : Int), 1 ≤ x → x < n → n ≤ x + f → 1 ≤ halfF f n x ∧ halfF f n x < n ∧ n ≤ 2 * halfF f n x
  | 0, x, h1, h2, h3 => by omega
  | f + 1, x, h1, h2, h3 => by
    unfold halfF
    split
    · exact halfF_spec n f (2 * x) (by omega) (by omega) (by omega)
    · omega
theorem halfP_spec {n : Nat} (h : 2 ≤ n) : 1 ≤ halfP n ∧ halfP n < n ∧ n ≤ 2 * halfP n := by
  have := halfF_spec (n : Int) n 1 (by omega) (by omega) (by omega)
  unfold halfP
  omega
theorem half_loop (n : Int) (hn : n ≤ 1000000000) : ∀ (f : Nat) (x : Int), 1 ≤ x → x ≤ 1000000000 → n ≤ x + f → Ev (fun k => digest_half.l0 k n x) (halfF f n x) := by
  intro f
  induction f with
  | zero =>
    intro x h1 h2 h3
    refine Ev.zero fun k => ?_
    simp only [digest_half.l0]
    rw [wrap64_id (by omega) (by omega), if_neg (by omega)]
    rfl
  | succ f ih =>
    intro x h1 h2 h3
    by_cases h : 2 * x < n
    · refine Ev.succ (ih (2 * x) (by omega) (by omega) (by omega)) fun k hk => ?_
      simp only [digest_half.l0, halfF]
      rw [wrap64_id (by omega) (by omega), if_pos h, if_pos h, Int.mul_comm x 2, wrap64_id (by omega) (by omega)]
      exact hk
    · refine Ev.zero fun k => ?_
      simp only [digest_half.l0, halfF]
      rw [wrap64_id (by omega) (by omega), if_neg h, if_neg h]
theorem half_ev {n : Nat} (h1 : 1 ≤ n) (h2 : n ≤ 1000000000) : Ev (fun k => digest_half.f k (n : Int)) (halfP n : Int) := by
  have h := half_loop (n : Int) (by omega) n 1 (by omega) (by omega) (by omega)
  have e : ((halfP n : Nat) : Int) = halfF n (n : Int) 1 := by
    unfold halfP
    have : 1 ≤ halfF n (n : Int) 1 := by
      by_cases hn : n = 1
      · subst hn; decide
      · exact (halfF_spec (n : Int) n 1 (by omega) (by omega) (by omega)).1
    omega
  rw [e]
  exact h
end
section
open Go.Proofs.YtffmflmpiekcfaaDoorGlib
def nextOk (l : List Int) : Prop := ∀ x ∈ l, -9223372036854775808 ≤ x ∧ x ≤ 9223372036854775807
theorem next_loop (l : List Int) (hl : l.length < 9223372036854775807) (hok : nextOk l) : ∀ (m n : Nat) (d : Int), n + m = l.length → Ev (fun k => digest_Next.l0 k d l (l.length : Int) (n : Int)) ((l.drop n).foldl (fun o n => moreP o (textP n ++ [32])) d) := by
  intro m
  induction m with
  | zero =>
    intro n d hn
    refine Ev.zero fun k => ?_
    simp only [digest_Next.l0]
    rw [if_neg (by omega), drop_all (by omega)]
    rfl
  | succ m ih =>
    intro n d hn
    have hlt : n < l.length := by omega
    have hr := hok _ (List.getElem_mem hlt)
    have hs := text_short l[n] hr.1 hr.2
    rw [drop_get hlt]
    refine Ev.succ2 (more_ev (l := textP l[n] ++ [32]) (by simp; omega) d) (ih (n + 1) (moreP d (textP l[n] ++ [32])) (by omega)) fun k hk hk' => ?_
    simp only [digest_Next.l0]
    rw [if_pos (by omega), if_pos (by omega), if_pos (by omega), rd_at hlt, wrap_next (by omega)]
    have e : strconv_AppendInt_30.f [] l[n] 10 = some (textP l[n]) := by
      unfold strconv_AppendInt_30.f
      rw [if_pos ⟨rfl, rfl, hr.1, hr.2⟩]
    rw [e]
    simp only [Option.bind_some]
    rw [if_pos (by omega), hk]
    exact hk'
theorem next_ev {l : List Int} (hl : l.length < 9223372036854775807) (hok : nextOk l) (d : Int) : Ev (fun k => digest_Next.f k d l) (nextP d l) := by
  have h := next_loop l hl hok l.length 0 (moreP basisP (eight d)) (by omega)
  rw [List.drop_zero] at h
  refine Ev.same2 (number_ev basisP d) h fun k h1 h2 => ?_
  unfold digest_Next.f
  have : (14695981039346656037 : Int) = basisP := rfl
  rw [this, h1]
  exact h2
def pairP (a b : Int) : Int := moreP (moreP (moreP basisP [1]) (eight a)) (eight b)
theorem pair_ev (a b : Int) : Ev (fun k => digest_Pair.f k a b) (pairP a b) := by
  obtain ⟨K, hK⟩ := (Ev.p (more_ev (l := [1]) (by decide) basisP)).and ((Ev.p (number_ev (moreP basisP [1]) a)).and (Ev.p (number_ev (moreP (moreP basisP [1]) (eight a)) b)))
  refine ⟨K, fun k hk => ?_⟩
  obtain ⟨h1, h2, h3⟩ := hK k hk
  show digest_Pair.f k a b = some (pairP a b)
  unfold digest_Pair.f
  have : (14695981039346656037 : Int) = basisP := rfl
  rw [this, h1]
  simp only [Option.bind_some]
  rw [h2]
  simp only [Option.bind_some]
  rw [h3]
  rfl
def leafP (d : Int) : Int := nextP d [0]
theorem zero_ok : nextOk [0] := by intro x hx; obtain rfl := List.mem_singleton.1 hx; omega
def rootF : Nat → List Int → Int
  | 0, _ => 0
  | f + 1, l => if l.length = 1 then leafP (rd l 0) else pairP (rootF f (l.take (halfP l.length))) (rootF f (l.drop (halfP l.length)))
def rootP (l : List Int) : Int := rootF l.length l
theorem C_lit {w : World} {g e : Nat} {k : IntKind} {x : Int} (h : w.heap[g]? = some (.cells #[.int k x] e (0, 0))) : Kd.C (Kd.int k) w (some ⟨g, 0, none⟩) 1 [x] := by
  refine ⟨rfl, by omega, fun _ => ⟨_, rfl, fun j p hj => ?_⟩⟩
  rcases j with _ | j
  · simp at hj; subst hj
    refine ⟨[.int k x], by rfl, rfl, fun i u hi => ?_⟩
    rw [Nat.zero_mul, Nat.zero_add, add_plain, blk_cell h i]
    simpa using hi
  · simp at hj
def digest_root.f (l0 : List Int) : Option Int := if 1 ≤ l0.length ∧ l0.length ≤ 1000000000 then some (rootP l0) else none
end
section
def digest_Root.f (l0 : List Int) : Option (Int × Int) := (digest_check.f l0).bind fun t141 => (if t141 = 0 then ((digest_root.f l0).bind fun t142 => (some (t142, 0))) else (some (0, t141)))
end
section
open Go.Shelf
def pathF : Nat → List Int → Int → List Int
  | 0, _, _ => []
  | f + 1, l, i => if l.length = 1 then [] else if i < halfP l.length then pathF f (l.take (halfP l.length)) i ++ [rootP (l.drop (halfP l.length))] else pathF f (l.drop (halfP l.length)) (i - halfP l.length) ++ [rootP (l.take (halfP l.length))]
theorem pathF_len : ∀ (f : Nat) (l : List Int) (i : Int), (pathF f l i).length ≤ f
  | 0, _, _ => by simp [pathF]
  | f + 1, l, i => by
    unfold pathF
    split
    · simp
    · split
      · have := pathF_len f (l.take (halfP l.length)) i; simp; omega
      · have := pathF_len f (l.drop (halfP l.length)) (i - halfP l.length); simp; omega
def selfFn (g : Nat) : Obj := .cells #[.func (Fn.func 35) #[] #[.pointer (some ⟨g, 0, none⟩)]] 54 (0, 0)
def digest_Path.f (l0 : List Int) (a1 : Int) : Option (List Int × Int) :=
  if l0.length > 10000 then some ([], 2) else if l0.length = 0 then some ([], 1) else if 0 ≤ a1 ∧ a1 < l0.length then some (pathF l0.length l0 a1, 0) else some ([], 1)
end
section
def formeref04_Same.l0 : Nat → List Int → List Int → Int → Option (Bool)
  | 0, _, _, _ => none
  | k + 1, x0, x1, x5 => if x5 < (x0.length : Int) then (if 0 ≤ x5 then (if x5 < (x1.length : Int) then (if (rd x0 x5) = (rd x1 x5) then (formeref04_Same.l0 k x0 x1 (wrap64 (x5 + 1))) else (some false)) else (none)) else (none)) else (some true)
def formeref04_Same.f (k : Nat) (l0 : List Int) (l1 : List Int) : Option (Bool) := if (l0.length : Int) = (l1.length : Int) then (formeref04_Same.l0 k l0 l1 0) else (some false)
theorem formeref04_Same.mono_l : ∀ k, (∀ y0 y1 y2, LeO (formeref04_Same.l0 k y0 y1 y2) (formeref04_Same.l0 (k + 1) y0 y1 y2))
  | 0 => fun _ _ _ r h => by simp [formeref04_Same.l0] at h
  | k + 1 => by
    have ih0 := formeref04_Same.mono_l k
    · intro y0 y1 y2
      unfold formeref04_Same.l0
      repeat' first
      | (with_reducible exact ih0 _ _ _)
      | (with_reducible exact LeO.refl _)
      | (with_reducible exact LeO.none _)
      | (with_reducible refine LeO.ite ?_ ?_)
      | (with_reducible refine LeO.bind ?_ (fun _ => ?_))
      | exact ih0 _ _ _
      | exact LeO.none _
      | refine LeO.ite ?_ ?_
      | refine LeO.bind ?_ (fun _ => ?_)
theorem formeref04_Same.mono : ∀ a0 a1 k, LeO (formeref04_Same.f k a0 a1) (formeref04_Same.f (k + 1) a0 a1) := by
  intro a0 a1 k
  have ih0 := formeref04_Same.mono_l k
  unfold formeref04_Same.f
  repeat' first
      | (with_reducible exact ih0 _ _ _)
      | (with_reducible exact LeO.refl _)
      | (with_reducible exact LeO.none _)
      | (with_reducible refine LeO.ite ?_ ?_)
      | (with_reducible refine LeO.bind ?_ (fun _ => ?_))
      | exact ih0 _ _ _
      | exact LeO.none _
      | refine LeO.ite ?_ ?_
      | refine LeO.bind ?_ (fun _ => ?_)
end
section
open Go.Shelf
def followF : Nat → Int → Int → Nat → List Int → Int × Bool
  | 0, _, _, _, _ => (0, false)
  | f + 1, d, i, n, p =>
    if n = 1 then (leafP d, decide (p.length = 0))
    else if p.length = 0 then (0, false)
    else if i < halfP n then (pairP (followF f d i (halfP n) (p.take (p.length - 1))).1 (rd p ((p.length : Int) - 1)), (followF f d i (halfP n) (p.take (p.length - 1))).2)
    else (pairP (rd p ((p.length : Int) - 1)) (followF f d (i - halfP n) (n - halfP n) (p.take (p.length - 1))).1, (followF f d (i - halfP n) (n - halfP n) (p.take (p.length - 1))).2)
def followFn (gd gf : Nat) : Obj := .cells #[.func (Fn.func 38) #[] #[.pointer (some ⟨gd, 0, none⟩), .pointer (some ⟨gf, 0, none⟩)]] 57 (0, 0)
end
section
open Go.Shelf
def digest_Leads.f (a0 a1 a2 a3 : Int) (l4 : List Int) : Option Bool :=
  if l4.length ≤ 1000000000 then (if 1 ≤ a3 ∧ a3 ≤ 10000 ∧ 0 ≤ a2 ∧ a2 < a3 then some ((followF a3.toNat a1 a2 a3.toNat l4).2 && decide ((followF a3.toNat a1 a2 a3.toNat l4).1 = a0)) else some false) else none
end
section
theorem C_lits {w : World} {g e : Nat} {fr : Nat × Nat} {k : IntKind} {cs : Array Value} (xs : List Int) (rest : List Value) (h : w.heap[g]? = some (.cells cs e fr)) (hc : cs.toList = xs.map (Value.int k) ++ rest) (hl : xs.length ≤ 9223372036854775807) : Kd.C (Kd.int k) w (some ⟨g, 0, none⟩) xs.length xs := by
  refine ⟨rfl, hl, fun _ => ⟨_, rfl, fun j p hj => ?_⟩⟩
  refine ⟨[.int k p], rfl, rfl, fun i u hi => ?_⟩
  obtain ⟨hl, hp⟩ := List.getElem?_eq_some_iff.1 hj
  rcases i with _ | i
  · simp only [List.getElem?_cons_zero, Option.some.injEq] at hi
    subst hi
    show w.cell? ((⟨g, 0, none⟩ : Addr).add (j * 1 + 0)) = _
    rw [Nat.mul_one, Nat.add_zero, add_plain, show w.cell? ⟨g, j, none⟩ = cs[j]? from by simp [World.cell?, h], ← Array.getElem?_toList, hc, List.getElem?_append_left (by simpa using hl)]
    simp [hj]
  · simp at hi
theorem Drawn0.below' {w w' : World} (h : Drawn0 w w') : Below w.heap.size w w' := by
  obtain ⟨n, rfl⟩ := h
  exact pw_below_drewN (Below.refl _ _) n
def formelaw04_head.f : Option Bool := some true
end
section
def formeref04_Sum.l0 : Nat → List Int → Int → Int → Option (Int)
  | 0, _, _, _ => none
  | k + 1, x0, x3, x4 => if x4 < (x0.length : Int) then (if 0 ≤ x4 then (formeref04_Sum.l0 k x0 (IntKind.u64.wrap ((Go.bits .xor .u64 x3 (IntKind.u64.wrap (rd x0 x4))) * 1099511628211)) (wrap64 (x4 + 1))) else (none)) else (some x3)
def formeref04_Sum.f (k : Nat) (l0 : List Int) : Option (Int) := formeref04_Sum.l0 k l0 14695981039346656037 0
theorem formeref04_Sum.mono_l : ∀ k, (∀ y0 y1 y2, LeO (formeref04_Sum.l0 k y0 y1 y2) (formeref04_Sum.l0 (k + 1) y0 y1 y2))
  | 0 => fun _ _ _ r h => by simp [formeref04_Sum.l0] at h
  | k + 1 => by
    have ih0 := formeref04_Sum.mono_l k
    · intro y0 y1 y2
      unfold formeref04_Sum.l0
      repeat' first
      | (with_reducible exact ih0 _ _ _)
      | (with_reducible exact LeO.refl _)
      | (with_reducible exact LeO.none _)
      | (with_reducible refine LeO.ite ?_ ?_)
      | (with_reducible refine LeO.bind ?_ (fun _ => ?_))
      | exact ih0 _ _ _
      | exact LeO.none _
      | refine LeO.ite ?_ ?_
      | refine LeO.bind ?_ (fun _ => ?_)
theorem formeref04_Sum.mono : ∀ a0 k, LeO (formeref04_Sum.f k a0) (formeref04_Sum.f (k + 1) a0) := by
  intro a0 k
  have ih0 := formeref04_Sum.mono_l k
  unfold formeref04_Sum.f
  repeat' first
      | (with_reducible exact ih0 _ _ _)
      | (with_reducible exact LeO.refl _)
      | (with_reducible exact LeO.none _)
      | (with_reducible refine LeO.ite ?_ ?_)
      | (with_reducible refine LeO.bind ?_ (fun _ => ?_))
      | exact ih0 _ _ _
      | exact LeO.none _
      | refine LeO.ite ?_ ?_
      | refine LeO.bind ?_ (fun _ => ?_)
def formeref04_Bytes.l0 : Nat → Int → List Int → Int → Option (List Int)
  | 0, _, _, _ => none
  | k + 1, x0, x3, x4 => if x4 < 8 then (if 0 ≤ (IntKind.u64.wrap (56 - (IntKind.u64.wrap (8 * (IntKind.u64.wrap (x4)))))) then (if x3.length < 140737488355328 then (formeref04_Bytes.l0 k x0 (x3 ++ [(shr .u64 x0 (IntKind.u64.wrap (56 - (IntKind.u64.wrap (8 * (IntKind.u64.wrap (x4))))))) % 256]) (wrap64 (x4 + 1))) else (none)) else (none)) else (some x3)
def formeref04_Bytes.f (k : Nat) (a0 : Int) : Option (List Int) := formeref04_Bytes.l0 k a0 ([] : List Int) 0
theorem formeref04_Bytes.mono_l : ∀ k, (∀ y0 y1 y2, LeO (formeref04_Bytes.l0 k y0 y1 y2) (formeref04_Bytes.l0 (k + 1) y0 y1 y2))
  | 0 => fun _ _ _ r h => by simp [formeref04_Bytes.l0] at h
  | k + 1 => by
    have ih0 := formeref04_Bytes.mono_l k
    · intro y0 y1 y2
      unfold formeref04_Bytes.l0
      repeat' first
      | (with_reducible exact ih0 _ _ _)
      | (with_reducible exact LeO.refl _)
      | (with_reducible exact LeO.none _)
      | (with_reducible refine LeO.ite ?_ ?_)
      | (with_reducible refine LeO.bind ?_ (fun _ => ?_))
      | exact ih0 _ _ _
      | exact LeO.none _
      | refine LeO.ite ?_ ?_
      | refine LeO.bind ?_ (fun _ => ?_)
theorem formeref04_Bytes.mono : ∀ a0 k, LeO (formeref04_Bytes.f k a0) (formeref04_Bytes.f (k + 1) a0) := by
  intro a0 k
  have ih0 := formeref04_Bytes.mono_l k
  unfold formeref04_Bytes.f
  repeat' first
      | (with_reducible exact ih0 _ _ _)
      | (with_reducible exact LeO.refl _)
      | (with_reducible exact LeO.none _)
      | (with_reducible refine LeO.ite ?_ ?_)
      | (with_reducible refine LeO.bind ?_ (fun _ => ?_))
      | exact ih0 _ _ _
      | exact LeO.none _
      | refine LeO.ite ?_ ?_
      | refine LeO.bind ?_ (fun _ => ?_)
def formeref04_Decimal.l0 : Nat → Int → ByteArray → Int → Option (ByteArray)
  | 0, _, _, _ => none
  | k + 1, x0, x3, x4 => if x4 = 0 then (if x0 < 0 then (if 1 + x3.size ≤ 9223372036854775807 then (some ((⟨#[45]⟩ : ByteArray) ++ x3)) else (none)) else (some x3)) else (if (Int.tmod x4 10) < 0 then ((some (([(wrap64 (48 + (wrap64 (-(Int.tmod x4 10))))) % 256] : List Int) : List Int)).bind fun y149 => (if (strOfNums y149).size + x3.size ≤ 9223372036854775807 then (formeref04_Decimal.l0 k x0 ((strOfNums y149) ++ x3) (wrap64 (Int.tdiv x4 10))) else (none))) else ((some (([(wrap64 (48 + (Int.tmod x4 10))) % 256] : List Int) : List Int)).bind fun y152 => (if (strOfNums y152).size + x3.size ≤ 9223372036854775807 then (formeref04_Decimal.l0 k x0 ((strOfNums y152) ++ x3) (wrap64 (Int.tdiv x4 10))) else (none))))
def formeref04_Decimal.f (k : Nat) (a0 : Int) : Option (ByteArray) := if a0 = 0 then (some (⟨#[48]⟩ : ByteArray)) else (formeref04_Decimal.l0 k a0 (⟨#[]⟩ : ByteArray) a0)
theorem formeref04_Decimal.mono_l : ∀ k, (∀ y0 y1 y2, LeO (formeref04_Decimal.l0 k y0 y1 y2) (formeref04_Decimal.l0 (k + 1) y0 y1 y2))
  | 0 => fun _ _ _ r h => by simp [formeref04_Decimal.l0] at h
  | k + 1 => by
    have ih0 := formeref04_Decimal.mono_l k
    · intro y0 y1 y2
      unfold formeref04_Decimal.l0
      repeat' first
      | (with_reducible exact ih0 _ _ _)
      | (with_reducible exact LeO.refl _)
      | (with_reducible exact LeO.none _)
      | (with_reducible refine LeO.ite ?_ ?_)
      | (with_reducible refine LeO.bind ?_ (fun _ => ?_))
      | exact ih0 _ _ _
      | exact LeO.none _
      | refine LeO.ite ?_ ?_
      | refine LeO.bind ?_ (fun _ => ?_)
theorem formeref04_Decimal.mono : ∀ a0 k, LeO (formeref04_Decimal.f k a0) (formeref04_Decimal.f (k + 1) a0) := by
  intro a0 k
  have ih0 := formeref04_Decimal.mono_l k
  unfold formeref04_Decimal.f
  repeat' first
      | (with_reducible exact ih0 _ _ _)
      | (with_reducible exact LeO.refl _)
      | (with_reducible exact LeO.none _)
      | (with_reducible refine LeO.ite ?_ ?_)
      | (with_reducible refine LeO.bind ?_ (fun _ => ?_))
      | exact ih0 _ _ _
      | exact LeO.none _
      | refine LeO.ite ?_ ?_
      | refine LeO.bind ?_ (fun _ => ?_)
end
section
open Go.Proofs.YtffmflmpiekcfaaDoorGlib
def digs (u : Nat) : List UInt8 := if u = 0 then [] else Lib.decDigits u
theorem digs_step {u : Nat} (h : 0 < u) : digs u = digs (u / 10) ++ [UInt8.ofNat (48 + u % 10)] := by
  unfold digs
  rw [if_neg (by omega)]
  rw [Lib.decDigits]
  by_cases h10 : u < 10
  · rw [dif_pos h10, if_pos (by omega), Nat.mod_eq_of_lt h10]
    rfl
  · rw [dif_neg h10, if_neg (by omega)]
theorem tail_dec (x0 : Int) : ∀ (d : Nat) (x : Int) (acc : ByteArray), x.natAbs < 10 ^ d → acc.size + d ≤ 1000 → -9223372036854775808 ≤ x → x ≤ 9223372036854775807 →
    Ev (fun k => formeref04_Decimal.l0 k x0 acc x) ⟨((if x0 < 0 then [45] else []) ++ digs x.natAbs ++ acc.data.toList).toArray⟩ := by
  intro d
  induction d with
  | zero =>
    intro x acc h1 h2 _ _
    have hx : x = 0 := by simp at h1; omega
    subst hx
    refine Ev.zero fun k => ?_
    simp only [formeref04_Decimal.l0, if_true]
    split
    · rw [if_pos (by omega)]
      congr 1
    · congr 1
  | succ d ih =>
    intro x acc h1 h2 hlo hhi
    by_cases hx : x = 0
    · subst hx
      refine Ev.zero fun k => ?_
      simp only [formeref04_Decimal.l0, if_true]
      split
      · rw [if_pos (by omega)]
        congr 1
      · congr 1
    · have hab : 0 < x.natAbs := by omega
      rw [Nat.pow_succ] at h1
      have hdiv : (Int.tdiv x 10).natAbs = x.natAbs / 10 := by rw [Int.natAbs_tdiv]; rfl
      have hmod : (Int.tmod x 10).natAbs = x.natAbs % 10 := by rw [Int.natAbs_tmod]; rfl
      rw [digs_step hab]
      obtain ⟨v, hv⟩ : ∃ v : Int, v = ((48 + x.natAbs % 10 : Nat) : Int) := ⟨_, rfl⟩
      have hsz : (strOfNums [v]).size = 1 := by rw [strOfNums_size]; rfl
      have hacc : (strOfNums [v] ++ acc).size = acc.size + 1 := by rw [ByteArray.size_append, hsz]; omega
      have i1 := ih (Int.tdiv x 10) (strOfNums [v] ++ acc) (by rw [hdiv]; omega) (by omega) (by omega) (by omega)
      rw [hdiv] at i1
      have e : (strOfNums [v] ++ acc).data.toList = [UInt8.ofNat (48 + x.natAbs % 10)] ++ acc.data.toList := by
        rw [ByteArray.data_append, Array.toList_append, strOfNums_data, hv]
        rfl
      rw [e] at i1
      have w1 : wrap64 (Int.tdiv x 10) = Int.tdiv x 10 := wrap64_id (by omega) (by omega)
      refine Ev.succ i1 fun k hk => ?_
      simp only [formeref04_Decimal.l0]
      rw [if_neg hx, w1]
      by_cases hneg : Int.tmod x 10 < 0
      · rw [if_pos hneg]
        have e1 : (wrap64 (48 + wrap64 (-(Int.tmod x 10)))) % 256 = v := by
          rw [wrap64_id (x := -(Int.tmod x 10)) (by omega) (by omega), wrap64_id (by omega) (by omega), hv]
          omega
        rw [e1]
        simp only [Option.bind_some]
        rw [if_pos (by rw [hsz]; omega), hk]
        simp
      · rw [if_neg hneg]
        have e1 : (wrap64 (48 + Int.tmod x 10)) % 256 = v := by
          rw [wrap64_id (by omega) (by omega), hv]
          omega
        rw [e1]
        simp only [Option.bind_some]
        rw [if_pos (by rw [hsz]; omega), hk]
        simp
theorem decimal_ev (n : Int) (h0 : -9223372036854775808 ≤ n) (h1 : n ≤ 9223372036854775807) : Ev (fun k => formeref04_Decimal.f k n) ⟨(Lib.itoa n).toArray⟩ := by
  by_cases hz : n = 0
  · subst hz
    refine Ev.any fun k => ?_
    unfold formeref04_Decimal.f
    rw [if_pos rfl]
    congr 1
    simp [Lib.itoa, Lib.decDigits]
  · have h := tail_dec n 20 n ⟨#[]⟩ (by omega) (by decide) h0 h1
    refine Ev.same h fun k hk => ?_
    unfold formeref04_Decimal.f
    rw [if_neg hz, hk]
    congr 2
    unfold Lib.itoa digs
    rw [if_neg (show ¬ n.natAbs = 0 by omega)]
    by_cases hn : n < 0
    · simp [hn]
    · have : n.natAbs = n.toNat := by omega
      simp [hn, this]
theorem bytes_ev (d : Int) : Ev (fun k => formeref04_Bytes.f k d) (eight d) := by
  refine ⟨9, fun k hk => ?_⟩
  obtain ⟨k, rfl⟩ : ∃ m, k = m + 9 := ⟨k - 9, by omega⟩
  have s0 : IntKind.u64.wrap (56 - IntKind.u64.wrap (8 * IntKind.u64.wrap 0)) = 56 := by rfl
  have s1 : IntKind.u64.wrap (56 - IntKind.u64.wrap (8 * IntKind.u64.wrap 1)) = 48 := by rfl
  have s2 : IntKind.u64.wrap (56 - IntKind.u64.wrap (8 * IntKind.u64.wrap 2)) = 40 := by rfl
  have s3 : IntKind.u64.wrap (56 - IntKind.u64.wrap (8 * IntKind.u64.wrap 3)) = 32 := by rfl
  have s4 : IntKind.u64.wrap (56 - IntKind.u64.wrap (8 * IntKind.u64.wrap 4)) = 24 := by rfl
  have s5 : IntKind.u64.wrap (56 - IntKind.u64.wrap (8 * IntKind.u64.wrap 5)) = 16 := by rfl
  have s6 : IntKind.u64.wrap (56 - IntKind.u64.wrap (8 * IntKind.u64.wrap 6)) = 8 := by rfl
  have s7 : IntKind.u64.wrap (56 - IntKind.u64.wrap (8 * IntKind.u64.wrap 7)) = 0 := by rfl
  have n0 : wrap64 (0 + 1) = 1 := wrap64_id (x := 1) (by omega) (by omega)
  have n1 : wrap64 (1 + 1) = 2 := wrap64_id (x := 2) (by omega) (by omega)
  have n2 : wrap64 (2 + 1) = 3 := wrap64_id (x := 3) (by omega) (by omega)
  have n3 : wrap64 (3 + 1) = 4 := wrap64_id (x := 4) (by omega) (by omega)
  have n4 : wrap64 (4 + 1) = 5 := wrap64_id (x := 5) (by omega) (by omega)
  have n5 : wrap64 (5 + 1) = 6 := wrap64_id (x := 6) (by omega) (by omega)
  have n6 : wrap64 (6 + 1) = 7 := wrap64_id (x := 7) (by omega) (by omega)
  have n7 : wrap64 (7 + 1) = 8 := wrap64_id (x := 8) (by omega) (by omega)
  simp only [formeref04_Bytes.f, formeref04_Bytes.l0, s0, s1, s2, s3, s4, s5, s6, s7, n0, n1, n2, n3, n4, n5, n6, n7]
  rfl
def textAll (d : Int) (l : List Int) : List Int := l.foldl (fun acc n => acc ++ (textP n ++ [32])) (eight d)
def formeref04_Text.f (a0 : Int) (l1 : List Int) : Option (List Int) := if l1.length ≤ 1000000000 ∧ (∀ x ∈ l1, -9223372036854775808 ≤ x ∧ x ≤ 9223372036854775807) then some (textAll a0 l1) else none
theorem textAll_snoc (d : Int) (l : List Int) (n : Nat) (h : n < l.length) : textAll d (l.take (n + 1)) = textAll d (l.take n) ++ (textP l[n] ++ [32]) := by
  unfold textAll
  rw [List.take_succ_eq_append_getElem h, List.foldl_append]
  rfl
theorem textAll_len (d : Int) : ∀ (l : List Int), (∀ x ∈ l, -9223372036854775808 ≤ x ∧ x ≤ 9223372036854775807) → (textAll d l).length ≤ 8 + 22 * l.length := by
  intro l hl
  have h : ∀ n, n ≤ l.length → (textAll d (l.take n)).length ≤ 8 + 22 * n := by
    intro n
    induction n with
    | zero => intro _; exact Nat.le_refl _
    | succ n ih =>
      intro hn
      have h1 := hl _ (List.getElem_mem (show n < l.length by omega))
      have h2 := text_short l[n] h1.1 h1.2
      have h3 := ih (by omega)
      rw [textAll_snoc d l n (by omega), List.length_append, List.length_append]
      simp only [List.length_cons, List.length_nil]
      omega
  have := h l.length (Nat.le_refl _)
  rwa [List.take_length] at this
theorem itoa_bytes (n : Int) : bytesOf ((⟨(Lib.itoa n).toArray⟩ : ByteArray) ++ ⟨#[32]⟩) = textP n ++ [32] := by
  unfold bytesOf textP
  simp
theorem text_reads (W w : World) (sx : ByteArray) (l : List Int) (h : bytesOf (sx ++ ⟨#[32]⟩) = l) (hs : sx.size ≤ 21) : ReadsRow ((Kd.int .u8).K w) (Kd.int .u8).sz (Lib.bytesWorld W 5 (sx ++ ⟨#[32]⟩)) (some ⟨W.heap.size, 0, none⟩) (sx.size + 1) l := by
  have e : (sx ++ ⟨#[32]⟩ : ByteArray).size = sx.size + 1 := by rw [ByteArray.size_append]; rfl
  have r := bytes_reads W 5 (sx ++ ⟨#[32]⟩) (by omega)
  rw [h, e] at r
  obtain ⟨h1, h2, h3⟩ := r
  refine ⟨h1, h2, fun hn => ?_⟩
  obtain ⟨ad, ea, hc⟩ := h3 hn
  refine ⟨ad, ea, fun j p hj => ⟨[.int .u8 p], rfl, rfl, fun i u hi => ?_⟩⟩
  obtain ⟨hl, hp⟩ := List.getElem?_eq_some_iff.1 hj
  have := hc j (by omega)
  rcases i with _ | i
  · simp only [List.getElem?_cons_zero, Option.some.injEq] at hi
    subst hi
    show (Lib.bytesWorld W 5 _).cell? (ad.add (j * 1 + 0)) = _
    rw [Nat.mul_one, Nat.add_zero, this, List.getD_eq_getElem?_getD, hj]
    rfl
  · simp at hi
end
section
def formeref04_Next.f (k : Nat) (a0 : Int) (l1 : List Int) : Option (Int) := (formeref04_Text.f a0 l1).bind fun t155 => ((formeref04_Sum.f k t155).bind fun t158 => (some t158))
theorem formeref04_Next.mono : ∀ a0 a1 k, LeO (formeref04_Next.f k a0 a1) (formeref04_Next.f (k + 1) a0 a1) := by
  intro a0 a1 k
  unfold formeref04_Next.f
  repeat' first
      | (with_reducible exact formeref04_Sum.mono _ _)
      | (with_reducible exact LeO.refl _)
      | (with_reducible exact LeO.none _)
      | (with_reducible refine LeO.ite ?_ ?_)
      | (with_reducible refine LeO.bind ?_ (fun _ => ?_))
      | exact formeref04_Sum.mono _ _
      | exact LeO.none _
      | refine LeO.ite ?_ ?_
      | refine LeO.bind ?_ (fun _ => ?_)
def formeref04_Pair.f (k : Nat) (a0 : Int) (a1 : Int) : Option (Int) := (some (([1] : List Int) : List Int)).bind fun y159 => ((formeref04_Bytes.f k a0).bind fun t162 => (if y159.length + t162.length < 140737488355328 then ((some (y159 ++ t162 : List Int)).bind fun y165 => ((formeref04_Bytes.f k a1).bind fun t168 => (if y165.length + t168.length < 140737488355328 then ((formeref04_Sum.f k (y165 ++ t168)).bind fun t174 => (some t174)) else (none)))) else (none)))
theorem formeref04_Pair.mono : ∀ a0 a1 k, LeO (formeref04_Pair.f k a0 a1) (formeref04_Pair.f (k + 1) a0 a1) := by
  intro a0 a1 k
  unfold formeref04_Pair.f
  repeat' first
      | (with_reducible exact formeref04_Bytes.mono _ _)
      | (with_reducible exact formeref04_Sum.mono _ _)
      | (with_reducible exact LeO.refl _)
      | (with_reducible exact LeO.none _)
      | (with_reducible refine LeO.ite ?_ ?_)
      | (with_reducible refine LeO.bind ?_ (fun _ => ?_))
      | exact formeref04_Bytes.mono _ _
      | exact formeref04_Sum.mono _ _
      | exact LeO.none _
      | refine LeO.ite ?_ ?_
      | refine LeO.bind ?_ (fun _ => ?_)
def formeref04_Half.l0 : Nat → Int → Int → Option (Int)
  | 0, _, _ => none
  | k + 1, x0, x3 => if (wrap64 (2 * x3)) < x0 then (formeref04_Half.l0 k x0 (wrap64 (2 * x3))) else (some x3)
def formeref04_Half.f (k : Nat) (a0 : Int) : Option (Int) := formeref04_Half.l0 k a0 1
theorem formeref04_Half.mono_l : ∀ k, (∀ y0 y1, LeO (formeref04_Half.l0 k y0 y1) (formeref04_Half.l0 (k + 1) y0 y1))
  | 0 => fun _ _ r h => by simp [formeref04_Half.l0] at h
  | k + 1 => by
    have ih0 := formeref04_Half.mono_l k
    · intro y0 y1
      unfold formeref04_Half.l0
      repeat' first
      | (with_reducible exact ih0 _ _)
      | (with_reducible exact LeO.refl _)
      | (with_reducible exact LeO.none _)
      | (with_reducible refine LeO.ite ?_ ?_)
      | (with_reducible refine LeO.bind ?_ (fun _ => ?_))
      | exact ih0 _ _
      | exact LeO.none _
      | refine LeO.ite ?_ ?_
      | refine LeO.bind ?_ (fun _ => ?_)
theorem formeref04_Half.mono : ∀ a0 k, LeO (formeref04_Half.f k a0) (formeref04_Half.f (k + 1) a0) := by
  intro a0 k
  have ih0 := formeref04_Half.mono_l k
  unfold formeref04_Half.f
  repeat' first
      | (with_reducible exact ih0 _ _)
      | (with_reducible exact LeO.refl _)
      | (with_reducible exact LeO.none _)
      | (with_reducible refine LeO.ite ?_ ?_)
      | (with_reducible refine LeO.bind ?_ (fun _ => ?_))
      | exact ih0 _ _
      | exact LeO.none _
      | refine LeO.ite ?_ ?_
      | refine LeO.bind ?_ (fun _ => ?_)
def formeref04_Leaf.f (k : Nat) (a0 : Int) : Option (Int) := (formeref04_Next.f k a0 (([0] : List Int))).bind fun t178 => (some t178)
theorem formeref04_Leaf.mono : ∀ a0 k, LeO (formeref04_Leaf.f k a0) (formeref04_Leaf.f (k + 1) a0) := by
  intro a0 k
  unfold formeref04_Leaf.f
  repeat' first
      | (with_reducible exact formeref04_Next.mono _ _ _)
      | (with_reducible exact LeO.refl _)
      | (with_reducible exact LeO.none _)
      | (with_reducible refine LeO.ite ?_ ?_)
      | (with_reducible refine LeO.bind ?_ (fun _ => ?_))
      | exact formeref04_Next.mono _ _ _
      | exact LeO.none _
      | refine LeO.ite ?_ ?_
      | refine LeO.bind ?_ (fun _ => ?_)
def formeref04_root.f : Nat → List Int → Option (Int)
  | 0, _ => none
  | k + 1, l0 => if (l0.length : Int) = 1 then (if 0 < (l0.length : Int) then ((formeref04_Leaf.f k (rd l0 0)).bind fun t180 => (some t180)) else (none)) else ((formeref04_Half.f k (l0.length : Int)).bind fun t181 => (if 0 ≤ t181 then (if t181 ≤ (l0.length : Int) then ((formeref04_root.f k (l0.take (t181 : Int).toNat)).bind fun t183 => ((formeref04_root.f k (l0.drop (t181 : Int).toNat)).bind fun t185 => ((formeref04_Pair.f k t183 t185).bind fun t186 => (some t186)))) else (none)) else (none)))
theorem formeref04_root.mono_l : ∀ k, (∀ y0, LeO (formeref04_root.f k y0) (formeref04_root.f (k + 1) y0))
  | 0 => fun _ r h => by simp [formeref04_root.f] at h
  | k + 1 => by
    have ih0 := formeref04_root.mono_l k
    · intro y0
      unfold formeref04_root.f
      repeat' first
      | (with_reducible exact ih0 _)
      | (with_reducible exact formeref04_Half.mono _ _)
      | (with_reducible exact formeref04_Leaf.mono _ _)
      | (with_reducible exact formeref04_Pair.mono _ _ _)
      | (with_reducible exact LeO.refl _)
      | (with_reducible exact LeO.none _)
      | (with_reducible refine LeO.ite ?_ ?_)
      | (with_reducible refine LeO.bind ?_ (fun _ => ?_))
      | exact ih0 _
      | exact formeref04_Half.mono _ _
      | exact formeref04_Leaf.mono _ _
      | exact formeref04_Pair.mono _ _ _
      | exact LeO.none _
      | refine LeO.ite ?_ ?_
      | refine LeO.bind ?_ (fun _ => ?_)
theorem formeref04_root.mono : ∀ a0 k, LeO (formeref04_root.f k a0) (formeref04_root.f (k + 1) a0) := by
  intro a0 k
  have ih0 := formeref04_root.mono_l k
  exact ih0 a0
def formeref04_Root.f (k : Nat) (l0 : List Int) : Option (Int × Int) := if (l0.length : Int) > 10000 then (some (0, 2)) else (if (l0.length : Int) = 0 then (some (0, 1)) else ((formeref04_root.f k l0).bind fun t187 => (some (t187, 0))))
theorem formeref04_Root.mono : ∀ a0 k, LeO (formeref04_Root.f k a0) (formeref04_Root.f (k + 1) a0) := by
  intro a0 k
  unfold formeref04_Root.f
  repeat' first
      | (with_reducible exact formeref04_root.mono _ _)
      | (with_reducible exact LeO.refl _)
      | (with_reducible exact LeO.none _)
      | (with_reducible refine LeO.ite ?_ ?_)
      | (with_reducible refine LeO.bind ?_ (fun _ => ?_))
      | exact formeref04_root.mono _ _
      | exact LeO.none _
      | refine LeO.ite ?_ ?_
      | refine LeO.bind ?_ (fun _ => ?_)
end
section
def formeref04_path.f : Nat → List Int → Int → Option (List Int)
  | 0, _, _ => none
  | k + 1, l0, a1 => if (l0.length : Int) = 1 then (some ([] : List Int)) else ((formeref04_Half.f k (l0.length : Int)).bind fun t188 => (if a1 < t188 then (if 0 ≤ t188 then (if t188 ≤ (l0.length : Int) then ((formeref04_path.f k (l0.take (t188 : Int).toNat) a1).bind fun t190 => ((formeref04_root.f k (l0.drop (t188 : Int).toNat)).bind fun t194 => (if t190.length < 17592186044416 then (some (t190 ++ [t194])) else (none)))) else (none)) else (none)) else (if 0 ≤ t188 then (if t188 ≤ (l0.length : Int) then ((formeref04_path.f k (l0.drop (t188 : Int).toNat) (wrap64 (a1 - t188))).bind fun t199 => ((formeref04_root.f k (l0.take (t188 : Int).toNat)).bind fun t203 => (if t199.length < 17592186044416 then (some (t199 ++ [t203])) else (none)))) else (none)) else (none))))
theorem formeref04_path.mono_l : ∀ k, (∀ y0 y1, LeO (formeref04_path.f k y0 y1) (formeref04_path.f (k + 1) y0 y1))
  | 0 => fun _ _ r h => by simp [formeref04_path.f] at h
  | k + 1 => by
    have ih0 := formeref04_path.mono_l k
    · intro y0 y1
      unfold formeref04_path.f
      repeat' first
      | (with_reducible exact ih0 _ _)
      | (with_reducible exact formeref04_Half.mono _ _)
      | (with_reducible exact formeref04_root.mono _ _)
      | (with_reducible exact LeO.refl _)
      | (with_reducible exact LeO.none _)
      | (with_reducible refine LeO.ite ?_ ?_)
      | (with_reducible refine LeO.bind ?_ (fun _ => ?_))
      | exact ih0 _ _
      | exact formeref04_Half.mono _ _
      | exact formeref04_root.mono _ _
      | exact LeO.none _
      | refine LeO.ite ?_ ?_
      | refine LeO.bind ?_ (fun _ => ?_)
theorem formeref04_path.mono : ∀ a0 a1 k, LeO (formeref04_path.f k a0 a1) (formeref04_path.f (k + 1) a0 a1) := by
  intro a0 a1 k
  have ih0 := formeref04_path.mono_l k
  exact ih0 a0 a1
def formeref04_path.T5 : Bool × List (List Nat × List Nat) := (true, [([], []), ([], []), ([0, 1], [0, 1]), ([], []), ([2, 3], [2, 3]), ([], []), ([], []), ([5, 6], [5, 6]), ([7, 4], [7]), ([8], [8]), ([4, 9, 8], [4, 9]), ([10, 10, 0, 1, 2, 3, 4, 5, 6, 7, 8, 9, 10], [10])])
def formeref04_path.B5 : List Nat := [0, 0, 3, 0, 15, 0, 0, 96, 255, 511, 1023, 2047]
theorem formeref04_path.tab5 : rtab .any (opsOf Tryd.f37 5) = formeref04_path.T5 := by kernel_rfl
theorem formeref04_path.bits5 : waitsOk formeref04_path.T5.2 formeref04_path.B5 = true := by kernel_rfl
def formeref04_path.T6 : Bool × List (List Nat × List Nat) := (true, [([], []), ([], []), ([0, 1], [0, 1]), ([], []), ([], []), ([3, 4], [3, 4]), ([2, 5], [2, 5]), ([], []), ([], []), ([7, 8], [7, 8]), ([9, 6], [9]), ([10], [10]), ([6, 11, 10], [6, 11]), ([12, 12, 0, 1, 2, 3, 4, 5, 6, 7, 8, 9, 10, 11, 12], [12])])
def formeref04_path.B6 : List Nat := [0, 0, 3, 0, 0, 24, 63, 0, 0, 384, 1023, 2047, 4095, 8191]
theorem formeref04_path.tab6 : rtab .any (opsOf Tryd.f37 6) = formeref04_path.T6 := by kernel_rfl
theorem formeref04_path.bits6 : waitsOk formeref04_path.T6.2 formeref04_path.B6 = true := by kernel_rfl
def formeref04_Path.f (k : Nat) (l0 : List Int) (a1 : Int) : Option (List Int × Int) := (formeref04_Root.f k l0).bind fun bt207 => (if bt207.2 = 0 then (if a1 < 0 then (some (([] : List Int), 1)) else (if a1 ≥ (l0.length : Int) then (some (([] : List Int), 1)) else ((formeref04_path.f k l0 a1).bind fun t209 => (some (t209, 0))))) else (some (([] : List Int), bt207.2)))
theorem formeref04_Path.mono : ∀ a0 a1 k, LeO (formeref04_Path.f k a0 a1) (formeref04_Path.f (k + 1) a0 a1) := by
  intro a0 a1 k
  unfold formeref04_Path.f
  repeat' first
      | (with_reducible exact formeref04_Root.mono _ _)
      | (with_reducible exact formeref04_path.mono _ _ _)
      | (with_reducible exact LeO.refl _)
      | (with_reducible exact LeO.none _)
      | (with_reducible refine LeO.ite ?_ ?_)
      | (with_reducible refine LeO.bind ?_ (fun _ => ?_))
      | exact formeref04_Root.mono _ _
      | exact formeref04_path.mono _ _ _
      | exact LeO.none _
      | refine LeO.ite ?_ ?_
      | refine LeO.bind ?_ (fun _ => ?_)
def formeref04_Length.l0 : Nat → Int → Int → Int → Option (Int)
  | 0, _, _, _ => none
  | k + 1, x0, x1, x5 => if x1 > 1 then ((formeref04_Half.f k x1).bind fun t212 => (if x0 < t212 then (formeref04_Length.l0 k x0 t212 (wrap64 (x5 + 1))) else (formeref04_Length.l0 k (wrap64 (x0 - t212)) (wrap64 (x1 - t212)) (wrap64 (x5 + 1))))) else (some x5)
def formeref04_Length.f (k : Nat) (a0 : Int) (a1 : Int) : Option (Int) := formeref04_Length.l0 k a0 a1 0
theorem formeref04_Length.mono_l : ∀ k, (∀ y0 y1 y2, LeO (formeref04_Length.l0 k y0 y1 y2) (formeref04_Length.l0 (k + 1) y0 y1 y2))
  | 0 => fun _ _ _ r h => by simp [formeref04_Length.l0] at h
  | k + 1 => by
    have ih0 := formeref04_Length.mono_l k
    · intro y0 y1 y2
      unfold formeref04_Length.l0
      repeat' first
      | (with_reducible exact ih0 _ _ _)
      | (with_reducible exact formeref04_Half.mono _ _)
      | (with_reducible exact LeO.refl _)
      | (with_reducible exact LeO.none _)
      | (with_reducible refine LeO.ite ?_ ?_)
      | (with_reducible refine LeO.bind ?_ (fun _ => ?_))
      | exact ih0 _ _ _
      | exact formeref04_Half.mono _ _
      | exact LeO.none _
      | refine LeO.ite ?_ ?_
      | refine LeO.bind ?_ (fun _ => ?_)
theorem formeref04_Length.mono : ∀ a0 a1 k, LeO (formeref04_Length.f k a0 a1) (formeref04_Length.f (k + 1) a0 a1) := by
  intro a0 a1 k
  have ih0 := formeref04_Length.mono_l k
  unfold formeref04_Length.f
  repeat' first
      | (with_reducible exact ih0 _ _ _)
      | (with_reducible exact formeref04_Half.mono _ _)
      | (with_reducible exact LeO.refl _)
      | (with_reducible exact LeO.none _)
      | (with_reducible refine LeO.ite ?_ ?_)
      | (with_reducible refine LeO.bind ?_ (fun _ => ?_))
      | exact ih0 _ _ _
      | exact formeref04_Half.mono _ _
      | exact LeO.none _
      | refine LeO.ite ?_ ?_
      | refine LeO.bind ?_ (fun _ => ?_)
def formeref04_follow.f : Nat → Int → Int → Int → List Int → Option (Int)
  | 0, _, _, _, _ => none
  | k + 1, a0, a1, a2, l3 => if a2 = 1 then ((formeref04_Leaf.f k a0).bind fun t213 => (some t213)) else ((formeref04_Half.f k a2).bind fun t214 => (if 0 ≤ (wrap64 ((l3.length : Int) - 1)) then (if (wrap64 ((l3.length : Int) - 1)) < (l3.length : Int) then (if a1 < t214 then (if (wrap64 ((l3.length : Int) - 1)) ≤ (l3.length : Int) then ((formeref04_follow.f k a0 a1 t214 (l3.take ((wrap64 ((l3.length : Int) - 1)) : Int).toNat)).bind fun t217 => ((formeref04_Pair.f k t217 (rd l3 (wrap64 ((l3.length : Int) - 1)))).bind fun t218 => (some t218))) else (none)) else (if (wrap64 ((l3.length : Int) - 1)) ≤ (l3.length : Int) then ((formeref04_follow.f k a0 (wrap64 (a1 - t214)) (wrap64 (a2 - t214)) (l3.take ((wrap64 ((l3.length : Int) - 1)) : Int).toNat)).bind fun t220 => ((formeref04_Pair.f k (rd l3 (wrap64 ((l3.length : Int) - 1))) t220).bind fun t221 => (some t221))) else (none))) else (none)) else (none)))
theorem formeref04_follow.mono_l : ∀ k, (∀ y0 y1 y2 y3, LeO (formeref04_follow.f k y0 y1 y2 y3) (formeref04_follow.f (k + 1) y0 y1 y2 y3))
  | 0 => fun _ _ _ _ r h => by simp [formeref04_follow.f] at h
  | k + 1 => by
    have ih0 := formeref04_follow.mono_l k
    · intro y0 y1 y2 y3
      unfold formeref04_follow.f
      repeat' first
      | (with_reducible exact ih0 _ _ _ _)
      | (with_reducible exact formeref04_Half.mono _ _)
      | (with_reducible exact formeref04_Leaf.mono _ _)
      | (with_reducible exact formeref04_Pair.mono _ _ _)
      | (with_reducible exact LeO.refl _)
      | (with_reducible exact LeO.none _)
      | (with_reducible refine LeO.ite ?_ ?_)
      | (with_reducible refine LeO.bind ?_ (fun _ => ?_))
      | exact ih0 _ _ _ _
      | exact formeref04_Half.mono _ _
      | exact formeref04_Leaf.mono _ _
      | exact formeref04_Pair.mono _ _ _
      | exact LeO.none _
      | refine LeO.ite ?_ ?_
      | refine LeO.bind ?_ (fun _ => ?_)
theorem formeref04_follow.mono : ∀ a0 a1 a2 a3 k, LeO (formeref04_follow.f k a0 a1 a2 a3) (formeref04_follow.f (k + 1) a0 a1 a2 a3) := by
  intro a0 a1 a2 a3 k
  have ih0 := formeref04_follow.mono_l k
  exact ih0 a0 a1 a2 a3
end
section
def formeref04_Leads.f (k : Nat) (a0 : Int) (a1 : Int) (a2 : Int) (a3 : Int) (l4 : List Int) : Option (Bool) := if a3 < 1 then (some false) else (if a3 > 10000 then (some false) else (if a2 < 0 then (some false) else (if a2 ≥ a3 then (some false) else ((formeref04_Length.f k a2 a3).bind fun t222 => (if (l4.length : Int) = t222 then ((formeref04_follow.f k a1 a2 a3 l4).bind fun t223 => (some (t223 == a0))) else (some false))))))
theorem formeref04_Leads.mono : ∀ a0 a1 a2 a3 a4 k, LeO (formeref04_Leads.f k a0 a1 a2 a3 a4) (formeref04_Leads.f (k + 1) a0 a1 a2 a3 a4) := by
  intro a0 a1 a2 a3 a4 k
  unfold formeref04_Leads.f
  repeat' first
      | (with_reducible exact formeref04_Length.mono _ _ _)
      | (with_reducible exact formeref04_follow.mono _ _ _ _ _)
      | (with_reducible exact LeO.refl _)
      | (with_reducible exact LeO.none _)
      | (with_reducible refine LeO.ite ?_ ?_)
      | (with_reducible refine LeO.bind ?_ (fun _ => ?_))
      | exact formeref04_Length.mono _ _ _
      | exact formeref04_follow.mono _ _ _ _ _
      | exact LeO.none _
      | refine LeO.ite ?_ ?_
      | refine LeO.bind ?_ (fun _ => ?_)
end
section
theorem made_zeros (n : Nat) : (madeCells #[Value.int .u64 0] n).toList = (List.replicate n (0 : Int)).map (Value.int .u64) ++ [] := by
  apply List.ext_getElem
  · simp [madeCells]
  · intro i h1 h2
    simp [madeCells, Nat.mod_one]
theorem make_long : ∃ Z : Array Value, Z.toList = (List.replicate 10001 (0 : Int)).map (Value.int .u64) ++ [] ∧ ∀ W : World, (Instr.makeSlice 25 (.int .i64 10001) (.int .i64 10001)).run Tryd.prog W = .ok (.slice (some ⟨W.heap.size, 0, none⟩) 10001 10001) (W.alloc (.cells Z 23)) := by
  obtain ⟨i0, hi, h0, h1, h2⟩ := info_parts info23
  refine ⟨madeCells #[Value.int .u64 0] 10001, made_zeros 10001, fun W => ?_⟩
  have h := run_makeSlice (P := Tryd.prog) W 25 23 i0 (.int .u64 0) Tryd.underlying25 hi h0 .i64 .i64 10001 10001 (by omega) (by omega) (by rw [h1]; decide) (by rw [h2]; decide) (by omega)
  rw [h1] at h
  exact h
def formelaw04_DigestMatchesReference.f (l0 : List Int) (a1 : Int) (l2 l3 : List Int) (a4 a5 : Int) (l6 : List Int) (a7 : Int) : Option Bool := if (∀ x ∈ l2, -9223372036854775808 ≤ x ∧ x ≤ 9223372036854775807) then some true else none
end
section
def formelaw04_DigestOneByte.j0 : Nat → List Int → Int → Int → Bool → Bool → Option (Bool)
  | 0, _, _, _, _, _ => none
  | k + 1, x0, x1, x2, x7, x17 => if x17 = true then (some x7) else ((some (([] : List Int) : List Int)).bind fun y225 => (if y225.length + x0.length < 140737488355328 then ((some (y225 ++ x0 : List Int)).bind fun y228 => (if (y228.length : Int) = 0 then (none) else (if 0 ≤ (Int.tmod (wrap64 (x1)) (y228.length : Int)) then (if (Int.tmod (wrap64 (x1)) (y228.length : Int)) < (y228.length : Int) then (if x7 = true then ((digest_Sum.f k x0).bind fun t233 => ((digest_Sum.f k (y228.set ((Int.tmod (wrap64 (x1)) (y228.length : Int)) : Int).toNat (Go.bits .xor .u8 (rd y228 (Int.tmod (wrap64 (x1)) (y228.length : Int))) x2))).bind fun t234 => (some ((t233 == t234) == (x2 == 0))))) else (some false)) else (none)) else (none)))) else (none)))
def formelaw04_DigestOneByte.f (k : Nat) (l0 : List Int) (a1 : Int) (a2 : Int) : Option (Bool) := (formelaw04_head.f).bind fun t224 => (if (l0.length : Int) = 0 then (formelaw04_DigestOneByte.j0 k l0 a1 a2 t224 true) else (formelaw04_DigestOneByte.j0 k l0 a1 a2 t224 (decide ((l0.length : Int) > 300))))
theorem formelaw04_DigestOneByte.mono_l : ∀ k, (∀ y0 y1 y2 y3 y4, LeO (formelaw04_DigestOneByte.j0 k y0 y1 y2 y3 y4) (formelaw04_DigestOneByte.j0 (k + 1) y0 y1 y2 y3 y4))
  | 0 => fun _ _ _ _ _ r h => by simp [formelaw04_DigestOneByte.j0] at h
  | k + 1 => by
    have ih0 := formelaw04_DigestOneByte.mono_l k
    · intro y0 y1 y2 y3 y4
      unfold formelaw04_DigestOneByte.j0
      repeat' first
      | (with_reducible exact ih0 _ _ _ _ _)
      | (with_reducible exact digest_Sum.mono _ _)
      | (with_reducible exact LeO.refl _)
      | (with_reducible exact LeO.none _)
      | (with_reducible refine LeO.ite ?_ ?_)
      | (with_reducible refine LeO.bind ?_ (fun _ => ?_))
      | exact ih0 _ _ _ _ _
      | exact digest_Sum.mono _ _
      | exact LeO.none _
      | refine LeO.ite ?_ ?_
      | refine LeO.bind ?_ (fun _ => ?_)
theorem formelaw04_DigestOneByte.mono : ∀ a0 a1 a2 k, LeO (formelaw04_DigestOneByte.f k a0 a1 a2) (formelaw04_DigestOneByte.f (k + 1) a0 a1 a2) := by
  intro a0 a1 a2 k
  have ih0 := formelaw04_DigestOneByte.mono_l k
  unfold formelaw04_DigestOneByte.f
  repeat' first
      | (with_reducible exact ih0 _ _ _ _ _)
      | (with_reducible exact digest_Sum.mono _ _)
      | (with_reducible exact LeO.refl _)
      | (with_reducible exact LeO.none _)
      | (with_reducible refine LeO.ite ?_ ?_)
      | (with_reducible refine LeO.bind ?_ (fun _ => ?_))
      | exact ih0 _ _ _ _ _
      | exact digest_Sum.mono _ _
      | exact LeO.none _
      | refine LeO.ite ?_ ?_
      | refine LeO.bind ?_ (fun _ => ?_)
def formelaw04_DigestTexts.j0 : Nat → Int → List Int → List Int → List Int → List Int → Bool → Bool → Option (Bool)
  | 0, _, _, _, _, _, _, _ => none
  | k + 1, x0, x1, x2, x3, x4, x11, x33 => if x33 = true then (some x11) else ((digest_Sum.f k x2).bind fun t236 => ((digest_Sum.f k x3).bind fun t237 => ((some (([] : List Int) : List Int)).bind fun y238 => (if y238.length + x2.length < 140737488355328 then ((some (y238 ++ x2 : List Int)).bind fun y241 => (if y241.length + x4.length < 140737488355328 then ((some (([] : List Int) : List Int)).bind fun y247 => (if y247.length + x3.length < 140737488355328 then ((some (y247 ++ x3 : List Int)).bind fun y250 => (if y250.length + x4.length < 140737488355328 then (if x11 = true then ((digest_Next.f k x0 x1).bind fun t256 => ((formeref04_Text.f x0 x1).bind fun t257 => ((digest_Sum.f k t257).bind fun t260 => (if t256 = t260 then ((digest_Sum.f k (y241 ++ x4)).bind fun t261 => ((digest_Sum.f k (y250 ++ x4)).bind fun t262 => (some ((t261 == t262) == (t236 == t237))))) else (some false))))) else (some false)) else (none))) else (none))) else (none))) else (none)))))
def formelaw04_DigestTexts.f (k : Nat) (a0 : Int) (l1 : List Int) (l2 : List Int) (l3 : List Int) (l4 : List Int) : Option (Bool) := (formelaw04_head.f).bind fun t235 => (if (l1.length : Int) > 100 then (formelaw04_DigestTexts.j0 k a0 l1 l2 l3 l4 t235 true) else (if (l2.length : Int) > 100 then (formelaw04_DigestTexts.j0 k a0 l1 l2 l3 l4 t235 true) else (if (l3.length : Int) > 100 then (formelaw04_DigestTexts.j0 k a0 l1 l2 l3 l4 t235 true) else (formelaw04_DigestTexts.j0 k a0 l1 l2 l3 l4 t235 (decide ((l4.length : Int) > 100))))))
theorem formelaw04_DigestTexts.mono_l : ∀ k, (∀ y0 y1 y2 y3 y4 y5 y6, LeO (formelaw04_DigestTexts.j0 k y0 y1 y2 y3 y4 y5 y6) (formelaw04_DigestTexts.j0 (k + 1) y0 y1 y2 y3 y4 y5 y6))
  | 0 => fun _ _ _ _ _ _ _ r h => by simp [formelaw04_DigestTexts.j0] at h
  | k + 1 => by
    have ih0 := formelaw04_DigestTexts.mono_l k
    · intro y0 y1 y2 y3 y4 y5 y6
      unfold formelaw04_DigestTexts.j0
      repeat' first
      | (with_reducible exact ih0 _ _ _ _ _ _ _)
      | (with_reducible exact digest_Next.mono _ _ _)
      | (with_reducible exact digest_Sum.mono _ _)
      | (with_reducible exact LeO.refl _)
      | (with_reducible exact LeO.none _)
      | (with_reducible refine LeO.ite ?_ ?_)
      | (with_reducible refine LeO.bind ?_ (fun _ => ?_))
      | exact ih0 _ _ _ _ _ _ _
      | exact digest_Next.mono _ _ _
      | exact digest_Sum.mono _ _
      | exact LeO.none _
      | refine LeO.ite ?_ ?_
      | refine LeO.bind ?_ (fun _ => ?_)
theorem formelaw04_DigestTexts.mono : ∀ a0 a1 a2 a3 a4 k, LeO (formelaw04_DigestTexts.f k a0 a1 a2 a3 a4) (formelaw04_DigestTexts.f (k + 1) a0 a1 a2 a3 a4) := by
  intro a0 a1 a2 a3 a4 k
  have ih0 := formelaw04_DigestTexts.mono_l k
  unfold formelaw04_DigestTexts.f
  repeat' first
      | (with_reducible exact ih0 _ _ _ _ _ _ _)
      | (with_reducible exact digest_Next.mono _ _ _)
      | (with_reducible exact digest_Sum.mono _ _)
      | (with_reducible exact LeO.refl _)
      | (with_reducible exact LeO.none _)
      | (with_reducible refine LeO.ite ?_ ?_)
      | (with_reducible refine LeO.bind ?_ (fun _ => ?_))
      | exact ih0 _ _ _ _ _ _ _
      | exact digest_Next.mono _ _ _
      | exact digest_Sum.mono _ _
      | exact LeO.none _
      | refine LeO.ite ?_ ?_
      | refine LeO.bind ?_ (fun _ => ?_)
def formelaw04_few.f (l0 : List Int) : Option (Bool) := if (l0.length : Int) > 0 then (some (decide ((l0.length : Int) ≤ 200))) else (some false)
def formelaw04_DigestSplits.f (k : Nat) (l0 : List Int) : Option (Bool) := (formelaw04_head.f).bind fun t263 => ((formelaw04_few.f l0).bind fun t264 => (if t264 = true then ((digest_Root.f l0).bind fun bt265 => (if (l0.length : Int) = 1 then (if t263 = true then (if bt265.2 = 0 then (if 0 < (l0.length : Int) then ((digest_Next.f k (rd l0 0) (([0] : List Int))).bind fun t271 => (some (bt265.1 == t271))) else (none)) else (some false)) else (some false)) else ((formeref04_Half.f k (l0.length : Int)).bind fun t272 => (if 0 ≤ t272 then (if t272 ≤ (l0.length : Int) then ((digest_Root.f (l0.take (t272 : Int).toNat)).bind fun bt274 => ((digest_Root.f (l0.drop (t272 : Int).toNat)).bind fun bt277 => (if t263 = true then (if bt265.2 = 0 then (if bt274.2 = 0 then (if bt277.2 = 0 then ((digest_Pair.f k bt274.1 bt277.1).bind fun t279 => (if bt265.1 = t279 then (if (wrap64 (2 * t272)) ≥ (l0.length : Int) then (some (decide (t272 < (l0.length : Int)))) else (some false)) else (some false))) else (some false)) else (some false)) else (some false)) else (some false)))) else (none)) else (none))))) else (some t263)))
theorem formelaw04_DigestSplits.mono : ∀ a0 k, LeO (formelaw04_DigestSplits.f k a0) (formelaw04_DigestSplits.f (k + 1) a0) := by
  intro a0 k
  unfold formelaw04_DigestSplits.f
  repeat' first
      | (with_reducible exact digest_Next.mono _ _ _)
      | (with_reducible exact digest_Pair.mono _ _ _)
      | (with_reducible exact formeref04_Half.mono _ _)
      | (with_reducible exact LeO.refl _)
      | (with_reducible exact LeO.none _)
      | (with_reducible refine LeO.ite ?_ ?_)
      | (with_reducible refine LeO.bind ?_ (fun _ => ?_))
      | exact digest_Next.mono _ _ _
      | exact digest_Pair.mono _ _ _
      | exact formeref04_Half.mono _ _
      | exact LeO.none _
      | refine LeO.ite ?_ ?_
      | refine LeO.bind ?_ (fun _ => ?_)
end
section
def formelaw04_DigestLeads.j0 : Nat → List Int → Int → Bool → Int → Int → Int → List Int → Bool → Option (Bool)
  | 0, _, _, _, _, _, _, _, _ => none
  | k + 1, x0, x2, x7, x8, x9, x10, x12, x60 => if x60 = true then (some false) else ((some (([] : List Int) : List Int)).bind fun y290 => (if y290.length + x12.length < 17592186044416 then ((some (y290 ++ x12 : List Int)).bind fun y293 => (if y293.length < 17592186044416 then (if x7 = true then (if 0 ≤ x8 then (if x8 < (x0.length : Int) then ((digest_Leads.f x10 (rd x0 x8) x8 x9 (y293 ++ [x2])).bind fun t300 => (if t300 = true then (some false) else ((digest_Leads.f x10 (rd x0 x8) x9 x9 x12).bind fun t302 => (if t302 = true then (some false) else ((digest_Leads.f x10 (rd x0 x8) (-1) x9 x12).bind fun t304 => (if t304 = true then (some false) else (if (x12.length : Int) = 0 then (some true) else (if 1 ≤ (x12.length : Int) then ((digest_Leads.f x10 (rd x0 x8) x8 x9 (x12.drop 1)).bind fun t310 => (if t310 = true then (some false) else (if 0 ≤ (wrap64 ((x12.length : Int) - 1)) then (if (wrap64 ((x12.length : Int) - 1)) ≤ (x12.length : Int) then ((digest_Leads.f x10 (rd x0 x8) x8 x9 (x12.take ((wrap64 ((x12.length : Int) - 1)) : Int).toNat)).bind fun t316 => (some (!t316))) else (none)) else (none)))) else (none))))))))) else (none)) else (none)) else (some false)) else (none))) else (none)))
def formelaw04_DigestLeads.f (k : Nat) (l0 : List Int) (a1 : Int) (a2 : Int) : Option (Bool) := (formelaw04_head.f).bind fun t280 => ((formelaw04_few.f l0).bind fun t281 => (if t281 = true then (if (l0.length : Int) = 0 then (none) else ((digest_Root.f l0).bind fun bt282 => ((digest_Path.f l0 (Int.tmod (wrap64 (a1)) (l0.length : Int))).bind fun bt284 => (if bt282.2 = 0 then (if bt284.2 = 0 then (if (bt284.1.length : Int) > 14 then (formelaw04_DigestLeads.j0 k l0 a2 t280 (Int.tmod (wrap64 (a1)) (l0.length : Int)) (l0.length : Int) bt282.1 bt284.1 true) else (if 0 ≤ (Int.tmod (wrap64 (a1)) (l0.length : Int)) then (if (Int.tmod (wrap64 (a1)) (l0.length : Int)) < (l0.length : Int) then ((digest_Leads.f bt282.1 (rd l0 (Int.tmod (wrap64 (a1)) (l0.length : Int))) (Int.tmod (wrap64 (a1)) (l0.length : Int)) (l0.length : Int) bt284.1).bind fun t289 => (formelaw04_DigestLeads.j0 k l0 a2 t280 (Int.tmod (wrap64 (a1)) (l0.length : Int)) (l0.length : Int) bt282.1 bt284.1 (!t289))) else (none)) else (none))) else (formelaw04_DigestLeads.j0 k l0 a2 t280 (Int.tmod (wrap64 (a1)) (l0.length : Int)) (l0.length : Int) bt282.1 bt284.1 true)) else (formelaw04_DigestLeads.j0 k l0 a2 t280 (Int.tmod (wrap64 (a1)) (l0.length : Int)) (l0.length : Int) bt282.1 bt284.1 true))))) else (some t280)))
theorem formelaw04_DigestLeads.mono_l : ∀ k, (∀ y0 y1 y2 y3 y4 y5 y6 y7, LeO (formelaw04_DigestLeads.j0 k y0 y1 y2 y3 y4 y5 y6 y7) (formelaw04_DigestLeads.j0 (k + 1) y0 y1 y2 y3 y4 y5 y6 y7))
  | 0 => fun _ _ _ _ _ _ _ _ r h => by simp [formelaw04_DigestLeads.j0] at h
  | k + 1 => by
    have ih0 := formelaw04_DigestLeads.mono_l k
    · intro y0 y1 y2 y3 y4 y5 y6 y7
      unfold formelaw04_DigestLeads.j0
      repeat' first
      | (with_reducible exact ih0 _ _ _ _ _ _ _ _)
      | (with_reducible exact LeO.refl _)
      | (with_reducible exact LeO.none _)
      | (with_reducible refine LeO.ite ?_ ?_)
      | (with_reducible refine LeO.bind ?_ (fun _ => ?_))
      | exact ih0 _ _ _ _ _ _ _ _
      | exact LeO.none _
      | refine LeO.ite ?_ ?_
      | refine LeO.bind ?_ (fun _ => ?_)
theorem formelaw04_DigestLeads.mono : ∀ a0 a1 a2 k, LeO (formelaw04_DigestLeads.f k a0 a1 a2) (formelaw04_DigestLeads.f (k + 1) a0 a1 a2) := by
  intro a0 a1 a2 k
  have ih0 := formelaw04_DigestLeads.mono_l k
  unfold formelaw04_DigestLeads.f
  repeat' first
      | (with_reducible exact ih0 _ _ _ _ _ _ _ _)
      | (with_reducible exact LeO.refl _)
      | (with_reducible exact LeO.none _)
      | (with_reducible refine LeO.ite ?_ ?_)
      | (with_reducible refine LeO.bind ?_ (fun _ => ?_))
      | exact ih0 _ _ _ _ _ _ _ _
      | exact LeO.none _
      | refine LeO.ite ?_ ?_
      | refine LeO.bind ?_ (fun _ => ?_)
def formelaw04_DigestLeads.T11 : Bool × List (List Nat × List Nat) := (true, [([], []), ([0], [0]), ([1], [1]), ([2, 1], [1, 2]), ([3, 1], [1, 3]), ([4, 1, 1], [1, 4]), ([5], [5]), ([5], [5]), ([5], [5]), ([7, 8, 5], [5, 7, 8]), ([9, 5], [5, 9]), ([5], [5]), ([5], [5]), ([5], [5]), ([13, 5], [5, 13]), ([6, 10, 11, 12, 14, 5, 5], [5, 6, 10, 11, 12, 14]), ([15, 5], [5, 15]), ([16, 15, 5], [5, 16]), ([17], [17]), ([17], [17]), ([17], [17]), ([19, 20, 17], [17, 19, 20]), ([21, 17], [17, 21]), ([17], [17]), ([17], [17]), ([17], [17]), ([17], [17]), ([26, 17], [17, 26]), ([27, 17], [17, 27]), ([25, 28, 17], [17, 25, 28]), ([18, 22, 23, 24, 29, 17, 17], [17, 18, 22, 23, 24, 29]), ([30, 17], [17, 30]), ([17, 31, 5], [5, 17, 31]), ([5, 32, 1], [1, 5, 32]), ([1, 33], [1, 33]), ([34, 30, 0, 1, 2, 3, 4, 5, 6, 7, 8, 9, 10, 11, 12, 13, 14, 15, 16, 17, 18, 19, 20, 21, 22, 23, 24, 25, 26, 27, 28, 29, 30, 31, 32, 33, 34], [34])])
def formelaw04_DigestLeads.B11 : List Nat := [0, 1, 3, 7, 15, 31, 63, 63, 63, 447, 959, 63, 63, 63, 8255, 32767, 65535, 131071, 262143, 262143, 262143, 1835007, 3932159, 262143, 262143, 262143, 262143, 67371007, 201588735, 503578623, 1073741823, 2147483647, 4294967295, 8589934591, 17179869183, 34359738367]
theorem formelaw04_DigestLeads.tab11 : rtab .any (opsOf Tryd.f7 11) = formelaw04_DigestLeads.T11 := by kernel_rfl
theorem formelaw04_DigestLeads.bits11 : waitsOk formelaw04_DigestLeads.T11.2 formelaw04_DigestLeads.B11 = true := by kernel_rfl
end
section
def formeref04_Left.l0 : Nat → Int → Int → Int → List Bool → Option (Bool)
  | 0, _, _, _, _ => none
  | k + 1, x0, x1, x2, x7 => if x1 > 1 then ((formeref04_Half.f k x1).bind fun t317 => (if x0 < t317 then (if x7.length < 140737488355328 then (formeref04_Left.l0 k x0 t317 x2 (x7 ++ [true])) else (none)) else (if x7.length < 140737488355328 then (formeref04_Left.l0 k (wrap64 (x0 - t317)) (wrap64 (x1 - t317)) x2 (x7 ++ [false])) else (none)))) else (if (wrap64 ((wrap64 ((x7.length : Int) - 1)) - x2)) ≥ 0 then (if (wrap64 ((wrap64 ((x7.length : Int) - 1)) - x2)) < (x7.length : Int) then (if 0 ≤ (wrap64 ((wrap64 ((x7.length : Int) - 1)) - x2)) then (some (rdOf false x7 (wrap64 ((wrap64 ((x7.length : Int) - 1)) - x2)))) else (none)) else (some false)) else (some false))
def formeref04_Left.f (k : Nat) (a0 : Int) (a1 : Int) (a2 : Int) : Option (Bool) := formeref04_Left.l0 k a0 a1 a2 ([] : List Bool)
theorem formeref04_Left.mono_l : ∀ k, (∀ y0 y1 y2 y3, LeO (formeref04_Left.l0 k y0 y1 y2 y3) (formeref04_Left.l0 (k + 1) y0 y1 y2 y3))
  | 0 => fun _ _ _ _ r h => by simp [formeref04_Left.l0] at h
  | k + 1 => by
    have ih0 := formeref04_Left.mono_l k
    · intro y0 y1 y2 y3
      unfold formeref04_Left.l0
      repeat' first
      | (with_reducible exact ih0 _ _ _ _)
      | (with_reducible exact formeref04_Half.mono _ _)
      | (with_reducible exact LeO.refl _)
      | (with_reducible exact LeO.none _)
      | (with_reducible refine LeO.ite ?_ ?_)
      | (with_reducible refine LeO.bind ?_ (fun _ => ?_))
      | exact ih0 _ _ _ _
      | exact formeref04_Half.mono _ _
      | exact LeO.none _
      | refine LeO.ite ?_ ?_
      | refine LeO.bind ?_ (fun _ => ?_)
theorem formeref04_Left.mono : ∀ a0 a1 a2 k, LeO (formeref04_Left.f k a0 a1 a2) (formeref04_Left.f (k + 1) a0 a1 a2) := by
  intro a0 a1 a2 k
  have ih0 := formeref04_Left.mono_l k
  unfold formeref04_Left.f
  repeat' first
      | (with_reducible exact ih0 _ _ _ _)
      | (with_reducible exact formeref04_Half.mono _ _)
      | (with_reducible exact LeO.refl _)
      | (with_reducible exact LeO.none _)
      | (with_reducible refine LeO.ite ?_ ?_)
      | (with_reducible refine LeO.bind ?_ (fun _ => ?_))
      | exact ih0 _ _ _ _
      | exact formeref04_Half.mono _ _
      | exact LeO.none _
      | refine LeO.ite ?_ ?_
      | refine LeO.bind ?_ (fun _ => ?_)
end
section
def formelaw04_meets.l0 : Nat → Int → Int → List Int → List Int → Int → Int → Int → Int → Option (Bool)
  | 0, _, _, _, _, _, _, _, _ => none
  | k + 1, x2, x3, x4, x5, x13, x14, x33, x34 => if x34 < x33 then ((formeref04_Left.f k x2 x3 x34).bind fun t341 => (if 0 ≤ x34 then (if x34 < (x4.length : Int) then ((digest_Pair.f k x13 (rd x4 x34)).bind fun t343 => (if x34 < (x5.length : Int) then ((digest_Pair.f k x14 (rd x5 x34)).bind fun t345 => (if t341 = true then (if t343 = t345 then (if x13 = x14 then (some ((rd x4 x34) != (rd x5 x34))) else (some true)) else (formelaw04_meets.l0 k x2 x3 x4 x5 t343 t345 x33 (wrap64 (x34 + 1)))) else ((digest_Pair.f k (rd x4 x34) x13).bind fun t349 => ((digest_Pair.f k (rd x5 x34) x14).bind fun t351 => (if t349 = t351 then (if x13 = x14 then (some ((rd x4 x34) != (rd x5 x34))) else (some true)) else (formelaw04_meets.l0 k x2 x3 x4 x5 t349 t351 x33 (wrap64 (x34 + 1)))))))) else (none))) else (none)) else (none))) else (some false)
def formelaw04_meets.f (k : Nat) (a0 : Int) (a1 : Int) (a2 : Int) (a3 : Int) (l4 : List Int) (l5 : List Int) : Option (Bool) := (digest_Next.f k a0 (([0] : List Int))).bind fun t328 => ((digest_Next.f k a1 (([0] : List Int))).bind fun t332 => (if t328 = t332 then (some true) else ((digest_Next.f k a0 (([0] : List Int))).bind fun t336 => ((digest_Next.f k a1 (([0] : List Int))).bind fun t340 => (formelaw04_meets.l0 k a2 a3 l4 l5 t336 t340 (l4.length : Int) 0)))))
theorem formelaw04_meets.mono_l : ∀ k, (∀ y0 y1 y2 y3 y4 y5 y6 y7, LeO (formelaw04_meets.l0 k y0 y1 y2 y3 y4 y5 y6 y7) (formelaw04_meets.l0 (k + 1) y0 y1 y2 y3 y4 y5 y6 y7))
  | 0 => fun _ _ _ _ _ _ _ _ r h => by simp [formelaw04_meets.l0] at h
  | k + 1 => by
    have ih0 := formelaw04_meets.mono_l k
    · intro y0 y1 y2 y3 y4 y5 y6 y7
      unfold formelaw04_meets.l0
      repeat' first
      | (with_reducible exact ih0 _ _ _ _ _ _ _ _)
      | (with_reducible exact digest_Next.mono _ _ _)
      | (with_reducible exact digest_Pair.mono _ _ _)
      | (with_reducible exact formeref04_Left.mono _ _ _ _)
      | (with_reducible exact LeO.refl _)
      | (with_reducible exact LeO.none _)
      | (with_reducible refine LeO.ite ?_ ?_)
      | (with_reducible refine LeO.bind ?_ (fun _ => ?_))
      | exact ih0 _ _ _ _ _ _ _ _
      | exact digest_Next.mono _ _ _
      | exact digest_Pair.mono _ _ _
      | exact formeref04_Left.mono _ _ _ _
      | exact LeO.none _
      | refine LeO.ite ?_ ?_
      | refine LeO.bind ?_ (fun _ => ?_)
theorem formelaw04_meets.mono : ∀ a0 a1 a2 a3 a4 a5 k, LeO (formelaw04_meets.f k a0 a1 a2 a3 a4 a5) (formelaw04_meets.f (k + 1) a0 a1 a2 a3 a4 a5) := by
  intro a0 a1 a2 a3 a4 a5 k
  have ih0 := formelaw04_meets.mono_l k
  unfold formelaw04_meets.f
  repeat' first
      | (with_reducible exact ih0 _ _ _ _ _ _ _ _)
      | (with_reducible exact digest_Next.mono _ _ _)
      | (with_reducible exact digest_Pair.mono _ _ _)
      | (with_reducible exact formeref04_Left.mono _ _ _ _)
      | (with_reducible exact LeO.refl _)
      | (with_reducible exact LeO.none _)
      | (with_reducible refine LeO.ite ?_ ?_)
      | (with_reducible refine LeO.bind ?_ (fun _ => ?_))
      | exact ih0 _ _ _ _ _ _ _ _
      | exact digest_Next.mono _ _ _
      | exact digest_Pair.mono _ _ _
      | exact formeref04_Left.mono _ _ _ _
      | exact LeO.none _
      | refine LeO.ite ?_ ?_
      | refine LeO.bind ?_ (fun _ => ?_)
def formelaw04_meets.T8 : Bool × List (List Nat × List Nat) := (true, [([], []), ([], []), ([], []), ([1, 2], [1, 2]), ([3], [3]), ([0, 4], [0, 4]), ([], []), ([], []), ([], []), ([7, 8], [7, 8]), ([9], [9]), ([6, 10, 5], [6, 10]), ([5, 11, 0, 1, 2, 3, 4, 5], [5]), ([11, 12, 0, 1, 2, 3, 4, 5, 6, 7, 8, 9, 10, 11, 12], [11])])
def formelaw04_meets.B8 : List Nat := [0, 0, 0, 6, 14, 31, 0, 0, 0, 384, 896, 2047, 4095, 8191]
theorem formelaw04_meets.tab8 : rtab .any (opsOf Tryd.f27 8) = formelaw04_meets.T8 := by kernel_rfl
theorem formelaw04_meets.bits8 : waitsOk formelaw04_meets.T8.2 formelaw04_meets.B8 = true := by kernel_rfl
def formelaw04_meets.T10 : Bool × List (List Nat × List Nat) := (true, [([], []), ([], []), ([0, 1], [0, 1]), ([2], [2]), ([], []), ([3, 4], [3, 4]), ([], []), ([], []), ([6, 7], [6, 7]), ([8], [8]), ([], []), ([9, 10, 5], [9, 10]), ([5, 11, 0, 1, 2, 3, 4, 5], [5]), ([11, 12, 0, 1, 2, 3, 4, 5, 6, 7, 8, 9, 10, 11, 12], [11])])
def formelaw04_meets.B10 : List Nat := [0, 0, 3, 7, 0, 31, 0, 0, 192, 448, 0, 2047, 4095, 8191]
theorem formelaw04_meets.tab10 : rtab .any (opsOf Tryd.f27 10) = formelaw04_meets.T10 := by kernel_rfl
theorem formelaw04_meets.bits10 : waitsOk formelaw04_meets.T10.2 formelaw04_meets.B10 = true := by kernel_rfl
def formelaw04_meets.T12 : Bool × List (List Nat × List Nat) := (true, [([], []), ([], []), ([0, 1], [0, 1]), ([2], [2]), ([3], [3]), ([3], [3]), ([4, 5, 3], [3, 4, 5]), ([6, 3], [3, 6]), ([3], [3]), ([3], [3]), ([8, 9, 3], [3, 8, 9]), ([10, 3], [3, 10]), ([7, 11, 3], [3, 7, 11]), ([3, 12], [3, 12]), ([13, 3, 0, 1, 2, 3, 4, 5, 6, 7, 8, 9, 10, 11, 12, 13], [13])])
def formelaw04_meets.B12 : List Nat := [0, 0, 3, 7, 15, 15, 63, 127, 15, 15, 783, 1807, 4095, 8191, 16383]
theorem formelaw04_meets.tab12 : rtab .any (opsOf Tryd.f27 12) = formelaw04_meets.T12 := by kernel_rfl
theorem formelaw04_meets.bits12 : waitsOk formelaw04_meets.T12.2 formelaw04_meets.B12 = true := by kernel_rfl
end
section
def formelaw04_DigestOthers.f (l0 : List Int) (a1 a2 : Int) (l3 : List Int) (a4 : Bool) : Option Bool := if 0 ≤ a1 ∧ a1 ≤ 65535 then some true else none
end

end Go.Proofs.YtffmflmpiekcfaaDoor.PAll
