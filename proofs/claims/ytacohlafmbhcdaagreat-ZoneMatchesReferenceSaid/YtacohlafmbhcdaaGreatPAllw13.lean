/- Printed by wip/gprint.py. -/
import Derived.Test.YtacohlafmbhcdaaGreatPAlld1
import Derived.Test.YtacohlafmbhcdaaGreatPAllw0
import Derived.Test.YtacohlafmbhcdaaGreatPAllw4
import Derived.Test.YtacohlafmbhcdaaGreatPAllw8
namespace Go.Proofs.YtacohlafmbhcdaaGreat.PAll
set_option linter.unusedVariables false
set_option linter.unusedSimpArgs false
open Go.RowKit Go.Proofs.YtacohlafmbhcdaaGreatW.PrintWords Go.Proofs.YtacohlafmbhcdaaGreatW.PrintLast Go.Proofs.YtacohlafmbhcdaaGreatW.PrintMore
attribute [local go_sem] max2_int min2_int max_two min_two max_three min_three max_four min_four
set_option maxHeartbeats 4000000 in
set_option maxRecDepth 100000 in
theorem grow_calls (n : Int) (w : World) (h0 : 0 ≤ n) (h1 : n ≤ 8796093022208) :
  Calls Tryz.prog 66 #[.slice none 0 0, .int .i64 n] w fun e w' => ∃ v : Value, e = .returned v ∧ Kd.R k40 40 w' w.heap.size (fun _ => True) v [] ∧ Below w.heap.size w w' := by
 have d0 : decide (n < 0) = false := decide_eq_false (by omega)
 have hw : wrap64 n = n := Go.Proofs.YtacohlafmbhcdaaGreatGlib.wrap64_id (by omega) (by omega)
 have HB := Aside0.mk (Below.refl w.heap.size w)
 by_cases hn : n > 0
 · have d1 : decide (n > 0) = true := decide_eq_true hn
   have d2 : decide (0 < n) = true := decide_eq_true hn
   have d3 : decide (0 < wrap64 n) = true := decide_eq_true (by omega)
   have H0 := Aside0.mk (show 0 ≤ wrap64 n by omega)
   have H1 := Aside0.mk (show wrap64 n ≤ 8796093022208 by omega)
   clear h0 h1 hw
   go_enter Tryz.func66, Tryz.ntmps66
   go_wp2_with ((with_reducible refine gate_builtin (b := .append) (xs := #[.tmp 20, .tmp 21]) rfl ?_); at_builtin; go_loud (refine Kd.R_append_zeros k40 (w0 := w) w.heap.size rfl (.tmp 20) (.tmp 21) 62 3 40 (.agg #[(.int .i64 0), (.int .i64 0)]) 16 rfl Tryz.underlying62 (k := .i64) Tryz.underlying3 info40 rfl (show 0 < 2 by decide) (by decide) (.slice none 0 0) ([] : List S40) z40 (wrap64 n) (fun _ => True) rfl rfl ?aZ (fun _ _ => trivial) ?aO H0.out ?aB (Nat.le_refl _) ?aL ?_; (case aZ => exact k40_M.2 rfl); (case aO => exact Kd.R_nil _ _ _ _ _); (case aB => exact HB.out); (case aL => have := H1.out; have := H0.out; simp only [List.length_nil]; omega); intro v1 w1 ho hb hg hat))
   obtain ⟨A, c, rfl⟩ := Kd.R_slice ho
   have HO := Aside0.mk ho
   have HB2 := Aside0.mk hb
   clear hb hg hat ho HB
   have hl : 0 < ([] ++ List.replicate (wrap64 n).toNat z40 : List S40).length := by simp; have := of_decide_eq_true d3; omega
   obtain ⟨ad, e, _⟩ := (Kd.R_reads' HO.out).2.2.2.2 hl
   subst e
   generalize ([] ++ List.replicate (wrap64 n).toNat z40 : List S40) = zs at *
   have ht63 : Tryz.prog.underlying 62 = some (.slice (Tryz.prog.elem 62)) := Tryz.underlying62.trans (congrArg (fun x => some (TypeDesc.slice x)) (show 40 = Tryz.prog.elem 62 by kernel_rfl))
   have hz33 : ∀ W : World, (Go.sizeOf (Tryz.prog.elem 62)).run Tryz.prog W = .ok 2 W := by rw [show Tryz.prog.elem 62 = 40 by kernel_rfl]; exact Tryz.sizeOf40
   have hsl : ∀ W : World, Sem.run Tryz.prog (Instr.slice 62 (.slice (some ad) zs.length c) none (some (.int .i64 0)) none) W = .ok (.slice (some ad) 0 c) W := by
    intro W
    rw [run_slice_h (P := Tryz.prog) (w := W) 62 (some ad) zs.length c ht63 .i64 0 (by omega) (by omega), hz33 W]
    show Result.ok (Value.slice (if c = 0 then some ad else some (ad.add (0 * 2))) (0 - 0) (c - 0)) W = _
    rw [show ad.add (0 * 2) = ad from rfl, ite_self]
    rfl
   simp only [hsl, Result.andThen_ok]
   go_wp2
   go_ret
   exact ⟨_, rfl, R33_none HO.out, HB2.out⟩
 · have d1 : decide (n > 0) = false := decide_eq_false hn
   have d2 : decide (0 < n) = false := decide_eq_false hn
   go_enter Tryz.func66, Tryz.ntmps66
   go_wp2
   go_ret
   exact ⟨_, rfl, Kd.R_nil _ _ _ _ _, HB.out⟩
set_option maxHeartbeats 8000000 in
set_option maxRecDepth 100000 in
theorem concat_calls (g c : Nat) (A0 : Option Addr) (c0 : Nat) (l0 : List S40) (A1 : Option Addr) (c1 : Nat) (l1 : List S40) (w : World) (hr0 : Kd.C k40 w A0 l0.length l0) (hc0 : l0.length ≤ c0) (hr1 : Kd.C k40 w A1 l1.length l1) (hc1 : l1.length ≤ c1)
  (hg0 : w.cell? ⟨g, 0, none⟩ = some (.slice A0 l0.length c0)) (hg1 : w.cell? ⟨g, 1, none⟩ = some (.slice A1 l1.length c1)) (hl : l0.length + l1.length < 8796093022208) :
  Calls Tryz.prog 59 #[.slice (some ⟨g, 0, none⟩) 2 c] w fun e w' => ∃ v : Value, e = .returned v ∧ Kd.R k40 40 w' w.heap.size (fun _ => True) v (l0 ++ l1) ∧ Below w.heap.size w w' := by
 have hlt := World.block_lt_of_cell? w _ hg0
 simp only at hlt
 have HR0 := Aside0.mk hr0
 have HR1 := Aside0.mk hr1
 have HL := Aside0.mk hl
 have HB := Aside0.mk (Below.refl w.heap.size w)
 have w0 : wrap64 (0 + (l0.length : Int)) = (l0.length : Int) := by rw [Go.Proofs.YtacohlafmbhcdaaGreatGlib.wrap64_id (by omega) (by omega)]; omega
 have w1 : wrap64 ((l0.length : Int) + (l1.length : Int)) = ((l0.length + l1.length : Nat) : Int) := by rw [Go.Proofs.YtacohlafmbhcdaaGreatGlib.wrap64_id (by omega) (by omega)]; omega
 clear hr0 hr1 hc0 hc1 hl
 go_enter Tryz.func59, Tryz.ntmps59
 go_wp2
 go_loopw [3, 11] (fun v3 v11 wr => ∃ x y : Int, v11 = .int .i64 x ∧ v3 = .int .i64 y ∧ Aside0 ((x = 0 ∧ y = 0) ∨ (x = 1 ∧ y = l0.length) ∨ (x = 2 ∧ y = (l0.length + l1.length : Nat))) ∧ Aside0 (wr = w)) (fun _ i _ => 2 - (intOf i).toNat)
 case atStart => exact ⟨0, 0, rfl, rfl, ⟨.inl ⟨rfl, rfl⟩⟩, ⟨rfl⟩⟩
 case round =>
  obtain ⟨x, y, rfl, rfl, HX, HW⟩ := hrel
  have hW := HW.out
  subst hW
  clear HW
  rcases HX.out with ⟨rfl, rfl⟩ | ⟨rfl, rfl⟩ | ⟨rfl, rfl⟩
  · have d0 : decide ((l0.length : Int) < 0) = false := decide_eq_false (by omega)
    have w0' : wrap64 (l0.length : Int) = (l0.length : Int) := by have := HL.out; rw [Go.Proofs.YtacohlafmbhcdaaGreatGlib.wrap64_id (by omega) (by omega)]
    clear HX
    go_wp2
    go_roundw
    case rel => exact ⟨1, l0.length, by go_num, by go_num, ⟨.inr (.inl ⟨rfl, rfl⟩)⟩, ⟨by trivial⟩⟩
    case measure => simp [intOf]
  · have d0 : decide (((l0.length : Int) + (l1.length : Int)) < 0) = false := decide_eq_false (by omega)
    have d1 : decide (((l0.length + l1.length : Nat) : Int) < 0) = false := decide_eq_false (by omega)
    clear HX
    go_wp2
    go_roundw
    case rel => exact ⟨2, (l0.length + l1.length : Nat), by go_num, by go_num, ⟨.inr (.inr ⟨rfl, rfl⟩)⟩, ⟨by trivial⟩⟩
    case measure => simp [intOf]
  · clear HX
    obtain ⟨wz, hz⟩ : ∃ x : World, x = wr := ⟨_, rfl⟩
    subst hz
    have HG := Aside0.mk (grow_calls ((l0.length + l1.length : Nat) : Int) wz (by omega) (by have := HL.out; omega))
    go_wp2_with (go_at_call 66; refine HG.out.mono ?_; rintro e w2 ⟨v, rfl, ho, hb⟩; have HO := Aside0.mk ho; have HB2 := Aside0.mk hb; clear ho hb HB HG)
    go_loopw [6, 27] (fun v6 v27 ws => ∃ (x : Int) (xs : List S40), v27 = .int .i64 x ∧ Aside0 ((x = 0 ∧ xs = []) ∨ (x = 1 ∧ xs = l0) ∨ (x = 2 ∧ xs = l0 ++ l1)) ∧ Aside0 (Kd.R k40 40 ws wz.heap.size (fun _ => True) v6 xs) ∧ Aside0 (Below wz.heap.size wz ws)) (fun _ i _ => 2 - (intOf i).toNat)
    case atStart => exact ⟨0, [], rfl, ⟨.inl ⟨rfl, rfl⟩⟩, HO, HB2⟩
    case round =>
     clear HO HB2
     obtain ⟨x, xs, rfl, HX, HO, HB⟩ := hrel
     have hb0 := (HB.out.cell (p := ⟨g, 0, none⟩) hlt).trans hg0
     have hb1 := (HB.out.cell (p := ⟨g, 1, none⟩) hlt).trans hg1
     rcases HX.out with ⟨rfl, hxs⟩ | ⟨rfl, hxs⟩ | ⟨rfl, hxs⟩ <;> subst xs
     · clear HX
       go_wp2_with ((with_reducible refine gate_builtin (b := .append) (xs := #[.tmp 31, .tmp 32]) rfl ?_); at_builtin; refine Kd.R_append_rows k40 (w0 := wz) wz.heap.size rfl (.tmp 31) (.tmp 32) 62 40 (.agg #[(.int .i64 0), (.int .i64 0)]) 16 rfl Tryz.underlying62 info40 rfl (by decide) (by omega) _ ([] : List S40) l0 _ _ _ (fun _ => True) (fun _ => False) rfl rfl ?aO ?aR (fun _ _ h => h) (fun _ h => h.elim) ?aF ?aB ?aS ?aL ?_; (case aR => exact Kd.C_below HR0.out HB.out); (case aB => exact HB.out); (case aF => exact (fun _ _ => trivial)); (case aO => exact HO.out); (case aS => exact (below_size HB.out)); (case aL => have := HL.out; simp only [List.length_nil]; omega); intro v9 w6 ho hb hg hat; have n0_ := Aside0.mk hb; have n1_ := Aside0.mk (show Kd.R k40 40 w6 wz.heap.size (fun _ => True) v9 (l0) from ho); clear HB HO; have HB := n0_; have HO := n1_; clear n0_ n1_ ho hb hg hat)
       go_roundw
       case rel => exact ⟨1, l0, by go_num, ⟨.inr (.inl ⟨rfl, rfl⟩)⟩, HO, HB⟩
       case measure => simp [intOf]
     · clear HX
       go_wp2_with ((with_reducible refine gate_builtin (b := .append) (xs := #[.tmp 31, .tmp 32]) rfl ?_); at_builtin; refine Kd.R_append_rows k40 (w0 := wz) wz.heap.size rfl (.tmp 31) (.tmp 32) 62 40 (.agg #[(.int .i64 0), (.int .i64 0)]) 16 rfl Tryz.underlying62 info40 rfl (by decide) (by omega) _ (l0 : List S40) l1 _ _ _ (fun _ => True) (fun _ => False) rfl rfl ?aO ?aR (fun _ _ h => h) (fun _ h => h.elim) ?aF ?aB ?aS ?aL ?_; (case aR => exact Kd.C_below HR1.out HB.out); (case aB => exact HB.out); (case aF => exact (fun _ _ => trivial)); (case aO => exact HO.out); (case aS => exact (below_size HB.out)); (case aL => have := HL.out; omega); intro v9 w6 ho hb hg hat; have n0_ := Aside0.mk hb; have n1_ := Aside0.mk (show Kd.R k40 40 w6 wz.heap.size (fun _ => True) v9 (l0 ++ l1) from ho); clear HB HO; have HB := n0_; have HO := n1_; clear n0_ n1_ ho hb hg hat)
       go_roundw
       case rel => exact ⟨2, l0 ++ l1, by go_num, ⟨.inr (.inr ⟨rfl, rfl⟩)⟩, HO, HB⟩
       case measure => simp [intOf]
     · clear HX
       go_wp2
       go_ret
       exact ⟨_, rfl, HO.out, HB.out⟩
theorem sortI_calls {base : Nat} {A : Option Addr} {c : Nat} {xs : List Int} {w : World} (h : Kd.R (Kd.int .i64) 3 w base (fun _ => True) (.slice A xs.length c) xs) (hl : xs.length < 4611686018427387904) :
  Calls Tryz.prog 60 #[.slice A xs.length c] w fun e w' => e = .returned (.tuple #[]) ∧ Kd.R (Kd.int .i64) 3 w' base (fun _ => True) (.slice A xs.length c) (xs.mergeSort fun x y => decide (x ≤ y)) ∧ Below base w w' := by
 have ho := Kd.own_of_R h
 rcases ho.2 with ⟨hv, hn⟩ | ⟨g, cap, cur, hv, hbg, hg, hnc, hcm, hsz, ht⟩
 · have hx : xs = [] := List.eq_nil_of_length_eq_zero hn
   subst hx
   have hcon := Any.slices_Sort_int_none Tryz.lays189 A c w
   change Calls Tryz.prog 60 _ _ _ at hcon
   refine hcon.mono ?_
   rintro e w' ⟨rfl, rfl⟩
   exact ⟨rfl, by rw [List.mergeSort_nil]; exact h, Below.refl _ _⟩
 · cases hv
   have hlt : g < w.heap.size := (Array.getElem?_eq_some_iff.1 hg).1
   have hcon := Any.slices_Sort_int Tryz.lays189 g 0 c xs w (holds_of_blockI hg (by simpa [ints_encs] using ht)) hlt hl
   change Calls Tryz.prog 60 _ _ _ at hcon
   refine hcon.mono ?_
   rintro e w' ⟨rfl, n, os, rfl⟩
   have hlen : (xs.mergeSort fun x y => decide (x ≤ y)).length = xs.length := List.length_mergeSort _
   have hown := ownsRow_sortedI (w := w) (base := base) (n := n) (os := os) (ts := xs.mergeSort fun x y => decide (x ≤ y)) hlen hbg hg hnc hcm (by simpa using hsz)
   refine ⟨rfl, Kd.R_of_own (by rw [hlen]; exact hown) (fun _ _ => trivial), ?_⟩
   exact (Below.refl base w).grown (grownBy_sortedI _) (by omega) (fun k e => by cases e; exact hbg)
theorem compI_calls {base : Nat} {A : Option Addr} {c : Nat} {xs : List Int} {w : World} (h : Kd.R (Kd.int .i64) 3 w base (fun _ => True) (.slice A xs.length c) xs) :
  Calls Tryz.prog 61 #[.slice A xs.length c] w fun e w' => ∃ v : Value, e = .returned v ∧ Kd.R (Kd.int .i64) 3 w' base (fun _ => True) v (Lib.compact xs) ∧ Below base w w' := by
 have ho := Kd.own_of_R h
 rcases ho.2 with ⟨hv, hn⟩ | ⟨g, cap, cur, hv, hbg, hg, hnc, hcm, hsz, ht⟩
 · have hx : xs = [] := List.eq_nil_of_length_eq_zero hn
   subst hx
   have hcon := Any.slices_Compact_int_empty Tryz.lays20 A c w
   change Calls Tryz.prog 61 _ _ _ at hcon
   refine hcon.mono ?_
   rintro e w' ⟨rfl, rfl⟩
   exact ⟨_, rfl, h, Below.refl _ _⟩
 · cases hv
   have hlt : g < w.heap.size := (Array.getElem?_eq_some_iff.1 hg).1
   have hbig := (Kd.R_reads' h).2.2.2.1
   have hcon := Any.slices_Compact_int Tryz.lays20 g 0 c xs w (holds_of_blockI hg (by simpa [ints_encs] using ht)) hbig hnc
   change Calls Tryz.prog 61 _ _ _ at hcon
   refine hcon.mono ?_
   rintro e w' ⟨rfl, q, rfl⟩
   have hcl : (Lib.compact xs).length ≤ xs.length := by
    unfold Lib.compact Lib.compactUpTo
    rw [List.length_map]
    exact Nat.le_trans (List.length_filter_le _ _) (by simp)
   generalize Lib.compact xs = ys at *
   have hown := ownsRow_sortedI (w := w) (base := base) (n := q) (os := #[]) (ss := xs) (ts := ys ++ List.replicate (xs.length - ys.length) 0) (by simp; omega) hbg hg hnc hcm (by simpa using hsz)
   rw [Go.Sort.grow_empty] at hown
   rcases hown.2 with ⟨hv, _⟩ | ⟨g', cap', cur', hv, hbg', hg', hnc', hcm', hsz', ht'⟩
   · cases hv
   cases hv
   refine ⟨_, rfl, Kd.R_of_own ⟨by simp [ints_encs], .inr ⟨g, c, cur', rfl, hbg, hg', by omega, hcm, hsz', ?_⟩⟩ (fun _ _ => trivial), ?_⟩
   · have := congrArg (List.take (ys.length * 1)) ht'
     rw [List.take_take, Nat.min_eq_left (by omega)] at this
     rw [this, List.map_append, ints_encs, List.take_left' (by simp)]
   · have := grownBy_sortedI (w := w) (g := g) (n := q) (os := #[]) (ys ++ List.replicate (xs.length - ys.length) 0).toArray
     rw [Go.Sort.grow_empty] at this
     exact (Below.refl base w).grown this (by omega) (fun k e => by cases e; exact hbg)
theorem goesV_ {P : Program} {ops : Array Oper} {Q : Exit → Act → World → Prop} {oi : Oper} {N : Option Tmp} {a : Act} {w : World} {K : Act → World → Prop} {f : FuncId} {t : Tmp} {xs : Array Operand} {ts : Array TypeId} (hk : ∀ args W, (callFunc f args).run P W = .ok (.enter f args) W) (args : Array Value)
  (hw : Region.wanted oi (yielded ops a.tmps) = true) (hN : oi.dst = N) (hop : oi.op = .call { callee := .value (.tmp t), args := xs, argTypes := ts }) (hv : a.eval (.tmp t) = .func (.func f) #[] #[]) (hargs : xs.map a.eval = args)
  (h : Calls P f args w fun e w' => ∃ v, e = .returned v ∧ K (a.put N v) w') : if Region.wanted oi (yielded ops a.tmps) = true then Oper.wp P oi a w K Q else K (a.put N undef) w := by
 refine call_ f args hw hN ?_ h
 have he := hk args w
 unfold execOp
 simp [hop, resolve, hv, Deferred.ofValue, invoke, hargs, he]
theorem comp_at {base : Nat} {A : Option Addr} {n c : Nat} {xs eE : List Int} {w : World} (h : Kd.R (Kd.int .i64) 3 w base (fun _ => True) (.slice A n c) (xs.mergeSort fun x y => decide (x ≤ y))) (e : eE = endsP xs) :
  Calls Tryz.prog 61 #[.slice A n c] w fun e w' => ∃ v : Value, e = .returned v ∧ Kd.R (Kd.int .i64) 3 w' base (fun _ => True) v eE ∧ Below base w w' := by
 obtain rfl := (Kd.R_reads' h).1
 subst e
 exact compI_calls h
set_option maxHeartbeats 8000000 in
set_option maxRecDepth 100000 in
theorem zone_sweep.calls (kw : FuncId) (wf : Bool → Bool → Bool) (hkw : ∀ args W, (callFunc kw args).run Tryz.prog W = .ok (.enter kw args) W) (hwf : ∀ (a b : Bool) (r : Bool) (W : World), wantO wf a b = some r → Calls Tryz.prog kw #[.bool a, .bool b] W fun e w' => e = .returned (.bool r) ∧ Drawn0 W w')
  (k : Nat) (A0 : Option Addr) (c0 : Nat) (l0 : List (S40)) (A1 : Option Addr) (c1 : Nat) (l1 : List (S40)) (r : List (S40)) (w : World) (hr0 : Kd.C k40 w A0 l0.length l0) (hc0 : l0.length ≤ c0) (hr1 : Kd.C k40 w A1 l1.length l1) (hc1 : l1.length ≤ c1) (h : zone_sweep.f wf k l0 l1 = some r) :
  Calls Tryz.prog 54 #[.slice A0 l0.length c0, .slice A1 l1.length c1, .func (.func kw) #[] #[]] w fun e w' => ∃ v0_ : Value, e = .returned (v0_) ∧ Kd.R k40 40 w' w.heap.size (fun _ => True) v0_ r ∧ Below w.heap.size w w' := by
 have hu33 := Tryz.underlying40
 have HR0 := Aside0.mk hr0
 have HC0 := Aside0.mk hc0
 clear hr0 hc0
 have HR1 := Aside0.mk hr1
 have HC1 := Aside0.mk hc1
 clear hr1 hc1
 have HB := Aside0.mk (Below.refl w.heap.size w)
 have H : (if l0.length + l1.length < 8796093022208 then zone_sweep.l0 wf k l0 l1 ([] : List Int) (l0 ++ l1) ((l0 ++ l1).length : Int) 0 else none) = some r := h
 clear h
 by_cases c5 : l0.length + l1.length < 8796093022208
 · rw [if_pos c5] at H
   have LMc5 := Aside0.mk c5
   clear c5
   obtain ⟨y240, hy240⟩ : ∃ y_ : List S40, y_ = l0 ++ l1 := ⟨_, rfl⟩
   rw [← hy240] at H
   have Ny240 := Aside0.mk hy240
   clear hy240
   have H' := Aside0.mk H
   clear H
   go_enter Tryz.func54, Tryz.ntmps54
   go_wp2_with (go_at_call 59; refine (concat_calls w.heap.size 2 A0 c0 l0 A1 c1 l1 _ (Kd.C_below HR0.out (below_alloc (Below.refl _ _) _)) HC0.out (Kd.C_below HR1.out (below_alloc (Below.refl _ _) _)) HC1.out ((blk_cell (blk_new w _) 0).trans rfl) ((blk_cell (blk_new w _) 1).trans rfl) LMc5.out).mono ?_; rintro e w6 ⟨v, rfl, ho, hb⟩; rw [← Ny240.out] at ho; have n0_ := Aside0.mk (Kd.R_lower ho (below_size (below_alloc HB.out _))); have n1_ := Aside0.mk (below_step (below_alloc HB.out _) hb); clear HB; have HO242 := n0_; have HB := n1_; clear n0_ n1_ hb ho; obtain ⟨Ao8, co8, eo8⟩ := Kd.R_slice HO242.out; subst eo8)
   go_loopg [7, 18] k (fun kq v7 v18 w' => ∃ (x7_1 : List Int) (x18_1 : Int), v18 = .int .i64 x18_1 ∧ Aside0 (zone_sweep.l0 wf kq l0 l1 x7_1 y240 (y240.length : Int) x18_1 = some r) ∧ Aside0 (kq ≤ k) ∧ Aside0 (Kd.R (Kd.int .i64) 3 w' w.heap.size (fun _ => True) v7 x7_1) ∧ Aside0 (Kd.R k40 40 w' w.heap.size (fun _ => True) (.slice Ao8 y240.length co8) y240) ∧ Aside0 (Below w.heap.size w w'))
   case atStart => exact ⟨(([] : List Int)), (0), (by rfl), H', ⟨Nat.le_refl _⟩, ⟨by exact Kd.R_nil _ _ _ _ _⟩, ⟨by (with_reducible repeat (fail)); exact HO242.out⟩, ⟨by repeat ((with_reducible exact HB.out))⟩⟩
   case round =>
    clear H'
    obtain ⟨x7_1, x18_1, rfl, HA, HK1, HO_7, HO_16, HB⟩ := hrel
    cases gk with
    | zero => exact absurd HA.out (by simp [zone_sweep.l0])
    | succ k1 =>
     have H := HA.out
     clear HA
     simp only [zone_sweep.l0] at H
     by_cases c9 : x18_1 < (y240.length : Int)
     · rw [if_pos c9] at H
       have c9b0 : decide (x18_1 < (y240.length : Int)) = true := decide_eq_true c9
       clear c9
       by_cases c10 : 0 ≤ x18_1
       · rw [if_pos c10] at H
         have c10b0 : decide (0 ≤ x18_1) = true := decide_eq_true c10
         clear c10
         by_cases c11 : x18_1 < (y240.length : Int)
         · rw [if_pos c11] at H
           have c11b0 : decide (x18_1 < (y240.length : Int)) = true := decide_eq_true c11
           clear c11
           obtain ⟨y245, hy245⟩ : ∃ y_ : List Int, y_ = (([(rd_T40 y240 x18_1).f0, wrap64 (((rd_T40 y240 x18_1).f1) + 1)] : List Int)) := ⟨_, rfl⟩
           replace H : (if x7_1.length + y245.length < 17592186044416 then (zone_sweep.l0 wf k1 l0 l1 (x7_1 ++ y245) y240 (y240.length : Int) (wrap64 (x18_1 + 1))) else (none)) = some r := by (have H2_ := (Option.bind_some _ _).symm.trans H; rw [hy245]; with_reducible exact H2_)
           have Ny245 := Aside0.mk hy245
           clear hy245
           by_cases c12 : x7_1.length + y245.length < 17592186044416
           · rw [if_pos c12] at H
             have LMc12 := Aside0.mk c12
             clear c12
             obtain ⟨y248, hy248⟩ : ∃ y_ : List Int, y_ = (x7_1 ++ y245) := ⟨_, rfl⟩
             replace H : (zone_sweep.l0 wf k1 l0 l1 y248 y240 (y240.length : Int) (wrap64 (x18_1 + 1))) = some r := by (rw [hy248]; with_reducible exact H)
             have Ny248 := Aside0.mk hy248
             clear hy248
             have H' := Aside0.mk H
             clear H
             have p243 : 0 ≤ (x18_1 : Int) := of_decide_eq_true (by (with_reducible assumption))
             have q243 : x18_1 < (y240.length : Int) := of_decide_eq_true (by (with_reducible assumption))
             obtain ⟨ad243, e243, hx243_0, hx243_1⟩ := at_T40 (Kd.R_reads' HO_16.out).2.2 x18_1 p243 q243
             cases e243
             replace p243 := eq_true p243
             replace q243 := eq_true q243
             go_wp2_with (first | ((with_reducible refine gate_dst (N := 9) rfl ?_); refine box_event ?hg (N := 9) ?hd (cs := #[.int .i64 0, .int .i64 0]) (t := 40) ?hr ?_; (case hd => rfl); (case hg => rfl); (case hr => (go_simp; done)); intro gb244 hg w13 hbox hb; have n0_ := Aside0.mk (Kd.R_below (by (with_reducible repeat (fail)); exact HO_7.out) hb); have n1_ := Aside0.mk (Kd.R_below (Kd.R_elderB (by (with_reducible repeat (fail)); exact HO_16.out) gb244 (Nat.le_of_eq hg.symm)) hb); have n2_ := Aside0.mk (below_step (by repeat ((with_reducible exact HB.out))) hb); have n3_ := Aside0.mk (hbox); have n4_ := Aside0.mk ((by rw [hg]; exact (below_size (by repeat ((with_reducible exact HB.out)))) : w.heap.size ≤ gb244)); have n5_ := Aside0.mk ((by rw [hg]; exact (below_size (by repeat ((with_reducible exact HB.out)))) : w.heap.size ≤ gb244)); clear HO_7; clear HO_16; clear HB; have HO_7 := n0_; have HO_16 := n1_; have HB := n2_; have BK244 := n3_; have GW244 := n4_; have GE244 := n5_; clear n0_ n1_ n2_ n3_ n4_ n5_; clear hb hbox hg; have hcz14_0 : w13.cell? ⟨gb244, 0, none⟩ = some (.int .i64 0) := (blk_cell BK244.out 0).trans rfl; have hcz14_1 : w13.cell? ⟨gb244, 1, none⟩ = some (.int .i64 0) := (blk_cell BK244.out 1).trans rfl; have hfz14_0 := blk_frozen BK244.out 0; have hfz14_1 := blk_frozen BK244.out 1) | ((with_reducible refine gate_dst (N := 28) rfl ?_); refine Kd.R_lit (Kd.int .i64) _ 3 ?hg (N := 28) ?hd (xs := ([(rd_T40 y240 x18_1).f0, wrap64 (((rd_T40 y240 x18_1).f1) + 1)] : List Int)) (inner := [.int .i64 ((rd_T40 y240 x18_1).f0), .int .i64 (wrap64 (((rd_T40 y240 x18_1).f1) + 1))]) (ok := fun _ => True) (okp := fun _ => True) ?hr ?hp (fun _ hk => hk) trivial (Below.refl _ _) (Nat.le_refl _) (by simp) ?_; (case hd => rfl); (case hg => rfl); (case hr => (go_simp; done)); (case hp => exact (Reps.one (show Kd.M (Kd.int .i64) _ _ _ ((rd_T40 y240 x18_1).f0) [.int .i64 ((rd_T40 y240 x18_1).f0)] from rfl) (Reps.one (show Kd.M (Kd.int .i64) _ _ _ (wrap64 (((rd_T40 y240 x18_1).f1) + 1)) [.int .i64 (wrap64 (((rd_T40 y240 x18_1).f1) + 1))] from rfl) (Reps.none _ _)))); intro v246 w15 ho16 hb hg_ hnew_; clear hg_ hnew_; (rw [← Ny245.out] at ho16); have n0_ := Aside0.mk (Kd.R_elder' (by (with_reducible repeat (fail)); exact (Kd.R_mono (Kd.R_far (p := ⟨gb244, 1, none⟩) (Kd.R_far (p := ⟨gb244, 0, none⟩) (Kd.R_types HO_7.out BK244.out (by decide)) (fun _ hk => hk.2) (.int .i64 ((rd_T40 y240 x18_1).f0))) (fun _ hk => hk.2) (.int .i64 ((rd_T40 y240 x18_1).f1))) (fun _ h_ => h_.1))) (Kd.R_base ho16) hb); have n1_ := Aside0.mk (Kd.R_below (by (with_reducible repeat (fail)); exact (Kd.R_mono (Kd.R_far (p := ⟨gb244, 1, none⟩) (Kd.R_far (p := ⟨gb244, 0, none⟩) (Kd.R_mono HO_16.out (fun k_ hk => (⟨hk, hk.2⟩ : _ ∧ k_ ≠ gb244))) (fun _ hk => hk.2) (.int .i64 ((rd_T40 y240 x18_1).f0))) (fun _ hk => hk.2) (.int .i64 ((rd_T40 y240 x18_1).f1))) (fun _ h_ => h_.1))) hb); have n2_ := Aside0.mk (Kd.R_lower (Kd.R_new' ho16 (Kd.R_lt (by (with_reducible repeat (fail)); exact (Kd.R_mono (Kd.R_far (p := ⟨gb244, 1, none⟩) (Kd.R_far (p := ⟨gb244, 0, none⟩) (Kd.R_types HO_7.out BK244.out (by decide)) (fun _ hk => hk.2) (.int .i64 ((rd_T40 y240 x18_1).f0))) (fun _ hk => hk.2) (.int .i64 ((rd_T40 y240 x18_1).f1))) (fun _ h_ => h_.1))))) (below_size (by repeat ((with_reducible first | exact HB.out | refine below_set ?_ GE244.out))))); have n3_ := Aside0.mk (blk_below (g := gb244) (o := .cells #[.int .i64 ((rd_T40 y240 x18_1).f0), .int .i64 ((rd_T40 y240 x18_1).f1)] 40 (0, 0)) (by (with_reducible repeat (fail)); refine blk_put (cs := #[.int .i64 ((rd_T40 y240 x18_1).f0), .int .i64 0]) ?_ 1 _ rfl; (with_reducible repeat (fail)); refine blk_put (cs := #[.int .i64 0, .int .i64 0]) ?_ 0 _ rfl; (with_reducible repeat (fail)); exact BK244.out) hb); have n4_ := Aside0.mk (below_step (by repeat ((with_reducible first | exact HB.out | refine below_set ?_ GE244.out))) hb); clear HO_7; clear HO_16; clear BK244; clear HB; have HO_7 := n0_; have HO_16 := n1_; have HO247 := n2_; have BK244 := n3_; have HB := n4_; clear n0_ n1_ n2_ n3_ n4_; clear hb ho16; obtain ⟨Ao18, co18, eo18⟩ := Kd.R_slice HO247.out; subst eo18) | ((with_reducible refine gate_builtin (b := .append) (xs := #[.tmp 22, .tmp 28]) rfl ?_); at_builtin; refine Kd.R_append_rows (Kd.int .i64) (w0 := w) w.heap.size rfl (.tmp 22) (.tmp 28) 71 3 (.int .i64 0) 8 rfl Tryz.underlying71 info3 rfl (by decide) (by omega) u7 x7_1 y245 _ _ _ (fun k_ => some k_ ≠ (.slice Ao18 y245.length co18 : Value).ownBlock) (fun _ => False) rfl rfl ?aO ?aR (fun _ _ h => h) (fun _ h => h.elim) ?aF ?aB ?aS ?aL ?_; (case aR => repeat (exact (Kd.R_reads' HO247.out).2.2)); (case aB => exact (by repeat ((with_reducible exact HB.out)))); (case aF => exact (fun k_ hk => Kd.fresh' (Kd.R_lt (by (with_reducible repeat (fail)); exact HO247.out)) k_ hk)); (case aO => exact (by (with_reducible repeat (fail)); exact Kd.R_mono HO_7.out (fun _ hk => hk.2))); (case aS => exact (below_size (by repeat ((with_reducible exact HB.out))))); (case aL => have := LMc12.out; omega); intro v249 w17 ho hb hg hat; rw [← Ny248.out] at ho; have n0_ := Aside0.mk (Kd.R_over' (by (with_reducible repeat (fail)); exact HO_16.out) (Kd.R_typed (by (with_reducible repeat (fail)); exact HO_7.out)) (by decide) hg); have n1_ := Aside0.mk (blk_grown (g := gb244) (o := .cells #[.int .i64 ((rd_T40 y240 x18_1).f0), .int .i64 ((rd_T40 y240 x18_1).f1)] 40 (0, 0)) (by (with_reducible repeat (fail)); exact BK244.out) hg (Kd.R_ne HO_7.out BK244.out (by decide))); have n2_ := Aside0.mk (Kd.R_after (ok := (fun _ => True)) (by (with_reducible repeat (fail)); exact HO247.out) hg hat); have n3_ := Aside0.mk (hb); have n4_ := Aside0.mk (ho); clear HO_16; clear BK244; clear HO247; clear HB; clear HO_7; have HO_16 := n0_; have BK244 := n1_; have HO247 := n2_; have HB := n3_; have HO250 := n4_; clear n0_ n1_ n2_ n3_ n4_; clear ho hb hg hat))
             go_roundg k1
             case measure => have := HK1.out; omega
             case rel => exact ⟨(y248), (wrap64 (x18_1 + 1)), (by rfl), H', ⟨by have := HK1.out; omega⟩, ⟨by (with_reducible repeat (fail)); exact Kd.R_mono HO250.out (fun _ hk => trivial)⟩, ⟨by (with_reducible repeat (fail)); exact Kd.R_mono HO_16.out (fun _ hk => trivial)⟩, ⟨by repeat ((with_reducible exact HB.out))⟩⟩
           · rw [if_neg c12] at H
             exact absurd H (by simp)
         · rw [if_neg c11] at H
           exact absurd H (by simp)
       · rw [if_neg c10] at H
         exact absurd H (by simp)
     · rw [if_neg c9] at H
       have c9b0 : decide (x18_1 < (y240.length : Int)) = false := decide_eq_false c9
       clear c9
       have c18 : x7_1.length < 17592186044416 := by
        rcases Nat.lt_or_ge x7_1.length 17592186044416 with c | c
        · exact c
        · rw [if_neg (by omega)] at H
          cases H
       rw [if_pos c18] at H
       have H' := Aside0.mk H
       clear H
       obtain ⟨eE, heE⟩ : ∃ y_ : List Int, y_ = endsP x7_1 := ⟨_, rfl⟩
       rw [← heE] at H'
       have NeE := Aside0.mk heE
       clear heE
       obtain ⟨Ae, ce, eoe⟩ := Kd.R_slice HO_7.out
       subst eoe
       have hl7 : x7_1.length < 4611686018427387904 := by omega
       go_wp2_with (first | (go_at_call 60; refine (sortI_calls HO_7.out hl7).mono ?_; rintro e w9 ⟨rfl, ho, hb⟩; have n0_ := Aside0.mk ho; have n1_ := Aside0.mk (HB.out.trans hb); clear HB HO_7; have HO_7 := n0_; have HB := n1_; clear n0_ n1_ ho hb) | (go_at_call 61; refine (comp_at HO_7.out NeE.out).mono ?_; rintro e w10 ⟨vE, rfl, ho, hb⟩; have n0_ := Aside0.mk ho; have n1_ := Aside0.mk (HB.out.trans hb); clear HB HO_7; have HO_7 := n0_; have HB := n1_; clear n0_ n1_ ho hb))
       go_loopg [11, 12] k1 (fun kq v11 v12 w' => ∃ (x11_2 : List (S40)) (x12_2 : Int), v12 = .int .i64 x12_2 ∧ Aside0 (zone_sweep.l1 wf kq l0 l1 eE x11_2 x12_2 = some r) ∧ Aside0 (kq ≤ k1) ∧ Aside0 (Kd.R (Kd.int .i64) 3 w' w.heap.size (fun _ => True) vE eE) ∧ Aside0 (Kd.R k40 40 w' w.heap.size (fun _ => True) v11 x11_2) ∧ Aside0 (Below w.heap.size w w'))
       case atStart => exact ⟨(([] : List (S40))), (0), (by rfl), H', ⟨Nat.le_refl _⟩, ⟨by (with_reducible repeat (fail)); exact HO_7.out⟩, ⟨by exact Kd.R_nil _ _ _ _ _⟩, ⟨by repeat ((with_reducible exact HB.out))⟩⟩
       case round =>
        clear H'
        try clear c9b0
        obtain ⟨x11_2, x12_2, rfl, HA, HK2, HO_7, HO_11, HB⟩ := hrel
        cases gk with
        | zero => exact absurd HA.out (by simp [zone_sweep.l1])
        | succ k2 =>
         have H := HA.out
         clear HA
         simp only [zone_sweep.l1] at H
         by_cases c19 : (wrap64 (x12_2 + 1)) < (eE.length : Int)
         · rw [if_pos c19] at H
           have c19b0 : decide ((wrap64 (x12_2 + 1)) < (eE.length : Int)) = true := decide_eq_true c19
           clear c19
           by_cases c20 : 0 ≤ x12_2
           · rw [if_pos c20] at H
             have c20b0 : decide (0 ≤ x12_2) = true := decide_eq_true c20
             clear c20
             by_cases c21 : x12_2 < (eE.length : Int)
             · rw [if_pos c21] at H
               have c21b0 : decide (x12_2 < (eE.length : Int)) = true := decide_eq_true c21
               clear c21
               replace H := Option.bind_eq_some_iff.mp H
               obtain ⟨t255, A220, H⟩ := H
               replace H : ((zone_sweep_1.f l1 (rd eE x12_2)).bind fun t257 => ((wantO wf t255 t257).bind fun t258 => (if t258 = true then (if 0 ≤ (wrap64 (x12_2 + 1)) then (if x11_2.length < 8796093022208 then (zone_sweep.l1 wf k2 l0 l1 eE (x11_2 ++ [(⟨rd eE x12_2, wrap64 ((rd eE (wrap64 (x12_2 + 1))) - 1)⟩ : S40)]) (wrap64 (x12_2 + 1))) else (none)) else (none)) else (zone_sweep.l1 wf k2 l0 l1 eE x11_2 (wrap64 (x12_2 + 1)))))) = some r := H
               have A22 := Aside0.mk A220
               clear A220
               replace H := Option.bind_eq_some_iff.mp H
               obtain ⟨t257, A230, H⟩ := H
               replace H : ((wantO wf t255 t257).bind fun t258 => (if t258 = true then (if 0 ≤ (wrap64 (x12_2 + 1)) then (if x11_2.length < 8796093022208 then (zone_sweep.l1 wf k2 l0 l1 eE (x11_2 ++ [(⟨rd eE x12_2, wrap64 ((rd eE (wrap64 (x12_2 + 1))) - 1)⟩ : S40)]) (wrap64 (x12_2 + 1))) else (none)) else (none)) else (zone_sweep.l1 wf k2 l0 l1 eE x11_2 (wrap64 (x12_2 + 1))))) = some r := H
               have A23 := Aside0.mk A230
               clear A230
               replace H := Option.bind_eq_some_iff.mp H
               obtain ⟨t258, A240, H⟩ := H
               replace H : (if t258 = true then (if 0 ≤ (wrap64 (x12_2 + 1)) then (if x11_2.length < 8796093022208 then (zone_sweep.l1 wf k2 l0 l1 eE (x11_2 ++ [(⟨rd eE x12_2, wrap64 ((rd eE (wrap64 (x12_2 + 1))) - 1)⟩ : S40)]) (wrap64 (x12_2 + 1))) else (none)) else (none)) else (zone_sweep.l1 wf k2 l0 l1 eE x11_2 (wrap64 (x12_2 + 1)))) = some r := H
               have A24 := Aside0.mk A240
               clear A240
               by_cases c25 : t258 = true
               · subst c25
                 have H1 : (if 0 ≤ (wrap64 (x12_2 + 1)) then (if x11_2.length < 8796093022208 then (zone_sweep.l1 wf k2 l0 l1 eE (x11_2 ++ [(⟨rd eE x12_2, wrap64 ((rd eE (wrap64 (x12_2 + 1))) - 1)⟩ : S40)]) (wrap64 (x12_2 + 1))) else (none)) else (none)) = some r := by rw [if_pos rfl] at H; exact H
                 clear H
                 have H := H1
                 clear H1
                 obtain ⟨ji26, hji26⟩ : ∃ j_ : Int, (wrap64 (x12_2 + 1)) = j_ := ⟨_, rfl⟩
                 replace H : (if 0 ≤ (ji26) then (if x11_2.length < 8796093022208 then (zone_sweep.l1 wf k2 l0 l1 eE (x11_2 ++ [(⟨rd eE x12_2, wrap64 ((rd eE (ji26)) - 1)⟩ : S40)]) ji26) else (none)) else (none)) = some r := by (rw [hji26] at H; exact H)
                 (try rw [hji26] at c19b0)
                 (try rw [hji26] at A22)
                 (try rw [hji26] at A23)
                 (try rw [hji26] at A24)
                 have hji26w : (IntKind.i64.wrap (x12_2 + 1)) = ji26 := (i64_w _).trans hji26
                 by_cases c27 : 0 ≤ (ji26)
                 · rw [if_pos c27] at H
                   have c27b0 : decide (0 ≤ (ji26)) = true := decide_eq_true c27
                   clear c27
                   by_cases c28 : x11_2.length < 8796093022208
                   · rw [if_pos c28] at H
                     have LMc28 := Aside0.mk c28
                     clear c28
                     obtain ⟨y261, hy261⟩ : ∃ y_ : List (S40), y_ = (x11_2 ++ [(⟨rd eE x12_2, wrap64 ((rd eE (ji26)) - 1)⟩ : S40)]) := ⟨_, rfl⟩
                     replace H : (zone_sweep.l1 wf k2 l0 l1 eE y261 ji26) = some r := by (rw [hy261]; with_reducible exact H)
                     have Ny261 := Aside0.mk hy261
                     clear hy261
                     have H' := Aside0.mk H
                     clear H
                     obtain ⟨Ao29, co29, eo29⟩ := Kd.R_slice HO_7.out
                     subst eo29
                     try go_wp2
                     have n0_ := Aside0.mk (Kd.R_drew HO_7.out)
                     have n1_ := Aside0.mk (Kd.R_drew HO_11.out)
                     have n2_ := Aside0.mk (below_drew1 HB.out)
                     clear HO_7
                     clear HO_11
                     clear HB
                     have HO_7 := n0_
                     have HO_11 := n1_
                     have HB := n2_
                     clear n0_ n1_ n2_
                     have p254 : 0 ≤ (x12_2 : Int) := of_decide_eq_true (by (with_reducible assumption))
                     have q254 : x12_2 < (eE.length : Int) := of_decide_eq_true (by (with_reducible assumption))
                     obtain ⟨ad254, e254, hx254_0⟩ := Kd.at_int (Kd.R_reads' HO_7.out).2.2 x12_2 p254 q254
                     cases e254
                     replace p254 := eq_true p254
                     replace q254 := eq_true q254
                     have p256 : 0 ≤ (x12_2 : Int) := of_decide_eq_true (by (with_reducible assumption))
                     have q256 : x12_2 < (eE.length : Int) := of_decide_eq_true (by (with_reducible assumption))
                     obtain ⟨ad256, e256, hx256_0⟩ := Kd.at_int (Kd.R_reads' HO_7.out).2.2 x12_2 p256 q256
                     obtain rfl : ad254 = ad256 := (by injection e256)
                     replace p256 := eq_true p256
                     replace q256 := eq_true q256
                     refine start_ (n := 16) (S := fun w' => w'.cell? (ad254.add (x12_2).toNat) = some (.int .i64 (rd eE x12_2)) ∧ w'.cell? (ad254.add (x12_2).toNat) = some (.int .i64 (rd eE x12_2))) (ds := []) #[false, false, false, false, false, false, false, false, false, false, false, false, false, false, false, false] (by kernel_rfl) rfl rfl ⟨hx254_0, hx256_0⟩ (fun hHeld => ?_); refine with_tabW zone_sweep.tab14 zone_sweep.bits14 (fun HT_ HW_ => ?_)
                     generalize wr.drew = w30 at HO_7 HO_11 HB hx254_0 hx256_0 hHeld ⊢
                     refine pure_ (i := 0) (N := some 42) (v := ?_) (a' := ?_) #[true, false, false, false, false, false, false, false, false, false, false, false, false, false, false, false] rfl rfl (any_of HT_.out (by kernel_rfl)) (fun _ _ _ h => h) (Or.inl ⟨by rfl, ?_⟩) ?_ ?_
                     rotate_left
                     · intro w'
                       go_simp
                       with_reducible rfl
                     rotate_left
                     · simp only [Act.put, List.setIfInBounds_toArray, List.set_cons_zero, List.set_cons_succ, i64_w, i32_w]
                       rfl
                     refine pure_ (i := 1) (N := some 43) (v := ?_) (a' := ?_) #[true, true, false, false, false, false, false, false, false, false, false, false, false, false, false, false] rfl rfl (any_of HT_.out (by kernel_rfl)) (fun _ _ _ h => h) (Or.inl ⟨by rfl, ?_⟩) ?_ ?_
                     rotate_left
                     · intro w'
                       go_simp
                       with_reducible rfl
                     rotate_left
                     · simp only [Act.put, List.setIfInBounds_toArray, List.set_cons_zero, List.set_cons_succ, i64_w, i32_w]
                       rfl
                     refine pure_ (i := 2) (N := some 44) (v := ?_) (a' := ?_) #[true, true, true, false, false, false, false, false, false, false, false, false, false, false, false, false] rfl rfl (any_of HT_.out (by kernel_rfl)) (fun _ _ _ h => h) (Or.inl ⟨by rfl, ?_⟩) ?_ ?_
                     rotate_left
                     · intro w'
                       go_simp
                       with_reducible rfl
                     rotate_left
                     · simp only [Act.put, List.setIfInBounds_toArray, List.set_cons_zero, List.set_cons_succ, i64_w, i32_w]
                       rfl
                     refine pure_ (i := 3) (N := some 45) (v := ?_) (a' := ?_) #[true, true, true, true, false, false, false, false, false, false, false, false, false, false, false, false] rfl rfl (any_of HT_.out (by kernel_rfl)) (fun _ _ _ h => h) (Or.inl ⟨by rfl, ?_⟩) ?_ ?_
                     rotate_left
                     · intro w'
                       go_simp
                       with_reducible rfl
                     rotate_left
                     · simp only [Act.put, List.setIfInBounds_toArray, List.set_cons_zero, List.set_cons_succ, i64_w, i32_w]
                       rfl
                     refine pure_ (i := 4) (N := some 46) (v := ?_) (a' := ?_) #[true, true, true, true, true, false, false, false, false, false, false, false, false, false, false, false] rfl rfl (any_of HT_.out (by kernel_rfl)) (fun _ _ _ h => h) (Or.inl ⟨by rfl, ?_⟩) ?_ ?_
                     rotate_left
                     · intro w'
                       go_simp
                       with_reducible rfl
                     rotate_left
                     · simp only [Act.put, List.setIfInBounds_toArray, List.set_cons_zero, List.set_cons_succ, i64_w, i32_w]
                       rfl
                     refine pure_ (i := 5) (N := some 47) (v := ?_) (a' := ?_) #[true, true, true, true, true, true, false, false, false, false, false, false, false, false, false, false] rfl rfl (any_of HT_.out (by kernel_rfl)) (fun _ _ _ h => h) (Or.inl ⟨by rfl, ?_⟩) ?_ ?_
                     rotate_left
                     · intro w'
                       go_simp
                       with_reducible rfl
                     rotate_left
                     · simp only [Act.put, List.setIfInBounds_toArray, List.set_cons_zero, List.set_cons_succ, i64_w, i32_w]
                       rfl
                     refine pure_ (i := 8) (N := some 50) (v := ?_) (a' := ?_) #[true, true, true, true, true, true, false, false, true, false, false, false, false, false, false, false] rfl rfl (any_of HT_.out (by kernel_rfl)) (fun _ _ _ h => h) (Or.inl ⟨by rfl, ?_⟩) ?_ ?_
                     rotate_left
                     · intro w'
                       go_simp
                       with_reducible rfl
                     rotate_left
                     · simp only [Act.put, List.setIfInBounds_toArray, List.set_cons_zero, List.set_cons_succ, i64_w, i32_w]
                       rfl
                     refine pure_ (i := 9) (N := some 51) (v := ?_) (a' := ?_) #[true, true, true, true, true, true, false, false, true, true, false, false, false, false, false, false] rfl rfl (any_of HT_.out (by kernel_rfl)) (fun _ _ _ h => h) (Or.inl ⟨by rfl, ?_⟩) ?_ ?_
                     rotate_left
                     · intro w'
                       go_simp
                       with_reducible rfl
                     rotate_left
                     · simp only [Act.put, List.setIfInBounds_toArray, List.set_cons_zero, List.set_cons_succ, i64_w, i32_w]
                       rfl
                     refine pure_ (i := 10) (N := some 52) (v := ?_) (a' := ?_) #[true, true, true, true, true, true, false, false, true, true, true, false, false, false, false, false] rfl rfl (any_of HT_.out (by kernel_rfl)) (fun _ _ _ h => h) (Or.inl ⟨by rfl, ?_⟩) ?_ ?_
                     rotate_left
                     · intro w'
                       go_simp
                       with_reducible rfl
                     rotate_left
                     · simp only [Act.put, List.setIfInBounds_toArray, List.set_cons_zero, List.set_cons_succ, i64_w, i32_w]
                       rfl
                     refine pure_ (i := 11) (N := some 53) (v := ?_) (a' := ?_) #[true, true, true, true, true, true, false, false, true, true, true, true, false, false, false, false] rfl rfl (any_of HT_.out (by kernel_rfl)) (fun _ _ _ h => h) (Or.inl ⟨by rfl, ?_⟩) ?_ ?_
                     rotate_left
                     · intro w'
                       go_simp
                       with_reducible rfl
                     rotate_left
                     · simp only [Act.put, List.setIfInBounds_toArray, List.set_cons_zero, List.set_cons_succ, i64_w, i32_w]
                       rfl
                     refine pure_ (i := 12) (N := some 54) (v := ?_) (a' := ?_) #[true, true, true, true, true, true, false, false, true, true, true, true, true, false, false, false] rfl rfl (any_of HT_.out (by kernel_rfl)) (fun _ _ _ h => h) (Or.inl ⟨by rfl, ?_⟩) ?_ ?_
                     rotate_left
                     · intro w'
                       go_simp
                       with_reducible rfl
                     rotate_left
                     · simp only [Act.put, List.setIfInBounds_toArray, List.set_cons_zero, List.set_cons_succ, i64_w, i32_w]
                       rfl
                     refine take_ (i := 6) (N := some 48) (v := ?_) (a' := ?_) #[true, true, true, true, true, true, true, false, true, true, true, true, true, false, false, false] rfl rfl (take_ofW HT_.out HW_.out (by kernel_rfl)) (fun _ _ _ h => h) (Or.inl ⟨by rfl, ?_⟩) hHeld ?_ ?_
                     rotate_left
                     · rintro w' ⟨s0, s1⟩
                       go_simp
                       with_reducible rfl
                     rotate_left
                     · simp only [Act.put, List.setIfInBounds_toArray, List.set_cons_zero, List.set_cons_succ, i64_w, i32_w]
                       rfl
                     refine take_ (i := 13) (N := some 55) (v := ?_) (a' := ?_) #[true, true, true, true, true, true, true, false, true, true, true, true, true, true, false, false] rfl rfl (take_ofW HT_.out HW_.out (by kernel_rfl)) (fun _ _ _ h => h) (Or.inl ⟨by rfl, ?_⟩) hHeld ?_ ?_
                     rotate_left
                     · rintro w' ⟨s0, s1⟩
                       go_simp
                       with_reducible rfl
                     rotate_left
                     · simp only [Act.put, List.setIfInBounds_toArray, List.set_cons_zero, List.set_cons_succ, i64_w, i32_w]
                       rfl
                     refine one_ (i := 7) (N := some 49) #[true, true, true, true, true, true, true, true, true, true, true, true, true, true, false, false] rfl rfl (one_of HT_.out (by kernel_rfl)) (by decide) (fun K hK => ?_)
                     refine goesT_ Tryz.func62 (by kernel_rfl) rfl #[.slice A0 l0.length c0, .int .i64 (rd eE x12_2)] (by rfl) rfl rfl rfl (by (try simp only [List.map_toArray, List.map_cons, List.map_nil]); rfl) ?_
                     with_reducible refine (zone_sweep_1.calls _ _ l0 (rd eE x12_2) t255 _ ?side1 ?side2 A22.out).mono ?_
                     (case side1 => repeat (exact (Kd.C_below HR0.out HB.out)))
                     (case side2 => exact HC0.out)
                     rintro e w31 ⟨rfl, hb⟩
                     have HS0_ := (hb.cell (World.block_lt_of_cell? _ _ (hHeld.1))).trans (hHeld.1)
                     have HS1_ := (hb.cell (World.block_lt_of_cell? _ _ (hHeld.2))).trans (hHeld.2)
                     refine ⟨_, rfl, ?_⟩
                     have n0_ := Aside0.mk (Kd.R_below (by (with_reducible repeat (fail)); exact HO_7.out) hb)
                     have n1_ := Aside0.mk (Kd.R_below (by (with_reducible repeat (fail)); exact HO_11.out) hb)
                     have n2_ := Aside0.mk (below_step (by repeat ((with_reducible exact HB.out))) hb)
                     clear HO_7
                     clear HO_11
                     clear HB
                     have HO_7 := n0_
                     have HO_11 := n1_
                     have HB := n2_
                     clear n0_ n1_ n2_
                     (try clear hb)
                     (skip)
                     (skip)
                     (skip)
                     refine hK.out _ _ ⟨HS0_, HS1_⟩ (fun hHeld => ?_)
                     clear hK K
                     refine norm_ (a' := ?_) ?_ ?_
                     rotate_left
                     · show Act.put _ (some 49) _ = _
                       simp only [Act.put, List.setIfInBounds_toArray, List.set_cons_zero, List.set_cons_succ, i64_w, i32_w]
                       rfl
                     refine one_ (i := 14) (N := some 56) #[true, true, true, true, true, true, true, true, true, true, true, true, true, true, true, false] rfl rfl (one_of HT_.out (by kernel_rfl)) (by decide) (fun K hK => ?_)
                     refine goesT_ Tryz.func62 (by kernel_rfl) rfl #[.slice A1 l1.length c1, .int .i64 (rd eE x12_2)] (by rfl) rfl rfl rfl (by (try simp only [List.map_toArray, List.map_cons, List.map_nil]); rfl) ?_
                     with_reducible refine (zone_sweep_1.calls _ _ l1 (rd eE x12_2) t257 _ ?side1 ?side2 A23.out).mono ?_
                     (case side1 => repeat (exact (Kd.C_below HR1.out HB.out)))
                     (case side2 => exact HC1.out)
                     rintro e w32 ⟨rfl, hb⟩
                     have HS0_ := (hb.cell (World.block_lt_of_cell? _ _ (hHeld.1))).trans (hHeld.1)
                     have HS1_ := (hb.cell (World.block_lt_of_cell? _ _ (hHeld.2))).trans (hHeld.2)
                     refine ⟨_, rfl, ?_⟩
                     have n0_ := Aside0.mk (Kd.R_below (by (with_reducible repeat (fail)); exact HO_7.out) hb)
                     have n1_ := Aside0.mk (Kd.R_below (by (with_reducible repeat (fail)); exact HO_11.out) hb)
                     have n2_ := Aside0.mk (below_step (by repeat ((with_reducible exact HB.out))) hb)
                     clear HO_7
                     clear HO_11
                     clear HB
                     have HO_7 := n0_
                     have HO_11 := n1_
                     have HB := n2_
                     clear n0_ n1_ n2_
                     (try clear hb)
                     (skip)
                     (skip)
                     (skip)
                     refine hK.out _ _ ⟨HS0_, HS1_⟩ (fun hHeld => ?_)
                     clear hK K
                     refine norm_ (a' := ?_) ?_ ?_
                     rotate_left
                     · show Act.put _ (some 56) _ = _
                       simp only [Act.put, List.setIfInBounds_toArray, List.set_cons_zero, List.set_cons_succ, i64_w, i32_w]
                       rfl
                     refine one_ (i := 15) (N := some 57) #[true, true, true, true, true, true, true, true, true, true, true, true, true, true, true, true] rfl rfl (one_of HT_.out (by kernel_rfl)) (by decide) (fun K hK => ?_)
                     refine goesV_ hkw #[.bool t255, .bool t257] (by rfl) rfl rfl rfl (by (try simp only [List.map_toArray, List.map_cons, List.map_nil]); rfl) ?_
                     with_reducible refine (hwf t255 t257 true _ A24.out).mono ?_
                     rintro e w' ⟨rfl, ⟨nd, rfl⟩⟩
                     refine ⟨_, rfl, ?_⟩
                     refine hK.out _ _ ⟨hHeld.1, hHeld.2⟩ (fun hHeld => ?_)
                     clear hK K
                     refine norm_ (a' := ?_) ?_ ?_
                     rotate_left
                     · show Act.put _ (some 57) _ = _
                       simp only [Act.put, List.setIfInBounds_toArray, List.set_cons_zero, List.set_cons_succ, i64_w, i32_w]
                       rfl
                     refine done_ (done_of HT_.out (by kernel_rfl)) ?_
                     try go_wp2
                     (try (rw [drewN_self w32]; generalize hq_ : World.drewN w32 _ = w32; have n0_ : Aside0 (Kd.R k40 40 w32 w.heap.size (fun _ => True) u11 x11_2) := ⟨by rw [← hq_]; exact (by (with_reducible repeat (apply Kd.R_drewN)); exact HO_11.out)⟩; have n1_ : Aside0 (Kd.R (Kd.int .i64) 3 w32 w.heap.size (fun _ => True) (.slice (some ad254) eE.length co29) eE) := ⟨by rw [← hq_]; exact (by (with_reducible repeat (apply Kd.R_drewN)); exact HO_7.out)⟩; have n2_ : Aside0 (Below w.heap.size w w32) := ⟨by rw [← hq_]; exact (by repeat ((with_reducible first | exact HB.out | apply pw_below_drewN)))⟩; clear HO_11 HO_7 HB hq_; have HO_11 := n0_; have HO_7 := n1_; have HB := n2_; clear n0_ n1_ n2_))
                     have n0_ := Aside0.mk (Kd.R_drew HO_7.out)
                     have n1_ := Aside0.mk (Kd.R_drew HO_11.out)
                     have n2_ := Aside0.mk (below_drew1 HB.out)
                     clear HO_7
                     clear HO_11
                     clear HB
                     have HO_7 := n0_
                     have HO_11 := n1_
                     have HB := n2_
                     clear n0_ n1_ n2_
                     have p259 : 0 ≤ (x12_2 : Int) := of_decide_eq_true (by (with_reducible assumption))
                     have q259 : x12_2 < (eE.length : Int) := of_decide_eq_true (by (with_reducible assumption))
                     obtain ⟨ad259, e259, hx259_0⟩ := Kd.at_int (Kd.R_reads' HO_7.out).2.2 x12_2 p259 q259
                     obtain rfl : ad254 = ad259 := (by injection e259)
                     replace p259 := eq_true p259
                     replace q259 := eq_true q259
                     have p260 : 0 ≤ ((ji26) : Int) := of_decide_eq_true (by (with_reducible assumption))
                     have q260 : (ji26) < (eE.length : Int) := of_decide_eq_true (by (with_reducible assumption))
                     obtain ⟨ad260, e260, hx260_0⟩ := Kd.at_int (Kd.R_reads' HO_7.out).2.2 (ji26) p260 q260
                     obtain rfl : ad254 = ad260 := (by injection e260)
                     replace p260 := eq_true p260
                     replace q260 := eq_true q260
                     refine start_ (n := 15) (S := fun w' => w'.cell? (ad254.add (x12_2).toNat) = some (.int .i64 (rd eE x12_2)) ∧ w'.cell? (ad254.add ((ji26)).toNat) = some (.int .i64 (rd eE (ji26)))) (ds := [12, 13]) #[false, false, false, false, false, false, false, false, false, false, false, false, false, false, false] (by kernel_rfl) rfl rfl ⟨hx259_0, hx260_0⟩ (fun hHeld => ?_); refine with_tabW zone_sweep.tab15 zone_sweep.bits15 (fun HT_ HW_ => ?_)
                     generalize w32.drew = w33 at HO_7 HO_11 HB hx259_0 hx260_0 hHeld ⊢
                     refine pure_ (i := 0) (N := some 58) (v := ?_) (a' := ?_) #[true, false, false, false, false, false, false, false, false, false, false, false, false, false, false] rfl rfl (any_of HT_.out (by kernel_rfl)) (fun _ _ _ h => h) (Or.inl ⟨by rfl, ?_⟩) ?_ ?_
                     rotate_left
                     · intro w'
                       go_simp
                       with_reducible rfl
                     rotate_left
                     · simp only [Act.put, List.setIfInBounds_toArray, List.set_cons_zero, List.set_cons_succ, i64_w, i32_w]
                       rfl
                     refine pure_ (i := 1) (N := some 59) (v := ?_) (a' := ?_) #[true, true, false, false, false, false, false, false, false, false, false, false, false, false, false] rfl rfl (any_of HT_.out (by kernel_rfl)) (fun _ _ _ h => h) (Or.inl ⟨by rfl, ?_⟩) ?_ ?_
                     rotate_left
                     · intro w'
                       go_simp
                       with_reducible rfl
                     rotate_left
                     · simp only [Act.put, List.setIfInBounds_toArray, List.set_cons_zero, List.set_cons_succ, i64_w, i32_w]
                       rfl
                     refine pure_ (i := 2) (N := some 60) (v := ?_) (a' := ?_) #[true, true, true, false, false, false, false, false, false, false, false, false, false, false, false] rfl rfl (any_of HT_.out (by kernel_rfl)) (fun _ _ _ h => h) (Or.inl ⟨by rfl, ?_⟩) ?_ ?_
                     rotate_left
                     · intro w'
                       go_simp
                       with_reducible rfl
                     rotate_left
                     · simp only [Act.put, List.setIfInBounds_toArray, List.set_cons_zero, List.set_cons_succ, i64_w, i32_w]
                       rfl
                     refine pure_ (i := 3) (N := some 61) (v := ?_) (a' := ?_) #[true, true, true, true, false, false, false, false, false, false, false, false, false, false, false] rfl rfl (any_of HT_.out (by kernel_rfl)) (fun _ _ _ h => h) (Or.inl ⟨by rfl, ?_⟩) ?_ ?_
                     rotate_left
                     · intro w'
                       go_simp
                       with_reducible rfl
                     rotate_left
                     · simp only [Act.put, List.setIfInBounds_toArray, List.set_cons_zero, List.set_cons_succ, i64_w, i32_w]
                       rfl
                     refine pure_ (i := 5) (N := some 63) (v := ?_) (a' := ?_) #[true, true, true, true, false, true, false, false, false, false, false, false, false, false, false] rfl rfl (any_of HT_.out (by kernel_rfl)) (fun _ _ _ h => h) (Or.inl ⟨by rfl, ?_⟩) ?_ ?_
                     rotate_left
                     · intro w'
                       go_simp
                       with_reducible rfl
                     rotate_left
                     · simp only [Act.put, List.setIfInBounds_toArray, List.set_cons_zero, List.set_cons_succ, i64_w, i32_w]
                       rfl
                     refine pure_ (i := 6) (N := some 64) (v := ?_) (a' := ?_) #[true, true, true, true, false, true, true, false, false, false, false, false, false, false, false] rfl rfl (any_of HT_.out (by kernel_rfl)) (fun _ _ _ h => h) (Or.inl ⟨by rfl, ?_⟩) ?_ ?_
                     rotate_left
                     · intro w'
                       go_simp
                       with_reducible rfl
                     rotate_left
                     · simp only [Act.put, List.setIfInBounds_toArray, List.set_cons_zero, List.set_cons_succ, i64_w, i32_w]
                       rfl
                     refine pure_ (i := 7) (N := some 65) (v := ?_) (a' := ?_) #[true, true, true, true, false, true, true, true, false, false, false, false, false, false, false] rfl rfl (any_of HT_.out (by kernel_rfl)) (fun _ _ _ h => h) (Or.inl ⟨by rfl, ?_⟩) ?_ ?_
                     rotate_left
                     · intro w'
                       go_simp
                       with_reducible rfl
                     rotate_left
                     · simp only [Act.put, List.setIfInBounds_toArray, List.set_cons_zero, List.set_cons_succ, i64_w, i32_w]
                       rfl
                     refine pure_ (i := 8) (N := some 66) (v := ?_) (a' := ?_) #[true, true, true, true, false, true, true, true, true, false, false, false, false, false, false] rfl rfl (any_of HT_.out (by kernel_rfl)) (fun _ _ _ h => h) (Or.inl ⟨by rfl, ?_⟩) ?_ ?_
                     rotate_left
                     · intro w'
                       go_simp
                       with_reducible rfl
                     rotate_left
                     · simp only [Act.put, List.setIfInBounds_toArray, List.set_cons_zero, List.set_cons_succ, i64_w, i32_w]
                       rfl
                     refine take_ (i := 4) (N := some 62) (v := ?_) (a' := ?_) #[true, true, true, true, true, true, true, true, true, false, false, false, false, false, false] rfl rfl (take_ofW HT_.out HW_.out (by kernel_rfl)) (fun _ _ _ h => h) (Or.inl ⟨by rfl, ?_⟩) hHeld ?_ ?_
                     rotate_left
                     · rintro w' ⟨s0, s1⟩
                       go_simp
                       with_reducible rfl
                     rotate_left
                     · simp only [Act.put, List.setIfInBounds_toArray, List.set_cons_zero, List.set_cons_succ, i64_w, i32_w]
                       rfl
                     refine take_ (i := 9) (N := some 67) (v := ?_) (a' := ?_) #[true, true, true, true, true, true, true, true, true, true, false, false, false, false, false] rfl rfl (take_ofW HT_.out HW_.out (by kernel_rfl)) (fun _ _ _ h => h) (Or.inl ⟨by rfl, ?_⟩) hHeld ?_ ?_
                     rotate_left
                     · rintro w' ⟨s0, s1⟩
                       go_simp
                       with_reducible rfl
                     rotate_left
                     · simp only [Act.put, List.setIfInBounds_toArray, List.set_cons_zero, List.set_cons_succ, i64_w, i32_w]
                       rfl
                     refine pure_ (i := 10) (N := some 68) (v := ?_) (a' := ?_) #[true, true, true, true, true, true, true, true, true, true, true, false, false, false, false] rfl rfl (any_of HT_.out (by kernel_rfl)) (fun _ _ _ h => h) (Or.inl ⟨by rfl, ?_⟩) ?_ ?_
                     rotate_left
                     · intro w'
                       go_simp
                       with_reducible rfl
                     rotate_left
                     · simp only [Act.put, List.setIfInBounds_toArray, List.set_cons_zero, List.set_cons_succ, i64_w, i32_w]
                       rfl
                     refine pure_ (i := 11) (N := some 69) (v := ?_) (a' := ?_) #[true, true, true, true, true, true, true, true, true, true, true, true, false, false, false] rfl rfl (any_of HT_.out (by kernel_rfl)) (fun _ _ _ h => h) (Or.inl ⟨by rfl, ?_⟩) ?_ ?_
                     rotate_left
                     · intro w'
                       go_simp
                       with_reducible rfl
                     rotate_left
                     · simp only [Act.put, List.setIfInBounds_toArray, List.set_cons_zero, List.set_cons_succ, i64_w, i32_w]
                       rfl
                     refine last_ (i := 12) (N := some 70) #[true, true, true, true, true, true, true, true, true, true, true, true, true, false, false] rfl rfl (one_of HT_.out (by kernel_rfl)) (by decide) (fun K hK => ?_)
                     refine value_ (w1 := ?_) (v := ?_) (by rfl) rfl ?_ ?_
                     rotate_left 2
                     · go_simp
                       constructor
                       · rfl
                       · rfl
                     refine hK.out _ _ ?_
                     clear hK K
                     refine norm_ (a' := ?_) ?_ ?_
                     rotate_left
                     · show Act.put _ (some 70) _ = _
                       simp only [Act.put, List.setIfInBounds_toArray, List.set_cons_zero, List.set_cons_succ, i64_w, i32_w]
                       rfl
                     refine last_ (i := 13) (N := some 71) #[true, true, true, true, true, true, true, true, true, true, true, true, true, true, false] rfl rfl (one_of HT_.out (by kernel_rfl)) (by decide) (fun K hK => ?_)
                     refine Kd.R_append_step k40 (w0 := w) w.heap.size (by rfl) (.tmp 58) (.tmp 70) 62 40 (.agg #[(.int .i64 0), (.int .i64 0)]) 16 rfl Tryz.underlying62 info40 rfl (by decide) (by omega) u11 x11_2 (⟨rd eE x12_2, wrap64 ((rd eE (ji26)) - 1)⟩ : S40) [.int .i64 (rd eE x12_2), .int .i64 (wrap64 ((rd eE (ji26)) - 1))] (fun _ => True) (fun _ => False) rfl rfl ?aP (fun _ hk => hk.elim) ?aF ?aO ?aB ?aS ?aL ?_
                     (case aP => exact k40_mkM _ _ _ (⟨rd eE x12_2, wrap64 ((rd eE (ji26)) - 1)⟩ : S40))
                     (case aB => exact (by repeat ((with_reducible exact HB.out))))
                     (case aF => exact (fun _ _ => trivial))
                     (case aO => exact (by (with_reducible repeat (fail)); exact HO_11.out))
                     (case aS => exact (below_size (by repeat ((with_reducible exact HB.out)))))
                     (case aL => have := LMc28.out; omega)
                     intro v262 w34 ho hb hg hat
                     rw [← Ny261.out] at ho
                     have n0_ := Aside0.mk (Kd.R_over' (by (with_reducible repeat (fail)); exact HO_7.out) (Kd.R_typed (by (with_reducible repeat (fail)); exact HO_11.out)) (by decide) hg)
                     have n1_ := Aside0.mk (hb)
                     have n2_ := Aside0.mk (ho)
                     clear HO_7
                     clear HB
                     clear HO_11
                     have HO_7 := n0_
                     have HB := n1_
                     have HO263 := n2_
                     clear n0_ n1_ n2_
                     clear ho hb hg hat
                     refine hK.out _ _ ?_
                     clear hK K
                     refine norm_ (a' := ?_) ?_ ?_
                     rotate_left
                     · show Act.put _ (some 71) _ = _
                       simp only [Act.put, List.setIfInBounds_toArray, List.set_cons_zero, List.set_cons_succ, i64_w, i32_w]
                       rfl
                     refine pure_ (i := 14) (N := some 11) (v := ?_) (a' := ?_) #[true, true, true, true, true, true, true, true, true, true, true, true, true, true, true] rfl rfl (any_of HT_.out (by kernel_rfl)) (fun _ _ _ h => h) (Or.inl ⟨by rfl, ?_⟩) ?_ ?_
                     rotate_left
                     · intro w'
                       go_simp
                       with_reducible rfl
                     rotate_left
                     · simp only [Act.put, List.setIfInBounds_toArray, List.set_cons_zero, List.set_cons_succ, i64_w, i32_w]
                       rfl
                     refine done_ (done_of HT_.out (by kernel_rfl)) ?_
                     try go_wp2
                     go_roundg k2
                     case measure => have := HK1.out; have := HK2.out; omega
                     case rel => exact ⟨(y261), (ji26), (by rfl), H', ⟨by have := HK1.out; have := HK2.out; omega⟩, ⟨by (with_reducible repeat (fail)); exact HO_7.out⟩, ⟨by (with_reducible repeat (fail)); exact HO263.out⟩, ⟨by repeat ((with_reducible exact HB.out))⟩⟩
                   · rw [if_neg c28] at H
                     exact absurd H (by simp)
                 · rw [if_neg c27] at H
                   exact absurd H (by simp)
               · replace c25 := Bool.eq_false_iff.mpr c25
                 subst c25
                 have H1 : (zone_sweep.l1 wf k2 l0 l1 eE x11_2 (wrap64 (x12_2 + 1))) = some r := by rw [if_neg (show ¬ (false = true) by decide)] at H; exact H
                 clear H
                 have H := H1
                 clear H1
                 have H' := Aside0.mk H
                 clear H
                 obtain ⟨Ao35, co35, eo35⟩ := Kd.R_slice HO_7.out
                 subst eo35
                 try go_wp2
                 have n0_ := Aside0.mk (Kd.R_drew HO_7.out)
                 have n1_ := Aside0.mk (Kd.R_drew HO_11.out)
                 have n2_ := Aside0.mk (below_drew1 HB.out)
                 clear HO_7
                 clear HO_11
                 clear HB
                 have HO_7 := n0_
                 have HO_11 := n1_
                 have HB := n2_
                 clear n0_ n1_ n2_
                 have p254 : 0 ≤ (x12_2 : Int) := of_decide_eq_true (by (with_reducible assumption))
                 have q254 : x12_2 < (eE.length : Int) := of_decide_eq_true (by (with_reducible assumption))
                 obtain ⟨ad254, e254, hx254_0⟩ := Kd.at_int (Kd.R_reads' HO_7.out).2.2 x12_2 p254 q254
                 cases e254
                 replace p254 := eq_true p254
                 replace q254 := eq_true q254
                 have p256 : 0 ≤ (x12_2 : Int) := of_decide_eq_true (by (with_reducible assumption))
                 have q256 : x12_2 < (eE.length : Int) := of_decide_eq_true (by (with_reducible assumption))
                 obtain ⟨ad256, e256, hx256_0⟩ := Kd.at_int (Kd.R_reads' HO_7.out).2.2 x12_2 p256 q256
                 obtain rfl : ad254 = ad256 := (by injection e256)
                 replace p256 := eq_true p256
                 replace q256 := eq_true q256
                 refine start_ (n := 16) (S := fun w' => w'.cell? (ad254.add (x12_2).toNat) = some (.int .i64 (rd eE x12_2)) ∧ w'.cell? (ad254.add (x12_2).toNat) = some (.int .i64 (rd eE x12_2))) (ds := []) #[false, false, false, false, false, false, false, false, false, false, false, false, false, false, false, false] (by kernel_rfl) rfl rfl ⟨hx254_0, hx256_0⟩ (fun hHeld => ?_); refine with_tabW zone_sweep.tab14 zone_sweep.bits14 (fun HT_ HW_ => ?_)
                 generalize wr.drew = w36 at HO_7 HO_11 HB hx254_0 hx256_0 hHeld ⊢
                 refine pure_ (i := 0) (N := some 42) (v := ?_) (a' := ?_) #[true, false, false, false, false, false, false, false, false, false, false, false, false, false, false, false] rfl rfl (any_of HT_.out (by kernel_rfl)) (fun _ _ _ h => h) (Or.inl ⟨by rfl, ?_⟩) ?_ ?_
                 rotate_left
                 · intro w'
                   go_simp
                   with_reducible rfl
                 rotate_left
                 · simp only [Act.put, List.setIfInBounds_toArray, List.set_cons_zero, List.set_cons_succ, i64_w, i32_w]
                   rfl
                 refine pure_ (i := 1) (N := some 43) (v := ?_) (a' := ?_) #[true, true, false, false, false, false, false, false, false, false, false, false, false, false, false, false] rfl rfl (any_of HT_.out (by kernel_rfl)) (fun _ _ _ h => h) (Or.inl ⟨by rfl, ?_⟩) ?_ ?_
                 rotate_left
                 · intro w'
                   go_simp
                   with_reducible rfl
                 rotate_left
                 · simp only [Act.put, List.setIfInBounds_toArray, List.set_cons_zero, List.set_cons_succ, i64_w, i32_w]
                   rfl
                 refine pure_ (i := 2) (N := some 44) (v := ?_) (a' := ?_) #[true, true, true, false, false, false, false, false, false, false, false, false, false, false, false, false] rfl rfl (any_of HT_.out (by kernel_rfl)) (fun _ _ _ h => h) (Or.inl ⟨by rfl, ?_⟩) ?_ ?_
                 rotate_left
                 · intro w'
                   go_simp
                   with_reducible rfl
                 rotate_left
                 · simp only [Act.put, List.setIfInBounds_toArray, List.set_cons_zero, List.set_cons_succ, i64_w, i32_w]
                   rfl
                 refine pure_ (i := 3) (N := some 45) (v := ?_) (a' := ?_) #[true, true, true, true, false, false, false, false, false, false, false, false, false, false, false, false] rfl rfl (any_of HT_.out (by kernel_rfl)) (fun _ _ _ h => h) (Or.inl ⟨by rfl, ?_⟩) ?_ ?_
                 rotate_left
                 · intro w'
                   go_simp
                   with_reducible rfl
                 rotate_left
                 · simp only [Act.put, List.setIfInBounds_toArray, List.set_cons_zero, List.set_cons_succ, i64_w, i32_w]
                   rfl
                 refine pure_ (i := 4) (N := some 46) (v := ?_) (a' := ?_) #[true, true, true, true, true, false, false, false, false, false, false, false, false, false, false, false] rfl rfl (any_of HT_.out (by kernel_rfl)) (fun _ _ _ h => h) (Or.inl ⟨by rfl, ?_⟩) ?_ ?_
                 rotate_left
                 · intro w'
                   go_simp
                   with_reducible rfl
                 rotate_left
                 · simp only [Act.put, List.setIfInBounds_toArray, List.set_cons_zero, List.set_cons_succ, i64_w, i32_w]
                   rfl
                 refine pure_ (i := 5) (N := some 47) (v := ?_) (a' := ?_) #[true, true, true, true, true, true, false, false, false, false, false, false, false, false, false, false] rfl rfl (any_of HT_.out (by kernel_rfl)) (fun _ _ _ h => h) (Or.inl ⟨by rfl, ?_⟩) ?_ ?_
                 rotate_left
                 · intro w'
                   go_simp
                   with_reducible rfl
                 rotate_left
                 · simp only [Act.put, List.setIfInBounds_toArray, List.set_cons_zero, List.set_cons_succ, i64_w, i32_w]
                   rfl
                 refine pure_ (i := 8) (N := some 50) (v := ?_) (a' := ?_) #[true, true, true, true, true, true, false, false, true, false, false, false, false, false, false, false] rfl rfl (any_of HT_.out (by kernel_rfl)) (fun _ _ _ h => h) (Or.inl ⟨by rfl, ?_⟩) ?_ ?_
                 rotate_left
                 · intro w'
                   go_simp
                   with_reducible rfl
                 rotate_left
                 · simp only [Act.put, List.setIfInBounds_toArray, List.set_cons_zero, List.set_cons_succ, i64_w, i32_w]
                   rfl
                 refine pure_ (i := 9) (N := some 51) (v := ?_) (a' := ?_) #[true, true, true, true, true, true, false, false, true, true, false, false, false, false, false, false] rfl rfl (any_of HT_.out (by kernel_rfl)) (fun _ _ _ h => h) (Or.inl ⟨by rfl, ?_⟩) ?_ ?_
                 rotate_left
                 · intro w'
                   go_simp
                   with_reducible rfl
                 rotate_left
                 · simp only [Act.put, List.setIfInBounds_toArray, List.set_cons_zero, List.set_cons_succ, i64_w, i32_w]
                   rfl
                 refine pure_ (i := 10) (N := some 52) (v := ?_) (a' := ?_) #[true, true, true, true, true, true, false, false, true, true, true, false, false, false, false, false] rfl rfl (any_of HT_.out (by kernel_rfl)) (fun _ _ _ h => h) (Or.inl ⟨by rfl, ?_⟩) ?_ ?_
                 rotate_left
                 · intro w'
                   go_simp
                   with_reducible rfl
                 rotate_left
                 · simp only [Act.put, List.setIfInBounds_toArray, List.set_cons_zero, List.set_cons_succ, i64_w, i32_w]
                   rfl
                 refine pure_ (i := 11) (N := some 53) (v := ?_) (a' := ?_) #[true, true, true, true, true, true, false, false, true, true, true, true, false, false, false, false] rfl rfl (any_of HT_.out (by kernel_rfl)) (fun _ _ _ h => h) (Or.inl ⟨by rfl, ?_⟩) ?_ ?_
                 rotate_left
                 · intro w'
                   go_simp
                   with_reducible rfl
                 rotate_left
                 · simp only [Act.put, List.setIfInBounds_toArray, List.set_cons_zero, List.set_cons_succ, i64_w, i32_w]
                   rfl
                 refine pure_ (i := 12) (N := some 54) (v := ?_) (a' := ?_) #[true, true, true, true, true, true, false, false, true, true, true, true, true, false, false, false] rfl rfl (any_of HT_.out (by kernel_rfl)) (fun _ _ _ h => h) (Or.inl ⟨by rfl, ?_⟩) ?_ ?_
                 rotate_left
                 · intro w'
                   go_simp
                   with_reducible rfl
                 rotate_left
                 · simp only [Act.put, List.setIfInBounds_toArray, List.set_cons_zero, List.set_cons_succ, i64_w, i32_w]
                   rfl
                 refine take_ (i := 6) (N := some 48) (v := ?_) (a' := ?_) #[true, true, true, true, true, true, true, false, true, true, true, true, true, false, false, false] rfl rfl (take_ofW HT_.out HW_.out (by kernel_rfl)) (fun _ _ _ h => h) (Or.inl ⟨by rfl, ?_⟩) hHeld ?_ ?_
                 rotate_left
                 · rintro w' ⟨s0, s1⟩
                   go_simp
                   with_reducible rfl
                 rotate_left
                 · simp only [Act.put, List.setIfInBounds_toArray, List.set_cons_zero, List.set_cons_succ, i64_w, i32_w]
                   rfl
                 refine take_ (i := 13) (N := some 55) (v := ?_) (a' := ?_) #[true, true, true, true, true, true, true, false, true, true, true, true, true, true, false, false] rfl rfl (take_ofW HT_.out HW_.out (by kernel_rfl)) (fun _ _ _ h => h) (Or.inl ⟨by rfl, ?_⟩) hHeld ?_ ?_
                 rotate_left
                 · rintro w' ⟨s0, s1⟩
                   go_simp
                   with_reducible rfl
                 rotate_left
                 · simp only [Act.put, List.setIfInBounds_toArray, List.set_cons_zero, List.set_cons_succ, i64_w, i32_w]
                   rfl
                 refine one_ (i := 7) (N := some 49) #[true, true, true, true, true, true, true, true, true, true, true, true, true, true, false, false] rfl rfl (one_of HT_.out (by kernel_rfl)) (by decide) (fun K hK => ?_)
                 refine goesT_ Tryz.func62 (by kernel_rfl) rfl #[.slice A0 l0.length c0, .int .i64 (rd eE x12_2)] (by rfl) rfl rfl rfl (by (try simp only [List.map_toArray, List.map_cons, List.map_nil]); rfl) ?_
                 with_reducible refine (zone_sweep_1.calls _ _ l0 (rd eE x12_2) t255 _ ?side1 ?side2 A22.out).mono ?_
                 (case side1 => repeat (exact (Kd.C_below HR0.out HB.out)))
                 (case side2 => exact HC0.out)
                 rintro e w37 ⟨rfl, hb⟩
                 have HS0_ := (hb.cell (World.block_lt_of_cell? _ _ (hHeld.1))).trans (hHeld.1)
                 have HS1_ := (hb.cell (World.block_lt_of_cell? _ _ (hHeld.2))).trans (hHeld.2)
                 refine ⟨_, rfl, ?_⟩
                 have n0_ := Aside0.mk (Kd.R_below (by (with_reducible repeat (fail)); exact HO_7.out) hb)
                 have n1_ := Aside0.mk (Kd.R_below (by (with_reducible repeat (fail)); exact HO_11.out) hb)
                 have n2_ := Aside0.mk (below_step (by repeat ((with_reducible exact HB.out))) hb)
                 clear HO_7
                 clear HO_11
                 clear HB
                 have HO_7 := n0_
                 have HO_11 := n1_
                 have HB := n2_
                 clear n0_ n1_ n2_
                 (try clear hb)
                 (skip)
                 (skip)
                 (skip)
                 refine hK.out _ _ ⟨HS0_, HS1_⟩ (fun hHeld => ?_)
                 clear hK K
                 refine norm_ (a' := ?_) ?_ ?_
                 rotate_left
                 · show Act.put _ (some 49) _ = _
                   simp only [Act.put, List.setIfInBounds_toArray, List.set_cons_zero, List.set_cons_succ, i64_w, i32_w]
                   rfl
                 refine one_ (i := 14) (N := some 56) #[true, true, true, true, true, true, true, true, true, true, true, true, true, true, true, false] rfl rfl (one_of HT_.out (by kernel_rfl)) (by decide) (fun K hK => ?_)
                 refine goesT_ Tryz.func62 (by kernel_rfl) rfl #[.slice A1 l1.length c1, .int .i64 (rd eE x12_2)] (by rfl) rfl rfl rfl (by (try simp only [List.map_toArray, List.map_cons, List.map_nil]); rfl) ?_
                 with_reducible refine (zone_sweep_1.calls _ _ l1 (rd eE x12_2) t257 _ ?side1 ?side2 A23.out).mono ?_
                 (case side1 => repeat (exact (Kd.C_below HR1.out HB.out)))
                 (case side2 => exact HC1.out)
                 rintro e w38 ⟨rfl, hb⟩
                 have HS0_ := (hb.cell (World.block_lt_of_cell? _ _ (hHeld.1))).trans (hHeld.1)
                 have HS1_ := (hb.cell (World.block_lt_of_cell? _ _ (hHeld.2))).trans (hHeld.2)
                 refine ⟨_, rfl, ?_⟩
                 have n0_ := Aside0.mk (Kd.R_below (by (with_reducible repeat (fail)); exact HO_7.out) hb)
                 have n1_ := Aside0.mk (Kd.R_below (by (with_reducible repeat (fail)); exact HO_11.out) hb)
                 have n2_ := Aside0.mk (below_step (by repeat ((with_reducible exact HB.out))) hb)
                 clear HO_7
                 clear HO_11
                 clear HB
                 have HO_7 := n0_
                 have HO_11 := n1_
                 have HB := n2_
                 clear n0_ n1_ n2_
                 (try clear hb)
                 (skip)
                 (skip)
                 (skip)
                 refine hK.out _ _ ⟨HS0_, HS1_⟩ (fun hHeld => ?_)
                 clear hK K
                 refine norm_ (a' := ?_) ?_ ?_
                 rotate_left
                 · show Act.put _ (some 56) _ = _
                   simp only [Act.put, List.setIfInBounds_toArray, List.set_cons_zero, List.set_cons_succ, i64_w, i32_w]
                   rfl
                 refine one_ (i := 15) (N := some 57) #[true, true, true, true, true, true, true, true, true, true, true, true, true, true, true, true] rfl rfl (one_of HT_.out (by kernel_rfl)) (by decide) (fun K hK => ?_)
                 refine goesV_ hkw #[.bool t255, .bool t257] (by rfl) rfl rfl rfl (by (try simp only [List.map_toArray, List.map_cons, List.map_nil]); rfl) ?_
                 with_reducible refine (hwf t255 t257 false _ A24.out).mono ?_
                 rintro e w' ⟨rfl, ⟨nd, rfl⟩⟩
                 refine ⟨_, rfl, ?_⟩
                 refine hK.out _ _ ⟨hHeld.1, hHeld.2⟩ (fun hHeld => ?_)
                 clear hK K
                 refine norm_ (a' := ?_) ?_ ?_
                 rotate_left
                 · show Act.put _ (some 57) _ = _
                   simp only [Act.put, List.setIfInBounds_toArray, List.set_cons_zero, List.set_cons_succ, i64_w, i32_w]
                   rfl
                 refine done_ (done_of HT_.out (by kernel_rfl)) ?_
                 try go_wp2
                 go_roundg k2
                 case measure => have := HK1.out; have := HK2.out; omega
                 case rel => exact ⟨(x11_2), (wrap64 (x12_2 + 1)), (by rfl), H', ⟨by have := HK1.out; have := HK2.out; omega⟩, ⟨by (with_reducible repeat (apply Kd.R_drewN)); exact HO_7.out⟩, ⟨by (with_reducible repeat (apply Kd.R_drewN)); exact HO_11.out⟩, ⟨by repeat ((with_reducible first | exact HB.out | apply pw_below_drewN))⟩⟩
             · rw [if_neg c21] at H
               exact absurd H (by simp)
           · rw [if_neg c20] at H
             exact absurd H (by simp)
         · rw [if_neg c19] at H
           have c19b0 : decide ((wrap64 (x12_2 + 1)) < (eE.length : Int)) = false := decide_eq_false c19
           clear c19
           replace H := Option.bind_eq_some_iff.mp H
           obtain ⟨t251, A390, H⟩ := H
           replace H : (some t251) = some r := H
           have A39 := Aside0.mk A390
           clear A390
           obtain rfl := Option.some.inj H
           obtain ⟨Ao40, co40, eo40⟩ := Kd.R_slice HO_7.out
           subst eo40
           obtain ⟨Ao41, co41, eo41⟩ := Kd.R_slice HO_11.out
           subst eo41
           go_wp2_with (((with_reducible refine gate_callee (f := 65) rfl ?_); refine goesL_ (some 73) rfl rfl Tryz.func65 (by kernel_rfl) rfl #[.slice Ao41 x11_2.length co41] rfl (by (try simp only [List.map_toArray, List.map_cons, List.map_nil]); rfl) ?_; (with_reducible refine (zone_merged.calls _ _ x11_2 t251 _ ?side1 ?side2 A39.out).mono ?_); (case side1 => repeat (exact (Kd.R_reads' HO_11.out).2.2)); (case side2 => exact (Kd.R_reads' HO_11.out).2.1); rintro e w42 ⟨v252, rfl, ho0, hb⟩; refine ⟨_, rfl, ?_⟩; have n0_ := Aside0.mk (Kd.R_below (by (with_reducible repeat (fail)); exact HO_7.out) hb); have n1_ := Aside0.mk (Kd.R_elder' (by (with_reducible repeat (fail)); exact HO_11.out) (Kd.R_base ho0) hb); have n2_ := Aside0.mk (Kd.R_lower (Kd.R_new' ho0 (Kd.R_lt (by (with_reducible repeat (fail)); exact HO_11.out))) (below_size (by repeat ((with_reducible exact HB.out))))); have n3_ := Aside0.mk (below_step (by repeat ((with_reducible exact HB.out))) hb); clear HO_7; clear HO_11; clear HB; have HO_7 := n0_; have HO_11 := n1_; have HO253 := n2_; have HB := n3_; clear n0_ n1_ n2_ n3_; (try clear hb); (try clear ho0)))
           go_ret
           exact ⟨_, by rfl, by (with_reducible repeat (fail)); exact Kd.R_mono HO253.out (fun _ hk => trivial), by repeat ((with_reducible exact HB.out))⟩
 · rw [if_neg c5] at H
   exact absurd H (by simp)
end Go.Proofs.YtacohlafmbhcdaaGreat.PAll
