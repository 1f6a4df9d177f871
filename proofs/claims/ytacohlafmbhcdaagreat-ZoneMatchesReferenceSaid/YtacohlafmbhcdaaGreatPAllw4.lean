/- Printed by a program of this session (wip/gprint.py) over the translation, cut to what is named (wip/dcut.py). Not trusted: Lean checks it. -/
import Derived.Test.YtacohlafmbhcdaaGreatPAlld1
import Derived.Test.YtacohlafmbhcdaaGreatPAllw2
namespace Go.Proofs.YtacohlafmbhcdaaGreat.PAll
open Go.RowKit Go.Proofs.YtacohlafmbhcdaaGreatW.PrintWords Go.Proofs.YtacohlafmbhcdaaGreatW.PrintLast Go.Proofs.YtacohlafmbhcdaaGreatW.PrintMore
attribute [local go_sem] max2_int min2_int max_two min_two max_three min_three max_four min_four -- for this text's walks alone
set_option linter.unusedVariables false
set_option linter.unusedSimpArgs false
open Go.Proofs.YtacohlafmbhcdaaGreatGlib
set_option maxHeartbeats 4000000 in
set_option maxRecDepth 100000 in
theorem indexR_calls (k : FuncId) (cap : Array Value) (hk : EntersK k) (p : S40 → Bool) (Inv : World → Prop) (hInv : ∀ W W', Inv W → Below W.heap.size W W' → Inv W')
  (hp : ∀ (z : S40) (W : World), Inv W → Calls Tryz.prog k (#[aggR z] ++ cap) W fun e w' => e = .returned (.bool (p z)) ∧ Below W.heap.size W w')
  (A : Option Addr) (c : Nat) (l : List S40) (w : World) (hr : Kd.C k40 w A l.length l) (hc : l.length ≤ c) (hi : Inv w) :
  Calls Tryz.prog 69 #[.slice A l.length c, .func (.func k) #[] cap] w fun e w' => e = .returned (.int .i64 (idxP p l 0)) ∧ Below w.heap.size w w' := by
 have HR := Aside0.mk hr
 have HI := Aside0.mk hi
 have HV := Aside0.mk hInv
 have HP := Aside0.mk hp
 have HL := Aside0.mk hr.2.1
 clear hr hi hInv hp
 have hlm : (l.length : Int) ≤ 9223372036854775807 := by have := HL.out; omega
 unfold EntersK at hk
 go_enter Tryz.func69, Tryz.ntmps69
 go_wp2
 go_loopw [5, 8] (fun v i wr => ∃ n : Nat, n ≤ l.length ∧ i = .int .i64 n ∧ idxP p l 0 = idxP p (l.drop n) n ∧ Aside0 (Below w.heap.size w wr) ∧ Aside0 (Inv wr)) (fun _ i _ => l.length - (intOf i).toNat)
 case atStart => exact ⟨0, Nat.zero_le _, rfl, by rw [List.drop_zero], ⟨Below.refl _ _⟩, HI⟩
 case round =>
  obtain ⟨n, hn, rfl, he, HB, HJ⟩ := hrel
  by_cases hlt : n < l.length
  · have hd : l.drop n = l[n] :: l.drop (n + 1) := List.drop_eq_getElem_cons hlt
    have hz : rd_T40 l (n : Int) = l[n] := by
     unfold rd_T40
     rw [Int.toNat_natCast, List.getD_eq_getElem?_getD, List.getElem?_eq_getElem hlt]
     rfl
    obtain ⟨ad, e, x0, x1⟩ := at_T40 HR.out (n : Int) (by omega) (by omega)
    subst e
    rw [hz, Int.toNat_natCast] at x0 x1
    replace x0 := (HB.out.cell (World.block_lt_of_cell? w _ x0)).trans x0
    replace x1 := (HB.out.cell (World.block_lt_of_cell? w _ x1)).trans x1
    rw [hd] at he
    simp only [idxP] at he
    have HE := Aside0.mk he
    have d0 : decide ((n : Int) < (l.length : Int)) = true := decide_eq_true (by omega)
    have d1 : decide (n < l.length) = true := decide_eq_true hlt
    clear he hd hz
    have q0 : (0 : Int) ≤ (n : Int) := by omega
    generalize l[n] = z at *
    go_wp2
    refine (HP.out z _ (HV.out _ _ HJ.out ?b1)).mono ?_
    case b1 => exact Below.refl _ _
    rintro e w2 ⟨rfl, hb⟩
    have HB2 := Aside0.mk (below_step HB.out hb)
    have HJ2 := Aside0.mk (HV.out _ _ HJ.out hb)
    clear hb
    cases hpz : p z with
    | true =>
     rw [hpz, if_pos rfl] at HE
     go_wp2
     go_ret
     exact ⟨by rw [HE.out]; rfl, HB2.out⟩
    | false =>
     rw [hpz, if_neg (by simp)] at HE
     go_wp2
     go_roundw
     case rel => exact ⟨n + 1, by omega, by go_num, HE.out, HB2, HJ2⟩
     case measure => simp [intOf]; omega
  · have d0 : decide ((n : Int) < (l.length : Int)) = false := decide_eq_false (by omega)
    have d1 : decide (n < l.length) = false := decide_eq_false hlt
    rw [List.drop_eq_nil_of_le (by omega)] at he
    have HE := Aside0.mk he
    clear he
    go_wp2
    go_ret
    exact ⟨by rw [HE.out]; rfl, HB.out⟩
set_option maxHeartbeats 4000000 in
theorem containsR_calls (k : FuncId) (cap : Array Value) (hk : EntersK k) (p : S40 → Bool) (Inv : World → Prop) (hInv : ∀ W W', Inv W → Below W.heap.size W W' → Inv W')
  (hp : ∀ (z : S40) (W : World), Inv W → Calls Tryz.prog k (#[aggR z] ++ cap) W fun e w' => e = .returned (.bool (p z)) ∧ Below W.heap.size W w')
  (A : Option Addr) (c : Nat) (l : List S40) (w : World) (hr : Kd.C k40 w A l.length l) (hc : l.length ≤ c) (hi : Inv w) :
  Calls Tryz.prog 63 #[.slice A l.length c, .func (.func k) #[] cap] w fun e w' => e = .returned (.bool (l.any p)) ∧ Below w.heap.size w w' := by
 have HX := Aside0.mk (fun W h hi => indexR_calls k cap hk p Inv hInv hp A c l W h hc hi)
 have HR := Aside0.mk hr
 have HI := Aside0.mk hi
 have e : decide (idxP p l 0 ≥ 0) = l.any p := by rw [Bool.eq_iff_iff, ← idxP_any p l 0, decide_eq_true_eq]
 generalize l.any p = b at *
 clear hr hi hInv hp
 go_enter Tryz.func63, Tryz.ntmps63
 go_wp2_with (go_at_call 69; refine (HX.out _ HR.out HI.out).mono ?_; rintro e w2 ⟨rfl, hb⟩)
 go_ret
 exact ⟨by first | rfl | (rw [e]; rfl), hb⟩
set_option maxHeartbeats 4000000 in
set_option maxRecDepth 100000 in
theorem inR_calls (g : Nat) (n : Int) (z : S40) (w : World) (hg : Reads1 g n w) :
  Calls Tryz.prog 64 (#[aggR z] ++ #[.pointer (some ⟨g, 0, none⟩)]) w fun e w' => e = .returned (.bool (decide (z.f0 ≤ n) && decide (n ≤ z.f1))) ∧ Below w.heap.size w w' := by
 have hlt := World.block_lt_of_cell? w _ hg
 simp only at hlt
 have H1 := Aside0.mk (fun W => zone_has.calls z.f0 z.f1 n _ W (has_of z n))
 unfold aggR
 generalize (decide (z.f0 ≤ n) && decide (n ≤ z.f1)) = b1 at *
 have HB := Aside0.mk (below_alloc (Below.refl w.heap.size w) (.cells #[.int .i64 z.f0, .int .i64 z.f1] 40))
 have k0 := (HB.out.cell (p := ⟨g, 0, none⟩) hlt).trans hg
 simp only [List.append_toArray, List.cons_append, List.nil_append]
 go_enter Tryz.func64, Tryz.ntmps64
 go_wp2_with (go_at_call 27; with_reducible refine (H1.out _).mono ?_; rintro e w2 ⟨rfl, hb⟩; have n0_ := Aside0.mk (below_step HB.out hb); clear HB; have HB := n0_; clear n0_ hb)
 go_ret
 exact ⟨rfl, HB.out⟩
set_option maxHeartbeats 4000000 in
set_option maxRecDepth 100000 in
theorem zone_sweep_1.calls (A0 : Option Addr) (c0 : Nat) (l0 : List (S40)) (a1 : Int) (r : Bool) (w : World) (hr0 : Kd.C k40 w A0 l0.length l0) (hc0 : l0.length ≤ c0) (h : zone_sweep_1.f l0 a1 = some r) :
  Calls Tryz.prog 62 #[.slice A0 l0.length c0, .int .i64 a1] w fun e w' => e = .returned (.bool r) ∧ Below w.heap.size w w' := by
 cases h
 have HX := Aside0.mk (show ∀ W : World, Kd.C k40 W A0 l0.length l0 → Reads1 w.heap.size a1 W → Calls Tryz.prog 63 #[.slice A0 l0.length c0, .func (.func 64) #[] #[.pointer (some ⟨w.heap.size, 0, none⟩)]] W fun e w' => e = .returned (.bool (memB a1 l0)) ∧ Below W.heap.size W w' from fun W h hi => containsR_calls 64 #[.pointer (some ⟨w.heap.size, 0, none⟩)] enters64 (fun r => decide (r.f0 ≤ a1) && decide (a1 ≤ r.f1)) (Reads1 w.heap.size a1) (fun _ _ h hb => h.below hb) (fun z W h => inR_calls w.heap.size a1 z W h) A0 c0 l0 W h hc0 hi)
 have HR := Aside0.mk hr0
 have HB := Aside0.mk (below_alloc (Below.refl w.heap.size w) (.cells #[.int .i64 a1] 3))
 have HC := Aside0.mk (show Reads1 w.heap.size a1 (w.alloc (.cells #[.int .i64 a1] 3)) from (blk_cell (blk_new w _) 0).trans rfl)
 clear hr0 hc0
 generalize memB a1 l0 = b3 at *
 go_enter Tryz.func62, Tryz.ntmps62
 go_wp2_with (go_at_call 63; with_reducible refine (HX.out _ ?s1 HC.out).mono ?_; (case s1 => exact Kd.C_below HR.out HB.out); rintro e w2 ⟨rfl, hb⟩; have n0_ := Aside0.mk (below_step HB.out hb); clear HB; have HB := n0_; clear n0_ hb)
 go_ret
 exact ⟨rfl, HB.out⟩
end Go.Proofs.YtacohlafmbhcdaaGreat.PAll
