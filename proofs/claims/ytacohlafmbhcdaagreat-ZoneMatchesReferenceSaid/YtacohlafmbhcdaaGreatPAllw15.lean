/- Printed by a program of this session (wip/gprint.py) over the translation, cut to what is named (wip/dcut.py). Not trusted: Lean checks it. -/
import Derived.Test.YtacohlafmbhcdaaGreatPAlld1
import Derived.Test.YtacohlafmbhcdaaGreatPAllw3
namespace Go.Proofs.YtacohlafmbhcdaaGreat.PAll
open Go.RowKit Go.Proofs.YtacohlafmbhcdaaGreatW.PrintWords Go.Proofs.YtacohlafmbhcdaaGreatW.PrintLast Go.Proofs.YtacohlafmbhcdaaGreatW.PrintMore
attribute [local go_sem] max2_int min2_int max_two min_two max_three min_three max_four min_four -- for this text's walks alone
set_option linter.unusedVariables false
set_option linter.unusedSimpArgs false
open Go.Proofs.YtacohlafmbhcdaaGreatGlib
set_option maxHeartbeats 4000000 in
set_option maxRecDepth 100000 in
theorem indexZ_calls (k : FuncId) (cap : Array Value) (hk : EntersK k) (p : S42 → Bool) (Inv : World → Prop) (hInv : ∀ W W', Inv W → Below W.heap.size W W' → Inv W')
  (hp : ∀ (z : S42) (W : World), Inv W → Calls Tryz.prog k (#[aggZ z] ++ cap) W fun e w' => e = .returned (.bool (p z)) ∧ Below W.heap.size W w')
  (A : Option Addr) (c : Nat) (l : List S42) (w : World) (hr : Kd.C k42 w A l.length l) (hc : l.length ≤ c) (hi : Inv w) :
  Calls Tryz.prog 48 #[.slice A l.length c, .func (.func k) #[] cap] w fun e w' => e = .returned (.int .i64 (idxP p l 0)) ∧ Below w.heap.size w w' := by
 have HR := Aside0.mk hr
 have HI := Aside0.mk hi
 have HV := Aside0.mk hInv
 have HP := Aside0.mk hp
 have HL := Aside0.mk hr.2.1
 clear hr hi hInv hp
 have hlm : (l.length : Int) ≤ 9223372036854775807 := by have := HL.out; omega
 unfold EntersK at hk
 go_enter Tryz.func48, Tryz.ntmps48
 go_wp2
 go_loopw [5, 8] (fun v i wr => ∃ n : Nat, n ≤ l.length ∧ i = .int .i64 n ∧ idxP p l 0 = idxP p (l.drop n) n ∧ Aside0 (Below w.heap.size w wr) ∧ Aside0 (Inv wr)) (fun _ i _ => l.length - (intOf i).toNat)
 case atStart => exact ⟨0, Nat.zero_le _, rfl, by rw [List.drop_zero], ⟨Below.refl _ _⟩, HI⟩
 case round =>
  obtain ⟨n, hn, rfl, he, HB, HJ⟩ := hrel
  by_cases hlt : n < l.length
  · have hd : l.drop n = l[n] :: l.drop (n + 1) := List.drop_eq_getElem_cons hlt
    have hz : rd_T42 l (n : Int) = l[n] := by
     unfold rd_T42
     rw [Int.toNat_natCast, List.getD_eq_getElem?_getD, List.getElem?_eq_getElem hlt]
     rfl
    obtain ⟨ad, e, x0, x1, x2, x3, x4⟩ := at_T42 HR.out (n : Int) (by omega) (by omega)
    subst e
    rw [hz, Int.toNat_natCast] at x0 x1 x2 x3 x4
    replace x0 := (HB.out.cell (World.block_lt_of_cell? w _ x0)).trans x0
    replace x1 := (HB.out.cell (World.block_lt_of_cell? w _ x1)).trans x1
    replace x2 := (HB.out.cell (World.block_lt_of_cell? w _ x2)).trans x2
    replace x3 := (HB.out.cell (World.block_lt_of_cell? w _ x3)).trans x3
    replace x4 := (HB.out.cell (World.block_lt_of_cell? w _ x4)).trans x4
    rw [hd] at he
    simp only [idxP] at he
    have HE := Aside0.mk he
    have d0 : decide ((n : Int) < (l.length : Int)) = true := decide_eq_true (by omega)
    have d1 : decide (n < l.length) = true := decide_eq_true hlt
    clear he hd hz
    have q0 : (0 : Int) ≤ (n : Int) := by omega
    generalize l[n] = z at *
    go_wp2
    refine (HP.out z _ (HV.out _ _ HJ.out ?b1)).mono ?_
    case b1 => exact Below.refl _ _
    rintro e w2 ⟨rfl, hb⟩
    have HB2 := Aside0.mk (below_step HB.out hb)
    have HJ2 := Aside0.mk (HV.out _ _ HJ.out hb)
    clear hb
    cases hpz : p z with
    | true =>
     rw [hpz, if_pos rfl] at HE
     go_wp2
     go_ret
     exact ⟨by rw [HE.out]; rfl, HB2.out⟩
    | false =>
     rw [hpz, if_neg (by simp)] at HE
     go_wp2
     go_roundw
     case rel => exact ⟨n + 1, by omega, by go_num, HE.out, HB2, HJ2⟩
     case measure => simp [intOf]; omega
  · have d0 : decide ((n : Int) < (l.length : Int)) = false := decide_eq_false (by omega)
    have d1 : decide (n < l.length) = false := decide_eq_false hlt
    rw [List.drop_eq_nil_of_le (by omega)] at he
    have HE := Aside0.mk he
    clear he
    go_wp2
    go_ret
    exact ⟨by rw [HE.out]; rfl, HB.out⟩
set_option maxHeartbeats 4000000 in
theorem containsZ_calls (k : FuncId) (cap : Array Value) (hk : EntersK k) (p : S42 → Bool) (Inv : World → Prop) (hInv : ∀ W W', Inv W → Below W.heap.size W W' → Inv W')
  (hp : ∀ (z : S42) (W : World), Inv W → Calls Tryz.prog k (#[aggZ z] ++ cap) W fun e w' => e = .returned (.bool (p z)) ∧ Below W.heap.size W w')
  (A : Option Addr) (c : Nat) (l : List S42) (w : World) (hr : Kd.C k42 w A l.length l) (hc : l.length ≤ c) (hi : Inv w) :
  Calls Tryz.prog 25 #[.slice A l.length c, .func (.func k) #[] cap] w fun e w' => e = .returned (.bool (l.any p)) ∧ Below w.heap.size w w' := by
 have HX := Aside0.mk (fun W h hi => indexZ_calls k cap hk p Inv hInv hp A c l W h hc hi)
 have HR := Aside0.mk hr
 have HI := Aside0.mk hi
 have e : decide (idxP p l 0 ≥ 0) = l.any p := by rw [Bool.eq_iff_iff, ← idxP_any p l 0, decide_eq_true_eq]
 generalize l.any p = b at *
 clear hr hi hInv hp
 go_enter Tryz.func25, Tryz.ntmps25
 go_wp2_with (go_at_call 48; refine (HX.out _ HR.out HI.out).mono ?_; rintro e w2 ⟨rfl, hb⟩)
 go_ret
 exact ⟨by first | rfl | (rw [e]; rfl), hb⟩
set_option maxHeartbeats 4000000 in
set_option maxRecDepth 100000 in
theorem valid_calls (A : Option Addr) (c : Nat) (l : List S42) (w : World) (hr : Kd.C k42 w A l.length l) (hc : l.length ≤ c) :
  Calls Tryz.prog 7 #[.slice A l.length c] w fun e w' => e = .returned (.bool (validP l)) ∧ Below w.heap.size w w' := by
 have HX := Aside0.mk (fun W h => containsZ_calls 30 #[] enters30 (fun z => !okB z) (fun _ => True) (fun _ _ _ _ => trivial) (fun z W _ => zone_Valid_1.calls z.f0 z.f1.f0 z.f1.f1 z.f2.f0 z.f2.f1 (!okB z) W (bad_of z)) A c l W h hc trivial)
 have HR := Aside0.mk hr
 clear hr
 unfold validP
 generalize (l.any fun z => !okB z) = b at *
 by_cases h : (l.length : Int) ≤ 1000
 · have d : decide ((l.length : Int) ≤ 1000) = true := decide_eq_true h
   rw [d]
   go_enter Tryz.func7, Tryz.ntmps7
   go_wp2_with (go_at_call 25; refine (HX.out _ HR.out).mono ?_; rintro e w2 ⟨rfl, hb⟩)
   go_ret
   exact ⟨by simp, hb⟩
 · have d : decide ((l.length : Int) ≤ 1000) = false := decide_eq_false h
   rw [d]
   go_enter Tryz.func7, Tryz.ntmps7
   go_wp2_with (fail)
   go_ret
   exact ⟨by simp, Below.refl _ _⟩
theorem zone_Valid.calls (A0 : Option Addr) (c0 : Nat) (l0 : List (S42)) (r : Bool) (w : World) (hr0 : Kd.C k42 w A0 l0.length l0) (hc0 : l0.length ≤ c0) (h : zone_Valid.f l0 = some r) :
  Calls Tryz.prog 7 #[.slice A0 l0.length c0] w fun e w' => e = .returned (.bool r) ∧ Below w.heap.size w w' := by
 cases h
 exact valid_calls A0 c0 l0 w hr0 hc0
end Go.Proofs.YtacohlafmbhcdaaGreat.PAll
