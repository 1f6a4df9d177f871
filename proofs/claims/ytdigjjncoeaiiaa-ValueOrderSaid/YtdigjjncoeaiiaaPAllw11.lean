/- Printed by a program of this session (wip/gprint.py) over the translation, cut to what is named (wip/dcut.py). Not trusted: Lean checks it. -/
import Derived.Test.YtdigjjncoeaiiaaPAlld0
namespace Go.Proofs.Ytdigjjncoeaiiaa.PAll
open Go.RowKit Go.Proofs.YtdigjjncoeaiiaaW.PrintWords Go.Proofs.YtdigjjncoeaiiaaW.PrintLast Go.Proofs.YtdigjjncoeaiiaaW.PrintMore
attribute [local go_sem] max2_int min2_int max_two min_two max_three min_three max_four min_four -- for this text's walks alone
set_option linter.unusedVariables false
set_option linter.unusedSimpArgs false
open Go.Proofs.YtdigjjncoeaiiaaGlib
set_option maxHeartbeats 4000000 in
set_option maxRecDepth 100000 in
theorem indexI_calls (k : FuncId) (cap : Array Value) (hk : EntersK k) (p : Int → Bool) (Inv : World → Prop) (hInv : ∀ W W', Inv W → Below W.heap.size W W' → Inv W')
    (hp : ∀ (z : Int) (W : World), Inv W → Calls Try.prog k (#[.int .i64 z] ++ cap) W fun e w' => e = .returned (.bool (p z)) ∧ Below W.heap.size W w')
    (A : Option Addr) (c : Nat) (l : List Int) (w : World) (hr : Kd.C (Kd.int .i64) w A l.length l) (hc : l.length ≤ c) (hi : Inv w) :
    Calls Try.prog 76 #[.slice A l.length c, .func (.func k) #[] cap] w fun e w' => e = .returned (.int .i64 (idxP p l 0)) ∧ Below w.heap.size w w' := by
  have HR := Aside0.mk hr
  have HI := Aside0.mk hi
  have HV := Aside0.mk hInv
  have HP := Aside0.mk hp
  have HL := Aside0.mk hr.2.1
  clear hr hi hInv hp
  have hlm : (l.length : Int) ≤ 9223372036854775807 := by have := HL.out; omega
  unfold EntersK at hk
  go_enter Try.func76, Try.ntmps76
  go_wp2
  go_loopw [5, 8] (fun v i wr => ∃ n : Nat, n ≤ l.length ∧ i = .int .i64 n ∧ idxP p l 0 = idxP p (l.drop n) n ∧ Aside0 (Below w.heap.size w wr) ∧ Aside0 (Inv wr)) (fun _ i _ => l.length - (intOf i).toNat)
  case atStart => exact ⟨0, Nat.zero_le _, rfl, by rw [List.drop_zero], ⟨Below.refl _ _⟩, HI⟩
  case round =>
    obtain ⟨n, hn, rfl, he, HB, HJ⟩ := hrel
    by_cases hlt : n < l.length
    · have hd : l.drop n = l[n] :: l.drop (n + 1) := List.drop_eq_getElem_cons hlt
      have hz : rd l (n : Int) = l[n] := by
        unfold rd
        rw [Int.toNat_natCast, List.getD_eq_getElem?_getD, List.getElem?_eq_getElem hlt]
        rfl
      obtain ⟨ad, e, x0⟩ := Kd.at_int HR.out (n : Int) (by omega) (by omega)
      subst e
      rw [hz, Int.toNat_natCast] at x0
      replace x0 := (HB.out.cell (World.block_lt_of_cell? w _ x0)).trans x0
      rw [hd] at he
      simp only [idxP] at he
      have HE := Aside0.mk he
      have d0 : decide ((n : Int) < (l.length : Int)) = true := decide_eq_true (by omega)
      have d1 : decide (n < l.length) = true := decide_eq_true hlt
      clear he hd hz
      have q0 : (0 : Int) ≤ (n : Int) := by omega
      generalize l[n] = z at *
      go_wp2
      refine (HP.out z _ (HV.out _ _ HJ.out ?b1)).mono ?_
      case b1 => exact Below.refl _ _
      rintro e w2 ⟨rfl, hb⟩
      have HB2 := Aside0.mk (below_step HB.out hb)
      have HJ2 := Aside0.mk (HV.out _ _ HJ.out hb)
      clear hb
      cases hpz : p z with
      | true =>
        rw [hpz, if_pos rfl] at HE
        go_wp2
        go_ret
        exact ⟨by rw [HE.out]; rfl, HB2.out⟩
      | false =>
        rw [hpz, if_neg (by simp)] at HE
        go_wp2
        go_roundw
        case rel => exact ⟨n + 1, by omega, by go_num, HE.out, HB2, HJ2⟩
        case measure => simp [intOf]; omega
    · have d0 : decide ((n : Int) < (l.length : Int)) = false := decide_eq_false (by omega)
      have d1 : decide (n < l.length) = false := decide_eq_false hlt
      rw [List.drop_eq_nil_of_le (by omega)] at he
      have HE := Aside0.mk he
      clear he
      go_wp2
      go_ret
      exact ⟨by rw [HE.out]; rfl, HB.out⟩
end Go.Proofs.Ytdigjjncoeaiiaa.PAll
