/- Printed by a program of this session (wip/gprint.py) over the translation, cut to what is named (wip/dcut.py). Not trusted: Lean checks it. -/
import Derived.Test.YtdigjjncoeaiiaaPAlld0
import Derived.Test.YtdigjjncoeaiiaaPAllw4
namespace Go.Proofs.Ytdigjjncoeaiiaa.PAll
open Go.RowKit Go.Proofs.YtdigjjncoeaiiaaW.PrintWords Go.Proofs.YtdigjjncoeaiiaaW.PrintLast Go.Proofs.YtdigjjncoeaiiaaW.PrintMore
attribute [local go_sem] max2_int min2_int max_two min_two max_three min_three max_four min_four -- for this text's walks alone
set_option linter.unusedVariables false
set_option linter.unusedSimpArgs false
open Go.Proofs.YtdigjjncoeaiiaaGlib
attribute [local go_sem] Oper.semAt_some
set_option maxHeartbeats 8000000 in
set_option maxRecDepth 100000 in
theorem cand1_calls {base bx g1 g2 : Nat} {A0 : Option Addr} {c0 : Nat} {l0 : List Int} {d : Int} {w : World}
    (hv : ValsOk l0) (hl1 : 1 ≤ l0.length) (hl2 : l0.length ≤ 4000) (hd0 : 1 ≤ d) (hd1 : d ≤ 16) (hc0 : l0.length ≤ c0)
    (hbw : base ≤ w.heap.size) (hR0 : ∀ B, Below base w B → Kd.C (Kd.int .i64) B A0 l0.length l0)
    (hcap : CapsQ g1 g2 (.slice A0 l0.length c0) d w) (hb1 : g1 ≠ bx) (hb2 : g2 ≠ bx) (hbx : bx < w.heap.size)
    (l : Nat) (J : List S55 → World → Prop) (W : World) (hl : w.heap.size ≤ l) (hlW : l < W.heap.size) (hs : Stp (fun _ => False) 0 base w W)
    (hJ : ∀ pre A B, J pre A → Stp (fun _ => False) 0 base A B → J pre B)
    (hY : ∀ pre x A, J pre A → coordB x.f0 = true ∧ x.f2 = d → YieldAt Fence.wide 0 Try.prog l (encQ x) A fun e B => e = .returned (.bool true) ∧ J (pre ++ [x]) B ∧ Stp (fun k => k = bx ∨ k = l) 0 base A B)
    (hJ0 : J [] W) :
    CallsIn Fence.wide 0 Try.prog 117 (#[.func (.yield l) #[] #[]] ++ #[.pointer (some ⟨g1, 0, none⟩), .pointer (some ⟨g2, 0, none⟩)]) W fun e B => (∃ v, e = .returned v) ∧ ∃ xs : List S55, xs = candL l0 d ∧ J xs B := by
  have HJ := Aside0.mk hJ
  have HY := Aside0.mk hY
  have HR0 := Aside0.mk hR0
  have HC := Aside0.mk (hcap.stp hs id id (by decide) (by decide))
  have HB := Aside0.mk (hs.below hbw)
  have HJ0 := Aside0.mk hJ0
  have HV := Aside0.mk hv
  have hg1 := (Array.getElem?_eq_some_iff.1 hcap.b1).1
  have hg2 := (Array.getElem?_eq_some_iff.1 hcap.b2).1
  have hrb := rise_bound hv hl1 hd0 hd1
  have HRW := Aside0.mk (HR0.out W (hs.below hbw))
  clear hJ hY hR0 hcap hJ0 hs hv
  have x1 : W.cell? ⟨g1, 0, none⟩ = some (.slice A0 l0.length c0) := (blk_cell HC.out.b1 0).trans rfl
  have x2 : W.cell? ⟨g2, 0, none⟩ = some (.int .i64 d) := (blk_cell HC.out.b2 0).trans rfl
  have w1 : wrap64 ((l0.length : Int) - 1) = (l0.length : Int) - 1 := wrap64_id (by omega) (by omega)
  refine callsIn_wide.2 (calls_of_wp Try.func117 rfl ?_)
  simp only [Try.ntmps117, List.size_toArray, List.length_cons, List.length_nil, Nat.reduceAdd, Nat.reduceSub, Array.replicate_succ, Array.replicate_zero, List.push_toArray, List.append_toArray, List.nil_append, List.cons_append]
  by_cases h1 : l0.length = 1
  · have e1 : ((l0.length : Int) - 1 == 0) = true := by rw [h1]; rfl
    have HCL := Aside0.mk (show candL l0 d = [⟨0, 0, d⟩] by unfold candL; rw [if_pos h1])
    clear h1
    refine (wpIn_wide (n := 0)).1 ?_
    obtain ⟨fn, tmps, assign, body, hy, hR⟩ := HY.out [] ⟨0, 0, d⟩ W HJ0.out ⟨rfl, rfl⟩
    dsimp only [encQ] at hy
    gi_wp2
    refine ⟨rfl, hR.mono ?_⟩
    rintro e B ⟨rfl, hJ3, hS3⟩
    gi_wp2
    refine bodyPost_ret (results_none rfl _ _ _) rfl ?_
    exact ⟨⟨_, rfl⟩, _, HCL.out.symm, hJ3⟩
  · have e1 : ((l0.length : Int) - 1 == 0) = false := beq_eq_false_iff_ne.mpr (by omega)
    have hn : 1 ≤ (l0.length : Int) - 1 := by omega
    have HCL := Aside0.mk (show candL l0 d = candR d (hiA l0 d - loA l0 d + 1).toNat (loA l0 d) by unfold candL; rw [if_neg h1])
    clear h1
    have FL := Aside0.mk (fun W => quot_floor.calls (d - 1 - riseP l0 d) ((l0.length : Int) - 1) _ W (qfloor_of _ _ (by omega) (by omega) (by omega) (by omega)))
    have hlo := div_bound (a := d - 1 - riseP l0 d) (n := (l0.length : Int) - 1) (m := 33000000000) hn (by omega) (by omega) (by omega)
    have hhi := div_bound (a := riseP l0 d + d - 1) (n := (l0.length : Int) - 1) (m := 33000000000) hn (by omega) (by omega) (by omega)
    have HLO := Aside0.mk (show loA l0 d = -((d - 1 - riseP l0 d) / ((l0.length : Int) - 1)) from rfl)
    have HHI := Aside0.mk (show hiA l0 d = (riseP l0 d + d - 1) / ((l0.length : Int) - 1) from rfl)
    obtain ⟨ad, ea, y0⟩ := Kd.at_int HRW.out 0 (by omega) (by omega)
    subst ea
    rw [show ((0 : Int)).toNat = 0 from rfl, Addr.add_zero'] at y0
    obtain ⟨ad', ea, y1⟩ := Kd.at_int HRW.out ((l0.length : Int) - 1) (by omega) (by omega)
    obtain rfl := Option.some.inj ea
    rw [show ((l0.length : Int) - 1).toNat = l0.length - 1 by omega] at y1
    have q3 : (1 : Int) ≤ (l0.length : Int) := by omega
    have v0 := vals_at HV.out (i := 0) (by omega) (by omega)
    have v1 := vals_at HV.out (i := (l0.length : Int) - 1) (by omega) (by omega)
    have hm := mul_bound (a := d) (b := rd l0 ((l0.length : Int) - 1) - rd l0 0) (m := 16) (n := 2000000000) (by omega) (by omega) (by omega) (by omega)
    have w2 : wrap64 (rd l0 ((l0.length : Int) - 1) - rd l0 0) = rd l0 ((l0.length : Int) - 1) - rd l0 0 := wrap64_id (by omega) (by omega)
    have w3 : wrap64 (d * (rd l0 ((l0.length : Int) - 1) - rd l0 0)) = riseP l0 d := wrap64_id (by omega) (by omega)
    have q0 : 0 ≤ (l0.length : Int) - 1 := by omega
    have q1 : (l0.length : Int) - 1 < (l0.length : Int) := by omega
    have q2 : (0 : Int) < (l0.length : Int) := by omega
    have w4 : wrap64 (d - 1) = d - 1 := wrap64_id (by omega) (by omega)
    have w5 : wrap64 (d - 1 - riseP l0 d) = d - 1 - riseP l0 d := wrap64_id (by omega) (by omega)
    have w6 : wrap64 (-((d - 1 - riseP l0 d) / ((l0.length : Int) - 1))) = loA l0 d := wrap64_id (by omega) (by omega)
    have HRB := Aside0.mk hrb
    have HLB := Aside0.mk hlo
    have HHB := Aside0.mk hhi
    rw [HLO.out] at w6
    rw [HLO.out, HHI.out] at HCL
    clear HLO HHI hrb hlo hhi w3
    unfold riseP at *
    go_wp2_with fail
    go_quiet (fail)
    generalize d * (rd l0 ((l0.length : Int) - 1) - rd l0 0) = R at *
    go_wp2_with (go_at_call 88; with_reducible refine (FL.out _).mono ?_; rintro r w3 ⟨rfl, hd⟩; have hb := Drawn0.below hd; clear hd; have HS3 := Aside0.mk (Stp.of_below (X := fun _ => False) (t := 0) (base := base) (below_step (by repeat (first | (with_reducible first | exact Below.refl _ _ | apply below_alloc | apply pw_below_drewN | apply below_drew1) | exact Below.refl _ _)) hb)); clear hb)
    have HJ3 := Aside0.mk (HJ.out _ _ _ (HJ.out _ _ _ HJ0.out (Stp.of_below (X := fun _ => False) (t := 0) (base := base) (pw_below_drewN (Below.refl _ _) nq))) HS3.out)
    have HC3 := Aside0.mk ((HC.out.stp (Stp.of_below (X := fun _ => False) (t := 0) (base := base) (pw_below_drewN (Below.refl _ _) nq)) id id (by decide) (by decide)).stp HS3.out id id (by decide) (by decide))
    have HNB := Aside0.mk (show 1 ≤ (l0.length : Int) - 1 ∧ (l0.length : Int) - 1 ≤ 3999 by omega)
    have HG1 := Aside0.mk (show g1 ≠ l ∧ g2 ≠ l by omega)
    have HDB := Aside0.mk (show 1 ≤ d ∧ d ≤ 16 from ⟨hd0, hd1⟩)
    clear HC HJ0 FL HRW x1 x2 y0 y1 v0 v1 hm w2 w4 w5 w6 HV hd0 hd1 hg1 hg2 q3 q2 q1 q0 hn w1 e1
    generalize (l0.length : Int) - 1 = N at *
    obtain ⟨H, hH⟩ : ∃ H, H = (R + d - 1) / N := ⟨_, rfl⟩
    have HH := Aside0.mk hH
    rw [← hH] at HCL HHB
    clear hH
    have HLL := Aside0.mk (show -33000000000 ≤ -((d - 1 - R) / N) ∧ -((d - 1 - R) / N) ≤ 33000000000 by have := HLB.out; omega)
    generalize -((d - 1 - R) / N) = L at *
    have wl : wrap64 L = L := wrap64_id (by have := HLL.out; omega) (by have := HLL.out; omega)
    have wr1 : wrap64 (R + d) = R + d := wrap64_id (by have := HRB.out; have := HDB.out; omega) (by have := HRB.out; have := HDB.out; omega)
    have wr2 : wrap64 (R + d - 1) = R + d - 1 := wrap64_id (by have := HRB.out; have := HDB.out; omega) (by have := HRB.out; have := HDB.out; omega)
    rw [wl]
    refine (wpIn_wide (n := 0)).1 ?_
    gi_loopw [6] (fun v wr => ∃ (a : Int) (kk : Nat) (pre : List S55), v = .int .i64 a ∧ Aside0 (-33000000000 ≤ a ∧ a ≤ 33000000001) ∧ Aside0 (kk = (H - a + 1).toNat) ∧ Aside0 (pre ++ candR d kk a = candL l0 d) ∧ Aside0 (J pre wr) ∧ Aside0 (CapsQ g1 g2 (.slice (some ad) l0.length c0) d wr)) (fun v _ => (H + 1 - Go.RowKit.intOf v).toNat)
    case atStart => exact ⟨L, (H - L + 1).toNat, [], rfl, ⟨by have := HLL.out; omega⟩, ⟨rfl⟩, ⟨by rw [HCL.out]; rfl⟩, HJ3, HC3⟩
    case round =>
      clear HJ3 HC3
      obtain ⟨a, kk, pre, rfl, HA, HK, HE, HJp, HCp⟩ := hrel
      have x2 : wr.cell? ⟨g2, 0, none⟩ = some (.int .i64 d) := (blk_cell HCp.out.b2 0).trans rfl
      have wm : wrap64 (a * N) = a * N := wrap_cand HA.out HNB.out
      have hcmp : a * N ≤ R + d - 1 ↔ a ≤ H := by rw [HH.out]; exact (Int.le_ediv_iff_mul_le (by have := HNB.out; omega)).symm
      by_cases hle : a ≤ H
      · have d0 : decide (a * N ≤ R + d - 1) = true := decide_eq_true (hcmp.2 hle)
        clear hcmp
        obtain ⟨k1, hk1⟩ : ∃ k1, kk = k1 + 1 := ⟨kk - 1, by have := HK.out; omega⟩
        subst hk1
        have HK1 := Aside0.mk (show k1 = (H - (a + 1) + 1).toNat by have := HK.out; omega)
        have HA1 := Aside0.mk (show -33000000000 ≤ a + 1 ∧ a + 1 ≤ 33000000001 by have h1 := HA.out; have h2 := HHB.out; omega)
        have wn : wrap64 (a + 1) = a + 1 := wrap64_id (by have := HA.out; omega) (by have := HA.out; omega)
        have CO := Aside0.mk (fun W => quot_isCoord.calls a _ W (isCoord_of a))
        have HM := Aside0.mk (show (H + 1 - (a + 1)).toNat < (H + 1 - a).toNat by omega)
        cases hca : coordB a with
        | true =>
          rw [hca] at CO
          have HE1 := Aside0.mk (show (pre ++ [(⟨a, 0, d⟩ : S55)]) ++ candR d k1 (a + 1) = candL l0 d by have h := HE.out; unfold candR at h; rw [if_pos hca] at h; rw [List.append_assoc]; exact h)
          have HCA := Aside0.mk hca
          clear hca
          gi_wp2
          refine ⟨trivial, rfl, (callsIn_wide.2 (CO.out _)).mono ?_⟩
          rintro e w8 ⟨rfl, ⟨nd, rfl⟩⟩
          obtain ⟨fn, tmps, assign, body, hy, hR⟩ := HY.out pre ⟨a, 0, d⟩ (wr.drewN nd) (HJ.out _ _ _ HJp.out (Stp.of_below (pw_below_drewN (Below.refl _ _) nd))) ⟨HCA.out, rfl⟩
          dsimp only [encQ] at hy
          gi_wp2
          refine ⟨rfl, hR.mono ?_⟩
          rintro e B ⟨rfl, hJ3, hS3⟩
          gi_wp2
          go_roundw
          case rel => exact ⟨a + 1, k1, pre ++ [⟨a, 0, d⟩], congrArg (Value.int .i64) wn, HA1, HK1, HE1, ⟨hJ3⟩, ⟨(HCp.out.stp (Stp.of_below (X := fun _ => False) (t := 0) (base := base) (pw_below_drewN (Below.refl _ _) nd)) id id (by decide) (by decide)).stp hS3 (fun h => h.elim hb1 HG1.out.1) (fun h => h.elim hb2 HG1.out.2) (by decide) (by decide)⟩⟩
          case measure => exact meas_int wn HM.out
        | false =>
          rw [hca] at CO
          have HE1 := Aside0.mk (show pre ++ candR d k1 (a + 1) = candL l0 d by have h := HE.out; unfold candR at h; rw [if_neg (by rw [hca]; simp)] at h; exact h)
          clear hca
          gi_wp2
          refine ⟨trivial, rfl, (callsIn_wide.2 (CO.out _)).mono ?_⟩
          rintro e w8 ⟨rfl, ⟨nd, rfl⟩⟩
          gi_wp2
          refine ⟨(fun f h => nomatch h), ?_⟩
          gi_wp2
          go_roundw
          case rel => exact ⟨a + 1, k1, pre, congrArg (Value.int .i64) wn, HA1, HK1, HE1, ⟨HJ.out _ _ _ HJp.out (Stp.of_below (pw_below_drewN (Below.refl _ _) nd))⟩, ⟨HCp.out.stp (Stp.of_below (X := fun _ => False) (t := 0) (base := base) (pw_below_drewN (Below.refl _ _) nd)) id id (by decide) (by decide)⟩⟩
          case measure => exact meas_int wn HM.out
      · have d0 : decide (a * N ≤ R + d - 1) = false := decide_eq_false (fun h => hle (hcmp.1 h))
        have HK0 := HK.out
        rw [show (H - a + 1).toNat = 0 by omega] at HK0
        subst HK0
        have HE1 := HE.out
        unfold candR at HE1
        rw [List.append_nil] at HE1
        clear hcmp
        gi_wp2
        refine bodyPost_end (results_none rfl _ _ _) rfl ?_
        exact ⟨⟨_, rfl⟩, by rw [← HE1]; exact HJp.out⟩
end Go.Proofs.Ytdigjjncoeaiiaa.PAll
