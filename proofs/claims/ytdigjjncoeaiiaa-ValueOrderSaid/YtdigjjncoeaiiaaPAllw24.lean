/- Printed by a program of this session (wip/gprint.py) over the translation, cut to what is named (wip/dcut.py). Not trusted: Lean checks it. -/
import Derived.Test.YtdigjjncoeaiiaaPAlld0
namespace Go.Proofs.Ytdigjjncoeaiiaa.PAll
open Go.RowKit Go.Proofs.YtdigjjncoeaiiaaW.PrintWords Go.Proofs.YtdigjjncoeaiiaaW.PrintLast Go.Proofs.YtdigjjncoeaiiaaW.PrintMore
attribute [local go_sem] max2_int min2_int max_two min_two max_three min_three max_four min_four -- for this text's walks alone
set_option linter.unusedVariables false
set_option linter.unusedSimpArgs false
open Go.Proofs.YtdigjjncoeaiiaaGlib Go.Maps
set_option maxHeartbeats 8000000 in
set_option maxRecDepth 100000 in
theorem collect_succ (w0 : World) (b n : Nat) (hb0 : w0.heap.size ≤ b)
    (ih : ∀ (e : S24) (A : Option Addr) (c k : Nat) (acc : List Int) (w : World), wfE n e → Kd.C k24 w0 A e.f2.length e.f2 → e.f2.length ≤ c → Below w0.heap.size w0 w → OwnM w b k acc → k + (varF n e).length < maxLen →
      Calls Try.prog 35 #[.agg #[.int .i64 e.f0, .int .i64 e.f1, .slice A e.f2.length c], .map (some b)] w fun r w' => r = .returned (.tuple #[]) ∧ OwnM w' b (k + (varF n e).length) (acc ++ varF n e) ∧ w.grownBy w' (some b))
    (e : S24) (A : Option Addr) (c k : Nat) (acc : List Int) (w : World) (hwf : wfE (n + 1) e) (hr : Kd.C k24 w0 A e.f2.length e.f2) (hc : e.f2.length ≤ c) (hb : Below w0.heap.size w0 w) (ho : OwnM w b k acc) (hl : k + (varF (n + 1) e).length < maxLen) :
      Calls Try.prog 35 #[.agg #[.int .i64 e.f0, .int .i64 e.f1, .slice A e.f2.length c], .map (some b)] w fun r w' => r = .returned (.tuple #[]) ∧ OwnM w' b (k + (varF (n + 1) e).length) (acc ++ varF (n + 1) e) ∧ w.grownBy w' (some b) := by
  have IH := Aside0.mk ih
  have HR := Aside0.mk hr
  have HO := Aside0.mk ho
  have HB := Aside0.mk hb
  have HWF := Aside0.mk hwf
  have HL := Aside0.mk hl
  have HB0 := Aside0.mk hb0
  have hbl := ho.lt
  clear ih hr ho hwf hb hl hb0
  by_cases h4 : e.f0 = 4
  · have d4 : (e.f0 == 4) = true := beq_iff_eq.mpr h4
    have hz : e.f2 = [] := by
      obtain ⟨⟨lo, hi, kids, hs, hk, _, _⟩, _⟩ := HWF.out
      rw [h4] at hs
      have hk0 : kids = 0 := by simp [shapeP] at hs; omega
      exact List.eq_nil_of_length_eq_zero (by omega)
    have HV := Aside0.mk (show varF (n + 1) e = [e.f1] by unfold varF; rw [if_pos h4, hz]; rfl)
    have l0 : decide ((0 : Int) < (e.f2.length : Int)) = false := by rw [hz]; rfl
    have l1 : decide (0 < e.f2.length) = false := by rw [hz]; rfl
    have HLB := Aside0.mk (show k < maxLen by have := HL.out; omega)
    have hwf1 : (Lit.int .i64 e.f1).wf = true := by
      obtain ⟨⟨lo, hi, kids, hs, hk, h0, h1⟩, _⟩ := HWF.out
      rw [h4] at hs
      have hh : lo = 1 ∧ hi = 8 := by simp [shapeP] at hs; omega
      have hmin : IntKind.i64.min = -9223372036854775808 := rfl
      have hmax : IntKind.i64.max = 9223372036854775807 := rfl
      simp only [Lit.wf, Bool.and_eq_true, decide_eq_true_eq]
      omega
    have HK := Aside0.mk (show keyOf Try.prog 3 (.int .i64 e.f1) = some (.int .i64 e.f1) from keyOf_int_mk Try.underlying3 hwf1)
    have HO1 := Aside0.mk (show World.ownsMap (w.alloc (.cells #[.int .i64 e.f0, .int .i64 e.f1, .slice A e.f2.length c] 24)) Try.prog 3 (plainElem Try.prog 4) b k (setI acc) from HO.out.alloc _)
    have HG1 := Aside0.mk (World.grownBy_alloc w (.cells #[.int .i64 e.f0, .int .i64 e.f1, .slice A e.f2.length c] 24) (some b))
    clear h4 hz hwf1
    go_enter Try.func35, Try.ntmps35
    go_wp2_with (at_mapUpdate; (refine wpList_mapUpdate_own _ rfl _ _ _ 70 rfl 3 4 (int_keyed Try.underlying3) Try.underlying70 (plainElem Try.prog 4) b k (setI acc) rfl HO1.out HLB.out (.int .i64 e.f1) (.bool true) (.int .i64 e.f1) rfl rfl HK.out (.lit (.bool true)) [] (plainElem_bool Try.underlying4 true) ?_); intro w2 ho2 hg2; have HO2 := Aside0.mk ho2; have HG2 := Aside0.mk hg2; clear ho2 hg2; have e22 : w2.cell? ⟨w.heap.size, 2, none⟩ = some (.slice A e.f2.length c) := (blk_cell (grown_blk HG2.out (blk_new w _) (Nat.ne_of_gt hbl)) 2).trans rfl)
    go_loopw [15] (fun i wr => i = .int .i64 0 ∧ wr = w2) (fun i _ => 0)
    case atStart => exact ⟨rfl, rfl⟩
    case round =>
      obtain ⟨rfl, rfl⟩ := hrel
      go_wp2
      go_end0
      exact ⟨rfl, by rw [HV.out]; have h := HO2.out; rw [← setI_snoc] at h; exact h, grown_trans HG1.out HG2.out⟩
  · have d4 : (e.f0 == 4) = false := beq_eq_false_iff_ne.mpr h4
    have HV := Aside0.mk (show varF (n + 1) e = e.f2.flatMap (varF n) by unfold varF; rw [if_neg h4]; rfl)
    clear h4
    go_enter Try.func35, Try.ntmps35
    go_wp2_with fail
    go_loopw [15] (fun i wr => ∃ (m : Nat) (ac : List Int) (kk : Nat), m ≤ e.f2.length ∧ i = .int .i64 m ∧ Aside0 (acc ++ e.f2.flatMap (varF n) = ac ++ (e.f2.drop m).flatMap (varF n)) ∧ Aside0 (k + (e.f2.flatMap (varF n)).length = kk + ((e.f2.drop m).flatMap (varF n)).length) ∧ Aside0 (w.grownBy wr (some b)) ∧ Aside0 (OwnM wr b kk ac)) (fun i _ => e.f2.length - (Go.RowKit.intOf i).toNat)
    case atStart => exact ⟨0, acc, k, Nat.zero_le _, rfl, ⟨by rw [List.drop_zero]⟩, ⟨by rw [List.drop_zero]⟩, ⟨World.grownBy_alloc _ _ _⟩, ⟨HO.out.alloc _⟩⟩
    case round =>
      obtain ⟨m, ac, kk, hm, rfl, HE, HKK, HG, HOM⟩ := hrel
      by_cases hlt2 : m < e.f2.length
      · have d0 : decide ((m : Int) < (e.f2.length : Int)) = true := decide_eq_true (by omega)
        have d1 : decide (m < e.f2.length) = true := decide_eq_true hlt2
        have q0 : (0 : Int) ≤ (m : Int) := by omega
        have hdr : e.f2.drop m = e.f2[m] :: e.f2.drop (m + 1) := List.drop_eq_getElem_cons hlt2
        have hrd : rd_T24 e.f2 (m : Int) = e.f2[m] := by
          unfold rd_T24
          rw [Int.toNat_natCast, List.getD_eq_getElem?_getD, List.getElem?_eq_getElem hlt2]
          rfl
        have hwz := HWF.out.2 e.f2[m] (List.getElem_mem hlt2)
        obtain ⟨ad, A2, c2, ea, y0, y1, y2, hc2, hC2⟩ := at_T24 HR.out (m : Int) (by omega) (by omega)
        subst ea
        rw [hrd] at y0 y1 y2 hc2 hC2
        rw [Int.toNat_natCast] at y0 y1 y2
        have HBm := Aside0.mk (below_grown HB.out HB0.out HG.out)
        replace y0 := (HBm.out.cell (World.block_lt_of_cell? w0 _ y0)).trans y0
        replace y1 := (HBm.out.cell (World.block_lt_of_cell? w0 _ y1)).trans y1
        replace y2 := (HBm.out.cell (World.block_lt_of_cell? w0 _ y2)).trans y2
        rw [hdr, List.flatMap_cons] at HE HKK
        rw [← List.append_assoc] at HE
        rw [List.length_append, ← Nat.add_assoc] at HKK
        have HRM := Aside0.mk (show kk + (varF n e.f2[m]).length < maxLen by have h1 := HL.out; rw [HV.out] at h1; have h2 := HKK.out; omega)
        clear hdr hrd
        generalize e.f2[m] = z at *
        have CA := Aside0.mk (fun W h1 h2 => IH.out z A2 c2 kk ac W hwz hC2 hc2 h1 h2 HRM.out)
        clear hC2 hwz hc2
        go_wp2_with fail
        with_reducible refine (CA.out _ ?b1 ?b2).mono ?_
        case b1 => exact below_alloc HBm.out _
        case b2 => exact HOM.out.alloc _
        rintro r w5 ⟨rfl, ho5, hg5⟩
        have HO5 := Aside0.mk ho5
        have HG5 := Aside0.mk (grown_trans (grown_trans HG.out (World.grownBy_alloc _ _ _)) hg5)
        clear ho5 hg5 y0 y1 y2
        simp only
        go_wp2
        go_roundw
        case rel => exact ⟨m + 1, _, _, hlt2, congrArg (Value.int .i64) (wrap_next (n := m) (Nat.lt_of_lt_of_le hlt2 HR.out.2.1)), HE, HKK, HG5, HO5⟩
        case measure => exact meas_next hlt2 HR.out.2.1
      · obtain rfl : m = e.f2.length := Nat.le_antisymm hm (Nat.le_of_not_lt hlt2)
        have d0 : decide ((e.f2.length : Int) < (e.f2.length : Int)) = false := decide_eq_false (by omega)
        have d1 : decide (e.f2.length < e.f2.length) = false := decide_eq_false hlt2
        go_wp2
        go_end0
        rw [List.drop_eq_nil_of_le (Nat.le_refl _)] at HE HKK
        exact ⟨rfl, by
          have h1 := HE.out
          have h2 := HKK.out
          simp only [List.flatMap_nil, List.append_nil, List.length_nil, Nat.add_zero] at h1 h2
          rw [HV.out, h1, h2]
          exact HOM.out, HG.out⟩
theorem collect_calls (w0 : World) (b : Nat) (hb0 : w0.heap.size ≤ b) : ∀ (n : Nat) (e : S24) (A : Option Addr) (c k : Nat) (acc : List Int) (w : World), wfE n e → Kd.C k24 w0 A e.f2.length e.f2 → e.f2.length ≤ c → Below w0.heap.size w0 w → OwnM w b k acc → k + (varF n e).length < maxLen →
      Calls Try.prog 35 #[.agg #[.int .i64 e.f0, .int .i64 e.f1, .slice A e.f2.length c], .map (some b)] w fun r w' => r = .returned (.tuple #[]) ∧ OwnM w' b (k + (varF n e).length) (acc ++ varF n e) ∧ w.grownBy w' (some b)
  | 0, e, A, c, k, acc, w, h, _, _, _, _, _ => h.elim
  | n + 1, e, A, c, k, acc, w, h, hr, hc, hb, ho, hl => collect_succ w0 b n hb0 (fun e A c k acc w => collect_calls w0 b hb0 n e A c k acc w) e A c k acc w h hr hc hb ho hl
end Go.Proofs.Ytdigjjncoeaiiaa.PAll
