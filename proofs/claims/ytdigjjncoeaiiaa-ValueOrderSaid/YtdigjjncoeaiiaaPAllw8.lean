/- Printed by a program of this session (wip/gprint.py) over the translation, cut to what is named (wip/dcut.py). Not trusted: Lean checks it. -/
import Derived.Test.YtdigjjncoeaiiaaPAlld0
import Derived.Test.YtdigjjncoeaiiaaPAllw0
import Derived.Test.YtdigjjncoeaiiaaPAllw1
import Derived.Test.YtdigjjncoeaiiaaPAllw2
import Derived.Test.YtdigjjncoeaiiaaPAllw3
namespace Go.Proofs.Ytdigjjncoeaiiaa.PAll
open Go.RowKit Go.Proofs.YtdigjjncoeaiiaaW.PrintWords Go.Proofs.YtdigjjncoeaiiaaW.PrintLast Go.Proofs.YtdigjjncoeaiiaaW.PrintMore
attribute [local go_sem] max2_int min2_int max_two min_two max_three min_three max_four min_four -- for this text's walks alone
set_option linter.unusedVariables false
set_option linter.unusedSimpArgs false
open Go.MapKept Go.Proofs.YtdigjjncoeaiiaaGlib
/-- The table's entry for an operator, and what it does. -/
theorem op_table (width scale x0 x1 x2 x3 x4 x5 x6 x7 op n : Int) (l : List Int) (lo hi kids : Int) (hs : shapeP op = some (lo, hi, kids)) (hk : (l.length : Int) = kids) (h0 : lo ≤ n) (h1 : n ≤ hi) (hl : ∀ x ∈ l, coordB x = true)
    (hw : 0 ≤ width ∧ width ≤ 1000000) (hc : 50 ≤ scale ∧ scale ≤ 300) :
    ∃ (k : FuncId) (i : Nat), EntersK k ∧ Instr.findNow (.int .i64) (.int .i64 op) opsEs.toList 0 = some (some (i, .func (.func k) #[] #[])) ∧
      ∀ (A : Option Addr) (c : Nat) (W : World), Kd.C (Kd.int .i64) W A l.length l → l.length ≤ c →
        Calls Try.prog k #[aboutV width scale x0 x1 x2 x3 x4 x5 x6 x7, .int .i64 n, .slice A l.length c] W fun e w' => e = .returned (.int .i64 (opP width scale [x0, x1, x2, x3, x4, x5, x6, x7] op n l)) ∧ Below W.heap.size W w' := by
  unfold shapeP at hs
  have hW : op = 1 ∨ op = 2 ∨ op = 3 ∨ op = 4 ∨ op = 5 ∨ op = 6 ∨ op = 7 ∨ op = 8 ∨ op = 9 ∨ op = 10 := by
    by_cases h : op = 1 ∨ op = 2 ∨ op = 3 ∨ op = 4 ∨ op = 5 ∨ op = 6 ∨ op = 7 ∨ op = 8 ∨ op = 9 ∨ op = 10
    · exact h
    · simp only [not_or] at h
      obtain ⟨a1, a2, a3, a4, a5, a6, a7, a8, a9, a10⟩ := h
      simp [a1, a2, a3, a4, a5, a6, a7, a8, a9, a10] at hs
  rcases hW with rfl | rfl | rfl | rfl | rfl | rfl | rfl | rfl | rfl | rfl <;> simp at hs <;> obtain ⟨rfl, rfl, rfl⟩ := hs
  · refine ⟨48, 0, entersK_of Try.func48 (by kernel_rfl) (by kernel_rfl), rfl, fun A c W hr hc' => ?_⟩
    exact value_about_number.calls width scale x0 x1 x2 x3 x4 x5 x6 x7 n A c l _ W hr hc' rfl
  · refine ⟨49, 1, entersK_of Try.func49 (by kernel_rfl) (by kernel_rfl), rfl, fun A c W hr hc' => ?_⟩
    refine value_about_percent.calls width scale x0 x1 x2 x3 x4 x5 x6 x7 n A c l _ W hr hc' ?_
    have hb := mul_bound (a := n) (b := width) (m := 10000) (n := 1000000) (by omega) (by omega) (by omega) (by omega)
    unfold value_about_percent.f
    rw [wrap64_id (by omega) (by omega), over_of _ _ (by omega) (by omega) (by omega)]; rfl
  · refine ⟨50, 2, entersK_of Try.func50 (by kernel_rfl) (by kernel_rfl), rfl, fun A c W hr hc' => ?_⟩
    refine value_about_em.calls width scale x0 x1 x2 x3 x4 x5 x6 x7 n A c l _ W hr hc' ?_
    have hb := mul_bound (a := n) (b := scale) (m := 10000) (n := 1000000) (by omega) (by omega) (by omega) (by omega)
    unfold value_about_em.f
    rw [wrap64_id (by omega) (by omega), over_of _ _ (by omega) (by omega) (by omega)]; rfl
  · refine ⟨51, 3, entersK_of Try.func51 (by kernel_rfl) (by kernel_rfl), rfl, fun A c W hr hc' => ?_⟩
    exact variable_calls width scale x0 x1 x2 x3 x4 x5 x6 x7 n (n - 1).toNat A l.length c W (by omega) (by rw [wrap64_id (by omega) (by omega)]; omega)
  · obtain ⟨x, y, rfl⟩ := len2 (l := l) (by omega)
    have hx := coordB_of (hl x (by simp))
    have hy := coordB_of (hl y (by simp))
    refine ⟨52, 4, entersK_of Try.func52 (by kernel_rfl) (by kernel_rfl), rfl, fun A c W hr hc' => ?_⟩
    refine value_about_sum.calls width scale x0 x1 x2 x3 x4 x5 x6 x7 n A c _ _ W hr hc' ?_
    unfold value_about_sum.f
    rw [if_pos (by simp), if_pos (by simp), wrap64_id (by simp [rd]; omega) (by simp [rd]; omega)]; rfl
  · obtain ⟨x, y, rfl⟩ := len2 (l := l) (by omega)
    have hx := coordB_of (hl x (by simp))
    have hy := coordB_of (hl y (by simp))
    refine ⟨53, 5, entersK_of Try.func53 (by kernel_rfl) (by kernel_rfl), rfl, fun A c W hr hc' => ?_⟩
    refine value_about_less.calls width scale x0 x1 x2 x3 x4 x5 x6 x7 n A c _ _ W hr hc' ?_
    unfold value_about_less.f
    rw [if_pos (by simp), if_pos (by simp), wrap64_id (by simp [rd]; omega) (by simp [rd]; omega)]; rfl
  · obtain ⟨x, rfl⟩ := len1 (l := l) (by omega)
    have hx := coordB_of (hl x (by simp))
    have hb := mul_bound (a := n) (b := x) (m := 1000) (n := 1000000000) (by omega) (by omega) (by omega) (by omega)
    refine ⟨54, 6, entersK_of Try.func54 (by kernel_rfl) (by kernel_rfl), rfl, fun A c W hr hc' => ?_⟩
    refine value_about_times.calls width scale x0 x1 x2 x3 x4 x5 x6 x7 n A c _ _ W hr hc' ?_
    unfold value_about_times.f
    rw [if_pos (by simp), wrap64_id (by simp [rd]; omega) (by simp [rd]; omega)]; rfl
  · obtain ⟨x, rfl⟩ := len1 (l := l) (by omega)
    have hx := coordB_of (hl x (by simp))
    refine ⟨55, 7, entersK_of Try.func55 (by kernel_rfl) (by kernel_rfl), rfl, fun A c W hr hc' => ?_⟩
    refine value_about_over.calls width scale x0 x1 x2 x3 x4 x5 x6 x7 n A c _ _ W hr hc' ?_
    unfold value_about_over.f
    rw [if_pos (by simp), over_of _ _ (by omega) (by simp [rd]; omega) (by simp [rd]; omega)]; rfl
  · obtain ⟨x, y, rfl⟩ := len2 (l := l) (by omega)
    refine ⟨56, 8, entersK_of Try.func56 (by kernel_rfl) (by kernel_rfl), rfl, fun A c W hr hc' => ?_⟩
    refine value_about_least.calls 5 width scale x0 x1 x2 x3 x4 x5 x6 x7 n A c _ _ W hr hc' ?_
    unfold value_about_least.f
    rw [min2_of]; rfl
  · obtain ⟨x, y, rfl⟩ := len2 (l := l) (by omega)
    refine ⟨57, 9, entersK_of Try.func57 (by kernel_rfl) (by kernel_rfl), rfl, fun A c W hr hc' => ?_⟩
    refine value_about_greatest.calls 5 width scale x0 x1 x2 x3 x4 x5 x6 x7 n A c _ _ W hr hc' ?_
    unfold value_about_greatest.f
    rw [max2_of]; rfl
set_option maxHeartbeats 8000000 in
set_option maxRecDepth 100000 in
theorem value_succ (width scale x0 x1 x2 x3 x4 x5 x6 x7 : Int) (hw : 0 ≤ width ∧ width ≤ 1000000) (hs : 50 ≤ scale ∧ scale ≤ 300) (b n : Nat)
    (ih : ∀ (e : S24) (A : Option Addr) (c : Nat) (w : World), wfE n e → Kd.C k24 w A e.f2.length e.f2 → e.f2.length ≤ c → OpsAt b w →
      Calls Try.prog 47 #[aboutV width scale x0 x1 x2 x3 x4 x5 x6 x7, .agg #[.int .i64 e.f0, .int .i64 e.f1, .slice A e.f2.length c], .map (some b)] w fun r w' => r = endV (evF width scale [x0, x1, x2, x3, x4, x5, x6, x7] n e) ∧ Below w.heap.size w w')
    (e : S24) (A : Option Addr) (c : Nat) (w : World) (hwf : wfE (n + 1) e) (hr : Kd.C k24 w A e.f2.length e.f2) (hc : e.f2.length ≤ c) (ho : OpsAt b w) :
      Calls Try.prog 47 #[aboutV width scale x0 x1 x2 x3 x4 x5 x6 x7, .agg #[.int .i64 e.f0, .int .i64 e.f1, .slice A e.f2.length c], .map (some b)] w fun r w' => r = endV (evF width scale [x0, x1, x2, x3, x4, x5, x6, x7] (n + 1) e) ∧ Below w.heap.size w w' := by
  have IH := Aside0.mk ih
  have HR := Aside0.mk hr
  have HO := Aside0.mk ho
  have HWF := Aside0.mk hwf
  have HWH := Aside0.mk hw
  have HSC := Aside0.mk hs
  have h2 : e.f2.length ≤ 2 := by
    obtain ⟨⟨lo, hi, kids, hsh, hk, _⟩, _⟩ := hwf
    have := shape_kids hsh
    omega
  clear ih hr ho hwf hw hs
  unfold aboutV at *
  go_enter Try.func47, Try.ntmps47
  go_wp2_with (first
    | ((with_reducible refine gate_dst (N := 3) rfl ?_); refine box_event ?hg (N := 3) ?hd (cs := #[.int .i64 width, .int .i64 scale, .int .i64 x0, .int .i64 x1, .int .i64 x2, .int .i64 x3, .int .i64 x4, .int .i64 x5, .int .i64 x6, .int .i64 x7]) (t := 59) ?hr ?_; (case hd => rfl); (case hg => rfl); (case hr => first | (go_simp; done) | (go_simp; rfl)); intro g1 hg w1 hbox hb
       have HB1 := Aside0.mk hb
       have BK1 := Aside0.mk hbox
       clear hb hbox hg)
    | ((with_reducible refine gate_dst (N := 4) rfl ?_); refine box_event ?hg (N := 4) ?hd (cs := #[.int .i64 e.f0, .int .i64 e.f1, .slice A e.f2.length c]) (t := 24) ?hr ?_; (case hd => rfl); (case hg => rfl); (case hr => first | (go_simp; done) | (go_simp; rfl)); intro g2 hg w2 hbox hb
       have HB2 := Aside0.mk (below_step HB1.out hb)
       have BA2 := Aside0.mk (blk_below BK1.out hb)
       have BE2 := Aside0.mk hbox
       clear hb hbox hg
       have e22 := (blk_cell BE2.out 2).trans rfl))
  clear e22
  go_loopw [7, 14] (fun v i wr => ∃ (m : Nat) (xs : List Int), m ≤ e.f2.length ∧ i = .int .i64 m ∧ Aside0 (xs.length = m) ∧ Aside0 (∀ x ∈ xs, coordB x = true) ∧ Aside0 (evL (evF width scale [x0, x1, x2, x3, x4, x5, x6, x7] n) e.f2 = (evL (evF width scale [x0, x1, x2, x3, x4, x5, x6, x7] n) (e.f2.drop m)).map (xs ++ ·)) ∧ Aside0 (Kd.R (Kd.int .i64) 3 wr w.heap.size (fun _ => True) v xs) ∧ Aside0 (Below w.heap.size w wr) ∧ Aside0 (wr.heap[g1]? = some (.cells #[.int .i64 width, .int .i64 scale, .int .i64 x0, .int .i64 x1, .int .i64 x2, .int .i64 x3, .int .i64 x4, .int .i64 x5, .int .i64 x6, .int .i64 x7] 59 (0, 0))) ∧ Aside0 (wr.heap[g2]? = some (.cells #[.int .i64 e.f0, .int .i64 e.f1, .slice A e.f2.length c] 24 (0, 0)))) (fun _ i _ => e.f2.length - (intOf i).toNat)
  case atStart => exact ⟨0, [], Nat.zero_le _, rfl, ⟨rfl⟩, ⟨fun x h => by cases h⟩, ⟨by rw [List.drop_zero]; cases evL (evF width scale [x0, x1, x2, x3, x4, x5, x6, x7] n) e.f2 <;> simp⟩, ⟨Kd.R_nil _ _ _ _ _⟩, HB2, BA2, BE2⟩
  case round =>
    obtain ⟨m, xs, hm, rfl, HLN, HCO, HE, HRV, HBm, BAm, BEm⟩ := hrel
    by_cases hlt2 : m < e.f2.length
    · have d0 : decide ((m : Int) < (e.f2.length : Int)) = true := decide_eq_true (by omega)
      have d1 : decide (m < e.f2.length) = true := decide_eq_true hlt2
      have q0 : (0 : Int) ≤ (m : Int) := by omega
      have hdr : e.f2.drop m = e.f2[m] :: e.f2.drop (m + 1) := List.drop_eq_getElem_cons hlt2
      have hrd : rd_T24 e.f2 (m : Int) = e.f2[m] := by
        unfold rd_T24
        rw [Int.toNat_natCast, List.getD_eq_getElem?_getD, List.getElem?_eq_getElem hlt2]
        rfl
      have hwz := HWF.out.2 e.f2[m] (List.getElem_mem hlt2)
      obtain ⟨ad, A2, c2, ea, y0, y1, y2, hc2, hC2⟩ := at_T24 HR.out (m : Int) (by omega) (by omega)
      subst ea
      rw [hrd] at y0 y1 y2 hc2 hC2
      rw [Int.toNat_natCast] at y0 y1 y2
      replace y0 := (HBm.out.cell (World.block_lt_of_cell? w _ y0)).trans y0
      replace y1 := (HBm.out.cell (World.block_lt_of_cell? w _ y1)).trans y1
      replace y2 := (HBm.out.cell (World.block_lt_of_cell? w _ y2)).trans y2
      rw [hdr] at HE
      clear hdr hrd
      generalize e.f2[m] = z at *
      have HC2 := Aside0.mk hC2
      have CA := Aside0.mk (fun W h1 h2 => IH.out z A2 c2 W hwz h1 hc2 h2)
      clear hC2 hwz
      have BAx := Aside0.mk (blk_alloc BAm.out (.cells #[.int .i64 z.f0, .int .i64 z.f1, .slice A2 z.f2.length c2] 24))
      have a0 := (blk_cell BAx.out 0).trans rfl
      have a1 := (blk_cell BAx.out 1).trans rfl
      have a2 := (blk_cell BAx.out 2).trans rfl
      have a3 := (blk_cell BAx.out 3).trans rfl
      have a4 := (blk_cell BAx.out 4).trans rfl
      have a5 := (blk_cell BAx.out 5).trans rfl
      have a6 := (blk_cell BAx.out 6).trans rfl
      have a7 := (blk_cell BAx.out 7).trans rfl
      have a8 := (blk_cell BAx.out 8).trans rfl
      have a9 := (blk_cell BAx.out 9).trans rfl
      cases hz : evF width scale [x0, x1, x2, x3, x4, x5, x6, x7] n z with
      | none =>
        have HX := Aside0.mk (evL_none HE.out hz)
        rw [hz] at CA
        clear hz HE
        go_wp2_with fail
        with_reducible refine (CA.out _ ?b1 ?b2).mono ?_
        case b1 => exact Kd.C_below HC2.out (below_alloc HBm.out _)
        case b2 => exact opsAt_below HO.out (below_alloc HBm.out _)
        rintro r w5 ⟨rfl, hb⟩
        exact ⟨rfl, by rw [evF_none HX.out]; rfl, below_step (below_alloc HBm.out _) hb⟩
      | some x =>
        have HX := Aside0.mk (evL_step HE.out hz)
        have HXC := Aside0.mk (evF_coord hz)
        have HLB := Aside0.mk (append_room HLN.out hlt2 h2)
        rw [hz] at CA
        clear hz HE
        go_wp2_with fail
        with_reducible refine (CA.out _ ?b1 ?b2).mono ?_
        case b1 => exact Kd.C_below HC2.out (below_alloc HBm.out _)
        case b2 => exact opsAt_below HO.out (below_alloc HBm.out _)
        rintro r w5 ⟨rfl, hb⟩
        have HB5 := Aside0.mk (below_step (below_alloc HBm.out _) hb)
        have HR5 := Aside0.mk (Kd.R_below (Kd.R_alloc HRV.out _) hb)
        have BA5 := Aside0.mk (blk_below BAx.out hb)
        have BE5 := Aside0.mk (blk_below (blk_alloc BEm.out _) hb)
        clear a0 a1 a2 a3 a4 a5 a6 a7 a8 a9 y0 y1 y2 hb
        simp only [endV]
        go_wp2_with ((with_reducible refine gate_dst (N := 24) rfl ?_); at_builtin; (refine Kd.R_append (Kd.int .i64) (w0 := w) w.heap.size rfl (.tmp 18) (.tmp 23) 33 3 (.int .i64 0) 8 rfl Try.underlying33 info3 rfl (by decide) (by omega) u7 xs x [.int .i64 x] (fun _ => True) (fun _ => False) rfl rfl rfl (fun _ hk => hk.elim) (fun _ _ => trivial) HR5.out HB5.out HB5.out.size HLB.out ?_); intro v1 w6 ho hb hg _; have BA6 := Aside0.mk (blk_grown BA5.out hg (Kd.R_ne HR5.out BA5.out (by decide))); have BE6 := Aside0.mk (blk_grown BE5.out hg (Kd.R_ne HR5.out BE5.out (by decide))); have HB6 := Aside0.mk hb; have HR6 := Aside0.mk ho; clear hb ho hg)
        go_roundw
        case rel => exact ⟨m + 1, xs ++ [x], hlt2, rfl, ⟨by simp [HLN.out]⟩, ⟨all_snoc HCO.out HXC.out⟩, HX, HR6, HB6, BA6, BE6⟩
        case measure => exact meas_next2 hlt2
    · obtain rfl : m = e.f2.length := Nat.le_antisymm hm (Nat.le_of_not_lt hlt2)
      have d0 : decide ((e.f2.length : Int) < (e.f2.length : Int)) = false := decide_eq_false (by omega)
      have d1 : decide (e.f2.length < e.f2.length) = false := decide_eq_false hlt2
      have HX := Aside0.mk (evF_some (evL_done (by rw [List.drop_eq_nil_of_le (Nat.le_refl _)] at HE; exact HE.out)))
      obtain ⟨lo, hi, kids, hsh, hk, hn0, hn1⟩ := HWF.out.1
      obtain ⟨k, j, hent, hfind, hop⟩ := op_table width scale x0 x1 x2 x3 x4 x5 x6 x7 e.f0 e.f1 xs lo hi kids hsh (by rw [HLN.out]; exact hk) hn0 hn1 HCO.out HWH.out HSC.out
      have hlk := fun W (h : OpsAt b W) => ops_look h hfind
      obtain ⟨AX, cx, rfl⟩ : ∃ A c, u7 = .slice A xs.length c := Kd.R_slice HRV.out
      have HXR := Aside0.mk (Kd.R_reads' HRV.out).2.2
      have HXL := Aside0.mk (Kd.R_reads' HRV.out).2.1
      have hlkW := hlk wr (opsAt_below HO.out HBm.out)
      clear hlk hfind hsh hk hn0 hn1 HE HRV
      rw [HLN.out] at hop HXR HXL
      unfold aboutV at hop
      unfold EntersK at hent
      have HOP := Aside0.mk hop
      clear hop
      generalize opP width scale [x0, x1, x2, x3, x4, x5, x6, x7] e.f0 e.f1 xs = r at *
      have WI := Aside0.mk (fun W => value_within.calls r (-1000000000) 1000000000 _ W (within_of r (-1000000000) 1000000000))
      rw [show inI r (-1000000000) 1000000000 = coordB r from rfl] at WI
      have a0 := (blk_cell BAm.out 0).trans rfl
      have a1 := (blk_cell BAm.out 1).trans rfl
      have a2 := (blk_cell BAm.out 2).trans rfl
      have a3 := (blk_cell BAm.out 3).trans rfl
      have a4 := (blk_cell BAm.out 4).trans rfl
      have a5 := (blk_cell BAm.out 5).trans rfl
      have a6 := (blk_cell BAm.out 6).trans rfl
      have a7 := (blk_cell BAm.out 7).trans rfl
      have a8 := (blk_cell BAm.out 8).trans rfl
      have a9 := (blk_cell BAm.out 9).trans rfl
      have b0 := (blk_cell BEm.out 0).trans rfl
      have b1 := (blk_cell BEm.out 1).trans rfl
      rw [HLN.out]
      go_wp2_with fail
      with_reducible refine (HOP.out _ _ _ HXR.out HXL.out).mono ?_
      rintro r2 w5 ⟨rfl, hb⟩
      have HB5 := Aside0.mk (below_step HBm.out hb)
      clear hb a0 a1 a2 a3 a4 a5 a6 a7 a8 a9 b0 b1 hlkW hent
      cases hcr : coordB r with
      | true =>
        rw [hcr] at WI
        rw [if_pos hcr] at HX
        clear hcr
        go_wp2_with (go_at_call 28; with_reducible refine (WI.out _).mono ?_; rintro r2 w6 ⟨rfl, ⟨nd, rfl⟩⟩)
        go_ret
        exact ⟨by rw [HX.out]; rfl, pw_below_drewN HB5.out _⟩
      | false =>
        rw [hcr] at WI
        rw [if_neg (by rw [hcr]; simp)] at HX
        clear hcr
        go_wp2_with (go_at_call 28; with_reducible refine (WI.out _).mono ?_; rintro r2 w6 ⟨rfl, ⟨nd, rfl⟩⟩)
        exact ⟨rfl, by rw [HX.out]; rfl, pw_below_drewN HB5.out _⟩
theorem value_calls (width scale x0 x1 x2 x3 x4 x5 x6 x7 : Int) (hw : 0 ≤ width ∧ width ≤ 1000000) (hs : 50 ≤ scale ∧ scale ≤ 300) (b : Nat) : ∀ (n : Nat) (e : S24) (A : Option Addr) (c : Nat) (w : World), wfE n e → Kd.C k24 w A e.f2.length e.f2 → e.f2.length ≤ c → OpsAt b w →
      Calls Try.prog 47 #[aboutV width scale x0 x1 x2 x3 x4 x5 x6 x7, .agg #[.int .i64 e.f0, .int .i64 e.f1, .slice A e.f2.length c], .map (some b)] w fun r w' => r = endV (evF width scale [x0, x1, x2, x3, x4, x5, x6, x7] n e) ∧ Below w.heap.size w w'
  | 0, e, A, c, w, h, _, _, _ => h.elim
  | n + 1, e, A, c, w, h, hr, hc, ho => value_succ width scale x0 x1 x2 x3 x4 x5 x6 x7 hw hs b n (fun e A c w => value_calls width scale x0 x1 x2 x3 x4 x5 x6 x7 hw hs b n e A c w) e A c w h hr hc ho
end Go.Proofs.Ytdigjjncoeaiiaa.PAll
