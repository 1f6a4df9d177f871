/- Printed by a program of this session (wip/gprint.py) over the translation, cut to what is named (wip/dcut.py). Not trusted: Lean checks it. -/
import Derived.Test.YtdigjjncoeaiiaaPAlld0
import Derived.Test.YtdigjjncoeaiiaaVaVars
import Derived.Test.YtdigjjncoeaiiaaPAllw12
import Derived.Test.YtdigjjncoeaiiaaPAllw17
import Derived.Test.YtdigjjncoeaiiaaPAllw21
import Derived.Test.YtdigjjncoeaiiaaPAllw30
import Derived.Test.YtdigjjncoeaiiaaPAllw31
namespace Go.Proofs.Ytdigjjncoeaiiaa.PAll
open Go.RowKit Go.Proofs.YtdigjjncoeaiiaaW.PrintWords Go.Proofs.YtdigjjncoeaiiaaW.PrintLast Go.Proofs.YtdigjjncoeaiiaaW.PrintMore
attribute [local go_sem] max2_int min2_int max_two min_two max_three min_three max_four min_four -- for this text's walks alone
set_option linter.unusedVariables false
set_option linter.unusedSimpArgs false
set_option maxHeartbeats 8000000 in
set_option maxRecDepth 100000 in
open Go.Proofs.Ytdigjjncoeaiiaa.Plain Go.Proofs.YtdigjjncoeaiiaaGlib in
theorem vars_calls (e : S24) (width scale x0 x1 x2 x3 x4 x5 x6 x7 y0 y1 y2 y3 y4 y5 y6 y7 : Int) (A : Option Addr) (c : Nat) (w : World) (hr : Kd.C k24 w A e.f2.length e.f2) (hc : e.f2.length ≤ c) :
    Calls Try.prog 5 #[.agg #[.int .i64 e.f0, .int .i64 e.f1, .slice A e.f2.length c], .int .i64 width, .int .i64 scale, .agg #[.int .i64 x0, .int .i64 x1, .int .i64 x2, .int .i64 x3, .int .i64 x4, .int .i64 x5, .int .i64 x6, .int .i64 x7], .agg #[.int .i64 y0, .int .i64 y1, .int .i64 y2, .int .i64 y3, .int .i64 y4, .int .i64 y5, .int .i64 y6, .int .i64 y7]] w fun r w' => r = .returned (.bool true) ∧ Below w.heap.size w w' := by
  have HD := Aside0.mk (fun W => head_calls W)
  have UC := Aside0.mk (fun W (h : Below w.heap.size w W) => uses_calls e A c W (Kd.C_below hr h) hc)
  have VC := Aside0.mk (fun W (h : Below w.heap.size w W) => valid_calls e A c W (Kd.C_below hr h) hc)
  have EC := Aside0.mk (fun m0 m1 m2 m3 m4 m5 m6 m7 W (h : Below w.heap.size w W) => eval2_calls e width scale m0 m1 m2 m3 m4 m5 m6 m7 A c W (Kd.C_below hr h) hc)
  have CO := Aside0.mk (fun x W => formelaw14_coord.calls x _ W (lawcoord_of x))
  have HI0 := Aside0.mk (VarI.mk (e := e) (A := A) (c := c) (x0 := x0) (x1 := x1) (x2 := x2) (x3 := x3) (x4 := x4) (x5 := x5) (x6 := x6) (x7 := x7) (y0 := y0) (y1 := y1) (y2 := y2) (y3 := y3) (y4 := y4) (y5 := y5) (y6 := y6) (y7 := y7)
    (below_alloc (below_alloc (below_alloc (Below.refl w.heap.size w) (.cells #[.int .i64 e.f0, .int .i64 e.f1, .slice A e.f2.length c] 24)) (.cells #[.int .i64 x0, .int .i64 x1, .int .i64 x2, .int .i64 x3, .int .i64 x4, .int .i64 x5, .int .i64 x6, .int .i64 x7] 25)) (.cells #[.int .i64 y0, .int .i64 y1, .int .i64 y2, .int .i64 y3, .int .i64 y4, .int .i64 y5, .int .i64 y6, .int .i64 y7] 25))
    (blk_alloc (blk_alloc (blk_new w (.cells #[.int .i64 e.f0, .int .i64 e.f1, .slice A e.f2.length c] 24)) (.cells #[.int .i64 x0, .int .i64 x1, .int .i64 x2, .int .i64 x3, .int .i64 x4, .int .i64 x5, .int .i64 x6, .int .i64 x7] 25)) (.cells #[.int .i64 y0, .int .i64 y1, .int .i64 y2, .int .i64 y3, .int .i64 y4, .int .i64 y5, .int .i64 y6, .int .i64 y7] 25))
    (by have h := blk_alloc (blk_new (w.alloc (.cells #[.int .i64 e.f0, .int .i64 e.f1, .slice A e.f2.length c] 24)) (.cells #[.int .i64 x0, .int .i64 x1, .int .i64 x2, .int .i64 x3, .int .i64 x4, .int .i64 x5, .int .i64 x6, .int .i64 x7] 25)) (.cells #[.int .i64 y0, .int .i64 y1, .int .i64 y2, .int .i64 y3, .int .i64 y4, .int .i64 y5, .int .i64 y6, .int .i64 y7] 25); rw [World.size_alloc] at h; exact h)
    (by have h := blk_new ((w.alloc (.cells #[.int .i64 e.f0, .int .i64 e.f1, .slice A e.f2.length c] 24)).alloc (.cells #[.int .i64 x0, .int .i64 x1, .int .i64 x2, .int .i64 x3, .int .i64 x4, .int .i64 x5, .int .i64 x6, .int .i64 x7] 25)) (.cells #[.int .i64 y0, .int .i64 y1, .int .i64 y2, .int .i64 y3, .int .i64 y4, .int .i64 y5, .int .i64 y6, .int .i64 y7] 25); rw [World.size_alloc, World.size_alloc] at h; exact h))
  clear hr
  go_enter Try.func5, Try.ntmps5
  go_wp2_with fail
  generalize hW : ((w.alloc (.cells #[.int .i64 e.f0, .int .i64 e.f1, .slice A e.f2.length c] 24)).alloc (.cells #[.int .i64 x0, .int .i64 x1, .int .i64 x2, .int .i64 x3, .int .i64 x4, .int .i64 x5, .int .i64 x6, .int .i64 x7] 25)).alloc (.cells #[.int .i64 y0, .int .i64 y1, .int .i64 y2, .int .i64 y3, .int .i64 y4, .int .i64 y5, .int .i64 y6, .int .i64 y7] 25) = W0 at *
  clear hW
  with_reducible refine (HD.out _).mono ?_
  rintro r w1 ⟨rfl, hb⟩
  have HI1 := Aside0.mk (HI0.out.below hb)
  clear hb HI0 HD
  have u0 := (blk_cell HI1.out.b1 0).trans rfl
  have u1 := (blk_cell HI1.out.b1 1).trans rfl
  have u2 := (blk_cell HI1.out.b1 2).trans rfl
  go_wp2_with fail
  with_reducible refine (UC.out _ HI1.out.hb).mono ?_
  rintro r w2 ⟨vr, rfl, ho, hb⟩
  have HI2 := Aside0.mk (HI1.out.below hb)
  clear hb HI1 UC u0 u1 u2
  cases hv : validE e with
  | false =>
    rw [uses_no e hv] at ho ⊢
    obtain ⟨A1, c1, rfl⟩ : ∃ A c, vr = .slice A 0 c := Kd.R_slice ho
    clear ho
    have u0 := (blk_cell HI2.out.b1 0).trans rfl
    have u1 := (blk_cell HI2.out.b1 1).trans rfl
    have u2 := (blk_cell HI2.out.b1 2).trans rfl
    go_wp2_with (go_at_call 13; with_reducible refine (VC.out _ HI2.out.hb).mono ?_; rintro r w3 ⟨rfl, hb⟩; have HI3 := Aside0.mk (HI2.out.below hb); rw [hv]; clear hb)
    go_ret
    exact ⟨rfl, HI3.out.hb⟩
  | true =>
    rw [uses_ok e hv] at ho ⊢
    obtain ⟨A1, c1, rfl⟩ : ∃ A c, vr = .slice A (ksP e).length c := Kd.R_slice ho
    have HKR := Aside0.mk (show Kd.C (Kd.int .i64) w2 A1 (ksP e).length (ksP e) from (Kd.R_reads' ho).2.2)
    have HKL := Aside0.mk (show (ksP e).length ≤ c1 from (Kd.R_reads' ho).2.1)
    clear ho
    have KR := Aside0.mk (ks_range e)
    have KP := Aside0.mk (fun n (hn : n < (ksP e).length) => ks_last e hn)
    have KN := Aside0.mk (ks_length e)
    have ME := Aside0.mk (fun (h1 : [x0, x1, x2, x3, x4, x5, x6, x7].all coordB = true) (h2 : [y0, y1, y2, y3, y4, y5, y6, y7].all coordB = true) => mix_eval e width scale [x0, x1, x2, x3, x4, x5, x6, x7] [y0, y1, y2, y3, y4, y5, y6, y7] hv h1 rfl h2 rfl)
    generalize ksP e = ks at *
    clear hv VC
    have v0 := (blk_cell HI2.out.b3 0).trans rfl
    have v1 := (blk_cell HI2.out.b3 1).trans rfl
    have v2 := (blk_cell HI2.out.b3 2).trans rfl
    have v3 := (blk_cell HI2.out.b3 3).trans rfl
    have v4 := (blk_cell HI2.out.b3 4).trans rfl
    have v5 := (blk_cell HI2.out.b3 5).trans rfl
    have v6 := (blk_cell HI2.out.b3 6).trans rfl
    have v7 := (blk_cell HI2.out.b3 7).trans rfl
    go_wp2_with fail
    have hw2 : w.heap.size + 1 + 1 < w2.heap.size := (Array.getElem?_eq_some_iff.1 HI2.out.b3).1
    have HM3 := Aside0.mk (show Blk8 w2.heap.size (mixL [x0, x1, x2, x3, x4, x5, x6, x7] [y0, y1, y2, y3, y4, y5, y6, y7] (ks.take 0)) (w2.alloc (.cells #[.int .i64 y0, .int .i64 y1, .int .i64 y2, .int .i64 y3, .int .i64 y4, .int .i64 y5, .int .i64 y6, .int .i64 y7] 25)) from ⟨rfl, blk_new w2 (.cells #[.int .i64 y0, .int .i64 y1, .int .i64 y2, .int .i64 y3, .int .i64 y4, .int .i64 y5, .int .i64 y6, .int .i64 y7] 25)⟩)
    have HB3 := Aside0.mk (below_alloc (Below.refl w2.heap.size w2) (.cells #[.int .i64 y0, .int .i64 y1, .int .i64 y2, .int .i64 y3, .int .i64 y4, .int .i64 y5, .int .i64 y6, .int .i64 y7] 25))
    have HI3 := Aside0.mk (HI2.out.up HB3.out hw2)
    obtain ⟨G, hG⟩ : ∃ G, w2.heap.size = G := ⟨_, rfl⟩
    rw [hG] at HM3 HB3 hw2
    rw [hG]
    generalize w2.alloc (.cells #[.int .i64 y0, .int .i64 y1, .int .i64 y2, .int .i64 y3, .int .i64 y4, .int .i64 y5, .int .i64 y6, .int .i64 y7] 25) = W3 at *
    clear v0 v1 v2 v3 v4 v5 v6 v7 HI2
    go_loopw [15, 16] (fun v15 v16 wr => ∃ n : Nat, n ≤ ks.length ∧ v15 = .int .i64 (lastP ks n) ∧ v16 = .int .i64 n ∧ Aside0 (Below G w2 wr) ∧ Aside0 (VarI w e A c x0 x1 x2 x3 x4 x5 x6 x7 y0 y1 y2 y3 y4 y5 y6 y7 wr) ∧ Aside0 (Blk8 G (mixL [x0, x1, x2, x3, x4, x5, x6, x7] [y0, y1, y2, y3, y4, y5, y6, y7] (ks.take n)) wr)) (fun _ v16 _ => ks.length - (intOf v16).toNat)
    case atStart => exact ⟨0, by omega, rfl, rfl, HB3, HI3, HM3⟩
    case round =>
      clear HB3 HI3 HM3
      obtain ⟨n, hn, rfl, rfl, HBn, HIn, HMn⟩ := hrel
      have hn8 := KN.out
      by_cases hlt : n < ks.length
      · have d0 : decide ((n : Int) < (ks.length : Int)) = true := decide_eq_true (by omega)
        have d00 : decide (n < ks.length) = true := decide_eq_true hlt
        have q0 : (0 : Int) ≤ (n : Int) := by omega
        have hkn : rd ks (n : Int) = ks[n] := rd_n hlt
        have hkm := KR.out _ (List.getElem_mem hlt)
        have HST := Aside0.mk (mix_step [x0, x1, x2, x3, x4, x5, x6, x7] [y0, y1, y2, y3, y4, y5, y6, y7] ks hlt)
        have HLN := Aside0.mk (last_next ks n)
        have hl := KP.out n hlt
        rw [← hkn] at hkm HST
        obtain ⟨ad, ea, z0⟩ := Kd.at_int HKR.out (n : Int) (by omega) (by omega)
        subst ea
        rw [Int.toNat_natCast] at z0
        replace z0 := (HBn.out.cell (by rw [← hG]; exact World.block_lt_of_cell? w2 _ z0)).trans z0
        generalize rd ks (n : Int) = kk at *
        generalize lastP ks n = la at *
        clear hkn
        have d1 : decide (kk ≤ la) = false := decide_eq_false (by omega)
        have d2 : decide (8 < kk) = false := decide_eq_false (by omega)
        obtain ⟨j, hj⟩ : ∃ j : Nat, kk = (j : Int) + 1 := ⟨(kk - 1).toNat, by omega⟩
        subst hj
        rw [show (j : Int) + 1 - 1 = (j : Int) by omega, Int.toNat_natCast] at HST
        have wj : wrap64 ((j : Int) + 1 - 1) = (j : Int) := by rw [wrap64_id (by omega) (by omega)]; omega
        have hj8 : j < 8 := by omega
        have q1 : (0 : Int) ≤ (j : Int) := by omega
        have q2 : (j : Int) < 8 := by omega
        have c0 := HIn.out.at2.2 j hj8
        have c1' := HMn.out.at hj8
        have f0 := blk_frozen HMn.out.2 j
        have HX := Aside0.mk (show [x0, x1, x2, x3, x4, x5, x6, x7].getD j 0 = rd [x0, x1, x2, x3, x4, x5, x6, x7] (j : Int) from by unfold rd; rw [Int.toNat_natCast])
        rw [HX.out] at c0
        generalize rd [x0, x1, x2, x3, x4, x5, x6, x7] (j : Int) = u at *
        have HM2 := Aside0.mk (HMn.out.set j u)
        have HB2 := Aside0.mk (show Below G w2 (wr.setCell ⟨G, j, none⟩ (.int .i64 u)) from Below.setCell (p := ⟨G, j, none⟩) HBn.out (Nat.le_refl G) _)
        have HS := Aside0.mk (show Below G wr (wr.setCell ⟨G, j, none⟩ (.int .i64 u)) from Below.setCell (p := ⟨G, j, none⟩) (Below.refl G wr) (Nat.le_refl G) _)
        have HI2' := Aside0.mk (HIn.out.up HS.out hw2)
        clear hkm hl HX
        go_wp2
        go_region
        go_wp2
        go_roundw
        case rel => exact ⟨n + 1, by omega, by rw [HLN.out], by go_num, ⟨below_drew1 HB2.out⟩, ⟨HI2'.out.up (below_drew1 (Below.refl _ _)) hw2⟩, ⟨by rw [HST.out]; exact ⟨HM2.out.1, blk_drew HM2.out.2⟩⟩⟩
        case measure => simp [intOf]; omega
      · have d0 : decide ((n : Int) < (ks.length : Int)) = false := decide_eq_false (by omega)
        have d00 : decide (n < ks.length) = false := decide_eq_false hlt
        obtain rfl : n = ks.length := by omega
        have HMx := HMn.out
        rw [List.take_length] at HMx
        have ML := mix_length [x0, x1, x2, x3, x4, x5, x6, x7] ks [y0, y1, y2, y3, y4, y5, y6, y7]
        generalize mixL [x0, x1, x2, x3, x4, x5, x6, x7] [y0, y1, y2, y3, y4, y5, y6, y7] ks = M at *
        obtain ⟨m0, m1, m2, m3, m4, m5, m6, m7, rfl⟩ := eight ML
        have HMM := Aside0.mk (show wr.heap[G]? = some (.cells #[.int .i64 m0, .int .i64 m1, .int .i64 m2, .int .i64 m3, .int .i64 m4, .int .i64 m5, .int .i64 m6, .int .i64 m7] 25) from HMx.2)
        clear HMx ML HMn KR KP hn8 hn
        go_wp2
        go_loopw [17] (fun v17 wr => ∃ n : Nat, n ≤ 8 ∧ v17 = .int .i64 n ∧ Aside0 (∀ k : Nat, k < n → coordB ([x0, x1, x2, x3, x4, x5, x6, x7].getD k 0) = true ∧ coordB ([y0, y1, y2, y3, y4, y5, y6, y7].getD k 0) = true) ∧ Aside0 (Below G w2 wr) ∧ Aside0 (VarI w e A c x0 x1 x2 x3 x4 x5 x6 x7 y0 y1 y2 y3 y4 y5 y6 y7 wr) ∧ Aside0 (wr.heap[G]? = some (.cells #[.int .i64 m0, .int .i64 m1, .int .i64 m2, .int .i64 m3, .int .i64 m4, .int .i64 m5, .int .i64 m6, .int .i64 m7] 25))) (fun v17 _ => 8 - (intOf v17).toNat)
        case atStart => exact ⟨0, by omega, rfl, ⟨fun k hk => by omega⟩, HBn, HIn, HMM⟩
        case round =>
          clear HBn HIn HMM
          obtain ⟨n, hn, rfl, HCn, HBn, HIn, HMn⟩ := hrel
          by_cases hlt : n < 8
          · have d0 : decide ((n : Int) < 8) = true := decide_eq_true (by omega)
            have d00 : decide (n < 8) = true := decide_eq_true hlt
            have q0 : (0 : Int) ≤ (n : Int) := by omega
            have q1 : (n : Int) < 8 := by omega
            have c0 := HIn.out.at2.2 n hlt
            have c1' := HIn.out.at3.2 n hlt
            have HCS := Aside0.mk (fun (h1 : coordB ([x0, x1, x2, x3, x4, x5, x6, x7].getD n 0) = true) (h2 : coordB ([y0, y1, y2, y3, y4, y5, y6, y7].getD n 0) = true) => (fun (k : Nat) (hk : k < n + 1) => if e : k = n then e ▸ ⟨h1, h2⟩ else HCn.out k (by omega) : ∀ k : Nat, k < n + 1 → coordB ([x0, x1, x2, x3, x4, x5, x6, x7].getD k 0) = true ∧ coordB ([y0, y1, y2, y3, y4, y5, y6, y7].getD k 0) = true))
            generalize [x0, x1, x2, x3, x4, x5, x6, x7].getD n 0 = x at *
            generalize [y0, y1, y2, y3, y4, y5, y6, y7].getD n 0 = y at *
            have CX := Aside0.mk (fun W => CO.out x W)
            have CY := Aside0.mk (fun W => CO.out y W)
            clear CO
            cases hx : coordB x with
            | false =>
              rw [hx] at CX
              clear hx HCS
              go_wp2_with (go_at_call 24; with_reducible refine (CX.out _).mono ?_; rintro r w3 ⟨rfl, hd⟩; have hb := Drawn0.below hd; have HI3 := Aside0.mk (HIn.out.below hb); clear hd hb)
              go_ret
              exact ⟨rfl, HI3.out.hb⟩
            | true =>
              rw [hx] at CX HCS
              cases hy : coordB y with
              | false =>
                rw [hy] at CY
                clear hx hy HCS
                go_wp2_with (first
                  | (go_at_call 24; with_reducible refine (CX.out _).mono ?_; rintro r w3 ⟨rfl, hd⟩; have hb := Drawn0.below hd; have HI3 := Aside0.mk (HIn.out.below hb); have c2' := (hb.cell (World.block_lt_of_cell? _ _ c1')).trans c1'; clear hd hb)
                  | (go_at_call 24; with_reducible refine (CY.out _).mono ?_; rintro r w4 ⟨rfl, hd⟩; have hb := Drawn0.below hd; have HI4 := Aside0.mk (HI3.out.below hb); clear hd hb))
                go_ret
                exact ⟨rfl, HI4.out.hb⟩
              | true =>
                rw [hy] at CY HCS
                have HCD := Aside0.mk (HCS.out rfl rfl)
                clear hx hy HCS
                go_wp2_with (first
                  | (go_at_call 24; with_reducible refine (CX.out _).mono ?_; rintro r w3 ⟨rfl, hd⟩; have hb := Drawn0.below hd; have HI3 := Aside0.mk (HIn.out.below hb); have HM3 := Aside0.mk (blk_below HMn.out hb); have HB3 := Aside0.mk (HBn.out.trans (hb.mono (by have := HBn.out.size; omega))); have c2' := (hb.cell (World.block_lt_of_cell? _ _ c1')).trans c1'; clear hd hb)
                  | (go_at_call 24; with_reducible refine (CY.out _).mono ?_; rintro r w4 ⟨rfl, hd⟩; have hb := Drawn0.below hd; have HI4 := Aside0.mk (HI3.out.below hb); have HM4 := Aside0.mk (blk_below HM3.out hb); have HB4 := Aside0.mk (HB3.out.trans (hb.mono (by have := HB3.out.size; omega))); clear hd hb))
                go_roundw
                case rel => exact ⟨n + 1, by omega, by go_num, HCD, HB4, HI4, HM4⟩
                case measure => simp [intOf]; omega
          · have d0 : decide ((n : Int) < 8) = false := decide_eq_false (by omega)
            have d00 : decide (n < 8) = false := decide_eq_false hlt
            obtain rfl : n = 8 := by omega
            have h1 : [x0, x1, x2, x3, x4, x5, x6, x7].all coordB = true := by rw [all_from (p := coordB) [x0, x1, x2, x3, x4, x5, x6, x7] 8 (by simp) (fun k hk => (HCn.out k hk).1)]; rfl
            have h2 : [y0, y1, y2, y3, y4, y5, y6, y7].all coordB = true := by rw [all_from (p := coordB) [y0, y1, y2, y3, y4, y5, y6, y7] 8 (by simp) (fun k hk => (HCn.out k hk).2)]; rfl
            have E1 := Aside0.mk (fun W h => EC.out x0 x1 x2 x3 x4 x5 x6 x7 W h)
            have E2 := Aside0.mk (fun W h => EC.out m0 m1 m2 m3 m4 m5 m6 m7 W h)
            rw [ME.out h1 h2] at E1
            generalize evalP e width scale [m0, m1, m2, m3, m4, m5, m6, m7] = P at *
            obtain ⟨P1, P2⟩ := P
            clear h1 h2 EC ME HCn CO
            have e0 := (blk_cell HIn.out.b1 0).trans rfl
            have e1 := (blk_cell HIn.out.b1 1).trans rfl
            have e2 := (blk_cell HIn.out.b1 2).trans rfl
            have a0 := (blk_cell HIn.out.b2 0).trans rfl
            have a1 := (blk_cell HIn.out.b2 1).trans rfl
            have a2 := (blk_cell HIn.out.b2 2).trans rfl
            have a3 := (blk_cell HIn.out.b2 3).trans rfl
            have a4 := (blk_cell HIn.out.b2 4).trans rfl
            have a5 := (blk_cell HIn.out.b2 5).trans rfl
            have a6 := (blk_cell HIn.out.b2 6).trans rfl
            have a7 := (blk_cell HIn.out.b2 7).trans rfl
            go_wp2_with fail
            with_reducible refine (E1.out _ HIn.out.hb).mono ?_
            rintro r w5 ⟨rfl, hb⟩
            have HI5 := Aside0.mk (HIn.out.below hb)
            have HM5 := Aside0.mk (blk_below HMn.out hb)
            clear hb HIn HMn E1 e0 e1 e2 a0 a1 a2 a3 a4 a5 a6 a7
            have f0 := (blk_cell HI5.out.b1 0).trans rfl
            have f1 := (blk_cell HI5.out.b1 1).trans rfl
            have f2 := (blk_cell HI5.out.b1 2).trans rfl
            have g0 := (blk_cell HM5.out 0).trans rfl
            have g1 := (blk_cell HM5.out 1).trans rfl
            have g2 := (blk_cell HM5.out 2).trans rfl
            have g3 := (blk_cell HM5.out 3).trans rfl
            have g4 := (blk_cell HM5.out 4).trans rfl
            have g5 := (blk_cell HM5.out 5).trans rfl
            have g6 := (blk_cell HM5.out 6).trans rfl
            have g7 := (blk_cell HM5.out 7).trans rfl
            go_wp2_with fail
            with_reducible refine (E2.out _ HI5.out.hb).mono ?_
            rintro r w6 ⟨rfl, hb⟩
            have HI6 := Aside0.mk (HI5.out.below hb)
            clear hb
            go_wp2
            go_ret
            exact ⟨rfl, HI6.out.hb⟩
theorem formelaw14_ValueVariables.calls (a0_0 : Int) (a0_1 : Int) (A0_2 : Option Addr) (c0_2 : Nat) (l0_2 : List (S24)) (a1 a2 a3_0 a3_1 a3_2 a3_3 a3_4 a3_5 a3_6 a3_7 a4_0 a4_1 a4_2 a4_3 a4_4 a4_5 a4_6 a4_7 : Int) (r : Bool) (w : World) (hr0_2 : Kd.C k24 w A0_2 l0_2.length l0_2) (hc0_2 : l0_2.length ≤ c0_2) (h : formelaw14_ValueVariables.f a0_0 a0_1 l0_2 a1 a2 a3_0 a3_1 a3_2 a3_3 a3_4 a3_5 a3_6 a3_7 a4_0 a4_1 a4_2 a4_3 a4_4 a4_5 a4_6 a4_7 = some r) :
    Calls Try.prog 5 #[.agg #[.int .i64 a0_0, .int .i64 a0_1, .slice A0_2 l0_2.length c0_2], .int .i64 a1, .int .i64 a2, .agg #[.int .i64 a3_0, .int .i64 a3_1, .int .i64 a3_2, .int .i64 a3_3, .int .i64 a3_4, .int .i64 a3_5, .int .i64 a3_6, .int .i64 a3_7], .agg #[.int .i64 a4_0, .int .i64 a4_1, .int .i64 a4_2, .int .i64 a4_3, .int .i64 a4_4, .int .i64 a4_5, .int .i64 a4_6, .int .i64 a4_7]] w fun e w' => e = .returned (.bool r) ∧ Below w.heap.size w w' := by
  obtain rfl : true = r := Option.some.inj h
  exact vars_calls ⟨a0_0, a0_1, l0_2⟩ a1 a2 a3_0 a3_1 a3_2 a3_3 a3_4 a3_5 a3_6 a3_7 a4_0 a4_1 a4_2 a4_3 a4_4 a4_5 a4_6 a4_7 A0_2 c0_2 w hr0_2 hc0_2
end Go.Proofs.Ytdigjjncoeaiiaa.PAll
