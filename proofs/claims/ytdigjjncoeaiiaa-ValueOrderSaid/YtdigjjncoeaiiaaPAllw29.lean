/- Printed by a program of this session (wip/gprint.py) over the translation, cut to what is named (wip/dcut.py). Not trusted: Lean checks it. -/
import Derived.Test.YtdigjjncoeaiiaaPAlld0
import Derived.Test.YtdigjjncoeaiiaaPAllw7
import Derived.Test.YtdigjjncoeaiiaaPAllw18
import Derived.Test.YtdigjjncoeaiiaaPAllw20
import Derived.Test.YtdigjjncoeaiiaaPAllw21
import Derived.Test.YtdigjjncoeaiiaaPAllw22
namespace Go.Proofs.Ytdigjjncoeaiiaa.PAll
open Go.RowKit Go.Proofs.YtdigjjncoeaiiaaW.PrintWords Go.Proofs.YtdigjjncoeaiiaaW.PrintLast Go.Proofs.YtdigjjncoeaiiaaW.PrintMore
attribute [local go_sem] max2_int min2_int max_two min_two max_three min_three max_four min_four -- for this text's walks alone
set_option linter.unusedVariables false
set_option linter.unusedSimpArgs false
open Go.Proofs.YtdigjjncoeaiiaaGlib
set_option maxHeartbeats 8000000 in
set_option maxRecDepth 100000 in
theorem curve_calls (k : Nat) (e : S24) (lo hi scale x0 x1 x2 x3 x4 x5 x6 x7 : Int) (A : Option Addr) (c : Nat) (r1 : List S57) (r2 : Int) (w : World) (hr : Kd.C k24 w A e.f2.length e.f2) (hc : e.f2.length ≤ c) (h : curveP k e lo hi scale [x0, x1, x2, x3, x4, x5, x6, x7] = some (r1, r2)) :
    Calls Try.prog 19 #[.agg #[.int .i64 e.f0, .int .i64 e.f1, .slice A e.f2.length c], .agg #[.int .i64 lo, .int .i64 hi], .int .i64 scale, .agg #[.int .i64 x0, .int .i64 x1, .int .i64 x2, .int .i64 x3, .int .i64 x4, .int .i64 x5, .int .i64 x6, .int .i64 x7]] w fun r w' =>
      ∃ v0_, r = .returned (.tuple #[v0_, .int .i64 r2]) ∧ Kd.R k57 57 w' w.heap.size (fun k_ => (w.heap.size ≤ k_)) v0_ r1 ∧ Below w.heap.size w w' := by
  have HR := Aside0.mk (fun W (h : Below w.heap.size w W) => Kd.C_below hr h)
  have VC := Aside0.mk (fun W h => valid_calls e A c W h hc)
  have RC := Aside0.mk (fun z W => right_calls z scale x0 x1 x2 x3 x4 x5 x6 x7 W)
  have OC := Aside0.mk (fun W => operators_calls W)
  have EV := Aside0.mk (fun z b W (hv : validE e = true) (h1 : inI z 0 1000000 = true) (h2 : inI scale 50 300 = true) h ho => eval_calls z scale x0 x1 x2 x3 x4 x5 x6 x7 (by unfold inI at h1; simpa using h1) (by unfold inI at h2; simpa using h2) b 30 e A c W (formed_wf 30 e 100 hv) h hc ho)
  unfold aboutV at EV
  have HI0 := Aside0.mk (CurvI.mk (e := e) (A := A) (c := c) (lo := lo) (hi := hi) (scale := scale) (x0 := x0) (x1 := x1) (x2 := x2) (x3 := x3) (x4 := x4) (x5 := x5) (x6 := x6) (x7 := x7) (z := 0) (below_alloc (below_alloc (below_alloc (below_alloc (Below.refl w.heap.size w) (.cells #[.int .i64 e.f0, .int .i64 e.f1, .slice A e.f2.length c] 24)) (.cells #[.int .i64 lo, .int .i64 hi] 27)) (.cells #[.int .i64 x0, .int .i64 x1, .int .i64 x2, .int .i64 x3, .int .i64 x4, .int .i64 x5, .int .i64 x6, .int .i64 x7] 25)) (.cells #[.int .i64 0, .int .i64 scale, .int .i64 x0, .int .i64 x1, .int .i64 x2, .int .i64 x3, .int .i64 x4, .int .i64 x5, .int .i64 x6, .int .i64 x7] 59))
    (blk_alloc (blk_alloc (blk_alloc (blk_new w (.cells #[.int .i64 e.f0, .int .i64 e.f1, .slice A e.f2.length c] 24)) (.cells #[.int .i64 lo, .int .i64 hi] 27)) (.cells #[.int .i64 x0, .int .i64 x1, .int .i64 x2, .int .i64 x3, .int .i64 x4, .int .i64 x5, .int .i64 x6, .int .i64 x7] 25)) (.cells #[.int .i64 0, .int .i64 scale, .int .i64 x0, .int .i64 x1, .int .i64 x2, .int .i64 x3, .int .i64 x4, .int .i64 x5, .int .i64 x6, .int .i64 x7] 59)) (by have := blk_alloc (blk_alloc (blk_new (w.alloc (.cells #[.int .i64 e.f0, .int .i64 e.f1, .slice A e.f2.length c] 24)) (.cells #[.int .i64 lo, .int .i64 hi] 27)) (.cells #[.int .i64 x0, .int .i64 x1, .int .i64 x2, .int .i64 x3, .int .i64 x4, .int .i64 x5, .int .i64 x6, .int .i64 x7] 25)) (.cells #[.int .i64 0, .int .i64 scale, .int .i64 x0, .int .i64 x1, .int .i64 x2, .int .i64 x3, .int .i64 x4, .int .i64 x5, .int .i64 x6, .int .i64 x7] 59); rw [World.size_alloc] at this; exact this) (by have := blk_new (((w.alloc (.cells #[.int .i64 e.f0, .int .i64 e.f1, .slice A e.f2.length c] 24)).alloc (.cells #[.int .i64 lo, .int .i64 hi] 27)).alloc (.cells #[.int .i64 x0, .int .i64 x1, .int .i64 x2, .int .i64 x3, .int .i64 x4, .int .i64 x5, .int .i64 x6, .int .i64 x7] 25)) (.cells #[.int .i64 0, .int .i64 scale, .int .i64 x0, .int .i64 x1, .int .i64 x2, .int .i64 x3, .int .i64 x4, .int .i64 x5, .int .i64 x6, .int .i64 x7] 59); simp only [World.size_alloc] at this; exact this))
  have H := Aside0.mk h
  clear hr h
  go_enter Try.func19, Try.ntmps19
  go_wp2_with fail
  generalize hW : (((w.alloc (.cells #[.int .i64 e.f0, .int .i64 e.f1, .slice A e.f2.length c] 24)).alloc (.cells #[.int .i64 lo, .int .i64 hi] 27)).alloc (.cells #[.int .i64 x0, .int .i64 x1, .int .i64 x2, .int .i64 x3, .int .i64 x4, .int .i64 x5, .int .i64 x6, .int .i64 x7] 25)).alloc (.cells #[.int .i64 0, .int .i64 scale, .int .i64 x0, .int .i64 x1, .int .i64 x2, .int .i64 x3, .int .i64 x4, .int .i64 x5, .int .i64 x6, .int .i64 x7] 59) = W0 at *
  clear hW
  cases hv : validE e with
  | false =>
    have H1 := H.out
    unfold curveP at H1
    rw [if_neg (fun h => by rw [hv] at h; simp at h)] at H1
    obtain ⟨rfl, rfl⟩ := Prod.mk.inj (Option.some.inj H1)
    clear H1 H
    with_reducible refine (VC.out _ (HR.out _ HI0.out.hb)).mono ?_
    rintro r w1 ⟨rfl, hb⟩
    have HI1 := Aside0.mk (HI0.out.below hb)
    rw [hv]
    clear hb
    go_wp2
    go_ret2
    exact ⟨_, rfl, Kd.R_nil _ _ _ _ _, HI1.out.hb⟩
  | true =>
    with_reducible refine (VC.out _ (HR.out _ HI0.out.hb)).mono ?_
    rintro r w1 ⟨rfl, hb⟩
    have HI1 := Aside0.mk (HI0.out.below hb)
    rw [hv]
    have VX := Aside0.mk hv
    clear hb VC HI0
    have ub0 := (blk_cell HI1.out.b2 0).trans rfl
    have ub1 := (blk_cell HI1.out.b2 1).trans rfl
    have uc0 := (blk_cell HI1.out.b3 0).trans rfl
    have uc1 := (blk_cell HI1.out.b3 1).trans rfl
    have uc2 := (blk_cell HI1.out.b3 2).trans rfl
    have uc3 := (blk_cell HI1.out.b3 3).trans rfl
    have uc4 := (blk_cell HI1.out.b3 4).trans rfl
    have uc5 := (blk_cell HI1.out.b3 5).trans rfl
    have uc6 := (blk_cell HI1.out.b3 6).trans rfl
    have uc7 := (blk_cell HI1.out.b3 7).trans rfl
    have uc8 := (blk_cell HI1.out.b3 8).trans rfl
    have uc9 := (blk_cell HI1.out.b3 9).trans rfl
    go_wp2_with fail
    with_reducible refine (RC.out 0 _).mono ?_
    rintro r w2 ⟨rfl, hb⟩
    have HI2 := Aside0.mk (HI1.out.below hb)
    clear hb RC HI1 ub0 ub1 uc0 uc1 uc2 uc3 uc4 uc5 uc6 uc7 uc8 uc9
    cases hsc : (inI scale 50 300 && [x0, x1, x2, x3, x4, x5, x6, x7].all coordB) with
    | false =>
      have H1 := H.out
      unfold curveP at H1
      rw [if_neg (fun h => by rw [hv, hsc] at h; simp at h)] at H1
      obtain ⟨rfl, rfl⟩ := Prod.mk.inj (Option.some.inj H1)
      clear H1 H
      go_wp2
      go_ret2
      exact ⟨_, rfl, Kd.R_nil _ _ _ _ _, HI2.out.hb⟩
    | true =>
      have hsi := (Bool.and_eq_true_iff.1 hsc).1
      have vb0 := (blk_cell HI2.out.b2 0).trans rfl
      have vb1 := (blk_cell HI2.out.b2 1).trans rfl
      by_cases h1 : lo < 0
      · have q1 : decide (lo < 0) = true := decide_eq_true h1
        have H1 := H.out
        unfold curveP at H1
        rw [if_neg (fun h => h.2.1 h1)] at H1
        obtain ⟨rfl, rfl⟩ := Prod.mk.inj (Option.some.inj H1)
        clear H1 H
        go_wp2
        go_ret2
        exact ⟨_, rfl, Kd.R_nil _ _ _ _ _, HI2.out.hb⟩
      · have q1 : decide (lo < 0) = false := decide_eq_false h1
        by_cases h2 : hi < lo
        · have q2 : decide (hi < lo) = true := decide_eq_true h2
          have H1 := H.out
          unfold curveP at H1
          rw [if_neg (fun h => h.2.2.1 h2)] at H1
          obtain ⟨rfl, rfl⟩ := Prod.mk.inj (Option.some.inj H1)
          clear H1 H
          go_wp2
          go_ret2
          exact ⟨_, rfl, Kd.R_nil _ _ _ _ _, HI2.out.hb⟩
        · have q2 : decide (hi < lo) = false := decide_eq_false h2
          by_cases h3 : 4000 < hi
          · have q3 : decide (4000 < hi) = true := decide_eq_true h3
            have H1 := H.out
            unfold curveP at H1
            rw [if_neg (fun h => h.2.2.2 h3)] at H1
            obtain ⟨rfl, rfl⟩ := Prod.mk.inj (Option.some.inj H1)
            clear H1 H
            go_wp2
            go_ret2
            exact ⟨_, rfl, Kd.R_nil _ _ _ _ _, HI2.out.hb⟩
          · have q3 : decide (4000 < hi) = false := decide_eq_false h3
            have H1 := H.out
            unfold curveP at H1
            rw [if_pos ⟨by rw [hv, hsc]; rfl, h1, h2, h3⟩] at H1
            have H2 := Aside0.mk H1
            clear H1 H hsc
            have hwl : wrap64 (hi - lo) = hi - lo := wrap64_id (by omega) (by omega)
            by_cases h4 : 4000 ≤ hi - lo
            · have q4 : decide (4000 ≤ hi - lo) = true := decide_eq_true h4
              have H1 := H2.out
              rw [if_pos h4] at H1
              obtain ⟨rfl, rfl⟩ := Prod.mk.inj (Option.some.inj H1)
              clear H1 H2
              go_wp2
              go_ret2
              exact ⟨_, rfl, Kd.R_nil _ _ _ _ _, HI2.out.hb⟩
            · have q4 : decide (4000 ≤ hi - lo) = false := decide_eq_false h4
              have H1 := H2.out
              rw [if_neg h4] at H1
              have H3 := Aside0.mk H1
              clear H1 H2
              go_wp2_with fail
              with_reducible refine (OC.out _).mono ?_
              rintro r w3 ⟨rfl, ho, hb⟩
              have HI3 := Aside0.mk (HI2.out.below hb)
              have HO3 := Aside0.mk ho
              have hS := (Array.getElem?_eq_some_iff.1 HI2.out.b3).1
              have hbN := (Array.getElem?_eq_some_iff.1 ho).1
              obtain ⟨b, hbe⟩ : ∃ b, w2.heap.size = b := ⟨_, rfl⟩
              rw [hbe] at HO3 hS hbN
              rw [hbe]
              clear ho hb hbe HI2 OC vb0 vb1
              have EW := Aside0.mk (fun z W (h1 : inI z 0 1000000 = true) h ho => EV.out z b W VX.out h1 hsi h ho)
              clear EV hsi hv VX
              have yb0 := (blk_cell HI3.out.b2 0).trans rfl
              have yb1 := (blk_cell HI3.out.b2 1).trans rfl
              have yc0 := (blk_cell HI3.out.b3 0).trans rfl
              have yc1 := (blk_cell HI3.out.b3 1).trans rfl
              have yc2 := (blk_cell HI3.out.b3 2).trans rfl
              have yc3 := (blk_cell HI3.out.b3 3).trans rfl
              have yc4 := (blk_cell HI3.out.b3 4).trans rfl
              have yc5 := (blk_cell HI3.out.b3 5).trans rfl
              have yc6 := (blk_cell HI3.out.b3 6).trans rfl
              have yc7 := (blk_cell HI3.out.b3 7).trans rfl
              have yc8 := (blk_cell HI3.out.b3 8).trans rfl
              have yc9 := (blk_cell HI3.out.b3 9).trans rfl
              have f0 := blk_frozen HI3.out.b3 0
              obtain ⟨cnt, hcnt⟩ : ∃ n : Nat, n = (hi - lo + 1).toNat := ⟨_, rfl⟩
              rw [← hcnt] at H3
              have HCN := Aside0.mk hcnt
              clear hcnt
              have HC4 := Aside0.mk (show cnt ≤ 4000 ∧ (cnt : Int) = hi - lo + 1 by have := HCN.out; omega)
              obtain ⟨N, hN⟩ : ∃ N, w3.heap.size = N := ⟨_, rfl⟩
              rw [hN] at hbN
              have hS3 : w.heap.size + 1 + 1 + 1 < N := by omega
              have HI3s := Aside0.mk (HI3.out.set lo)
              have HO3s := Aside0.mk (show OpsAt b (w3.setCell ⟨w.heap.size + 1 + 1 + 1, 0, none⟩ (.int .i64 lo)) from (Below.heap_setCell _ _ _ _ (by show b ≠ w.heap.size + 1 + 1 + 1; omega)).trans HO3.out)
              go_wp2
              go_loopw [12] (fun v wr => ∃ (m : Nat) (z : Int) (ys : List Int), m ≤ cnt ∧ Aside0 (z = lo + (m : Int)) ∧ Aside0 (ys.length = m) ∧ Aside0 (valsG (fun z => evF z scale [x0, x1, x2, x3, x4, x5, x6, x7] 30 e) (cnt - m) z ys = valsG (fun z => evF z scale [x0, x1, x2, x3, x4, x5, x6, x7] 30 e) cnt lo []) ∧ Aside0 (Kd.R (Kd.int .i64) 3 wr N (fun _ => True) v ys) ∧ Aside0 (CurvI w e A c lo hi scale x0 x1 x2 x3 x4 x5 x6 x7 z wr) ∧ Aside0 (OpsAt b wr) ∧ N ≤ wr.heap.size) (fun v _ => cnt - lenOf v)
              case atStart => exact ⟨0, lo, [], Nat.zero_le _, ⟨by simp⟩, ⟨rfl⟩, ⟨rfl⟩, ⟨Kd.R_nil _ _ _ _ _⟩, HI3s, HO3s, by simp [hN]⟩
              case round =>
                clear HI3s HO3s HI3 HO3 yb0 yb1 yc0 yc1 yc2 yc3 yc4 yc5 yc6 yc7 yc8 yc9 f0
                obtain ⟨m, z, ys, hm, HZ, HLN, HV, HRV, HIm, HOm, hNr⟩ := hrel
                have za0 := (blk_cell HIm.out.b1 0).trans rfl
                have za1 := (blk_cell HIm.out.b1 1).trans rfl
                have za2 := (blk_cell HIm.out.b1 2).trans rfl
                have zb0 := (blk_cell HIm.out.b2 0).trans rfl
                have zb1 := (blk_cell HIm.out.b2 1).trans rfl
                have zc0 := (blk_cell HIm.out.b3 0).trans rfl
                have zc1 := (blk_cell HIm.out.b3 1).trans rfl
                have zc2 := (blk_cell HIm.out.b3 2).trans rfl
                have zc3 := (blk_cell HIm.out.b3 3).trans rfl
                have zc4 := (blk_cell HIm.out.b3 4).trans rfl
                have zc5 := (blk_cell HIm.out.b3 5).trans rfl
                have zc6 := (blk_cell HIm.out.b3 6).trans rfl
                have zc7 := (blk_cell HIm.out.b3 7).trans rfl
                have zc8 := (blk_cell HIm.out.b3 8).trans rfl
                have zc9 := (blk_cell HIm.out.b3 9).trans rfl
                have f0 := blk_frozen HIm.out.b3 0
                have HLO := Aside0.mk (lenOf_R HRV.out)
                by_cases hlt : z ≤ hi
                · have q5 : decide (z ≤ hi) = true := decide_eq_true hlt
                  have hmc : m < cnt := by have := HC4.out; have := HZ.out; omega
                  have HE := Aside0.mk (EW.out z wr (by have := HZ.out; unfold inI; simp; omega) (HR.out _ HIm.out.hb) HOm.out)
                  have HWN := Aside0.mk (show wrap64 (z + 1) = z + 1 from wrap64_id (by have := HZ.out; omega) (by omega))
                  obtain ⟨j, hj⟩ : ∃ j, cnt - m = j + 1 := ⟨cnt - m - 1, by omega⟩
                  have HJ := Aside0.mk hj
                  have HV1 := HV.out
                  rw [hj] at HV1
                  clear hj
                  cases hz : evF z scale [x0, x1, x2, x3, x4, x5, x6, x7] 30 e with
                  | none =>
                    have HN := valsG_none HV1 hz
                    have H1 := H3.out
                    rw [HN] at H1
                    obtain ⟨rfl, rfl⟩ := Prod.mk.inj (Option.some.inj H1)
                    rw [hz] at HE
                    clear hz HN H1 HV1
                    go_wp2_with fail
                    with_reducible refine HE.out.mono ?_
                    rintro r w5 ⟨rfl, hb⟩
                    simp only [pairE]
                    have hb5 := below_step HIm.out.hb hb
                    clear hb
                    go_wp2
                    go_ret2
                    exact ⟨_, rfl, Kd.R_nil _ _ _ _ _, hb5⟩
                  | some x =>
                    have HN := Aside0.mk (valsG_step HV1 hz)
                    rw [hz] at HE
                    clear hz HV1
                    go_wp2_with fail
                    with_reducible refine HE.out.mono ?_
                    rintro r w5 ⟨rfl, hb⟩
                    have HI5 := Aside0.mk (HIm.out.below hb)
                    have HO5 := Aside0.mk (opsAt_below HOm.out hb)
                    have HR5 := Aside0.mk (Kd.R_below HRV.out hb)
                    have hN5 := Nat.le_trans hNr hb.size
                    have HLB := Aside0.mk (show (ys.length + 1) * 8 ≤ 140737488355328 by have := HLN.out; have := HC4.out; omega)
                    clear hb HIm HOm HRV HE za0 za1 za2 zb0 zb1 zc0 zc1 zc2 zc3 zc4 zc5 zc6 zc7 zc8 zc9 f0
                    simp only [pairE]
                    go_wp2_with ((with_reducible refine gate_dst (N := 75) rfl ?_); at_builtin; (refine Kd.R_append (Kd.int .i64) (w0 := w5) N rfl (.tmp 72) (.tmp 74) 33 3 (.int .i64 0) 8 rfl Try.underlying33 info3 rfl (by decide) (by omega) u12 ys x [.int .i64 x] (fun _ => True) (fun _ => False) rfl rfl rfl (fun _ hk => hk.elim) (fun _ _ => trivial) HR5.out (Below.refl _ _) hN5 HLB.out ?_); intro v1 w6 ho hb hg _; have HI6 := Aside0.mk (HI5.out.up hb hS3); have HO6 := Aside0.mk (show OpsAt b w6 from (hb.block _ hbN).trans HO5.out); have HR6 := Aside0.mk ho; have hN6 := Nat.le_trans hN5 hb.size; clear hb ho hg; have c0 := (blk_cell HI6.out.b3 0).trans rfl; have f0 := blk_frozen HI6.out.b3 0)
                    have HI7 := Aside0.mk (HI6.out.set (z + 1))
                    have HO7 := Aside0.mk (show OpsAt b (w6.setCell ⟨w.heap.size + 1 + 1 + 1, 0, none⟩ (.int .i64 (z + 1))) from (Below.heap_setCell _ _ _ _ (by show b ≠ w.heap.size + 1 + 1 + 1; omega)).trans HO6.out)
                    have HR7 := Aside0.mk (Kd.R_set HR6.out HI6.out.b3 (by decide) 0 (.int .i64 (z + 1)))
                    have HN7 := Aside0.mk (show valsG (fun z => evF z scale [x0, x1, x2, x3, x4, x5, x6, x7] 30 e) (cnt - (m + 1)) (z + 1) (ys ++ [x]) = valsG (fun z => evF z scale [x0, x1, x2, x3, x4, x5, x6, x7] 30 e) cnt lo [] by rw [← HN.out, show cnt - (m + 1) = j by have := HJ.out; omega])
                    have HZ7 := Aside0.mk (show z + 1 = lo + ((m + 1 : Nat) : Int) by have := HZ.out; omega)
                    rw [HWN.out]
                    go_roundw
                    case rel => exact ⟨m + 1, z + 1, ys ++ [x], hmc, HZ7, ⟨by simp [HLN.out]⟩, HN7, HR7, HI7, HO7, by simpa using hN6⟩
                    case measure => rw [lenOf_R HR7.out, HLO.out, List.length_append, HLN.out]; simp; omega
                · obtain ⟨A12, c12, rfl⟩ := Kd.R_slice HRV.out
                  have q5 : decide (z ≤ hi) = false := decide_eq_false hlt
                  have hmc : m = cnt := by have := HC4.out; have := HZ.out; omega
                  have HV1 := HV.out
                  rw [hmc, Nat.sub_self] at HV1
                  have H1 := H3.out
                  rw [← HV1] at H1
                  have HM := Aside0.mk (fun W hs => curve_Make.calls k lo (fun _ => True) A12 c12 ys r1 r2 W hs H1)
                  clear H1 HV1
                  clear hmc
                  have HVV := Aside0.mk (Kd.R_V (base' := wr.heap.size) HRV.out)
                  go_wp2_with fail
                  with_reducible refine (HM.out _ HVV.out).mono ?_
                  rintro r w6 ⟨v0, rfl, hR, hb⟩
                  have hb6 := below_step HIm.out.hb hb
                  have hsw := HIm.out.hb.size
                  clear HM
                  go_wp2
                  go_ret2
                  exact ⟨_, rfl, Kd.R_mono (Kd.R_lower hR hsw) (fun k h => by omega), hb6⟩
theorem value_Curve.calls (k : Nat) (a0_0 : Int) (a0_1 : Int) (A0_2 : Option Addr) (c0_2 : Nat) (l0_2 : List (S24)) (a1_0 : Int) (a1_1 : Int) (a2 : Int) (a3_0 a3_1 a3_2 a3_3 a3_4 a3_5 a3_6 a3_7 : Int) (r1 : List (S57)) (r2 : Int) (w : World) (hr0_2 : Kd.C k24 w A0_2 l0_2.length l0_2) (hc0_2 : l0_2.length ≤ c0_2) (h : value_Curve.f k a0_0 a0_1 l0_2 a1_0 a1_1 a2 a3_0 a3_1 a3_2 a3_3 a3_4 a3_5 a3_6 a3_7 = some (r1, r2)) :
    Calls Try.prog 19 #[.agg #[.int .i64 a0_0, .int .i64 a0_1, .slice A0_2 l0_2.length c0_2], .agg #[.int .i64 a1_0, .int .i64 a1_1], .int .i64 a2, .agg #[.int .i64 a3_0, .int .i64 a3_1, .int .i64 a3_2, .int .i64 a3_3, .int .i64 a3_4, .int .i64 a3_5, .int .i64 a3_6, .int .i64 a3_7]] w fun e w' => ∃ v0_ : Value, e = .returned (.tuple #[v0_, .int .i64 r2]) ∧ Kd.R k57 57 w' w.heap.size (fun _ => True) v0_ r1 ∧ Below w.heap.size w w' :=
  (curve_calls k ⟨a0_0, a0_1, l0_2⟩ a1_0 a1_1 a2 a3_0 a3_1 a3_2 a3_3 a3_4 a3_5 a3_6 a3_7 A0_2 c0_2 r1 r2 w hr0_2 hc0_2 h).mono fun e w' ⟨v, he, hR, hb⟩ => ⟨v, he, Kd.R_mono hR (fun _ _ => trivial), hb⟩
end Go.Proofs.Ytdigjjncoeaiiaa.PAll
