/- Printed by a program of this session (wip/gprint.py) over the translation, cut to what is named (wip/dcut.py). Not trusted: Lean checks it. -/
import Derived.Test.YtdigjjncoeaiiaaPAlld0
import Derived.Test.YtdigjjncoeaiiaaPAllw15
import Derived.Test.YtdigjjncoeaiiaaPAllw26
import Derived.Test.YtdigjjncoeaiiaaPAllw21
namespace Go.Proofs.Ytdigjjncoeaiiaa.PAll
open Go.RowKit Go.Proofs.YtdigjjncoeaiiaaW.PrintWords Go.Proofs.YtdigjjncoeaiiaaW.PrintLast Go.Proofs.YtdigjjncoeaiiaaW.PrintMore
attribute [local go_sem] max2_int min2_int max_two min_two max_three min_three max_four min_four -- for this text's walks alone
set_option linter.unusedVariables false
set_option linter.unusedSimpArgs false
section
open Go.Proofs.YtdigjjncoeaiiaaGlib
set_option maxHeartbeats 8000000 in
set_option maxRecDepth 100000 in
theorem curve_calls (k : Nat) (e : S24) (lo hi scale x0 x1 x2 x3 x4 x5 x6 x7 : Int) (A : Option Addr) (c : Nat) (r1 : List S57) (r2 : Int) (w : World) (hr : Kd.C k24 w A e.f2.length e.f2) (hc : e.f2.length ≤ c) (h : curveP k e lo hi scale [x0, x1, x2, x3, x4, x5, x6, x7] = some (r1, r2)) :
  Calls Try.prog 19 #[.agg #[.int .i64 e.f0, .int .i64 e.f1, .slice A e.f2.length c], .agg #[.int .i64 lo, .int .i64 hi], .int .i64 scale, .agg #[.int .i64 x0, .int .i64 x1, .int .i64 x2, .int .i64 x3, .int .i64 x4, .int .i64 x5, .int .i64 x6, .int .i64 x7]] w fun r w' =>
   ∃ v0_, r = .returned (.tuple #[v0_, .int .i64 r2]) ∧ Kd.R k57 57 w' w.heap.size (fun k_ => (w.heap.size ≤ k_)) v0_ r1 ∧ Below w.heap.size w w' := by
 have HR := Aside0.mk (fun W (h : Below w.heap.size w W) => Kd.C_below hr h)
 have VC := Aside0.mk (fun W h => valid_calls e A c W h hc)
 have RC := Aside0.mk (fun z W => right_calls z scale x0 x1 x2 x3 x4 x5 x6 x7 W)
 have OC := Aside0.mk (fun W => operators_calls W)
 have EV := Aside0.mk (fun z b W (hv : validE e = true) (h1 : inI z 0 1000000 = true) (h2 : inI scale 50 300 = true) h ho => eval_calls z scale x0 x1 x2 x3 x4 x5 x6 x7 (by unfold inI at h1; simpa using h1) (by unfold inI at h2; simpa using h2) b 30 e A c W (formed_wf 30 e 100 hv) h hc ho)
 unfold aboutV at EV
 have HI0 := Aside0.mk (CurvI.mk (e := e) (A := A) (c := c) (lo := lo) (hi := hi) (scale := scale) (x0 := x0) (x1 := x1) (x2 := x2) (x3 := x3) (x4 := x4) (x5 := x5) (x6 := x6) (x7 := x7) (z := 0) (below_alloc (below_alloc (below_alloc (below_alloc (Below.refl w.heap.size w) (.cells #[.int .i64 e.f0, .int .i64 e.f1, .slice A e.f2.length c] 24)) (.cells #[.int .i64 lo, .int .i64 hi] 27)) (.cells #[.int .i64 x0, .int .i64 x1, .int .i64 x2, .int .i64 x3, .int .i64 x4, .int .i64 x5, .int .i64 x6, .int .i64 x7] 25)) (.cells #[.int .i64 0, .int .i64 scale, .int .i64 x0, .int .i64 x1, .int .i64 x2, .int .i64 x3, .int .i64 x4, .int .i64 x5, .int .i64 x6, .int .i64 x7] 59))
  (blk_alloc (blk_alloc (blk_alloc (blk_new w (.cells #[.int .i64 e.f0, .int .i64 e.f1, .slice A e.f2.length c] 24)) (.cells #[.int .i64 lo, .int .i64 hi] 27)) (.cells #[.int .i64 x0, .int .i64 x1, .int .i64 x2, .int .i64 x3, .int .i64 x4, .int .i64 x5, .int .i64 x6, .int .i64 x7] 25)) (.cells #[.int .i64 0, .int .i64 scale, .int .i64 x0, .int .i64 x1, .int .i64 x2, .int .i64 x3, .int .i64 x4, .int .i64 x5, .int .i64 x6, .int .i64 x7] 59)) (by have := blk_alloc (blk_alloc (blk_new (w.alloc (.cells #[.int .i64 e.f0, .int .i64 e.f1, .slice A e.f2.length c] 24)) (.cells #[.int .i64 lo, .int .i64 hi] 27)) (.cells #[.int .i64 x0, .int .i64 x1, .int .i64 x2, .int .i64 x3, .int .i64 x4, .int .i64 x5, .int .i64 x6, .int .i64 x7] 25)) (.cells #[.int .i64 0, .int .i64 scale, .int .i64 x0, .int .i64 x1, .int .i64 x2, .int .i64 x3, .int .i64 x4, .int .i64 x5, .int .i64 x6, .int .i64 x7] 59); rw [World.size_alloc] at this; exact this) (by have := blk_new (((w.alloc (.cells #[.int .i64 e.f0, .int .i64 e.f1, .slice A e.f2.length c] 24)).alloc (.cells #[.int .i64 lo, .int .i64 hi] 27)).alloc (.cells #[.int .i64 x0, .int .i64 x1, .int .i64 x2, .int .i64 x3, .int .i64 x4, .int .i64 x5, .int .i64 x6, .int .i64 x7] 25)) (.cells #[.int .i64 0, .int .i64 scale, .int .i64 x0, .int .i64 x1, .int .i64 x2, .int .i64 x3, .int .i64 x4, .int .i64 x5, .int .i64 x6, .int .i64 x7] 59); simp only [World.size_alloc] at this; exact this))
 have H := Aside0.mk h
 clear hr h
 go_enter Try.func19, Try.ntmps19
 go_wp2_with fail
 generalize hW : (((w.alloc (.cells #[.int .i64 e.f0, .int .i64 e.f1, .slice A e.f2.length c] 24)).alloc (.cells #[.int .i64 lo, .int .i64 hi] 27)).alloc (.cells #[.int .i64 x0, .int .i64 x1, .int .i64 x2, .int .i64 x3, .int .i64 x4, .int .i64 x5, .int .i64 x6, .int .i64 x7] 25)).alloc (.cells #[.int .i64 0, .int .i64 scale, .int .i64 x0, .int .i64 x1, .int .i64 x2, .int .i64 x3, .int .i64 x4, .int .i64 x5, .int .i64 x6, .int .i64 x7] 59) = W0 at *
 clear hW
 cases hv : validE e with
 | false =>
  have H1 := H.out
  unfold curveP at H1
  rw [if_neg (fun h => by rw [hv] at h; simp at h)] at H1
  obtain ⟨rfl, rfl⟩ := Prod.mk.inj (Option.some.inj H1)
  clear H1 H
  with_reducible refine (VC.out _ (HR.out _ HI0.out.hb)).mono ?_
  rintro r w1 ⟨rfl, hb⟩
  have HI1 := Aside0.mk (HI0.out.below hb)
  rw [hv]
  clear hb
  go_wp2
  go_ret2
  exact ⟨_, rfl, Kd.R_nil _ _ _ _ _, HI1.out.hb⟩
 | true =>
  with_reducible refine (VC.out _ (HR.out _ HI0.out.hb)).mono ?_
  rintro r w1 ⟨rfl, hb⟩
  have HI1 := Aside0.mk (HI0.out.below hb)
  rw [hv]
  have VX := Aside0.mk hv
  clear hb VC HI0
  have ub0 := (blk_cell HI1.out.b2 0).trans rfl
  have ub1 := (blk_cell HI1.out.b2 1).trans rfl
  have uc0 := (blk_cell HI1.out.b3 0).trans rfl
  have uc1 := (blk_cell HI1.out.b3 1).trans rfl
  have uc2 := (blk_cell HI1.out.b3 2).trans rfl
  have uc3 := (blk_cell HI1.out.b3 3).trans rfl
  have uc4 := (blk_cell HI1.out.b3 4).trans rfl
  have uc5 := (blk_cell HI1.out.b3 5).trans rfl
  have uc6 := (blk_cell HI1.out.b3 6).trans rfl
  have uc7 := (blk_cell HI1.out.b3 7).trans rfl
  have uc8 := (blk_cell HI1.out.b3 8).trans rfl
  have uc9 := (blk_cell HI1.out.b3 9).trans rfl
  go_wp2_with fail
  with_reducible refine (RC.out 0 _).mono ?_
  rintro r w2 ⟨rfl, hb⟩
  have HI2 := Aside0.mk (HI1.out.below hb)
  clear hb RC HI1 ub0 ub1 uc0 uc1 uc2 uc3 uc4 uc5 uc6 uc7 uc8 uc9
  cases hsc : (inI scale 50 300 && [x0, x1, x2, x3, x4, x5, x6, x7].all coordB) with
  | false =>
   have H1 := H.out
   unfold curveP at H1
   rw [if_neg (fun h => by rw [hv, hsc] at h; simp at h)] at H1
   obtain ⟨rfl, rfl⟩ := Prod.mk.inj (Option.some.inj H1)
   clear H1 H
   go_wp2
   go_ret2
   exact ⟨_, rfl, Kd.R_nil _ _ _ _ _, HI2.out.hb⟩
  | true =>
   have hsi := (Bool.and_eq_true_iff.1 hsc).1
   have vb0 := (blk_cell HI2.out.b2 0).trans rfl
   have vb1 := (blk_cell HI2.out.b2 1).trans rfl
   by_cases h1 : lo < 0
   · have q1 : decide (lo < 0) = true := decide_eq_true h1
     have H1 := H.out
     unfold curveP at H1
     rw [if_neg (fun h => h.2.1 h1)] at H1
     obtain ⟨rfl, rfl⟩ := Prod.mk.inj (Option.some.inj H1)
     clear H1 H
     go_wp2
     go_ret2
     exact ⟨_, rfl, Kd.R_nil _ _ _ _ _, HI2.out.hb⟩
   · have q1 : decide (lo < 0) = false := decide_eq_false h1
     by_cases h2 : hi < lo
     · have q2 : decide (hi < lo) = true := decide_eq_true h2
       have H1 := H.out
       unfold curveP at H1
       rw [if_neg (fun h => h.2.2.1 h2)] at H1
       obtain ⟨rfl, rfl⟩ := Prod.mk.inj (Option.some.inj H1)
       clear H1 H
       go_wp2
       go_ret2
       exact ⟨_, rfl, Kd.R_nil _ _ _ _ _, HI2.out.hb⟩
     · have q2 : decide (hi < lo) = false := decide_eq_false h2
       by_cases h3 : 4000 < hi
       · have q3 : decide (4000 < hi) = true := decide_eq_true h3
         have H1 := H.out
         unfold curveP at H1
         rw [if_neg (fun h => h.2.2.2 h3)] at H1
         obtain ⟨rfl, rfl⟩ := Prod.mk.inj (Option.some.inj H1)
         clear H1 H
         go_wp2
         go_ret2
         exact ⟨_, rfl, Kd.R_nil _ _ _ _ _, HI2.out.hb⟩
       · have q3 : decide (4000 < hi) = false := decide_eq_false h3
         have H1 := H.out
         unfold curveP at H1
         rw [if_pos ⟨by rw [hv, hsc]; rfl, h1, h2, h3⟩] at H1
         have H2 := Aside0.mk H1
         clear H1 H hsc
         have hwl : wrap64 (hi - lo) = hi - lo := wrap64_id (by omega) (by omega)
         by_cases h4 : 4000 ≤ hi - lo
         · have q4 : decide (4000 ≤ hi - lo) = true := decide_eq_true h4
           have H1 := H2.out
           rw [if_pos h4] at H1
           obtain ⟨rfl, rfl⟩ := Prod.mk.inj (Option.some.inj H1)
           clear H1 H2
           go_wp2
           go_ret2
           exact ⟨_, rfl, Kd.R_nil _ _ _ _ _, HI2.out.hb⟩
         · have q4 : decide (4000 ≤ hi - lo) = false := decide_eq_false h4
           have H1 := H2.out
           rw [if_neg h4] at H1
           have H3 := Aside0.mk H1
           clear H1 H2
           go_wp2_with fail
           with_reducible refine (OC.out _).mono ?_
           rintro r w3 ⟨rfl, ho, hb⟩
           have HI3 := Aside0.mk (HI2.out.below hb)
           have HO3 := Aside0.mk ho
           have hS := (Array.getElem?_eq_some_iff.1 HI2.out.b3).1
           have hbN := (Array.getElem?_eq_some_iff.1 ho).1
           obtain ⟨b, hbe⟩ : ∃ b, w2.heap.size = b := ⟨_, rfl⟩
           rw [hbe] at HO3 hS hbN
           rw [hbe]
           clear ho hb hbe HI2 OC vb0 vb1
           have EW := Aside0.mk (fun z W (h1 : inI z 0 1000000 = true) h ho => EV.out z b W VX.out h1 hsi h ho)
           clear EV hsi hv VX
           have yb0 := (blk_cell HI3.out.b2 0).trans rfl
           have yb1 := (blk_cell HI3.out.b2 1).trans rfl
           have yc0 := (blk_cell HI3.out.b3 0).trans rfl
           have yc1 := (blk_cell HI3.out.b3 1).trans rfl
           have yc2 := (blk_cell HI3.out.b3 2).trans rfl
           have yc3 := (blk_cell HI3.out.b3 3).trans rfl
           have yc4 := (blk_cell HI3.out.b3 4).trans rfl
           have yc5 := (blk_cell HI3.out.b3 5).trans rfl
           have yc6 := (blk_cell HI3.out.b3 6).trans rfl
           have yc7 := (blk_cell HI3.out.b3 7).trans rfl
           have yc8 := (blk_cell HI3.out.b3 8).trans rfl
           have yc9 := (blk_cell HI3.out.b3 9).trans rfl
           have f0 := blk_frozen HI3.out.b3 0
           obtain ⟨cnt, hcnt⟩ : ∃ n : Nat, n = (hi - lo + 1).toNat := ⟨_, rfl⟩
           rw [← hcnt] at H3
           have HCN := Aside0.mk hcnt
           clear hcnt
           have HC4 := Aside0.mk (show cnt ≤ 4000 ∧ (cnt : Int) = hi - lo + 1 by have := HCN.out; omega)
           obtain ⟨N, hN⟩ : ∃ N, w3.heap.size = N := ⟨_, rfl⟩
           rw [hN] at hbN
           have hS3 : w.heap.size + 1 + 1 + 1 < N := by omega
           have HI3s := Aside0.mk (HI3.out.set lo)
           have HO3s := Aside0.mk (show OpsAt b (w3.setCell ⟨w.heap.size + 1 + 1 + 1, 0, none⟩ (.int .i64 lo)) from (Below.heap_setCell _ _ _ _ (by show b ≠ w.heap.size + 1 + 1 + 1; omega)).trans HO3.out)
           go_wp2
           go_loopw [12] (fun v wr => ∃ (m : Nat) (z : Int) (ys : List Int), m ≤ cnt ∧ Aside0 (z = lo + (m : Int)) ∧ Aside0 (ys.length = m) ∧ Aside0 (valsG (fun z => evF z scale [x0, x1, x2, x3, x4, x5, x6, x7] 30 e) (cnt - m) z ys = valsG (fun z => evF z scale [x0, x1, x2, x3, x4, x5, x6, x7] 30 e) cnt lo []) ∧ Aside0 (Kd.R (Kd.int .i64) 3 wr N (fun _ => True) v ys) ∧ Aside0 (CurvI w e A c lo hi scale x0 x1 x2 x3 x4 x5 x6 x7 z wr) ∧ Aside0 (OpsAt b wr) ∧ N ≤ wr.heap.size) (fun v _ => cnt - lenOf v)
           case atStart => exact ⟨0, lo, [], Nat.zero_le _, ⟨by simp⟩, ⟨rfl⟩, ⟨rfl⟩, ⟨Kd.R_nil _ _ _ _ _⟩, HI3s, HO3s, by simp [hN]⟩
           case round =>
            clear HI3s HO3s HI3 HO3 yb0 yb1 yc0 yc1 yc2 yc3 yc4 yc5 yc6 yc7 yc8 yc9 f0
            obtain ⟨m, z, ys, hm, HZ, HLN, HV, HRV, HIm, HOm, hNr⟩ := hrel
            have za0 := (blk_cell HIm.out.b1 0).trans rfl
            have za1 := (blk_cell HIm.out.b1 1).trans rfl
            have za2 := (blk_cell HIm.out.b1 2).trans rfl
            have zb0 := (blk_cell HIm.out.b2 0).trans rfl
            have zb1 := (blk_cell HIm.out.b2 1).trans rfl
            have zc0 := (blk_cell HIm.out.b3 0).trans rfl
            have zc1 := (blk_cell HIm.out.b3 1).trans rfl
            have zc2 := (blk_cell HIm.out.b3 2).trans rfl
            have zc3 := (blk_cell HIm.out.b3 3).trans rfl
            have zc4 := (blk_cell HIm.out.b3 4).trans rfl
            have zc5 := (blk_cell HIm.out.b3 5).trans rfl
            have zc6 := (blk_cell HIm.out.b3 6).trans rfl
            have zc7 := (blk_cell HIm.out.b3 7).trans rfl
            have zc8 := (blk_cell HIm.out.b3 8).trans rfl
            have zc9 := (blk_cell HIm.out.b3 9).trans rfl
            have f0 := blk_frozen HIm.out.b3 0
            have HLO := Aside0.mk (lenOf_R HRV.out)
            by_cases hlt : z ≤ hi
            · have q5 : decide (z ≤ hi) = true := decide_eq_true hlt
              have hmc : m < cnt := by have := HC4.out; have := HZ.out; omega
              have HE := Aside0.mk (EW.out z wr (by have := HZ.out; unfold inI; simp; omega) (HR.out _ HIm.out.hb) HOm.out)
              have HWN := Aside0.mk (show wrap64 (z + 1) = z + 1 from wrap64_id (by have := HZ.out; omega) (by omega))
              obtain ⟨j, hj⟩ : ∃ j, cnt - m = j + 1 := ⟨cnt - m - 1, by omega⟩
              have HJ := Aside0.mk hj
              have HV1 := HV.out
              rw [hj] at HV1
              clear hj
              cases hz : evF z scale [x0, x1, x2, x3, x4, x5, x6, x7] 30 e with
              | none =>
               have HN := valsG_none HV1 hz
               have H1 := H3.out
               rw [HN] at H1
               obtain ⟨rfl, rfl⟩ := Prod.mk.inj (Option.some.inj H1)
               rw [hz] at HE
               clear hz HN H1 HV1
               go_wp2_with fail
               with_reducible refine HE.out.mono ?_
               rintro r w5 ⟨rfl, hb⟩
               simp only [pairE]
               have hb5 := below_step HIm.out.hb hb
               clear hb
               go_wp2
               go_ret2
               exact ⟨_, rfl, Kd.R_nil _ _ _ _ _, hb5⟩
              | some x =>
               have HN := Aside0.mk (valsG_step HV1 hz)
               rw [hz] at HE
               clear hz HV1
               go_wp2_with fail
               with_reducible refine HE.out.mono ?_
               rintro r w5 ⟨rfl, hb⟩
               have HI5 := Aside0.mk (HIm.out.below hb)
               have HO5 := Aside0.mk (opsAt_below HOm.out hb)
               have HR5 := Aside0.mk (Kd.R_below HRV.out hb)
               have hN5 := Nat.le_trans hNr hb.size
               have HLB := Aside0.mk (show (ys.length + 1) * 8 ≤ 140737488355328 by have := HLN.out; have := HC4.out; omega)
               clear hb HIm HOm HRV HE za0 za1 za2 zb0 zb1 zc0 zc1 zc2 zc3 zc4 zc5 zc6 zc7 zc8 zc9 f0
               simp only [pairE]
               go_wp2_with ((with_reducible refine gate_dst (N := 75) rfl ?_); at_builtin; (refine Kd.R_append (Kd.int .i64) (w0 := w5) N rfl (.tmp 72) (.tmp 74) 33 3 (.int .i64 0) 8 rfl Try.underlying33 info3 rfl (by decide) (by omega) u12 ys x [.int .i64 x] (fun _ => True) (fun _ => False) rfl rfl rfl (fun _ hk => hk.elim) (fun _ _ => trivial) HR5.out (Below.refl _ _) hN5 HLB.out ?_); intro v1 w6 ho hb hg _; have HI6 := Aside0.mk (HI5.out.up hb hS3); have HO6 := Aside0.mk (show OpsAt b w6 from (hb.block _ hbN).trans HO5.out); have HR6 := Aside0.mk ho; have hN6 := Nat.le_trans hN5 hb.size; clear hb ho hg; have c0 := (blk_cell HI6.out.b3 0).trans rfl; have f0 := blk_frozen HI6.out.b3 0)
               have HI7 := Aside0.mk (HI6.out.set (z + 1))
               have HO7 := Aside0.mk (show OpsAt b (w6.setCell ⟨w.heap.size + 1 + 1 + 1, 0, none⟩ (.int .i64 (z + 1))) from (Below.heap_setCell _ _ _ _ (by show b ≠ w.heap.size + 1 + 1 + 1; omega)).trans HO6.out)
               have HR7 := Aside0.mk (Kd.R_set HR6.out HI6.out.b3 (by decide) 0 (.int .i64 (z + 1)))
               have HN7 := Aside0.mk (show valsG (fun z => evF z scale [x0, x1, x2, x3, x4, x5, x6, x7] 30 e) (cnt - (m + 1)) (z + 1) (ys ++ [x]) = valsG (fun z => evF z scale [x0, x1, x2, x3, x4, x5, x6, x7] 30 e) cnt lo [] by rw [← HN.out, show cnt - (m + 1) = j by have := HJ.out; omega])
               have HZ7 := Aside0.mk (show z + 1 = lo + ((m + 1 : Nat) : Int) by have := HZ.out; omega)
               rw [HWN.out]
               go_roundw
               case rel => exact ⟨m + 1, z + 1, ys ++ [x], hmc, HZ7, ⟨by simp [HLN.out]⟩, HN7, HR7, HI7, HO7, by simpa using hN6⟩
               case measure => rw [lenOf_R HR7.out, HLO.out, List.length_append, HLN.out]; simp; omega
            · obtain ⟨A12, c12, rfl⟩ := Kd.R_slice HRV.out
              have q5 : decide (z ≤ hi) = false := decide_eq_false hlt
              have hmc : m = cnt := by have := HC4.out; have := HZ.out; omega
              have HV1 := HV.out
              rw [hmc, Nat.sub_self] at HV1
              have H1 := H3.out
              rw [← HV1] at H1
              have HM := Aside0.mk (fun W hs => curve_Make.calls k lo (fun _ => True) A12 c12 ys r1 r2 W hs H1)
              clear H1 HV1
              clear hmc
              have HVV := Aside0.mk (Kd.R_V (base' := wr.heap.size) HRV.out)
              go_wp2_with fail
              with_reducible refine (HM.out _ HVV.out).mono ?_
              rintro r w6 ⟨v0, rfl, hR, hb⟩
              have hb6 := below_step HIm.out.hb hb
              have hsw := HIm.out.hb.size
              clear HM
              go_wp2
              go_ret2
              exact ⟨_, rfl, Kd.R_mono (Kd.R_lower hR hsw) (fun k h => by omega), hb6⟩
theorem value_Curve.calls (k : Nat) (a0_0 : Int) (a0_1 : Int) (A0_2 : Option Addr) (c0_2 : Nat) (l0_2 : List (S24)) (a1_0 : Int) (a1_1 : Int) (a2 : Int) (a3_0 a3_1 a3_2 a3_3 a3_4 a3_5 a3_6 a3_7 : Int) (r1 : List (S57)) (r2 : Int) (w : World) (hr0_2 : Kd.C k24 w A0_2 l0_2.length l0_2) (hc0_2 : l0_2.length ≤ c0_2) (h : value_Curve.f k a0_0 a0_1 l0_2 a1_0 a1_1 a2 a3_0 a3_1 a3_2 a3_3 a3_4 a3_5 a3_6 a3_7 = some (r1, r2)) :
  Calls Try.prog 19 #[.agg #[.int .i64 a0_0, .int .i64 a0_1, .slice A0_2 l0_2.length c0_2], .agg #[.int .i64 a1_0, .int .i64 a1_1], .int .i64 a2, .agg #[.int .i64 a3_0, .int .i64 a3_1, .int .i64 a3_2, .int .i64 a3_3, .int .i64 a3_4, .int .i64 a3_5, .int .i64 a3_6, .int .i64 a3_7]] w fun e w' => ∃ v0_ : Value, e = .returned (.tuple #[v0_, .int .i64 r2]) ∧ Kd.R k57 57 w' w.heap.size (fun _ => True) v0_ r1 ∧ Below w.heap.size w w' :=
 (curve_calls k ⟨a0_0, a0_1, l0_2⟩ a1_0 a1_1 a2 a3_0 a3_1 a3_2 a3_3 a3_4 a3_5 a3_6 a3_7 A0_2 c0_2 r1 r2 w hr0_2 hc0_2 h).mono fun e w' ⟨v, he, hR, hb⟩ => ⟨v, he, Kd.R_mono hR (fun _ _ => trivial), hb⟩
end
section
attribute [local go_sem high] eqA57
set_option maxHeartbeats 8000000 in
set_option maxRecDepth 100000 in
theorem formeref02_Same.calls (k : Nat) (A0 : Option Addr) (c0 : Nat) (l0 : List (S57)) (A1 : Option Addr) (c1 : Nat) (l1 : List (S57)) (r : Bool) (w : World) (hr0 : Kd.C k57 w A0 l0.length l0) (hc0 : l0.length ≤ c0) (hr1 : Kd.C k57 w A1 l1.length l1) (hc1 : l1.length ≤ c1) (h : formeref02_Same.f k l0 l1 = some r) :
  Calls Try.prog 21 #[.slice A0 l0.length c0, .slice A1 l1.length c1] w fun e w' => e = .returned (.bool r) ∧ Drawn0 w w' := by
 have hu57 := Try.underlying57
 have HR0 := Aside0.mk hr0
 have HC0 := Aside0.mk hc0
 clear hr0 hc0
 have HR1 := Aside0.mk hr1
 have HC1 := Aside0.mk hc1
 clear hr1 hc1
 have H : (if (l0.length : Int) = (l1.length : Int) then (formeref02_Same.l0 k l0 l1 0) else (some false)) = some r := h
 clear h
 by_cases c3 : (l0.length : Int) = (l1.length : Int)
 · rw [if_pos c3] at H
   have c3b0 : ((l0.length : Int) == (l1.length : Int)) = true := beq_iff_eq.mpr c3
   have c3b1 : ((l0.length : Int) != (l1.length : Int)) = false := bne_eq_false_iff_eq.mpr c3
   have c3b2 : (l0.length == l1.length) = true := by first | simpa using c3 | (simp at c3 ⊢; omega)
   clear c3
   have H' := Aside0.mk H
   clear H
   go_enter Try.func21, Try.ntmps21
   go_wp2
   repeat (go_quiet (fail); try go_wp2)
   go_loopg [5] k (fun kq v5 w' => ∃ (x5_1 : Int), v5 = .int .i64 x5_1 ∧ Aside0 (formeref02_Same.l0 kq l0 l1 x5_1 = some r) ∧ Aside0 (kq ≤ k) ∧ Drawn0 w w')
   case atStart => exact ⟨(0), (by first | rfl | (simp; done) | (simp [*]; done)), H', ⟨Nat.le_refl _⟩, by repeat (first | exact Drawn0.refl _ | apply Drawn0.step)⟩
   case round =>
    clear H'
    try clear c1
    try clear c2
    try clear p2
    try clear c3
    try clear c3b0
    try clear c3b1
    try clear c3b2
    obtain ⟨x5_1, rfl, HA, HK1, ⟨m1, rfl⟩⟩ := hrel
    cases gk with
    | zero => exact absurd HA.out (by simp [formeref02_Same.l0])
    | succ k1 =>
     have H := HA.out
     clear HA
     simp only [formeref02_Same.l0] at H
     by_cases c4 : x5_1 < (l0.length : Int)
     · rw [if_pos c4] at H
       have c4b0 : decide (x5_1 < (l0.length : Int)) = true := decide_eq_true c4
       clear c4
       by_cases c5 : 0 ≤ x5_1
       · rw [if_pos c5] at H
         have c5b0 : decide (0 ≤ x5_1) = true := decide_eq_true c5
         clear c5
         by_cases c6 : x5_1 < (l1.length : Int)
         · rw [if_pos c6] at H
           have c6b0 : decide (x5_1 < (l1.length : Int)) = true := decide_eq_true c6
           clear c6
           by_cases c7 : (!(((rd_T57 l0 x5_1).f0) == ((rd_T57 l1 x5_1).f0)) || (!(((rd_T57 l0 x5_1).f1) == ((rd_T57 l1 x5_1).f1)) || ((!(((rd_T57 l0 x5_1).f2.f0) == ((rd_T57 l1 x5_1).f2.f0)) || (!(((rd_T57 l0 x5_1).f2.f1) == ((rd_T57 l1 x5_1).f2.f1)) || (!(((rd_T57 l0 x5_1).f2.f2) == ((rd_T57 l1 x5_1).f2.f2)))))))) = true
           · rw [if_pos c7] at H
             have c7b0 : (!(((rd_T57 l0 x5_1).f0) == ((rd_T57 l1 x5_1).f0)) || (!(((rd_T57 l0 x5_1).f1) == ((rd_T57 l1 x5_1).f1)) || ((!(((rd_T57 l0 x5_1).f2.f0) == ((rd_T57 l1 x5_1).f2.f0)) || (!(((rd_T57 l0 x5_1).f2.f1) == ((rd_T57 l1 x5_1).f2.f1)) || (!(((rd_T57 l0 x5_1).f2.f2) == ((rd_T57 l1 x5_1).f2.f2)))))))) = true := c7
             clear c7
             obtain rfl := Option.some.inj H
             have p182 : 0 ≤ (x5_1 : Int) := of_decide_eq_true (by first | (with_reducible assumption) | assumption)
             have q182 : x5_1 < (l0.length : Int) := of_decide_eq_true (by first | (with_reducible assumption) | assumption)
             obtain ⟨ad182, e182, hx182_0, hx182_1, hx182_2, hx182_3, hx182_4⟩ := at_T57 HR0.out x5_1 p182 q182
             cases e182
             replace p182 := eq_true p182
             replace q182 := eq_true q182
             have p183 : 0 ≤ (x5_1 : Int) := of_decide_eq_true (by first | (with_reducible assumption) | assumption)
             have q183 : x5_1 < (l1.length : Int) := of_decide_eq_true (by first | (with_reducible assumption) | assumption)
             obtain ⟨ad183, e183, hx183_0, hx183_1, hx183_2, hx183_3, hx183_4⟩ := at_T57 HR1.out x5_1 p183 q183
             cases e183
             replace p183 := eq_true p183
             replace q183 := eq_true q183
             go_wp2
             repeat (go_quiet (fail); try go_wp2)
             go_ret
             exact ⟨by first | rfl | (simp; done) | (simp [*]; done), by repeat (first | exact Drawn0.refl _ | apply Drawn0.step)⟩
           · rw [if_neg c7] at H
             have c7b0 : (!(((rd_T57 l0 x5_1).f0) == ((rd_T57 l1 x5_1).f0)) || (!(((rd_T57 l0 x5_1).f1) == ((rd_T57 l1 x5_1).f1)) || ((!(((rd_T57 l0 x5_1).f2.f0) == ((rd_T57 l1 x5_1).f2.f0)) || (!(((rd_T57 l0 x5_1).f2.f1) == ((rd_T57 l1 x5_1).f2.f1)) || (!(((rd_T57 l0 x5_1).f2.f2) == ((rd_T57 l1 x5_1).f2.f2)))))))) = false := by simpa using c7
             clear c7
             have H' := Aside0.mk H
             clear H
             have p182 : 0 ≤ (x5_1 : Int) := of_decide_eq_true (by first | (with_reducible assumption) | assumption)
             have q182 : x5_1 < (l0.length : Int) := of_decide_eq_true (by first | (with_reducible assumption) | assumption)
             obtain ⟨ad182, e182, hx182_0, hx182_1, hx182_2, hx182_3, hx182_4⟩ := at_T57 HR0.out x5_1 p182 q182
             cases e182
             replace p182 := eq_true p182
             replace q182 := eq_true q182
             have p183 : 0 ≤ (x5_1 : Int) := of_decide_eq_true (by first | (with_reducible assumption) | assumption)
             have q183 : x5_1 < (l1.length : Int) := of_decide_eq_true (by first | (with_reducible assumption) | assumption)
             obtain ⟨ad183, e183, hx183_0, hx183_1, hx183_2, hx183_3, hx183_4⟩ := at_T57 HR1.out x5_1 p183 q183
             cases e183
             replace p183 := eq_true p183
             replace q183 := eq_true q183
             go_wp2
             repeat (go_quiet (fail); try go_wp2)
             go_roundg k1
             case measure => have := HK1.out; omega
             case rel => exact ⟨(wrap64 (x5_1 + 1)), (by first | rfl | (simp; done) | (simp [*]; done)), H', ⟨by have := HK1.out; omega⟩, by repeat (first | exact Drawn0.refl _ | apply Drawn0.step)⟩
         · rw [if_neg c6] at H
           exact absurd H (by simp)
       · rw [if_neg c5] at H
         exact absurd H (by simp)
     · rw [if_neg c4] at H
       have c4b0 : decide (x5_1 < (l0.length : Int)) = false := decide_eq_false c4
       clear c4
       obtain rfl := Option.some.inj H
       go_wp2
       repeat (go_quiet (fail); try go_wp2)
       go_ret
       exact ⟨by first | rfl | (simp; done) | (simp [*]; done), by repeat (first | exact Drawn0.refl _ | apply Drawn0.step)⟩
 · rw [if_neg c3] at H
   have c3b0 : ((l0.length : Int) == (l1.length : Int)) = false := beq_eq_false_iff_ne.mpr c3
   have c3b1 : ((l0.length : Int) != (l1.length : Int)) = true := bne_iff_ne.mpr c3
   have c3b2 : (l0.length == l1.length) = false := by first | simpa using c3 | (simp at c3 ⊢; omega)
   obtain rfl := Option.some.inj H
   go_enter Try.func21, Try.ntmps21
   go_wp2
   repeat (go_quiet (fail); try go_wp2)
   go_ret
   exact ⟨by first | rfl | (simp; done) | (simp [*]; done), by repeat (first | exact Drawn0.refl _ | apply Drawn0.step)⟩
set_option maxHeartbeats 8000000 in
set_option maxRecDepth 100000 in
theorem formelaw14_two.calls (a0 : Int) (a1_0 : Int) (a1_1 : Int) (P1_2_ : Nat → Prop) (A1_2 : Option Addr) (c1_2 : Nat) (l1_2 : List (S24)) (a2_0 : Int) (a2_1 : Int) (P2_2_ : Nat → Prop) (A2_2 : Option Addr) (c2_2 : Nat) (l2_2 : List (S24)) (r1 : Int) (r2 : Int) (r3 : List (S24)) (w : World) (hs1_2 : Kd.V k24 24 w w.heap.size (fun k_ => P1_2_ k_) (.slice A1_2 l1_2.length c1_2) l1_2) (hs2_2 : Kd.V k24 24 w w.heap.size (fun k_ => P2_2_ k_) (.slice A2_2 l2_2.length c2_2) l2_2) (h : formelaw14_two.f a0 a1_0 a1_1 l1_2 a2_0 a2_1 l2_2 = some (r1, r2, r3)) :
  Calls Try.prog 22 #[.int .i64 a0, .agg #[.int .i64 a1_0, .int .i64 a1_1, .slice A1_2 l1_2.length c1_2], .agg #[.int .i64 a2_0, .int .i64 a2_1, .slice A2_2 l2_2.length c2_2]] w fun e w' => ∃ v2_ : Value, e = .returned (.agg #[.int .i64 r1, .int .i64 r2, v2_]) ∧ Kd.N k24 24 w' w.heap.size (fun k_ => ((P1_2_ k_ ∨ P2_2_ k_) ∨ w.heap.size ≤ k_)) v2_ r3 ∧ Below w.heap.size w w' := by
 have hu24 := Try.underlying24
 have HO1_2 := Aside0.mk (show Kd.V k24 24 w w.heap.size (fun k_ => ((P1_2_ k_ ∨ P2_2_ k_) ∨ w.heap.size ≤ k_)) (.slice A1_2 l1_2.length c1_2) l1_2 from Kd.V_mono hs1_2 (fun k_ hk => .inl (.inl hk)))
 have HO2_2 := Aside0.mk (show Kd.V k24 24 w w.heap.size (fun k_ => ((P1_2_ k_ ∨ P2_2_ k_) ∨ w.heap.size ≤ k_)) (.slice A2_2 l2_2.length c2_2) l2_2 from Kd.V_mono hs2_2 (fun k_ hk => .inl (.inr hk)))
 have HB := Aside0.mk (Below.refl w.heap.size w)
 have H : (some (a0, 0, (([(⟨a1_0, a1_1, l1_2⟩ : S24), (⟨a2_0, a2_1, l2_2⟩ : S24)] : List (S24))))) = some (r1, r2, r3) := h
 clear h
 obtain ⟨y187, hy187⟩ : ∃ y_ : List (S24), y_ = (([(⟨a1_0, a1_1, l1_2⟩ : S24), (⟨a2_0, a2_1, l2_2⟩ : S24)] : List (S24))) := ⟨_, rfl⟩
 replace H : (some (a0, 0, y187)) = some (r1, r2, r3) := by first | (rw [hy187]; with_reducible exact H) | (have H2_ := (Option.bind_some _ _).symm.trans H; rw [hy187]; with_reducible exact H2_) | (have H2_ := (Option.bind_some _ _).symm.trans H; with_reducible exact H2_) | with_reducible exact H | (rw [hy187]; exact H) | exact H
 have Ny187 := Aside0.mk hy187
 clear hy187
 simp only [Option.some.injEq, Prod.mk.injEq] at H
 obtain ⟨rfl, rfl, rfl⟩ := H
 go_enter Try.func22, Try.ntmps22
 go_wp2_with (first | ((with_reducible refine gate_dst (N := 4) rfl ?_); refine box_event ?hg (N := 4) ?hd (cs := #[.int .i64 a1_0, .int .i64 a1_1, .slice A1_2 l1_2.length c1_2]) (t := 24) ?hr ?_; (case hd => rfl); (case hg => rfl); (case hr => first | (go_simp; done) | (go_simp; rfl)); intro gb184 hg w4 hbox hb; replace HO1_2 := Aside0.mk (Kd.V_below (Kd.V_elderB (by (with_reducible repeat (first | apply Kd.V_alloc | apply Kd.V_drewN | apply Kd.V_drew)); exact HO1_2.out) gb184 (Nat.le_of_eq hg.symm)) hb); replace HO2_2 := Aside0.mk (Kd.V_below (Kd.V_elderB (by (with_reducible repeat (first | apply Kd.V_alloc | apply Kd.V_drewN | apply Kd.V_drew)); exact HO2_2.out) gb184 (Nat.le_of_eq hg.symm)) hb); have BK184 := Aside0.mk (hbox); have GW184 := Aside0.mk ((by rw [hg]; exact (below_size (by repeat (first | (with_reducible first | exact HB.out | apply below_alloc | apply pw_below_drewN | apply below_drew1) | exact HB.out))) : w.heap.size ≤ gb184)); have GE184 := Aside0.mk ((by rw [hg]; exact (below_size (by repeat (first | (with_reducible first | exact HB.out | apply below_alloc | apply pw_below_drewN | apply below_drew1) | exact HB.out))) : w.heap.size ≤ gb184)); replace HB := Aside0.mk (below_step (by repeat (first | (with_reducible first | exact HB.out | apply below_alloc | apply pw_below_drewN | apply below_drew1) | exact HB.out)) hb); clear hb hbox hg) | ((with_reducible refine gate_dst (N := 5) rfl ?_); refine box_event ?hg (N := 5) ?hd (cs := #[.int .i64 a2_0, .int .i64 a2_1, .slice A2_2 l2_2.length c2_2]) (t := 24) ?hr ?_; (case hd => rfl); (case hg => rfl); (case hr => first | (go_simp; done) | (go_simp; rfl)); intro gb185 hg w5 hbox hb; replace HO1_2 := Aside0.mk (Kd.V_below (Kd.V_elderB (by (with_reducible repeat (first | apply Kd.V_alloc | apply Kd.V_drewN | apply Kd.V_drew)); exact HO1_2.out) gb185 (Nat.le_of_eq hg.symm)) hb); replace HO2_2 := Aside0.mk (Kd.V_below (Kd.V_elderB (by (with_reducible repeat (first | apply Kd.V_alloc | apply Kd.V_drewN | apply Kd.V_drew)); exact HO2_2.out) gb185 (Nat.le_of_eq hg.symm)) hb); have BK185 := Aside0.mk (hbox); have GW185 := Aside0.mk ((by rw [hg]; exact (below_size (by repeat (first | (with_reducible first | exact HB.out | apply below_alloc | apply pw_below_drewN | apply below_drew1 | refine below_set ?_ GE184.out) | exact HB.out))) : w.heap.size ≤ gb185)); have GE185 := Aside0.mk ((by rw [hg]; exact (below_size (by repeat (first | (with_reducible first | exact HB.out | apply below_alloc | apply pw_below_drewN | apply below_drew1 | refine below_set ?_ GE184.out) | exact HB.out))) : w.heap.size ≤ gb185)); replace HB := Aside0.mk (below_step (by repeat (first | (with_reducible first | exact HB.out | apply below_alloc | apply pw_below_drewN | apply below_drew1 | refine below_set ?_ GE184.out) | exact HB.out)) hb); have NB184_185 := Aside0.mk ((by rw [hg]; exact Nat.ne_of_lt (blk_lt (g := gb184) (o := .cells #[.int .i64 a1_0, .int .i64 a1_1, .slice A1_2 l1_2.length c1_2] 24 (0, 0)) (by (with_reducible repeat (first | refine blk_drewN ?_ _ | refine blk_drew ?_ | refine blk_alloc ?_ _)); exact BK184.out)) : gb184 ≠ gb185)); have NB185_184 := Aside0.mk ((by rw [hg]; exact Nat.ne_of_gt (blk_lt (g := gb184) (o := .cells #[.int .i64 a1_0, .int .i64 a1_1, .slice A1_2 l1_2.length c1_2] 24 (0, 0)) (by (with_reducible repeat (first | refine blk_drewN ?_ _ | refine blk_drew ?_ | refine blk_alloc ?_ _)); exact BK184.out)) : gb185 ≠ gb184)); replace BK184 := Aside0.mk (blk_below (g := gb184) (o := .cells #[.int .i64 a1_0, .int .i64 a1_1, .slice A1_2 l1_2.length c1_2] 24 (0, 0)) (by (with_reducible repeat (first | refine blk_drewN ?_ _ | refine blk_drew ?_ | refine blk_alloc ?_ _)); exact BK184.out) hb); clear hb hbox hg) | ((with_reducible refine gate_dst (N := 6) rfl ?_); refine box_event ?hg (N := 6) ?hd (cs := #[.int .i64 0, .int .i64 0, .slice none 0 0]) (t := 24) ?hr ?_; (case hd => rfl); (case hg => rfl); (case hr => first | (go_simp; done) | (go_simp; rfl)); intro gb186 hg w6 hbox hb; replace HO1_2 := Aside0.mk (Kd.V_below (Kd.V_elderB (by (with_reducible repeat (first | apply Kd.V_alloc | apply Kd.V_drewN | apply Kd.V_drew)); exact HO1_2.out) gb186 (Nat.le_of_eq hg.symm)) hb); replace HO2_2 := Aside0.mk (Kd.V_below (Kd.V_elderB (by (with_reducible repeat (first | apply Kd.V_alloc | apply Kd.V_drewN | apply Kd.V_drew)); exact HO2_2.out) gb186 (Nat.le_of_eq hg.symm)) hb); have BK186 := Aside0.mk (hbox); have GW186 := Aside0.mk ((by rw [hg]; exact (below_size (by repeat (first | (with_reducible first | exact HB.out | apply below_alloc | apply pw_below_drewN | apply below_drew1 | refine below_set ?_ GE184.out | refine below_set ?_ GE185.out) | exact HB.out))) : w.heap.size ≤ gb186)); have GE186 := Aside0.mk ((by rw [hg]; exact (below_size (by repeat (first | (with_reducible first | exact HB.out | apply below_alloc | apply pw_below_drewN | apply below_drew1 | refine below_set ?_ GE184.out | refine below_set ?_ GE185.out) | exact HB.out))) : w.heap.size ≤ gb186)); replace HB := Aside0.mk (below_step (by repeat (first | (with_reducible first | exact HB.out | apply below_alloc | apply pw_below_drewN | apply below_drew1 | refine below_set ?_ GE184.out | refine below_set ?_ GE185.out) | exact HB.out)) hb); have NB184_186 := Aside0.mk ((by rw [hg]; exact Nat.ne_of_lt (blk_lt (g := gb184) (o := .cells #[.int .i64 a1_0, .int .i64 a1_1, .slice A1_2 l1_2.length c1_2] 24 (0, 0)) (by (with_reducible repeat (first | refine blk_drewN ?_ _ | refine blk_drew ?_ | refine blk_alloc ?_ _)); exact BK184.out)) : gb184 ≠ gb186)); have NB186_184 := Aside0.mk ((by rw [hg]; exact Nat.ne_of_gt (blk_lt (g := gb184) (o := .cells #[.int .i64 a1_0, .int .i64 a1_1, .slice A1_2 l1_2.length c1_2] 24 (0, 0)) (by (with_reducible repeat (first | refine blk_drewN ?_ _ | refine blk_drew ?_ | refine blk_alloc ?_ _)); exact BK184.out)) : gb186 ≠ gb184)); replace BK184 := Aside0.mk (blk_below (g := gb184) (o := .cells #[.int .i64 a1_0, .int .i64 a1_1, .slice A1_2 l1_2.length c1_2] 24 (0, 0)) (by (with_reducible repeat (first | refine blk_drewN ?_ _ | refine blk_drew ?_ | refine blk_alloc ?_ _)); exact BK184.out) hb); have NB185_186 := Aside0.mk ((by rw [hg]; exact Nat.ne_of_lt (blk_lt (g := gb185) (o := .cells #[.int .i64 a2_0, .int .i64 a2_1, .slice A2_2 l2_2.length c2_2] 24 (0, 0)) (by (with_reducible repeat (first | refine blk_drewN ?_ _ | refine blk_drew ?_ | refine blk_alloc ?_ _)); exact BK185.out)) : gb185 ≠ gb186)); have NB186_185 := Aside0.mk ((by rw [hg]; exact Nat.ne_of_gt (blk_lt (g := gb185) (o := .cells #[.int .i64 a2_0, .int .i64 a2_1, .slice A2_2 l2_2.length c2_2] 24 (0, 0)) (by (with_reducible repeat (first | refine blk_drewN ?_ _ | refine blk_drew ?_ | refine blk_alloc ?_ _)); exact BK185.out)) : gb186 ≠ gb185)); replace BK185 := Aside0.mk (blk_below (g := gb185) (o := .cells #[.int .i64 a2_0, .int .i64 a2_1, .slice A2_2 l2_2.length c2_2] 24 (0, 0)) (by (with_reducible repeat (first | refine blk_drewN ?_ _ | refine blk_drew ?_ | refine blk_alloc ?_ _)); exact BK185.out) hb); clear hb hbox hg; have hnb7 := NB184_185.out; have hnc7 := NB185_184.out; have hnb8 := NB184_186.out; have hnc8 := NB186_184.out; have hcz9_0 : w6.cell? ⟨gb184, 0, none⟩ = some (.int .i64 a1_0) := (blk_cell BK184.out 0).trans rfl; have hcz9_1 : w6.cell? ⟨gb184, 1, none⟩ = some (.int .i64 a1_1) := (blk_cell BK184.out 1).trans rfl; have hcz9_2 : w6.cell? ⟨gb184, 2, none⟩ = some (.slice A1_2 l1_2.length c1_2) := (blk_cell BK184.out 2).trans rfl; have hfz9_0 := blk_frozen BK184.out 0; have hfz9_1 := blk_frozen BK184.out 1; have hfz9_2 := blk_frozen BK184.out 2; have hnb10 := NB185_186.out; have hnc10 := NB186_185.out; have hcz11_0 : w6.cell? ⟨gb185, 0, none⟩ = some (.int .i64 a2_0) := (blk_cell BK185.out 0).trans rfl; have hcz11_1 : w6.cell? ⟨gb185, 1, none⟩ = some (.int .i64 a2_1) := (blk_cell BK185.out 1).trans rfl; have hcz11_2 : w6.cell? ⟨gb185, 2, none⟩ = some (.slice A2_2 l2_2.length c2_2) := (blk_cell BK185.out 2).trans rfl; have hfz11_0 := blk_frozen BK185.out 0; have hfz11_1 := blk_frozen BK185.out 1; have hfz11_2 := blk_frozen BK185.out 2) | ((with_reducible refine gate_dst (N := 10) rfl ?_); refine Kd.N_lit k24 _ 24 ?hg (N' := 10) ?hd (xs := ([(⟨a1_0, a1_1, l1_2⟩ : S24), (⟨a2_0, a2_1, l2_2⟩ : S24)] : List (S24))) (inner := [.int .i64 a1_0, .int .i64 a1_1, .slice A1_2 l1_2.length c1_2, .int .i64 a2_0, .int .i64 a2_1, .slice A2_2 l2_2.length c2_2]) (ok := (fun k_ => ((P1_2_ k_ ∨ P2_2_ k_) ∨ w.heap.size ≤ k_) ∧ k_ ≠ gb184 ∧ k_ ≠ gb185 ∧ k_ ≠ gb186)) (okp := (fun k_ => ((P1_2_ k_ ∨ P2_2_ k_) ∨ w.heap.size ≤ k_) ∧ k_ ≠ gb184 ∧ k_ ≠ gb185 ∧ k_ ≠ gb186)) ?hr ?hp (fun _ hk => hk) ((show ∀ k_, w6.heap.size ≤ k_ → (fun k_ => ((P1_2_ k_ ∨ P2_2_ k_) ∨ w.heap.size ≤ k_) ∧ k_ ≠ gb184 ∧ k_ ≠ gb185 ∧ k_ ≠ gb186) k_ from fun k_ hk => ⟨(.inr (Nat.le_trans (below_size (by repeat (first | (with_reducible first | exact HB.out | apply below_alloc | apply pw_below_drewN | apply below_drew1 | refine below_set ?_ GE184.out | refine below_set ?_ GE185.out | refine below_set ?_ GE186.out) | exact HB.out))) hk)), Kd.freshB (g := gb184) (o := .cells #[.int .i64 a1_0, .int .i64 a1_1, .slice A1_2 l1_2.length c1_2] 24 (0, 0)) (by (with_reducible repeat (first | refine blk_drewN ?_ _ | refine blk_drew ?_ | refine blk_alloc ?_ _)); exact BK184.out) k_ hk, Kd.freshB (g := gb185) (o := .cells #[.int .i64 a2_0, .int .i64 a2_1, .slice A2_2 l2_2.length c2_2] 24 (0, 0)) (by (with_reducible repeat (first | refine blk_drewN ?_ _ | refine blk_drew ?_ | refine blk_alloc ?_ _)); exact BK185.out) k_ hk, Kd.freshB (g := gb186) (o := .cells #[.int .i64 0, .int .i64 0, .slice none 0 0] 24 (0, 0)) (by (with_reducible repeat (first | refine blk_drewN ?_ _ | refine blk_drew ?_ | refine blk_alloc ?_ _)); exact BK186.out) k_ hk⟩) _ (Nat.le_refl _)) (Below.refl _ _) (Nat.le_refl _) (by simp) ?_; (case hd => rfl); (case hg => rfl); (case hr => first | (go_simp; done) | (go_simp; rfl)); (case hp => exact (Reps.c3 (show Kd.FK k24 _ _ (⟨a1_0, a1_1, l1_2⟩ : S24) [.int .i64 a1_0, .int .i64 a1_1, .slice A1_2 l1_2.length c1_2] from (k24_mkF _ _ (⟨a1_0, a1_1, l1_2⟩ : S24) (Kd.V_reads' (Kd.V_mono (ok' := (fun k_ => ((P1_2_ k_ ∨ P2_2_ k_) ∨ w.heap.size ≤ k_) ∧ k_ ≠ gb184 ∧ k_ ≠ gb185 ∧ k_ ≠ gb186)) (HO1_2.out) (fun k_ hk => ⟨hk.1.1.1, ⟨hk.1.1.2, ⟨hk.1.2, hk.2⟩⟩⟩))).2.1 (Kd.V_F (Kd.V_mono (ok' := (fun k_ => ((P1_2_ k_ ∨ P2_2_ k_) ∨ w.heap.size ≤ k_) ∧ k_ ≠ gb184 ∧ k_ ≠ gb185 ∧ k_ ≠ gb186)) (HO1_2.out) (fun k_ hk => ⟨hk.1.1.1, ⟨hk.1.1.2, ⟨hk.1.2, hk.2⟩⟩⟩))))) (Reps.c3 (show Kd.FK k24 _ _ (⟨a2_0, a2_1, l2_2⟩ : S24) [.int .i64 a2_0, .int .i64 a2_1, .slice A2_2 l2_2.length c2_2] from (k24_mkF _ _ (⟨a2_0, a2_1, l2_2⟩ : S24) (Kd.V_reads' (Kd.V_mono (ok' := (fun k_ => ((P1_2_ k_ ∨ P2_2_ k_) ∨ w.heap.size ≤ k_) ∧ k_ ≠ gb184 ∧ k_ ≠ gb185 ∧ k_ ≠ gb186)) (HO2_2.out) (fun k_ hk => ⟨hk.1.1.1, ⟨hk.1.1.2, ⟨hk.1.2, hk.2⟩⟩⟩))).2.1 (Kd.V_F (Kd.V_mono (ok' := (fun k_ => ((P1_2_ k_ ∨ P2_2_ k_) ∨ w.heap.size ≤ k_) ∧ k_ ≠ gb184 ∧ k_ ≠ gb185 ∧ k_ ≠ gb186)) (HO2_2.out) (fun k_ hk => ⟨hk.1.1.1, ⟨hk.1.1.2, ⟨hk.1.2, hk.2⟩⟩⟩))))) (Reps.none _ _)))); intro v188 w12 ho13 hb hg_ hnew_; clear hg_ hnew_; (first | rw [← Ny187.out] at ho13 | (simp only [Int.reduceToNat] at ho13; rw [← Ny187.out] at ho13)); replace HO1_2 := Aside0.mk (Kd.V_elder' (by (with_reducible repeat (first | apply Kd.V_alloc | apply Kd.V_drewN | apply Kd.V_drew)); exact HO1_2.out) (Kd.N_base ho13) hb); replace HO2_2 := Aside0.mk (Kd.V_elder' (by (with_reducible repeat (first | apply Kd.V_alloc | apply Kd.V_drewN | apply Kd.V_drew)); exact HO2_2.out) (Kd.N_base ho13) hb); have HO189 := Aside0.mk (Kd.N_lower ho13 (below_size (by repeat (first | (with_reducible first | exact HB.out | apply below_alloc | apply pw_below_drewN | apply below_drew1 | refine below_set ?_ GE184.out | refine below_set ?_ GE185.out | refine below_set ?_ GE186.out) | exact HB.out)))); replace BK184 := Aside0.mk (blk_below (g := gb184) (o := .cells #[.int .i64 a1_0, .int .i64 a1_1, .slice A1_2 l1_2.length c1_2] 24 (0, 0)) (by (with_reducible repeat (first | refine blk_drewN ?_ _ | refine blk_drew ?_ | refine blk_alloc ?_ _)); exact BK184.out) hb); replace BK185 := Aside0.mk (blk_below (g := gb185) (o := .cells #[.int .i64 a2_0, .int .i64 a2_1, .slice A2_2 l2_2.length c2_2] 24 (0, 0)) (by (with_reducible repeat (first | refine blk_drewN ?_ _ | refine blk_drew ?_ | refine blk_alloc ?_ _)); exact BK185.out) hb); replace BK186 := Aside0.mk (blk_below (g := gb186) (o := .cells #[.int .i64 0, .int .i64 0, .slice none 0 0] 24 (0, 0)) (by (with_reducible repeat (first | refine blk_drewN ?_ _ | refine blk_drew ?_ | refine blk_alloc ?_ _)); exact BK186.out) hb); replace HB := Aside0.mk (below_step (by repeat (first | (with_reducible first | exact HB.out | apply below_alloc | apply pw_below_drewN | apply below_drew1 | refine below_set ?_ GE184.out | refine below_set ?_ GE185.out | refine below_set ?_ GE186.out) | exact HB.out)) hb); clear hb ho13; obtain ⟨Ao14, co14, eo14⟩ := Kd.N_slice HO189.out; subst eo14; have hcz15_0 : w12.cell? ⟨gb186, 0, none⟩ = some (.int .i64 0) := (blk_cell BK186.out 0).trans rfl; have hcz15_1 : w12.cell? ⟨gb186, 1, none⟩ = some (.int .i64 0) := (blk_cell BK186.out 1).trans rfl; have hcz15_2 : w12.cell? ⟨gb186, 2, none⟩ = some (.slice none 0 0) := (blk_cell BK186.out 2).trans rfl; have hfz15_0 := blk_frozen BK186.out 0; have hfz15_1 := blk_frozen BK186.out 1; have hfz15_2 := blk_frozen BK186.out 2))
 refine bodyPost_ret (results_cell_row rfl _ _ gb186 24 #[.int .i64 a0, .int .i64 0, .slice Ao14 y187.length co14] (0, 0) _ rfl (by (with_reducible repeat (first | refine blk_drewN ?_ _ | refine blk_drew ?_ | refine blk_alloc ?_ _)); refine blk_put (cs := #[.int .i64 a0, .int .i64 0, .slice none 0 0]) ?_ 2 _ rfl; (with_reducible repeat (first | refine blk_drewN ?_ _ | refine blk_drew ?_ | refine blk_alloc ?_ _)); refine blk_put (cs := #[.int .i64 a0, .int .i64 0, .slice none 0 0]) ?_ 1 _ rfl; (with_reducible repeat (first | refine blk_drewN ?_ _ | refine blk_drew ?_ | refine blk_alloc ?_ _)); refine blk_put (cs := #[.int .i64 0, .int .i64 0, .slice none 0 0]) ?_ 0 _ rfl; (with_reducible repeat (first | refine blk_drewN ?_ _ | refine blk_drew ?_ | refine blk_alloc ?_ _)); exact BK186.out) Try.underlying24 rfl (by kernel_rfl)) rfl ?_
 exact ⟨_, by first | rfl | (simp [errW_none, errW_some] <;> rfl) | (simp [*, errW_none, errW_some] <;> rfl), by (with_reducible repeat (first | apply Kd.N_alloc | apply Kd.N_drewN | apply Kd.N_drew)); exact Kd.N_mono (Kd.N_far (p := ⟨gb186, 2, none⟩) (Kd.N_far (p := ⟨gb186, 1, none⟩) (Kd.N_far (p := ⟨gb186, 0, none⟩) (Kd.N_mono HO189.out (fun k_ hk => (⟨hk, hk.2.2.2⟩ : _ ∧ k_ ≠ gb186))) (fun _ hk => hk.2) (.int .i64 a0)) (fun _ hk => hk.2) (.int .i64 0)) (fun _ hk => hk.2) (.slice Ao14 y187.length co14)) (fun _ hk => hk.1.1), by repeat (first | (with_reducible first | exact HB.out | apply below_alloc | apply pw_below_drewN | apply below_drew1 | refine below_set ?_ GE184.out | refine below_set ?_ GE185.out | refine below_set ?_ GE186.out) | exact HB.out)⟩
set_option maxHeartbeats 8000000 in
set_option maxRecDepth 100000 in
theorem formelaw14_one.calls (a0 : Int) (a1 : Int) (a2_0 : Int) (a2_1 : Int) (P2_2_ : Nat → Prop) (A2_2 : Option Addr) (c2_2 : Nat) (l2_2 : List (S24)) (r1 : Int) (r2 : Int) (r3 : List (S24)) (w : World) (hs2_2 : Kd.V k24 24 w w.heap.size (fun k_ => P2_2_ k_) (.slice A2_2 l2_2.length c2_2) l2_2) (h : formelaw14_one.f a0 a1 a2_0 a2_1 l2_2 = some (r1, r2, r3)) :
  Calls Try.prog 23 #[.int .i64 a0, .int .i64 a1, .agg #[.int .i64 a2_0, .int .i64 a2_1, .slice A2_2 l2_2.length c2_2]] w fun e w' => ∃ v2_ : Value, e = .returned (.agg #[.int .i64 r1, .int .i64 r2, v2_]) ∧ Kd.N k24 24 w' w.heap.size (fun k_ => (P2_2_ k_ ∨ w.heap.size ≤ k_)) v2_ r3 ∧ Below w.heap.size w w' := by
 have hu24 := Try.underlying24
 have HO2_2 := Aside0.mk (show Kd.V k24 24 w w.heap.size (fun k_ => (P2_2_ k_ ∨ w.heap.size ≤ k_)) (.slice A2_2 l2_2.length c2_2) l2_2 from Kd.V_mono hs2_2 (fun k_ hk => .inl hk))
 have HB := Aside0.mk (Below.refl w.heap.size w)
 have H : (some (a0, a1, (([(⟨a2_0, a2_1, l2_2⟩ : S24)] : List (S24))))) = some (r1, r2, r3) := h
 clear h
 obtain ⟨y192, hy192⟩ : ∃ y_ : List (S24), y_ = (([(⟨a2_0, a2_1, l2_2⟩ : S24)] : List (S24))) := ⟨_, rfl⟩
 replace H : (some (a0, a1, y192)) = some (r1, r2, r3) := by first | (rw [hy192]; with_reducible exact H) | (have H2_ := (Option.bind_some _ _).symm.trans H; rw [hy192]; with_reducible exact H2_) | (have H2_ := (Option.bind_some _ _).symm.trans H; with_reducible exact H2_) | with_reducible exact H | (rw [hy192]; exact H) | exact H
 have Ny192 := Aside0.mk hy192
 clear hy192
 simp only [Option.some.injEq, Prod.mk.injEq] at H
 obtain ⟨rfl, rfl, rfl⟩ := H
 go_enter Try.func23, Try.ntmps23
 go_wp2_with (first | ((with_reducible refine gate_dst (N := 5) rfl ?_); refine box_event ?hg (N := 5) ?hd (cs := #[.int .i64 a2_0, .int .i64 a2_1, .slice A2_2 l2_2.length c2_2]) (t := 24) ?hr ?_; (case hd => rfl); (case hg => rfl); (case hr => first | (go_simp; done) | (go_simp; rfl)); intro gb190 hg w4 hbox hb; replace HO2_2 := Aside0.mk (Kd.V_below (Kd.V_elderB (by (with_reducible repeat (first | apply Kd.V_alloc | apply Kd.V_drewN | apply Kd.V_drew)); exact HO2_2.out) gb190 (Nat.le_of_eq hg.symm)) hb); have BK190 := Aside0.mk (hbox); have GW190 := Aside0.mk ((by rw [hg]; exact (below_size (by repeat (first | (with_reducible first | exact HB.out | apply below_alloc | apply pw_below_drewN | apply below_drew1) | exact HB.out))) : w.heap.size ≤ gb190)); have GE190 := Aside0.mk ((by rw [hg]; exact (below_size (by repeat (first | (with_reducible first | exact HB.out | apply below_alloc | apply pw_below_drewN | apply below_drew1) | exact HB.out))) : w.heap.size ≤ gb190)); replace HB := Aside0.mk (below_step (by repeat (first | (with_reducible first | exact HB.out | apply below_alloc | apply pw_below_drewN | apply below_drew1) | exact HB.out)) hb); clear hb hbox hg) | ((with_reducible refine gate_dst (N := 6) rfl ?_); refine box_event ?hg (N := 6) ?hd (cs := #[.int .i64 0, .int .i64 0, .slice none 0 0]) (t := 24) ?hr ?_; (case hd => rfl); (case hg => rfl); (case hr => first | (go_simp; done) | (go_simp; rfl)); intro gb191 hg w5 hbox hb; replace HO2_2 := Aside0.mk (Kd.V_below (Kd.V_elderB (by (with_reducible repeat (first | apply Kd.V_alloc | apply Kd.V_drewN | apply Kd.V_drew)); exact HO2_2.out) gb191 (Nat.le_of_eq hg.symm)) hb); have BK191 := Aside0.mk (hbox); have GW191 := Aside0.mk ((by rw [hg]; exact (below_size (by repeat (first | (with_reducible first | exact HB.out | apply below_alloc | apply pw_below_drewN | apply below_drew1 | refine below_set ?_ GE190.out) | exact HB.out))) : w.heap.size ≤ gb191)); have GE191 := Aside0.mk ((by rw [hg]; exact (below_size (by repeat (first | (with_reducible first | exact HB.out | apply below_alloc | apply pw_below_drewN | apply below_drew1 | refine below_set ?_ GE190.out) | exact HB.out))) : w.heap.size ≤ gb191)); replace HB := Aside0.mk (below_step (by repeat (first | (with_reducible first | exact HB.out | apply below_alloc | apply pw_below_drewN | apply below_drew1 | refine below_set ?_ GE190.out) | exact HB.out)) hb); have NB190_191 := Aside0.mk ((by rw [hg]; exact Nat.ne_of_lt (blk_lt (g := gb190) (o := .cells #[.int .i64 a2_0, .int .i64 a2_1, .slice A2_2 l2_2.length c2_2] 24 (0, 0)) (by (with_reducible repeat (first | refine blk_drewN ?_ _ | refine blk_drew ?_ | refine blk_alloc ?_ _)); exact BK190.out)) : gb190 ≠ gb191)); have NB191_190 := Aside0.mk ((by rw [hg]; exact Nat.ne_of_gt (blk_lt (g := gb190) (o := .cells #[.int .i64 a2_0, .int .i64 a2_1, .slice A2_2 l2_2.length c2_2] 24 (0, 0)) (by (with_reducible repeat (first | refine blk_drewN ?_ _ | refine blk_drew ?_ | refine blk_alloc ?_ _)); exact BK190.out)) : gb191 ≠ gb190)); replace BK190 := Aside0.mk (blk_below (g := gb190) (o := .cells #[.int .i64 a2_0, .int .i64 a2_1, .slice A2_2 l2_2.length c2_2] 24 (0, 0)) (by (with_reducible repeat (first | refine blk_drewN ?_ _ | refine blk_drew ?_ | refine blk_alloc ?_ _)); exact BK190.out) hb); clear hb hbox hg; have hnb6 := NB190_191.out; have hnc6 := NB191_190.out; have hcz7_0 : w5.cell? ⟨gb190, 0, none⟩ = some (.int .i64 a2_0) := (blk_cell BK190.out 0).trans rfl; have hcz7_1 : w5.cell? ⟨gb190, 1, none⟩ = some (.int .i64 a2_1) := (blk_cell BK190.out 1).trans rfl; have hcz7_2 : w5.cell? ⟨gb190, 2, none⟩ = some (.slice A2_2 l2_2.length c2_2) := (blk_cell BK190.out 2).trans rfl; have hfz7_0 := blk_frozen BK190.out 0; have hfz7_1 := blk_frozen BK190.out 1; have hfz7_2 := blk_frozen BK190.out 2) | ((with_reducible refine gate_dst (N := 10) rfl ?_); refine Kd.N_lit k24 _ 24 ?hg (N' := 10) ?hd (xs := ([(⟨a2_0, a2_1, l2_2⟩ : S24)] : List (S24))) (inner := [.int .i64 a2_0, .int .i64 a2_1, .slice A2_2 l2_2.length c2_2]) (ok := (fun k_ => (P2_2_ k_ ∨ w.heap.size ≤ k_) ∧ k_ ≠ gb190 ∧ k_ ≠ gb191)) (okp := (fun k_ => (P2_2_ k_ ∨ w.heap.size ≤ k_) ∧ k_ ≠ gb190 ∧ k_ ≠ gb191)) ?hr ?hp (fun _ hk => hk) ((show ∀ k_, w5.heap.size ≤ k_ → (fun k_ => (P2_2_ k_ ∨ w.heap.size ≤ k_) ∧ k_ ≠ gb190 ∧ k_ ≠ gb191) k_ from fun k_ hk => ⟨(.inr (Nat.le_trans (below_size (by repeat (first | (with_reducible first | exact HB.out | apply below_alloc | apply pw_below_drewN | apply below_drew1 | refine below_set ?_ GE190.out | refine below_set ?_ GE191.out) | exact HB.out))) hk)), Kd.freshB (g := gb190) (o := .cells #[.int .i64 a2_0, .int .i64 a2_1, .slice A2_2 l2_2.length c2_2] 24 (0, 0)) (by (with_reducible repeat (first | refine blk_drewN ?_ _ | refine blk_drew ?_ | refine blk_alloc ?_ _)); exact BK190.out) k_ hk, Kd.freshB (g := gb191) (o := .cells #[.int .i64 0, .int .i64 0, .slice none 0 0] 24 (0, 0)) (by (with_reducible repeat (first | refine blk_drewN ?_ _ | refine blk_drew ?_ | refine blk_alloc ?_ _)); exact BK191.out) k_ hk⟩) _ (Nat.le_refl _)) (Below.refl _ _) (Nat.le_refl _) (by simp) ?_; (case hd => rfl); (case hg => rfl); (case hr => first | (go_simp; done) | (go_simp; rfl)); (case hp => exact (Reps.c3 (show Kd.FK k24 _ _ (⟨a2_0, a2_1, l2_2⟩ : S24) [.int .i64 a2_0, .int .i64 a2_1, .slice A2_2 l2_2.length c2_2] from (k24_mkF _ _ (⟨a2_0, a2_1, l2_2⟩ : S24) (Kd.V_reads' (Kd.V_mono (ok' := (fun k_ => (P2_2_ k_ ∨ w.heap.size ≤ k_) ∧ k_ ≠ gb190 ∧ k_ ≠ gb191)) (HO2_2.out) (fun k_ hk => ⟨hk.1.1, ⟨hk.1.2, hk.2⟩⟩))).2.1 (Kd.V_F (Kd.V_mono (ok' := (fun k_ => (P2_2_ k_ ∨ w.heap.size ≤ k_) ∧ k_ ≠ gb190 ∧ k_ ≠ gb191)) (HO2_2.out) (fun k_ hk => ⟨hk.1.1, ⟨hk.1.2, hk.2⟩⟩))))) (Reps.none _ _))); intro v193 w8 ho9 hb hg_ hnew_; clear hg_ hnew_; (first | rw [← Ny192.out] at ho9 | (simp only [Int.reduceToNat] at ho9; rw [← Ny192.out] at ho9)); replace HO2_2 := Aside0.mk (Kd.V_elder' (by (with_reducible repeat (first | apply Kd.V_alloc | apply Kd.V_drewN | apply Kd.V_drew)); exact HO2_2.out) (Kd.N_base ho9) hb); have HO194 := Aside0.mk (Kd.N_lower ho9 (below_size (by repeat (first | (with_reducible first | exact HB.out | apply below_alloc | apply pw_below_drewN | apply below_drew1 | refine below_set ?_ GE190.out | refine below_set ?_ GE191.out) | exact HB.out)))); replace BK190 := Aside0.mk (blk_below (g := gb190) (o := .cells #[.int .i64 a2_0, .int .i64 a2_1, .slice A2_2 l2_2.length c2_2] 24 (0, 0)) (by (with_reducible repeat (first | refine blk_drewN ?_ _ | refine blk_drew ?_ | refine blk_alloc ?_ _)); exact BK190.out) hb); replace BK191 := Aside0.mk (blk_below (g := gb191) (o := .cells #[.int .i64 0, .int .i64 0, .slice none 0 0] 24 (0, 0)) (by (with_reducible repeat (first | refine blk_drewN ?_ _ | refine blk_drew ?_ | refine blk_alloc ?_ _)); exact BK191.out) hb); replace HB := Aside0.mk (below_step (by repeat (first | (with_reducible first | exact HB.out | apply below_alloc | apply pw_below_drewN | apply below_drew1 | refine below_set ?_ GE190.out | refine below_set ?_ GE191.out) | exact HB.out)) hb); clear hb ho9; obtain ⟨Ao10, co10, eo10⟩ := Kd.N_slice HO194.out; subst eo10; have hcz11_0 : w8.cell? ⟨gb191, 0, none⟩ = some (.int .i64 0) := (blk_cell BK191.out 0).trans rfl; have hcz11_1 : w8.cell? ⟨gb191, 1, none⟩ = some (.int .i64 0) := (blk_cell BK191.out 1).trans rfl; have hcz11_2 : w8.cell? ⟨gb191, 2, none⟩ = some (.slice none 0 0) := (blk_cell BK191.out 2).trans rfl; have hfz11_0 := blk_frozen BK191.out 0; have hfz11_1 := blk_frozen BK191.out 1; have hfz11_2 := blk_frozen BK191.out 2))
 refine bodyPost_ret (results_cell_row rfl _ _ gb191 24 #[.int .i64 a0, .int .i64 a1, .slice Ao10 y192.length co10] (0, 0) _ rfl (by (with_reducible repeat (first | refine blk_drewN ?_ _ | refine blk_drew ?_ | refine blk_alloc ?_ _)); refine blk_put (cs := #[.int .i64 a0, .int .i64 a1, .slice none 0 0]) ?_ 2 _ rfl; (with_reducible repeat (first | refine blk_drewN ?_ _ | refine blk_drew ?_ | refine blk_alloc ?_ _)); refine blk_put (cs := #[.int .i64 a0, .int .i64 0, .slice none 0 0]) ?_ 1 _ rfl; (with_reducible repeat (first | refine blk_drewN ?_ _ | refine blk_drew ?_ | refine blk_alloc ?_ _)); refine blk_put (cs := #[.int .i64 0, .int .i64 0, .slice none 0 0]) ?_ 0 _ rfl; (with_reducible repeat (first | refine blk_drewN ?_ _ | refine blk_drew ?_ | refine blk_alloc ?_ _)); exact BK191.out) Try.underlying24 rfl (by kernel_rfl)) rfl ?_
 exact ⟨_, by first | rfl | (simp [errW_none, errW_some] <;> rfl) | (simp [*, errW_none, errW_some] <;> rfl), by (with_reducible repeat (first | apply Kd.N_alloc | apply Kd.N_drewN | apply Kd.N_drew)); exact Kd.N_mono (Kd.N_far (p := ⟨gb191, 2, none⟩) (Kd.N_far (p := ⟨gb191, 1, none⟩) (Kd.N_far (p := ⟨gb191, 0, none⟩) (Kd.N_mono HO194.out (fun k_ hk => (⟨hk, hk.2.2⟩ : _ ∧ k_ ≠ gb191))) (fun _ hk => hk.2) (.int .i64 a0)) (fun _ hk => hk.2) (.int .i64 a1)) (fun _ hk => hk.2) (.slice Ao10 y192.length co10)) (fun _ hk => hk.1.1), by repeat (first | (with_reducible first | exact HB.out | apply below_alloc | apply pw_below_drewN | apply below_drew1 | refine below_set ?_ GE190.out | refine below_set ?_ GE191.out) | exact HB.out)⟩
end
section
open Go.Proofs.YtdigjjncoeaiiaaGlib
theorem evalX {e : S24} {width scale x0 x1 x2 x3 x4 x5 x6 x7 a b : Int} (h : evalP e width scale [x0, x1, x2, x3, x4, x5, x6, x7] = (a, b)) (A : Option Addr) (c : Nat) (w : World) (hr : Kd.C k24 w A e.f2.length e.f2) (hc : e.f2.length ≤ c) :
  Calls Try.prog 11 #[.agg #[.int .i64 e.f0, .int .i64 e.f1, .slice A e.f2.length c], .int .i64 width, .int .i64 scale, .agg #[.int .i64 x0, .int .i64 x1, .int .i64 x2, .int .i64 x3, .int .i64 x4, .int .i64 x5, .int .i64 x6, .int .i64 x7]] w fun r w' =>
   r = .returned (.tuple #[.int .i64 a, .int .i64 b]) ∧ Below w.heap.size w w' := by
 have h2 := eval2_calls e width scale x0 x1 x2 x3 x4 x5 x6 x7 A c w hr hc
 rw [h] at h2
 exact h2
set_option maxHeartbeats 8000000 in
set_option maxRecDepth 100000 in
theorem head_calls (w : World) : Calls Try.prog 10 #[] w fun e w' => e = .returned (.bool true) ∧ Below w.heap.size w w' := by
 have E1 := Aside0.mk (fun W => (show Calls Try.prog 11 #[.agg #[.int .i64 2, .int .i64 33, .slice none 0 0], .int .i64 250, .int .i64 150, .agg #[.int .i64 0, .int .i64 31, .int .i64 0, .int .i64 0, .int .i64 0, .int .i64 0, .int .i64 0, .int .i64 0]] W _ from evalX ex_1 none 0 W (Kd.C_nil _ _) (Nat.le_refl _)))
 have E2 := Aside0.mk (fun W => (show Calls Try.prog 11 #[.agg #[.int .i64 3, .int .i64 5, .slice none 0 0], .int .i64 250, .int .i64 150, .agg #[.int .i64 0, .int .i64 31, .int .i64 0, .int .i64 0, .int .i64 0, .int .i64 0, .int .i64 0, .int .i64 0]] W _ from evalX ex_2 none 0 W (Kd.C_nil _ _) (Nat.le_refl _)))
 have E3 := Aside0.mk (fun W => (show Calls Try.prog 11 #[.agg #[.int .i64 3, .int .i64 (-5), .slice none 0 0], .int .i64 250, .int .i64 150, .agg #[.int .i64 0, .int .i64 31, .int .i64 0, .int .i64 0, .int .i64 0, .int .i64 0, .int .i64 0, .int .i64 0]] W _ from evalX ex_3 none 0 W (Kd.C_nil _ _) (Nat.le_refl _)))
 have E4 := Aside0.mk (fun A c W h hc => (show Calls Try.prog 11 #[.agg #[.int .i64 8, .int .i64 2, .slice A 1 c], .int .i64 250, .int .i64 150, .agg #[.int .i64 0, .int .i64 31, .int .i64 0, .int .i64 0, .int .i64 0, .int .i64 0, .int .i64 0, .int .i64 0]] W _ from evalX ex_4 A c W h hc))
 have E5 := Aside0.mk (fun A c W h hc => (show Calls Try.prog 11 #[.agg #[.int .i64 8, .int .i64 2, .slice A 1 c], .int .i64 250, .int .i64 49, .agg #[.int .i64 0, .int .i64 31, .int .i64 0, .int .i64 0, .int .i64 0, .int .i64 0, .int .i64 0, .int .i64 0]] W _ from evalX ex_5 A c W h hc))
 have TW := Aside0.mk (fun W => (show Calls Try.prog 22 #[.int .i64 6, .agg #[.int .i64 2, .int .i64 100, .slice none 0 0], .agg #[.int .i64 4, .int .i64 2, .slice none 0 0]] W _ from formelaw14_two.calls 6 2 100 (fun _ => False) none 0 [] 4 2 (fun _ => False) none 0 [] 6 0 [⟨2, 100, []⟩, ⟨4, 2, []⟩] W (Kd.V_nil _ _ _ _ _) (Kd.V_nil _ _ _ _ _) rfl))
 have ON := Aside0.mk (fun A c P W h => (show Calls Try.prog 23 #[.int .i64 8, .int .i64 2, .agg #[.int .i64 6, .int .i64 0, .slice A 2 c]] W _ from formelaw14_one.calls 8 2 6 0 P A c [⟨2, 100, []⟩, ⟨4, 2, []⟩] 8 2 lessE.f2 W h rfl))
 have US := Aside0.mk (fun A c W h hc => (show Calls Try.prog 15 #[.agg #[.int .i64 8, .int .i64 2, .slice A 1 c]] W _ from value_Uses.calls 8 2 A c lessE.f2 [2] 0 W h hc (congrArg some ex_uses)))
 have CU := Aside0.mk (fun A c W h hc => (show Calls Try.prog 19 #[.agg #[.int .i64 8, .int .i64 2, .slice A 1 c], .agg #[.int .i64 250, .int .i64 253], .int .i64 150, .agg #[.int .i64 0, .int .i64 31, .int .i64 0, .int .i64 0, .int .i64 0, .int .i64 0, .int .i64 0, .int .i64 0]] W _ from value_Curve.calls 20 8 2 A c lessE.f2 250 253 150 0 31 0 0 0 0 0 0 partL 0 W h hc ex_curve))
 have SM := Aside0.mk (fun A c B d W h hc h2 hc2 => (show Calls Try.prog 21 #[.slice A 1 c, .slice B 1 d] W _ from formeref02_Same.calls 9 A c partL B d partL true W h hc h2 hc2 ex_same))
 have VA := Aside0.mk (fun W => (show Calls Try.prog 13 #[.agg #[.int .i64 0, .int .i64 0, .slice none 0 0]] W _ from valid_calls ⟨0, 0, []⟩ none 0 W (Kd.C_nil _ _) (Nat.le_refl _)))
 rw [ex_bad] at VA
 have G0 := Aside0.mk (blk_new w (.cells #[.int .i64 0, .int .i64 31, .int .i64 0, .int .i64 0, .int .i64 0, .int .i64 0, .int .i64 0, .int .i64 0] 25))
 have HB0 := Aside0.mk (below_alloc (Below.refl w.heap.size w) (.cells #[.int .i64 0, .int .i64 31, .int .i64 0, .int .i64 0, .int .i64 0, .int .i64 0, .int .i64 0, .int .i64 0] 25))
 go_enter Try.func10, Try.ntmps10
 go_wp2_with fail
 generalize w.alloc (.cells #[.int .i64 0, .int .i64 31, .int .i64 0, .int .i64 0, .int .i64 0, .int .i64 0, .int .i64 0, .int .i64 0] 25) = W0 at *
 with_reducible refine (E1.out _).mono ?_
 rintro r w1 ⟨rfl, hb⟩
 have G1 := Aside0.mk (blk_below G0.out hb)
 have HB1 := Aside0.mk (below_step HB0.out hb)
 clear hb G0 HB0 E1
 have v0 := (blk_cell G1.out 0).trans rfl
 have v1 := (blk_cell G1.out 1).trans rfl
 have v2 := (blk_cell G1.out 2).trans rfl
 have v3 := (blk_cell G1.out 3).trans rfl
 have v4 := (blk_cell G1.out 4).trans rfl
 have v5 := (blk_cell G1.out 5).trans rfl
 have v6 := (blk_cell G1.out 6).trans rfl
 have v7 := (blk_cell G1.out 7).trans rfl
 go_wp2_with fail
 with_reducible refine (E2.out _).mono ?_
 rintro r w2 ⟨rfl, hb⟩
 have G2 := Aside0.mk (blk_below G1.out hb)
 have HB2 := Aside0.mk (below_step HB1.out hb)
 clear hb G1 HB1 E2 v0 v1 v2 v3 v4 v5 v6 v7
 have v0 := (blk_cell G2.out 0).trans rfl
 have v1 := (blk_cell G2.out 1).trans rfl
 have v2 := (blk_cell G2.out 2).trans rfl
 have v3 := (blk_cell G2.out 3).trans rfl
 have v4 := (blk_cell G2.out 4).trans rfl
 have v5 := (blk_cell G2.out 5).trans rfl
 have v6 := (blk_cell G2.out 6).trans rfl
 have v7 := (blk_cell G2.out 7).trans rfl
 go_wp2_with fail
 with_reducible refine (E3.out _).mono ?_
 rintro r w3 ⟨rfl, hb⟩
 have G3 := Aside0.mk (blk_below G2.out hb)
 have HB3 := Aside0.mk (below_step HB2.out hb)
 clear hb G2 HB2 E3 v0 v1 v2 v3 v4 v5 v6 v7
 go_wp2_with fail
 with_reducible refine (TW.out _).mono ?_
 rintro r w4 ⟨v2, rfl, hN, hb⟩
 have HV4 := Aside0.mk (Kd.N_V (base' := w4.heap.size) hN)
 have G4 := Aside0.mk (blk_below G3.out hb)
 have HB4 := Aside0.mk (below_step HB3.out hb)
 clear hb hN G3 HB3 TW
 obtain ⟨A2, c2, hv⟩ := Kd.V_slice HV4.out
 have hv : v2 = .slice A2 2 c2 := hv
 subst hv
 go_wp2_with fail
 with_reducible refine (ON.out _ _ _ _ HV4.out).mono ?_
 rintro r w5 ⟨v5, rfl, hN, hb⟩
 have HV5 := Aside0.mk (Kd.N_V (base' := w5.heap.size) hN)
 have G5 := Aside0.mk (blk_below G4.out hb)
 have HB5 := Aside0.mk (below_step HB4.out hb)
 clear hb hN G4 HB4 ON HV4
 obtain ⟨A5, c5, hv⟩ := Kd.V_slice HV5.out
 have hv : v5 = .slice A5 1 c5 := hv
 subst hv
 have HC5 := Aside0.mk (Kd.V_reads' HV5.out)
 clear HV5
 have K6 := Aside0.mk (blk_new w5 (.cells #[.int .i64 8, .int .i64 2, .slice A5 1 c5] 24))
 have G6 := Aside0.mk (blk_alloc G5.out (.cells #[.int .i64 8, .int .i64 2, .slice A5 1 c5] 24))
 have HB6 := Aside0.mk (below_alloc HB5.out (.cells #[.int .i64 8, .int .i64 2, .slice A5 1 c5] 24))
 have HC6 := Aside0.mk (Kd.C_alloc HC5.out.2.2 (.cells #[.int .i64 8, .int .i64 2, .slice A5 1 c5] 24))
 have HL5 := HC5.out.2.1
 clear G5 HB5 HC5
 have v0 := (blk_cell G6.out 0).trans rfl
 have v1 := (blk_cell G6.out 1).trans rfl
 have v2 := (blk_cell G6.out 2).trans rfl
 have v3 := (blk_cell G6.out 3).trans rfl
 have v4 := (blk_cell G6.out 4).trans rfl
 have v5 := (blk_cell G6.out 5).trans rfl
 have v6 := (blk_cell G6.out 6).trans rfl
 have v7 := (blk_cell G6.out 7).trans rfl
 have k0 := (blk_cell K6.out 0).trans rfl
 have k1 := (blk_cell K6.out 1).trans rfl
 have k2 := (blk_cell K6.out 2).trans rfl
 go_wp2_with fail
 with_reducible refine (E4.out _ _ _ HC6.out HL5).mono ?_
 rintro r w6 ⟨rfl, hb⟩
 have G7 := Aside0.mk (blk_below G6.out hb)
 have K7 := Aside0.mk (blk_below K6.out hb)
 have HB7 := Aside0.mk (below_step HB6.out hb)
 have HC7 := Aside0.mk (Kd.C_below HC6.out hb)
 clear hb G6 K6 HB6 HC6 E4 v0 v1 v2 v3 v4 v5 v6 v7 k0 k1 k2
 have k0 := (blk_cell K7.out 0).trans rfl
 have k1 := (blk_cell K7.out 1).trans rfl
 have k2 := (blk_cell K7.out 2).trans rfl
 go_wp2_with fail
 with_reducible refine (US.out _ _ _ HC7.out HL5).mono ?_
 rintro r w7 ⟨v8, rfl, hR, hb⟩
 have G8 := Aside0.mk (blk_below G7.out hb)
 have K8 := Aside0.mk (blk_below K7.out hb)
 have HB8 := Aside0.mk (below_step HB7.out hb)
 have HC8 := Aside0.mk (Kd.C_below HC7.out hb)
 obtain ⟨A8, c8, hv⟩ := Kd.R_slice hR
 have hv : v8 = .slice A8 1 c8 := hv
 subst hv
 have HU8 := Aside0.mk (Kd.R_reads' hR).2.2
 clear hb hR G7 K7 HB7 HC7 US k0 k1 k2
 have k0 := (blk_cell K8.out 0).trans rfl
 have k1 := (blk_cell K8.out 1).trans rfl
 have k2 := (blk_cell K8.out 2).trans rfl
 have v0 := (blk_cell G8.out 0).trans rfl
 have v1 := (blk_cell G8.out 1).trans rfl
 have v2 := (blk_cell G8.out 2).trans rfl
 have v3 := (blk_cell G8.out 3).trans rfl
 have v4 := (blk_cell G8.out 4).trans rfl
 have v5 := (blk_cell G8.out 5).trans rfl
 have v6 := (blk_cell G8.out 6).trans rfl
 have v7 := (blk_cell G8.out 7).trans rfl
 go_wp2_with fail
 with_reducible refine (CU.out _ _ _ HC8.out HL5).mono ?_
 rintro r w8 ⟨v9, rfl, hR, hb⟩
 have G9 := Aside0.mk (blk_below G8.out hb)
 have K9 := Aside0.mk (blk_below K8.out hb)
 have HB9 := Aside0.mk (below_step HB8.out hb)
 have HC9 := Aside0.mk (Kd.C_below HC8.out hb)
 have HU9 := Aside0.mk (Kd.C_below HU8.out hb)
 obtain ⟨A9, c9, hv⟩ := Kd.R_slice hR
 have hv : v9 = .slice A9 1 c9 := hv
 subst hv
 have HP9 := Aside0.mk (Kd.R_reads' hR)
 clear hb hR G8 K8 HB8 HC8 HU8 CU v0 v1 v2 v3 v4 v5 v6 v7 k0 k1 k2
 have k0 := (blk_cell K9.out 0).trans rfl
 have k1 := (blk_cell K9.out 1).trans rfl
 have k2 := (blk_cell K9.out 2).trans rfl
 have v0 := (blk_cell G9.out 0).trans rfl
 have v1 := (blk_cell G9.out 1).trans rfl
 have v2 := (blk_cell G9.out 2).trans rfl
 have v3 := (blk_cell G9.out 3).trans rfl
 have v4 := (blk_cell G9.out 4).trans rfl
 have v5 := (blk_cell G9.out 5).trans rfl
 have v6 := (blk_cell G9.out 6).trans rfl
 have v7 := (blk_cell G9.out 7).trans rfl
 go_wp2_with fail
 with_reducible refine (E5.out _ _ _ HC9.out HL5).mono ?_
 rintro r w9 ⟨rfl, hb⟩
 have HB10 := Aside0.mk (below_step HB9.out hb)
 have HU10 := Aside0.mk (Kd.C_below HU9.out hb)
 have HP10 := Aside0.mk (Kd.C_below HP9.out.2.2 hb)
 have HL9 := HP9.out.2.1
 clear hb G9 K9 HB9 HC9 HU9 HP9 E5 v0 v1 v2 v3 v4 v5 v6 v7 k0 k1 k2
 obtain ⟨ad, rfl, hx⟩ := Kd.at_int HU10.out 0 (by decide) (by decide)
 rw [show ((0 : Int)).toNat = 0 from rfl, Addr.add_zero'] at hx
 have hx0 : w9.cell? ad = some (.int .i64 2) := hx
 clear hx
 go_wp2_with fail
 with_reducible refine (VA.out _).mono ?_
 rintro r w10 ⟨rfl, hb⟩
 have HB11 := Aside0.mk (below_step HB10.out hb)
 have HP11 := Aside0.mk (Kd.C_below HP10.out hb)
 clear hb HB10 HP10 HU10 VA
 go_wp2_with fail
 have HP12 := Aside0.mk (Kd.C_alloc HP11.out (.cells #[.int .i64 250, .int .i64 254, .int .i64 1, .int .i64 219, .int .i64 2] 57))
 have HB12 := Aside0.mk (below_alloc HB11.out (.cells #[.int .i64 250, .int .i64 254, .int .i64 1, .int .i64 219, .int .i64 2] 57))
 with_reducible refine (SM.out _ _ _ 1 _ HP12.out HL9 (C_blk57 (blk_new w10 (.cells #[.int .i64 250, .int .i64 254, .int .i64 1, .int .i64 219, .int .i64 2] 57))) (by decide)).mono ?_
 rintro r w11 ⟨rfl, hd⟩
 have HB13 := Aside0.mk (below_step HB12.out (Drawn0.below hd))
 clear hd HP12 HB12
 go_wp2
 go_ret
 exact ⟨rfl, HB13.out⟩
theorem formelaw14_head.calls (r : Bool) (w : World) (h : formelaw14_head.f = some r) : Calls Try.prog 10 #[] w fun e w' => e = .returned (.bool r) ∧ Below w.heap.size w w' := by
 obtain rfl := Option.some.inj h
 exact head_calls w
end
end Go.Proofs.Ytdigjjncoeaiiaa.PAll
