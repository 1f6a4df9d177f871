/- Printed by a program of this session (wip/gprint.py) over the translation, cut to what is named (wip/dcut.py). Not trusted: Lean checks it. -/
import Derived.Test.YtdigjjncoeaiiaaPAlld0
import Derived.Test.YtdigjjncoeaiiaaPAllw4
import Derived.Test.YtdigjjncoeaiiaaPAllw9
import Derived.Test.YtdigjjncoeaiiaaPAllw12
import Derived.Test.YtdigjjncoeaiiaaPAllw13
namespace Go.Proofs.Ytdigjjncoeaiiaa.PAll
open Go.RowKit Go.Proofs.YtdigjjncoeaiiaaW.PrintWords Go.Proofs.YtdigjjncoeaiiaaW.PrintLast Go.Proofs.YtdigjjncoeaiiaaW.PrintMore
attribute [local go_sem] max2_int min2_int max_two min_two max_three min_three max_four min_four -- for this text's walks alone
set_option linter.unusedVariables false
set_option linter.unusedSimpArgs false
open Go.Proofs.YtdigjjncoeaiiaaGlib
attribute [local go_sem] Oper.semAt_some
set_option maxHeartbeats 8000000 in
set_option maxRecDepth 100000 in
theorem fit_calls (A0 : Option Addr) (c0 : Nat) (l0 : List Int) (w : World) (hr0 : Kd.C (Kd.int .i64) w A0 l0.length l0) (hc0 : l0.length ≤ c0) :
    Calls Try.prog 100 #[.slice A0 l0.length c0] w fun e w' => e = .returned (.tuple #[.agg #[.int .i64 (fitP l0).1.f0, .int .i64 (fitP l0).1.f1, .int .i64 (fitP l0).1.f2], .bool (fitP l0).2.1, .int .i64 (fitP l0).2.2]) ∧ Below w.heap.size w w' := by
  have HR := Aside0.mk hr0
  have HB := Aside0.mk (below_alloc (below_alloc (Below.refl w.heap.size w) (.cells #[.slice A0 l0.length c0] 33)) (.cells #[.int .i64 0, .int .i64 0, .int .i64 0] 55))
  have N1 := Aside0.mk (blk_alloc (blk_new w (.cells #[.slice A0 l0.length c0] 33)) (.cells #[.int .i64 0, .int .i64 0, .int .i64 0] 55))
  have N2 := Aside0.mk (blk_new (w.alloc (.cells #[.slice A0 l0.length c0] 33)) (.cells #[.int .i64 0, .int .i64 0, .int .i64 0] 55))
  simp only [World.size_alloc] at N2
  have HR1 := Aside0.mk (Kd.C_below hr0 HB.out)
  clear hr0
  refine (callsIn_wide (n := 0)).1 (callsIn_of_wp_marks Try.func100 rfl trivial ?_ rfl)
  simp only [Try.ntmps100, List.size_toArray, List.length_cons, List.length_nil, Nat.reduceAdd, Nat.reduceSub, Array.replicate_succ, Array.replicate_zero, List.push_toArray, List.append_toArray, List.nil_append, List.cons_append]
  refine wpIn_wide.2 ?_
  by_cases hbig : l0.length > 4000
  · have HP := Aside0.mk (fit_big hbig)
    have d0 : decide ((4000 : Int) < (l0.length : Int)) = true := decide_eq_true (by omega)
    refine wp_seq ?_
    go_wp2
    refine wp_scope_straight ?_
    have b2 := blk_cell N2.out 0
    go_wp2
    refine ⟨_, results_ctt rfl _ _ (w.heap.size + 1) 55 #[.int .i64 0, .int .i64 0, .int .i64 0] (0, 0) _ rfl N2.out Try.underlying55 rfl (by kernel_rfl), ?_⟩
    rw [HP.out]
    exact ⟨rfl, HB.out⟩
  · have d0 : decide ((4000 : Int) < (l0.length : Int)) = false := decide_eq_false (by omega)
    refine wp_seq ?_
    go_wp2
    refine wp_scope_straight ?_
    have b1 := (blk_cell N1.out 0).trans rfl
    have b2 := blk_cell N2.out 0
    go_wp2
    go_loopw [19] (fun v wr => ∃ i : Nat, i ≤ l0.length ∧ v = .int .i64 i ∧ Aside0 (∀ j : Nat, j < i → coordB (rd l0 (j : Int)) = true) ∧ Aside0 (Drawn0 ((w.alloc (.cells #[.slice A0 l0.length c0] 33)).alloc (.cells #[.int .i64 0, .int .i64 0, .int .i64 0] 55)) wr)) (fun v _ => l0.length - (intOf v).toNat)
    case atStart => exact ⟨0, by omega, rfl, ⟨fun j h => absurd h (by omega)⟩, ⟨Drawn0.refl _⟩⟩
    case round =>
      obtain ⟨i, hi, rfl, HQ, HD⟩ := hrel
      obtain ⟨nd, rfl⟩ := HD.out
      by_cases hlt : i < l0.length
      · have d1 : decide ((i : Int) < (l0.length : Int)) = true := decide_eq_true (by omega)
        obtain ⟨ad, rfl, hx⟩ := Kd.at_int HR1.out (i : Int) (by omega) (by omega)
        rw [Int.toNat_natCast] at hx
        have p0 : (0 : Int) ≤ (i : Int) := by omega
        have CO := Aside0.mk (fun W => quot_isCoord.calls (rd l0 (i : Int)) _ W (isCoord_of _))
        have HWN := Aside0.mk (wrap_next (show i < 9223372036854775807 by have := Kd.C_max HR1.out; omega))
        cases hco : coordB (rd l0 (i : Int)) with
        | true =>
          rw [hco] at CO
          have HN := Aside0.mk (go_on HQ.out hco)
          clear hco
          go_wp2_with (go_at_call 87; with_reducible refine (CO.out _).mono ?_; rintro r w3 ⟨rfl, ⟨n2, rfl⟩⟩)
          go_roundw
          case rel => exact ⟨i + 1, by omega, congrArg (Value.int .i64) (by simp), HN, ⟨⟨⟨_, rfl⟩⟩⟩⟩
          case measure => simp [intOf]; omega
        | false =>
          rw [hco] at CO
          have HP := Aside0.mk (fit_bad hbig (.inl (all_false (by omega) (by omega) hco)))
          clear hco
          go_wp2_with (go_at_call 87; with_reducible refine (CO.out _).mono ?_; rintro r w3 ⟨rfl, ⟨n2, rfl⟩⟩)
          refine ⟨_, results_ctt rfl _ _ (w.heap.size + 1) 55 #[.int .i64 0, .int .i64 0, .int .i64 0] (0, 0) _ rfl (blk_set (blk_set (blk_set (blk_drewN N2.out _) 0 _) 1 _) 2 _) Try.underlying55 rfl (by kernel_rfl), ?_⟩
          rw [HP.out]
          exact ⟨rfl, below_set (below_set (below_set (pw_below_drewN HB.out _) (by omega)) (by omega)) (by omega)⟩
      · have d1 : decide ((i : Int) < (l0.length : Int)) = false := decide_eq_false (by omega)
        obtain rfl : i = l0.length := by omega
        by_cases hz : l0.length = 0
        · have d2 : (((l0.length : Int)) == 0) = true := by rw [hz]; rfl
          have HP := Aside0.mk (fit_bad hbig (.inr hz))
          clear hz
          go_wp2
          refine ⟨_, results_ctt rfl _ _ (w.heap.size + 1) 55 #[.int .i64 0, .int .i64 0, .int .i64 0] (0, 0) _ rfl (blk_set (blk_set (blk_set (blk_drewN N2.out _) 0 _) 1 _) 2 _) Try.underlying55 rfl (by kernel_rfl), ?_⟩
          rw [HP.out]
          exact ⟨rfl, below_set (below_set (below_set (pw_below_drewN HB.out _) (by omega)) (by omega)) (by omega)⟩
        · have d2 : (((l0.length : Int)) == 0) = false := beq_eq_false_iff_ne.mpr (by omega)
          have hall := all_true HQ.out
          go_wp2
          have HBo := Aside0.mk (below_alloc (below_alloc (pw_below_drewN HB.out nd) (.cells #[.func (.func 109) #[] #[]] 131)) (.cells #[.int .i64 0, .int .i64 0, .int .i64 0] 55))
          have HGV := Aside0.mk (blk_alloc (blk_alloc (blk_drewN N1.out nd) (.cells #[.func (.func 109) #[] #[]] 131)) (.cells #[.int .i64 0, .int .i64 0, .int .i64 0] 55))
          have HG2 := Aside0.mk (blk_alloc (blk_alloc (blk_drewN N2.out nd) (.cells #[.func (.func 109) #[] #[]] 131)) (.cells #[.int .i64 0, .int .i64 0, .int .i64 0] 55))
          have HGB := Aside0.mk (blk_alloc (blk_new (((w.alloc (.cells #[.slice A0 l0.length c0] 33)).alloc (.cells #[.int .i64 0, .int .i64 0, .int .i64 0] 55)).drewN nd) (.cells #[.func (.func 109) #[] #[]] 131)) (.cells #[.int .i64 0, .int .i64 0, .int .i64 0] 55))
          have HGX := Aside0.mk (blk_new ((((w.alloc (.cells #[.slice A0 l0.length c0] 33)).alloc (.cells #[.int .i64 0, .int .i64 0, .int .i64 0] 55)).drewN nd).alloc (.cells #[.func (.func 109) #[] #[]] 131)) (.cells #[.int .i64 0, .int .i64 0, .int .i64 0] 55))
          have e0 : ∀ n (W : World), (W.drewN n).heap.size = W.heap.size := fun _ _ => rfl
          simp only [World.size_alloc, e0] at HGB HGX
          clear e0
          have HRA := Aside0.mk (fun W (h : Below w.heap.size w W) => Kd.C_below HR.out h)
          clear HB N1 N2 HR1 HR HD HQ
          generalize hW : ((((w.alloc (.cells #[.slice A0 l0.length c0] 33)).alloc (.cells #[.int .i64 0, .int .i64 0, .int .i64 0] 55)).drewN nd).alloc (.cells #[.func (.func 109) #[] #[]] 131)).alloc (.cells #[.int .i64 0, .int .i64 0, .int .i64 0] 55) = W2 at *
          clear hW
          refine wp_label ?_
          have HFP := Aside0.mk (fit_good hbig hall (by omega))
          have HV := Aside0.mk (show ValsOk l0 from List.all_eq_true.1 hall)
          have hl4 : l0.length ≤ 4000 := by omega
          have hl1 : 1 ≤ l0.length := by omega
          clear hall d0 d1 d2 hbig hlt hz hi
          go_wp2
          refine (wpIn_wide (n := 0)).1 ?_
          refine wpIn_loop (fun a wr => ∃ (d : Int) (L : List Nat) (x32 x33 x34 x35 x36 x37 x38 x59 x60 x61 : Value), a = { tmps := #[Value.slice A0 l0.length c0, .pointer (some ⟨w.heap.size, 0, none⟩), .pointer (some ⟨w.heap.size + 1, 0, none⟩), u3, u4, undef, u6, .pointer (some ⟨w.heap.size + 1 + 1, 0, none⟩), .pointer (some ⟨w.heap.size + 1 + 1 + 1, 0, none⟩), .int .i64 d, undef, undef, undef, .slice A0 l0.length c0, .int .i64 (l0.length : Int), .bool false, undef, .slice A0 l0.length c0, .int .i64 (l0.length : Int), .int .i64 (l0.length : Int), .bool false, u21, u22, u23, u24, u25, u26, u27, .slice A0 l0.length c0, .int .i64 (l0.length : Int), .bool false, undef, x32, x33, x34, x35, x36, x37, x38, undef, undef, undef, undef, undef, undef, undef, undef, undef, undef, undef, undef, undef, undef, undef, undef, undef, undef, undef, undef, x59, x60, x61, undef, undef, undef, undef], defers := L.map fun D => { target := .collected D, args := #[] } } ∧ 1 ≤ d ∧ d ≤ 17 ∧ Aside0 (fitD l0 (17 - d).toNat d = fitD l0 16 1) ∧ Aside0 (FitI w A0 l0.length c0 wr.heap.size L z55 wr))
            (fun a _ => (17 - Go.RowKit.intOf (a.tmps.getD 9 undef)).toNat) ?h0 ?round
          case h0 => exact ⟨1, [], undef, undef, undef, undef, undef, undef, undef, undef, undef, undef, rfl, by omega, by omega, ⟨rfl⟩, ⟨⟨HBo.out, List.nodup_nil, (fun D h => by cases h), HGV.out, HG2.out, HGB.out, HGX.out⟩⟩⟩
          case round =>
            clear HBo HGV HG2 HGB HGX
            rintro a wr ⟨d, L, x32, x33, x34, x35, x36, x37, x38, x59, x60, x61, rfl, hd1, hd17, HE, HM⟩
            have hsz := HM.out.hb.size
            have c1 := (blk_cell HM.out.gv 0).trans rfl
            have m4 := (Array.getElem?_eq_some_iff.1 HM.out.gx).1
            by_cases hd : d ≤ 16
            · have q0 : decide (d ≤ 16) = true := decide_eq_true hd
              have m4 := (Array.getElem?_eq_some_iff.1 HM.out.gx).1
              gi_wp2
              refine ⟨trivial, rfl, (callsIn_wide.2 (candidates_calls _ _ _ _ _)).mono ?_⟩
              rintro e w3 ⟨rfl, hcap, hb, hsz3⟩
              have HM3 := Aside0.mk (HM.out.below hb)
              have HCAP := Aside0.mk hcap
              have hb3 := HM3.out.hb.size
              have m3 := (Array.getElem?_eq_some_iff.1 HM3.out.gx).1
              clear hcap hb c1 HM
              gi_wp2
              refine range_run (α := S55) (gf := 117) (lb := #[.pointer (some ⟨wr.heap.size, 0, none⟩), .pointer (some ⟨wr.heap.size + 1, 0, none⟩)]) ?hg enters117 (encs := encQ) (Px := fun _ x _ => coordB x.f0 = true ∧ x.f2 = d) (S := fun xs => xs = candL l0 d) (tb := 0) (te := 0) (base := w.heap.size) (bx := w.heap.size + 1 + 1 + 1) ?hbw ?hbx (fun _ => rfl) ?hseq (FitR w A0 l0.length c0 wr.heap.size L l0 d) ?hI ?hIl ?h0 ?hround ?hdone
              case hg => rfl
              case hbw => exact hb3
              case hbx => exact m3
              case hseq =>
                intro l J W hl hlW hs hJ hY hJ0
                exact cand1_calls HV.out hl1 hl4 hd1 hd hc0 (base := w.heap.size) (bx := w.heap.size + 1 + 1 + 1) hb3 (fun B hB => HRA.out B (HM3.out.hb.trans hB)) HCAP.out (by omega) (by omega) m3 l J W hl hlW hs hJ hY hJ0
              case hI => exact fun pre A B h hs => ⟨h.1, h.2.stp hs⟩
              case hIl => exact fun pre A B k h hk ho hg => ⟨h.1, h.2.grown (by omega) (by omega) hg⟩
              case h0 => exact ⟨(fun c h => by cases h), HM3.out⟩
              case hround =>
                rintro l pre x A ⟨hpre, hI⟩ ⟨hx, hxd⟩ hl
                obtain ⟨x0, x1, x2⟩ := x
                obtain rfl : x2 = d := hxd
                have HX := Aside0.mk (coordB_of hx)
                have HPRE := Aside0.mk (And.intro hpre hx)
                have HSH := Aside0.mk (step_shape l0 x2 hd1 pre hpre z55 (.inl rfl))
                clear hpre hx
                obtain ⟨bq, hbq⟩ : ∃ bq, pre.foldl (stepQ l0 x2) z55 = bq := ⟨_, rfl⟩
                rw [hbq] at HSH hI
                have HBQ := Aside0.mk hbq
                clear hbq
                have HI := Aside0.mk hI
                clear hI
                dsimp only [encQ]
                gi_wp2
                refine ⟨Stp.of_below (below_alloc (Below.refl _ _) _), ?_⟩
                rintro B' hg ob hob hoc
                have hnew := blk_new A (.cells #[.int .i64 x0, .int .i64 x1, .int .i64 x2] 55)
                have hne : A.heap.size ≠ l := fun e => by
                  subst e
                  rw [hnew] at hob
                  obtain rfl := Option.some.inj hob
                  cases hoc
                have HG := Aside0.mk (blk_grown hnew hg (fun e => hne (Option.some.inj e)))
                have HIB := Aside0.mk ((HI.out.below (below_alloc (Below.refl _ _) (.cells #[.int .i64 x0, .int .i64 x1, .int .i64 x2] 55))).grown (by omega) (by omega) hg)
                clear hnew hg hob hoc hne ob HI
                have g0 : B'.cell? ⟨A.heap.size, 0, none⟩ = some (.int .i64 x0) := (blk_cell HG.out 0).trans rfl
                have g1 : B'.cell? ⟨A.heap.size, 1, none⟩ = some (.int .i64 x1) := (blk_cell HG.out 1).trans rfl
                have g2 : B'.cell? ⟨A.heap.size, 2, none⟩ = some (.int .i64 x2) := (blk_cell HG.out 2).trans rfl
                have v0 : B'.cell? ⟨w.heap.size, 0, none⟩ = some (.slice A0 l0.length c0) := (blk_cell HIB.out.gv 0).trans rfl
                have FO := fitting_of (b := x1) HX.out ⟨hd1, hd⟩ HV.out hl4
                cases hfb : fitB x0 x2 l0 with
                | none =>
                  rw [hfb] at FO
                  have FC := Aside0.mk (quot_fitting.calls _ x0 x1 x2 A0 c0 l0 _ _ _ _ B' (HRA.out B' HIB.out.hb) hc0 FO)
                  have HST := Aside0.mk (show stepQ l0 x2 bq ⟨x0, x1, x2⟩ = bq by unfold stepQ; rw [hfb])
                  clear FO hfb
                  gi_wp2
                  refine ⟨trivial, rfl, (callsIn_wide.2 FC.out).mono ?_⟩
                  rintro e w5 ⟨rfl, hb5⟩
                  have HI5 := Aside0.mk (HIB.out.below hb5)
                  have HS5 := Aside0.mk (Stp.of_below (X := fun k => k = w.heap.size + 1 + 1 + 1) (t := 0) (base := w.heap.size) hb5)
                  clear hb5 FC
                  have HI6 := Aside0.mk (HI5.out.below (below_alloc (Below.refl _ _) (.cells #[.int .i64 0, .int .i64 0, .int .i64 0] 55)))
                  have HS6 := Aside0.mk (HS5.out.trans (Stp.of_below (below_alloc (Below.refl _ _) (.cells #[.int .i64 0, .int .i64 0, .int .i64 0] 55))))
                  gi_wp2
                  all_goals try exact (undef_bool ‹_›).elim
                  refine ⟨(fun f h => nomatch h), ?_⟩
                  gi_wp2
                  exact ⟨HS6.out, FitR.snoc HPRE.out.1 HPRE.out.2 HBQ.out HST.out HI6.out⟩
                | some lo =>
                  rw [hfb] at FO
                  have FC := Aside0.mk (quot_fitting.calls _ x0 x1 x2 A0 c0 l0 _ _ _ _ B' (HRA.out B' HIB.out.hb) hc0 FO)
                  have HST := Aside0.mk (show stepQ l0 x2 bq ⟨x0, x1, x2⟩ = if bq.f2 = 0 ∨ beforeB x0 bq.f0 = true then ⟨x0, lo, x2⟩ else bq by unfold stepQ; rw [hfb])
                  clear FO hfb
                  gi_wp2
                  refine ⟨trivial, rfl, (callsIn_wide.2 FC.out).mono ?_⟩
                  rintro e w5 ⟨rfl, hb5⟩
                  have HI5 := Aside0.mk (HIB.out.below hb5)
                  have HS5 := Aside0.mk (Stp.of_below (X := fun k => k = w.heap.size + 1 + 1 + 1) (t := 0) (base := w.heap.size) hb5)
                  clear hb5 FC
                  have HI6 := Aside0.mk (HI5.out.below (below_alloc (Below.refl _ _) (.cells #[.int .i64 x0, .int .i64 lo, .int .i64 x2] 55)))
                  have HS6 := Aside0.mk (HS5.out.trans (Stp.of_below (below_alloc (Below.refl _ _) (.cells #[.int .i64 x0, .int .i64 lo, .int .i64 x2] 55))))
                  have h0 : (w5.alloc (.cells #[.int .i64 x0, .int .i64 lo, .int .i64 x2] 55)).cell? ⟨w.heap.size + 1 + 1 + 1, 0, none⟩ = some (.int .i64 bq.f0) := (blk_cell HI6.out.gx 0).trans rfl
                  have h1 : (w5.alloc (.cells #[.int .i64 x0, .int .i64 lo, .int .i64 x2] 55)).cell? ⟨w.heap.size + 1 + 1 + 1, 1, none⟩ = some (.int .i64 bq.f1) := (blk_cell HI6.out.gx 1).trans rfl
                  have h2 : (w5.alloc (.cells #[.int .i64 x0, .int .i64 lo, .int .i64 x2] 55)).cell? ⟨w.heap.size + 1 + 1 + 1, 2, none⟩ = some (.int .i64 bq.f2) := (blk_cell HI6.out.gx 2).trans rfl
                  have z0 : (w5.alloc (.cells #[.int .i64 x0, .int .i64 lo, .int .i64 x2] 55)).frozen? ⟨w.heap.size + 1 + 1 + 1, 0, none⟩ = false := blk_frozen HI6.out.gx 0
                  have z1 : (w5.alloc (.cells #[.int .i64 x0, .int .i64 lo, .int .i64 x2] 55)).frozen? ⟨w.heap.size + 1 + 1 + 1, 1, none⟩ = false := blk_frozen HI6.out.gx 1
                  have z2 : (w5.alloc (.cells #[.int .i64 x0, .int .i64 lo, .int .i64 x2] 55)).frozen? ⟨w.heap.size + 1 + 1 + 1, 2, none⟩ = false := blk_frozen HI6.out.gx 2
                  have b0 : (w5.alloc (.cells #[.int .i64 x0, .int .i64 lo, .int .i64 x2] 55)).cell? ⟨w.heap.size + 1 + 1, 0, none⟩ = some (.func (.func 109) #[] #[]) := (blk_cell HI6.out.gb 0).trans rfl
                  by_cases hb0 : bq.f2 = 0
                  · have r0 : (bq.f2 == 0) = true := by rw [hb0]; rfl
                    have HST1 := Aside0.mk (HST.out.trans (if_pos (.inl hb0)))
                    gi_wp2
                    refine ⟨(fun f h => nomatch h), ?_⟩
                    gi_wp2
                    exact ⟨HS6.out.trans (stp_set3 _ _ _ _ _ (by omega)), FitR.snoc HPRE.out.1 HPRE.out.2 HBQ.out HST1.out (HI6.out.put ⟨x0, lo, x2⟩)⟩
                  · have r0 : (bq.f2 == 0) = false := beq_eq_false_iff_ne.mpr hb0
                    have hcq : coordB bq.f0 = true := HSH.out.elim (fun e => absurd (by rw [e]; rfl) hb0) (fun h => h.2)
                    have CB := Aside0.mk (fun W => quot_Fit_1.calls 3 x0 lo x2 bq.f0 bq.f1 bq.f2 _ W (before_of HX.out (coordB_of hcq)))
                    clear hcq
                    gi_wp2
                    refine ⟨trivial, rfl, (callsIn_wide.2 (CB.out _)).mono ?_⟩
                    rintro e w7 ⟨rfl, hb7⟩
                    have HI7 := Aside0.mk (HI6.out.below hb7)
                    have HS7 := Aside0.mk (HS6.out.trans (Stp.of_below hb7))
                    have HT7 := Aside0.mk (blk_below (blk_new w5 (.cells #[.int .i64 x0, .int .i64 lo, .int .i64 x2] 55)) hb7)
                    clear hb7 h0 h1 h2 z0 z1 z2 b0 CB
                    have t0 : w7.cell? ⟨w5.heap.size, 0, none⟩ = some (.int .i64 x0) := (blk_cell HT7.out 0).trans rfl
                    have t1 : w7.cell? ⟨w5.heap.size, 1, none⟩ = some (.int .i64 lo) := (blk_cell HT7.out 1).trans rfl
                    have t2 : w7.cell? ⟨w5.heap.size, 2, none⟩ = some (.int .i64 x2) := (blk_cell HT7.out 2).trans rfl
                    have h0 : w7.cell? ⟨w.heap.size + 1 + 1 + 1, 0, none⟩ = some (.int .i64 bq.f0) := (blk_cell HI7.out.gx 0).trans rfl
                    have z0 : w7.frozen? ⟨w.heap.size + 1 + 1 + 1, 0, none⟩ = false := blk_frozen HI7.out.gx 0
                    have h1 : w7.cell? ⟨w.heap.size + 1 + 1 + 1, 1, none⟩ = some (.int .i64 bq.f1) := (blk_cell HI7.out.gx 1).trans rfl
                    have z1 : w7.frozen? ⟨w.heap.size + 1 + 1 + 1, 1, none⟩ = false := blk_frozen HI7.out.gx 1
                    have h2 : w7.cell? ⟨w.heap.size + 1 + 1 + 1, 2, none⟩ = some (.int .i64 bq.f2) := (blk_cell HI7.out.gx 2).trans rfl
                    have z2 : w7.frozen? ⟨w.heap.size + 1 + 1 + 1, 2, none⟩ = false := blk_frozen HI7.out.gx 2
                    cases hbb : beforeB x0 bq.f0 with
                    | true =>
                      have HST1 := Aside0.mk (HST.out.trans (if_pos (.inr hbb)))
                      gi_wp2
                      exact ⟨HS7.out.trans (stp_set3 _ _ _ _ _ (by omega)), FitR.snoc HPRE.out.1 HPRE.out.2 HBQ.out HST1.out (HI7.out.put ⟨x0, lo, x2⟩)⟩
                    | false =>
                      have HST1 := Aside0.mk (HST.out.trans (if_neg (fun h => h.elim hb0 (fun e => by rw [hbb] at e; cases e))))
                      gi_wp2
                      exact ⟨HS7.out, FitR.snoc HPRE.out.1 HPRE.out.2 HBQ.out HST1.out HI7.out⟩
              case hdone =>
                rintro D xs W hD hS ⟨hpre, hI⟩ hDd
                subst hS
                have HSH := Aside0.mk (step_shape l0 d hd1 _ hpre z55 (.inl rfl))
                have HB0 := Aside0.mk (show (candL l0 d).foldl (stepQ l0 d) z55 = bestQ l0 d from rfl)
                rw [HB0.out] at hI HSH
                have HID := Aside0.mk (hI.cons (by omega) (by omega) hDd)
                clear hpre hDd hI
                obtain ⟨k, hk⟩ : ∃ k, (17 - d).toNat = k + 1 := ⟨(17 - d).toNat - 1, by omega⟩
                have HK := Aside0.mk hk
                obtain ⟨bq, hbq⟩ : ∃ bq, bestQ l0 d = bq := ⟨_, rfl⟩
                rw [hbq] at HID HSH
                have HBQ := Aside0.mk hbq
                clear hbq HB0 hk
                have h0 : W.cell? ⟨w.heap.size + 1 + 1 + 1, 0, none⟩ = some (.int .i64 bq.f0) := (blk_cell HID.out.gx 0).trans rfl
                have h1 : W.cell? ⟨w.heap.size + 1 + 1 + 1, 1, none⟩ = some (.int .i64 bq.f1) := (blk_cell HID.out.gx 1).trans rfl
                have h2 : W.cell? ⟨w.heap.size + 1 + 1 + 1, 2, none⟩ = some (.int .i64 bq.f2) := (blk_cell HID.out.gx 2).trans rfl
                by_cases hp : 0 < bq.f2
                · have r0 : decide (0 < bq.f2) = true := decide_eq_true hp
                  have p0 : W.cell? ⟨w.heap.size + 1, 0, none⟩ = some (.int .i64 0) := (blk_cell HID.out.g2 0).trans rfl
                  have p1 : W.cell? ⟨w.heap.size + 1, 1, none⟩ = some (.int .i64 0) := (blk_cell HID.out.g2 1).trans rfl
                  have p2 : W.cell? ⟨w.heap.size + 1, 2, none⟩ = some (.int .i64 0) := (blk_cell HID.out.g2 2).trans rfl
                  have z0 : W.frozen? ⟨w.heap.size + 1, 0, none⟩ = false := blk_frozen HID.out.g2 0
                  have z1 : W.frozen? ⟨w.heap.size + 1, 1, none⟩ = false := blk_frozen HID.out.g2 1
                  have z2 : W.frozen? ⟨w.heap.size + 1, 2, none⟩ = false := blk_frozen HID.out.g2 2
                  have HF := Aside0.mk (show fitD l0 16 1 = bq by rw [← HE.out, HK.out, fitD_at (by rw [HBQ.out]; exact hp), HBQ.out])
                  gi_wp2
                  go_wp2_with fail
                  go_region
                  go_wp2
                  exact fit_end (b := bq) (L := D :: L) HID.out rfl (congrArg Value.bool (decide_eq_true hp).symm) rfl (by rw [HFP.out, HF.out])
                · have r0 : decide (0 < bq.f2) = false := decide_eq_false hp
                  obtain rfl : bq = z55 := HSH.out.elim id (fun h => absurd (by omega : 0 < bq.f2) hp)
                  have HF := Aside0.mk (show fitD l0 (17 - (d + 1)).toNat (d + 1) = fitD l0 16 1 by rw [← HE.out, HK.out, fitD_go (by rw [HBQ.out]; exact hp)]; congr 1; have := HK.out; omega)
                  have hw : wrap64 (d + 1) = d + 1 := wrap64_id (by omega) (by omega)
                  gi_wp2
                  exact ⟨⟨d + 1, D :: L, ⟨rfl, rfl⟩, by omega, by omega, HF, HID⟩, by simp [Go.RowKit.intOf]; omega⟩
            · have q0 : decide (d ≤ 16) = false := decide_eq_false hd
              obtain rfl : d = 17 := by omega
              have g0 : wr.cell? ⟨w.heap.size + 1 + 1 + 1, 0, none⟩ = some (.int .i64 0) := (blk_cell HM.out.gx 0).trans rfl
              have g1 : wr.cell? ⟨w.heap.size + 1 + 1 + 1, 1, none⟩ = some (.int .i64 0) := (blk_cell HM.out.gx 1).trans rfl
              have g2 : wr.cell? ⟨w.heap.size + 1 + 1 + 1, 2, none⟩ = some (.int .i64 0) := (blk_cell HM.out.gx 2).trans rfl
              have p0 : wr.cell? ⟨w.heap.size + 1, 0, none⟩ = some (.int .i64 0) := (blk_cell HM.out.g2 0).trans rfl
              have p1 : wr.cell? ⟨w.heap.size + 1, 1, none⟩ = some (.int .i64 0) := (blk_cell HM.out.g2 1).trans rfl
              have p2 : wr.cell? ⟨w.heap.size + 1, 2, none⟩ = some (.int .i64 0) := (blk_cell HM.out.g2 2).trans rfl
              have z0 : wr.frozen? ⟨w.heap.size + 1, 0, none⟩ = false := blk_frozen HM.out.g2 0
              have z1 : wr.frozen? ⟨w.heap.size + 1, 1, none⟩ = false := blk_frozen HM.out.g2 1
              have z2 : wr.frozen? ⟨w.heap.size + 1, 2, none⟩ = false := blk_frozen HM.out.g2 2
              gi_wp2
              go_wp2_with fail
              go_region
              go_wp2
              exact fit_end (b := z55) HM.out rfl rfl rfl (by rw [HFP.out, ← HE.out]; rfl)
theorem quot_Fit.calls (A0 : Option Addr) (c0 : Nat) (l0 : List Int) (r1 r2 r3 : Int) (r4 : Bool) (r5 : Int) (w : World) (hr0 : Kd.C (Kd.int .i64) w A0 l0.length l0) (hc0 : l0.length ≤ c0) (h : quot_Fit.f l0 = some (r1, r2, r3, r4, r5)) :
    Calls Try.prog 100 #[.slice A0 l0.length c0] w fun e w' => e = .returned (.tuple #[.agg #[.int .i64 r1, .int .i64 r2, .int .i64 r3], .bool r4, .int .i64 r5]) ∧ Below w.heap.size w w' := by
  have h1 := Option.some.inj h
  have h2 := fit_calls A0 c0 l0 w hr0 hc0
  simp only [Prod.mk.injEq] at h1
  obtain ⟨e1, e2, e3, e4, e5⟩ := h1
  rw [e1, e2, e3, e4, e5] at h2
  exact h2
end Go.Proofs.Ytdigjjncoeaiiaa.PAll
