/- Printed by a program of this session (wip/gprint.py) over the translation, cut to what is named (wip/dcut.py). Not trusted: Lean checks it. -/
import Derived.Test.YtdigjjncoeaiiaaPAlld0
import Derived.Test.YtdigjjncoeaiiaaPAllw20
import Derived.Test.YtdigjjncoeaiiaaPAllw23
import Derived.Test.YtdigjjncoeaiiaaPAllw28
import Derived.Test.YtdigjjncoeaiiaaPAllw29
import Derived.Test.YtdigjjncoeaiiaaPAllw30
namespace Go.Proofs.Ytdigjjncoeaiiaa.PAll
open Go.RowKit Go.Proofs.YtdigjjncoeaiiaaW.PrintWords Go.Proofs.YtdigjjncoeaiiaaW.PrintLast Go.Proofs.YtdigjjncoeaiiaaW.PrintMore
attribute [local go_sem] max2_int min2_int max_two min_two max_three min_three max_four min_four -- for this text's walks alone
set_option linter.unusedVariables false
set_option linter.unusedSimpArgs false
open Go.Proofs.YtdigjjncoeaiiaaGlib
theorem evalX {e : S24} {width scale x0 x1 x2 x3 x4 x5 x6 x7 a b : Int} (h : evalP e width scale [x0, x1, x2, x3, x4, x5, x6, x7] = (a, b)) (A : Option Addr) (c : Nat) (w : World) (hr : Kd.C k24 w A e.f2.length e.f2) (hc : e.f2.length ≤ c) :
    Calls Try.prog 11 #[.agg #[.int .i64 e.f0, .int .i64 e.f1, .slice A e.f2.length c], .int .i64 width, .int .i64 scale, .agg #[.int .i64 x0, .int .i64 x1, .int .i64 x2, .int .i64 x3, .int .i64 x4, .int .i64 x5, .int .i64 x6, .int .i64 x7]] w fun r w' =>
      r = .returned (.tuple #[.int .i64 a, .int .i64 b]) ∧ Below w.heap.size w w' := by
  have h2 := eval2_calls e width scale x0 x1 x2 x3 x4 x5 x6 x7 A c w hr hc
  rw [h] at h2
  exact h2
set_option maxHeartbeats 8000000 in
set_option maxRecDepth 100000 in
theorem head_calls (w : World) : Calls Try.prog 10 #[] w fun e w' => e = .returned (.bool true) ∧ Below w.heap.size w w' := by
  have E1 := Aside0.mk (fun W => (show Calls Try.prog 11 #[.agg #[.int .i64 2, .int .i64 33, .slice none 0 0], .int .i64 250, .int .i64 150, .agg #[.int .i64 0, .int .i64 31, .int .i64 0, .int .i64 0, .int .i64 0, .int .i64 0, .int .i64 0, .int .i64 0]] W _ from evalX ex_1 none 0 W (Kd.C_nil _ _) (Nat.le_refl _)))
  have E2 := Aside0.mk (fun W => (show Calls Try.prog 11 #[.agg #[.int .i64 3, .int .i64 5, .slice none 0 0], .int .i64 250, .int .i64 150, .agg #[.int .i64 0, .int .i64 31, .int .i64 0, .int .i64 0, .int .i64 0, .int .i64 0, .int .i64 0, .int .i64 0]] W _ from evalX ex_2 none 0 W (Kd.C_nil _ _) (Nat.le_refl _)))
  have E3 := Aside0.mk (fun W => (show Calls Try.prog 11 #[.agg #[.int .i64 3, .int .i64 (-5), .slice none 0 0], .int .i64 250, .int .i64 150, .agg #[.int .i64 0, .int .i64 31, .int .i64 0, .int .i64 0, .int .i64 0, .int .i64 0, .int .i64 0, .int .i64 0]] W _ from evalX ex_3 none 0 W (Kd.C_nil _ _) (Nat.le_refl _)))
  have E4 := Aside0.mk (fun A c W h hc => (show Calls Try.prog 11 #[.agg #[.int .i64 8, .int .i64 2, .slice A 1 c], .int .i64 250, .int .i64 150, .agg #[.int .i64 0, .int .i64 31, .int .i64 0, .int .i64 0, .int .i64 0, .int .i64 0, .int .i64 0, .int .i64 0]] W _ from evalX ex_4 A c W h hc))
  have E5 := Aside0.mk (fun A c W h hc => (show Calls Try.prog 11 #[.agg #[.int .i64 8, .int .i64 2, .slice A 1 c], .int .i64 250, .int .i64 49, .agg #[.int .i64 0, .int .i64 31, .int .i64 0, .int .i64 0, .int .i64 0, .int .i64 0, .int .i64 0, .int .i64 0]] W _ from evalX ex_5 A c W h hc))
  have TW := Aside0.mk (fun W => (show Calls Try.prog 22 #[.int .i64 6, .agg #[.int .i64 2, .int .i64 100, .slice none 0 0], .agg #[.int .i64 4, .int .i64 2, .slice none 0 0]] W _ from formelaw14_two.calls 6 2 100 (fun _ => False) none 0 [] 4 2 (fun _ => False) none 0 [] 6 0 [⟨2, 100, []⟩, ⟨4, 2, []⟩] W (Kd.V_nil _ _ _ _ _) (Kd.V_nil _ _ _ _ _) rfl))
  have ON := Aside0.mk (fun A c P W h => (show Calls Try.prog 23 #[.int .i64 8, .int .i64 2, .agg #[.int .i64 6, .int .i64 0, .slice A 2 c]] W _ from formelaw14_one.calls 8 2 6 0 P A c [⟨2, 100, []⟩, ⟨4, 2, []⟩] 8 2 lessE.f2 W h rfl))
  have US := Aside0.mk (fun A c W h hc => (show Calls Try.prog 15 #[.agg #[.int .i64 8, .int .i64 2, .slice A 1 c]] W _ from value_Uses.calls 8 2 A c lessE.f2 [2] 0 W h hc (congrArg some ex_uses)))
  have CU := Aside0.mk (fun A c W h hc => (show Calls Try.prog 19 #[.agg #[.int .i64 8, .int .i64 2, .slice A 1 c], .agg #[.int .i64 250, .int .i64 253], .int .i64 150, .agg #[.int .i64 0, .int .i64 31, .int .i64 0, .int .i64 0, .int .i64 0, .int .i64 0, .int .i64 0, .int .i64 0]] W _ from value_Curve.calls 20 8 2 A c lessE.f2 250 253 150 0 31 0 0 0 0 0 0 partL 0 W h hc ex_curve))
  have SM := Aside0.mk (fun A c B d W h hc h2 hc2 => (show Calls Try.prog 21 #[.slice A 1 c, .slice B 1 d] W _ from formeref02_Same.calls 9 A c partL B d partL true W h hc h2 hc2 ex_same))
  have VA := Aside0.mk (fun W => (show Calls Try.prog 13 #[.agg #[.int .i64 0, .int .i64 0, .slice none 0 0]] W _ from valid_calls ⟨0, 0, []⟩ none 0 W (Kd.C_nil _ _) (Nat.le_refl _)))
  rw [ex_bad] at VA
  have G0 := Aside0.mk (blk_new w (.cells #[.int .i64 0, .int .i64 31, .int .i64 0, .int .i64 0, .int .i64 0, .int .i64 0, .int .i64 0, .int .i64 0] 25))
  have HB0 := Aside0.mk (below_alloc (Below.refl w.heap.size w) (.cells #[.int .i64 0, .int .i64 31, .int .i64 0, .int .i64 0, .int .i64 0, .int .i64 0, .int .i64 0, .int .i64 0] 25))
  go_enter Try.func10, Try.ntmps10
  go_wp2_with fail
  generalize w.alloc (.cells #[.int .i64 0, .int .i64 31, .int .i64 0, .int .i64 0, .int .i64 0, .int .i64 0, .int .i64 0, .int .i64 0] 25) = W0 at *
  with_reducible refine (E1.out _).mono ?_
  rintro r w1 ⟨rfl, hb⟩
  have G1 := Aside0.mk (blk_below G0.out hb)
  have HB1 := Aside0.mk (below_step HB0.out hb)
  clear hb G0 HB0 E1
  have v0 := (blk_cell G1.out 0).trans rfl
  have v1 := (blk_cell G1.out 1).trans rfl
  have v2 := (blk_cell G1.out 2).trans rfl
  have v3 := (blk_cell G1.out 3).trans rfl
  have v4 := (blk_cell G1.out 4).trans rfl
  have v5 := (blk_cell G1.out 5).trans rfl
  have v6 := (blk_cell G1.out 6).trans rfl
  have v7 := (blk_cell G1.out 7).trans rfl
  go_wp2_with fail
  with_reducible refine (E2.out _).mono ?_
  rintro r w2 ⟨rfl, hb⟩
  have G2 := Aside0.mk (blk_below G1.out hb)
  have HB2 := Aside0.mk (below_step HB1.out hb)
  clear hb G1 HB1 E2 v0 v1 v2 v3 v4 v5 v6 v7
  have v0 := (blk_cell G2.out 0).trans rfl
  have v1 := (blk_cell G2.out 1).trans rfl
  have v2 := (blk_cell G2.out 2).trans rfl
  have v3 := (blk_cell G2.out 3).trans rfl
  have v4 := (blk_cell G2.out 4).trans rfl
  have v5 := (blk_cell G2.out 5).trans rfl
  have v6 := (blk_cell G2.out 6).trans rfl
  have v7 := (blk_cell G2.out 7).trans rfl
  go_wp2_with fail
  with_reducible refine (E3.out _).mono ?_
  rintro r w3 ⟨rfl, hb⟩
  have G3 := Aside0.mk (blk_below G2.out hb)
  have HB3 := Aside0.mk (below_step HB2.out hb)
  clear hb G2 HB2 E3 v0 v1 v2 v3 v4 v5 v6 v7
  go_wp2_with fail
  with_reducible refine (TW.out _).mono ?_
  rintro r w4 ⟨v2, rfl, hN, hb⟩
  have HV4 := Aside0.mk (Kd.N_V (base' := w4.heap.size) hN)
  have G4 := Aside0.mk (blk_below G3.out hb)
  have HB4 := Aside0.mk (below_step HB3.out hb)
  clear hb hN G3 HB3 TW
  obtain ⟨A2, c2, hv⟩ := Kd.V_slice HV4.out
  have hv : v2 = .slice A2 2 c2 := hv
  subst hv
  go_wp2_with fail
  with_reducible refine (ON.out _ _ _ _ HV4.out).mono ?_
  rintro r w5 ⟨v5, rfl, hN, hb⟩
  have HV5 := Aside0.mk (Kd.N_V (base' := w5.heap.size) hN)
  have G5 := Aside0.mk (blk_below G4.out hb)
  have HB5 := Aside0.mk (below_step HB4.out hb)
  clear hb hN G4 HB4 ON HV4
  obtain ⟨A5, c5, hv⟩ := Kd.V_slice HV5.out
  have hv : v5 = .slice A5 1 c5 := hv
  subst hv
  have HC5 := Aside0.mk (Kd.V_reads' HV5.out)
  clear HV5
  have K6 := Aside0.mk (blk_new w5 (.cells #[.int .i64 8, .int .i64 2, .slice A5 1 c5] 24))
  have G6 := Aside0.mk (blk_alloc G5.out (.cells #[.int .i64 8, .int .i64 2, .slice A5 1 c5] 24))
  have HB6 := Aside0.mk (below_alloc HB5.out (.cells #[.int .i64 8, .int .i64 2, .slice A5 1 c5] 24))
  have HC6 := Aside0.mk (Kd.C_alloc HC5.out.2.2 (.cells #[.int .i64 8, .int .i64 2, .slice A5 1 c5] 24))
  have HL5 := HC5.out.2.1
  clear G5 HB5 HC5
  have v0 := (blk_cell G6.out 0).trans rfl
  have v1 := (blk_cell G6.out 1).trans rfl
  have v2 := (blk_cell G6.out 2).trans rfl
  have v3 := (blk_cell G6.out 3).trans rfl
  have v4 := (blk_cell G6.out 4).trans rfl
  have v5 := (blk_cell G6.out 5).trans rfl
  have v6 := (blk_cell G6.out 6).trans rfl
  have v7 := (blk_cell G6.out 7).trans rfl
  have k0 := (blk_cell K6.out 0).trans rfl
  have k1 := (blk_cell K6.out 1).trans rfl
  have k2 := (blk_cell K6.out 2).trans rfl
  go_wp2_with fail
  with_reducible refine (E4.out _ _ _ HC6.out HL5).mono ?_
  rintro r w6 ⟨rfl, hb⟩
  have G7 := Aside0.mk (blk_below G6.out hb)
  have K7 := Aside0.mk (blk_below K6.out hb)
  have HB7 := Aside0.mk (below_step HB6.out hb)
  have HC7 := Aside0.mk (Kd.C_below HC6.out hb)
  clear hb G6 K6 HB6 HC6 E4 v0 v1 v2 v3 v4 v5 v6 v7 k0 k1 k2
  have k0 := (blk_cell K7.out 0).trans rfl
  have k1 := (blk_cell K7.out 1).trans rfl
  have k2 := (blk_cell K7.out 2).trans rfl
  go_wp2_with fail
  with_reducible refine (US.out _ _ _ HC7.out HL5).mono ?_
  rintro r w7 ⟨v8, rfl, hR, hb⟩
  have G8 := Aside0.mk (blk_below G7.out hb)
  have K8 := Aside0.mk (blk_below K7.out hb)
  have HB8 := Aside0.mk (below_step HB7.out hb)
  have HC8 := Aside0.mk (Kd.C_below HC7.out hb)
  obtain ⟨A8, c8, hv⟩ := Kd.R_slice hR
  have hv : v8 = .slice A8 1 c8 := hv
  subst hv
  have HU8 := Aside0.mk (Kd.R_reads' hR).2.2
  clear hb hR G7 K7 HB7 HC7 US k0 k1 k2
  have k0 := (blk_cell K8.out 0).trans rfl
  have k1 := (blk_cell K8.out 1).trans rfl
  have k2 := (blk_cell K8.out 2).trans rfl
  have v0 := (blk_cell G8.out 0).trans rfl
  have v1 := (blk_cell G8.out 1).trans rfl
  have v2 := (blk_cell G8.out 2).trans rfl
  have v3 := (blk_cell G8.out 3).trans rfl
  have v4 := (blk_cell G8.out 4).trans rfl
  have v5 := (blk_cell G8.out 5).trans rfl
  have v6 := (blk_cell G8.out 6).trans rfl
  have v7 := (blk_cell G8.out 7).trans rfl
  go_wp2_with fail
  with_reducible refine (CU.out _ _ _ HC8.out HL5).mono ?_
  rintro r w8 ⟨v9, rfl, hR, hb⟩
  have G9 := Aside0.mk (blk_below G8.out hb)
  have K9 := Aside0.mk (blk_below K8.out hb)
  have HB9 := Aside0.mk (below_step HB8.out hb)
  have HC9 := Aside0.mk (Kd.C_below HC8.out hb)
  have HU9 := Aside0.mk (Kd.C_below HU8.out hb)
  obtain ⟨A9, c9, hv⟩ := Kd.R_slice hR
  have hv : v9 = .slice A9 1 c9 := hv
  subst hv
  have HP9 := Aside0.mk (Kd.R_reads' hR)
  clear hb hR G8 K8 HB8 HC8 HU8 CU v0 v1 v2 v3 v4 v5 v6 v7 k0 k1 k2
  have k0 := (blk_cell K9.out 0).trans rfl
  have k1 := (blk_cell K9.out 1).trans rfl
  have k2 := (blk_cell K9.out 2).trans rfl
  have v0 := (blk_cell G9.out 0).trans rfl
  have v1 := (blk_cell G9.out 1).trans rfl
  have v2 := (blk_cell G9.out 2).trans rfl
  have v3 := (blk_cell G9.out 3).trans rfl
  have v4 := (blk_cell G9.out 4).trans rfl
  have v5 := (blk_cell G9.out 5).trans rfl
  have v6 := (blk_cell G9.out 6).trans rfl
  have v7 := (blk_cell G9.out 7).trans rfl
  go_wp2_with fail
  with_reducible refine (E5.out _ _ _ HC9.out HL5).mono ?_
  rintro r w9 ⟨rfl, hb⟩
  have HB10 := Aside0.mk (below_step HB9.out hb)
  have HU10 := Aside0.mk (Kd.C_below HU9.out hb)
  have HP10 := Aside0.mk (Kd.C_below HP9.out.2.2 hb)
  have HL9 := HP9.out.2.1
  clear hb G9 K9 HB9 HC9 HU9 HP9 E5 v0 v1 v2 v3 v4 v5 v6 v7 k0 k1 k2
  obtain ⟨ad, rfl, hx⟩ := Kd.at_int HU10.out 0 (by decide) (by decide)
  rw [show ((0 : Int)).toNat = 0 from rfl, Addr.add_zero'] at hx
  have hx0 : w9.cell? ad = some (.int .i64 2) := hx
  clear hx
  go_wp2_with fail
  with_reducible refine (VA.out _).mono ?_
  rintro r w10 ⟨rfl, hb⟩
  have HB11 := Aside0.mk (below_step HB10.out hb)
  have HP11 := Aside0.mk (Kd.C_below HP10.out hb)
  clear hb HB10 HP10 HU10 VA
  go_wp2_with fail
  have HP12 := Aside0.mk (Kd.C_alloc HP11.out (.cells #[.int .i64 250, .int .i64 254, .int .i64 1, .int .i64 219, .int .i64 2] 57))
  have HB12 := Aside0.mk (below_alloc HB11.out (.cells #[.int .i64 250, .int .i64 254, .int .i64 1, .int .i64 219, .int .i64 2] 57))
  with_reducible refine (SM.out _ _ _ 1 _ HP12.out HL9 (C_blk57 (blk_new w10 (.cells #[.int .i64 250, .int .i64 254, .int .i64 1, .int .i64 219, .int .i64 2] 57))) (by decide)).mono ?_
  rintro r w11 ⟨rfl, hd⟩
  have HB13 := Aside0.mk (below_step HB12.out (Drawn0.below hd))
  clear hd HP12 HB12
  go_wp2
  go_ret
  exact ⟨rfl, HB13.out⟩
theorem formelaw14_head.calls (r : Bool) (w : World) (h : formelaw14_head.f = some r) : Calls Try.prog 10 #[] w fun e w' => e = .returned (.bool r) ∧ Below w.heap.size w w' := by
  obtain rfl := Option.some.inj h
  exact head_calls w
end Go.Proofs.Ytdigjjncoeaiiaa.PAll
