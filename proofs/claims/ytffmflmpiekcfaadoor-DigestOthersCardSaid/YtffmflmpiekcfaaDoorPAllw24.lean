/- Printed by a program of this session (wip/gprint.py) over the translation. Not trusted: Lean checks it. -/
import Derived.Test.YtffmflmpiekcfaaDoorPAlld0
import Derived.Test.YtffmflmpiekcfaaDoorHeadPlain
import Derived.Test.YtffmflmpiekcfaaDoorPlainB
import Derived.Test.YtffmflmpiekcfaaDoorPAllw6
import Derived.Test.YtffmflmpiekcfaaDoorPAllw7
import Derived.Test.YtffmflmpiekcfaaDoorPAllw10
import Derived.Test.YtffmflmpiekcfaaDoorPAllw11
import Derived.Test.YtffmflmpiekcfaaDoorPAllw16
import Derived.Test.YtffmflmpiekcfaaDoorPAllw20
import Derived.Test.YtffmflmpiekcfaaDoorPAllw23
namespace Go.Proofs.YtffmflmpiekcfaaDoor.PAll
open Go.RowKit Go.Proofs.YtffmflmpiekcfaaDoorW.PrintWords Go.Proofs.YtffmflmpiekcfaaDoorW.PrintLast Go.Proofs.YtffmflmpiekcfaaDoorW.PrintMore
attribute [local go_sem] max2_int min2_int max_two min_two max_three min_three max_four min_four   -- for this text's walks alone
set_option linter.unusedVariables false
set_option linter.unusedSimpArgs false


theorem few_calls (A : Option Addr) (c : Nat) (l : List Int) (W : World) (h : Kd.C (Kd.int .u64) W A l.length l) (h' : l.length ≤ c) :
    Calls Tryd.prog 24 #[.slice A l.length c] W fun e w' => e = .returned (.bool (decide (0 < l.length ∧ l.length ≤ 200))) ∧ Drawn0 W w' := by
  refine formelaw04_few.calls A c l _ W h h' ?_
  unfold formelaw04_few.f
  by_cases h1 : 0 < l.length
  · rw [if_pos (by omega)]
    congr 1
    rw [decide_eq_decide]
    omega
  · rw [if_neg (by omega), decide_eq_false (by omega)]
theorem length_calls (i : Int) (n : Nat) (W : World) (h0 : 0 ≤ i) (h1 : i < n) (hm : n ≤ 1000000) :
    Calls Tryd.prog 26 #[.int .i64 i, .int .i64 (n : Int)] W fun e w' => e = .returned (.int .i64 (Plain.lenF n i n : Int)) ∧ Drawn0 W w' := by
  obtain ⟨K, hK⟩ := (Plain.reflen_ev h0 h1 hm).rounds
  exact formeref04_Length.calls K i n _ W hK
theorem meet_calls (l0 : List Int) (i e : Int) (q : List Int) (A : Option Addr) (c : Nat) (A' : Option Addr) (c' : Nat) (W : World) (hi0 : 0 ≤ i) (hi1 : i < l0.length) (hm : l0.length ≤ 10000) (h : Plain.leadsE (rootP l0) e i l0.length q = true)
    (h1 : Kd.C (Kd.int .u64) W A (Plain.pathP l0 i).length (Plain.pathP l0 i)) (h2 : (Plain.pathP l0 i).length ≤ c) (h3 : Kd.C (Kd.int .u64) W A' q.length q) (h4 : q.length ≤ c') (h5 : Tab W) :
    Calls Tryd.prog 27 #[.int .u64 (rd l0 i), .int .u64 e, .int .i64 i, .int .i64 (l0.length : Int), .slice A (Plain.pathP l0 i).length c, .slice A' q.length c'] W fun e w' => e = .returned (.bool true) ∧ Below W.heap.size W w' := by
  have hown := (Plain.leads_len (Plain.leads_own hi0 hi1 hm)).2.2.2
  obtain ⟨K, hK⟩ := (Plain.meets_ev (d := rd l0 i) (e := e) (p := Plain.pathP l0 i) (q := q) hi0 hi1 (by omega) (Plain.path_len hi0 hi1) (Plain.leads_len h).2.2.1 (hown.trans (Plain.leads_len h).2.2.2.symm)).rounds
  exact formelaw04_meets.calls K (rd l0 i) e i l0.length A c (Plain.pathP l0 i) A' c' q true W h1 h2 h3 h4 hK h5
set_option maxHeartbeats 8000000 in
set_option maxRecDepth 100000 in
theorem others_calls (A0 : Option Addr) (c0 : Nat) (l0 : List Int) (a1 a2 : Int) (A3 : Option Addr) (c3 : Nat) (l3 : List Int) (a4 : Bool) (w : World)
    (hr0 : Kd.C (Kd.int .u64) w A0 l0.length l0) (hc0 : l0.length ≤ c0) (hr3 : Kd.C (Kd.int .u64) w A3 l3.length l3) (hc3 : l3.length ≤ c3) (h10 : 0 ≤ a1) (h11 : a1 ≤ 65535) (hT : Tab w) :
    Calls Tryd.prog 8 #[.slice A0 l0.length c0, .int .u16 a1, .int .u64 a2, .slice A3 l3.length c3, .bool a4] w fun e w' => e = .returned (.bool true) ∧ Below w.heap.size w w' := by
  have HT := Aside0.mk hT
  have R0 := Aside0.mk hr0
  have R3 := Aside0.mk hr3
  have L0 := Aside0.mk hc0
  have L3 := Aside0.mk hc3
  have HB := Aside0.mk (Below.refl w.heap.size w)
  have HD := Aside0.mk (fun W h => formelaw04_head.calls true W rfl h)
  have FEW := Aside0.mk (fun W h => few_calls A0 c0 l0 W h L0.out)
  clear hT hr0 hr3 hc0 hc3
  by_cases hf : 0 < l0.length ∧ l0.length ≤ 200
  case neg =>
    rw [decide_eq_false hf] at FEW
    clear hf
    go_enter Tryd.func8, Tryd.ntmps8
    go_wp2_with (first | (go_at_call 9; (with_reducible refine (HD.out _ ?s3).mono ?_); (case s3 => exact HT.out.below (by repeat (first | (with_reducible first | exact HB.out | apply below_alloc | apply pw_below_drewN | apply below_drew1) | exact HB.out))); rintro e w2 ⟨rfl, hb⟩; have n0_ := Aside0.mk (below_step (by repeat (first | (with_reducible first | exact HB.out | apply below_alloc | apply pw_below_drewN | apply below_drew1) | exact HB.out)) hb); clear HB; have HB := n0_; clear n0_; clear hb))
    go_wp2_with (first | (go_at_call 24; (with_reducible refine (FEW.out _ ?s1).mono ?_); (case s1 => exact (Kd.C_below R0.out (by repeat (first | (with_reducible first | exact HB.out | apply below_alloc | apply pw_below_drewN | apply below_drew1) | exact HB.out)))); rintro e w2 ⟨rfl, hdr⟩; have hb := Drawn0.below' hdr; clear hdr; have n0_ := Aside0.mk (below_step (by repeat (first | (with_reducible first | exact HB.out | apply below_alloc | apply pw_below_drewN | apply below_drew1) | exact HB.out)) hb); clear HB; have HB := n0_; clear n0_; clear hb))
    go_ret
    exact ⟨rfl, HB.out⟩
  case pos =>
  rw [decide_eq_true hf] at FEW
  by_cases b3 : (l3.length : Int) > 40
  · have d3 : decide ((l3.length : Int) > 40) = true := decide_eq_true b3
    clear b3 hf
    go_enter Tryd.func8, Tryd.ntmps8
    go_wp2_with (first | (go_at_call 9; (with_reducible refine (HD.out _ ?s3).mono ?_); (case s3 => exact HT.out.below (by repeat (first | (with_reducible first | exact HB.out | apply below_alloc | apply pw_below_drewN | apply below_drew1) | exact HB.out))); rintro e w2 ⟨rfl, hb⟩; have n0_ := Aside0.mk (below_step (by repeat (first | (with_reducible first | exact HB.out | apply below_alloc | apply pw_below_drewN | apply below_drew1) | exact HB.out)) hb); clear HB; have HB := n0_; clear n0_; clear hb))
    go_wp2_with (first | (go_at_call 24; (with_reducible refine (FEW.out _ ?s1).mono ?_); (case s1 => exact (Kd.C_below R0.out (by repeat (first | (with_reducible first | exact HB.out | apply below_alloc | apply pw_below_drewN | apply below_drew1) | exact HB.out)))); rintro e w2 ⟨rfl, hdr⟩; have hb := Drawn0.below' hdr; clear hdr; have n0_ := Aside0.mk (below_step (by repeat (first | (with_reducible first | exact HB.out | apply below_alloc | apply pw_below_drewN | apply below_drew1) | exact HB.out)) hb); clear HB; have HB := n0_; clear n0_; clear hb))
    go_ret
    exact ⟨rfl, HB.out⟩
  have d3 : decide ((l3.length : Int) > 40) = false := decide_eq_false b3
  obtain ⟨i, hi⟩ : ∃ i : Int, i = a1 % (l0.length : Int) := ⟨_, rfl⟩
  have hi0 : 0 ≤ i := by
    rw [hi]
    exact Int.emod_nonneg _ (by omega)
  have hi1 : i < l0.length := by
    rw [hi]
    exact Int.emod_lt_of_pos _ (by omega)
  have HI := Aside0.mk hi
  clear hi
  have hr : Plain.rootE l0 = (rootP l0, 0) := by
    unfold Plain.rootE
    rw [if_neg (by omega), if_neg (by omega)]
  have hp : Plain.pathE l0 i = (Plain.pathP l0 i, 0) := by
    unfold Plain.pathE
    rw [if_neg (by omega), if_neg (by omega), if_pos ⟨hi0, hi1⟩]
  have hpl := Plain.path_len hi0 hi1
  have hp14 := Plain.len_most (f := l0.length) (i := i) hf.2
  obtain ⟨ad, e, hx⟩ := Kd.at_int R0.out i hi0 hi1
  subst e
  have HX := Aside0.mk hx
  clear hx
  have C16 := Aside0.mk (fun W h h3 => digest_Root.calls (some ad) c0 l0 (rootP l0) 0 W h L0.out ((Plain.root_ev l0).trans (congrArg some hr)) h3)
  have C18 := Aside0.mk (fun W h h3 => digest_Path.calls (some ad) c0 l0 i (Plain.pathP l0 i) 0 W h L0.out ((Plain.path_ev l0 i).trans (congrArg some hp)) h3)
  have C26 := Aside0.mk (fun W => length_calls i l0.length W hi0 hi1 (by omega))
  have C27 := Aside0.mk (fun (q : List Int) (A : Option Addr) (c : Nat) (A' : Option Addr) (c' : Nat) (W : World) h h1 h2 h3 h4 h5 => meet_calls l0 i a2 q A c A' c' W hi0 hi1 (by omega) h h1 h2 h3 h4 h5)
  have LE := Aside0.mk (fun (q : List Int) (h : Plain.leadsE (rootP l0) a2 i l0.length q = true) => (Plain.leads_len h).2.2.1)
  have C21 := Aside0.mk (fun (q : List Int) (hq : q.length ≤ 1000) (A : Option Addr) (c : Nat) (W : World) h h' h3 => digest_Leads.calls (rootP l0) a2 i l0.length A c q (Plain.leadsE (rootP l0) a2 i l0.length q) W h h' (Plain.leads_ev _ _ _ _ (by omega)) h3)
  rw [← hpl] at C26 hp14
  rw [hpl.symm] at LE
  have hn1 : (l0.length : Int) ≤ 200 := by omega
  have hn0 : (1 : Int) ≤ (l0.length : Int) := by omega
  have P14 := Aside0.mk hp14
  have F := Aside0.mk hf
  clear hf hr hp hpl hp14
  generalize Plain.pathP l0 i = p at *
  generalize rootP l0 = r at *
  have hn : ((l0.length : Int) == 0) = false := by rw [beq_eq_false_iff_ne]; omega
  have hw1 : IntKind.i64.wrap a1 = a1 := (i64_w _).trans (Go.Proofs.YtffmflmpiekcfaaDoorGlib.wrap64_id (by omega) (by omega))
  by_cases hd : a2 = rd l0 i
  · have d2 : (a2 == rd l0 i) = true := beq_iff_eq.mpr hd
    clear hd
    cases a4
    case false =>
      go_enter Tryd.func8, Tryd.ntmps8
      go_wp2_with (first | (go_at_call 9; (with_reducible refine (HD.out _ ?s3).mono ?_); (case s3 => exact HT.out.below (by repeat (first | (with_reducible first | exact HB.out | apply below_alloc | apply pw_below_drewN | apply below_drew1) | exact HB.out))); rintro e w2 ⟨rfl, hb⟩; have n0_ := Aside0.mk (below_step (by repeat (first | (with_reducible first | exact HB.out | apply below_alloc | apply pw_below_drewN | apply below_drew1) | exact HB.out)) hb); clear HB; have HB := n0_; clear n0_; clear hb))
      go_wp2_with (first | (go_at_call 24; (with_reducible refine (FEW.out _ ?s1).mono ?_); (case s1 => exact (Kd.C_below R0.out (by repeat (first | (with_reducible first | exact HB.out | apply below_alloc | apply pw_below_drewN | apply below_drew1) | exact HB.out)))); rintro e w2 ⟨rfl, hdr⟩; have hb := Drawn0.below' hdr; clear hdr; have n0_ := Aside0.mk (below_step (by repeat (first | (with_reducible first | exact HB.out | apply below_alloc | apply pw_below_drewN | apply below_drew1) | exact HB.out)) hb); clear HB; have HB := n0_; clear n0_; clear hb))
      rw [← HI.out]
      go_wp2_with (first | (go_at_call 16; (with_reducible refine (C16.out _ ?s1 ?s3).mono ?_); (case s1 => exact (Kd.C_below R0.out (by repeat (first | (with_reducible first | exact HB.out | apply below_alloc | apply pw_below_drewN | apply below_drew1) | exact HB.out)))); (case s3 => exact HT.out.below (by repeat (first | (with_reducible first | exact HB.out | apply below_alloc | apply pw_below_drewN | apply below_drew1) | exact HB.out))); rintro e w2 ⟨rfl, hb⟩; have n0_ := Aside0.mk (below_step (by repeat (first | (with_reducible first | exact HB.out | apply below_alloc | apply pw_below_drewN | apply below_drew1) | exact HB.out)) hb); clear HB; have HB := n0_; clear n0_; clear hb))
      go_wp2_with (first | (go_at_call 18; (with_reducible refine (C18.out _ ?s1 ?s3).mono ?_); (case s1 => exact (Kd.C_below R0.out (by repeat (first | (with_reducible first | exact HB.out | apply below_alloc | apply pw_below_drewN | apply below_drew1) | exact HB.out)))); (case s3 => exact HT.out.below (by repeat (first | (with_reducible first | exact HB.out | apply below_alloc | apply pw_below_drewN | apply below_drew1) | exact HB.out))); rintro e w2 ⟨vr, rfl, ho, hb⟩; have n0_ := Aside0.mk (below_step (by repeat (first | (with_reducible first | exact HB.out | apply below_alloc | apply pw_below_drewN | apply below_drew1) | exact HB.out)) hb); clear HB; have HB := n0_; clear n0_; (try clear CX); have CX := (HB.out.cell (World.block_lt_of_cell? w _ HX.out)).trans HX.out; obtain ⟨Ap, cp, rfl⟩ : ∃ A c, vr = .slice A (p).length c := Kd.R_slice ho; have HP := Aside0.mk (Kd.R_reads' ho).2.2; have HPL := Aside0.mk (Kd.R_reads' ho).2.1; clear ho; clear hb))
      go_wp2_with (first | (go_at_call 26; (with_reducible refine (C26.out _).mono ?_); rintro e w2 ⟨rfl, hdr⟩; have hb := Drawn0.below' hdr; clear hdr; have n0_ := Aside0.mk (below_step (by repeat (first | (with_reducible first | exact HB.out | apply below_alloc | apply pw_below_drewN | apply below_drew1) | exact HB.out)) hb); have n1_ := Aside0.mk (Kd.C_below (d := Kd.int .u64) (A := Ap) (n := (p).length) (xs := p) (by repeat (first | (with_reducible exact HP.out) | (with_reducible refine Kd.C_alloc ?_ _) | (with_reducible refine Kd.C_drewN ?_ _) | (with_reducible refine Kd.C_drew ?_) | exact HP.out)) hb); clear HB; clear HP; have HB := n0_; have HP := n1_; clear n0_ n1_; (try clear CX); have CX := (HB.out.cell (World.block_lt_of_cell? w _ HX.out)).trans HX.out; clear hb))
      go_ret
      exact ⟨rfl, HB.out⟩
    case true =>
      go_enter Tryd.func8, Tryd.ntmps8
      go_wp2_with (first | (go_at_call 9; (with_reducible refine (HD.out _ ?s3).mono ?_); (case s3 => exact HT.out.below (by repeat (first | (with_reducible first | exact HB.out | apply below_alloc | apply pw_below_drewN | apply below_drew1) | exact HB.out))); rintro e w2 ⟨rfl, hb⟩; have n0_ := Aside0.mk (below_step (by repeat (first | (with_reducible first | exact HB.out | apply below_alloc | apply pw_below_drewN | apply below_drew1) | exact HB.out)) hb); clear HB; have HB := n0_; clear n0_; clear hb))
      go_wp2_with (first | (go_at_call 24; (with_reducible refine (FEW.out _ ?s1).mono ?_); (case s1 => exact (Kd.C_below R0.out (by repeat (first | (with_reducible first | exact HB.out | apply below_alloc | apply pw_below_drewN | apply below_drew1) | exact HB.out)))); rintro e w2 ⟨rfl, hdr⟩; have hb := Drawn0.below' hdr; clear hdr; have n0_ := Aside0.mk (below_step (by repeat (first | (with_reducible first | exact HB.out | apply below_alloc | apply pw_below_drewN | apply below_drew1) | exact HB.out)) hb); clear HB; have HB := n0_; clear n0_; clear hb))
      rw [← HI.out]
      go_wp2_with (first | (go_at_call 16; (with_reducible refine (C16.out _ ?s1 ?s3).mono ?_); (case s1 => exact (Kd.C_below R0.out (by repeat (first | (with_reducible first | exact HB.out | apply below_alloc | apply pw_below_drewN | apply below_drew1) | exact HB.out)))); (case s3 => exact HT.out.below (by repeat (first | (with_reducible first | exact HB.out | apply below_alloc | apply pw_below_drewN | apply below_drew1) | exact HB.out))); rintro e w2 ⟨rfl, hb⟩; have n0_ := Aside0.mk (below_step (by repeat (first | (with_reducible first | exact HB.out | apply below_alloc | apply pw_below_drewN | apply below_drew1) | exact HB.out)) hb); clear HB; have HB := n0_; clear n0_; clear hb))
      go_wp2_with (first | (go_at_call 18; (with_reducible refine (C18.out _ ?s1 ?s3).mono ?_); (case s1 => exact (Kd.C_below R0.out (by repeat (first | (with_reducible first | exact HB.out | apply below_alloc | apply pw_below_drewN | apply below_drew1) | exact HB.out)))); (case s3 => exact HT.out.below (by repeat (first | (with_reducible first | exact HB.out | apply below_alloc | apply pw_below_drewN | apply below_drew1) | exact HB.out))); rintro e w2 ⟨vr, rfl, ho, hb⟩; have n0_ := Aside0.mk (below_step (by repeat (first | (with_reducible first | exact HB.out | apply below_alloc | apply pw_below_drewN | apply below_drew1) | exact HB.out)) hb); clear HB; have HB := n0_; clear n0_; (try clear CX); have CX := (HB.out.cell (World.block_lt_of_cell? w _ HX.out)).trans HX.out; obtain ⟨Ap, cp, rfl⟩ : ∃ A c, vr = .slice A (p).length c := Kd.R_slice ho; have HP := Aside0.mk (Kd.R_reads' ho).2.2; have HPL := Aside0.mk (Kd.R_reads' ho).2.1; clear ho; clear hb))
      go_wp2_with (first | (go_at_call 26; (with_reducible refine (C26.out _).mono ?_); rintro e w2 ⟨rfl, hdr⟩; have hb := Drawn0.below' hdr; clear hdr; have n0_ := Aside0.mk (below_step (by repeat (first | (with_reducible first | exact HB.out | apply below_alloc | apply pw_below_drewN | apply below_drew1) | exact HB.out)) hb); have n1_ := Aside0.mk (Kd.C_below (d := Kd.int .u64) (A := Ap) (n := (p).length) (xs := p) (by repeat (first | (with_reducible exact HP.out) | (with_reducible refine Kd.C_alloc ?_ _) | (with_reducible refine Kd.C_drewN ?_ _) | (with_reducible refine Kd.C_drew ?_) | exact HP.out)) hb); clear HB; clear HP; have HB := n0_; have HP := n1_; clear n0_ n1_; (try clear CX); have CX := (HB.out.cell (World.block_lt_of_cell? w _ HX.out)).trans HX.out; clear hb))
      go_ret
      exact ⟨rfl, HB.out⟩
  · have d2 : (a2 == rd l0 i) = false := beq_eq_false_iff_ne.mpr hd
    clear hd
    cases a4
    case false =>
      have C21 := Aside0.mk (fun (A : Option Addr) (c : Nat) (W : World) h h' h3 => C21.out l3 (by have := P14.out; omega) A c W h h' h3)
      obtain ⟨b, hb⟩ : ∃ b, b = Plain.leadsE r a2 i l0.length l3 := ⟨_, rfl⟩
      rw [← hb] at C21
      cases b
      case false =>
        clear hb
        go_enter Tryd.func8, Tryd.ntmps8
        go_wp2_with (first | (go_at_call 9; (with_reducible refine (HD.out _ ?s3).mono ?_); (case s3 => exact HT.out.below (by repeat (first | (with_reducible first | exact HB.out | apply below_alloc | apply pw_below_drewN | apply below_drew1) | exact HB.out))); rintro e w2 ⟨rfl, hb⟩; have n0_ := Aside0.mk (below_step (by repeat (first | (with_reducible first | exact HB.out | apply below_alloc | apply pw_below_drewN | apply below_drew1) | exact HB.out)) hb); clear HB; have HB := n0_; clear n0_; clear hb))
        go_wp2_with (first | (go_at_call 24; (with_reducible refine (FEW.out _ ?s1).mono ?_); (case s1 => exact (Kd.C_below R0.out (by repeat (first | (with_reducible first | exact HB.out | apply below_alloc | apply pw_below_drewN | apply below_drew1) | exact HB.out)))); rintro e w2 ⟨rfl, hdr⟩; have hb := Drawn0.below' hdr; clear hdr; have n0_ := Aside0.mk (below_step (by repeat (first | (with_reducible first | exact HB.out | apply below_alloc | apply pw_below_drewN | apply below_drew1) | exact HB.out)) hb); clear HB; have HB := n0_; clear n0_; clear hb))
        rw [← HI.out]
        go_wp2_with (first | (go_at_call 16; (with_reducible refine (C16.out _ ?s1 ?s3).mono ?_); (case s1 => exact (Kd.C_below R0.out (by repeat (first | (with_reducible first | exact HB.out | apply below_alloc | apply pw_below_drewN | apply below_drew1) | exact HB.out)))); (case s3 => exact HT.out.below (by repeat (first | (with_reducible first | exact HB.out | apply below_alloc | apply pw_below_drewN | apply below_drew1) | exact HB.out))); rintro e w2 ⟨rfl, hb⟩; have n0_ := Aside0.mk (below_step (by repeat (first | (with_reducible first | exact HB.out | apply below_alloc | apply pw_below_drewN | apply below_drew1) | exact HB.out)) hb); clear HB; have HB := n0_; clear n0_; clear hb))
        go_wp2_with (first | (go_at_call 18; (with_reducible refine (C18.out _ ?s1 ?s3).mono ?_); (case s1 => exact (Kd.C_below R0.out (by repeat (first | (with_reducible first | exact HB.out | apply below_alloc | apply pw_below_drewN | apply below_drew1) | exact HB.out)))); (case s3 => exact HT.out.below (by repeat (first | (with_reducible first | exact HB.out | apply below_alloc | apply pw_below_drewN | apply below_drew1) | exact HB.out))); rintro e w2 ⟨vr, rfl, ho, hb⟩; have n0_ := Aside0.mk (below_step (by repeat (first | (with_reducible first | exact HB.out | apply below_alloc | apply pw_below_drewN | apply below_drew1) | exact HB.out)) hb); clear HB; have HB := n0_; clear n0_; (try clear CX); have CX := (HB.out.cell (World.block_lt_of_cell? w _ HX.out)).trans HX.out; obtain ⟨Ap, cp, rfl⟩ : ∃ A c, vr = .slice A (p).length c := Kd.R_slice ho; have HP := Aside0.mk (Kd.R_reads' ho).2.2; have HPL := Aside0.mk (Kd.R_reads' ho).2.1; clear ho; clear hb))
        go_wp2_with (first | (go_at_call 26; (with_reducible refine (C26.out _).mono ?_); rintro e w2 ⟨rfl, hdr⟩; have hb := Drawn0.below' hdr; clear hdr; have n0_ := Aside0.mk (below_step (by repeat (first | (with_reducible first | exact HB.out | apply below_alloc | apply pw_below_drewN | apply below_drew1) | exact HB.out)) hb); have n1_ := Aside0.mk (Kd.C_below (d := Kd.int .u64) (A := Ap) (n := (p).length) (xs := p) (by repeat (first | (with_reducible exact HP.out) | (with_reducible refine Kd.C_alloc ?_ _) | (with_reducible refine Kd.C_drewN ?_ _) | (with_reducible refine Kd.C_drew ?_) | exact HP.out)) hb); clear HB; clear HP; have HB := n0_; have HP := n1_; clear n0_ n1_; (try clear CX); have CX := (HB.out.cell (World.block_lt_of_cell? w _ HX.out)).trans HX.out; clear hb))
        go_wp2_with (first | (go_at_call 21; (with_reducible refine (C21.out _ _ _ ?s1 ?s2 ?s3).mono ?_); (case s1 => exact (Kd.C_below R3.out (by repeat (first | (with_reducible first | exact HB.out | apply below_alloc | apply pw_below_drewN | apply below_drew1) | exact HB.out)))); (case s2 => exact L3.out); (case s3 => exact HT.out.below (by repeat (first | (with_reducible first | exact HB.out | apply below_alloc | apply pw_below_drewN | apply below_drew1) | exact HB.out))); rintro e w2 ⟨rfl, hb⟩; have n0_ := Aside0.mk (below_step (by repeat (first | (with_reducible first | exact HB.out | apply below_alloc | apply pw_below_drewN | apply below_drew1) | exact HB.out)) hb); have n1_ := Aside0.mk (Kd.C_below (d := Kd.int .u64) (A := Ap) (n := (p).length) (xs := p) (by repeat (first | (with_reducible exact HP.out) | (with_reducible refine Kd.C_alloc ?_ _) | (with_reducible refine Kd.C_drewN ?_ _) | (with_reducible refine Kd.C_drew ?_) | exact HP.out)) hb); clear HB; clear HP; have HB := n0_; have HP := n1_; clear n0_ n1_; (try clear CX); have CX := (HB.out.cell (World.block_lt_of_cell? w _ HX.out)).trans HX.out; clear hb))
        go_ret
        exact ⟨rfl, HB.out⟩
      case true =>
        have HBT := Aside0.mk hb.symm
        have d4 : ((l3.length : Int) != (p.length : Int)) = false := by have := LE.out l3 hb.symm; rw [this]; simp
        clear hb
        go_enter Tryd.func8, Tryd.ntmps8
        go_wp2_with (first | (go_at_call 9; (with_reducible refine (HD.out _ ?s3).mono ?_); (case s3 => exact HT.out.below (by repeat (first | (with_reducible first | exact HB.out | apply below_alloc | apply pw_below_drewN | apply below_drew1) | exact HB.out))); rintro e w2 ⟨rfl, hb⟩; have n0_ := Aside0.mk (below_step (by repeat (first | (with_reducible first | exact HB.out | apply below_alloc | apply pw_below_drewN | apply below_drew1) | exact HB.out)) hb); clear HB; have HB := n0_; clear n0_; clear hb))
        go_wp2_with (first | (go_at_call 24; (with_reducible refine (FEW.out _ ?s1).mono ?_); (case s1 => exact (Kd.C_below R0.out (by repeat (first | (with_reducible first | exact HB.out | apply below_alloc | apply pw_below_drewN | apply below_drew1) | exact HB.out)))); rintro e w2 ⟨rfl, hdr⟩; have hb := Drawn0.below' hdr; clear hdr; have n0_ := Aside0.mk (below_step (by repeat (first | (with_reducible first | exact HB.out | apply below_alloc | apply pw_below_drewN | apply below_drew1) | exact HB.out)) hb); clear HB; have HB := n0_; clear n0_; clear hb))
        rw [← HI.out]
        go_wp2_with (first | (go_at_call 16; (with_reducible refine (C16.out _ ?s1 ?s3).mono ?_); (case s1 => exact (Kd.C_below R0.out (by repeat (first | (with_reducible first | exact HB.out | apply below_alloc | apply pw_below_drewN | apply below_drew1) | exact HB.out)))); (case s3 => exact HT.out.below (by repeat (first | (with_reducible first | exact HB.out | apply below_alloc | apply pw_below_drewN | apply below_drew1) | exact HB.out))); rintro e w2 ⟨rfl, hb⟩; have n0_ := Aside0.mk (below_step (by repeat (first | (with_reducible first | exact HB.out | apply below_alloc | apply pw_below_drewN | apply below_drew1) | exact HB.out)) hb); clear HB; have HB := n0_; clear n0_; clear hb))
        go_wp2_with (first | (go_at_call 18; (with_reducible refine (C18.out _ ?s1 ?s3).mono ?_); (case s1 => exact (Kd.C_below R0.out (by repeat (first | (with_reducible first | exact HB.out | apply below_alloc | apply pw_below_drewN | apply below_drew1) | exact HB.out)))); (case s3 => exact HT.out.below (by repeat (first | (with_reducible first | exact HB.out | apply below_alloc | apply pw_below_drewN | apply below_drew1) | exact HB.out))); rintro e w2 ⟨vr, rfl, ho, hb⟩; have n0_ := Aside0.mk (below_step (by repeat (first | (with_reducible first | exact HB.out | apply below_alloc | apply pw_below_drewN | apply below_drew1) | exact HB.out)) hb); clear HB; have HB := n0_; clear n0_; (try clear CX); have CX := (HB.out.cell (World.block_lt_of_cell? w _ HX.out)).trans HX.out; obtain ⟨Ap, cp, rfl⟩ : ∃ A c, vr = .slice A (p).length c := Kd.R_slice ho; have HP := Aside0.mk (Kd.R_reads' ho).2.2; have HPL := Aside0.mk (Kd.R_reads' ho).2.1; clear ho; clear hb))
        go_wp2_with (first | (go_at_call 26; (with_reducible refine (C26.out _).mono ?_); rintro e w2 ⟨rfl, hdr⟩; have hb := Drawn0.below' hdr; clear hdr; have n0_ := Aside0.mk (below_step (by repeat (first | (with_reducible first | exact HB.out | apply below_alloc | apply pw_below_drewN | apply below_drew1) | exact HB.out)) hb); have n1_ := Aside0.mk (Kd.C_below (d := Kd.int .u64) (A := Ap) (n := (p).length) (xs := p) (by repeat (first | (with_reducible exact HP.out) | (with_reducible refine Kd.C_alloc ?_ _) | (with_reducible refine Kd.C_drewN ?_ _) | (with_reducible refine Kd.C_drew ?_) | exact HP.out)) hb); clear HB; clear HP; have HB := n0_; have HP := n1_; clear n0_ n1_; (try clear CX); have CX := (HB.out.cell (World.block_lt_of_cell? w _ HX.out)).trans HX.out; clear hb))
        go_wp2_with (first | (go_at_call 21; (with_reducible refine (C21.out _ _ _ ?s1 ?s2 ?s3).mono ?_); (case s1 => exact (Kd.C_below R3.out (by repeat (first | (with_reducible first | exact HB.out | apply below_alloc | apply pw_below_drewN | apply below_drew1) | exact HB.out)))); (case s2 => exact L3.out); (case s3 => exact HT.out.below (by repeat (first | (with_reducible first | exact HB.out | apply below_alloc | apply pw_below_drewN | apply below_drew1) | exact HB.out))); rintro e w2 ⟨rfl, hb⟩; have n0_ := Aside0.mk (below_step (by repeat (first | (with_reducible first | exact HB.out | apply below_alloc | apply pw_below_drewN | apply below_drew1) | exact HB.out)) hb); have n1_ := Aside0.mk (Kd.C_below (d := Kd.int .u64) (A := Ap) (n := (p).length) (xs := p) (by repeat (first | (with_reducible exact HP.out) | (with_reducible refine Kd.C_alloc ?_ _) | (with_reducible refine Kd.C_drewN ?_ _) | (with_reducible refine Kd.C_drew ?_) | exact HP.out)) hb); clear HB; clear HP; have HB := n0_; have HP := n1_; clear n0_ n1_; (try clear CX); have CX := (HB.out.cell (World.block_lt_of_cell? w _ HX.out)).trans HX.out; clear hb))
        go_wp2_with (first | (go_at_call 27; (with_reducible refine (C27.out _ _ _ _ _ _ HBT.out ?s1 ?s2 ?s4 ?s5 ?s3).mono ?_); (case s1 => exact (by repeat (first | (with_reducible exact HP.out) | (with_reducible refine Kd.C_alloc ?_ _) | (with_reducible refine Kd.C_drewN ?_ _) | (with_reducible refine Kd.C_drew ?_) | exact HP.out))); (case s2 => exact HPL.out); (case s4 => exact (Kd.C_below R3.out (by repeat (first | (with_reducible first | exact HB.out | apply below_alloc | apply pw_below_drewN | apply below_drew1) | exact HB.out)))); (case s5 => exact L3.out); (case s3 => exact HT.out.below (by repeat (first | (with_reducible first | exact HB.out | apply below_alloc | apply pw_below_drewN | apply below_drew1) | exact HB.out))); rintro e w2 ⟨rfl, hb⟩; have n0_ := Aside0.mk (below_step (by repeat (first | (with_reducible first | exact HB.out | apply below_alloc | apply pw_below_drewN | apply below_drew1) | exact HB.out)) hb); have n1_ := Aside0.mk (Kd.C_below (d := Kd.int .u64) (A := Ap) (n := (p).length) (xs := p) (by repeat (first | (with_reducible exact HP.out) | (with_reducible refine Kd.C_alloc ?_ _) | (with_reducible refine Kd.C_drewN ?_ _) | (with_reducible refine Kd.C_drew ?_) | exact HP.out)) hb); clear HB; clear HP; have HB := n0_; have HP := n1_; clear n0_ n1_; (try clear CX); have CX := (HB.out.cell (World.block_lt_of_cell? w _ HX.out)).trans HX.out; clear hb))
        go_ret
        exact ⟨rfl, HB.out⟩
    case true =>
      have C21 := Aside0.mk (fun (A : Option Addr) (c : Nat) (W : World) h h' h3 => C21.out p (by have := P14.out; omega) A c W h h' h3)
      obtain ⟨b, hb⟩ : ∃ b, b = Plain.leadsE r a2 i l0.length p := ⟨_, rfl⟩
      rw [← hb] at C21
      cases b
      case false =>
        clear hb
        go_enter Tryd.func8, Tryd.ntmps8
        go_wp2_with (first | (go_at_call 9; (with_reducible refine (HD.out _ ?s3).mono ?_); (case s3 => exact HT.out.below (by repeat (first | (with_reducible first | exact HB.out | apply below_alloc | apply pw_below_drewN | apply below_drew1) | exact HB.out))); rintro e w2 ⟨rfl, hb⟩; have n0_ := Aside0.mk (below_step (by repeat (first | (with_reducible first | exact HB.out | apply below_alloc | apply pw_below_drewN | apply below_drew1) | exact HB.out)) hb); clear HB; have HB := n0_; clear n0_; clear hb))
        go_wp2_with (first | (go_at_call 24; (with_reducible refine (FEW.out _ ?s1).mono ?_); (case s1 => exact (Kd.C_below R0.out (by repeat (first | (with_reducible first | exact HB.out | apply below_alloc | apply pw_below_drewN | apply below_drew1) | exact HB.out)))); rintro e w2 ⟨rfl, hdr⟩; have hb := Drawn0.below' hdr; clear hdr; have n0_ := Aside0.mk (below_step (by repeat (first | (with_reducible first | exact HB.out | apply below_alloc | apply pw_below_drewN | apply below_drew1) | exact HB.out)) hb); clear HB; have HB := n0_; clear n0_; clear hb))
        rw [← HI.out]
        go_wp2_with (first | (go_at_call 16; (with_reducible refine (C16.out _ ?s1 ?s3).mono ?_); (case s1 => exact (Kd.C_below R0.out (by repeat (first | (with_reducible first | exact HB.out | apply below_alloc | apply pw_below_drewN | apply below_drew1) | exact HB.out)))); (case s3 => exact HT.out.below (by repeat (first | (with_reducible first | exact HB.out | apply below_alloc | apply pw_below_drewN | apply below_drew1) | exact HB.out))); rintro e w2 ⟨rfl, hb⟩; have n0_ := Aside0.mk (below_step (by repeat (first | (with_reducible first | exact HB.out | apply below_alloc | apply pw_below_drewN | apply below_drew1) | exact HB.out)) hb); clear HB; have HB := n0_; clear n0_; clear hb))
        go_wp2_with (first | (go_at_call 18; (with_reducible refine (C18.out _ ?s1 ?s3).mono ?_); (case s1 => exact (Kd.C_below R0.out (by repeat (first | (with_reducible first | exact HB.out | apply below_alloc | apply pw_below_drewN | apply below_drew1) | exact HB.out)))); (case s3 => exact HT.out.below (by repeat (first | (with_reducible first | exact HB.out | apply below_alloc | apply pw_below_drewN | apply below_drew1) | exact HB.out))); rintro e w2 ⟨vr, rfl, ho, hb⟩; have n0_ := Aside0.mk (below_step (by repeat (first | (with_reducible first | exact HB.out | apply below_alloc | apply pw_below_drewN | apply below_drew1) | exact HB.out)) hb); clear HB; have HB := n0_; clear n0_; (try clear CX); have CX := (HB.out.cell (World.block_lt_of_cell? w _ HX.out)).trans HX.out; obtain ⟨Ap, cp, rfl⟩ : ∃ A c, vr = .slice A (p).length c := Kd.R_slice ho; have HP := Aside0.mk (Kd.R_reads' ho).2.2; have HPL := Aside0.mk (Kd.R_reads' ho).2.1; clear ho; clear hb))
        go_wp2_with (first | (go_at_call 26; (with_reducible refine (C26.out _).mono ?_); rintro e w2 ⟨rfl, hdr⟩; have hb := Drawn0.below' hdr; clear hdr; have n0_ := Aside0.mk (below_step (by repeat (first | (with_reducible first | exact HB.out | apply below_alloc | apply pw_below_drewN | apply below_drew1) | exact HB.out)) hb); have n1_ := Aside0.mk (Kd.C_below (d := Kd.int .u64) (A := Ap) (n := (p).length) (xs := p) (by repeat (first | (with_reducible exact HP.out) | (with_reducible refine Kd.C_alloc ?_ _) | (with_reducible refine Kd.C_drewN ?_ _) | (with_reducible refine Kd.C_drew ?_) | exact HP.out)) hb); clear HB; clear HP; have HB := n0_; have HP := n1_; clear n0_ n1_; (try clear CX); have CX := (HB.out.cell (World.block_lt_of_cell? w _ HX.out)).trans HX.out; clear hb))
        go_wp2_with (first | (go_at_call 21; (with_reducible refine (C21.out _ _ _ ?s1 ?s2 ?s3).mono ?_); (case s1 => exact (by repeat (first | (with_reducible exact HP.out) | (with_reducible refine Kd.C_alloc ?_ _) | (with_reducible refine Kd.C_drewN ?_ _) | (with_reducible refine Kd.C_drew ?_) | exact HP.out))); (case s2 => exact HPL.out); (case s3 => exact HT.out.below (by repeat (first | (with_reducible first | exact HB.out | apply below_alloc | apply pw_below_drewN | apply below_drew1) | exact HB.out))); rintro e w2 ⟨rfl, hb⟩; have n0_ := Aside0.mk (below_step (by repeat (first | (with_reducible first | exact HB.out | apply below_alloc | apply pw_below_drewN | apply below_drew1) | exact HB.out)) hb); have n1_ := Aside0.mk (Kd.C_below (d := Kd.int .u64) (A := Ap) (n := (p).length) (xs := p) (by repeat (first | (with_reducible exact HP.out) | (with_reducible refine Kd.C_alloc ?_ _) | (with_reducible refine Kd.C_drewN ?_ _) | (with_reducible refine Kd.C_drew ?_) | exact HP.out)) hb); clear HB; clear HP; have HB := n0_; have HP := n1_; clear n0_ n1_; (try clear CX); have CX := (HB.out.cell (World.block_lt_of_cell? w _ HX.out)).trans HX.out; clear hb))
        go_ret
        exact ⟨rfl, HB.out⟩
      case true =>
        have HBT := Aside0.mk hb.symm
        clear hb
        go_enter Tryd.func8, Tryd.ntmps8
        go_wp2_with (first | (go_at_call 9; (with_reducible refine (HD.out _ ?s3).mono ?_); (case s3 => exact HT.out.below (by repeat (first | (with_reducible first | exact HB.out | apply below_alloc | apply pw_below_drewN | apply below_drew1) | exact HB.out))); rintro e w2 ⟨rfl, hb⟩; have n0_ := Aside0.mk (below_step (by repeat (first | (with_reducible first | exact HB.out | apply below_alloc | apply pw_below_drewN | apply below_drew1) | exact HB.out)) hb); clear HB; have HB := n0_; clear n0_; clear hb))
        go_wp2_with (first | (go_at_call 24; (with_reducible refine (FEW.out _ ?s1).mono ?_); (case s1 => exact (Kd.C_below R0.out (by repeat (first | (with_reducible first | exact HB.out | apply below_alloc | apply pw_below_drewN | apply below_drew1) | exact HB.out)))); rintro e w2 ⟨rfl, hdr⟩; have hb := Drawn0.below' hdr; clear hdr; have n0_ := Aside0.mk (below_step (by repeat (first | (with_reducible first | exact HB.out | apply below_alloc | apply pw_below_drewN | apply below_drew1) | exact HB.out)) hb); clear HB; have HB := n0_; clear n0_; clear hb))
        rw [← HI.out]
        go_wp2_with (first | (go_at_call 16; (with_reducible refine (C16.out _ ?s1 ?s3).mono ?_); (case s1 => exact (Kd.C_below R0.out (by repeat (first | (with_reducible first | exact HB.out | apply below_alloc | apply pw_below_drewN | apply below_drew1) | exact HB.out)))); (case s3 => exact HT.out.below (by repeat (first | (with_reducible first | exact HB.out | apply below_alloc | apply pw_below_drewN | apply below_drew1) | exact HB.out))); rintro e w2 ⟨rfl, hb⟩; have n0_ := Aside0.mk (below_step (by repeat (first | (with_reducible first | exact HB.out | apply below_alloc | apply pw_below_drewN | apply below_drew1) | exact HB.out)) hb); clear HB; have HB := n0_; clear n0_; clear hb))
        go_wp2_with (first | (go_at_call 18; (with_reducible refine (C18.out _ ?s1 ?s3).mono ?_); (case s1 => exact (Kd.C_below R0.out (by repeat (first | (with_reducible first | exact HB.out | apply below_alloc | apply pw_below_drewN | apply below_drew1) | exact HB.out)))); (case s3 => exact HT.out.below (by repeat (first | (with_reducible first | exact HB.out | apply below_alloc | apply pw_below_drewN | apply below_drew1) | exact HB.out))); rintro e w2 ⟨vr, rfl, ho, hb⟩; have n0_ := Aside0.mk (below_step (by repeat (first | (with_reducible first | exact HB.out | apply below_alloc | apply pw_below_drewN | apply below_drew1) | exact HB.out)) hb); clear HB; have HB := n0_; clear n0_; (try clear CX); have CX := (HB.out.cell (World.block_lt_of_cell? w _ HX.out)).trans HX.out; obtain ⟨Ap, cp, rfl⟩ : ∃ A c, vr = .slice A (p).length c := Kd.R_slice ho; have HP := Aside0.mk (Kd.R_reads' ho).2.2; have HPL := Aside0.mk (Kd.R_reads' ho).2.1; clear ho; clear hb))
        go_wp2_with (first | (go_at_call 26; (with_reducible refine (C26.out _).mono ?_); rintro e w2 ⟨rfl, hdr⟩; have hb := Drawn0.below' hdr; clear hdr; have n0_ := Aside0.mk (below_step (by repeat (first | (with_reducible first | exact HB.out | apply below_alloc | apply pw_below_drewN | apply below_drew1) | exact HB.out)) hb); have n1_ := Aside0.mk (Kd.C_below (d := Kd.int .u64) (A := Ap) (n := (p).length) (xs := p) (by repeat (first | (with_reducible exact HP.out) | (with_reducible refine Kd.C_alloc ?_ _) | (with_reducible refine Kd.C_drewN ?_ _) | (with_reducible refine Kd.C_drew ?_) | exact HP.out)) hb); clear HB; clear HP; have HB := n0_; have HP := n1_; clear n0_ n1_; (try clear CX); have CX := (HB.out.cell (World.block_lt_of_cell? w _ HX.out)).trans HX.out; clear hb))
        go_wp2_with (first | (go_at_call 21; (with_reducible refine (C21.out _ _ _ ?s1 ?s2 ?s3).mono ?_); (case s1 => exact (by repeat (first | (with_reducible exact HP.out) | (with_reducible refine Kd.C_alloc ?_ _) | (with_reducible refine Kd.C_drewN ?_ _) | (with_reducible refine Kd.C_drew ?_) | exact HP.out))); (case s2 => exact HPL.out); (case s3 => exact HT.out.below (by repeat (first | (with_reducible first | exact HB.out | apply below_alloc | apply pw_below_drewN | apply below_drew1) | exact HB.out))); rintro e w2 ⟨rfl, hb⟩; have n0_ := Aside0.mk (below_step (by repeat (first | (with_reducible first | exact HB.out | apply below_alloc | apply pw_below_drewN | apply below_drew1) | exact HB.out)) hb); have n1_ := Aside0.mk (Kd.C_below (d := Kd.int .u64) (A := Ap) (n := (p).length) (xs := p) (by repeat (first | (with_reducible exact HP.out) | (with_reducible refine Kd.C_alloc ?_ _) | (with_reducible refine Kd.C_drewN ?_ _) | (with_reducible refine Kd.C_drew ?_) | exact HP.out)) hb); clear HB; clear HP; have HB := n0_; have HP := n1_; clear n0_ n1_; (try clear CX); have CX := (HB.out.cell (World.block_lt_of_cell? w _ HX.out)).trans HX.out; clear hb))
        go_wp2_with (first | (go_at_call 27; (with_reducible refine (C27.out _ _ _ _ _ _ HBT.out ?s1 ?s2 ?s4 ?s5 ?s3).mono ?_); (case s1 => exact (by repeat (first | (with_reducible exact HP.out) | (with_reducible refine Kd.C_alloc ?_ _) | (with_reducible refine Kd.C_drewN ?_ _) | (with_reducible refine Kd.C_drew ?_) | exact HP.out))); (case s2 => exact HPL.out); (case s4 => exact (by repeat (first | (with_reducible exact HP.out) | (with_reducible refine Kd.C_alloc ?_ _) | (with_reducible refine Kd.C_drewN ?_ _) | (with_reducible refine Kd.C_drew ?_) | exact HP.out))); (case s5 => exact HPL.out); (case s3 => exact HT.out.below (by repeat (first | (with_reducible first | exact HB.out | apply below_alloc | apply pw_below_drewN | apply below_drew1) | exact HB.out))); rintro e w2 ⟨rfl, hb⟩; have n0_ := Aside0.mk (below_step (by repeat (first | (with_reducible first | exact HB.out | apply below_alloc | apply pw_below_drewN | apply below_drew1) | exact HB.out)) hb); have n1_ := Aside0.mk (Kd.C_below (d := Kd.int .u64) (A := Ap) (n := (p).length) (xs := p) (by repeat (first | (with_reducible exact HP.out) | (with_reducible refine Kd.C_alloc ?_ _) | (with_reducible refine Kd.C_drewN ?_ _) | (with_reducible refine Kd.C_drew ?_) | exact HP.out)) hb); clear HB; clear HP; have HB := n0_; have HP := n1_; clear n0_ n1_; (try clear CX); have CX := (HB.out.cell (World.block_lt_of_cell? w _ HX.out)).trans HX.out; clear hb))
        go_ret
        exact ⟨rfl, HB.out⟩
theorem formelaw04_DigestOthers.calls (A0 : Option Addr) (c0 : Nat) (l0 : List Int) (a1 a2 : Int) (A3 : Option Addr) (c3 : Nat) (l3 : List Int) (a4 : Bool) (r : Bool) (w : World)
    (hr0 : Kd.C (Kd.int .u64) w A0 l0.length l0) (hc0 : l0.length ≤ c0) (hr3 : Kd.C (Kd.int .u64) w A3 l3.length l3) (hc3 : l3.length ≤ c3) (h : formelaw04_DigestOthers.f l0 a1 a2 l3 a4 = some r) (hT : Tab w) :
    Calls Tryd.prog 8 #[.slice A0 l0.length c0, .int .u16 a1, .int .u64 a2, .slice A3 l3.length c3, .bool a4] w fun e w' => e = .returned (.bool r) ∧ Below w.heap.size w w' := by
  unfold formelaw04_DigestOthers.f at h
  split at h
  case isFalse => cases h
  rename_i hok
  obtain rfl := Option.some.inj h
  exact others_calls A0 c0 l0 a1 a2 A3 c3 l3 a4 w hr0 hc0 hr3 hc3 hok.1 hok.2 hT

end Go.Proofs.YtffmflmpiekcfaaDoor.PAll
