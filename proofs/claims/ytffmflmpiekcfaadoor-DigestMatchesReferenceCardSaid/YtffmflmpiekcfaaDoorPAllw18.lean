/- Printed by a program of this session (wip/gprint.py) over the translation. Not trusted: Lean checks it. -/
import Derived.Test.YtffmflmpiekcfaaDoorPAlld0
import Derived.Test.YtffmflmpiekcfaaDoorHeadPlain
import Derived.Test.YtffmflmpiekcfaaDoorPAllw0
import Derived.Test.YtffmflmpiekcfaaDoorPAllw3
import Derived.Test.YtffmflmpiekcfaaDoorPAllw6
import Derived.Test.YtffmflmpiekcfaaDoorPAllw7
import Derived.Test.YtffmflmpiekcfaaDoorPAllw8
import Derived.Test.YtffmflmpiekcfaaDoorPAllw10
import Derived.Test.YtffmflmpiekcfaaDoorPAllw11
import Derived.Test.YtffmflmpiekcfaaDoorPAllw12
import Derived.Test.YtffmflmpiekcfaaDoorPAllw14
import Derived.Test.YtffmflmpiekcfaaDoorPAllw15
import Derived.Test.YtffmflmpiekcfaaDoorPAllw17
namespace Go.Proofs.YtffmflmpiekcfaaDoor.PAll
open Go.RowKit Go.Proofs.YtffmflmpiekcfaaDoorW.PrintWords Go.Proofs.YtffmflmpiekcfaaDoorW.PrintLast Go.Proofs.YtffmflmpiekcfaaDoorW.PrintMore
attribute [local go_sem] max2_int min2_int max_two min_two max_three min_three max_four min_four   -- for this text's walks alone
set_option linter.unusedVariables false
set_option linter.unusedSimpArgs false


theorem rLeads_calls (r a1 a4 a5 : Int) (A : Option Addr) (c : Nat) (l : List Int) (W : World) (hl : l.length ≤ 1000000) (h : Kd.C (Kd.int .u64) W A l.length l) (h' : l.length ≤ c) :
    Calls Tryd.prog 22 #[.int .u64 r, .int .u64 a1, .int .i64 a4, .int .i64 a5, .slice A l.length c] W fun e w' => e = .returned (.bool (Plain.leadsE r a1 a4 a5 l)) ∧ Below W.heap.size W w' := by
  obtain ⟨K, hK⟩ := (Plain.refLeads_ev r a1 a4 a5 (p := l) (by omega)).rounds
  exact formeref04_Leads.calls K r a1 a4 a5 A c l _ W h h' hK
theorem rRoot_calls (A : Option Addr) (c : Nat) (l : List Int) (W : World) (h : Kd.C (Kd.int .u64) W A l.length l) (h' : l.length ≤ c) :
    Calls Tryd.prog 17 #[.slice A l.length c] W fun e w' => e = .returned (.tuple #[.int .u64 (Plain.rootE l).1, .int .i64 (Plain.rootE l).2]) ∧ Below W.heap.size W w' := by
  obtain ⟨K, hK⟩ := (Plain.refRoot_ev l).rounds
  exact formeref04_Root.calls K A c l _ _ W h h' hK
theorem rPath_calls (A : Option Addr) (c : Nat) (l : List Int) (i : Int) (W : World) (h : Kd.C (Kd.int .u64) W A l.length l) (h' : l.length ≤ c) :
    Calls Tryd.prog 19 #[.slice A l.length c, .int .i64 i] W fun e w' => ∃ v0_ : Value, e = .returned (.tuple #[v0_, .int .i64 (Plain.pathE l i).2]) ∧ Kd.R (Kd.int .u64) 23 w' W.heap.size (fun _ => True) v0_ (Plain.pathE l i).1 ∧ Below W.heap.size W w' := by
  obtain ⟨K, hK⟩ := (Plain.refPath_ev l i).rounds
  exact formeref04_Path.calls K A c l i _ _ W h h' hK
theorem same_calls (p : List Int) (hp : p.length ≤ 1000000) (A : Option Addr) (c : Nat) (A' : Option Addr) (c' : Nat) (W : World) (h1 : Kd.C (Kd.int .u64) W A p.length p) (h2 : p.length ≤ c) (h3 : Kd.C (Kd.int .u64) W A' p.length p) (h4 : p.length ≤ c') :
    Calls Tryd.prog 20 #[.slice A p.length c, .slice A' p.length c'] W fun e w' => e = .returned (.bool true) ∧ Drawn0 W w' := by
  obtain ⟨K, hK⟩ := (Plain.same_ev hp).rounds
  exact formeref04_Same.calls K A c p A' c' p true W h1 h2 h3 h4 hK
set_option maxHeartbeats 8000000 in
set_option maxRecDepth 100000 in
theorem matches_calls (A0 : Option Addr) (c0 : Nat) (l0 : List Int) (a1 : Int) (A2 : Option Addr) (c2 : Nat) (l2 : List Int) (A3 : Option Addr) (c3 : Nat) (l3 : List Int) (a4 a5 : Int) (A6 : Option Addr) (c6 : Nat) (l6 : List Int) (a7 : Int) (w : World)
    (hr0 : Kd.C (Kd.int .u8) w A0 l0.length l0) (hc0 : l0.length ≤ c0) (hr2 : Kd.C (Kd.int .i64) w A2 l2.length l2) (hc2 : l2.length ≤ c2) (hr3 : Kd.C (Kd.int .u64) w A3 l3.length l3) (hc3 : l3.length ≤ c3) (hr6 : Kd.C (Kd.int .u64) w A6 l6.length l6) (hc6 : l6.length ≤ c6) (hok : nextOk l2) (hT : Tab w) :
    Calls Tryd.prog 3 #[.slice A0 l0.length c0, .int .u64 a1, .slice A2 l2.length c2, .slice A3 l3.length c3, .int .i64 a4, .int .i64 a5, .slice A6 l6.length c6, .int .u8 a7] w fun e w' => e = .returned (.bool true) ∧ Below w.heap.size w w' := by
  have HT := Aside0.mk hT
  have R0 := Aside0.mk hr0
  have R2 := Aside0.mk hr2
  have R3 := Aside0.mk hr3
  have R6 := Aside0.mk hr6
  have L0 := Aside0.mk hc0
  have L2 := Aside0.mk hc2
  have L3 := Aside0.mk hc3
  have L6 := Aside0.mk hc6
  have HB := Aside0.mk (Below.refl w.heap.size w)
  have HD := Aside0.mk (fun W h => formelaw04_head.calls true W rfl h)
  clear hT hr0 hr2 hr3 hr6 hc0 hc2 hc3 hc6
  by_cases b0 : (l0.length : Int) > 300
  · have d0 : decide ((l0.length : Int) > 300) = true := decide_eq_true b0
    clear b0 hok
    go_enter Tryd.func3, Tryd.ntmps3
    go_wp2_with (first | (go_at_call 9; (with_reducible refine (HD.out _ ?s3).mono ?_); (case s3 => exact HT.out.below (by repeat (first | (with_reducible first | exact HB.out | apply below_alloc | apply pw_below_drewN | apply below_drew1) | exact HB.out))); rintro e w2 ⟨rfl, hb⟩; have n0_ := Aside0.mk (below_step (by repeat (first | (with_reducible first | exact HB.out | apply below_alloc | apply pw_below_drewN | apply below_drew1) | exact HB.out)) hb); clear HB; have HB := n0_; clear n0_; clear hb))
    go_ret
    exact ⟨rfl, HB.out⟩
  have d0 : decide ((l0.length : Int) > 300) = false := decide_eq_false b0
  by_cases b2 : (l2.length : Int) > 100
  · have d2 : decide ((l2.length : Int) > 100) = true := decide_eq_true b2
    clear b2 hok
    go_enter Tryd.func3, Tryd.ntmps3
    go_wp2_with (first | (go_at_call 9; (with_reducible refine (HD.out _ ?s3).mono ?_); (case s3 => exact HT.out.below (by repeat (first | (with_reducible first | exact HB.out | apply below_alloc | apply pw_below_drewN | apply below_drew1) | exact HB.out))); rintro e w2 ⟨rfl, hb⟩; have n0_ := Aside0.mk (below_step (by repeat (first | (with_reducible first | exact HB.out | apply below_alloc | apply pw_below_drewN | apply below_drew1) | exact HB.out)) hb); clear HB; have HB := n0_; clear n0_; clear hb))
    go_ret
    exact ⟨rfl, HB.out⟩
  have d2 : decide ((l2.length : Int) > 100) = false := decide_eq_false b2
  by_cases b3 : (l3.length : Int) > 70
  · have d3 : decide ((l3.length : Int) > 70) = true := decide_eq_true b3
    clear b3 hok
    go_enter Tryd.func3, Tryd.ntmps3
    go_wp2_with (first | (go_at_call 9; (with_reducible refine (HD.out _ ?s3).mono ?_); (case s3 => exact HT.out.below (by repeat (first | (with_reducible first | exact HB.out | apply below_alloc | apply pw_below_drewN | apply below_drew1) | exact HB.out))); rintro e w2 ⟨rfl, hb⟩; have n0_ := Aside0.mk (below_step (by repeat (first | (with_reducible first | exact HB.out | apply below_alloc | apply pw_below_drewN | apply below_drew1) | exact HB.out)) hb); clear HB; have HB := n0_; clear n0_; clear hb))
    go_ret
    exact ⟨rfl, HB.out⟩
  have d3 : decide ((l3.length : Int) > 70) = false := decide_eq_false b3
  by_cases b6 : (l6.length : Int) > 40
  · have d6 : decide ((l6.length : Int) > 40) = true := decide_eq_true b6
    clear b6 hok
    go_enter Tryd.func3, Tryd.ntmps3
    go_wp2_with (first | (go_at_call 9; (with_reducible refine (HD.out _ ?s3).mono ?_); (case s3 => exact HT.out.below (by repeat (first | (with_reducible first | exact HB.out | apply below_alloc | apply pw_below_drewN | apply below_drew1) | exact HB.out))); rintro e w2 ⟨rfl, hb⟩; have n0_ := Aside0.mk (below_step (by repeat (first | (with_reducible first | exact HB.out | apply below_alloc | apply pw_below_drewN | apply below_drew1) | exact HB.out)) hb); clear HB; have HB := n0_; clear n0_; clear hb))
    go_ret
    exact ⟨rfl, HB.out⟩
  have d6 : decide ((l6.length : Int) > 40) = false := decide_eq_false b6
  obtain ⟨KS, S1⟩ := (Plain.sum_ev (l := l0) (by omega)).rounds
  obtain ⟨KR, S2⟩ := (Plain.refsum_ev (l := l0) (by omega)).rounds
  generalize Plain.sumP l0 = s at S1 S2
  obtain ⟨KN, N1⟩ := (next_ev (l := l2) (by omega) hok a1).rounds
  obtain ⟨KM, N2⟩ := (Plain.refnext_ev (l := l2) (d := a1) (by omega) hok).rounds
  generalize nextP a1 l2 = x at N1 N2
  obtain ⟨KP, P1⟩ := (pair_ev a1 s).rounds
  obtain ⟨KQ, P2⟩ := (Plain.refpair_ev a1 s).rounds
  generalize pairP a1 s = y at P1 P2
  have C10 := Aside0.mk (fun W h => digest_Sum.calls KS A0 c0 l0 s W h L0.out S1)
  have C11 := Aside0.mk (fun W h => formeref04_Sum.calls KR A0 c0 l0 s W h L0.out S2)
  have C12 := Aside0.mk (fun W h h3 => digest_Next.calls KN a1 A2 c2 l2 x W h L2.out N1 h3)
  have C13 := Aside0.mk (fun W h => formeref04_Next.calls KM a1 A2 c2 l2 x W h L2.out N2)
  have C14 := Aside0.mk (fun W => digest_Pair.calls KP a1 s y W P1)
  have C15 := Aside0.mk (fun W => formeref04_Pair.calls KQ a1 s y W P2)
  clear S1 S2 N1 N2 P1 P2 hok b0 b2 b3
  have ROOT := Aside0.mk (fun (A : Option Addr) (c : Nat) (l : List Int) W h h' h3 => digest_Root.calls A c l (Plain.rootE l).1 (Plain.rootE l).2 W h h' (Plain.root_ev l) h3)
  have LEADS := Aside0.mk (fun r W h h3 => digest_Leads.calls r a1 a4 a5 A6 c6 l6 (Plain.leadsE r a1 a4 a5 l6) W h L6.out (Plain.leads_ev r a1 a4 a5 (by omega)) h3)
  have PATH := Aside0.mk (fun (A : Option Addr) (c : Nat) (l : List Int) W h h' h3 => digest_Path.calls A c l a4 (Plain.pathE l a4).1 (Plain.pathE l a4).2 W h h' (Plain.path_ev l a4) h3)
  have LL := Aside0.mk (show l6.length ≤ 1000000 by omega)
  clear b6
  by_cases b7 : a7 = 1
  case neg =>
    have d7 : (a7 == 1) = false := beq_eq_false_iff_ne.mpr b7
    clear b7
    go_enter Tryd.func3, Tryd.ntmps3
    go_wp2_with (first | (go_at_call 9; (with_reducible refine (HD.out _ ?s3).mono ?_); (case s3 => exact HT.out.below (by repeat (first | (with_reducible first | exact HB.out | apply below_alloc | apply pw_below_drewN | apply below_drew1) | exact HB.out))); rintro e w2 ⟨rfl, hb⟩; have n0_ := Aside0.mk (below_step (by repeat (first | (with_reducible first | exact HB.out | apply below_alloc | apply pw_below_drewN | apply below_drew1) | exact HB.out)) hb); clear HB; have HB := n0_; clear n0_; clear hb))
    go_wp2_with (first | (go_at_call 10; (with_reducible refine (C10.out _ ?s1).mono ?_); (case s1 => exact (Kd.C_below R0.out (by repeat (first | (with_reducible first | exact HB.out | apply below_alloc | apply pw_below_drewN | apply below_drew1) | exact HB.out)))); rintro e w2 ⟨rfl, hdr⟩; have hb := Drawn0.below' hdr; clear hdr; have n0_ := Aside0.mk (below_step (by repeat (first | (with_reducible first | exact HB.out | apply below_alloc | apply pw_below_drewN | apply below_drew1) | exact HB.out)) hb); clear HB; have HB := n0_; clear n0_; clear hb))
    go_wp2_with (first | (go_at_call 11; (with_reducible refine (C11.out _ ?s1).mono ?_); (case s1 => exact (Kd.C_below R0.out (by repeat (first | (with_reducible first | exact HB.out | apply below_alloc | apply pw_below_drewN | apply below_drew1) | exact HB.out)))); rintro e w2 ⟨rfl, hdr⟩; have hb := Drawn0.below' hdr; clear hdr; have n0_ := Aside0.mk (below_step (by repeat (first | (with_reducible first | exact HB.out | apply below_alloc | apply pw_below_drewN | apply below_drew1) | exact HB.out)) hb); clear HB; have HB := n0_; clear n0_; clear hb))
    go_wp2_with (first | (go_at_call 12; (with_reducible refine (C12.out _ ?s1 ?s3).mono ?_); (case s1 => exact (Kd.C_below R2.out (by repeat (first | (with_reducible first | exact HB.out | apply below_alloc | apply pw_below_drewN | apply below_drew1) | exact HB.out)))); (case s3 => exact HT.out.below (by repeat (first | (with_reducible first | exact HB.out | apply below_alloc | apply pw_below_drewN | apply below_drew1) | exact HB.out))); rintro e w2 ⟨rfl, hb⟩; have n0_ := Aside0.mk (below_step (by repeat (first | (with_reducible first | exact HB.out | apply below_alloc | apply pw_below_drewN | apply below_drew1) | exact HB.out)) hb); clear HB; have HB := n0_; clear n0_; clear hb))
    go_wp2_with (first | (go_at_call 13; (with_reducible refine (C13.out _ ?s1).mono ?_); (case s1 => exact (Kd.C_below R2.out (by repeat (first | (with_reducible first | exact HB.out | apply below_alloc | apply pw_below_drewN | apply below_drew1) | exact HB.out)))); rintro e w2 ⟨rfl, hb⟩; have n0_ := Aside0.mk (below_step (by repeat (first | (with_reducible first | exact HB.out | apply below_alloc | apply pw_below_drewN | apply below_drew1) | exact HB.out)) hb); clear HB; have HB := n0_; clear n0_; clear hb))
    go_wp2_with (first | (go_at_call 11; (with_reducible refine (C11.out _ ?s1).mono ?_); (case s1 => exact (Kd.C_below R0.out (by repeat (first | (with_reducible first | exact HB.out | apply below_alloc | apply pw_below_drewN | apply below_drew1) | exact HB.out)))); rintro e w2 ⟨rfl, hdr⟩; have hb := Drawn0.below' hdr; clear hdr; have n0_ := Aside0.mk (below_step (by repeat (first | (with_reducible first | exact HB.out | apply below_alloc | apply pw_below_drewN | apply below_drew1) | exact HB.out)) hb); clear HB; have HB := n0_; clear n0_; clear hb))
    go_wp2_with (first | (go_at_call 14; (with_reducible refine (C14.out _).mono ?_); rintro e w2 ⟨rfl, hb⟩; have n0_ := Aside0.mk (below_step (by repeat (first | (with_reducible first | exact HB.out | apply below_alloc | apply pw_below_drewN | apply below_drew1) | exact HB.out)) hb); clear HB; have HB := n0_; clear n0_; clear hb))
    go_wp2_with (first | (go_at_call 11; (with_reducible refine (C11.out _ ?s1).mono ?_); (case s1 => exact (Kd.C_below R0.out (by repeat (first | (with_reducible first | exact HB.out | apply below_alloc | apply pw_below_drewN | apply below_drew1) | exact HB.out)))); rintro e w2 ⟨rfl, hdr⟩; have hb := Drawn0.below' hdr; clear hdr; have n0_ := Aside0.mk (below_step (by repeat (first | (with_reducible first | exact HB.out | apply below_alloc | apply pw_below_drewN | apply below_drew1) | exact HB.out)) hb); clear HB; have HB := n0_; clear n0_; clear hb))
    go_wp2_with (first | (go_at_call 15; (with_reducible refine (C15.out _).mono ?_); rintro e w2 ⟨rfl, hb⟩; have n0_ := Aside0.mk (below_step (by repeat (first | (with_reducible first | exact HB.out | apply below_alloc | apply pw_below_drewN | apply below_drew1) | exact HB.out)) hb); clear HB; have HB := n0_; clear n0_; clear hb))
    go_wp2_with (first | (go_at_call 16; (with_reducible refine (ROOT.out _ _ _ _ ?s1 L3.out ?s3).mono ?_); (case s1 => exact (Kd.C_below R3.out (by repeat (first | (with_reducible first | exact HB.out | apply below_alloc | apply pw_below_drewN | apply below_drew1) | exact HB.out)))); (case s3 => exact HT.out.below (by repeat (first | (with_reducible first | exact HB.out | apply below_alloc | apply pw_below_drewN | apply below_drew1) | exact HB.out))); rintro e w2 ⟨rfl, hb⟩; have n0_ := Aside0.mk (below_step (by repeat (first | (with_reducible first | exact HB.out | apply below_alloc | apply pw_below_drewN | apply below_drew1) | exact HB.out)) hb); clear HB; have HB := n0_; clear n0_; clear hb))
    go_wp2_with (first | (go_at_call 17; (with_reducible refine ((rRoot_calls _ _ _ _ ?s1 L3.out)).mono ?_); (case s1 => exact (Kd.C_below R3.out (by repeat (first | (with_reducible first | exact HB.out | apply below_alloc | apply pw_below_drewN | apply below_drew1) | exact HB.out)))); rintro e w2 ⟨rfl, hb⟩; have n0_ := Aside0.mk (below_step (by repeat (first | (with_reducible first | exact HB.out | apply below_alloc | apply pw_below_drewN | apply below_drew1) | exact HB.out)) hb); clear HB; have HB := n0_; clear n0_; clear hb))
    go_wp2_with (first | (go_at_call 18; (with_reducible refine (PATH.out _ _ _ _ ?s1 L3.out ?s3).mono ?_); (case s1 => exact (Kd.C_below R3.out (by repeat (first | (with_reducible first | exact HB.out | apply below_alloc | apply pw_below_drewN | apply below_drew1) | exact HB.out)))); (case s3 => exact HT.out.below (by repeat (first | (with_reducible first | exact HB.out | apply below_alloc | apply pw_below_drewN | apply below_drew1) | exact HB.out))); rintro e w2 ⟨vr, rfl, ho, hb⟩; have n0_ := Aside0.mk (below_step (by repeat (first | (with_reducible first | exact HB.out | apply below_alloc | apply pw_below_drewN | apply below_drew1) | exact HB.out)) hb); clear HB; have HB := n0_; clear n0_; obtain ⟨Ap, cp, rfl⟩ : ∃ A c, vr = .slice A ((Plain.pathE l3 a4).1).length c := Kd.R_slice ho; have HP := Aside0.mk (Kd.R_reads' ho).2.2; have HPL := Aside0.mk (Kd.R_reads' ho).2.1; clear ho; clear hb))
    go_wp2_with (first | (go_at_call 19; (with_reducible refine ((rPath_calls _ _ _ _ _ ?s1 L3.out)).mono ?_); (case s1 => exact (Kd.C_below R3.out (by repeat (first | (with_reducible first | exact HB.out | apply below_alloc | apply pw_below_drewN | apply below_drew1) | exact HB.out)))); rintro e w2 ⟨vr, rfl, ho, hb⟩; have n0_ := Aside0.mk (below_step (by repeat (first | (with_reducible first | exact HB.out | apply below_alloc | apply pw_below_drewN | apply below_drew1) | exact HB.out)) hb); have n1_ := Aside0.mk (Kd.C_below (d := Kd.int .u64) (A := Ap) (n := ((Plain.pathE l3 a4).1).length) (xs := (Plain.pathE l3 a4).1) (by repeat (first | (with_reducible exact HP.out) | (with_reducible refine Kd.C_alloc ?_ _) | (with_reducible refine Kd.C_drewN ?_ _) | (with_reducible refine Kd.C_drew ?_) | exact HP.out)) hb); clear HB; clear HP; have HB := n0_; have HP := n1_; clear n0_ n1_; obtain ⟨Aq, cq, rfl⟩ : ∃ A c, vr = .slice A ((Plain.pathE l3 a4).1).length c := Kd.R_slice ho; have HQ := Aside0.mk (Kd.R_reads' ho).2.2; have HQL := Aside0.mk (Kd.R_reads' ho).2.1; clear ho; clear hb))
    go_wp2_with (first | (go_at_call 20; (with_reducible refine ((same_calls _ (Plain.pathE_len l3 a4) _ _ _ _ _ ?s1 HPL.out ?s2 HQL.out)).mono ?_); (case s1 => exact (by repeat (first | (with_reducible exact HP.out) | (with_reducible refine Kd.C_alloc ?_ _) | (with_reducible refine Kd.C_drewN ?_ _) | (with_reducible refine Kd.C_drew ?_) | exact HP.out))); (case s2 => exact (by repeat (first | (with_reducible exact HQ.out) | (with_reducible refine Kd.C_alloc ?_ _) | (with_reducible refine Kd.C_drewN ?_ _) | (with_reducible refine Kd.C_drew ?_) | exact HQ.out))); rintro e w2 ⟨rfl, hdr⟩; have hb := Drawn0.below' hdr; clear hdr; have n0_ := Aside0.mk (below_step (by repeat (first | (with_reducible first | exact HB.out | apply below_alloc | apply pw_below_drewN | apply below_drew1) | exact HB.out)) hb); have n1_ := Aside0.mk (Kd.C_below (d := Kd.int .u64) (A := Ap) (n := ((Plain.pathE l3 a4).1).length) (xs := (Plain.pathE l3 a4).1) (by repeat (first | (with_reducible exact HP.out) | (with_reducible refine Kd.C_alloc ?_ _) | (with_reducible refine Kd.C_drewN ?_ _) | (with_reducible refine Kd.C_drew ?_) | exact HP.out)) hb); have n2_ := Aside0.mk (Kd.C_below (d := Kd.int .u64) (A := Aq) (n := ((Plain.pathE l3 a4).1).length) (xs := (Plain.pathE l3 a4).1) (by repeat (first | (with_reducible exact HQ.out) | (with_reducible refine Kd.C_alloc ?_ _) | (with_reducible refine Kd.C_drewN ?_ _) | (with_reducible refine Kd.C_drew ?_) | exact HQ.out)) hb); clear HB; clear HP; clear HQ; have HB := n0_; have HP := n1_; have HQ := n2_; clear n0_ n1_ n2_; clear hb))
    go_wp2_with (first | (go_at_call 21; (with_reducible refine (LEADS.out _ _ ?s1 ?s3).mono ?_); (case s1 => exact (Kd.C_below R6.out (by repeat (first | (with_reducible first | exact HB.out | apply below_alloc | apply pw_below_drewN | apply below_drew1) | exact HB.out)))); (case s3 => exact HT.out.below (by repeat (first | (with_reducible first | exact HB.out | apply below_alloc | apply pw_below_drewN | apply below_drew1) | exact HB.out))); rintro e w2 ⟨rfl, hb⟩; have n0_ := Aside0.mk (below_step (by repeat (first | (with_reducible first | exact HB.out | apply below_alloc | apply pw_below_drewN | apply below_drew1) | exact HB.out)) hb); clear HB; have HB := n0_; clear n0_; clear hb))
    go_wp2_with (first | (go_at_call 22; (with_reducible refine ((rLeads_calls _ _ _ _ _ _ _ _ LL.out ?s1 L6.out)).mono ?_); (case s1 => exact (Kd.C_below R6.out (by repeat (first | (with_reducible first | exact HB.out | apply below_alloc | apply pw_below_drewN | apply below_drew1) | exact HB.out)))); rintro e w2 ⟨rfl, hb⟩; have n0_ := Aside0.mk (below_step (by repeat (first | (with_reducible first | exact HB.out | apply below_alloc | apply pw_below_drewN | apply below_drew1) | exact HB.out)) hb); clear HB; have HB := n0_; clear n0_; clear hb))
    go_ret
    exact ⟨rfl, HB.out⟩
  case pos =>
    have d7 : (a7 == 1) = true := beq_iff_eq.mpr b7
    clear b7
    obtain ⟨Z, hZ, kmk⟩ := make_long
    have HZ := Aside0.mk hZ
    have HLR := Aside0.mk (show (List.replicate 10001 (0 : Int)).length ≤ 10001 by rw [List.length_replicate]; exact Nat.le_refl _)
    obtain ⟨lz, hlz⟩ : ∃ l : List Int, l = List.replicate 10001 0 := ⟨_, rfl⟩
    have HLZ := Aside0.mk hlz
    rw [← hlz] at HZ HLR
    have ELZ := Aside0.mk (show lz.length = 10001 by rw [hlz]; exact List.length_replicate)
    clear hZ hlz
    have ROOTZ : Aside0 (∀ (A : Option Addr) (W : World), Kd.C (Kd.int .u64) W A lz.length lz → Tab W → Calls Tryd.prog 16 #[.slice A 10001 10001] W fun e w' => e = .returned (.tuple #[.int .u64 (Plain.rootE lz).1, .int .i64 (Plain.rootE lz).2]) ∧ Below W.heap.size W w') := ⟨fun A W h h3 => by have h0 := ROOT.out A 10001 lz W h (by rw [ELZ.out]; exact Nat.le_refl _) h3; rw [ELZ.out] at h0; exact h0⟩
    have RROOTZ : Aside0 (∀ (A : Option Addr) (W : World), Kd.C (Kd.int .u64) W A lz.length lz → Calls Tryd.prog 17 #[.slice A 10001 10001] W fun e w' => e = .returned (.tuple #[.int .u64 (Plain.rootE lz).1, .int .i64 (Plain.rootE lz).2]) ∧ Below W.heap.size W w') := ⟨fun A W h => by have h0 := rRoot_calls A 10001 lz W h (by rw [ELZ.out]; exact Nat.le_refl _); rw [ELZ.out] at h0; exact h0⟩
    have PATHZ : Aside0 (∀ (A : Option Addr) (W : World), Kd.C (Kd.int .u64) W A lz.length lz → Tab W → Calls Tryd.prog 18 #[.slice A 10001 10001, .int .i64 a4] W fun e w' => ∃ v0_ : Value, e = .returned (.tuple #[v0_, .int .i64 (Plain.pathE lz a4).2]) ∧ Kd.R (Kd.int .u64) 23 w' W.heap.size (fun _ => True) v0_ (Plain.pathE lz a4).1 ∧ Below W.heap.size W w') := ⟨fun A W h h3 => by have h0 := PATH.out A 10001 lz W h (by rw [ELZ.out]; exact Nat.le_refl _) h3; rw [ELZ.out] at h0; exact h0⟩
    have RPATHZ : Aside0 (∀ (A : Option Addr) (W : World), Kd.C (Kd.int .u64) W A lz.length lz → Calls Tryd.prog 19 #[.slice A 10001 10001, .int .i64 a4] W fun e w' => ∃ v0_ : Value, e = .returned (.tuple #[v0_, .int .i64 (Plain.pathE lz a4).2]) ∧ Kd.R (Kd.int .u64) 23 w' W.heap.size (fun _ => True) v0_ (Plain.pathE lz a4).1 ∧ Below W.heap.size W w') := ⟨fun A W h => by have h0 := rPath_calls A 10001 lz a4 W h (by rw [ELZ.out]; exact Nat.le_refl _); rw [ELZ.out] at h0; exact h0⟩
    go_enter Tryd.func3, Tryd.ntmps3
    go_wp2_with (first | (go_at_call 9; (with_reducible refine (HD.out _ ?s3).mono ?_); (case s3 => exact HT.out.below (by repeat (first | (with_reducible first | exact HB.out | apply below_alloc | apply pw_below_drewN | apply below_drew1) | exact HB.out))); rintro e w2 ⟨rfl, hb⟩; have n0_ := Aside0.mk (below_step (by repeat (first | (with_reducible first | exact HB.out | apply below_alloc | apply pw_below_drewN | apply below_drew1) | exact HB.out)) hb); clear HB; have HB := n0_; clear n0_; clear hb))
    go_wp2_with (first | (go_at_call 10; (with_reducible refine (C10.out _ ?s1).mono ?_); (case s1 => exact (Kd.C_below R0.out (by repeat (first | (with_reducible first | exact HB.out | apply below_alloc | apply pw_below_drewN | apply below_drew1) | exact HB.out)))); rintro e w2 ⟨rfl, hdr⟩; have hb := Drawn0.below' hdr; clear hdr; have n0_ := Aside0.mk (below_step (by repeat (first | (with_reducible first | exact HB.out | apply below_alloc | apply pw_below_drewN | apply below_drew1) | exact HB.out)) hb); clear HB; have HB := n0_; clear n0_; clear hb))
    go_wp2_with (first | (go_at_call 11; (with_reducible refine (C11.out _ ?s1).mono ?_); (case s1 => exact (Kd.C_below R0.out (by repeat (first | (with_reducible first | exact HB.out | apply below_alloc | apply pw_below_drewN | apply below_drew1) | exact HB.out)))); rintro e w2 ⟨rfl, hdr⟩; have hb := Drawn0.below' hdr; clear hdr; have n0_ := Aside0.mk (below_step (by repeat (first | (with_reducible first | exact HB.out | apply below_alloc | apply pw_below_drewN | apply below_drew1) | exact HB.out)) hb); clear HB; have HB := n0_; clear n0_; clear hb))
    go_wp2_with (first | (go_at_call 12; (with_reducible refine (C12.out _ ?s1 ?s3).mono ?_); (case s1 => exact (Kd.C_below R2.out (by repeat (first | (with_reducible first | exact HB.out | apply below_alloc | apply pw_below_drewN | apply below_drew1) | exact HB.out)))); (case s3 => exact HT.out.below (by repeat (first | (with_reducible first | exact HB.out | apply below_alloc | apply pw_below_drewN | apply below_drew1) | exact HB.out))); rintro e w2 ⟨rfl, hb⟩; have n0_ := Aside0.mk (below_step (by repeat (first | (with_reducible first | exact HB.out | apply below_alloc | apply pw_below_drewN | apply below_drew1) | exact HB.out)) hb); clear HB; have HB := n0_; clear n0_; clear hb))
    go_wp2_with (first | (go_at_call 13; (with_reducible refine (C13.out _ ?s1).mono ?_); (case s1 => exact (Kd.C_below R2.out (by repeat (first | (with_reducible first | exact HB.out | apply below_alloc | apply pw_below_drewN | apply below_drew1) | exact HB.out)))); rintro e w2 ⟨rfl, hb⟩; have n0_ := Aside0.mk (below_step (by repeat (first | (with_reducible first | exact HB.out | apply below_alloc | apply pw_below_drewN | apply below_drew1) | exact HB.out)) hb); clear HB; have HB := n0_; clear n0_; clear hb))
    go_wp2_with (first | (go_at_call 11; (with_reducible refine (C11.out _ ?s1).mono ?_); (case s1 => exact (Kd.C_below R0.out (by repeat (first | (with_reducible first | exact HB.out | apply below_alloc | apply pw_below_drewN | apply below_drew1) | exact HB.out)))); rintro e w2 ⟨rfl, hdr⟩; have hb := Drawn0.below' hdr; clear hdr; have n0_ := Aside0.mk (below_step (by repeat (first | (with_reducible first | exact HB.out | apply below_alloc | apply pw_below_drewN | apply below_drew1) | exact HB.out)) hb); clear HB; have HB := n0_; clear n0_; clear hb))
    go_wp2_with (first | (go_at_call 14; (with_reducible refine (C14.out _).mono ?_); rintro e w2 ⟨rfl, hb⟩; have n0_ := Aside0.mk (below_step (by repeat (first | (with_reducible first | exact HB.out | apply below_alloc | apply pw_below_drewN | apply below_drew1) | exact HB.out)) hb); clear HB; have HB := n0_; clear n0_; clear hb))
    go_wp2_with (first | (go_at_call 11; (with_reducible refine (C11.out _ ?s1).mono ?_); (case s1 => exact (Kd.C_below R0.out (by repeat (first | (with_reducible first | exact HB.out | apply below_alloc | apply pw_below_drewN | apply below_drew1) | exact HB.out)))); rintro e w2 ⟨rfl, hdr⟩; have hb := Drawn0.below' hdr; clear hdr; have n0_ := Aside0.mk (below_step (by repeat (first | (with_reducible first | exact HB.out | apply below_alloc | apply pw_below_drewN | apply below_drew1) | exact HB.out)) hb); clear HB; have HB := n0_; clear n0_; clear hb))
    go_wp2_with (first | (go_at_call 15; (with_reducible refine (C15.out _).mono ?_); rintro e w2 ⟨rfl, hb⟩; have n0_ := Aside0.mk (below_step (by repeat (first | (with_reducible first | exact HB.out | apply below_alloc | apply pw_below_drewN | apply below_drew1) | exact HB.out)) hb); clear HB; have HB := n0_; clear n0_; clear hb))
    obtain ⟨wz, hwz⟩ : ∃ W, W = w2 := ⟨_, rfl⟩
    subst hwz
    have RL := Aside0.mk (show Kd.C (Kd.int .u64) (wz.alloc (.cells Z 23)) (some ⟨wz.heap.size, 0, none⟩) lz.length lz from C_lits lz [] (blk_new _ _) HZ.out (by rw [ELZ.out]; decide))
    have n0_ := Aside0.mk (below_alloc HB.out (.cells Z 23))
    clear HB
    have HB := n0_
    clear n0_
    have LZ : lz.length ≤ 10001 := by rw [ELZ.out]; exact Nat.le_refl _
    have LZ0 := Aside0.mk LZ
    clear LZ
    go_wp2_with (first | (go_at_call 16; (with_reducible refine (ROOTZ.out _ _ ?s1 ?s3).mono ?_); (case s1 => exact (by repeat (first | (with_reducible exact RL.out) | (with_reducible refine Kd.C_alloc ?_ _) | (with_reducible refine Kd.C_drewN ?_ _) | (with_reducible refine Kd.C_drew ?_) | exact RL.out))); (case s3 => exact HT.out.below (by repeat (first | (with_reducible first | exact HB.out | apply below_alloc | apply pw_below_drewN | apply below_drew1) | exact HB.out))); rintro e w2 ⟨rfl, hb⟩; have n0_ := Aside0.mk (below_step (by repeat (first | (with_reducible first | exact HB.out | apply below_alloc | apply pw_below_drewN | apply below_drew1) | exact HB.out)) hb); have n1_ := Aside0.mk (Kd.C_below (d := Kd.int .u64) (A := (some ⟨wz.heap.size, 0, none⟩)) (n := (lz).length) (xs := lz) (by repeat (first | (with_reducible exact RL.out) | (with_reducible refine Kd.C_alloc ?_ _) | (with_reducible refine Kd.C_drewN ?_ _) | (with_reducible refine Kd.C_drew ?_) | exact RL.out)) hb); clear HB; clear RL; have HB := n0_; have RL := n1_; clear n0_ n1_; clear hb))
    go_wp2_with (first | (go_at_call 17; (with_reducible refine (RROOTZ.out _ _ ?s1).mono ?_); (case s1 => exact (by repeat (first | (with_reducible exact RL.out) | (with_reducible refine Kd.C_alloc ?_ _) | (with_reducible refine Kd.C_drewN ?_ _) | (with_reducible refine Kd.C_drew ?_) | exact RL.out))); rintro e w2 ⟨rfl, hb⟩; have n0_ := Aside0.mk (below_step (by repeat (first | (with_reducible first | exact HB.out | apply below_alloc | apply pw_below_drewN | apply below_drew1) | exact HB.out)) hb); have n1_ := Aside0.mk (Kd.C_below (d := Kd.int .u64) (A := (some ⟨wz.heap.size, 0, none⟩)) (n := (lz).length) (xs := lz) (by repeat (first | (with_reducible exact RL.out) | (with_reducible refine Kd.C_alloc ?_ _) | (with_reducible refine Kd.C_drewN ?_ _) | (with_reducible refine Kd.C_drew ?_) | exact RL.out)) hb); clear HB; clear RL; have HB := n0_; have RL := n1_; clear n0_ n1_; clear hb))
    go_wp2_with (first | (go_at_call 18; (with_reducible refine (PATHZ.out _ _ ?s1 ?s3).mono ?_); (case s1 => exact (by repeat (first | (with_reducible exact RL.out) | (with_reducible refine Kd.C_alloc ?_ _) | (with_reducible refine Kd.C_drewN ?_ _) | (with_reducible refine Kd.C_drew ?_) | exact RL.out))); (case s3 => exact HT.out.below (by repeat (first | (with_reducible first | exact HB.out | apply below_alloc | apply pw_below_drewN | apply below_drew1) | exact HB.out))); rintro e w2 ⟨vr, rfl, ho, hb⟩; have n0_ := Aside0.mk (below_step (by repeat (first | (with_reducible first | exact HB.out | apply below_alloc | apply pw_below_drewN | apply below_drew1) | exact HB.out)) hb); have n1_ := Aside0.mk (Kd.C_below (d := Kd.int .u64) (A := (some ⟨wz.heap.size, 0, none⟩)) (n := (lz).length) (xs := lz) (by repeat (first | (with_reducible exact RL.out) | (with_reducible refine Kd.C_alloc ?_ _) | (with_reducible refine Kd.C_drewN ?_ _) | (with_reducible refine Kd.C_drew ?_) | exact RL.out)) hb); clear HB; clear RL; have HB := n0_; have RL := n1_; clear n0_ n1_; obtain ⟨Ap, cp, rfl⟩ : ∃ A c, vr = .slice A ((Plain.pathE lz a4).1).length c := Kd.R_slice ho; have HP := Aside0.mk (Kd.R_reads' ho).2.2; have HPL := Aside0.mk (Kd.R_reads' ho).2.1; clear ho; clear hb))
    go_wp2_with (first | (go_at_call 19; (with_reducible refine (RPATHZ.out _ _ ?s1).mono ?_); (case s1 => exact (by repeat (first | (with_reducible exact RL.out) | (with_reducible refine Kd.C_alloc ?_ _) | (with_reducible refine Kd.C_drewN ?_ _) | (with_reducible refine Kd.C_drew ?_) | exact RL.out))); rintro e w2 ⟨vr, rfl, ho, hb⟩; have n0_ := Aside0.mk (below_step (by repeat (first | (with_reducible first | exact HB.out | apply below_alloc | apply pw_below_drewN | apply below_drew1) | exact HB.out)) hb); have n1_ := Aside0.mk (Kd.C_below (d := Kd.int .u64) (A := (some ⟨wz.heap.size, 0, none⟩)) (n := (lz).length) (xs := lz) (by repeat (first | (with_reducible exact RL.out) | (with_reducible refine Kd.C_alloc ?_ _) | (with_reducible refine Kd.C_drewN ?_ _) | (with_reducible refine Kd.C_drew ?_) | exact RL.out)) hb); have n2_ := Aside0.mk (Kd.C_below (d := Kd.int .u64) (A := Ap) (n := ((Plain.pathE lz a4).1).length) (xs := (Plain.pathE lz a4).1) (by repeat (first | (with_reducible exact HP.out) | (with_reducible refine Kd.C_alloc ?_ _) | (with_reducible refine Kd.C_drewN ?_ _) | (with_reducible refine Kd.C_drew ?_) | exact HP.out)) hb); clear HB; clear RL; clear HP; have HB := n0_; have RL := n1_; have HP := n2_; clear n0_ n1_ n2_; obtain ⟨Aq, cq, rfl⟩ : ∃ A c, vr = .slice A ((Plain.pathE lz a4).1).length c := Kd.R_slice ho; have HQ := Aside0.mk (Kd.R_reads' ho).2.2; have HQL := Aside0.mk (Kd.R_reads' ho).2.1; clear ho; clear hb))
    go_wp2_with (first | (go_at_call 20; (with_reducible refine ((same_calls _ (Plain.pathE_len lz a4) _ _ _ _ _ ?s1 HPL.out ?s2 HQL.out)).mono ?_); (case s1 => exact (by repeat (first | (with_reducible exact HP.out) | (with_reducible refine Kd.C_alloc ?_ _) | (with_reducible refine Kd.C_drewN ?_ _) | (with_reducible refine Kd.C_drew ?_) | exact HP.out))); (case s2 => exact (by repeat (first | (with_reducible exact HQ.out) | (with_reducible refine Kd.C_alloc ?_ _) | (with_reducible refine Kd.C_drewN ?_ _) | (with_reducible refine Kd.C_drew ?_) | exact HQ.out))); rintro e w2 ⟨rfl, hdr⟩; have hb := Drawn0.below' hdr; clear hdr; have n0_ := Aside0.mk (below_step (by repeat (first | (with_reducible first | exact HB.out | apply below_alloc | apply pw_below_drewN | apply below_drew1) | exact HB.out)) hb); have n1_ := Aside0.mk (Kd.C_below (d := Kd.int .u64) (A := (some ⟨wz.heap.size, 0, none⟩)) (n := (lz).length) (xs := lz) (by repeat (first | (with_reducible exact RL.out) | (with_reducible refine Kd.C_alloc ?_ _) | (with_reducible refine Kd.C_drewN ?_ _) | (with_reducible refine Kd.C_drew ?_) | exact RL.out)) hb); have n2_ := Aside0.mk (Kd.C_below (d := Kd.int .u64) (A := Ap) (n := ((Plain.pathE lz a4).1).length) (xs := (Plain.pathE lz a4).1) (by repeat (first | (with_reducible exact HP.out) | (with_reducible refine Kd.C_alloc ?_ _) | (with_reducible refine Kd.C_drewN ?_ _) | (with_reducible refine Kd.C_drew ?_) | exact HP.out)) hb); have n3_ := Aside0.mk (Kd.C_below (d := Kd.int .u64) (A := Aq) (n := ((Plain.pathE lz a4).1).length) (xs := (Plain.pathE lz a4).1) (by repeat (first | (with_reducible exact HQ.out) | (with_reducible refine Kd.C_alloc ?_ _) | (with_reducible refine Kd.C_drewN ?_ _) | (with_reducible refine Kd.C_drew ?_) | exact HQ.out)) hb); clear HB; clear RL; clear HP; clear HQ; have HB := n0_; have RL := n1_; have HP := n2_; have HQ := n3_; clear n0_ n1_ n2_ n3_; clear hb))
    go_wp2_with (first | (go_at_call 21; (with_reducible refine (LEADS.out _ _ ?s1 ?s3).mono ?_); (case s1 => exact (Kd.C_below R6.out (by repeat (first | (with_reducible first | exact HB.out | apply below_alloc | apply pw_below_drewN | apply below_drew1) | exact HB.out)))); (case s3 => exact HT.out.below (by repeat (first | (with_reducible first | exact HB.out | apply below_alloc | apply pw_below_drewN | apply below_drew1) | exact HB.out))); rintro e w2 ⟨rfl, hb⟩; have n0_ := Aside0.mk (below_step (by repeat (first | (with_reducible first | exact HB.out | apply below_alloc | apply pw_below_drewN | apply below_drew1) | exact HB.out)) hb); clear HB; have HB := n0_; clear n0_; clear hb))
    go_wp2_with (first | (go_at_call 22; (with_reducible refine ((rLeads_calls _ _ _ _ _ _ _ _ LL.out ?s1 L6.out)).mono ?_); (case s1 => exact (Kd.C_below R6.out (by repeat (first | (with_reducible first | exact HB.out | apply below_alloc | apply pw_below_drewN | apply below_drew1) | exact HB.out)))); rintro e w2 ⟨rfl, hb⟩; have n0_ := Aside0.mk (below_step (by repeat (first | (with_reducible first | exact HB.out | apply below_alloc | apply pw_below_drewN | apply below_drew1) | exact HB.out)) hb); clear HB; have HB := n0_; clear n0_; clear hb))
    go_ret
    exact ⟨rfl, HB.out⟩
theorem formelaw04_DigestMatchesReference.calls (A0 : Option Addr) (c0 : Nat) (l0 : List Int) (a1 : Int) (A2 : Option Addr) (c2 : Nat) (l2 : List Int) (A3 : Option Addr) (c3 : Nat) (l3 : List Int) (a4 a5 : Int) (A6 : Option Addr) (c6 : Nat) (l6 : List Int) (a7 : Int) (r : Bool) (w : World)
    (hr0 : Kd.C (Kd.int .u8) w A0 l0.length l0) (hc0 : l0.length ≤ c0) (hr2 : Kd.C (Kd.int .i64) w A2 l2.length l2) (hc2 : l2.length ≤ c2) (hr3 : Kd.C (Kd.int .u64) w A3 l3.length l3) (hc3 : l3.length ≤ c3) (hr6 : Kd.C (Kd.int .u64) w A6 l6.length l6) (hc6 : l6.length ≤ c6) (h : formelaw04_DigestMatchesReference.f l0 a1 l2 l3 a4 a5 l6 a7 = some r) (hT : Tab w) :
    Calls Tryd.prog 3 #[.slice A0 l0.length c0, .int .u64 a1, .slice A2 l2.length c2, .slice A3 l3.length c3, .int .i64 a4, .int .i64 a5, .slice A6 l6.length c6, .int .u8 a7] w fun e w' => e = .returned (.bool r) ∧ Below w.heap.size w w' := by
  unfold formelaw04_DigestMatchesReference.f at h
  split at h
  case isFalse => cases h
  rename_i hok
  obtain rfl := Option.some.inj h
  exact matches_calls A0 c0 l0 a1 A2 c2 l2 A3 c3 l3 a4 a5 A6 c6 l6 a7 w hr0 hc0 hr2 hc2 hr3 hc3 hr6 hc6 hok hT

end Go.Proofs.YtffmflmpiekcfaaDoor.PAll
