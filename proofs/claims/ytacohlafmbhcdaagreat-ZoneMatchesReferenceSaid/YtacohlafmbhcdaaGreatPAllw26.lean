/- Printed by wip/gprint.py. -/
import Derived.Test.YtacohlafmbhcdaaGreatPAlld1
import Derived.Test.YtacohlafmbhcdaaGreatPAllw17
import Derived.Test.YtacohlafmbhcdaaGreatPAllw34
import Derived.Test.YtacohlafmbhcdaaGreatPAllw19
import Derived.Test.YtacohlafmbhcdaaGreatPAllw23
import Derived.Test.YtacohlafmbhcdaaGreatPAllw25
namespace Go.Proofs.YtacohlafmbhcdaaGreat.PAll
set_option linter.unusedVariables false
set_option linter.unusedSimpArgs false
open Go.RowKit Go.Proofs.YtacohlafmbhcdaaGreatW.PrintWords Go.Proofs.YtacohlafmbhcdaaGreatW.PrintLast Go.Proofs.YtacohlafmbhcdaaGreatW.PrintMore
attribute [local go_sem] max2_int min2_int max_two min_two max_three min_three max_four min_four
set_option maxHeartbeats 4000000 in
set_option maxRecDepth 100000 in
theorem head_calls (w : World) : Calls Tryz.prog 4 #[] w fun e w' => e = .returned (.bool true) ∧ Below w.heap.size w w' := by
 have HB := Aside0.mk (Below.refl w.heap.size w)
 have CC := Aside0.mk (fun A W h => (show Calls Tryz.prog 9 #[.slice A 2 2] W _ from zone_Canon.calls A 2 exL exC 0 W h (by decide) ex_canon))
 have CL := Aside0.mk (fun A A' W h h' => (show Calls Tryz.prog 16 #[.slice A 2 2, .slice A' 1 1] W _ from zone_Less.calls A 2 exL A' 1 [⟨0, ⟨101, 101⟩, ⟨200, 310⟩⟩] [⟨0, ⟨100, 100⟩, ⟨200, 300⟩⟩, ⟨0, ⟨102, 102⟩, ⟨200, 300⟩⟩] 0 W h (by decide) h' (by decide) ex_less))
 have CM := Aside0.mk (fun A A' W h h' => (show Calls Tryz.prog 14 #[.slice A 2 2, .slice A' 1 1] W _ from zone_Meet.calls A 2 exL A' 1 [⟨0, ⟨102, 300⟩, ⟨250, 4000⟩⟩] [⟨0, ⟨102, 102⟩, ⟨250, 300⟩⟩] 0 W h (by decide) h' (by decide) ex_meet))
 have CN := Aside0.mk (fun A W h => (show Calls Tryz.prog 20 #[.slice A 2 2] W _ from zone_Count.calls A 2 exL 313 0 W h (by decide) ex_count))
 have CR := Aside0.mk (fun A W h => (show Calls Tryz.prog 18 #[.slice A 2 2] W _ from zone_Least.calls 9 A 2 exL 200 100 0 true 0 W h (by decide) ex_least))
 have CI := Aside0.mk (fun A W h => (show Calls Tryz.prog 5 #[.slice A 2 2, .agg #[.int .i64 305, .int .i64 101, .int .i64 0]] W _ from zone_Has.calls A 2 exL 305 101 0 true 0 W h (by decide) ex_in))
 have CO := Aside0.mk (fun A W h => (show Calls Tryz.prog 5 #[.slice A 2 2, .agg #[.int .i64 305, .int .i64 100, .int .i64 0]] W _ from zone_Has.calls A 2 exL 305 100 0 false 0 W h (by decide) ex_out))
 have CE := Aside0.mk (fun W => (show Calls Tryz.prog 18 #[.slice none 0 0] W _ from zone_Least.calls 9 none 0 [] 0 0 0 false 0 W (Kd.C_nil k42 W) (by decide) ex_none))
 have CB := Aside0.mk (fun A W h => (show Calls Tryz.prog 9 #[.slice A 1 1] W _ from zone_Canon.calls A 1 [⟨0, ⟨49, 60⟩, ⟨200, 300⟩⟩] [] 1 W h (by decide) ex_bad))
 have S1 := Aside0.mk (fun A c A' c' W h hc h' hc' => (show Calls Tryz.prog 11 #[.slice A 3 c, .slice A' 3 c'] W _ from formeref03_Same.calls 9 A c exC A' c' exC true W h hc h' hc' ex_same1))
 have S2 := Aside0.mk (fun A c A' c' W h hc h' hc' => (show Calls Tryz.prog 11 #[.slice A 2 c, .slice A' 2 c'] W _ from formeref03_Same.calls 9 A c [⟨0, ⟨100, 100⟩, ⟨200, 300⟩⟩, ⟨0, ⟨102, 102⟩, ⟨200, 300⟩⟩] A' c' [⟨0, ⟨100, 100⟩, ⟨200, 300⟩⟩, ⟨0, ⟨102, 102⟩, ⟨200, 300⟩⟩] true W h hc h' hc' ex_same2))
 have S3 := Aside0.mk (fun A c A' c' W h hc h' hc' => (show Calls Tryz.prog 11 #[.slice A 1 c, .slice A' 1 c'] W _ from formeref03_Same.calls 9 A c [⟨0, ⟨102, 102⟩, ⟨250, 300⟩⟩] A' c' [⟨0, ⟨102, 102⟩, ⟨250, 300⟩⟩] true W h hc h' hc' ex_same3))
 go_enter Tryz.func4, Tryz.ntmps4
 go_wp2_with (go_at_call 22; (with_reducible refine (formelaw03_rect.calls 101 101 301 310 0 101 101 301 310 _ rfl).mono ?_); rintro e w1 ⟨rfl, hb⟩; have n0_ := Aside0.mk (below_step (by repeat ((with_reducible exact HB.out))) hb); clear HB; have HB := n0_; clear n0_; clear hb)
 go_wp2_with (go_at_call 22; (with_reducible refine (formelaw03_rect.calls 100 102 200 300 0 100 102 200 300 _ rfl).mono ?_); rintro e w2 ⟨rfl, hb⟩; have n0_ := Aside0.mk (below_step (by repeat ((with_reducible exact HB.out))) hb); clear HB; have HB := n0_; clear n0_; clear hb)
 go_wp2_with (go_at_call 22; (with_reducible refine (formelaw03_rect.calls 100 100 200 300 0 100 100 200 300 _ rfl).mono ?_); rintro e w3 ⟨rfl, hb⟩; have n0_ := Aside0.mk (below_step (by repeat ((with_reducible first | exact HB.out | apply below_alloc))) hb); have n1_ := Aside0.mk (blk_below (blk_new _ (.cells #[.int .i64 0, .int .i64 101, .int .i64 101, .int .i64 301, .int .i64 310, .int .i64 0, .int .i64 100, .int .i64 102, .int .i64 200, .int .i64 300] 42)) hb); clear HB; have HB := n0_; have KL := n1_; clear n0_ n1_; clear hb)
 go_wp2_with (go_at_call 22; (with_reducible refine (formelaw03_rect.calls 101 101 200 310 0 101 101 200 310 _ rfl).mono ?_); rintro e w4 ⟨rfl, hb⟩; have n0_ := Aside0.mk (below_step (by repeat ((with_reducible exact HB.out))) hb); have n1_ := Aside0.mk (blk_below (g := w2.heap.size) (o := (.cells #[.int .i64 0, .int .i64 101, .int .i64 101, .int .i64 301, .int .i64 310, .int .i64 0, .int .i64 100, .int .i64 102, .int .i64 200, .int .i64 300] 42)) (by (with_reducible repeat (fail)); exact KL.out) hb); clear HB; clear KL; have HB := n0_; have KL := n1_; clear n0_ n1_; clear hb)
 go_wp2_with (go_at_call 22; (with_reducible refine (formelaw03_rect.calls 102 102 200 300 0 102 102 200 300 _ rfl).mono ?_); rintro e w5 ⟨rfl, hb⟩; have n0_ := Aside0.mk (below_step (by repeat ((with_reducible exact HB.out))) hb); have n1_ := Aside0.mk (blk_below (g := w2.heap.size) (o := (.cells #[.int .i64 0, .int .i64 101, .int .i64 101, .int .i64 301, .int .i64 310, .int .i64 0, .int .i64 100, .int .i64 102, .int .i64 200, .int .i64 300] 42)) (by (with_reducible repeat (fail)); exact KL.out) hb); clear HB; clear KL; have HB := n0_; have KL := n1_; clear n0_ n1_; clear hb)
 go_wp2_with (go_at_call 9; (with_reducible refine (CC.out _ _ ?s1).mono ?_); (case s1 => exact C_blockZ (cs := #[.int .i64 0, .int .i64 101, .int .i64 101, .int .i64 301, .int .i64 310, .int .i64 0, .int .i64 100, .int .i64 102, .int .i64 200, .int .i64 300]) (e := 42) (fr := (0, 0)) exL (by (with_reducible repeat (refine blk_alloc ?_ _)); exact KL.out) rfl (by decide)); rintro e w6 ⟨vr, rfl, ho, hb⟩; have n0_ := Aside0.mk (below_step (by repeat ((with_reducible first | exact HB.out | apply below_alloc))) hb); have n1_ := Aside0.mk (blk_below (g := w2.heap.size) (o := (.cells #[.int .i64 0, .int .i64 101, .int .i64 101, .int .i64 301, .int .i64 310, .int .i64 0, .int .i64 100, .int .i64 102, .int .i64 200, .int .i64 300] 42)) (by (with_reducible repeat (refine blk_alloc ?_ _)); exact KL.out) hb); have n2_ := Aside0.mk (blk_below (blk_new _ (.cells #[.int .i64 0, .int .i64 100, .int .i64 100, .int .i64 200, .int .i64 300, .int .i64 0, .int .i64 101, .int .i64 101, .int .i64 200, .int .i64 310, .int .i64 0, .int .i64 102, .int .i64 102, .int .i64 200, .int .i64 300] 42)) hb); clear HB; clear KL; have HB := n0_; have KL := n1_; have KW := n2_; clear n0_ n1_ n2_; obtain ⟨Aa, ca, rfl⟩ : ∃ A c, vr = .slice A 3 c := Kd.R_slice ho; have HA := Aside0.mk (show Kd.C k42 _ Aa 3 exC from (Kd.R_reads' ho).2.2); have HAL := Aside0.mk (show 3 ≤ ca from (Kd.R_reads' ho).2.1); clear ho; clear hb)
 go_wp2_with (go_at_call 22; (with_reducible refine (formelaw03_rect.calls 101 101 200 310 0 101 101 200 310 _ rfl).mono ?_); rintro e w7 ⟨rfl, hb⟩; have n0_ := Aside0.mk (below_step (by repeat ((with_reducible exact HB.out))) hb); have n1_ := Aside0.mk (blk_below (g := w2.heap.size) (o := (.cells #[.int .i64 0, .int .i64 101, .int .i64 101, .int .i64 301, .int .i64 310, .int .i64 0, .int .i64 100, .int .i64 102, .int .i64 200, .int .i64 300] 42)) (by (with_reducible repeat (fail)); exact KL.out) hb); have n2_ := Aside0.mk (blk_below (g := w5.heap.size) (o := (.cells #[.int .i64 0, .int .i64 100, .int .i64 100, .int .i64 200, .int .i64 300, .int .i64 0, .int .i64 101, .int .i64 101, .int .i64 200, .int .i64 310, .int .i64 0, .int .i64 102, .int .i64 102, .int .i64 200, .int .i64 300] 42)) (by (with_reducible repeat (fail)); exact KW.out) hb); have n3_ := Aside0.mk (Kd.C_below (d := k42) (A := Aa) (n := 3) (xs := exC) (by repeat ((with_reducible exact HA.out))) hb); clear HB; clear KL; clear KW; clear HA; have HB := n0_; have KL := n1_; have KW := n2_; have HA := n3_; clear n0_ n1_ n2_ n3_; clear hb)
 go_wp2_with (go_at_call 16; (with_reducible refine (CL.out _ _ _ ?s1 ?s2).mono ?_); (case s1 => exact C_blockZ (cs := #[.int .i64 0, .int .i64 101, .int .i64 101, .int .i64 301, .int .i64 310, .int .i64 0, .int .i64 100, .int .i64 102, .int .i64 200, .int .i64 300]) (e := 42) (fr := (0, 0)) exL (by (with_reducible repeat (refine blk_alloc ?_ _)); exact KL.out) rfl (by decide)); (case s2 => exact C_blockZ (cs := #[.int .i64 0, .int .i64 101, .int .i64 101, .int .i64 200, .int .i64 310]) (e := 42) (fr := (0, 0)) [⟨0, ⟨101, 101⟩, ⟨200, 310⟩⟩] (blk_new _ _) rfl (by decide)); rintro e w8 ⟨vr, rfl, ho, hb⟩; have n0_ := Aside0.mk (below_step (by repeat ((with_reducible first | exact HB.out | apply below_alloc))) hb); have n1_ := Aside0.mk (blk_below (g := w2.heap.size) (o := (.cells #[.int .i64 0, .int .i64 101, .int .i64 101, .int .i64 301, .int .i64 310, .int .i64 0, .int .i64 100, .int .i64 102, .int .i64 200, .int .i64 300] 42)) (by (with_reducible repeat (refine blk_alloc ?_ _)); exact KL.out) hb); have n2_ := Aside0.mk (blk_below (g := w5.heap.size) (o := (.cells #[.int .i64 0, .int .i64 100, .int .i64 100, .int .i64 200, .int .i64 300, .int .i64 0, .int .i64 101, .int .i64 101, .int .i64 200, .int .i64 310, .int .i64 0, .int .i64 102, .int .i64 102, .int .i64 200, .int .i64 300] 42)) (by (with_reducible repeat (refine blk_alloc ?_ _)); exact KW.out) hb); have n3_ := Aside0.mk (Kd.C_below (d := k42) (A := Aa) (n := 3) (xs := exC) (by repeat (first | (with_reducible exact HA.out) | (with_reducible refine Kd.C_alloc ?_ _))) hb); clear HB; clear KL; clear KW; clear HA; have HB := n0_; have KL := n1_; have KW := n2_; have HA := n3_; clear n0_ n1_ n2_ n3_; obtain ⟨Ab, cb, rfl⟩ : ∃ A c, vr = .slice A 2 c := Kd.R_slice ho; have HBB := Aside0.mk (show Kd.C k42 _ Ab 2 [⟨0, ⟨100, 100⟩, ⟨200, 300⟩⟩, ⟨0, ⟨102, 102⟩, ⟨200, 300⟩⟩] from (Kd.R_reads' ho).2.2); have HBBL := Aside0.mk (show 2 ≤ cb from (Kd.R_reads' ho).2.1); clear ho; clear hb)
 go_wp2_with (go_at_call 22; (with_reducible refine (formelaw03_rect.calls 102 300 250 4000 0 102 300 250 4000 _ rfl).mono ?_); rintro e w9 ⟨rfl, hb⟩; have n0_ := Aside0.mk (below_step (by repeat ((with_reducible exact HB.out))) hb); have n1_ := Aside0.mk (blk_below (g := w2.heap.size) (o := (.cells #[.int .i64 0, .int .i64 101, .int .i64 101, .int .i64 301, .int .i64 310, .int .i64 0, .int .i64 100, .int .i64 102, .int .i64 200, .int .i64 300] 42)) (by (with_reducible repeat (fail)); exact KL.out) hb); have n2_ := Aside0.mk (blk_below (g := w5.heap.size) (o := (.cells #[.int .i64 0, .int .i64 100, .int .i64 100, .int .i64 200, .int .i64 300, .int .i64 0, .int .i64 101, .int .i64 101, .int .i64 200, .int .i64 310, .int .i64 0, .int .i64 102, .int .i64 102, .int .i64 200, .int .i64 300] 42)) (by (with_reducible repeat (fail)); exact KW.out) hb); have n3_ := Aside0.mk (Kd.C_below (d := k42) (A := Aa) (n := 3) (xs := exC) (by repeat ((with_reducible exact HA.out))) hb); have n4_ := Aside0.mk (Kd.C_below (d := k42) (A := Ab) (n := 2) (xs := [⟨0, ⟨100, 100⟩, ⟨200, 300⟩⟩, ⟨0, ⟨102, 102⟩, ⟨200, 300⟩⟩]) (by repeat ((with_reducible exact HBB.out))) hb); clear HB; clear KL; clear KW; clear HA; clear HBB; have HB := n0_; have KL := n1_; have KW := n2_; have HA := n3_; have HBB := n4_; clear n0_ n1_ n2_ n3_ n4_; clear hb)
 go_wp2_with (go_at_call 14; (with_reducible refine (CM.out _ _ _ ?s1 ?s2).mono ?_); (case s1 => exact C_blockZ (cs := #[.int .i64 0, .int .i64 101, .int .i64 101, .int .i64 301, .int .i64 310, .int .i64 0, .int .i64 100, .int .i64 102, .int .i64 200, .int .i64 300]) (e := 42) (fr := (0, 0)) exL (by (with_reducible repeat (refine blk_alloc ?_ _)); exact KL.out) rfl (by decide)); (case s2 => exact C_blockZ (cs := #[.int .i64 0, .int .i64 102, .int .i64 300, .int .i64 250, .int .i64 4000]) (e := 42) (fr := (0, 0)) [⟨0, ⟨102, 300⟩, ⟨250, 4000⟩⟩] (blk_new _ _) rfl (by decide)); rintro e w10 ⟨vr, rfl, ho, hb⟩; have n0_ := Aside0.mk (below_step (by repeat ((with_reducible first | exact HB.out | apply below_alloc))) hb); have n1_ := Aside0.mk (blk_below (g := w2.heap.size) (o := (.cells #[.int .i64 0, .int .i64 101, .int .i64 101, .int .i64 301, .int .i64 310, .int .i64 0, .int .i64 100, .int .i64 102, .int .i64 200, .int .i64 300] 42)) (by (with_reducible repeat (refine blk_alloc ?_ _)); exact KL.out) hb); have n2_ := Aside0.mk (blk_below (g := w5.heap.size) (o := (.cells #[.int .i64 0, .int .i64 100, .int .i64 100, .int .i64 200, .int .i64 300, .int .i64 0, .int .i64 101, .int .i64 101, .int .i64 200, .int .i64 310, .int .i64 0, .int .i64 102, .int .i64 102, .int .i64 200, .int .i64 300] 42)) (by (with_reducible repeat (refine blk_alloc ?_ _)); exact KW.out) hb); have n3_ := Aside0.mk (Kd.C_below (d := k42) (A := Aa) (n := 3) (xs := exC) (by repeat (first | (with_reducible exact HA.out) | (with_reducible refine Kd.C_alloc ?_ _))) hb); have n4_ := Aside0.mk (Kd.C_below (d := k42) (A := Ab) (n := 2) (xs := [⟨0, ⟨100, 100⟩, ⟨200, 300⟩⟩, ⟨0, ⟨102, 102⟩, ⟨200, 300⟩⟩]) (by repeat (first | (with_reducible exact HBB.out) | (with_reducible refine Kd.C_alloc ?_ _))) hb); clear HB; clear KL; clear KW; clear HA; clear HBB; have HB := n0_; have KL := n1_; have KW := n2_; have HA := n3_; have HBB := n4_; clear n0_ n1_ n2_ n3_ n4_; obtain ⟨Ac, cc, rfl⟩ : ∃ A c, vr = .slice A 1 c := Kd.R_slice ho; have HC := Aside0.mk (show Kd.C k42 _ Ac 1 [⟨0, ⟨102, 102⟩, ⟨250, 300⟩⟩] from (Kd.R_reads' ho).2.2); have HCL := Aside0.mk (show 1 ≤ cc from (Kd.R_reads' ho).2.1); clear ho; clear hb)
 go_wp2_with (go_at_call 20; (with_reducible refine (CN.out _ _ ?s1).mono ?_); (case s1 => exact C_blockZ (cs := #[.int .i64 0, .int .i64 101, .int .i64 101, .int .i64 301, .int .i64 310, .int .i64 0, .int .i64 100, .int .i64 102, .int .i64 200, .int .i64 300]) (e := 42) (fr := (0, 0)) exL (by (with_reducible repeat (fail)); exact KL.out) rfl (by decide)); rintro e w11 ⟨rfl, hb⟩; have n0_ := Aside0.mk (below_step (by repeat ((with_reducible exact HB.out))) hb); have n1_ := Aside0.mk (blk_below (g := w2.heap.size) (o := (.cells #[.int .i64 0, .int .i64 101, .int .i64 101, .int .i64 301, .int .i64 310, .int .i64 0, .int .i64 100, .int .i64 102, .int .i64 200, .int .i64 300] 42)) (by (with_reducible repeat (fail)); exact KL.out) hb); have n2_ := Aside0.mk (blk_below (g := w5.heap.size) (o := (.cells #[.int .i64 0, .int .i64 100, .int .i64 100, .int .i64 200, .int .i64 300, .int .i64 0, .int .i64 101, .int .i64 101, .int .i64 200, .int .i64 310, .int .i64 0, .int .i64 102, .int .i64 102, .int .i64 200, .int .i64 300] 42)) (by (with_reducible repeat (fail)); exact KW.out) hb); have n3_ := Aside0.mk (Kd.C_below (d := k42) (A := Aa) (n := 3) (xs := exC) (by repeat ((with_reducible exact HA.out))) hb); have n4_ := Aside0.mk (Kd.C_below (d := k42) (A := Ab) (n := 2) (xs := [⟨0, ⟨100, 100⟩, ⟨200, 300⟩⟩, ⟨0, ⟨102, 102⟩, ⟨200, 300⟩⟩]) (by repeat ((with_reducible exact HBB.out))) hb); have n5_ := Aside0.mk (Kd.C_below (d := k42) (A := Ac) (n := 1) (xs := [⟨0, ⟨102, 102⟩, ⟨250, 300⟩⟩]) (by repeat ((with_reducible exact HC.out))) hb); clear HB; clear KL; clear KW; clear HA; clear HBB; clear HC; have HB := n0_; have KL := n1_; have KW := n2_; have HA := n3_; have HBB := n4_; have HC := n5_; clear n0_ n1_ n2_ n3_ n4_ n5_; clear hb)
 go_wp2_with (go_at_call 18; (with_reducible refine (CR.out _ _ ?s1).mono ?_); (case s1 => exact C_blockZ (cs := #[.int .i64 0, .int .i64 101, .int .i64 101, .int .i64 301, .int .i64 310, .int .i64 0, .int .i64 100, .int .i64 102, .int .i64 200, .int .i64 300]) (e := 42) (fr := (0, 0)) exL (by (with_reducible repeat (fail)); exact KL.out) rfl (by decide)); rintro e w12 ⟨rfl, hb⟩; have n0_ := Aside0.mk (below_step (by repeat ((with_reducible exact HB.out))) hb); have n1_ := Aside0.mk (blk_below (g := w2.heap.size) (o := (.cells #[.int .i64 0, .int .i64 101, .int .i64 101, .int .i64 301, .int .i64 310, .int .i64 0, .int .i64 100, .int .i64 102, .int .i64 200, .int .i64 300] 42)) (by (with_reducible repeat (fail)); exact KL.out) hb); have n2_ := Aside0.mk (blk_below (g := w5.heap.size) (o := (.cells #[.int .i64 0, .int .i64 100, .int .i64 100, .int .i64 200, .int .i64 300, .int .i64 0, .int .i64 101, .int .i64 101, .int .i64 200, .int .i64 310, .int .i64 0, .int .i64 102, .int .i64 102, .int .i64 200, .int .i64 300] 42)) (by (with_reducible repeat (fail)); exact KW.out) hb); have n3_ := Aside0.mk (Kd.C_below (d := k42) (A := Aa) (n := 3) (xs := exC) (by repeat ((with_reducible exact HA.out))) hb); have n4_ := Aside0.mk (Kd.C_below (d := k42) (A := Ab) (n := 2) (xs := [⟨0, ⟨100, 100⟩, ⟨200, 300⟩⟩, ⟨0, ⟨102, 102⟩, ⟨200, 300⟩⟩]) (by repeat ((with_reducible exact HBB.out))) hb); have n5_ := Aside0.mk (Kd.C_below (d := k42) (A := Ac) (n := 1) (xs := [⟨0, ⟨102, 102⟩, ⟨250, 300⟩⟩]) (by repeat ((with_reducible exact HC.out))) hb); clear HB; clear KL; clear KW; clear HA; clear HBB; clear HC; have HB := n0_; have KL := n1_; have KW := n2_; have HA := n3_; have HBB := n4_; have HC := n5_; clear n0_ n1_ n2_ n3_ n4_ n5_; clear hb)
 go_wp2_with (go_at_call 5; (with_reducible refine (CI.out _ _ ?s1).mono ?_); (case s1 => exact C_blockZ (cs := #[.int .i64 0, .int .i64 101, .int .i64 101, .int .i64 301, .int .i64 310, .int .i64 0, .int .i64 100, .int .i64 102, .int .i64 200, .int .i64 300]) (e := 42) (fr := (0, 0)) exL (by (with_reducible repeat (refine blk_alloc ?_ _)); exact KL.out) rfl (by decide)); rintro e w13 ⟨rfl, hb⟩; have n0_ := Aside0.mk (below_step (by repeat ((with_reducible first | exact HB.out | apply below_alloc))) hb); have n1_ := Aside0.mk (blk_below (g := w2.heap.size) (o := (.cells #[.int .i64 0, .int .i64 101, .int .i64 101, .int .i64 301, .int .i64 310, .int .i64 0, .int .i64 100, .int .i64 102, .int .i64 200, .int .i64 300] 42)) (by (with_reducible repeat (refine blk_alloc ?_ _)); exact KL.out) hb); have n2_ := Aside0.mk (blk_below (g := w5.heap.size) (o := (.cells #[.int .i64 0, .int .i64 100, .int .i64 100, .int .i64 200, .int .i64 300, .int .i64 0, .int .i64 101, .int .i64 101, .int .i64 200, .int .i64 310, .int .i64 0, .int .i64 102, .int .i64 102, .int .i64 200, .int .i64 300] 42)) (by (with_reducible repeat (refine blk_alloc ?_ _)); exact KW.out) hb); have n3_ := Aside0.mk (blk_below (blk_new _ (.cells #[.int .i64 200, .int .i64 100, .int .i64 0] 24)) hb); have n4_ := Aside0.mk (Kd.C_below (d := k42) (A := Aa) (n := 3) (xs := exC) (by repeat (first | (with_reducible exact HA.out) | (with_reducible refine Kd.C_alloc ?_ _))) hb); have n5_ := Aside0.mk (Kd.C_below (d := k42) (A := Ab) (n := 2) (xs := [⟨0, ⟨100, 100⟩, ⟨200, 300⟩⟩, ⟨0, ⟨102, 102⟩, ⟨200, 300⟩⟩]) (by repeat (first | (with_reducible exact HBB.out) | (with_reducible refine Kd.C_alloc ?_ _))) hb); have n6_ := Aside0.mk (Kd.C_below (d := k42) (A := Ac) (n := 1) (xs := [⟨0, ⟨102, 102⟩, ⟨250, 300⟩⟩]) (by repeat (first | (with_reducible exact HC.out) | (with_reducible refine Kd.C_alloc ?_ _))) hb); clear HB; clear KL; clear KW; clear HA; clear HBB; clear HC; have HB := n0_; have KL := n1_; have KW := n2_; have KR := n3_; have HA := n4_; have HBB := n5_; have HC := n6_; clear n0_ n1_ n2_ n3_ n4_ n5_ n6_; clear hb)
 go_wp2_with (go_at_call 5; (with_reducible refine (CO.out _ _ ?s1).mono ?_); (case s1 => exact C_blockZ (cs := #[.int .i64 0, .int .i64 101, .int .i64 101, .int .i64 301, .int .i64 310, .int .i64 0, .int .i64 100, .int .i64 102, .int .i64 200, .int .i64 300]) (e := 42) (fr := (0, 0)) exL (by (with_reducible repeat (fail)); exact KL.out) rfl (by decide)); rintro e w14 ⟨rfl, hb⟩; have n0_ := Aside0.mk (below_step (by repeat ((with_reducible exact HB.out))) hb); have n1_ := Aside0.mk (blk_below (g := w2.heap.size) (o := (.cells #[.int .i64 0, .int .i64 101, .int .i64 101, .int .i64 301, .int .i64 310, .int .i64 0, .int .i64 100, .int .i64 102, .int .i64 200, .int .i64 300] 42)) (by (with_reducible repeat (fail)); exact KL.out) hb); have n2_ := Aside0.mk (blk_below (g := w5.heap.size) (o := (.cells #[.int .i64 0, .int .i64 100, .int .i64 100, .int .i64 200, .int .i64 300, .int .i64 0, .int .i64 101, .int .i64 101, .int .i64 200, .int .i64 310, .int .i64 0, .int .i64 102, .int .i64 102, .int .i64 200, .int .i64 300] 42)) (by (with_reducible repeat (fail)); exact KW.out) hb); have n3_ := Aside0.mk (blk_below (g := w12.heap.size) (o := (.cells #[.int .i64 200, .int .i64 100, .int .i64 0] 24)) (by (with_reducible repeat (fail)); exact KR.out) hb); have n4_ := Aside0.mk (Kd.C_below (d := k42) (A := Aa) (n := 3) (xs := exC) (by repeat ((with_reducible exact HA.out))) hb); have n5_ := Aside0.mk (Kd.C_below (d := k42) (A := Ab) (n := 2) (xs := [⟨0, ⟨100, 100⟩, ⟨200, 300⟩⟩, ⟨0, ⟨102, 102⟩, ⟨200, 300⟩⟩]) (by repeat ((with_reducible exact HBB.out))) hb); have n6_ := Aside0.mk (Kd.C_below (d := k42) (A := Ac) (n := 1) (xs := [⟨0, ⟨102, 102⟩, ⟨250, 300⟩⟩]) (by repeat ((with_reducible exact HC.out))) hb); clear HB; clear KL; clear KW; clear KR; clear HA; clear HBB; clear HC; have HB := n0_; have KL := n1_; have KW := n2_; have KR := n3_; have HA := n4_; have HBB := n5_; have HC := n6_; clear n0_ n1_ n2_ n3_ n4_ n5_ n6_; clear hb)
 go_wp2_with (go_at_call 18; (with_reducible refine (CE.out _).mono ?_); rintro e w15 ⟨rfl, hb⟩; have n0_ := Aside0.mk (below_step (by repeat ((with_reducible exact HB.out))) hb); have n1_ := Aside0.mk (blk_below (g := w2.heap.size) (o := (.cells #[.int .i64 0, .int .i64 101, .int .i64 101, .int .i64 301, .int .i64 310, .int .i64 0, .int .i64 100, .int .i64 102, .int .i64 200, .int .i64 300] 42)) (by (with_reducible repeat (fail)); exact KL.out) hb); have n2_ := Aside0.mk (blk_below (g := w5.heap.size) (o := (.cells #[.int .i64 0, .int .i64 100, .int .i64 100, .int .i64 200, .int .i64 300, .int .i64 0, .int .i64 101, .int .i64 101, .int .i64 200, .int .i64 310, .int .i64 0, .int .i64 102, .int .i64 102, .int .i64 200, .int .i64 300] 42)) (by (with_reducible repeat (fail)); exact KW.out) hb); have n3_ := Aside0.mk (blk_below (g := w12.heap.size) (o := (.cells #[.int .i64 200, .int .i64 100, .int .i64 0] 24)) (by (with_reducible repeat (fail)); exact KR.out) hb); have n4_ := Aside0.mk (Kd.C_below (d := k42) (A := Aa) (n := 3) (xs := exC) (by repeat ((with_reducible exact HA.out))) hb); have n5_ := Aside0.mk (Kd.C_below (d := k42) (A := Ab) (n := 2) (xs := [⟨0, ⟨100, 100⟩, ⟨200, 300⟩⟩, ⟨0, ⟨102, 102⟩, ⟨200, 300⟩⟩]) (by repeat ((with_reducible exact HBB.out))) hb); have n6_ := Aside0.mk (Kd.C_below (d := k42) (A := Ac) (n := 1) (xs := [⟨0, ⟨102, 102⟩, ⟨250, 300⟩⟩]) (by repeat ((with_reducible exact HC.out))) hb); clear HB; clear KL; clear KW; clear KR; clear HA; clear HBB; clear HC; have HB := n0_; have KL := n1_; have KW := n2_; have KR := n3_; have HA := n4_; have HBB := n5_; have HC := n6_; clear n0_ n1_ n2_ n3_ n4_ n5_ n6_; clear hb)
 go_wp2_with (go_at_call 22; (with_reducible refine (formelaw03_rect.calls 49 60 200 300 0 49 60 200 300 _ rfl).mono ?_); rintro e w16 ⟨rfl, hb⟩; have n0_ := Aside0.mk (below_step (by repeat ((with_reducible first | exact HB.out | apply below_alloc))) hb); have n1_ := Aside0.mk (blk_below (g := w2.heap.size) (o := (.cells #[.int .i64 0, .int .i64 101, .int .i64 101, .int .i64 301, .int .i64 310, .int .i64 0, .int .i64 100, .int .i64 102, .int .i64 200, .int .i64 300] 42)) (by (with_reducible repeat (refine blk_alloc ?_ _)); exact KL.out) hb); have n2_ := Aside0.mk (blk_below (g := w5.heap.size) (o := (.cells #[.int .i64 0, .int .i64 100, .int .i64 100, .int .i64 200, .int .i64 300, .int .i64 0, .int .i64 101, .int .i64 101, .int .i64 200, .int .i64 310, .int .i64 0, .int .i64 102, .int .i64 102, .int .i64 200, .int .i64 300] 42)) (by (with_reducible repeat (refine blk_alloc ?_ _)); exact KW.out) hb); have n3_ := Aside0.mk (blk_below (g := w12.heap.size) (o := (.cells #[.int .i64 200, .int .i64 100, .int .i64 0] 24)) (by (with_reducible repeat (refine blk_alloc ?_ _)); exact KR.out) hb); have n4_ := Aside0.mk (Kd.C_below (d := k42) (A := Aa) (n := 3) (xs := exC) (by repeat (first | (with_reducible exact HA.out) | (with_reducible refine Kd.C_alloc ?_ _))) hb); have n5_ := Aside0.mk (Kd.C_below (d := k42) (A := Ab) (n := 2) (xs := [⟨0, ⟨100, 100⟩, ⟨200, 300⟩⟩, ⟨0, ⟨102, 102⟩, ⟨200, 300⟩⟩]) (by repeat (first | (with_reducible exact HBB.out) | (with_reducible refine Kd.C_alloc ?_ _))) hb); have n6_ := Aside0.mk (Kd.C_below (d := k42) (A := Ac) (n := 1) (xs := [⟨0, ⟨102, 102⟩, ⟨250, 300⟩⟩]) (by repeat (first | (with_reducible exact HC.out) | (with_reducible refine Kd.C_alloc ?_ _))) hb); clear HB; clear KL; clear KW; clear KR; clear HA; clear HBB; clear HC; have HB := n0_; have KL := n1_; have KW := n2_; have KR := n3_; have HA := n4_; have HBB := n5_; have HC := n6_; clear n0_ n1_ n2_ n3_ n4_ n5_ n6_; clear hb)
 go_wp2_with (go_at_call 9; (with_reducible refine (CB.out _ _ ?s1).mono ?_); (case s1 => exact C_blockZ (cs := #[.int .i64 0, .int .i64 49, .int .i64 60, .int .i64 200, .int .i64 300]) (e := 42) (fr := (0, 0)) [⟨0, ⟨49, 60⟩, ⟨200, 300⟩⟩] (blk_new _ _) rfl (by decide)); rintro e w17 ⟨vr, rfl, ho, hb⟩; have n0_ := Aside0.mk (below_step (by repeat ((with_reducible first | exact HB.out | apply below_alloc))) hb); have n1_ := Aside0.mk (blk_below (g := w2.heap.size) (o := (.cells #[.int .i64 0, .int .i64 101, .int .i64 101, .int .i64 301, .int .i64 310, .int .i64 0, .int .i64 100, .int .i64 102, .int .i64 200, .int .i64 300] 42)) (by (with_reducible repeat (refine blk_alloc ?_ _)); exact KL.out) hb); have n2_ := Aside0.mk (blk_below (g := w5.heap.size) (o := (.cells #[.int .i64 0, .int .i64 100, .int .i64 100, .int .i64 200, .int .i64 300, .int .i64 0, .int .i64 101, .int .i64 101, .int .i64 200, .int .i64 310, .int .i64 0, .int .i64 102, .int .i64 102, .int .i64 200, .int .i64 300] 42)) (by (with_reducible repeat (refine blk_alloc ?_ _)); exact KW.out) hb); have n3_ := Aside0.mk (blk_below (g := w12.heap.size) (o := (.cells #[.int .i64 200, .int .i64 100, .int .i64 0] 24)) (by (with_reducible repeat (refine blk_alloc ?_ _)); exact KR.out) hb); have n4_ := Aside0.mk (Kd.C_below (d := k42) (A := Aa) (n := 3) (xs := exC) (by repeat (first | (with_reducible exact HA.out) | (with_reducible refine Kd.C_alloc ?_ _))) hb); have n5_ := Aside0.mk (Kd.C_below (d := k42) (A := Ab) (n := 2) (xs := [⟨0, ⟨100, 100⟩, ⟨200, 300⟩⟩, ⟨0, ⟨102, 102⟩, ⟨200, 300⟩⟩]) (by repeat (first | (with_reducible exact HBB.out) | (with_reducible refine Kd.C_alloc ?_ _))) hb); have n6_ := Aside0.mk (Kd.C_below (d := k42) (A := Ac) (n := 1) (xs := [⟨0, ⟨102, 102⟩, ⟨250, 300⟩⟩]) (by repeat (first | (with_reducible exact HC.out) | (with_reducible refine Kd.C_alloc ?_ _))) hb); clear HB; clear KL; clear KW; clear KR; clear HA; clear HBB; clear HC; have HB := n0_; have KL := n1_; have KW := n2_; have KR := n3_; have HA := n4_; have HBB := n5_; have HC := n6_; clear n0_ n1_ n2_ n3_ n4_ n5_ n6_; obtain ⟨Ax, cx, rfl⟩ : ∃ A c, vr = .slice A 0 c := Kd.R_slice ho; clear ho; clear hb)
 have x0 := (blk_cell KW.out 0).trans rfl
 have x1 := (blk_cell KW.out 1).trans rfl
 have x2 := (blk_cell KW.out 2).trans rfl
 have x3 := (blk_cell KW.out 3).trans rfl
 have x4 := (blk_cell KW.out 4).trans rfl
 have x5 := (blk_cell KW.out 10).trans rfl
 have x6 := (blk_cell KW.out 11).trans rfl
 have x7 := (blk_cell KW.out 12).trans rfl
 have x8 := (blk_cell KW.out 13).trans rfl
 have x9 := (blk_cell KW.out 14).trans rfl
 refine start_ (n := 24) (S := fun w' => w'.cell? ⟨w5.heap.size, 0, none⟩ = some (.int .i64 0) ∧ w'.cell? ⟨w5.heap.size, 1, none⟩ = some (.int .i64 100) ∧ w'.cell? ⟨w5.heap.size, 2, none⟩ = some (.int .i64 100) ∧ w'.cell? ⟨w5.heap.size, 3, none⟩ = some (.int .i64 200) ∧ w'.cell? ⟨w5.heap.size, 4, none⟩ = some (.int .i64 300) ∧ w'.cell? ⟨w5.heap.size, 10, none⟩ = some (.int .i64 0) ∧ w'.cell? ⟨w5.heap.size, 11, none⟩ = some (.int .i64 102) ∧ w'.cell? ⟨w5.heap.size, 12, none⟩ = some (.int .i64 102) ∧ w'.cell? ⟨w5.heap.size, 13, none⟩ = some (.int .i64 200) ∧ w'.cell? ⟨w5.heap.size, 14, none⟩ = some (.int .i64 300)) (ds := []) #[false, false, false, false, false, false, false, false, false, false, false, false, false, false, false, false, false, false, false, false, false, false, false, false] (by kernel_rfl) rfl rfl ⟨x0, x1, x2, x3, x4, x5, x6, x7, x8, x9⟩ (fun hHeld => ?_); refine with_tabW head.tab13 head.bits13 (fun HT_ HW_ => ?_)
 refine pure_ (i := 0) (N := some 118) (v := ?_) (a' := ?_) #[true, false, false, false, false, false, false, false, false, false, false, false, false, false, false, false, false, false, false, false, false, false, false, false] rfl rfl (any_of HT_.out (by kernel_rfl)) (fun _ _ _ h => h) (Or.inl ⟨by rfl, ?_⟩) ?_ ?_
 rotate_left
 · intro w'
   go_simp
   with_reducible rfl
 rotate_left
 · simp only [Act.put, List.setIfInBounds_toArray, List.set_cons_zero, List.set_cons_succ, i64_w, i32_w]
   rfl
 refine pure_ (i := 1) (N := some 119) (v := ?_) (a' := ?_) #[true, true, false, false, false, false, false, false, false, false, false, false, false, false, false, false, false, false, false, false, false, false, false, false] rfl rfl (any_of HT_.out (by kernel_rfl)) (fun _ _ _ h => h) (Or.inl ⟨by rfl, ?_⟩) ?_ ?_
 rotate_left
 · intro w'
   go_simp
   with_reducible rfl
 rotate_left
 · simp only [Act.put, List.setIfInBounds_toArray, List.set_cons_zero, List.set_cons_succ, i64_w, i32_w]
   rfl
 refine pure_ (i := 2) (N := some 120) (v := ?_) (a' := ?_) #[true, true, true, false, false, false, false, false, false, false, false, false, false, false, false, false, false, false, false, false, false, false, false, false] rfl rfl (any_of HT_.out (by kernel_rfl)) (fun _ _ _ h => h) (Or.inl ⟨by rfl, ?_⟩) ?_ ?_
 rotate_left
 · intro w'
   go_simp
   with_reducible rfl
 rotate_left
 · simp only [Act.put, List.setIfInBounds_toArray, List.set_cons_zero, List.set_cons_succ, i64_w, i32_w]
   rfl
 refine pure_ (i := 3) (N := some 121) (v := ?_) (a' := ?_) #[true, true, true, true, false, false, false, false, false, false, false, false, false, false, false, false, false, false, false, false, false, false, false, false] rfl rfl (any_of HT_.out (by kernel_rfl)) (fun _ _ _ h => h) (Or.inl ⟨by rfl, ?_⟩) ?_ ?_
 rotate_left
 · intro w'
   go_simp
   with_reducible rfl
 rotate_left
 · simp only [Act.put, List.setIfInBounds_toArray, List.set_cons_zero, List.set_cons_succ, i64_w, i32_w]
   rfl
 refine one_ (i := 4) (N := some 122) #[true, true, true, true, true, false, false, false, false, false, false, false, false, false, false, false, false, false, false, false, false, false, false, false] rfl rfl (one_of HT_.out (by kernel_rfl)) (by decide) (fun K hK => ?_)
 refine goes_ Tryz.func11 (by kernel_rfl) rfl #[.slice Aa 3 ca, .slice (some ⟨w5.heap.size, 0, none⟩) 3 3] (by rfl) rfl rfl (by (try simp only [List.map_toArray, List.map_cons, List.map_nil]); rfl) ?_
 with_reducible refine (S1.out _ _ _ _ _ ?s1 ?s2 ?s3 ?s4).mono ?_
 (case s1 => exact (by repeat (first | (with_reducible refine Kd.C_drew ?_) | exact HA.out)))
 (case s2 => exact HAL.out)
 (case s3 => exact C_blockZ (cs := #[.int .i64 0, .int .i64 100, .int .i64 100, .int .i64 200, .int .i64 300, .int .i64 0, .int .i64 101, .int .i64 101, .int .i64 200, .int .i64 310, .int .i64 0, .int .i64 102, .int .i64 102, .int .i64 200, .int .i64 300]) (e := 42) (fr := (0, 0)) exC (by (with_reducible repeat (refine blk_drew ?_)); exact KW.out) rfl (by decide))
 (case s4 => decide)
 rintro e w18 ⟨rfl, hdr⟩
 have hb := Drawn0.below' hdr
 clear hdr
 have n0_ := Aside0.mk (below_step (by repeat ((with_reducible first | exact HB.out | apply below_drew1))) hb)
 have n1_ := Aside0.mk (blk_below (g := w2.heap.size) (o := (.cells #[.int .i64 0, .int .i64 101, .int .i64 101, .int .i64 301, .int .i64 310, .int .i64 0, .int .i64 100, .int .i64 102, .int .i64 200, .int .i64 300] 42)) (by (with_reducible repeat (refine blk_drew ?_)); exact KL.out) hb)
 have n2_ := Aside0.mk (blk_below (g := w5.heap.size) (o := (.cells #[.int .i64 0, .int .i64 100, .int .i64 100, .int .i64 200, .int .i64 300, .int .i64 0, .int .i64 101, .int .i64 101, .int .i64 200, .int .i64 310, .int .i64 0, .int .i64 102, .int .i64 102, .int .i64 200, .int .i64 300] 42)) (by (with_reducible repeat (refine blk_drew ?_)); exact KW.out) hb)
 have n3_ := Aside0.mk (blk_below (g := w12.heap.size) (o := (.cells #[.int .i64 200, .int .i64 100, .int .i64 0] 24)) (by (with_reducible repeat (refine blk_drew ?_)); exact KR.out) hb)
 have n4_ := Aside0.mk (Kd.C_below (d := k42) (A := Aa) (n := 3) (xs := exC) (by repeat (first | (with_reducible exact HA.out) | (with_reducible refine Kd.C_drew ?_))) hb)
 have n5_ := Aside0.mk (Kd.C_below (d := k42) (A := Ab) (n := 2) (xs := [⟨0, ⟨100, 100⟩, ⟨200, 300⟩⟩, ⟨0, ⟨102, 102⟩, ⟨200, 300⟩⟩]) (by repeat (first | (with_reducible exact HBB.out) | (with_reducible refine Kd.C_drew ?_))) hb)
 have n6_ := Aside0.mk (Kd.C_below (d := k42) (A := Ac) (n := 1) (xs := [⟨0, ⟨102, 102⟩, ⟨250, 300⟩⟩]) (by repeat (first | (with_reducible exact HC.out) | (with_reducible refine Kd.C_drew ?_))) hb)
 clear HB
 clear KL
 clear KW
 clear KR
 clear HA
 clear HBB
 clear HC
 have HB := n0_
 have KL := n1_
 have KW := n2_
 have KR := n3_
 have HA := n4_
 have HBB := n5_
 have HC := n6_
 clear n0_ n1_ n2_ n3_ n4_ n5_ n6_
 obtain ⟨k0, k1, k2, k3, k4, k5, k6, k7, k8, k9⟩ := hHeld
 have m0 := (hb.cell (World.block_lt_of_cell? _ _ k0)).trans k0
 have m1 := (hb.cell (World.block_lt_of_cell? _ _ k1)).trans k1
 have m2 := (hb.cell (World.block_lt_of_cell? _ _ k2)).trans k2
 have m3 := (hb.cell (World.block_lt_of_cell? _ _ k3)).trans k3
 have m4 := (hb.cell (World.block_lt_of_cell? _ _ k4)).trans k4
 have m5 := (hb.cell (World.block_lt_of_cell? _ _ k5)).trans k5
 have m6 := (hb.cell (World.block_lt_of_cell? _ _ k6)).trans k6
 have m7 := (hb.cell (World.block_lt_of_cell? _ _ k7)).trans k7
 have m8 := (hb.cell (World.block_lt_of_cell? _ _ k8)).trans k8
 have m9 := (hb.cell (World.block_lt_of_cell? _ _ k9)).trans k9
 clear k0 k1 k2 k3 k4 k5 k6 k7 k8 k9
 refine ⟨_, rfl, ?_⟩
 clear hb
 refine hK.out _ _ ⟨m0, m1, m2, m3, m4, m5, m6, m7, m8, m9⟩ (fun hHeld => ?_)
 clear hK K m0 m1 m2 m3 m4 m5 m6 m7 m8 m9
 refine norm_ (a' := ?_) ?_ ?_
 rotate_left
 · show Act.put _ (some 122) _ = _
   simp only [Act.put, List.setIfInBounds_toArray, List.set_cons_zero, List.set_cons_succ, i64_w, i32_w]
   rfl
 refine pure_ (i := 5) (N := some 123) (v := ?_) (a' := ?_) #[true, true, true, true, true, true, false, false, false, false, false, false, false, false, false, false, false, false, false, false, false, false, false, false] rfl rfl (any_of HT_.out (by kernel_rfl)) (fun _ _ _ h => h) (Or.inl ⟨by rfl, ?_⟩) ?_ ?_
 rotate_left
 · intro w'
   go_simp
   with_reducible rfl
 rotate_left
 · simp only [Act.put, List.setIfInBounds_toArray, List.set_cons_zero, List.set_cons_succ, i64_w, i32_w]
   rfl
 refine pure_ (i := 6) (N := some 124) (v := ?_) (a' := ?_) #[true, true, true, true, true, true, true, false, false, false, false, false, false, false, false, false, false, false, false, false, false, false, false, false] rfl rfl (any_of HT_.out (by kernel_rfl)) (fun _ _ _ h => h) (Or.inl ⟨by rfl, ?_⟩) ?_ ?_
 rotate_left
 · intro w'
   go_simp
   with_reducible rfl
 rotate_left
 · simp only [Act.put, List.setIfInBounds_toArray, List.set_cons_zero, List.set_cons_succ, i64_w, i32_w]
   rfl
 refine pure_ (i := 7) (N := some 125) (v := ?_) (a' := ?_) #[true, true, true, true, true, true, true, true, false, false, false, false, false, false, false, false, false, false, false, false, false, false, false, false] rfl rfl (any_of HT_.out (by kernel_rfl)) (fun _ _ _ h => h) (Or.inl ⟨by rfl, ?_⟩) ?_ ?_
 rotate_left
 · intro w'
   go_simp
   with_reducible rfl
 rotate_left
 · simp only [Act.put, List.setIfInBounds_toArray, List.set_cons_zero, List.set_cons_succ, i64_w, i32_w]
   rfl
 refine pure_ (i := 8) (N := some 126) (v := ?_) (a' := ?_) #[true, true, true, true, true, true, true, true, true, false, false, false, false, false, false, false, false, false, false, false, false, false, false, false] rfl rfl (any_of HT_.out (by kernel_rfl)) (fun _ _ _ h => h) (Or.inl ⟨by rfl, ?_⟩) ?_ ?_
 rotate_left
 · intro w'
   go_simp
   with_reducible rfl
 rotate_left
 · simp only [Act.put, List.setIfInBounds_toArray, List.set_cons_zero, List.set_cons_succ, i64_w, i32_w]
   rfl
 refine pure_ (i := 9) (N := some 127) (v := ?_) (a' := ?_) #[true, true, true, true, true, true, true, true, true, true, false, false, false, false, false, false, false, false, false, false, false, false, false, false] rfl rfl (any_of HT_.out (by kernel_rfl)) (fun _ _ _ h => h) (Or.inl ⟨by rfl, ?_⟩) ?_ ?_
 rotate_left
 · intro w'
   go_simp
   with_reducible rfl
 rotate_left
 · simp only [Act.put, List.setIfInBounds_toArray, List.set_cons_zero, List.set_cons_succ, i64_w, i32_w]
   rfl
 refine pure_ (i := 11) (N := some 129) (v := ?_) (a' := ?_) #[true, true, true, true, true, true, true, true, true, true, false, true, false, false, false, false, false, false, false, false, false, false, false, false] rfl rfl (any_of HT_.out (by kernel_rfl)) (fun _ _ _ h => h) (Or.inl ⟨by rfl, ?_⟩) ?_ ?_
 rotate_left
 · intro w'
   go_simp
   with_reducible rfl
 rotate_left
 · simp only [Act.put, List.setIfInBounds_toArray, List.set_cons_zero, List.set_cons_succ, i64_w, i32_w]
   rfl
 refine pure_ (i := 12) (N := some 130) (v := ?_) (a' := ?_) #[true, true, true, true, true, true, true, true, true, true, false, true, true, false, false, false, false, false, false, false, false, false, false, false] rfl rfl (any_of HT_.out (by kernel_rfl)) (fun _ _ _ h => h) (Or.inl ⟨by rfl, ?_⟩) ?_ ?_
 rotate_left
 · intro w'
   go_simp
   with_reducible rfl
 rotate_left
 · simp only [Act.put, List.setIfInBounds_toArray, List.set_cons_zero, List.set_cons_succ, i64_w, i32_w]
   rfl
 refine take_ (i := 10) (N := some 128) (v := ?_) (a' := ?_) #[true, true, true, true, true, true, true, true, true, true, true, true, true, false, false, false, false, false, false, false, false, false, false, false] rfl rfl (take_ofW HT_.out HW_.out (by kernel_rfl)) (fun _ _ _ h => h) (Or.inl ⟨by rfl, ?_⟩) hHeld ?_ ?_
 rotate_left
 · rintro w' ⟨s0, s1, s2, s3, s4, s5, s6, s7, s8, s9⟩
   go_simp
   with_reducible rfl
 rotate_left
 · simp only [Act.put, List.setIfInBounds_toArray, List.set_cons_zero, List.set_cons_succ, i64_w, i32_w]
   rfl
 refine take_ (i := 13) (N := some 131) (v := ?_) (a' := ?_) #[true, true, true, true, true, true, true, true, true, true, true, true, true, true, false, false, false, false, false, false, false, false, false, false] rfl rfl (take_ofW HT_.out HW_.out (by kernel_rfl)) (fun _ _ _ h => h) (Or.inl ⟨by rfl, ?_⟩) hHeld ?_ ?_
 rotate_left
 · rintro w' ⟨s0, s1, s2, s3, s4, s5, s6, s7, s8, s9⟩
   go_simp
   with_reducible rfl
 rotate_left
 · simp only [Act.put, List.setIfInBounds_toArray, List.set_cons_zero, List.set_cons_succ, i64_w, i32_w]
   rfl
 refine one_ (i := 14) (N := some 132) #[true, true, true, true, true, true, true, true, true, true, true, true, true, true, true, false, false, false, false, false, false, false, false, false] rfl rfl (one_of HT_.out (by kernel_rfl)) (by decide) (fun K hK => ?_)
 refine value_ (w1 := ?_) (v := ?_) (by rfl) rfl ?_ ?_
 rotate_left 2
 · go_simp
   constructor
   · rfl
   · rfl
 have hb := below_alloc (Below.refl w18.heap.size w18) (.cells #[.int .i64 0, .int .i64 100, .int .i64 100, .int .i64 200, .int .i64 300, .int .i64 0, .int .i64 102, .int .i64 102, .int .i64 200, .int .i64 300] 42)
 obtain ⟨k0, k1, k2, k3, k4, k5, k6, k7, k8, k9⟩ := hHeld
 have m0 := (hb.cell (World.block_lt_of_cell? _ _ k0)).trans k0
 have m1 := (hb.cell (World.block_lt_of_cell? _ _ k1)).trans k1
 have m2 := (hb.cell (World.block_lt_of_cell? _ _ k2)).trans k2
 have m3 := (hb.cell (World.block_lt_of_cell? _ _ k3)).trans k3
 have m4 := (hb.cell (World.block_lt_of_cell? _ _ k4)).trans k4
 have m5 := (hb.cell (World.block_lt_of_cell? _ _ k5)).trans k5
 have m6 := (hb.cell (World.block_lt_of_cell? _ _ k6)).trans k6
 have m7 := (hb.cell (World.block_lt_of_cell? _ _ k7)).trans k7
 have m8 := (hb.cell (World.block_lt_of_cell? _ _ k8)).trans k8
 have m9 := (hb.cell (World.block_lt_of_cell? _ _ k9)).trans k9
 clear k0 k1 k2 k3 k4 k5 k6 k7 k8 k9
 clear hb
 refine hK.out _ _ ⟨m0, m1, m2, m3, m4, m5, m6, m7, m8, m9⟩ (fun hHeld => ?_)
 clear hK K m0 m1 m2 m3 m4 m5 m6 m7 m8 m9
 refine norm_ (a' := ?_) ?_ ?_
 rotate_left
 · show Act.put _ (some 132) _ = _
   simp only [Act.put, List.setIfInBounds_toArray, List.set_cons_zero, List.set_cons_succ, i64_w, i32_w]
   rfl
 refine one_ (i := 15) (N := some 133) #[true, true, true, true, true, true, true, true, true, true, true, true, true, true, true, true, false, false, false, false, false, false, false, false] rfl rfl (one_of HT_.out (by kernel_rfl)) (by decide) (fun K hK => ?_)
 refine goes_ Tryz.func11 (by kernel_rfl) rfl #[.slice Ab 2 cb, .slice (some ⟨w18.heap.size, 0, none⟩) 2 2] (by rfl) rfl rfl (by (try simp only [List.map_toArray, List.map_cons, List.map_nil]); rfl) ?_
 with_reducible refine (S2.out _ _ _ _ _ ?s1 ?s2 ?s3 ?s4).mono ?_
 (case s1 => exact (by repeat (first | (with_reducible refine Kd.C_alloc ?_ _) | exact HBB.out)))
 (case s2 => exact HBBL.out)
 (case s3 => exact C_blockZ (cs := #[.int .i64 0, .int .i64 100, .int .i64 100, .int .i64 200, .int .i64 300, .int .i64 0, .int .i64 102, .int .i64 102, .int .i64 200, .int .i64 300]) (e := 42) (fr := (0, 0)) [⟨0, ⟨100, 100⟩, ⟨200, 300⟩⟩, ⟨0, ⟨102, 102⟩, ⟨200, 300⟩⟩] (blk_new _ _) rfl (by decide))
 (case s4 => decide)
 rintro e w19 ⟨rfl, hdr⟩
 have hb := Drawn0.below' hdr
 clear hdr
 have n0_ := Aside0.mk (below_step (by repeat ((with_reducible first | exact HB.out | apply below_alloc))) hb)
 have n1_ := Aside0.mk (blk_below (g := w2.heap.size) (o := (.cells #[.int .i64 0, .int .i64 101, .int .i64 101, .int .i64 301, .int .i64 310, .int .i64 0, .int .i64 100, .int .i64 102, .int .i64 200, .int .i64 300] 42)) (by (with_reducible repeat (refine blk_alloc ?_ _)); exact KL.out) hb)
 have n2_ := Aside0.mk (blk_below (g := w5.heap.size) (o := (.cells #[.int .i64 0, .int .i64 100, .int .i64 100, .int .i64 200, .int .i64 300, .int .i64 0, .int .i64 101, .int .i64 101, .int .i64 200, .int .i64 310, .int .i64 0, .int .i64 102, .int .i64 102, .int .i64 200, .int .i64 300] 42)) (by (with_reducible repeat (refine blk_alloc ?_ _)); exact KW.out) hb)
 have n3_ := Aside0.mk (blk_below (g := w12.heap.size) (o := (.cells #[.int .i64 200, .int .i64 100, .int .i64 0] 24)) (by (with_reducible repeat (refine blk_alloc ?_ _)); exact KR.out) hb)
 have n4_ := Aside0.mk (Kd.C_below (d := k42) (A := Aa) (n := 3) (xs := exC) (by repeat (first | (with_reducible exact HA.out) | (with_reducible refine Kd.C_alloc ?_ _))) hb)
 have n5_ := Aside0.mk (Kd.C_below (d := k42) (A := Ab) (n := 2) (xs := [⟨0, ⟨100, 100⟩, ⟨200, 300⟩⟩, ⟨0, ⟨102, 102⟩, ⟨200, 300⟩⟩]) (by repeat (first | (with_reducible exact HBB.out) | (with_reducible refine Kd.C_alloc ?_ _))) hb)
 have n6_ := Aside0.mk (Kd.C_below (d := k42) (A := Ac) (n := 1) (xs := [⟨0, ⟨102, 102⟩, ⟨250, 300⟩⟩]) (by repeat (first | (with_reducible exact HC.out) | (with_reducible refine Kd.C_alloc ?_ _))) hb)
 clear HB
 clear KL
 clear KW
 clear KR
 clear HA
 clear HBB
 clear HC
 have HB := n0_
 have KL := n1_
 have KW := n2_
 have KR := n3_
 have HA := n4_
 have HBB := n5_
 have HC := n6_
 clear n0_ n1_ n2_ n3_ n4_ n5_ n6_
 obtain ⟨k0, k1, k2, k3, k4, k5, k6, k7, k8, k9⟩ := hHeld
 have m0 := (hb.cell (World.block_lt_of_cell? _ _ k0)).trans k0
 have m1 := (hb.cell (World.block_lt_of_cell? _ _ k1)).trans k1
 have m2 := (hb.cell (World.block_lt_of_cell? _ _ k2)).trans k2
 have m3 := (hb.cell (World.block_lt_of_cell? _ _ k3)).trans k3
 have m4 := (hb.cell (World.block_lt_of_cell? _ _ k4)).trans k4
 have m5 := (hb.cell (World.block_lt_of_cell? _ _ k5)).trans k5
 have m6 := (hb.cell (World.block_lt_of_cell? _ _ k6)).trans k6
 have m7 := (hb.cell (World.block_lt_of_cell? _ _ k7)).trans k7
 have m8 := (hb.cell (World.block_lt_of_cell? _ _ k8)).trans k8
 have m9 := (hb.cell (World.block_lt_of_cell? _ _ k9)).trans k9
 clear k0 k1 k2 k3 k4 k5 k6 k7 k8 k9
 refine ⟨_, rfl, ?_⟩
 clear hb
 refine hK.out _ _ ⟨m0, m1, m2, m3, m4, m5, m6, m7, m8, m9⟩ (fun hHeld => ?_)
 clear hK K m0 m1 m2 m3 m4 m5 m6 m7 m8 m9
 refine norm_ (a' := ?_) ?_ ?_
 rotate_left
 · show Act.put _ (some 133) _ = _
   simp only [Act.put, List.setIfInBounds_toArray, List.set_cons_zero, List.set_cons_succ, i64_w, i32_w]
   rfl
 refine pure_ (i := 16) (N := some 134) (v := ?_) (a' := ?_) #[true, true, true, true, true, true, true, true, true, true, true, true, true, true, true, true, true, false, false, false, false, false, false, false] rfl rfl (any_of HT_.out (by kernel_rfl)) (fun _ _ _ h => h) (Or.inl ⟨by rfl, ?_⟩) ?_ ?_
 rotate_left
 · intro w'
   go_simp
   with_reducible rfl
 rotate_left
 · simp only [Act.put, List.setIfInBounds_toArray, List.set_cons_zero, List.set_cons_succ, i64_w, i32_w]
   rfl
 refine pure_ (i := 17) (N := some 135) (v := ?_) (a' := ?_) #[true, true, true, true, true, true, true, true, true, true, true, true, true, true, true, true, true, true, false, false, false, false, false, false] rfl rfl (any_of HT_.out (by kernel_rfl)) (fun _ _ _ h => h) (Or.inl ⟨by rfl, ?_⟩) ?_ ?_
 rotate_left
 · intro w'
   go_simp
   with_reducible rfl
 rotate_left
 · simp only [Act.put, List.setIfInBounds_toArray, List.set_cons_zero, List.set_cons_succ, i64_w, i32_w]
   rfl
 refine pure_ (i := 18) (N := some 136) (v := ?_) (a' := ?_) #[true, true, true, true, true, true, true, true, true, true, true, true, true, true, true, true, true, true, true, false, false, false, false, false] rfl rfl (any_of HT_.out (by kernel_rfl)) (fun _ _ _ h => h) (Or.inl ⟨by rfl, ?_⟩) ?_ ?_
 rotate_left
 · intro w'
   go_simp
   with_reducible rfl
 rotate_left
 · simp only [Act.put, List.setIfInBounds_toArray, List.set_cons_zero, List.set_cons_succ, i64_w, i32_w]
   rfl
 refine one_ (i := 19) (N := some 137) #[true, true, true, true, true, true, true, true, true, true, true, true, true, true, true, true, true, true, true, true, false, false, false, false] rfl rfl (one_of HT_.out (by kernel_rfl)) (by decide) (fun K hK => ?_)
 refine goes_ Tryz.func22 (by kernel_rfl) rfl #[.int .i64 102, .int .i64 102, .int .i64 250, .int .i64 300] (by rfl) rfl rfl (by (try simp only [List.map_toArray, List.map_cons, List.map_nil]); rfl) ?_
 with_reducible refine (formelaw03_rect.calls 102 102 250 300 0 102 102 250 300 _ rfl).mono ?_
 rintro e w20 ⟨rfl, hb⟩
 have n0_ := Aside0.mk (below_step (by repeat ((with_reducible exact HB.out))) hb)
 have n1_ := Aside0.mk (blk_below (g := w2.heap.size) (o := (.cells #[.int .i64 0, .int .i64 101, .int .i64 101, .int .i64 301, .int .i64 310, .int .i64 0, .int .i64 100, .int .i64 102, .int .i64 200, .int .i64 300] 42)) (by (with_reducible repeat (fail)); exact KL.out) hb)
 have n2_ := Aside0.mk (blk_below (g := w5.heap.size) (o := (.cells #[.int .i64 0, .int .i64 100, .int .i64 100, .int .i64 200, .int .i64 300, .int .i64 0, .int .i64 101, .int .i64 101, .int .i64 200, .int .i64 310, .int .i64 0, .int .i64 102, .int .i64 102, .int .i64 200, .int .i64 300] 42)) (by (with_reducible repeat (fail)); exact KW.out) hb)
 have n3_ := Aside0.mk (blk_below (g := w12.heap.size) (o := (.cells #[.int .i64 200, .int .i64 100, .int .i64 0] 24)) (by (with_reducible repeat (fail)); exact KR.out) hb)
 have n4_ := Aside0.mk (Kd.C_below (d := k42) (A := Aa) (n := 3) (xs := exC) (by repeat ((with_reducible exact HA.out))) hb)
 have n5_ := Aside0.mk (Kd.C_below (d := k42) (A := Ab) (n := 2) (xs := [⟨0, ⟨100, 100⟩, ⟨200, 300⟩⟩, ⟨0, ⟨102, 102⟩, ⟨200, 300⟩⟩]) (by repeat ((with_reducible exact HBB.out))) hb)
 have n6_ := Aside0.mk (Kd.C_below (d := k42) (A := Ac) (n := 1) (xs := [⟨0, ⟨102, 102⟩, ⟨250, 300⟩⟩]) (by repeat ((with_reducible exact HC.out))) hb)
 clear HB
 clear KL
 clear KW
 clear KR
 clear HA
 clear HBB
 clear HC
 have HB := n0_
 have KL := n1_
 have KW := n2_
 have KR := n3_
 have HA := n4_
 have HBB := n5_
 have HC := n6_
 clear n0_ n1_ n2_ n3_ n4_ n5_ n6_
 obtain ⟨k0, k1, k2, k3, k4, k5, k6, k7, k8, k9⟩ := hHeld
 have m0 := (hb.cell (World.block_lt_of_cell? _ _ k0)).trans k0
 have m1 := (hb.cell (World.block_lt_of_cell? _ _ k1)).trans k1
 have m2 := (hb.cell (World.block_lt_of_cell? _ _ k2)).trans k2
 have m3 := (hb.cell (World.block_lt_of_cell? _ _ k3)).trans k3
 have m4 := (hb.cell (World.block_lt_of_cell? _ _ k4)).trans k4
 have m5 := (hb.cell (World.block_lt_of_cell? _ _ k5)).trans k5
 have m6 := (hb.cell (World.block_lt_of_cell? _ _ k6)).trans k6
 have m7 := (hb.cell (World.block_lt_of_cell? _ _ k7)).trans k7
 have m8 := (hb.cell (World.block_lt_of_cell? _ _ k8)).trans k8
 have m9 := (hb.cell (World.block_lt_of_cell? _ _ k9)).trans k9
 clear k0 k1 k2 k3 k4 k5 k6 k7 k8 k9
 refine ⟨_, rfl, ?_⟩
 clear hb
 refine hK.out _ _ ⟨m0, m1, m2, m3, m4, m5, m6, m7, m8, m9⟩ (fun hHeld => ?_)
 clear hK K m0 m1 m2 m3 m4 m5 m6 m7 m8 m9
 refine norm_ (a' := ?_) ?_ ?_
 rotate_left
 · show Act.put _ (some 137) _ = _
   simp only [Act.put, List.setIfInBounds_toArray, List.set_cons_zero, List.set_cons_succ, i64_w, i32_w]
   rfl
 refine one_ (i := 20) (N := some 138) #[true, true, true, true, true, true, true, true, true, true, true, true, true, true, true, true, true, true, true, true, true, false, false, false] rfl rfl (one_of HT_.out (by kernel_rfl)) (by decide) (fun K hK => ?_)
 refine value_ (w1 := ?_) (v := ?_) (by rfl) rfl ?_ ?_
 rotate_left 2
 · go_simp
   constructor
   · rfl
   · rfl
 have hb := below_alloc (Below.refl w20.heap.size w20) (.cells #[.int .i64 0, .int .i64 102, .int .i64 102, .int .i64 250, .int .i64 300] 42)
 obtain ⟨k0, k1, k2, k3, k4, k5, k6, k7, k8, k9⟩ := hHeld
 have m0 := (hb.cell (World.block_lt_of_cell? _ _ k0)).trans k0
 have m1 := (hb.cell (World.block_lt_of_cell? _ _ k1)).trans k1
 have m2 := (hb.cell (World.block_lt_of_cell? _ _ k2)).trans k2
 have m3 := (hb.cell (World.block_lt_of_cell? _ _ k3)).trans k3
 have m4 := (hb.cell (World.block_lt_of_cell? _ _ k4)).trans k4
 have m5 := (hb.cell (World.block_lt_of_cell? _ _ k5)).trans k5
 have m6 := (hb.cell (World.block_lt_of_cell? _ _ k6)).trans k6
 have m7 := (hb.cell (World.block_lt_of_cell? _ _ k7)).trans k7
 have m8 := (hb.cell (World.block_lt_of_cell? _ _ k8)).trans k8
 have m9 := (hb.cell (World.block_lt_of_cell? _ _ k9)).trans k9
 clear k0 k1 k2 k3 k4 k5 k6 k7 k8 k9
 clear hb
 refine hK.out _ _ ⟨m0, m1, m2, m3, m4, m5, m6, m7, m8, m9⟩ (fun hHeld => ?_)
 clear hK K m0 m1 m2 m3 m4 m5 m6 m7 m8 m9
 refine norm_ (a' := ?_) ?_ ?_
 rotate_left
 · show Act.put _ (some 138) _ = _
   simp only [Act.put, List.setIfInBounds_toArray, List.set_cons_zero, List.set_cons_succ, i64_w, i32_w]
   rfl
 refine one_ (i := 21) (N := some 139) #[true, true, true, true, true, true, true, true, true, true, true, true, true, true, true, true, true, true, true, true, true, true, false, false] rfl rfl (one_of HT_.out (by kernel_rfl)) (by decide) (fun K hK => ?_)
 refine goes_ Tryz.func11 (by kernel_rfl) rfl #[.slice Ac 1 cc, .slice (some ⟨w20.heap.size, 0, none⟩) 1 1] (by rfl) rfl rfl (by (try simp only [List.map_toArray, List.map_cons, List.map_nil]); rfl) ?_
 with_reducible refine (S3.out _ _ _ _ _ ?s1 ?s2 ?s3 ?s4).mono ?_
 (case s1 => exact (by repeat (first | (with_reducible refine Kd.C_alloc ?_ _) | exact HC.out)))
 (case s2 => exact HCL.out)
 (case s3 => exact C_blockZ (cs := #[.int .i64 0, .int .i64 102, .int .i64 102, .int .i64 250, .int .i64 300]) (e := 42) (fr := (0, 0)) [⟨0, ⟨102, 102⟩, ⟨250, 300⟩⟩] (blk_new _ _) rfl (by decide))
 (case s4 => decide)
 rintro e w21 ⟨rfl, hdr⟩
 have hb := Drawn0.below' hdr
 clear hdr
 have n0_ := Aside0.mk (below_step (by repeat ((with_reducible first | exact HB.out | apply below_alloc))) hb)
 have n1_ := Aside0.mk (blk_below (g := w2.heap.size) (o := (.cells #[.int .i64 0, .int .i64 101, .int .i64 101, .int .i64 301, .int .i64 310, .int .i64 0, .int .i64 100, .int .i64 102, .int .i64 200, .int .i64 300] 42)) (by (with_reducible repeat (refine blk_alloc ?_ _)); exact KL.out) hb)
 have n2_ := Aside0.mk (blk_below (g := w5.heap.size) (o := (.cells #[.int .i64 0, .int .i64 100, .int .i64 100, .int .i64 200, .int .i64 300, .int .i64 0, .int .i64 101, .int .i64 101, .int .i64 200, .int .i64 310, .int .i64 0, .int .i64 102, .int .i64 102, .int .i64 200, .int .i64 300] 42)) (by (with_reducible repeat (refine blk_alloc ?_ _)); exact KW.out) hb)
 have n3_ := Aside0.mk (blk_below (g := w12.heap.size) (o := (.cells #[.int .i64 200, .int .i64 100, .int .i64 0] 24)) (by (with_reducible repeat (refine blk_alloc ?_ _)); exact KR.out) hb)
 have n4_ := Aside0.mk (Kd.C_below (d := k42) (A := Aa) (n := 3) (xs := exC) (by repeat (first | (with_reducible exact HA.out) | (with_reducible refine Kd.C_alloc ?_ _))) hb)
 have n5_ := Aside0.mk (Kd.C_below (d := k42) (A := Ab) (n := 2) (xs := [⟨0, ⟨100, 100⟩, ⟨200, 300⟩⟩, ⟨0, ⟨102, 102⟩, ⟨200, 300⟩⟩]) (by repeat (first | (with_reducible exact HBB.out) | (with_reducible refine Kd.C_alloc ?_ _))) hb)
 have n6_ := Aside0.mk (Kd.C_below (d := k42) (A := Ac) (n := 1) (xs := [⟨0, ⟨102, 102⟩, ⟨250, 300⟩⟩]) (by repeat (first | (with_reducible exact HC.out) | (with_reducible refine Kd.C_alloc ?_ _))) hb)
 clear HB
 clear KL
 clear KW
 clear KR
 clear HA
 clear HBB
 clear HC
 have HB := n0_
 have KL := n1_
 have KW := n2_
 have KR := n3_
 have HA := n4_
 have HBB := n5_
 have HC := n6_
 clear n0_ n1_ n2_ n3_ n4_ n5_ n6_
 obtain ⟨k0, k1, k2, k3, k4, k5, k6, k7, k8, k9⟩ := hHeld
 have m0 := (hb.cell (World.block_lt_of_cell? _ _ k0)).trans k0
 have m1 := (hb.cell (World.block_lt_of_cell? _ _ k1)).trans k1
 have m2 := (hb.cell (World.block_lt_of_cell? _ _ k2)).trans k2
 have m3 := (hb.cell (World.block_lt_of_cell? _ _ k3)).trans k3
 have m4 := (hb.cell (World.block_lt_of_cell? _ _ k4)).trans k4
 have m5 := (hb.cell (World.block_lt_of_cell? _ _ k5)).trans k5
 have m6 := (hb.cell (World.block_lt_of_cell? _ _ k6)).trans k6
 have m7 := (hb.cell (World.block_lt_of_cell? _ _ k7)).trans k7
 have m8 := (hb.cell (World.block_lt_of_cell? _ _ k8)).trans k8
 have m9 := (hb.cell (World.block_lt_of_cell? _ _ k9)).trans k9
 clear k0 k1 k2 k3 k4 k5 k6 k7 k8 k9
 refine ⟨_, rfl, ?_⟩
 clear hb
 refine hK.out _ _ ⟨m0, m1, m2, m3, m4, m5, m6, m7, m8, m9⟩ (fun hHeld => ?_)
 clear hK K m0 m1 m2 m3 m4 m5 m6 m7 m8 m9
 refine norm_ (a' := ?_) ?_ ?_
 rotate_left
 · show Act.put _ (some 139) _ = _
   simp only [Act.put, List.setIfInBounds_toArray, List.set_cons_zero, List.set_cons_succ, i64_w, i32_w]
   rfl
 refine pure_ (i := 22) (N := some 140) (v := ?_) (a' := ?_) #[true, true, true, true, true, true, true, true, true, true, true, true, true, true, true, true, true, true, true, true, true, true, true, false] rfl rfl (any_of HT_.out (by kernel_rfl)) (fun _ _ _ h => h) (Or.inl ⟨by rfl, ?_⟩) ?_ ?_
 rotate_left
 · intro w'
   go_simp
   with_reducible rfl
 rotate_left
 · simp only [Act.put, List.setIfInBounds_toArray, List.set_cons_zero, List.set_cons_succ, i64_w, i32_w]
   rfl
 refine pure_ (i := 23) (N := some 23) (v := ?_) (a' := ?_) #[true, true, true, true, true, true, true, true, true, true, true, true, true, true, true, true, true, true, true, true, true, true, true, true] rfl rfl (any_of HT_.out (by kernel_rfl)) (fun _ _ _ h => h) (Or.inl ⟨by rfl, ?_⟩) ?_ ?_
 rotate_left
 · intro w'
   go_simp
   with_reducible rfl
 rotate_left
 · simp only [Act.put, List.setIfInBounds_toArray, List.set_cons_zero, List.set_cons_succ, i64_w, i32_w]
   rfl
 refine done_ (done_of HT_.out (by kernel_rfl)) ?_
 have y0 := (blk_cell KR.out 0).trans rfl
 have y1 := (blk_cell KR.out 1).trans rfl
 have y2 := (blk_cell KR.out 2).trans rfl
 go_wp2
 go_ret
 exact ⟨rfl, HB.out⟩
theorem formelaw03_head.calls (r : Bool) (w : World) (h : formelaw03_head.f = some r) : Calls Tryz.prog 4 #[] w fun e w' => e = .returned (.bool r) ∧ Below w.heap.size w w' := by
 obtain rfl : true = r := Option.some.inj h
 exact head_calls w
end Go.Proofs.YtacohlafmbhcdaaGreat.PAll
