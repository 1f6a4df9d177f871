/- Printed by a program of this session (wip/gprint.py) over the translation, cut to what is named (wip/dcut.py). Not trusted: Lean checks it. -/
import Derived.Test.YtdigjjncoeaiiaaPAlld0
import Derived.Test.YtdigjjncoeaiiaaPAllw16
import Derived.Test.YtdigjjncoeaiiaaPAllw7
import Derived.Test.YtdigjjncoeaiiaaPAllw1
import Derived.Test.YtdigjjncoeaiiaaPAllw23
namespace Go.Proofs.Ytdigjjncoeaiiaa.PAll
open Go.RowKit Go.Proofs.YtdigjjncoeaiiaaW.PrintWords Go.Proofs.YtdigjjncoeaiiaaW.PrintLast Go.Proofs.YtdigjjncoeaiiaaW.PrintMore
attribute [local go_sem] max2_int min2_int max_two min_two max_three min_three max_four min_four -- for this text's walks alone
set_option linter.unusedVariables false
set_option linter.unusedSimpArgs false
section
set_option maxHeartbeats 8000000 in
set_option maxRecDepth 100000 in
theorem curve_split.calls (k : Nat) (a0 : Int) (P1_ : Nat → Prop) (A1 : Option Addr) (c1 : Nat) (l1 : List Int) (r : List (S57)) (w : World) (hs1 : Kd.V (Kd.int .i64) 3 w w.heap.size (fun k_ => P1_ k_) (.slice A1 l1.length c1) l1) (h : curve_split.f k a0 l1 = some r) :
  Calls Try.prog 68 #[.int .i64 a0, .slice A1 l1.length c1] w fun e w' => ∃ v0_ : Value, e = .returned (v0_) ∧ Kd.R k57 57 w' w.heap.size (fun k_ => (w.heap.size ≤ k_)) v0_ r ∧ Below w.heap.size w w' := by
 have hu55 := Try.underlying55
 have hu57 := Try.underlying57
 have HO1 := Aside0.mk (show Kd.V (Kd.int .i64) 3 w w.heap.size (fun k_ => (P1_ k_ ∨ w.heap.size ≤ k_)) (.slice A1 l1.length c1) l1 from Kd.V_mono hs1 (fun k_ hk => .inl hk))
 have HB := Aside0.mk (Below.refl w.heap.size w)
 have H : (curve_split.l0 k a0 l1 ([] : List (S57))) = some r := h
 clear h
 have H' := Aside0.mk H
 clear H
 go_enter Try.func68, Try.ntmps68
 go_wp2
 repeat (go_quiet (fail); try go_wp2)
 go_loopg [0, 1, 5] k (fun kq v0 v1 v5 w' => ∃ (x0_1 : Int) (x1_1 : List Int) (x5_1 : List (S57)), v0 = .int .i64 x0_1 ∧ Aside0 (curve_split.l0 kq x0_1 x1_1 x5_1 = some r) ∧ Aside0 (kq ≤ k) ∧ Aside0 (Kd.V (Kd.int .i64) 3 w' w.heap.size (fun k_ => (P1_ k_ ∨ w.heap.size ≤ k_) ∧ some k_ ≠ (v5 : Value).ownBlock) v1 x1_1) ∧ Aside0 (Kd.R k57 57 w' w.heap.size (fun k_ => (w.heap.size ≤ k_)) v5 x5_1) ∧ Aside0 (Below w.heap.size w w'))
 case atStart => exact ⟨(a0), (l1), (([] : List (S57))), (by first | rfl | (simp; done) | (simp [*]; done)), H', ⟨Nat.le_refl _⟩, ⟨by (with_reducible repeat (first | apply Kd.V_alloc | apply Kd.V_drewN | apply Kd.V_drew)); exact Kd.V_mono HO1.out (fun _ hk => ⟨hk, (by simp [Value.ownBlock])⟩)⟩, ⟨by first | exact Kd.R_nil _ _ _ _ _ | exact Kd.N_nil _ _ _ _ _ | exact Kd.V_nil _ _ _ _ _ | exact Kd.Q_nil _ _ _ _ _ | exact Kd.S_nil _ _ _ _ _⟩, ⟨by repeat (first | (with_reducible first | exact HB.out | apply below_alloc | apply pw_below_drewN | apply below_drew1) | exact HB.out)⟩⟩
 case round =>
  clear H'
  try clear c1
  try clear p2
  obtain ⟨x0_1, x1_1, x5_1, rfl, HA, HK1, HO_1, HO_5, HB⟩ := hrel
  cases gk with
  | zero => exact absurd HA.out (by simp [curve_split.l0])
  | succ k1 =>
   have H := HA.out
   clear HA
   simp only [curve_split.l0] at H
   by_cases c3 : (x1_1.length : Int) > 0
   · rw [if_pos c3] at H
     have c3b0 : decide (0 < (x1_1.length : Int)) = true := decide_eq_true c3
     have c3b1 : decide (0 < x1_1.length) = true := decide_eq_true (by omega)
     clear c3
     replace H := Option.bind_eq_some_iff.mp H
     obtain ⟨⟨t169, t170, t171, t172⟩, A40, H⟩ := H
     replace H : (if x5_1.length < 3518437208883 then (if 0 ≤ t169 then (if t169 ≤ (x1_1.length : Int) then (curve_split.l0 k1 (wrap64 (x0_1 + t169)) (x1_1.drop (t169 : Int).toNat) (x5_1 ++ [(⟨x0_1, wrap64 (x0_1 + t169), (⟨t170, t171, t172⟩ : S55)⟩ : S57)])) else (none)) else (none)) else (none)) = some r := H
     have A4 := Aside0.mk A40
     clear A40
     by_cases c5 : x5_1.length < 3518437208883
     · rw [if_pos c5] at H
       have LMc5 := Aside0.mk c5
       clear c5
       obtain ⟨y174, hy174⟩ : ∃ y_ : List (S57), y_ = (x5_1 ++ [(⟨x0_1, wrap64 (x0_1 + t169), (⟨t170, t171, t172⟩ : S55)⟩ : S57)]) := ⟨_, rfl⟩
       replace H : (if 0 ≤ t169 then (if t169 ≤ (x1_1.length : Int) then (curve_split.l0 k1 (wrap64 (x0_1 + t169)) (x1_1.drop (t169 : Int).toNat) y174) else (none)) else (none)) = some r := by first | (rw [hy174]; with_reducible exact H) | (have H2_ := (Option.bind_some _ _).symm.trans H; rw [hy174]; with_reducible exact H2_) | (have H2_ := (Option.bind_some _ _).symm.trans H; with_reducible exact H2_) | with_reducible exact H | (rw [hy174]; exact H) | exact H
       have Ny174 := Aside0.mk hy174
       clear hy174
       by_cases c6 : 0 ≤ t169
       · rw [if_pos c6] at H
         have c6b0 := eq_true c6
         have c6b1 : decide (0 ≤ t169) = true := decide_eq_true c6
         clear c6
         by_cases c7 : t169 ≤ (x1_1.length : Int)
         · rw [if_pos c7] at H
           have c7b0 := eq_true c7
           have c7b1 : decide (t169 ≤ (x1_1.length : Int)) = true := decide_eq_true c7
           clear c7
           obtain ⟨y177, hy177⟩ : ∃ y_ : List Int, y_ = (x1_1.drop (t169 : Int).toNat) := ⟨_, rfl⟩
           replace H : (curve_split.l0 k1 (wrap64 (x0_1 + t169)) y177 y174) = some r := by first | (rw [hy177]; with_reducible exact H) | (have H2_ := (Option.bind_some _ _).symm.trans H; rw [hy177]; with_reducible exact H2_) | (have H2_ := (Option.bind_some _ _).symm.trans H; with_reducible exact H2_) | with_reducible exact H | (rw [hy177]; exact H) | exact H
           have Ny177 := Aside0.mk hy177
           clear hy177
           have H' := Aside0.mk H
           clear H
           obtain ⟨Ao8, co8, eo8⟩ := Kd.V_slice HO_1.out
           subst eo8
           go_wp2_with (first | (go_at_call 84; (with_reducible refine (curve_longest.calls k1 _ _ x1_1 t169 t170 t171 t172 _ ?side1 ?side2 A4.out).mono ?_); (case side1 => repeat (first | exact (Kd.V_reads' HO_1.out).2.2 | (with_reducible refine Kd.C_alloc ?_ _) | (with_reducible refine Kd.C_drewN ?_ _) | (with_reducible refine Kd.C_drew ?_))); (case side2 => exact (Kd.V_reads' HO_1.out).2.1); rintro e w9 ⟨rfl, hb⟩; replace HO_1 := Aside0.mk (Kd.V_below (by (with_reducible repeat (first | apply Kd.V_alloc | apply Kd.V_drewN | apply Kd.V_drew)); exact HO_1.out) hb); replace HO_5 := Aside0.mk (Kd.R_below (by (with_reducible repeat (first | apply Kd.R_alloc | apply Kd.R_drewN | apply Kd.R_drew)); exact HO_5.out) hb); replace HB := Aside0.mk (below_step (by repeat (first | (with_reducible first | exact HB.out | apply below_alloc | apply pw_below_drewN | apply below_drew1) | exact HB.out)) hb); (try clear hb); (try clear hb2); (try clear hk); (try clear hi)) | ((with_reducible refine gate_dst (N := 7) rfl ?_); refine box_event ?hg (N := 7) ?hd (cs := #[.int .i64 0, .int .i64 0, .int .i64 0]) (t := 55) ?hr ?_; (case hd => rfl); (case hg => rfl); (case hr => first | (go_simp; done) | (go_simp; rfl)); intro gb173 hg w10 hbox hb; replace HO_1 := Aside0.mk (Kd.V_below (Kd.V_elderB (by (with_reducible repeat (first | apply Kd.V_alloc | apply Kd.V_drewN | apply Kd.V_drew)); exact HO_1.out) gb173 (Nat.le_of_eq hg.symm)) hb); replace HO_5 := Aside0.mk (Kd.R_below (by (with_reducible repeat (first | apply Kd.R_alloc | apply Kd.R_drewN | apply Kd.R_drew)); exact HO_5.out) hb); have BK173 := Aside0.mk (hbox); have GW173 := Aside0.mk ((by rw [hg]; exact (below_size (by repeat (first | (with_reducible first | exact HB.out | apply below_alloc | apply pw_below_drewN | apply below_drew1) | exact HB.out))) : w.heap.size ≤ gb173)); have GE173 := Aside0.mk ((by rw [hg]; exact (below_size (by repeat (first | (with_reducible first | exact HB.out | apply below_alloc | apply pw_below_drewN | apply below_drew1) | exact HB.out))) : w.heap.size ≤ gb173)); replace HB := Aside0.mk (below_step (by repeat (first | (with_reducible first | exact HB.out | apply below_alloc | apply pw_below_drewN | apply below_drew1) | exact HB.out)) hb); clear hb hbox hg; have hcz11_0 : w10.cell? ⟨gb173, 0, none⟩ = some (.int .i64 0) := (blk_cell BK173.out 0).trans rfl; have hcz11_1 : w10.cell? ⟨gb173, 1, none⟩ = some (.int .i64 0) := (blk_cell BK173.out 1).trans rfl; have hcz11_2 : w10.cell? ⟨gb173, 2, none⟩ = some (.int .i64 0) := (blk_cell BK173.out 2).trans rfl; have hfz11_0 := blk_frozen BK173.out 0; have hfz11_1 := blk_frozen BK173.out 1; have hfz11_2 := blk_frozen BK173.out 2) | ((with_reducible refine gate_builtin (b := .append) (xs := #[.tmp 16, .tmp 23]) rfl ?_); at_builtin; refine Kd.R_append k57 (w0 := w) w.heap.size rfl (.tmp 16) (.tmp 23) 38 57 (.agg #[(.int .i64 0), (.int .i64 0), (.int .i64 0), (.int .i64 0), (.int .i64 0)]) 40 rfl Try.underlying38 info57 rfl (by decide) (by omega) u5 x5_1 (⟨x0_1, wrap64 (x0_1 + t169), (⟨t170, t171, t172⟩ : S55)⟩ : S57) [.int .i64 x0_1, .int .i64 (wrap64 (x0_1 + t169)), .int .i64 t170, .int .i64 t171, .int .i64 t172] (fun k_ => (w.heap.size ≤ k_)) (fun _ => False) rfl (by first | (go_simp; done) | (go_simp; rfl)) ?aP (fun _ hk => hk.elim) ?aF ?aO ?aB ?aS ?aL ?_; (case aP => exact k57_mkM _ _ _ (⟨x0_1, wrap64 (x0_1 + t169), (⟨t170, t171, t172⟩ : S55)⟩ : S57)); (case aB => exact (by repeat (first | (with_reducible first | exact HB.out | apply below_alloc | apply pw_below_drewN | apply below_drew1 | refine below_set ?_ GE173.out) | exact HB.out))); (case aF => exact (fun k_ hk => (Nat.le_trans (below_size (by repeat (first | (with_reducible first | exact HB.out | apply below_alloc | apply pw_below_drewN | apply below_drew1 | refine below_set ?_ GE173.out) | exact HB.out))) hk))); (case aO => exact (by (with_reducible repeat (first | apply Kd.R_alloc | apply Kd.R_drewN | apply Kd.R_drew)); exact Kd.R_mono (Kd.R_far (p := ⟨gb173, 2, none⟩) (Kd.R_far (p := ⟨gb173, 1, none⟩) (Kd.R_far (p := ⟨gb173, 0, none⟩) (Kd.R_types HO_5.out BK173.out (by decide)) (fun _ hk => hk.2) (.int .i64 t170)) (fun _ hk => hk.2) (.int .i64 t171)) (fun _ hk => hk.2) (.int .i64 t172)) (fun _ hk => hk.1))); (case aS => exact (below_size (by repeat (first | (with_reducible first | exact HB.out | apply below_alloc | apply pw_below_drewN | apply below_drew1 | refine below_set ?_ GE173.out) | exact HB.out)))); (case aL => have := LMc5.out; omega); intro v175 w12 ho hb hg hat; rw [← Ny174.out] at ho; replace HO_1 := Aside0.mk (Kd.V_afterv (ok := (fun k_ => (P1_ k_ ∨ w.heap.size ≤ k_) ∧ k_ ≠ gb173)) (by (with_reducible repeat (first | apply Kd.V_alloc | apply Kd.V_drewN | apply Kd.V_drew)); exact Kd.V_mono (Kd.V_far (p := ⟨gb173, 2, none⟩) (Kd.V_far (p := ⟨gb173, 1, none⟩) (Kd.V_far (p := ⟨gb173, 0, none⟩) (Kd.V_mono HO_1.out (fun k_ hk => (⟨hk, hk.2⟩ : _ ∧ k_ ≠ gb173))) (fun _ hk => hk.2) (.int .i64 t170)) (fun _ hk => hk.2) (.int .i64 t171)) (fun _ hk => hk.2) (.int .i64 t172)) (fun _ hk => ⟨⟨hk.1.1.1, hk.1.2⟩, hk.1.1.2⟩)) hg hat); replace BK173 := Aside0.mk (blk_grown (g := gb173) (o := .cells #[.int .i64 t170, .int .i64 t171, .int .i64 t172] 55 (0, 0)) (by (with_reducible repeat (first | refine blk_drewN ?_ _ | refine blk_drew ?_ | refine blk_alloc ?_ _)); refine blk_put (cs := #[.int .i64 t170, .int .i64 t171, .int .i64 0]) ?_ 2 _ rfl; (with_reducible repeat (first | refine blk_drewN ?_ _ | refine blk_drew ?_ | refine blk_alloc ?_ _)); refine blk_put (cs := #[.int .i64 t170, .int .i64 0, .int .i64 0]) ?_ 1 _ rfl; (with_reducible repeat (first | refine blk_drewN ?_ _ | refine blk_drew ?_ | refine blk_alloc ?_ _)); refine blk_put (cs := #[.int .i64 0, .int .i64 0, .int .i64 0]) ?_ 0 _ rfl; (with_reducible repeat (first | refine blk_drewN ?_ _ | refine blk_drew ?_ | refine blk_alloc ?_ _)); exact BK173.out) hg (Kd.R_ne HO_5.out BK173.out (by decide))); replace HB := Aside0.mk (hb); have HO176 := Aside0.mk (ho); clear HO_5; clear ho hb hg hat; have q13 : (t169 : Int) ≤ ((x1_1.length : Int) : Int) := of_decide_eq_true (by first | (with_reducible assumption) | assumption); obtain ⟨i013, hi013, _, hsz13, _⟩ := info_parts info3; have hroom13 : x1_1.length ≤ co8 := (Kd.V_reads' HO_1.out).2.1; have hC13 : Kd.F (Kd.int .i64) _ _ Ao8 x1_1.length x1_1 := (Kd.V_at (base := w.heap.size) HO_1.out).2.2; have q013 : (0 : Int) ≤ (t169 : Int) := of_decide_eq_true (by first | (with_reducible assumption) | assumption); have hcut13 := cut_from (P := Try.prog) 33 3 .i64 Try.underlying33 hi013 1 hsz13 Ao8 x1_1.length co8 t169 q013 q13; have hr13 := Kd.F_cut (m := (t169 : Int).toNat) (c := co8) hC13 (by omega) hroom13; obtain ⟨A13, hA13⟩ : ∃ A1, A1 = (if co8 = (t169 : Int).toNat then Ao8 else (Ao8 : Option Addr).map (·.add ((t169 : Int).toNat * 1))) := ⟨_, rfl⟩; obtain ⟨c13, hc13⟩ : ∃ c1, c1 = co8 - (t169 : Int).toNat := ⟨_, rfl⟩; have hy13 : y177.length = x1_1.length - (t169 : Int).toNat := (by rw [Ny177.out, List.length_drop] <;> omega); rw [show (x1_1).drop (t169 : Int).toNat = y177 from Ny177.out.symm] at hr13; replace hr13 : Kd.F (Kd.int .i64) _ _ A13 y177.length y177 := (by rw [hA13]; exact hr13); rw [← hy13, ← hA13, ← hc13] at hcut13; have HO181 := Aside0.mk (show Kd.V (Kd.int .i64) 3 _ w.heap.size _ (.slice A13 y177.length c13) y177 from Kd.V_mk (by rw [hy13, hc13]; exact Nat.sub_le_sub_right hroom13 _) hr13); have HC181 := Aside0.mk (show y177.length ≤ c13 from by rw [hy13, hc13]; exact Nat.sub_le_sub_right hroom13 _); clear hr13 hC13 hroom13 hi013 hsz13 hc13; have KY13 := Aside0.mk hy13; have KA13 := Aside0.mk hA13; clear hy13 hA13; replace q13 := eq_true q13))
           repeat (go_quiet (first | (go_at_call 84; (with_reducible refine (curve_longest.calls k1 _ _ x1_1 t169 t170 t171 t172 _ ?side1 ?side2 A4.out).mono ?_); (case side1 => repeat (first | exact (Kd.V_reads' HO_1.out).2.2 | (with_reducible refine Kd.C_alloc ?_ _) | (with_reducible refine Kd.C_drewN ?_ _) | (with_reducible refine Kd.C_drew ?_))); (case side2 => exact (Kd.V_reads' HO_1.out).2.1); rintro e w9 ⟨rfl, hb⟩; replace HO_1 := Aside0.mk (Kd.V_below (by (with_reducible repeat (first | apply Kd.V_alloc | apply Kd.V_drewN | apply Kd.V_drew)); exact HO_1.out) hb); replace HO_5 := Aside0.mk (Kd.R_below (by (with_reducible repeat (first | apply Kd.R_alloc | apply Kd.R_drewN | apply Kd.R_drew)); exact HO_5.out) hb); replace HB := Aside0.mk (below_step (by repeat (first | (with_reducible first | exact HB.out | apply below_alloc | apply pw_below_drewN | apply below_drew1) | exact HB.out)) hb); (try clear hb); (try clear hb2); (try clear hk); (try clear hi)) | ((with_reducible refine gate_dst (N := 7) rfl ?_); refine box_event ?hg (N := 7) ?hd (cs := #[.int .i64 0, .int .i64 0, .int .i64 0]) (t := 55) ?hr ?_; (case hd => rfl); (case hg => rfl); (case hr => first | (go_simp; done) | (go_simp; rfl)); intro gb173 hg w10 hbox hb; replace HO_1 := Aside0.mk (Kd.V_below (Kd.V_elderB (by (with_reducible repeat (first | apply Kd.V_alloc | apply Kd.V_drewN | apply Kd.V_drew)); exact HO_1.out) gb173 (Nat.le_of_eq hg.symm)) hb); replace HO_5 := Aside0.mk (Kd.R_below (by (with_reducible repeat (first | apply Kd.R_alloc | apply Kd.R_drewN | apply Kd.R_drew)); exact HO_5.out) hb); have BK173 := Aside0.mk (hbox); have GW173 := Aside0.mk ((by rw [hg]; exact (below_size (by repeat (first | (with_reducible first | exact HB.out | apply below_alloc | apply pw_below_drewN | apply below_drew1) | exact HB.out))) : w.heap.size ≤ gb173)); have GE173 := Aside0.mk ((by rw [hg]; exact (below_size (by repeat (first | (with_reducible first | exact HB.out | apply below_alloc | apply pw_below_drewN | apply below_drew1) | exact HB.out))) : w.heap.size ≤ gb173)); replace HB := Aside0.mk (below_step (by repeat (first | (with_reducible first | exact HB.out | apply below_alloc | apply pw_below_drewN | apply below_drew1) | exact HB.out)) hb); clear hb hbox hg; have hcz11_0 : w10.cell? ⟨gb173, 0, none⟩ = some (.int .i64 0) := (blk_cell BK173.out 0).trans rfl; have hcz11_1 : w10.cell? ⟨gb173, 1, none⟩ = some (.int .i64 0) := (blk_cell BK173.out 1).trans rfl; have hcz11_2 : w10.cell? ⟨gb173, 2, none⟩ = some (.int .i64 0) := (blk_cell BK173.out 2).trans rfl; have hfz11_0 := blk_frozen BK173.out 0; have hfz11_1 := blk_frozen BK173.out 1; have hfz11_2 := blk_frozen BK173.out 2) | ((with_reducible refine gate_builtin (b := .append) (xs := #[.tmp 16, .tmp 23]) rfl ?_); at_builtin; refine Kd.R_append k57 (w0 := w) w.heap.size rfl (.tmp 16) (.tmp 23) 38 57 (.agg #[(.int .i64 0), (.int .i64 0), (.int .i64 0), (.int .i64 0), (.int .i64 0)]) 40 rfl Try.underlying38 info57 rfl (by decide) (by omega) u5 x5_1 (⟨x0_1, wrap64 (x0_1 + t169), (⟨t170, t171, t172⟩ : S55)⟩ : S57) [.int .i64 x0_1, .int .i64 (wrap64 (x0_1 + t169)), .int .i64 t170, .int .i64 t171, .int .i64 t172] (fun k_ => (w.heap.size ≤ k_)) (fun _ => False) rfl (by first | (go_simp; done) | (go_simp; rfl)) ?aP (fun _ hk => hk.elim) ?aF ?aO ?aB ?aS ?aL ?_; (case aP => exact k57_mkM _ _ _ (⟨x0_1, wrap64 (x0_1 + t169), (⟨t170, t171, t172⟩ : S55)⟩ : S57)); (case aB => exact (by repeat (first | (with_reducible first | exact HB.out | apply below_alloc | apply pw_below_drewN | apply below_drew1 | refine below_set ?_ GE173.out) | exact HB.out))); (case aF => exact (fun k_ hk => (Nat.le_trans (below_size (by repeat (first | (with_reducible first | exact HB.out | apply below_alloc | apply pw_below_drewN | apply below_drew1 | refine below_set ?_ GE173.out) | exact HB.out))) hk))); (case aO => exact (by (with_reducible repeat (first | apply Kd.R_alloc | apply Kd.R_drewN | apply Kd.R_drew)); exact Kd.R_mono (Kd.R_far (p := ⟨gb173, 2, none⟩) (Kd.R_far (p := ⟨gb173, 1, none⟩) (Kd.R_far (p := ⟨gb173, 0, none⟩) (Kd.R_types HO_5.out BK173.out (by decide)) (fun _ hk => hk.2) (.int .i64 t170)) (fun _ hk => hk.2) (.int .i64 t171)) (fun _ hk => hk.2) (.int .i64 t172)) (fun _ hk => hk.1))); (case aS => exact (below_size (by repeat (first | (with_reducible first | exact HB.out | apply below_alloc | apply pw_below_drewN | apply below_drew1 | refine below_set ?_ GE173.out) | exact HB.out)))); (case aL => have := LMc5.out; omega); intro v175 w12 ho hb hg hat; rw [← Ny174.out] at ho; replace HO_1 := Aside0.mk (Kd.V_afterv (ok := (fun k_ => (P1_ k_ ∨ w.heap.size ≤ k_) ∧ k_ ≠ gb173)) (by (with_reducible repeat (first | apply Kd.V_alloc | apply Kd.V_drewN | apply Kd.V_drew)); exact Kd.V_mono (Kd.V_far (p := ⟨gb173, 2, none⟩) (Kd.V_far (p := ⟨gb173, 1, none⟩) (Kd.V_far (p := ⟨gb173, 0, none⟩) (Kd.V_mono HO_1.out (fun k_ hk => (⟨hk, hk.2⟩ : _ ∧ k_ ≠ gb173))) (fun _ hk => hk.2) (.int .i64 t170)) (fun _ hk => hk.2) (.int .i64 t171)) (fun _ hk => hk.2) (.int .i64 t172)) (fun _ hk => ⟨⟨hk.1.1.1, hk.1.2⟩, hk.1.1.2⟩)) hg hat); replace BK173 := Aside0.mk (blk_grown (g := gb173) (o := .cells #[.int .i64 t170, .int .i64 t171, .int .i64 t172] 55 (0, 0)) (by (with_reducible repeat (first | refine blk_drewN ?_ _ | refine blk_drew ?_ | refine blk_alloc ?_ _)); refine blk_put (cs := #[.int .i64 t170, .int .i64 t171, .int .i64 0]) ?_ 2 _ rfl; (with_reducible repeat (first | refine blk_drewN ?_ _ | refine blk_drew ?_ | refine blk_alloc ?_ _)); refine blk_put (cs := #[.int .i64 t170, .int .i64 0, .int .i64 0]) ?_ 1 _ rfl; (with_reducible repeat (first | refine blk_drewN ?_ _ | refine blk_drew ?_ | refine blk_alloc ?_ _)); refine blk_put (cs := #[.int .i64 0, .int .i64 0, .int .i64 0]) ?_ 0 _ rfl; (with_reducible repeat (first | refine blk_drewN ?_ _ | refine blk_drew ?_ | refine blk_alloc ?_ _)); exact BK173.out) hg (Kd.R_ne HO_5.out BK173.out (by decide))); replace HB := Aside0.mk (hb); have HO176 := Aside0.mk (ho); clear HO_5; clear ho hb hg hat; have q13 : (t169 : Int) ≤ ((x1_1.length : Int) : Int) := of_decide_eq_true (by first | (with_reducible assumption) | assumption); obtain ⟨i013, hi013, _, hsz13, _⟩ := info_parts info3; have hroom13 : x1_1.length ≤ co8 := (Kd.V_reads' HO_1.out).2.1; have hC13 : Kd.F (Kd.int .i64) _ _ Ao8 x1_1.length x1_1 := (Kd.V_at (base := w.heap.size) HO_1.out).2.2; have q013 : (0 : Int) ≤ (t169 : Int) := of_decide_eq_true (by first | (with_reducible assumption) | assumption); have hcut13 := cut_from (P := Try.prog) 33 3 .i64 Try.underlying33 hi013 1 hsz13 Ao8 x1_1.length co8 t169 q013 q13; have hr13 := Kd.F_cut (m := (t169 : Int).toNat) (c := co8) hC13 (by omega) hroom13; obtain ⟨A13, hA13⟩ : ∃ A1, A1 = (if co8 = (t169 : Int).toNat then Ao8 else (Ao8 : Option Addr).map (·.add ((t169 : Int).toNat * 1))) := ⟨_, rfl⟩; obtain ⟨c13, hc13⟩ : ∃ c1, c1 = co8 - (t169 : Int).toNat := ⟨_, rfl⟩; have hy13 : y177.length = x1_1.length - (t169 : Int).toNat := (by rw [Ny177.out, List.length_drop] <;> omega); rw [show (x1_1).drop (t169 : Int).toNat = y177 from Ny177.out.symm] at hr13; replace hr13 : Kd.F (Kd.int .i64) _ _ A13 y177.length y177 := (by rw [hA13]; exact hr13); rw [← hy13, ← hA13, ← hc13] at hcut13; have HO181 := Aside0.mk (show Kd.V (Kd.int .i64) 3 _ w.heap.size _ (.slice A13 y177.length c13) y177 from Kd.V_mk (by rw [hy13, hc13]; exact Nat.sub_le_sub_right hroom13 _) hr13); have HC181 := Aside0.mk (show y177.length ≤ c13 from by rw [hy13, hc13]; exact Nat.sub_le_sub_right hroom13 _); clear hr13 hC13 hroom13 hi013 hsz13 hc13; have KY13 := Aside0.mk hy13; have KA13 := Aside0.mk hA13; clear hy13 hA13; replace q13 := eq_true q13)); try go_wp2_with (first | (go_at_call 84; (with_reducible refine (curve_longest.calls k1 _ _ x1_1 t169 t170 t171 t172 _ ?side1 ?side2 A4.out).mono ?_); (case side1 => repeat (first | exact (Kd.V_reads' HO_1.out).2.2 | (with_reducible refine Kd.C_alloc ?_ _) | (with_reducible refine Kd.C_drewN ?_ _) | (with_reducible refine Kd.C_drew ?_))); (case side2 => exact (Kd.V_reads' HO_1.out).2.1); rintro e w9 ⟨rfl, hb⟩; replace HO_1 := Aside0.mk (Kd.V_below (by (with_reducible repeat (first | apply Kd.V_alloc | apply Kd.V_drewN | apply Kd.V_drew)); exact HO_1.out) hb); replace HO_5 := Aside0.mk (Kd.R_below (by (with_reducible repeat (first | apply Kd.R_alloc | apply Kd.R_drewN | apply Kd.R_drew)); exact HO_5.out) hb); replace HB := Aside0.mk (below_step (by repeat (first | (with_reducible first | exact HB.out | apply below_alloc | apply pw_below_drewN | apply below_drew1) | exact HB.out)) hb); (try clear hb); (try clear hb2); (try clear hk); (try clear hi)) | ((with_reducible refine gate_dst (N := 7) rfl ?_); refine box_event ?hg (N := 7) ?hd (cs := #[.int .i64 0, .int .i64 0, .int .i64 0]) (t := 55) ?hr ?_; (case hd => rfl); (case hg => rfl); (case hr => first | (go_simp; done) | (go_simp; rfl)); intro gb173 hg w10 hbox hb; replace HO_1 := Aside0.mk (Kd.V_below (Kd.V_elderB (by (with_reducible repeat (first | apply Kd.V_alloc | apply Kd.V_drewN | apply Kd.V_drew)); exact HO_1.out) gb173 (Nat.le_of_eq hg.symm)) hb); replace HO_5 := Aside0.mk (Kd.R_below (by (with_reducible repeat (first | apply Kd.R_alloc | apply Kd.R_drewN | apply Kd.R_drew)); exact HO_5.out) hb); have BK173 := Aside0.mk (hbox); have GW173 := Aside0.mk ((by rw [hg]; exact (below_size (by repeat (first | (with_reducible first | exact HB.out | apply below_alloc | apply pw_below_drewN | apply below_drew1) | exact HB.out))) : w.heap.size ≤ gb173)); have GE173 := Aside0.mk ((by rw [hg]; exact (below_size (by repeat (first | (with_reducible first | exact HB.out | apply below_alloc | apply pw_below_drewN | apply below_drew1) | exact HB.out))) : w.heap.size ≤ gb173)); replace HB := Aside0.mk (below_step (by repeat (first | (with_reducible first | exact HB.out | apply below_alloc | apply pw_below_drewN | apply below_drew1) | exact HB.out)) hb); clear hb hbox hg; have hcz11_0 : w10.cell? ⟨gb173, 0, none⟩ = some (.int .i64 0) := (blk_cell BK173.out 0).trans rfl; have hcz11_1 : w10.cell? ⟨gb173, 1, none⟩ = some (.int .i64 0) := (blk_cell BK173.out 1).trans rfl; have hcz11_2 : w10.cell? ⟨gb173, 2, none⟩ = some (.int .i64 0) := (blk_cell BK173.out 2).trans rfl; have hfz11_0 := blk_frozen BK173.out 0; have hfz11_1 := blk_frozen BK173.out 1; have hfz11_2 := blk_frozen BK173.out 2) | ((with_reducible refine gate_builtin (b := .append) (xs := #[.tmp 16, .tmp 23]) rfl ?_); at_builtin; refine Kd.R_append k57 (w0 := w) w.heap.size rfl (.tmp 16) (.tmp 23) 38 57 (.agg #[(.int .i64 0), (.int .i64 0), (.int .i64 0), (.int .i64 0), (.int .i64 0)]) 40 rfl Try.underlying38 info57 rfl (by decide) (by omega) u5 x5_1 (⟨x0_1, wrap64 (x0_1 + t169), (⟨t170, t171, t172⟩ : S55)⟩ : S57) [.int .i64 x0_1, .int .i64 (wrap64 (x0_1 + t169)), .int .i64 t170, .int .i64 t171, .int .i64 t172] (fun k_ => (w.heap.size ≤ k_)) (fun _ => False) rfl (by first | (go_simp; done) | (go_simp; rfl)) ?aP (fun _ hk => hk.elim) ?aF ?aO ?aB ?aS ?aL ?_; (case aP => exact k57_mkM _ _ _ (⟨x0_1, wrap64 (x0_1 + t169), (⟨t170, t171, t172⟩ : S55)⟩ : S57)); (case aB => exact (by repeat (first | (with_reducible first | exact HB.out | apply below_alloc | apply pw_below_drewN | apply below_drew1 | refine below_set ?_ GE173.out) | exact HB.out))); (case aF => exact (fun k_ hk => (Nat.le_trans (below_size (by repeat (first | (with_reducible first | exact HB.out | apply below_alloc | apply pw_below_drewN | apply below_drew1 | refine below_set ?_ GE173.out) | exact HB.out))) hk))); (case aO => exact (by (with_reducible repeat (first | apply Kd.R_alloc | apply Kd.R_drewN | apply Kd.R_drew)); exact Kd.R_mono (Kd.R_far (p := ⟨gb173, 2, none⟩) (Kd.R_far (p := ⟨gb173, 1, none⟩) (Kd.R_far (p := ⟨gb173, 0, none⟩) (Kd.R_types HO_5.out BK173.out (by decide)) (fun _ hk => hk.2) (.int .i64 t170)) (fun _ hk => hk.2) (.int .i64 t171)) (fun _ hk => hk.2) (.int .i64 t172)) (fun _ hk => hk.1))); (case aS => exact (below_size (by repeat (first | (with_reducible first | exact HB.out | apply below_alloc | apply pw_below_drewN | apply below_drew1 | refine below_set ?_ GE173.out) | exact HB.out)))); (case aL => have := LMc5.out; omega); intro v175 w12 ho hb hg hat; rw [← Ny174.out] at ho; replace HO_1 := Aside0.mk (Kd.V_afterv (ok := (fun k_ => (P1_ k_ ∨ w.heap.size ≤ k_) ∧ k_ ≠ gb173)) (by (with_reducible repeat (first | apply Kd.V_alloc | apply Kd.V_drewN | apply Kd.V_drew)); exact Kd.V_mono (Kd.V_far (p := ⟨gb173, 2, none⟩) (Kd.V_far (p := ⟨gb173, 1, none⟩) (Kd.V_far (p := ⟨gb173, 0, none⟩) (Kd.V_mono HO_1.out (fun k_ hk => (⟨hk, hk.2⟩ : _ ∧ k_ ≠ gb173))) (fun _ hk => hk.2) (.int .i64 t170)) (fun _ hk => hk.2) (.int .i64 t171)) (fun _ hk => hk.2) (.int .i64 t172)) (fun _ hk => ⟨⟨hk.1.1.1, hk.1.2⟩, hk.1.1.2⟩)) hg hat); replace BK173 := Aside0.mk (blk_grown (g := gb173) (o := .cells #[.int .i64 t170, .int .i64 t171, .int .i64 t172] 55 (0, 0)) (by (with_reducible repeat (first | refine blk_drewN ?_ _ | refine blk_drew ?_ | refine blk_alloc ?_ _)); refine blk_put (cs := #[.int .i64 t170, .int .i64 t171, .int .i64 0]) ?_ 2 _ rfl; (with_reducible repeat (first | refine blk_drewN ?_ _ | refine blk_drew ?_ | refine blk_alloc ?_ _)); refine blk_put (cs := #[.int .i64 t170, .int .i64 0, .int .i64 0]) ?_ 1 _ rfl; (with_reducible repeat (first | refine blk_drewN ?_ _ | refine blk_drew ?_ | refine blk_alloc ?_ _)); refine blk_put (cs := #[.int .i64 0, .int .i64 0, .int .i64 0]) ?_ 0 _ rfl; (with_reducible repeat (first | refine blk_drewN ?_ _ | refine blk_drew ?_ | refine blk_alloc ?_ _)); exact BK173.out) hg (Kd.R_ne HO_5.out BK173.out (by decide))); replace HB := Aside0.mk (hb); have HO176 := Aside0.mk (ho); clear HO_5; clear ho hb hg hat; have q13 : (t169 : Int) ≤ ((x1_1.length : Int) : Int) := of_decide_eq_true (by first | (with_reducible assumption) | assumption); obtain ⟨i013, hi013, _, hsz13, _⟩ := info_parts info3; have hroom13 : x1_1.length ≤ co8 := (Kd.V_reads' HO_1.out).2.1; have hC13 : Kd.F (Kd.int .i64) _ _ Ao8 x1_1.length x1_1 := (Kd.V_at (base := w.heap.size) HO_1.out).2.2; have q013 : (0 : Int) ≤ (t169 : Int) := of_decide_eq_true (by first | (with_reducible assumption) | assumption); have hcut13 := cut_from (P := Try.prog) 33 3 .i64 Try.underlying33 hi013 1 hsz13 Ao8 x1_1.length co8 t169 q013 q13; have hr13 := Kd.F_cut (m := (t169 : Int).toNat) (c := co8) hC13 (by omega) hroom13; obtain ⟨A13, hA13⟩ : ∃ A1, A1 = (if co8 = (t169 : Int).toNat then Ao8 else (Ao8 : Option Addr).map (·.add ((t169 : Int).toNat * 1))) := ⟨_, rfl⟩; obtain ⟨c13, hc13⟩ : ∃ c1, c1 = co8 - (t169 : Int).toNat := ⟨_, rfl⟩; have hy13 : y177.length = x1_1.length - (t169 : Int).toNat := (by rw [Ny177.out, List.length_drop] <;> omega); rw [show (x1_1).drop (t169 : Int).toNat = y177 from Ny177.out.symm] at hr13; replace hr13 : Kd.F (Kd.int .i64) _ _ A13 y177.length y177 := (by rw [hA13]; exact hr13); rw [← hy13, ← hA13, ← hc13] at hcut13; have HO181 := Aside0.mk (show Kd.V (Kd.int .i64) 3 _ w.heap.size _ (.slice A13 y177.length c13) y177 from Kd.V_mk (by rw [hy13, hc13]; exact Nat.sub_le_sub_right hroom13 _) hr13); have HC181 := Aside0.mk (show y177.length ≤ c13 from by rw [hy13, hc13]; exact Nat.sub_le_sub_right hroom13 _); clear hr13 hC13 hroom13 hi013 hsz13 hc13; have KY13 := Aside0.mk hy13; have KA13 := Aside0.mk hA13; clear hy13 hA13; replace q13 := eq_true q13)))
           go_roundg k1
           case measure => have := HK1.out; omega
           case rel => exact ⟨(wrap64 (x0_1 + t169)), (y177), (y174), (by first | rfl | (simp; done) | (simp [*]; done)), H', ⟨by have := HK1.out; omega⟩, ⟨by (with_reducible repeat (first | apply Kd.V_alloc | apply Kd.V_drewN | apply Kd.V_drew)); exact Kd.V_mono HO181.out (fun _ hk => ⟨hk.1.1, hk.2⟩)⟩, ⟨by (with_reducible repeat (first | apply Kd.R_alloc | apply Kd.R_drewN | apply Kd.R_drew)); exact HO176.out⟩, ⟨by repeat (first | (with_reducible first | exact HB.out | apply below_alloc | apply pw_below_drewN | apply below_drew1 | refine below_set ?_ GE173.out) | exact HB.out)⟩⟩
         · rw [if_neg c7] at H
           exact absurd H (by simp)
       · rw [if_neg c6] at H
         exact absurd H (by simp)
     · rw [if_neg c5] at H
       exact absurd H (by simp)
   · rw [if_neg c3] at H
     have c3b0 : decide (0 < (x1_1.length : Int)) = false := decide_eq_false c3
     have c3b1 : decide (0 < x1_1.length) = false := decide_eq_false (by omega)
     clear c3
     obtain rfl := Option.some.inj H
     obtain ⟨Ao14, co14, eo14⟩ := Kd.V_slice HO_1.out
     subst eo14
     go_wp2
     repeat (go_quiet (fail); try go_wp2)
     go_ret
     exact ⟨_, by first | rfl | (simp [errW_none, errW_some] <;> rfl) | (simp [*, errW_none, errW_some] <;> rfl), by (with_reducible repeat (first | apply Kd.R_alloc | apply Kd.R_drewN | apply Kd.R_drew)); exact HO_5.out, by repeat (first | (with_reducible first | exact HB.out | apply below_alloc | apply pw_below_drewN | apply below_drew1) | exact HB.out)⟩
end
section
open Go.Proofs.YtdigjjncoeaiiaaGlib
set_option maxHeartbeats 8000000 in
set_option maxRecDepth 100000 in
theorem curve_Make.calls (k : Nat) (a0 : Int) (P1_ : Nat → Prop) (A1 : Option Addr) (c1 : Nat) (l1 : List Int) (r1 : List S57) (r2 : Int) (w : World) (hs1 : Kd.V (Kd.int .i64) 3 w w.heap.size (fun k_ => P1_ k_) (.slice A1 l1.length c1) l1) (h : curve_Make.f k a0 l1 = some (r1, r2)) :
  Calls Try.prog 38 #[.int .i64 a0, .slice A1 l1.length c1] w fun e w' => ∃ v0_ : Value, e = .returned (.tuple #[v0_, .int .i64 r2]) ∧ Kd.R k57 57 w' w.heap.size (fun k_ => (w.heap.size ≤ k_)) v0_ r1 ∧ Below w.heap.size w w' := by
 have HC := Aside0.mk (Kd.V_reads' hs1)
 have HV := Aside0.mk hs1
 have hwl : wrap64 (4001 - (l1.length : Int)) = 4001 - (l1.length : Int) := wrap64_id (by have := Kd.C_max HC.out.2.2; omega) (by have := Kd.C_max HC.out.2.2; omega)
 have CO := Aside0.mk (fun W (h : Below w.heap.size w W) => containsI_calls 66 #[] enters66 (fun z => !coordB z) (fun _ => True) (fun _ _ h _ => h) (fun z W _ => (curve_Make_1.calls z _ W (make1_of z)).mono (fun e w' h => ⟨h.1, h.2.below⟩)) A1 c1 l1 W (Kd.C_below HC.out.2.2 h) HC.out.2.1 trivial)
 have H := Aside0.mk h
 clear hs1 h
 go_enter Try.func38, Try.ntmps38
 by_cases hbig : l1.length > 4000
 · have d0 : decide ((4000 : Int) < (l1.length : Int)) = true := decide_eq_true (by omega)
   have H1 := H.out
   unfold curve_Make.f at H1
   rw [if_pos hbig] at H1
   obtain ⟨rfl, rfl⟩ := Prod.mk.inj (Option.some.inj H1)
   clear H1
   go_wp2
   go_ret2
   exact ⟨_, rfl, Kd.R_nil _ _ _ _ _, Below.refl _ _⟩
 · have d0 : decide ((4000 : Int) < (l1.length : Int)) = false := decide_eq_false (by omega)
   have H1 := H.out
   unfold curve_Make.f at H1
   rw [if_neg hbig] at H1
   have H1 := Aside0.mk H1
   clear H
   by_cases hz : l1.length = 0
   · have d1 : (((l1.length : Int)) == 0) = true := by rw [hz]; rfl
     have H2 := H1.out
     rw [if_pos (show badM a0 l1 = true by unfold badM; rw [decide_eq_true hz]; rfl)] at H2
     obtain ⟨rfl, rfl⟩ := Prod.mk.inj (Option.some.inj H2)
     clear H2 H1
     go_wp2
     go_ret2
     exact ⟨_, rfl, Kd.R_nil _ _ _ _ _, Below.refl _ _⟩
   · have d1 : (((l1.length : Int)) == 0) = false := beq_eq_false_iff_ne.mpr (by omega)
     by_cases hn : a0 < 0
     · have d2 : decide (a0 < 0) = true := decide_eq_true hn
       have H2 := H1.out
       rw [if_pos (show badM a0 l1 = true by unfold badM; rw [d2]; simp)] at H2
       obtain ⟨rfl, rfl⟩ := Prod.mk.inj (Option.some.inj H2)
       clear H2 H1
       go_wp2
       go_ret2
       exact ⟨_, rfl, Kd.R_nil _ _ _ _ _, Below.refl _ _⟩
     · have d2 : decide (a0 < 0) = false := decide_eq_false hn
       by_cases hm : 4001 - (l1.length : Int) < a0
       · have d3 : decide (4001 - (l1.length : Int) < a0) = true := decide_eq_true hm
         have H2 := H1.out
         rw [if_pos (show badM a0 l1 = true by unfold badM; rw [decide_eq_true (show a0 > 4001 - (l1.length : Int) from hm)]; simp)] at H2
         obtain ⟨rfl, rfl⟩ := Prod.mk.inj (Option.some.inj H2)
         clear H2 H1
         go_wp2
         go_ret2
         exact ⟨_, rfl, Kd.R_nil _ _ _ _ _, Below.refl _ _⟩
       · have d3 : decide (4001 - (l1.length : Int) < a0) = false := decide_eq_false hm
         have hb : badM a0 l1 = l1.any (fun z => !coordB z) := by unfold badM; rw [decide_eq_false hz, d2, decide_eq_false (show ¬ a0 > 4001 - (l1.length : Int) from hm)]; simp
         rw [hb] at H1
         clear hb
         cases hany : l1.any (fun z => !coordB z) with
         | true =>
          rw [hany] at CO H1
          have H2 := H1.out
          rw [if_pos rfl] at H2
          obtain ⟨rfl, rfl⟩ := Prod.mk.inj (Option.some.inj H2)
          clear H2 H1 hany
          go_wp2_with (go_at_call 45; with_reducible refine (CO.out _ (Below.refl _ _)).mono ?_; rintro e w3 ⟨rfl, hb⟩)
          go_ret2
          exact ⟨_, rfl, Kd.R_nil _ _ _ _ _, hb⟩
         | false =>
          rw [hany] at CO H1
          have H2 := H1.out
          rw [if_neg (by simp)] at H2
          obtain ⟨r, hr, he⟩ := Option.bind_eq_some_iff.mp H2
          obtain ⟨rfl, rfl⟩ := Prod.mk.inj (Option.some.inj he)
          have HSP := Aside0.mk (fun W (h : Below w.heap.size w W) => curve_split.calls k a0 (fun k_ => P1_ k_) A1 c1 l1 r W (by exact Kd.V_below HV.out h) hr)
          clear H2 H1 hany he hr
          go_wp2_with (first | (go_at_call 45; with_reducible refine (CO.out _ (Below.refl _ _)).mono ?_; rintro e w3 ⟨rfl, hb⟩; have HB3 := Aside0.mk hb; clear hb) | (go_at_call 68; with_reducible refine (HSP.out _ HB3.out).mono ?_; rintro e w4 ⟨v0, rfl, hR, hb⟩; have HR4 := Aside0.mk hR; have HB4 := Aside0.mk (below_step HB3.out hb); clear hR hb))
          go_ret2
          have hs := HB3.out.size
          exact ⟨_, rfl, Kd.R_mono (Kd.R_lower HR4.out hs) (fun k h => by omega), HB4.out⟩
end
section
open Go.Proofs.YtdigjjncoeaiiaaGlib
set_option maxHeartbeats 8000000 in
set_option maxRecDepth 100000 in
theorem curve_calls (k : Nat) (e : S24) (lo hi scale x0 x1 x2 x3 x4 x5 x6 x7 : Int) (A : Option Addr) (c : Nat) (r1 : List S57) (r2 : Int) (w : World) (hr : Kd.C k24 w A e.f2.length e.f2) (hc : e.f2.length ≤ c) (h : curveP k e lo hi scale [x0, x1, x2, x3, x4, x5, x6, x7] = some (r1, r2)) :
  Calls Try.prog 19 #[.agg #[.int .i64 e.f0, .int .i64 e.f1, .slice A e.f2.length c], .agg #[.int .i64 lo, .int .i64 hi], .int .i64 scale, .agg #[.int .i64 x0, .int .i64 x1, .int .i64 x2, .int .i64 x3, .int .i64 x4, .int .i64 x5, .int .i64 x6, .int .i64 x7]] w fun r w' =>
   ∃ v0_, r = .returned (.tuple #[v0_, .int .i64 r2]) ∧ Kd.R k57 57 w' w.heap.size (fun k_ => (w.heap.size ≤ k_)) v0_ r1 ∧ Below w.heap.size w w' := by
 have HR := Aside0.mk (fun W (h : Below w.heap.size w W) => Kd.C_below hr h)
 have VC := Aside0.mk (fun W h => valid_calls e A c W h hc)
 have RC := Aside0.mk (fun z W => right_calls z scale x0 x1 x2 x3 x4 x5 x6 x7 W)
 have OC := Aside0.mk (fun W => operators_calls W)
 have EV := Aside0.mk (fun z b W (hv : validE e = true) (h1 : inI z 0 1000000 = true) (h2 : inI scale 50 300 = true) h ho => eval_calls z scale x0 x1 x2 x3 x4 x5 x6 x7 (by unfold inI at h1; simpa using h1) (by unfold inI at h2; simpa using h2) b 30 e A c W (formed_wf 30 e 100 hv) h hc ho)
 unfold aboutV at EV
 have HI0 := Aside0.mk (CurvI.mk (e := e) (A := A) (c := c) (lo := lo) (hi := hi) (scale := scale) (x0 := x0) (x1 := x1) (x2 := x2) (x3 := x3) (x4 := x4) (x5 := x5) (x6 := x6) (x7 := x7) (z := 0) (below_alloc (below_alloc (below_alloc (below_alloc (Below.refl w.heap.size w) (.cells #[.int .i64 e.f0, .int .i64 e.f1, .slice A e.f2.length c] 24)) (.cells #[.int .i64 lo, .int .i64 hi] 27)) (.cells #[.int .i64 x0, .int .i64 x1, .int .i64 x2, .int .i64 x3, .int .i64 x4, .int .i64 x5, .int .i64 x6, .int .i64 x7] 25)) (.cells #[.int .i64 0, .int .i64 scale, .int .i64 x0, .int .i64 x1, .int .i64 x2, .int .i64 x3, .int .i64 x4, .int .i64 x5, .int .i64 x6, .int .i64 x7] 59))
  (blk_alloc (blk_alloc (blk_alloc (blk_new w (.cells #[.int .i64 e.f0, .int .i64 e.f1, .slice A e.f2.length c] 24)) (.cells #[.int .i64 lo, .int .i64 hi] 27)) (.cells #[.int .i64 x0, .int .i64 x1, .int .i64 x2, .int .i64 x3, .int .i64 x4, .int .i64 x5, .int .i64 x6, .int .i64 x7] 25)) (.cells #[.int .i64 0, .int .i64 scale, .int .i64 x0, .int .i64 x1, .int .i64 x2, .int .i64 x3, .int .i64 x4, .int .i64 x5, .int .i64 x6, .int .i64 x7] 59)) (by have := blk_alloc (blk_alloc (blk_new (w.alloc (.cells #[.int .i64 e.f0, .int .i64 e.f1, .slice A e.f2.length c] 24)) (.cells #[.int .i64 lo, .int .i64 hi] 27)) (.cells #[.int .i64 x0, .int .i64 x1, .int .i64 x2, .int .i64 x3, .int .i64 x4, .int .i64 x5, .int .i64 x6, .int .i64 x7] 25)) (.cells #[.int .i64 0, .int .i64 scale, .int .i64 x0, .int .i64 x1, .int .i64 x2, .int .i64 x3, .int .i64 x4, .int .i64 x5, .int .i64 x6, .int .i64 x7] 59); rw [World.size_alloc] at this; exact this) (by have := blk_new (((w.alloc (.cells #[.int .i64 e.f0, .int .i64 e.f1, .slice A e.f2.length c] 24)).alloc (.cells #[.int .i64 lo, .int .i64 hi] 27)).alloc (.cells #[.int .i64 x0, .int .i64 x1, .int .i64 x2, .int .i64 x3, .int .i64 x4, .int .i64 x5, .int .i64 x6, .int .i64 x7] 25)) (.cells #[.int .i64 0, .int .i64 scale, .int .i64 x0, .int .i64 x1, .int .i64 x2, .int .i64 x3, .int .i64 x4, .int .i64 x5, .int .i64 x6, .int .i64 x7] 59); simp only [World.size_alloc] at this; exact this))
 have H := Aside0.mk h
 clear hr h
 go_enter Try.func19, Try.ntmps19
 go_wp2_with fail
 generalize hW : (((w.alloc (.cells #[.int .i64 e.f0, .int .i64 e.f1, .slice A e.f2.length c] 24)).alloc (.cells #[.int .i64 lo, .int .i64 hi] 27)).alloc (.cells #[.int .i64 x0, .int .i64 x1, .int .i64 x2, .int .i64 x3, .int .i64 x4, .int .i64 x5, .int .i64 x6, .int .i64 x7] 25)).alloc (.cells #[.int .i64 0, .int .i64 scale, .int .i64 x0, .int .i64 x1, .int .i64 x2, .int .i64 x3, .int .i64 x4, .int .i64 x5, .int .i64 x6, .int .i64 x7] 59) = W0 at *
 clear hW
 cases hv : validE e with
 | false =>
  have H1 := H.out
  unfold curveP at H1
  rw [if_neg (fun h => by rw [hv] at h; simp at h)] at H1
  obtain ⟨rfl, rfl⟩ := Prod.mk.inj (Option.some.inj H1)
  clear H1 H
  with_reducible refine (VC.out _ (HR.out _ HI0.out.hb)).mono ?_
  rintro r w1 ⟨rfl, hb⟩
  have HI1 := Aside0.mk (HI0.out.below hb)
  rw [hv]
  clear hb
  go_wp2
  go_ret2
  exact ⟨_, rfl, Kd.R_nil _ _ _ _ _, HI1.out.hb⟩
 | true =>
  with_reducible refine (VC.out _ (HR.out _ HI0.out.hb)).mono ?_
  rintro r w1 ⟨rfl, hb⟩
  have HI1 := Aside0.mk (HI0.out.below hb)
  rw [hv]
  have VX := Aside0.mk hv
  clear hb VC HI0
  have ub0 := (blk_cell HI1.out.b2 0).trans rfl
  have ub1 := (blk_cell HI1.out.b2 1).trans rfl
  have uc0 := (blk_cell HI1.out.b3 0).trans rfl
  have uc1 := (blk_cell HI1.out.b3 1).trans rfl
  have uc2 := (blk_cell HI1.out.b3 2).trans rfl
  have uc3 := (blk_cell HI1.out.b3 3).trans rfl
  have uc4 := (blk_cell HI1.out.b3 4).trans rfl
  have uc5 := (blk_cell HI1.out.b3 5).trans rfl
  have uc6 := (blk_cell HI1.out.b3 6).trans rfl
  have uc7 := (blk_cell HI1.out.b3 7).trans rfl
  have uc8 := (blk_cell HI1.out.b3 8).trans rfl
  have uc9 := (blk_cell HI1.out.b3 9).trans rfl
  go_wp2_with fail
  with_reducible refine (RC.out 0 _).mono ?_
  rintro r w2 ⟨rfl, hb⟩
  have HI2 := Aside0.mk (HI1.out.below hb)
  clear hb RC HI1 ub0 ub1 uc0 uc1 uc2 uc3 uc4 uc5 uc6 uc7 uc8 uc9
  cases hsc : (inI scale 50 300 && [x0, x1, x2, x3, x4, x5, x6, x7].all coordB) with
  | false =>
   have H1 := H.out
   unfold curveP at H1
   rw [if_neg (fun h => by rw [hv, hsc] at h; simp at h)] at H1
   obtain ⟨rfl, rfl⟩ := Prod.mk.inj (Option.some.inj H1)
   clear H1 H
   go_wp2
   go_ret2
   exact ⟨_, rfl, Kd.R_nil _ _ _ _ _, HI2.out.hb⟩
  | true =>
   have hsi := (Bool.and_eq_true_iff.1 hsc).1
   have vb0 := (blk_cell HI2.out.b2 0).trans rfl
   have vb1 := (blk_cell HI2.out.b2 1).trans rfl
   by_cases h1 : lo < 0
   · have q1 : decide (lo < 0) = true := decide_eq_true h1
     have H1 := H.out
     unfold curveP at H1
     rw [if_neg (fun h => h.2.1 h1)] at H1
     obtain ⟨rfl, rfl⟩ := Prod.mk.inj (Option.some.inj H1)
     clear H1 H
     go_wp2
     go_ret2
     exact ⟨_, rfl, Kd.R_nil _ _ _ _ _, HI2.out.hb⟩
   · have q1 : decide (lo < 0) = false := decide_eq_false h1
     by_cases h2 : hi < lo
     · have q2 : decide (hi < lo) = true := decide_eq_true h2
       have H1 := H.out
       unfold curveP at H1
       rw [if_neg (fun h => h.2.2.1 h2)] at H1
       obtain ⟨rfl, rfl⟩ := Prod.mk.inj (Option.some.inj H1)
       clear H1 H
       go_wp2
       go_ret2
       exact ⟨_, rfl, Kd.R_nil _ _ _ _ _, HI2.out.hb⟩
     · have q2 : decide (hi < lo) = false := decide_eq_false h2
       by_cases h3 : 4000 < hi
       · have q3 : decide (4000 < hi) = true := decide_eq_true h3
         have H1 := H.out
         unfold curveP at H1
         rw [if_neg (fun h => h.2.2.2 h3)] at H1
         obtain ⟨rfl, rfl⟩ := Prod.mk.inj (Option.some.inj H1)
         clear H1 H
         go_wp2
         go_ret2
         exact ⟨_, rfl, Kd.R_nil _ _ _ _ _, HI2.out.hb⟩
       · have q3 : decide (4000 < hi) = false := decide_eq_false h3
         have H1 := H.out
         unfold curveP at H1
         rw [if_pos ⟨by rw [hv, hsc]; rfl, h1, h2, h3⟩] at H1
         have H2 := Aside0.mk H1
         clear H1 H hsc
         have hwl : wrap64 (hi - lo) = hi - lo := wrap64_id (by omega) (by omega)
         by_cases h4 : 4000 ≤ hi - lo
         · have q4 : decide (4000 ≤ hi - lo) = true := decide_eq_true h4
           have H1 := H2.out
           rw [if_pos h4] at H1
           obtain ⟨rfl, rfl⟩ := Prod.mk.inj (Option.some.inj H1)
           clear H1 H2
           go_wp2
           go_ret2
           exact ⟨_, rfl, Kd.R_nil _ _ _ _ _, HI2.out.hb⟩
         · have q4 : decide (4000 ≤ hi - lo) = false := decide_eq_false h4
           have H1 := H2.out
           rw [if_neg h4] at H1
           have H3 := Aside0.mk H1
           clear H1 H2
           go_wp2_with fail
           with_reducible refine (OC.out _).mono ?_
           rintro r w3 ⟨rfl, ho, hb⟩
           have HI3 := Aside0.mk (HI2.out.below hb)
           have HO3 := Aside0.mk ho
           have hS := (Array.getElem?_eq_some_iff.1 HI2.out.b3).1
           have hbN := (Array.getElem?_eq_some_iff.1 ho).1
           obtain ⟨b, hbe⟩ : ∃ b, w2.heap.size = b := ⟨_, rfl⟩
           rw [hbe] at HO3 hS hbN
           rw [hbe]
           clear ho hb hbe HI2 OC vb0 vb1
           have EW := Aside0.mk (fun z W (h1 : inI z 0 1000000 = true) h ho => EV.out z b W VX.out h1 hsi h ho)
           clear EV hsi hv VX
           have yb0 := (blk_cell HI3.out.b2 0).trans rfl
           have yb1 := (blk_cell HI3.out.b2 1).trans rfl
           have yc0 := (blk_cell HI3.out.b3 0).trans rfl
           have yc1 := (blk_cell HI3.out.b3 1).trans rfl
           have yc2 := (blk_cell HI3.out.b3 2).trans rfl
           have yc3 := (blk_cell HI3.out.b3 3).trans rfl
           have yc4 := (blk_cell HI3.out.b3 4).trans rfl
           have yc5 := (blk_cell HI3.out.b3 5).trans rfl
           have yc6 := (blk_cell HI3.out.b3 6).trans rfl
           have yc7 := (blk_cell HI3.out.b3 7).trans rfl
           have yc8 := (blk_cell HI3.out.b3 8).trans rfl
           have yc9 := (blk_cell HI3.out.b3 9).trans rfl
           have f0 := blk_frozen HI3.out.b3 0
           obtain ⟨cnt, hcnt⟩ : ∃ n : Nat, n = (hi - lo + 1).toNat := ⟨_, rfl⟩
           rw [← hcnt] at H3
           have HCN := Aside0.mk hcnt
           clear hcnt
           have HC4 := Aside0.mk (show cnt ≤ 4000 ∧ (cnt : Int) = hi - lo + 1 by have := HCN.out; omega)
           obtain ⟨N, hN⟩ : ∃ N, w3.heap.size = N := ⟨_, rfl⟩
           rw [hN] at hbN
           have hS3 : w.heap.size + 1 + 1 + 1 < N := by omega
           have HI3s := Aside0.mk (HI3.out.set lo)
           have HO3s := Aside0.mk (show OpsAt b (w3.setCell ⟨w.heap.size + 1 + 1 + 1, 0, none⟩ (.int .i64 lo)) from (Below.heap_setCell _ _ _ _ (by show b ≠ w.heap.size + 1 + 1 + 1; omega)).trans HO3.out)
           go_wp2
           go_loopw [12] (fun v wr => ∃ (m : Nat) (z : Int) (ys : List Int), m ≤ cnt ∧ Aside0 (z = lo + (m : Int)) ∧ Aside0 (ys.length = m) ∧ Aside0 (valsG (fun z => evF z scale [x0, x1, x2, x3, x4, x5, x6, x7] 30 e) (cnt - m) z ys = valsG (fun z => evF z scale [x0, x1, x2, x3, x4, x5, x6, x7] 30 e) cnt lo []) ∧ Aside0 (Kd.R (Kd.int .i64) 3 wr N (fun _ => True) v ys) ∧ Aside0 (CurvI w e A c lo hi scale x0 x1 x2 x3 x4 x5 x6 x7 z wr) ∧ Aside0 (OpsAt b wr) ∧ N ≤ wr.heap.size) (fun v _ => cnt - lenOf v)
           case atStart => exact ⟨0, lo, [], Nat.zero_le _, ⟨by simp⟩, ⟨rfl⟩, ⟨rfl⟩, ⟨Kd.R_nil _ _ _ _ _⟩, HI3s, HO3s, by simp [hN]⟩
           case round =>
            clear HI3s HO3s HI3 HO3 yb0 yb1 yc0 yc1 yc2 yc3 yc4 yc5 yc6 yc7 yc8 yc9 f0
            obtain ⟨m, z, ys, hm, HZ, HLN, HV, HRV, HIm, HOm, hNr⟩ := hrel
            have za0 := (blk_cell HIm.out.b1 0).trans rfl
            have za1 := (blk_cell HIm.out.b1 1).trans rfl
            have za2 := (blk_cell HIm.out.b1 2).trans rfl
            have zb0 := (blk_cell HIm.out.b2 0).trans rfl
            have zb1 := (blk_cell HIm.out.b2 1).trans rfl
            have zc0 := (blk_cell HIm.out.b3 0).trans rfl
            have zc1 := (blk_cell HIm.out.b3 1).trans rfl
            have zc2 := (blk_cell HIm.out.b3 2).trans rfl
            have zc3 := (blk_cell HIm.out.b3 3).trans rfl
            have zc4 := (blk_cell HIm.out.b3 4).trans rfl
            have zc5 := (blk_cell HIm.out.b3 5).trans rfl
            have zc6 := (blk_cell HIm.out.b3 6).trans rfl
            have zc7 := (blk_cell HIm.out.b3 7).trans rfl
            have zc8 := (blk_cell HIm.out.b3 8).trans rfl
            have zc9 := (blk_cell HIm.out.b3 9).trans rfl
            have f0 := blk_frozen HIm.out.b3 0
            have HLO := Aside0.mk (lenOf_R HRV.out)
            by_cases hlt : z ≤ hi
            · have q5 : decide (z ≤ hi) = true := decide_eq_true hlt
              have hmc : m < cnt := by have := HC4.out; have := HZ.out; omega
              have HE := Aside0.mk (EW.out z wr (by have := HZ.out; unfold inI; simp; omega) (HR.out _ HIm.out.hb) HOm.out)
              have HWN := Aside0.mk (show wrap64 (z + 1) = z + 1 from wrap64_id (by have := HZ.out; omega) (by omega))
              obtain ⟨j, hj⟩ : ∃ j, cnt - m = j + 1 := ⟨cnt - m - 1, by omega⟩
              have HJ := Aside0.mk hj
              have HV1 := HV.out
              rw [hj] at HV1
              clear hj
              cases hz : evF z scale [x0, x1, x2, x3, x4, x5, x6, x7] 30 e with
              | none =>
               have HN := valsG_none HV1 hz
               have H1 := H3.out
               rw [HN] at H1
               obtain ⟨rfl, rfl⟩ := Prod.mk.inj (Option.some.inj H1)
               rw [hz] at HE
               clear hz HN H1 HV1
               go_wp2_with fail
               with_reducible refine HE.out.mono ?_
               rintro r w5 ⟨rfl, hb⟩
               simp only [pairE]
               have hb5 := below_step HIm.out.hb hb
               clear hb
               go_wp2
               go_ret2
               exact ⟨_, rfl, Kd.R_nil _ _ _ _ _, hb5⟩
              | some x =>
               have HN := Aside0.mk (valsG_step HV1 hz)
               rw [hz] at HE
               clear hz HV1
               go_wp2_with fail
               with_reducible refine HE.out.mono ?_
               rintro r w5 ⟨rfl, hb⟩
               have HI5 := Aside0.mk (HIm.out.below hb)
               have HO5 := Aside0.mk (opsAt_below HOm.out hb)
               have HR5 := Aside0.mk (Kd.R_below HRV.out hb)
               have hN5 := Nat.le_trans hNr hb.size
               have HLB := Aside0.mk (show (ys.length + 1) * 8 ≤ 140737488355328 by have := HLN.out; have := HC4.out; omega)
               clear hb HIm HOm HRV HE za0 za1 za2 zb0 zb1 zc0 zc1 zc2 zc3 zc4 zc5 zc6 zc7 zc8 zc9 f0
               simp only [pairE]
               go_wp2_with ((with_reducible refine gate_dst (N := 75) rfl ?_); at_builtin; (refine Kd.R_append (Kd.int .i64) (w0 := w5) N rfl (.tmp 72) (.tmp 74) 33 3 (.int .i64 0) 8 rfl Try.underlying33 info3 rfl (by decide) (by omega) u12 ys x [.int .i64 x] (fun _ => True) (fun _ => False) rfl rfl rfl (fun _ hk => hk.elim) (fun _ _ => trivial) HR5.out (Below.refl _ _) hN5 HLB.out ?_); intro v1 w6 ho hb hg _; have HI6 := Aside0.mk (HI5.out.up hb hS3); have HO6 := Aside0.mk (show OpsAt b w6 from (hb.block _ hbN).trans HO5.out); have HR6 := Aside0.mk ho; have hN6 := Nat.le_trans hN5 hb.size; clear hb ho hg; have c0 := (blk_cell HI6.out.b3 0).trans rfl; have f0 := blk_frozen HI6.out.b3 0)
               have HI7 := Aside0.mk (HI6.out.set (z + 1))
               have HO7 := Aside0.mk (show OpsAt b (w6.setCell ⟨w.heap.size + 1 + 1 + 1, 0, none⟩ (.int .i64 (z + 1))) from (Below.heap_setCell _ _ _ _ (by show b ≠ w.heap.size + 1 + 1 + 1; omega)).trans HO6.out)
               have HR7 := Aside0.mk (Kd.R_set HR6.out HI6.out.b3 (by decide) 0 (.int .i64 (z + 1)))
               have HN7 := Aside0.mk (show valsG (fun z => evF z scale [x0, x1, x2, x3, x4, x5, x6, x7] 30 e) (cnt - (m + 1)) (z + 1) (ys ++ [x]) = valsG (fun z => evF z scale [x0, x1, x2, x3, x4, x5, x6, x7] 30 e) cnt lo [] by rw [← HN.out, show cnt - (m + 1) = j by have := HJ.out; omega])
               have HZ7 := Aside0.mk (show z + 1 = lo + ((m + 1 : Nat) : Int) by have := HZ.out; omega)
               rw [HWN.out]
               go_roundw
               case rel => exact ⟨m + 1, z + 1, ys ++ [x], hmc, HZ7, ⟨by simp [HLN.out]⟩, HN7, HR7, HI7, HO7, by simpa using hN6⟩
               case measure => rw [lenOf_R HR7.out, HLO.out, List.length_append, HLN.out]; simp; omega
            · obtain ⟨A12, c12, rfl⟩ := Kd.R_slice HRV.out
              have q5 : decide (z ≤ hi) = false := decide_eq_false hlt
              have hmc : m = cnt := by have := HC4.out; have := HZ.out; omega
              have HV1 := HV.out
              rw [hmc, Nat.sub_self] at HV1
              have H1 := H3.out
              rw [← HV1] at H1
              have HM := Aside0.mk (fun W hs => curve_Make.calls k lo (fun _ => True) A12 c12 ys r1 r2 W hs H1)
              clear H1 HV1
              clear hmc
              have HVV := Aside0.mk (Kd.R_V (base' := wr.heap.size) HRV.out)
              go_wp2_with fail
              with_reducible refine (HM.out _ HVV.out).mono ?_
              rintro r w6 ⟨v0, rfl, hR, hb⟩
              have hb6 := below_step HIm.out.hb hb
              have hsw := HIm.out.hb.size
              clear HM
              go_wp2
              go_ret2
              exact ⟨_, rfl, Kd.R_mono (Kd.R_lower hR hsw) (fun k h => by omega), hb6⟩
theorem value_Curve.calls (k : Nat) (a0_0 : Int) (a0_1 : Int) (A0_2 : Option Addr) (c0_2 : Nat) (l0_2 : List (S24)) (a1_0 : Int) (a1_1 : Int) (a2 : Int) (a3_0 a3_1 a3_2 a3_3 a3_4 a3_5 a3_6 a3_7 : Int) (r1 : List (S57)) (r2 : Int) (w : World) (hr0_2 : Kd.C k24 w A0_2 l0_2.length l0_2) (hc0_2 : l0_2.length ≤ c0_2) (h : value_Curve.f k a0_0 a0_1 l0_2 a1_0 a1_1 a2 a3_0 a3_1 a3_2 a3_3 a3_4 a3_5 a3_6 a3_7 = some (r1, r2)) :
  Calls Try.prog 19 #[.agg #[.int .i64 a0_0, .int .i64 a0_1, .slice A0_2 l0_2.length c0_2], .agg #[.int .i64 a1_0, .int .i64 a1_1], .int .i64 a2, .agg #[.int .i64 a3_0, .int .i64 a3_1, .int .i64 a3_2, .int .i64 a3_3, .int .i64 a3_4, .int .i64 a3_5, .int .i64 a3_6, .int .i64 a3_7]] w fun e w' => ∃ v0_ : Value, e = .returned (.tuple #[v0_, .int .i64 r2]) ∧ Kd.R k57 57 w' w.heap.size (fun _ => True) v0_ r1 ∧ Below w.heap.size w w' :=
 (curve_calls k ⟨a0_0, a0_1, l0_2⟩ a1_0 a1_1 a2 a3_0 a3_1 a3_2 a3_3 a3_4 a3_5 a3_6 a3_7 A0_2 c0_2 r1 r2 w hr0_2 hc0_2 h).mono fun e w' ⟨v, he, hR, hb⟩ => ⟨v, he, Kd.R_mono hR (fun _ _ => trivial), hb⟩
end
end Go.Proofs.Ytdigjjncoeaiiaa.PAll
