/- Printed by wip/gprint.py. -/
import Derived.Test.YtacohlafmbhcdaaGreatPAlld1
import Derived.Test.YtacohlafmbhcdaaGreatPAllw0
import Derived.Test.YtacohlafmbhcdaaGreatPAllw1
import Derived.Test.YtacohlafmbhcdaaGreatPAllw3
import Derived.Test.YtacohlafmbhcdaaGreatPAllw6
namespace Go.Proofs.YtacohlafmbhcdaaGreat.PAll
set_option linter.unusedVariables false
set_option linter.unusedSimpArgs false
open Go.RowKit Go.Proofs.YtacohlafmbhcdaaGreatW.PrintWords Go.Proofs.YtacohlafmbhcdaaGreatW.PrintLast Go.Proofs.YtacohlafmbhcdaaGreatW.PrintMore
attribute [local go_sem] max2_int min2_int max_two min_two max_three min_three max_four min_four
open Go.Sort Go.RowKit Go.Lib
set_option maxHeartbeats 1000000 in
theorem mer1_lays (x y : S40) (W : World) : Calls Tryz.prog 70 #[.agg #[.int .i64 x.f0, .int .i64 x.f1], .agg #[.int .i64 y.f0, .int .i64 y.f1]] W fun e w' => e = .returned (.int .i64 (cmpR x y)) ∧ ∃ q os', w' = grow (W.drewN q) os' := by
 have hcon := fun W' => cmp_Compare_int.calls x.f0 y.f0 _ W' (cmp_of _ _)
 unfold cmpR
 generalize Lib.compareInt x.f0 y.f0 = r at hcon ⊢
 go_enter Tryz.func70, Tryz.ntmps70
 go_wp2_with (go_at_call 41; refine (hcon _).mono ?_; rintro e w' ⟨rfl, nd, rfl⟩)
 go_ret
 exact ⟨rfl, nd, #[.cells #[.int .i64 x.f0, .int .i64 x.f1] 40, .cells #[.int .i64 y.f0, .int .i64 y.f1] 40], by rw [alloc_eq_grow, alloc_eq_grow, grow_grow]; rfl⟩
theorem mer1_cmpLays (blk off size : Nat) (w : World) : CmpLays Tryz.prog 70 #[] enc33 2 cmpR blk off size w := fun _ _ _ _ x y => mer1_lays x y _
/-- slices.SortFunc over a row of the call's own. -/
theorem sortR_calls {base : Nat} {ok : Nat → Prop} {A : Option Addr} {c : Nat} {xs : List S40} {w : World} (h : Kd.R k40 40 w base ok (.slice A xs.length c) xs) (hl : xs.length < 4611686018427387904) :
  Calls Tryz.prog 85 #[.slice A xs.length c, .func (.func 70) #[] #[]] w fun e w' => e = .returned (.tuple #[]) ∧ ∃ ys : List S40, ys.Perm xs ∧ ys.Pairwise (fun a b => a.f0 ≤ b.f0) ∧ Kd.R k40 40 w' base ok (.slice A xs.length c) ys ∧ Below base w w' := by
 obtain ⟨h0, inner, ho, hr⟩ := h
 have hin := reps33_inner (fun _ _ => k40_M.1) hr
 subst hin
 rcases ho.2 with ⟨hv, hn⟩ | ⟨g, cap, cur, hv, hbg, hg, hnc, hcm, hsz, ht⟩
 · have hx : xs = [] := List.eq_nil_of_length_eq_zero hn
   subst hx
   have hcon := AnyF.slices_SortFunc_none Tryz.sortR A c (.func (.func 70) #[] #[]) w
   change Calls Tryz.prog 85 _ _ _ at hcon
   refine hcon.mono ?_
   rintro e w' ⟨rfl, rfl⟩
   exact ⟨rfl, [], .refl _, .nil, ⟨h0, _, ho, hr⟩, Below.refl _ _⟩
 · cases hv
   have hlt : g < w.heap.size := (Array.getElem?_eq_some_iff.1 hg).1
   have hcon := AnyQ.slices_SortFunc Tryz.sortR 2 Tryz.isAgg40 Tryz.sizeOf40 enc33 (fun _ => rfl) (fun x v hv => by simp [enc33] at hv; rcases hv with rfl | rfl <;> rfl) cmpR swoR 70 #[] g 0 c xs.toArray w enters70 (mer1_cmpLays g 0 _ w) (holds33 hg ht) hlt (by simpa using hl)
   change Calls Tryz.prog 85 _ _ _ at hcon
   simp only [List.size_toArray] at hcon
   refine hcon.mono ?_
   rintro e w' ⟨rfl, d', n, os, hp, hs, rfl⟩
   obtain ⟨hps, _, hpp⟩ := hp
   have hd : d'.toList.length = xs.length := by simpa using hps
   have hperm : d'.toList.Perm xs := by simpa [Array.extract_eq_self_of_le, hps] using hpp
   refine ⟨rfl, d'.toList, hperm, ?_, ⟨?_, d'.toList.flatMap enc33, ⟨(flat_len _).trans rfl, .inr ⟨g, c, _, by rw [hd], hbg, heap_sorted33 d' hg, by rw [hd]; exact hnc, hcm, by simp [putCells, hsz], ?_⟩⟩, reps33_flat _⟩, ?_⟩
   · rw [List.pairwise_iff_getElem]
     intro i j hi hj hij
     have := hs i j (Nat.zero_le _) hij (by rw [← hd]; exact hj)
     rw [ltR, decide_eq_false_iff_not] at this
     rw [show d'[j]! = d'.toList[j] by simp [show j < d'.size by simpa using hj], show d'[i]! = d'.toList[i] by simp [show i < d'.size by simpa using hi]] at this
     omega
   · exact h0
   · have := take_put33 cur d'.toList (by rw [hd, hsz]; exact Nat.mul_le_mul_right 2 hnc)
     rw [show d'.toList.toArray = d' by simp] at this
     exact this
   · exact (Below.refl base w).grown (grownBy_sorted33 d') (by omega) (fun k e => by cases e; exact hbg)
set_option maxHeartbeats 8000000 in
set_option maxRecDepth 100000 in
theorem zone_joined.calls (A0 : Option Addr) (c0 : Nat) (l0 : List (S40)) (r : List (S40)) (w : World) (hr0 : Kd.C k40 w A0 l0.length l0) (hc0 : l0.length ≤ c0) (hl0 : l0.length < 8796093022208)
  (hH : ∀ ys : List S40, ys.Perm l0 → ys.Pairwise (fun a b => a.f0 ≤ b.f0) → ∃ k, zone_joined.l0 k ([] : List (S40)) ys (l0.length : Int) 0 = some r) :
  Calls Tryz.prog 71 #[.slice A0 l0.length c0, .func (.func 70) #[] #[], .func (.func 72) #[] #[]] w fun e w' => ∃ v0_ : Value, e = .returned (v0_) ∧ Kd.R k40 40 w' w.heap.size (fun _ => True) v0_ r ∧ Below w.heap.size w w' := by
 have hu33 := Tryz.underlying40
 have HR0 := Aside0.mk hr0
 have HC0 := Aside0.mk hc0
 have HH := Aside0.mk hH
 have HL0 := Aside0.mk hl0
 have A4 := Aside0.mk (show api_Range_84.f l0 = some l0 by unfold api_Range_84.f; rw [if_pos hl0])
 clear hr0 hc0 hH hl0
 have HB := Aside0.mk (Below.refl w.heap.size w)
 go_enter Tryz.func71, Tryz.ntmps71
 go_wp2_with (first | ((with_reducible refine gate_callee (f := 84) rfl ?_); refine goesL_ (some 14) rfl rfl Tryz.func84 (by kernel_rfl) rfl #[.slice A0 l0.length c0] rfl (by (try simp only [List.map_toArray, List.map_cons, List.map_nil]); rfl) ?_; (with_reducible refine (api_Range_84.calls _ _ l0 l0 _ ?side1 ?side2 A4.out).mono ?_); (case side1 => repeat (exact HR0.out)); (case side2 => exact HC0.out); rintro e w5 ⟨v129, rfl, ho0, hb⟩; refine ⟨_, rfl, ?_⟩; have n0_ := Aside0.mk (Kd.R_lower ho0 (below_size (by repeat ((with_reducible exact HB.out))))); have n1_ := Aside0.mk (below_step (by repeat ((with_reducible exact HB.out))) hb); clear HB; have HO130 := n0_; have HB := n1_; clear n0_ n1_; (try clear hb); (try clear ho0); obtain ⟨Ao6, co6, eo6⟩ := Kd.R_slice HO130.out; subst eo6) | (go_at_call 85; refine (sortR_calls HO130.out (by have := HL0.out; omega)).mono ?_; rintro e w6 ⟨rfl, ys, hp, hs, ho, hb⟩; have HP := Aside0.mk hp; have HS := Aside0.mk hs; have n0_ := Aside0.mk (HB.out.trans hb); have n1_ := Aside0.mk ho; clear HB HO130; have HB := n0_; have HO130 := n1_; clear n0_ n1_ hp hs ho hb))
 obtain ⟨k, H0⟩ := HH.out ys HP.out HS.out
 have H' := Aside0.mk H0
 clear H0
 go_loopg [7, 20] k (fun kq v7 v20 w' => ∃ (x7_1 : List (S40)) (x18_1 : List (S40)) (x20_1 : Int), v20 = .int .i64 x20_1 ∧ Aside0 (zone_joined.l0 kq x7_1 x18_1 (l0.length : Int) x20_1 = some r) ∧ Aside0 (kq ≤ k) ∧ Aside0 (Kd.R k40 40 w' w.heap.size (fun k_ => some k_ ≠ ((.slice Ao6 l0.length co6) : Value).ownBlock) v7 x7_1) ∧ Aside0 (Kd.R k40 40 w' w.heap.size (fun k_ => some k_ ≠ (v7 : Value).ownBlock) (.slice Ao6 l0.length co6) x18_1) ∧ Aside0 (Below w.heap.size w w'))
 case atStart => exact ⟨(([] : List (S40))), (ys), (0), (by rfl), H', ⟨Nat.le_refl _⟩, ⟨by exact Kd.R_nil _ _ _ _ _⟩, ⟨by (with_reducible repeat (fail)); exact Kd.R_mono HO130.out (fun _ hk => (by simp [Value.ownBlock]))⟩, ⟨by repeat ((with_reducible exact HB.out))⟩⟩
 case round =>
  clear H'
  obtain ⟨x7_1, x18_1, x20_1, rfl, HA, HK1, HO_7, HO_18, HB⟩ := hrel
  have hl18_1 := (Kd.R_reads' HO_18.out).1
  rw [hl18_1] at HO_18
  (try simp only [hl18_1])
  (try simp only [hl18_1] at HO_7)
  cases gk with
  | zero => exact absurd HA.out (by simp [zone_joined.l0])
  | succ k1 =>
   have H := HA.out
   clear HA
   simp only [zone_joined.l0] at H
   by_cases c7 : x20_1 < (l0.length : Int)
   · rw [if_pos c7] at H
     have c7b0 : decide (x20_1 < (l0.length : Int)) = true := decide_eq_true c7
     clear c7
     by_cases c8 : 0 ≤ x20_1
     · rw [if_pos c8] at H
       have c8b0 : decide (0 ≤ x20_1) = true := decide_eq_true c8
       clear c8
       by_cases c9 : x20_1 < (x18_1.length : Int)
       · rw [if_pos c9] at H
         have c9b0 : decide (x20_1 < (x18_1.length : Int)) = true := decide_eq_true c9
         clear c9
         by_cases c10 : (x7_1.length : Int) > 0
         · rw [if_pos c10] at H
           have c10b0 : decide (0 < (x7_1.length : Int)) = true := decide_eq_true c10
           have c10b1 : decide (0 < x7_1.length) = true := decide_eq_true (by omega)
           clear c10
           obtain ⟨ji11, hji11⟩ : ∃ j_ : Int, (wrap64 ((x7_1.length : Int) - 1)) = j_ := ⟨_, rfl⟩
           replace H : (if 0 ≤ (ji11) then (if (ji11) < (x7_1.length : Int) then ((zone_merged_2.f ((rd_T40 x7_1 (ji11)).f0) ((rd_T40 x7_1 (ji11)).f1) ((rd_T40 x18_1 x20_1).f0) ((rd_T40 x18_1 x20_1).f1)).bind fun bt134 => (if bt134.2.2 = true then (zone_joined.l0 k1 (x7_1.set ((ji11) : Int).toNat (⟨bt134.1, bt134.2.1⟩ : S40)) x18_1 (l0.length : Int) (wrap64 (x20_1 + 1))) else (if x7_1.length < 8796093022208 then (zone_joined.l0 k1 (x7_1 ++ [(⟨(rd_T40 x18_1 x20_1).f0, (rd_T40 x18_1 x20_1).f1⟩ : S40)]) x18_1 (l0.length : Int) (wrap64 (x20_1 + 1))) else (none)))) else (none)) else (none)) = some r := by (rw [hji11] at H; exact H)
           have hji11w : (IntKind.i64.wrap ((x7_1.length : Int) - 1)) = ji11 := (i64_w _).trans hji11
           by_cases c12 : 0 ≤ (ji11)
           · rw [if_pos c12] at H
             have c12b0 : decide (0 ≤ (ji11)) = true := decide_eq_true c12
             clear c12
             by_cases c13 : (ji11) < (x7_1.length : Int)
             · rw [if_pos c13] at H
               have c13b0 : decide ((ji11) < (x7_1.length : Int)) = true := decide_eq_true c13
               clear c13
               replace H := Option.bind_eq_some_iff.mp H
               obtain ⟨⟨t134, t135, t136⟩, A140, H⟩ := H
               replace H : (if t136 = true then (zone_joined.l0 k1 (x7_1.set ((ji11) : Int).toNat (⟨t134, t135⟩ : S40)) x18_1 (l0.length : Int) (wrap64 (x20_1 + 1))) else (if x7_1.length < 8796093022208 then (zone_joined.l0 k1 (x7_1 ++ [(⟨(rd_T40 x18_1 x20_1).f0, (rd_T40 x18_1 x20_1).f1⟩ : S40)]) x18_1 (l0.length : Int) (wrap64 (x20_1 + 1))) else (none))) = some r := H
               have A14 := Aside0.mk A140
               clear A140
               by_cases c15 : t136 = true
               · subst c15
                 have H1 : (zone_joined.l0 k1 (x7_1.set ((ji11) : Int).toNat (⟨t134, t135⟩ : S40)) x18_1 (l0.length : Int) (wrap64 (x20_1 + 1))) = some r := by rw [if_pos rfl] at H; exact H
                 clear H
                 have H := H1
                 clear H1
                 obtain ⟨y138, hy138⟩ : ∃ y_ : List (S40), y_ = (x7_1.set ((ji11) : Int).toNat (⟨t134, t135⟩ : S40)) := ⟨_, rfl⟩
                 replace H : (zone_joined.l0 k1 y138 x18_1 (l0.length : Int) (wrap64 (x20_1 + 1))) = some r := by (rw [hy138]; with_reducible exact H)
                 have Ny138 := Aside0.mk hy138
                 clear hy138
                 have H' := Aside0.mk H
                 clear H
                 have p131 : 0 ≤ (x20_1 : Int) := of_decide_eq_true (by (with_reducible assumption))
                 have q131 : x20_1 < (x18_1.length : Int) := of_decide_eq_true (by (with_reducible assumption))
                 obtain ⟨ad131, e131, hx131_0, hx131_1⟩ := at_T40 (Kd.R_reads' HO_18.out).2.2 x20_1 p131 q131
                 cases e131
                 replace p131 := eq_true p131
                 replace q131 := eq_true q131
                 try go_wp2_with (((with_reducible refine gate_dst (N := 9) rfl ?_); refine box_event ?hg (N := 9) ?hd (cs := #[.int .i64 0, .int .i64 0]) (t := 40) ?hr ?_; (case hd => rfl); (case hg => rfl); (case hr => (go_simp; done)); intro gb132 hg w17 hbox hb; have n0_ := Aside0.mk (Kd.R_below (Kd.R_elderB (by (with_reducible repeat (fail)); exact HO_7.out) gb132 (Nat.le_of_eq hg.symm)) hb); have n1_ := Aside0.mk (Kd.R_below (Kd.R_elderB (by (with_reducible repeat (fail)); exact HO_18.out) gb132 (Nat.le_of_eq hg.symm)) hb); have n2_ := Aside0.mk (below_step (by repeat ((with_reducible exact HB.out))) hb); have n3_ := Aside0.mk (hbox); have n4_ := Aside0.mk ((by rw [hg]; exact (below_size (by repeat ((with_reducible exact HB.out)))) : w.heap.size ≤ gb132)); have n5_ := Aside0.mk ((by rw [hg]; exact (below_size (by repeat ((with_reducible exact HB.out)))) : w.heap.size ≤ gb132)); clear HO_7; clear HO_18; clear HB; have HO_7 := n0_; have HO_18 := n1_; have HB := n2_; have BK132 := n3_; have GW132 := n4_; have GE132 := n5_; clear n0_ n1_ n2_ n3_ n4_ n5_; clear hb hbox hg; have hcz18_0 : w17.cell? ⟨gb132, 0, none⟩ = some (.int .i64 0) := (blk_cell BK132.out 0).trans rfl; have hcz18_1 : w17.cell? ⟨gb132, 1, none⟩ = some (.int .i64 0) := (blk_cell BK132.out 1).trans rfl; have hfz18_0 := blk_frozen BK132.out 0; have hfz18_1 := blk_frozen BK132.out 1; obtain ⟨Ao19, co19, eo19⟩ := Kd.R_slice HO_7.out; subst eo19))
                 have n0_ : Aside0 (Kd.R k40 40 ((w17.setCell ⟨gb132, 0, none⟩ (.int .i64 ((rd_T40 x18_1 x20_1).f0))).setCell ⟨gb132, 1, none⟩ (.int .i64 ((rd_T40 x18_1 x20_1).f1))) w.heap.size (fun k_ => some k_ ≠ (.slice (some ad131) x18_1.length co6 : Value).ownBlock ∧ k_ ≠ gb132) (.slice Ao19 x7_1.length co19) x7_1) := ⟨by (with_reducible repeat (fail)); exact Kd.R_mono (Kd.R_far (p := ⟨gb132, 1, none⟩) (Kd.R_far (p := ⟨gb132, 0, none⟩) (Kd.R_mono HO_7.out (fun k_ hk => (⟨hk, hk.2⟩ : _ ∧ k_ ≠ gb132))) (fun _ hk => hk.2) (.int .i64 ((rd_T40 x18_1 x20_1).f0))) (fun _ hk => hk.2) (.int .i64 ((rd_T40 x18_1 x20_1).f1))) (fun _ hk => ⟨hk.1.1, hk.1.2⟩)⟩
                 have n1_ : Aside0 (Kd.R k40 40 ((w17.setCell ⟨gb132, 0, none⟩ (.int .i64 ((rd_T40 x18_1 x20_1).f0))).setCell ⟨gb132, 1, none⟩ (.int .i64 ((rd_T40 x18_1 x20_1).f1))) w.heap.size (fun k_ => some k_ ≠ (.slice Ao19 x7_1.length co19 : Value).ownBlock ∧ k_ ≠ gb132) (.slice (some ad131) x18_1.length co6) x18_1) := ⟨by (with_reducible repeat (fail)); exact Kd.R_mono (Kd.R_far (p := ⟨gb132, 1, none⟩) (Kd.R_far (p := ⟨gb132, 0, none⟩) (Kd.R_mono HO_18.out (fun k_ hk => (⟨hk, hk.2⟩ : _ ∧ k_ ≠ gb132))) (fun _ hk => hk.2) (.int .i64 ((rd_T40 x18_1 x20_1).f0))) (fun _ hk => hk.2) (.int .i64 ((rd_T40 x18_1 x20_1).f1))) (fun _ hk => ⟨hk.1.1, hk.1.2⟩)⟩
                 have n2_ : Aside0 (((w17.setCell ⟨gb132, 0, none⟩ (.int .i64 ((rd_T40 x18_1 x20_1).f0))).setCell ⟨gb132, 1, none⟩ (.int .i64 ((rd_T40 x18_1 x20_1).f1))).heap[gb132]? = some (.cells #[.int .i64 ((rd_T40 x18_1 x20_1).f0), .int .i64 ((rd_T40 x18_1 x20_1).f1)] 40 (0, 0))) := ⟨by (with_reducible repeat (fail)); refine blk_put (cs := #[.int .i64 ((rd_T40 x18_1 x20_1).f0), .int .i64 0]) ?_ 1 _ rfl; (with_reducible repeat (fail)); refine blk_put (cs := #[.int .i64 0, .int .i64 0]) ?_ 0 _ rfl; (with_reducible repeat (fail)); exact BK132.out⟩
                 have n3_ : Aside0 (Below w.heap.size w ((w17.setCell ⟨gb132, 0, none⟩ (.int .i64 ((rd_T40 x18_1 x20_1).f0))).setCell ⟨gb132, 1, none⟩ (.int .i64 ((rd_T40 x18_1 x20_1).f1)))) := ⟨by repeat ((with_reducible first | exact HB.out | refine below_set ?_ GE132.out))⟩
                 (try clear HO_7)
                 (try clear HO_18)
                 (try clear BK132)
                 (try clear HB)
                 generalize ((w17.setCell ⟨gb132, 0, none⟩ (.int .i64 ((rd_T40 x18_1 x20_1).f0))).setCell ⟨gb132, 1, none⟩ (.int .i64 ((rd_T40 x18_1 x20_1).f1))) = w20 at n0_ n1_ n2_ n3_ ⊢
                 have HO_7 := n0_
                 have HO_18 := n1_
                 have BK132 := n2_
                 have HB := n3_
                 clear n0_ n1_ n2_ n3_
                 have n0_ := Aside0.mk (Kd.R_drew HO_7.out)
                 have n1_ := Aside0.mk (Kd.R_drew HO_18.out)
                 have n2_ := Aside0.mk (blk_drew BK132.out)
                 have n3_ := Aside0.mk (below_drew1 HB.out)
                 clear HO_7
                 clear HO_18
                 clear BK132
                 clear HB
                 have HO_7 := n0_
                 have HO_18 := n1_
                 have BK132 := n2_
                 have HB := n3_
                 clear n0_ n1_ n2_ n3_
                 have p133 : 0 ≤ ((ji11) : Int) := of_decide_eq_true (by (with_reducible assumption))
                 have q133 : (ji11) < (x7_1.length : Int) := of_decide_eq_true (by (with_reducible assumption))
                 obtain ⟨ad133, e133, hx133_0, hx133_1⟩ := at_T40 (Kd.R_reads' HO_7.out).2.2 (ji11) p133 q133
                 cases e133
                 replace p133 := eq_true p133
                 replace q133 := eq_true q133
                 refine start_ (n := 14) (S := fun w' => w'.cell? ⟨gb132, 0, none⟩ = some (.int .i64 ((rd_T40 x18_1 x20_1).f0)) ∧ w'.cell? ⟨gb132, 1, none⟩ = some (.int .i64 ((rd_T40 x18_1 x20_1).f1)) ∧ w'.cell? (ad133.add (((ji11)).toNat * 2)) = some (.int .i64 ((rd_T40 x7_1 (ji11)).f0)) ∧ w'.cell? ⟨(ad133.add (((ji11)).toNat * 2)).block, (ad133.add (((ji11)).toNat * 2)).off + 1, none⟩ = some (.int .i64 ((rd_T40 x7_1 (ji11)).f1))) (ds := []) #[false, false, false, false, false, false, false, false, false, false, false, false, false, false] (by kernel_rfl) rfl rfl ⟨(blk_cell BK132.out 0).trans rfl, (blk_cell BK132.out 1).trans rfl, hx133_0, hx133_1⟩ (fun hHeld => ?_); refine with_tabW zone_joined.tab9 zone_joined.bits9 (fun HT_ HW_ => ?_)
                 generalize w20.drew = w21 at HO_7 HO_18 BK132 HB hx133_0 hx133_1 hHeld ⊢
                 refine pure_ (i := 0) (N := some 29) (v := ?_) (a' := ?_) #[true, false, false, false, false, false, false, false, false, false, false, false, false, false] rfl rfl (any_of HT_.out (by kernel_rfl)) (fun _ _ _ h => h) (Or.inl ⟨by rfl, ?_⟩) ?_ ?_
                 rotate_left
                 · intro w'
                   go_simp
                   with_reducible rfl
                 rotate_left
                 · simp only [Act.put, List.setIfInBounds_toArray, List.set_cons_zero, List.set_cons_succ, i64_w, i32_w]
                   rfl
                 refine pure_ (i := 1) (N := some 30) (v := ?_) (a' := ?_) #[true, true, false, false, false, false, false, false, false, false, false, false, false, false] rfl rfl (any_of HT_.out (by kernel_rfl)) (fun _ _ _ h => h) (Or.inl ⟨by rfl, ?_⟩) ?_ ?_
                 rotate_left
                 · intro w'
                   go_simp
                   with_reducible rfl
                 rotate_left
                 · simp only [Act.put, List.setIfInBounds_toArray, List.set_cons_zero, List.set_cons_succ, i64_w, i32_w]
                   rfl
                 refine pure_ (i := 2) (N := some 31) (v := ?_) (a' := ?_) #[true, true, true, false, false, false, false, false, false, false, false, false, false, false] rfl rfl (any_of HT_.out (by kernel_rfl)) (fun _ _ _ h => h) (Or.inl ⟨by rfl, ?_⟩) ?_ ?_
                 rotate_left
                 · intro w'
                   go_simp
                   with_reducible rfl
                 rotate_left
                 · simp only [Act.put, List.setIfInBounds_toArray, List.set_cons_zero, List.set_cons_succ, i64_w, i32_w]
                   rfl
                 refine pure_ (i := 3) (N := some 32) (v := ?_) (a' := ?_) #[true, true, true, true, false, false, false, false, false, false, false, false, false, false] rfl rfl (any_of HT_.out (by kernel_rfl)) (fun _ _ _ h => h) (Or.inl ⟨by rfl, ?_⟩) ?_ ?_
                 rotate_left
                 · intro w'
                   go_simp
                   with_reducible rfl
                 rotate_left
                 · simp only [Act.put, List.setIfInBounds_toArray, List.set_cons_zero, List.set_cons_succ, i64_w, i32_w]
                   rfl
                 refine pure_ (i := 4) (N := some 33) (v := ?_) (a' := ?_) #[true, true, true, true, true, false, false, false, false, false, false, false, false, false] rfl rfl (any_of HT_.out (by kernel_rfl)) (fun _ _ _ h => h) (Or.inl ⟨by rfl, ?_⟩) ?_ ?_
                 rotate_left
                 · intro w'
                   go_simp
                   with_reducible rfl
                 rotate_left
                 · simp only [Act.put, List.setIfInBounds_toArray, List.set_cons_zero, List.set_cons_succ, i64_w, i32_w]
                   rfl
                 refine take_ (i := 5) (N := some 34) (v := ?_) (a' := ?_) #[true, true, true, true, true, true, false, false, false, false, false, false, false, false] rfl rfl (take_ofW HT_.out HW_.out (by kernel_rfl)) (fun _ _ _ h => h) (Or.inl ⟨by rfl, ?_⟩) hHeld ?_ ?_
                 rotate_left
                 · rintro w' ⟨s0, s1, s2, s3⟩
                   go_simp
                   with_reducible rfl
                 rotate_left
                 · simp only [Act.put, List.setIfInBounds_toArray, List.set_cons_zero, List.set_cons_succ, i64_w, i32_w]
                   rfl
                 refine take_ (i := 6) (N := some 35) (v := ?_) (a' := ?_) #[true, true, true, true, true, true, true, false, false, false, false, false, false, false] rfl rfl (take_ofW HT_.out HW_.out (by kernel_rfl)) (fun _ _ _ h => h) (Or.inl ⟨by rfl, ?_⟩) hHeld ?_ ?_
                 rotate_left
                 · rintro w' ⟨s0, s1, s2, s3⟩
                   go_simp
                   with_reducible rfl
                 rotate_left
                 · simp only [Act.put, List.setIfInBounds_toArray, List.set_cons_zero, List.set_cons_succ, i64_w, i32_w]
                   rfl
                 refine join_ (σ := Nat) 2 #[true, true, true, true, true, true, true, true, true, true, true, true, false, false] (fun s_ => [(36, .tuple #[.agg #[.int .i64 t134, .int .i64 t135], .bool true]), (11, .pointer (some ⟨s_, 0, none⟩)), (28, .tuple #[.agg #[.int .i64 t134, .int .i64 t135], .bool true]), (37, .agg #[.int .i64 t134, .int .i64 t135]), (38, .bool true)]) (fun s_ w' => (w'.cell? ⟨gb132, 0, none⟩ = some (.int .i64 ((rd_T40 x18_1 x20_1).f0)) ∧ w'.cell? ⟨gb132, 1, none⟩ = some (.int .i64 ((rd_T40 x18_1 x20_1).f1)) ∧ w'.cell? (ad133.add (((ji11)).toNat * 2)) = some (.int .i64 ((rd_T40 x7_1 (ji11)).f0)) ∧ w'.cell? ⟨(ad133.add (((ji11)).toNat * 2)).block, (ad133.add (((ji11)).toNat * 2)).off + 1, none⟩ = some (.int .i64 ((rd_T40 x7_1 (ji11)).f1))) ∧ (Kd.R k40 40 w' w.heap.size (fun k_ => some k_ ≠ (.slice (some ad133) x7_1.length co19 : Value).ownBlock ∧ k_ ≠ gb132 ∧ k_ ≠ s_) (.slice (some ad131) x18_1.length co6) x18_1) ∧ (Kd.R k40 40 w' w.heap.size (fun k_ => some k_ ≠ (.slice (some ad131) x18_1.length co6 : Value).ownBlock ∧ k_ ≠ gb132 ∧ k_ ≠ s_) (.slice (some ad133) x7_1.length co19) x7_1) ∧ (w'.heap[gb132]? = some (.cells #[.int .i64 ((rd_T40 x18_1 x20_1).f0), .int .i64 ((rd_T40 x18_1 x20_1).f1)] 40 (0, 0))) ∧ (w'.heap[s_]? = some (.cells #[.int .i64 0, .int .i64 0] 40 (0, 0))) ∧ (w.heap.size ≤ s_) ∧ (w.heap.size ≤ s_) ∧ (gb132 ≠ s_) ∧ (s_ ≠ gb132) ∧ (Below w.heap.size w w')) ?_ ?_
                 rotate_left
                 · intro hCont
                   refine two_ (i := 7) (j := 11) (Ni := some 36) (Nj := some 11) #[true, true, true, true, true, true, true, true, false, false, false, false, false, false] #[true, true, true, true, true, true, true, false, false, false, false, true, false, false] rfl rfl rfl rfl (two_of HT_.out (by kernel_rfl)) (by decide) (by decide) (fun K hK => ?_) (fun K hK => ?_)
                   · skip
                     refine goesT_ Tryz.func72 (by kernel_rfl) rfl #[.agg #[.int .i64 ((rd_T40 x7_1 (ji11)).f0), .int .i64 ((rd_T40 x7_1 (ji11)).f1)], .agg #[.int .i64 ((rd_T40 x18_1 x20_1).f0), .int .i64 ((rd_T40 x18_1 x20_1).f1)]] (by rfl) rfl rfl rfl (by (try simp only [List.map_toArray, List.map_cons, List.map_nil]); rfl) ?_
                     with_reducible refine (zone_merged_2.calls ((rd_T40 x7_1 (ji11)).f0) ((rd_T40 x7_1 (ji11)).f1) ((rd_T40 x18_1 x20_1).f0) ((rd_T40 x18_1 x20_1).f1) t134 t135 true _ A14.out).mono ?_
                     rintro e w22 ⟨rfl, hb⟩
                     have HS2_ := (hb.cell (World.block_lt_of_cell? _ _ (hHeld.2.2.1))).trans (hHeld.2.2.1)
                     have HS3_ := (hb.cell (World.block_lt_of_cell? _ _ (hHeld.2.2.2))).trans (hHeld.2.2.2)
                     refine ⟨_, rfl, ?_⟩
                     have n0_ := Aside0.mk (Kd.R_below (by (with_reducible repeat (fail)); exact HO_7.out) hb)
                     have n1_ := Aside0.mk (Kd.R_below (by (with_reducible repeat (fail)); exact HO_18.out) hb)
                     have n2_ := Aside0.mk (blk_below (g := gb132) (o := .cells #[.int .i64 ((rd_T40 x18_1 x20_1).f0), .int .i64 ((rd_T40 x18_1 x20_1).f1)] 40 (0, 0)) (by (with_reducible repeat (fail)); exact BK132.out) hb)
                     have n3_ := Aside0.mk (below_step (by repeat ((with_reducible exact HB.out))) hb)
                     clear HO_7
                     clear HO_18
                     clear BK132
                     clear HB
                     have HO_7 := n0_
                     have HO_18 := n1_
                     have BK132 := n2_
                     have HB := n3_
                     clear n0_ n1_ n2_ n3_
                     (try clear hb)
                     (skip)
                     (skip)
                     (skip)
                     refine hK.out _ _ ⟨(blk_cell BK132.out 0).trans rfl, (blk_cell BK132.out 1).trans rfl, HS2_, HS3_⟩ (fun hHeld => ?_)
                     clear hK K
                     refine norm_ (a' := ?_) ?_ ?_
                     rotate_left
                     · show Act.put _ (some 36) _ = _
                       simp only [Act.put, List.setIfInBounds_toArray, List.set_cons_zero, List.set_cons_succ, i64_w, i32_w]
                       rfl
                     refine pure_ (i := 8) (N := some 28) (v := ?_) (a' := ?_) #[true, true, true, true, true, true, true, true, true, false, false, false, false, false] rfl rfl (any_of HT_.out (by kernel_rfl)) (fun _ _ _ h => h) (Or.inl ⟨by rfl, ?_⟩) ?_ ?_
                     rotate_left
                     · intro w'
                       go_simp
                       with_reducible rfl
                     rotate_left
                     · simp only [Act.put, List.setIfInBounds_toArray, List.set_cons_zero, List.set_cons_succ, i64_w, i32_w]
                       rfl
                     refine pure_ (i := 9) (N := some 37) (v := ?_) (a' := ?_) #[true, true, true, true, true, true, true, true, true, true, false, false, false, false] rfl rfl (any_of HT_.out (by kernel_rfl)) (fun _ _ _ h => h) (Or.inl ⟨by rfl, ?_⟩) ?_ ?_
                     rotate_left
                     · intro w'
                       go_simp
                       with_reducible rfl
                     rotate_left
                     · simp only [Act.put, List.setIfInBounds_toArray, List.set_cons_zero, List.set_cons_succ, i64_w, i32_w]
                       rfl
                     refine pure_ (i := 10) (N := some 38) (v := ?_) (a' := ?_) #[true, true, true, true, true, true, true, true, true, true, true, false, false, false] rfl rfl (any_of HT_.out (by kernel_rfl)) (fun _ _ _ h => h) (Or.inl ⟨by rfl, ?_⟩) ?_ ?_
                     rotate_left
                     · intro w'
                       go_simp
                       with_reducible rfl
                     rotate_left
                     · simp only [Act.put, List.setIfInBounds_toArray, List.set_cons_zero, List.set_cons_succ, i64_w, i32_w]
                       rfl
                     refine one_ (i := 11) (N := some 11) #[true, true, true, true, true, true, true, true, true, true, true, true, false, false] rfl rfl (one_of HT_.out (by kernel_rfl)) (by decide) (fun K hK => ?_)
                     refine box_step ?hg (N := 11) ?hd (cs := #[.int .i64 0, .int .i64 0]) (t := 40) ?hr ?_; (case hd => rfl); (case hg => rfl); (case hr => (go_simp; done))
                     intro gb137 hg w23 hbox hb
                     have HS2_ := (hb.cell (World.block_lt_of_cell? _ _ (hHeld.2.2.1))).trans (hHeld.2.2.1)
                     have HS3_ := (hb.cell (World.block_lt_of_cell? _ _ (hHeld.2.2.2))).trans (hHeld.2.2.2)
                     have n0_ := Aside0.mk (Kd.R_below (Kd.R_elderB (by (with_reducible repeat (fail)); exact HO_7.out) gb137 (Nat.le_of_eq hg.symm)) hb)
                     have n1_ := Aside0.mk (Kd.R_below (Kd.R_elderB (by (with_reducible repeat (fail)); exact HO_18.out) gb137 (Nat.le_of_eq hg.symm)) hb)
                     have n2_ := Aside0.mk (blk_below (g := gb132) (o := .cells #[.int .i64 ((rd_T40 x18_1 x20_1).f0), .int .i64 ((rd_T40 x18_1 x20_1).f1)] 40 (0, 0)) (by (with_reducible repeat (fail)); exact BK132.out) hb)
                     have n3_ := Aside0.mk (below_step (by repeat ((with_reducible exact HB.out))) hb)
                     have n4_ := Aside0.mk (hbox)
                     have n5_ := Aside0.mk ((by rw [hg]; exact (below_size (by repeat ((with_reducible exact HB.out)))) : w.heap.size ≤ gb137))
                     have n6_ := Aside0.mk ((by rw [hg]; exact (below_size (by repeat ((with_reducible exact HB.out)))) : w.heap.size ≤ gb137))
                     have n7_ := Aside0.mk ((by rw [hg]; exact Nat.ne_of_lt (blk_lt (g := gb132) (o := .cells #[.int .i64 ((rd_T40 x18_1 x20_1).f0), .int .i64 ((rd_T40 x18_1 x20_1).f1)] 40 (0, 0)) (by (with_reducible repeat (fail)); exact BK132.out)) : gb132 ≠ gb137))
                     have n8_ := Aside0.mk ((by rw [hg]; exact Nat.ne_of_gt (blk_lt (g := gb132) (o := .cells #[.int .i64 ((rd_T40 x18_1 x20_1).f0), .int .i64 ((rd_T40 x18_1 x20_1).f1)] 40 (0, 0)) (by (with_reducible repeat (fail)); exact BK132.out)) : gb137 ≠ gb132))
                     clear HO_7
                     clear HO_18
                     clear BK132
                     clear HB
                     have HO_7 := n0_
                     have HO_18 := n1_
                     have BK132 := n2_
                     have HB := n3_
                     have BK137 := n4_
                     have GW137 := n5_
                     have GE137 := n6_
                     have NB132_137 := n7_
                     have NB137_132 := n8_
                     clear n0_ n1_ n2_ n3_ n4_ n5_ n6_ n7_ n8_
                     clear hb hbox hg
                     refine hK.out _ _ ⟨(blk_cell BK132.out 0).trans rfl, (blk_cell BK132.out 1).trans rfl, HS2_, HS3_⟩ (fun hHeld => ?_)
                     clear hK K
                     refine norm_ (a' := ?_) ?_ ?_
                     rotate_left
                     · show Act.put _ (some 11) _ = _
                       simp only [Act.put, List.setIfInBounds_toArray, List.set_cons_zero, List.set_cons_succ, i64_w, i32_w]
                       rfl
                     exact norm_ (by simp only [putAll, Act.put, List.setIfInBounds_toArray, List.set_cons_zero, List.set_cons_succ]) (hCont (gb137) _ ⟨hHeld, (by (with_reducible repeat (fail)); exact Kd.R_mono HO_18.out (fun _ hk => ⟨hk.1.1, ⟨hk.1.2, hk.2⟩⟩)), (by (with_reducible repeat (fail)); exact Kd.R_mono HO_7.out (fun _ hk => ⟨hk.1.1, ⟨hk.1.2, hk.2⟩⟩)), (by (with_reducible repeat (fail)); exact BK132.out), (by (with_reducible repeat (fail)); exact BK137.out), GW137.out, GE137.out, NB132_137.out, NB137_132.out, (by repeat ((with_reducible exact HB.out)))⟩)
                   · skip
                     refine box_step ?hg (N := 11) ?hd (cs := #[.int .i64 0, .int .i64 0]) (t := 40) ?hr ?_; (case hd => rfl); (case hg => rfl); (case hr => (go_simp; done))
                     intro gb137 hg w22 hbox hb
                     have HS2_ := (hb.cell (World.block_lt_of_cell? _ _ (hHeld.2.2.1))).trans (hHeld.2.2.1)
                     have HS3_ := (hb.cell (World.block_lt_of_cell? _ _ (hHeld.2.2.2))).trans (hHeld.2.2.2)
                     have n0_ := Aside0.mk (Kd.R_below (Kd.R_elderB (by (with_reducible repeat (fail)); exact HO_7.out) gb137 (Nat.le_of_eq hg.symm)) hb)
                     have n1_ := Aside0.mk (Kd.R_below (Kd.R_elderB (by (with_reducible repeat (fail)); exact HO_18.out) gb137 (Nat.le_of_eq hg.symm)) hb)
                     have n2_ := Aside0.mk (blk_below (g := gb132) (o := .cells #[.int .i64 ((rd_T40 x18_1 x20_1).f0), .int .i64 ((rd_T40 x18_1 x20_1).f1)] 40 (0, 0)) (by (with_reducible repeat (fail)); exact BK132.out) hb)
                     have n3_ := Aside0.mk (below_step (by repeat ((with_reducible exact HB.out))) hb)
                     have n4_ := Aside0.mk (hbox)
                     have n5_ := Aside0.mk ((by rw [hg]; exact (below_size (by repeat ((with_reducible exact HB.out)))) : w.heap.size ≤ gb137))
                     have n6_ := Aside0.mk ((by rw [hg]; exact (below_size (by repeat ((with_reducible exact HB.out)))) : w.heap.size ≤ gb137))
                     have n7_ := Aside0.mk ((by rw [hg]; exact Nat.ne_of_lt (blk_lt (g := gb132) (o := .cells #[.int .i64 ((rd_T40 x18_1 x20_1).f0), .int .i64 ((rd_T40 x18_1 x20_1).f1)] 40 (0, 0)) (by (with_reducible repeat (fail)); exact BK132.out)) : gb132 ≠ gb137))
                     have n8_ := Aside0.mk ((by rw [hg]; exact Nat.ne_of_gt (blk_lt (g := gb132) (o := .cells #[.int .i64 ((rd_T40 x18_1 x20_1).f0), .int .i64 ((rd_T40 x18_1 x20_1).f1)] 40 (0, 0)) (by (with_reducible repeat (fail)); exact BK132.out)) : gb137 ≠ gb132))
                     clear HO_7
                     clear HO_18
                     clear BK132
                     clear HB
                     have HO_7 := n0_
                     have HO_18 := n1_
                     have BK132 := n2_
                     have HB := n3_
                     have BK137 := n4_
                     have GW137 := n5_
                     have GE137 := n6_
                     have NB132_137 := n7_
                     have NB137_132 := n8_
                     clear n0_ n1_ n2_ n3_ n4_ n5_ n6_ n7_ n8_
                     clear hb hbox hg
                     refine hK.out _ _ ⟨(blk_cell BK132.out 0).trans rfl, (blk_cell BK132.out 1).trans rfl, HS2_, HS3_⟩ (fun hHeld => ?_)
                     clear hK K
                     refine norm_ (a' := ?_) ?_ ?_
                     rotate_left
                     · show Act.put _ (some 11) _ = _
                       simp only [Act.put, List.setIfInBounds_toArray, List.set_cons_zero, List.set_cons_succ, i64_w, i32_w]
                       rfl
                     refine one_ (i := 7) (N := some 36) #[true, true, true, true, true, true, true, true, false, false, false, true, false, false] rfl rfl (one_of HT_.out (by kernel_rfl)) (by decide) (fun K hK => ?_)
                     refine goesT_ Tryz.func72 (by kernel_rfl) rfl #[.agg #[.int .i64 ((rd_T40 x7_1 (ji11)).f0), .int .i64 ((rd_T40 x7_1 (ji11)).f1)], .agg #[.int .i64 ((rd_T40 x18_1 x20_1).f0), .int .i64 ((rd_T40 x18_1 x20_1).f1)]] (by rfl) rfl rfl rfl (by (try simp only [List.map_toArray, List.map_cons, List.map_nil]); rfl) ?_
                     with_reducible refine (zone_merged_2.calls ((rd_T40 x7_1 (ji11)).f0) ((rd_T40 x7_1 (ji11)).f1) ((rd_T40 x18_1 x20_1).f0) ((rd_T40 x18_1 x20_1).f1) t134 t135 true _ A14.out).mono ?_
                     rintro e w23 ⟨rfl, hb⟩
                     have HS2_ := (hb.cell (World.block_lt_of_cell? _ _ (hHeld.2.2.1))).trans (hHeld.2.2.1)
                     have HS3_ := (hb.cell (World.block_lt_of_cell? _ _ (hHeld.2.2.2))).trans (hHeld.2.2.2)
                     refine ⟨_, rfl, ?_⟩
                     have n0_ := Aside0.mk (Kd.R_below (by (with_reducible repeat (fail)); exact HO_7.out) hb)
                     have n1_ := Aside0.mk (Kd.R_below (by (with_reducible repeat (fail)); exact HO_18.out) hb)
                     have n2_ := Aside0.mk (blk_below (g := gb132) (o := .cells #[.int .i64 ((rd_T40 x18_1 x20_1).f0), .int .i64 ((rd_T40 x18_1 x20_1).f1)] 40 (0, 0)) (by (with_reducible repeat (fail)); exact BK132.out) hb)
                     have n3_ := Aside0.mk (blk_below (g := gb137) (o := .cells #[.int .i64 0, .int .i64 0] 40 (0, 0)) (by (with_reducible repeat (fail)); exact BK137.out) hb)
                     have n4_ := Aside0.mk (below_step (by repeat ((with_reducible exact HB.out))) hb)
                     clear HO_7
                     clear HO_18
                     clear BK132
                     clear BK137
                     clear HB
                     have HO_7 := n0_
                     have HO_18 := n1_
                     have BK132 := n2_
                     have BK137 := n3_
                     have HB := n4_
                     clear n0_ n1_ n2_ n3_ n4_
                     (try clear hb)
                     (skip)
                     (skip)
                     (skip)
                     refine hK.out _ _ ⟨(blk_cell BK132.out 0).trans rfl, (blk_cell BK132.out 1).trans rfl, HS2_, HS3_⟩ (fun hHeld => ?_)
                     clear hK K
                     refine norm_ (a' := ?_) ?_ ?_
                     rotate_left
                     · show Act.put _ (some 36) _ = _
                       simp only [Act.put, List.setIfInBounds_toArray, List.set_cons_zero, List.set_cons_succ, i64_w, i32_w]
                       rfl
                     refine pure_ (i := 8) (N := some 28) (v := ?_) (a' := ?_) #[true, true, true, true, true, true, true, true, true, false, false, true, false, false] rfl rfl (any_of HT_.out (by kernel_rfl)) (fun _ _ _ h => h) (Or.inl ⟨by rfl, ?_⟩) ?_ ?_
                     rotate_left
                     · intro w'
                       go_simp
                       with_reducible rfl
                     rotate_left
                     · simp only [Act.put, List.setIfInBounds_toArray, List.set_cons_zero, List.set_cons_succ, i64_w, i32_w]
                       rfl
                     refine pure_ (i := 9) (N := some 37) (v := ?_) (a' := ?_) #[true, true, true, true, true, true, true, true, true, true, false, true, false, false] rfl rfl (any_of HT_.out (by kernel_rfl)) (fun _ _ _ h => h) (Or.inl ⟨by rfl, ?_⟩) ?_ ?_
                     rotate_left
                     · intro w'
                       go_simp
                       with_reducible rfl
                     rotate_left
                     · simp only [Act.put, List.setIfInBounds_toArray, List.set_cons_zero, List.set_cons_succ, i64_w, i32_w]
                       rfl
                     refine pure_ (i := 10) (N := some 38) (v := ?_) (a' := ?_) #[true, true, true, true, true, true, true, true, true, true, true, true, false, false] rfl rfl (any_of HT_.out (by kernel_rfl)) (fun _ _ _ h => h) (Or.inl ⟨by rfl, ?_⟩) ?_ ?_
                     rotate_left
                     · intro w'
                       go_simp
                       with_reducible rfl
                     rotate_left
                     · simp only [Act.put, List.setIfInBounds_toArray, List.set_cons_zero, List.set_cons_succ, i64_w, i32_w]
                       rfl
                     exact norm_ (by simp only [putAll, Act.put, List.setIfInBounds_toArray, List.set_cons_zero, List.set_cons_succ]) (hCont (gb137) _ ⟨hHeld, (by (with_reducible repeat (fail)); exact Kd.R_mono HO_18.out (fun _ hk => ⟨hk.1.1, ⟨hk.1.2, hk.2⟩⟩)), (by (with_reducible repeat (fail)); exact Kd.R_mono HO_7.out (fun _ hk => ⟨hk.1.1, ⟨hk.1.2, hk.2⟩⟩)), (by (with_reducible repeat (fail)); exact BK132.out), (by (with_reducible repeat (fail)); exact BK137.out), GW137.out, GE137.out, NB132_137.out, NB137_132.out, (by repeat ((with_reducible exact HB.out)))⟩)
                 rintro gb137 w24 ⟨hS_, h0_, h1_, h2_, h3_, h4_, h5_, h6_, h7_, h8_⟩
                 have n0_ : Aside0 (Kd.R k40 40 w24 w.heap.size (fun k_ => some k_ ≠ (.slice (some ad133) x7_1.length co19 : Value).ownBlock ∧ k_ ≠ gb132 ∧ k_ ≠ gb137) (.slice (some ad131) x18_1.length co6) x18_1) := ⟨h0_⟩
                 have n1_ : Aside0 (Kd.R k40 40 w24 w.heap.size (fun k_ => some k_ ≠ (.slice (some ad131) x18_1.length co6 : Value).ownBlock ∧ k_ ≠ gb132 ∧ k_ ≠ gb137) (.slice (some ad133) x7_1.length co19) x7_1) := ⟨h1_⟩
                 have n2_ : Aside0 (w24.heap[gb132]? = some (.cells #[.int .i64 ((rd_T40 x18_1 x20_1).f0), .int .i64 ((rd_T40 x18_1 x20_1).f1)] 40 (0, 0))) := ⟨h2_⟩
                 have n3_ : Aside0 (w24.heap[gb137]? = some (.cells #[.int .i64 0, .int .i64 0] 40 (0, 0))) := ⟨h3_⟩
                 have n4_ : Aside0 (w.heap.size ≤ gb137) := ⟨h4_⟩
                 have n5_ : Aside0 (w.heap.size ≤ gb137) := ⟨h5_⟩
                 have n6_ : Aside0 (gb132 ≠ gb137) := ⟨h6_⟩
                 have n7_ : Aside0 (gb137 ≠ gb132) := ⟨h7_⟩
                 have n8_ : Aside0 (Below w.heap.size w w24) := ⟨h8_⟩
                 clear HO_7
                 clear HO_18
                 clear BK132
                 clear HB
                 clear h0_ h1_ h2_ h3_ h4_ h5_ h6_ h7_ h8_
                 have HO_18 := n0_
                 have HO_7 := n1_
                 have BK132 := n2_
                 have BK137 := n3_
                 have GW137 := n4_
                 have GE137 := n5_
                 have NB132_137 := n6_
                 have NB137_132 := n7_
                 have HB := n8_
                 clear n0_ n1_ n2_ n3_ n4_ n5_ n6_ n7_ n8_
                 have hHeld : w24.cell? ⟨gb132, 0, none⟩ = some (.int .i64 ((rd_T40 x18_1 x20_1).f0)) ∧ w24.cell? ⟨gb132, 1, none⟩ = some (.int .i64 ((rd_T40 x18_1 x20_1).f1)) ∧ w24.cell? (ad133.add (((ji11)).toNat * 2)) = some (.int .i64 ((rd_T40 x7_1 (ji11)).f0)) ∧ w24.cell? ⟨(ad133.add (((ji11)).toNat * 2)).block, (ad133.add (((ji11)).toNat * 2)).off + 1, none⟩ = some (.int .i64 ((rd_T40 x7_1 (ji11)).f1)) := hS_
                 refine norm_ (a' := ?_) ?_ ?_
                 rotate_left
                 · simp only [putAll, Act.put, List.setIfInBounds_toArray, List.set_cons_zero, List.set_cons_succ]
                   rfl
                 refine one_ (i := 12) (N := none) #[true, true, true, true, true, true, true, true, true, true, true, true, true, false] rfl rfl (one_of HT_.out (by kernel_rfl)) (by decide) (fun K hK => ?_)
                 have hs25 : w24.cell? ⟨gb137, 0, none⟩ = some (.int .i64 0) := (blk_cell BK137.out 0).trans rfl
                 have hfs25 := blk_frozen BK137.out 0
                 have hns25_0 := NB132_137.out
                 have hms25_0 := NB137_132.out
                 have hs26 : w24.cell? ⟨gb137, 1, none⟩ = some (.int .i64 0) := (blk_cell BK137.out 1).trans rfl
                 have hfs26 := blk_frozen BK137.out 1
                 have hns26_0 := NB132_137.out
                 have hms26_0 := NB137_132.out
                 refine skip_ (w1 := ?_) (by rfl) rfl ?_ ?_
                 rotate_left
                 · go_simp
                   rfl
                 refine hK.out _ _ ⟨((cell_far (p := ⟨gb137, _, none⟩) NB132_137.out _).trans (((cell_far (p := ⟨gb137, _, none⟩) NB132_137.out _).trans (hHeld.1)))), ((cell_far (p := ⟨gb137, _, none⟩) NB132_137.out _).trans (((cell_far (p := ⟨gb137, _, none⟩) NB132_137.out _).trans (hHeld.2.1)))), ((cell_far (p := ⟨gb137, _, none⟩) (by (rw [add_block]; exact Kd.own_blk (Kd.R_away HO_7.out (fun _ hk => hk.2.2)))) _).trans (((cell_far (p := ⟨gb137, _, none⟩) (by (rw [add_block]; exact Kd.own_blk (Kd.R_away HO_7.out (fun _ hk => hk.2.2)))) _).trans (hHeld.2.2.1)))), ((cell_far (p := ⟨gb137, _, none⟩) (by (rw [add_block]; exact Kd.own_blk (Kd.R_away HO_7.out (fun _ hk => hk.2.2)))) _).trans (((cell_far (p := ⟨gb137, _, none⟩) (by (rw [add_block]; exact Kd.own_blk (Kd.R_away HO_7.out (fun _ hk => hk.2.2)))) _).trans (hHeld.2.2.2))))⟩ (fun hHeld => ?_)
                 clear hK K
                 refine pure_ (i := 13) (N := some 12) (v := ?_) (a' := ?_) #[true, true, true, true, true, true, true, true, true, true, true, true, true, true] rfl rfl (any_of HT_.out (by kernel_rfl)) (fun _ _ _ h => h) (Or.inl ⟨by rfl, ?_⟩) ?_ ?_
                 rotate_left
                 · intro w'
                   go_simp
                   with_reducible rfl
                 rotate_left
                 · simp only [Act.put, List.setIfInBounds_toArray, List.set_cons_zero, List.set_cons_succ, i64_w, i32_w]
                   rfl
                 refine done_ (done_of HT_.out (by kernel_rfl)) ?_
                 have n0_ : Aside0 (Kd.R k40 40 ((w24.setCell ⟨gb137, 0, none⟩ (.int .i64 t134)).setCell ⟨gb137, 1, none⟩ (.int .i64 t135)) w.heap.size (fun k_ => some k_ ≠ (.slice (some ad131) x18_1.length co6 : Value).ownBlock ∧ k_ ≠ gb132 ∧ k_ ≠ gb137) (.slice (some ad133) x7_1.length co19) x7_1) := ⟨by (with_reducible repeat (fail)); exact Kd.R_mono (Kd.R_far (p := ⟨gb137, 1, none⟩) (Kd.R_far (p := ⟨gb137, 0, none⟩) (Kd.R_mono HO_7.out (fun k_ hk => (⟨hk, hk.2.2⟩ : _ ∧ k_ ≠ gb137))) (fun _ hk => hk.2) (.int .i64 t134)) (fun _ hk => hk.2) (.int .i64 t135)) (fun _ hk => ⟨hk.1.1, ⟨hk.1.2.1, hk.1.2.2⟩⟩)⟩
                 have n1_ : Aside0 (Kd.R k40 40 ((w24.setCell ⟨gb137, 0, none⟩ (.int .i64 t134)).setCell ⟨gb137, 1, none⟩ (.int .i64 t135)) w.heap.size (fun k_ => some k_ ≠ (.slice (some ad133) x7_1.length co19 : Value).ownBlock ∧ k_ ≠ gb132 ∧ k_ ≠ gb137) (.slice (some ad131) x18_1.length co6) x18_1) := ⟨by (with_reducible repeat (fail)); exact Kd.R_mono (Kd.R_far (p := ⟨gb137, 1, none⟩) (Kd.R_far (p := ⟨gb137, 0, none⟩) (Kd.R_mono HO_18.out (fun k_ hk => (⟨hk, hk.2.2⟩ : _ ∧ k_ ≠ gb137))) (fun _ hk => hk.2) (.int .i64 t134)) (fun _ hk => hk.2) (.int .i64 t135)) (fun _ hk => ⟨hk.1.1, ⟨hk.1.2.1, hk.1.2.2⟩⟩)⟩
                 have n2_ : Aside0 (((w24.setCell ⟨gb137, 0, none⟩ (.int .i64 t134)).setCell ⟨gb137, 1, none⟩ (.int .i64 t135)).heap[gb132]? = some (.cells #[.int .i64 ((rd_T40 x18_1 x20_1).f0), .int .i64 ((rd_T40 x18_1 x20_1).f1)] 40 (0, 0))) := ⟨by (with_reducible repeat (fail)); refine blk_far ?_ NB132_137.out _; (with_reducible repeat (fail)); refine blk_far ?_ NB132_137.out _; (with_reducible repeat (fail)); exact BK132.out⟩
                 have n3_ : Aside0 (((w24.setCell ⟨gb137, 0, none⟩ (.int .i64 t134)).setCell ⟨gb137, 1, none⟩ (.int .i64 t135)).heap[gb137]? = some (.cells #[.int .i64 t134, .int .i64 t135] 40 (0, 0))) := ⟨by (with_reducible repeat (fail)); refine blk_put (cs := #[.int .i64 t134, .int .i64 0]) ?_ 1 _ rfl; (with_reducible repeat (fail)); refine blk_put (cs := #[.int .i64 0, .int .i64 0]) ?_ 0 _ rfl; (with_reducible repeat (fail)); exact BK137.out⟩
                 have n4_ : Aside0 (Below w.heap.size w ((w24.setCell ⟨gb137, 0, none⟩ (.int .i64 t134)).setCell ⟨gb137, 1, none⟩ (.int .i64 t135))) := ⟨by repeat ((with_reducible first | exact HB.out | refine below_set ?_ GE137.out))⟩
                 (try clear HO_7)
                 (try clear HO_18)
                 (try clear BK132)
                 (try clear BK137)
                 (try clear HB)
                 generalize ((w24.setCell ⟨gb137, 0, none⟩ (.int .i64 t134)).setCell ⟨gb137, 1, none⟩ (.int .i64 t135)) = w27 at n0_ n1_ n2_ n3_ n4_ ⊢
                 have HO_7 := n0_
                 have HO_18 := n1_
                 have BK132 := n2_
                 have BK137 := n3_
                 have HB := n4_
                 clear n0_ n1_ n2_ n3_ n4_
                 have hnb28 := NB137_132.out
                 have hnc28 := NB132_137.out
                 have hcz29_0 : w27.cell? ⟨gb137, 0, none⟩ = some (.int .i64 t134) := (blk_cell BK137.out 0).trans rfl
                 have hcz29_1 : w27.cell? ⟨gb137, 1, none⟩ = some (.int .i64 t135) := (blk_cell BK137.out 1).trans rfl
                 have hfz29_0 := blk_frozen BK137.out 0
                 have hfz29_1 := blk_frozen BK137.out 1
                 have p16 : 0 ≤ ((ji11) : Int) := of_decide_eq_true (by (with_reducible assumption))
                 have q16 : ((ji11) : Int) < ((x7_1.length : Int) : Int) := of_decide_eq_true (by (with_reducible assumption))
                 obtain ⟨go16, co16, eo16, gb16, gl16, cl16, HG16⟩ := Kd.R_form HO_7.out (by omega)
                 (cases eo16)
                 have GB16 := Aside0.mk gb16
                 have GG16 := Aside0.mk HG16
                 clear gb16 gl16 HG16
                 (simp only [add_plain] at hx133_0)
                 (simp only [add_plain] at hx133_1)
                 obtain ⟨ce16, hcl16, hM16, hcc16, hfr16⟩ := Kd.R_elem HO_7.out z40 ((ji11) : Int) p16 q16
                 obtain rfl := k40_openM hM16
                 have hx16_0 : w27.cell? ⟨go16, ((ji11) : Int).toNat * 2, none⟩ = some (.int .i64 ((rd_T40 x7_1 (ji11)).f0)) := hcc16 0 _ rfl
                 have hx16_1 : w27.cell? ⟨go16, ((ji11) : Int).toNat * 2 + 1, none⟩ = some (.int .i64 ((rd_T40 x7_1 (ji11)).f1)) := hcc16 1 _ rfl
                 have hf16_0 : w27.frozen? ⟨go16, ((ji11) : Int).toNat * 2, none⟩ = false := hfr16 0
                 have hf16_1 : w27.frozen? ⟨go16, ((ji11) : Int).toNat * 2 + 1, none⟩ = false := hfr16 1
                 clear hcl16 hcc16 hfr16 hM16
                 replace p16 := eq_true p16
                 replace q16 := eq_true q16
                 have HX30 := Aside0.mk (show Kd.R k40 40 w27 w.heap.size (fun k_ => some k_ ≠ (.slice (some ad131) x18_1.length co6 : Value).ownBlock ∧ k_ ≠ gb132 ∧ k_ ≠ gb137) (.slice (some ⟨go16, 0, none⟩) x7_1.length co19) x7_1 from (by (with_reducible repeat (fail)); exact HO_7.out))
                 obtain ⟨ce30, hcl30, hM30, hcc30, hfr30⟩ := Kd.R_elem HX30.out z40 ((ji11) : Int) (of_decide_eq_true (by (with_reducible assumption))) (by have h_ : ((ji11) : Int) < ((x7_1.length : Int) : Int) := of_decide_eq_true (by (with_reducible assumption)); exact h_)
                 obtain rfl := k40_openM hM30
                 have HP30 := Kd.R_seg HX30.out ((ji11) : Int) (of_decide_eq_true (by (with_reducible assumption))) (by have h_ : ((ji11) : Int) < ((x7_1.length : Int) : Int) := of_decide_eq_true (by (with_reducible assumption)); exact h_) (seg := [.int .i64 t134, .int .i64 t135]) (j := 0) hcl30 hcc30 (show 2 ≤ 2 from by decide) (x' := (⟨t134, t135⟩ : S40)) (k40_mkM _ _ _ (⟨t134, t135⟩ : S40) ) (fun _ hk => hk)
                 have hx30_0 := hcc30 0 _ rfl
                 (try simp only [show (k40).sz = 2 from rfl, Nat.mul_one, Nat.add_zero] at hx30_0)
                 have hf30_0 := hfr30 0
                 (try simp only [show (k40).sz = 2 from rfl, Nat.mul_one, Nat.add_zero] at hf30_0)
                 have hx30_1 := hcc30 1 _ rfl
                 (try simp only [show (k40).sz = 2 from rfl, Nat.mul_one, Nat.add_zero] at hx30_1)
                 have hf30_1 := hfr30 1
                 (try simp only [show (k40).sz = 2 from rfl, Nat.mul_one, Nat.add_zero] at hf30_1)
                 clear hcl30 hcc30 hfr30 hM30
                 try go_wp2_with (((with_reducible refine gate_store (t := 40) (p := 44) rfl ?_); refine store_event (t := 40) (p := 44) (v := ?vo_w31) (w1 := ((w27.setCell ⟨go16, ((ji11) : Int).toNat * 2, none⟩ (.int .i64 t134)).setCell ⟨go16, ((ji11) : Int).toNat * 2 + 1, none⟩ (.int .i64 t135))) ?hg ?ho ?hn ?hr ?_; (case ho => rfl); (case hg => rfl); (case hn => rfl); (case hr => (go_simp; done)); intro w31 hw; have hg : w27.grownBy w31 (some go16) := (by rw [hw]; exact HP30.2); have hp_ : Kd.R k40 40 w31 w.heap.size (fun k_ => some k_ ≠ (.slice (some ad131) x18_1.length co6 : Value).ownBlock ∧ k_ ≠ gb132 ∧ k_ ≠ gb137) (.slice (some ⟨go16, 0, none⟩) x7_1.length co19) y138 := (by rw [hw, Ny138.out]; exact HP30.1); clear HP30; have n0_ := Aside0.mk (hp_); have n1_ := Aside0.mk (Kd.R_after (v := (.slice (some ⟨go16, 0, none⟩) x7_1.length co19)) (v1 := (.slice (some ⟨go16, 0, none⟩) x7_1.length co19)) (ok := (fun k_ => k_ ≠ gb132 ∧ k_ ≠ gb137)) (by (with_reducible repeat (fail)); exact Kd.R_mono HO_18.out (fun _ hk => ⟨⟨hk.2.1, hk.2.2⟩, hk.1⟩)) hg (.inl rfl)); have n2_ := Aside0.mk (blk_grown (g := gb132) (o := .cells #[.int .i64 ((rd_T40 x18_1 x20_1).f0), .int .i64 ((rd_T40 x18_1 x20_1).f1)] 40 (0, 0)) (by (with_reducible repeat (fail)); exact BK132.out) hg (Kd.R_away HO_7.out (fun _ hk => hk.2.1))); have n3_ := Aside0.mk (blk_grown (g := gb137) (o := .cells #[.int .i64 t134, .int .i64 t135] 40 (0, 0)) (by (with_reducible repeat (fail)); exact BK137.out) hg (Kd.R_away HO_7.out (fun _ hk => hk.2.2))); have n4_ := Aside0.mk ((by rw [hw]; exact below_set (below_set (HB.out) GB16.out) GB16.out : Below w.heap.size w w31)); clear HO_7; clear HO_18; clear BK132; clear BK137; clear HB; have HO_7 := n0_; have HO_18 := n1_; have BK132 := n2_; have BK137 := n3_; have HB := n4_; clear n0_ n1_ n2_ n3_ n4_; clear hg hw hp_))
                 (try simp only [← hl18_1])
                 go_roundg k1
                 case measure => have := HK1.out; omega
                 case rel => exact ⟨(y138), (x18_1), (wrap64 (x20_1 + 1)), (by rfl), H', ⟨by have := HK1.out; omega⟩, ⟨by (try simp only [hl18_1]); (with_reducible repeat (fail)); exact Kd.R_mono HO_7.out (fun _ hk => hk.1)⟩, ⟨by (try simp only [hl18_1]); (with_reducible repeat (fail)); exact Kd.R_mono HO_18.out (fun _ hk => hk.2)⟩, ⟨by repeat ((with_reducible exact HB.out))⟩⟩
               · replace c15 := Bool.eq_false_iff.mpr c15
                 subst c15
                 have H1 : (if x7_1.length < 8796093022208 then (zone_joined.l0 k1 (x7_1 ++ [(⟨(rd_T40 x18_1 x20_1).f0, (rd_T40 x18_1 x20_1).f1⟩ : S40)]) x18_1 (l0.length : Int) (wrap64 (x20_1 + 1))) else (none)) = some r := by rw [if_neg (show ¬ (false = true) by decide)] at H; exact H
                 clear H
                 have H := H1
                 clear H1
                 by_cases c32 : x7_1.length < 8796093022208
                 · rw [if_pos c32] at H
                   have LMc32 := Aside0.mk c32
                   clear c32
                   obtain ⟨y139, hy139⟩ : ∃ y_ : List (S40), y_ = (x7_1 ++ [(⟨(rd_T40 x18_1 x20_1).f0, (rd_T40 x18_1 x20_1).f1⟩ : S40)]) := ⟨_, rfl⟩
                   replace H : (zone_joined.l0 k1 y139 x18_1 (l0.length : Int) (wrap64 (x20_1 + 1))) = some r := by (rw [hy139]; with_reducible exact H)
                   have Ny139 := Aside0.mk hy139
                   clear hy139
                   have H' := Aside0.mk H
                   clear H
                   have p131 : 0 ≤ (x20_1 : Int) := of_decide_eq_true (by (with_reducible assumption))
                   have q131 : x20_1 < (x18_1.length : Int) := of_decide_eq_true (by (with_reducible assumption))
                   obtain ⟨ad131, e131, hx131_0, hx131_1⟩ := at_T40 (Kd.R_reads' HO_18.out).2.2 x20_1 p131 q131
                   cases e131
                   replace p131 := eq_true p131
                   replace q131 := eq_true q131
                   try go_wp2_with (((with_reducible refine gate_dst (N := 9) rfl ?_); refine box_event ?hg (N := 9) ?hd (cs := #[.int .i64 0, .int .i64 0]) (t := 40) ?hr ?_; (case hd => rfl); (case hg => rfl); (case hr => (go_simp; done)); intro gb132 hg w33 hbox hb; have n0_ := Aside0.mk (Kd.R_below (Kd.R_elderB (by (with_reducible repeat (fail)); exact HO_7.out) gb132 (Nat.le_of_eq hg.symm)) hb); have n1_ := Aside0.mk (Kd.R_below (Kd.R_elderB (by (with_reducible repeat (fail)); exact HO_18.out) gb132 (Nat.le_of_eq hg.symm)) hb); have n2_ := Aside0.mk (below_step (by repeat ((with_reducible exact HB.out))) hb); have n3_ := Aside0.mk (hbox); have n4_ := Aside0.mk ((by rw [hg]; exact (below_size (by repeat ((with_reducible exact HB.out)))) : w.heap.size ≤ gb132)); have n5_ := Aside0.mk ((by rw [hg]; exact (below_size (by repeat ((with_reducible exact HB.out)))) : w.heap.size ≤ gb132)); clear HO_7; clear HO_18; clear HB; have HO_7 := n0_; have HO_18 := n1_; have HB := n2_; have BK132 := n3_; have GW132 := n4_; have GE132 := n5_; clear n0_ n1_ n2_ n3_ n4_ n5_; clear hb hbox hg; have hcz34_0 : w33.cell? ⟨gb132, 0, none⟩ = some (.int .i64 0) := (blk_cell BK132.out 0).trans rfl; have hcz34_1 : w33.cell? ⟨gb132, 1, none⟩ = some (.int .i64 0) := (blk_cell BK132.out 1).trans rfl; have hfz34_0 := blk_frozen BK132.out 0; have hfz34_1 := blk_frozen BK132.out 1; obtain ⟨Ao35, co35, eo35⟩ := Kd.R_slice HO_7.out; subst eo35))
                   have n0_ : Aside0 (Kd.R k40 40 ((w33.setCell ⟨gb132, 0, none⟩ (.int .i64 ((rd_T40 x18_1 x20_1).f0))).setCell ⟨gb132, 1, none⟩ (.int .i64 ((rd_T40 x18_1 x20_1).f1))) w.heap.size (fun k_ => some k_ ≠ (.slice (some ad131) x18_1.length co6 : Value).ownBlock ∧ k_ ≠ gb132) (.slice Ao35 x7_1.length co35) x7_1) := ⟨by (with_reducible repeat (fail)); exact Kd.R_mono (Kd.R_far (p := ⟨gb132, 1, none⟩) (Kd.R_far (p := ⟨gb132, 0, none⟩) (Kd.R_mono HO_7.out (fun k_ hk => (⟨hk, hk.2⟩ : _ ∧ k_ ≠ gb132))) (fun _ hk => hk.2) (.int .i64 ((rd_T40 x18_1 x20_1).f0))) (fun _ hk => hk.2) (.int .i64 ((rd_T40 x18_1 x20_1).f1))) (fun _ hk => ⟨hk.1.1, hk.1.2⟩)⟩
                   have n1_ : Aside0 (Kd.R k40 40 ((w33.setCell ⟨gb132, 0, none⟩ (.int .i64 ((rd_T40 x18_1 x20_1).f0))).setCell ⟨gb132, 1, none⟩ (.int .i64 ((rd_T40 x18_1 x20_1).f1))) w.heap.size (fun k_ => some k_ ≠ (.slice Ao35 x7_1.length co35 : Value).ownBlock ∧ k_ ≠ gb132) (.slice (some ad131) x18_1.length co6) x18_1) := ⟨by (with_reducible repeat (fail)); exact Kd.R_mono (Kd.R_far (p := ⟨gb132, 1, none⟩) (Kd.R_far (p := ⟨gb132, 0, none⟩) (Kd.R_mono HO_18.out (fun k_ hk => (⟨hk, hk.2⟩ : _ ∧ k_ ≠ gb132))) (fun _ hk => hk.2) (.int .i64 ((rd_T40 x18_1 x20_1).f0))) (fun _ hk => hk.2) (.int .i64 ((rd_T40 x18_1 x20_1).f1))) (fun _ hk => ⟨hk.1.1, hk.1.2⟩)⟩
                   have n2_ : Aside0 (((w33.setCell ⟨gb132, 0, none⟩ (.int .i64 ((rd_T40 x18_1 x20_1).f0))).setCell ⟨gb132, 1, none⟩ (.int .i64 ((rd_T40 x18_1 x20_1).f1))).heap[gb132]? = some (.cells #[.int .i64 ((rd_T40 x18_1 x20_1).f0), .int .i64 ((rd_T40 x18_1 x20_1).f1)] 40 (0, 0))) := ⟨by (with_reducible repeat (fail)); refine blk_put (cs := #[.int .i64 ((rd_T40 x18_1 x20_1).f0), .int .i64 0]) ?_ 1 _ rfl; (with_reducible repeat (fail)); refine blk_put (cs := #[.int .i64 0, .int .i64 0]) ?_ 0 _ rfl; (with_reducible repeat (fail)); exact BK132.out⟩
                   have n3_ : Aside0 (Below w.heap.size w ((w33.setCell ⟨gb132, 0, none⟩ (.int .i64 ((rd_T40 x18_1 x20_1).f0))).setCell ⟨gb132, 1, none⟩ (.int .i64 ((rd_T40 x18_1 x20_1).f1)))) := ⟨by repeat ((with_reducible first | exact HB.out | refine below_set ?_ GE132.out))⟩
                   (try clear HO_7)
                   (try clear HO_18)
                   (try clear BK132)
                   (try clear HB)
                   generalize ((w33.setCell ⟨gb132, 0, none⟩ (.int .i64 ((rd_T40 x18_1 x20_1).f0))).setCell ⟨gb132, 1, none⟩ (.int .i64 ((rd_T40 x18_1 x20_1).f1))) = w36 at n0_ n1_ n2_ n3_ ⊢
                   have HO_7 := n0_
                   have HO_18 := n1_
                   have BK132 := n2_
                   have HB := n3_
                   clear n0_ n1_ n2_ n3_
                   have n0_ := Aside0.mk (Kd.R_drew HO_7.out)
                   have n1_ := Aside0.mk (Kd.R_drew HO_18.out)
                   have n2_ := Aside0.mk (blk_drew BK132.out)
                   have n3_ := Aside0.mk (below_drew1 HB.out)
                   clear HO_7
                   clear HO_18
                   clear BK132
                   clear HB
                   have HO_7 := n0_
                   have HO_18 := n1_
                   have BK132 := n2_
                   have HB := n3_
                   clear n0_ n1_ n2_ n3_
                   have p133 : 0 ≤ ((ji11) : Int) := of_decide_eq_true (by (with_reducible assumption))
                   have q133 : (ji11) < (x7_1.length : Int) := of_decide_eq_true (by (with_reducible assumption))
                   obtain ⟨ad133, e133, hx133_0, hx133_1⟩ := at_T40 (Kd.R_reads' HO_7.out).2.2 (ji11) p133 q133
                   cases e133
                   replace p133 := eq_true p133
                   replace q133 := eq_true q133
                   refine start_ (n := 14) (S := fun w' => w'.cell? ⟨gb132, 0, none⟩ = some (.int .i64 ((rd_T40 x18_1 x20_1).f0)) ∧ w'.cell? ⟨gb132, 1, none⟩ = some (.int .i64 ((rd_T40 x18_1 x20_1).f1)) ∧ w'.cell? (ad133.add (((ji11)).toNat * 2)) = some (.int .i64 ((rd_T40 x7_1 (ji11)).f0)) ∧ w'.cell? ⟨(ad133.add (((ji11)).toNat * 2)).block, (ad133.add (((ji11)).toNat * 2)).off + 1, none⟩ = some (.int .i64 ((rd_T40 x7_1 (ji11)).f1))) (ds := []) #[false, false, false, false, false, false, false, false, false, false, false, false, false, false] (by kernel_rfl) rfl rfl ⟨(blk_cell BK132.out 0).trans rfl, (blk_cell BK132.out 1).trans rfl, hx133_0, hx133_1⟩ (fun hHeld => ?_); refine with_tabW zone_joined.tab9 zone_joined.bits9 (fun HT_ HW_ => ?_)
                   generalize w36.drew = w37 at HO_7 HO_18 BK132 HB hx133_0 hx133_1 hHeld ⊢
                   refine pure_ (i := 0) (N := some 29) (v := ?_) (a' := ?_) #[true, false, false, false, false, false, false, false, false, false, false, false, false, false] rfl rfl (any_of HT_.out (by kernel_rfl)) (fun _ _ _ h => h) (Or.inl ⟨by rfl, ?_⟩) ?_ ?_
                   rotate_left
                   · intro w'
                     go_simp
                     with_reducible rfl
                   rotate_left
                   · simp only [Act.put, List.setIfInBounds_toArray, List.set_cons_zero, List.set_cons_succ, i64_w, i32_w]
                     rfl
                   refine pure_ (i := 1) (N := some 30) (v := ?_) (a' := ?_) #[true, true, false, false, false, false, false, false, false, false, false, false, false, false] rfl rfl (any_of HT_.out (by kernel_rfl)) (fun _ _ _ h => h) (Or.inl ⟨by rfl, ?_⟩) ?_ ?_
                   rotate_left
                   · intro w'
                     go_simp
                     with_reducible rfl
                   rotate_left
                   · simp only [Act.put, List.setIfInBounds_toArray, List.set_cons_zero, List.set_cons_succ, i64_w, i32_w]
                     rfl
                   refine pure_ (i := 2) (N := some 31) (v := ?_) (a' := ?_) #[true, true, true, false, false, false, false, false, false, false, false, false, false, false] rfl rfl (any_of HT_.out (by kernel_rfl)) (fun _ _ _ h => h) (Or.inl ⟨by rfl, ?_⟩) ?_ ?_
                   rotate_left
                   · intro w'
                     go_simp
                     with_reducible rfl
                   rotate_left
                   · simp only [Act.put, List.setIfInBounds_toArray, List.set_cons_zero, List.set_cons_succ, i64_w, i32_w]
                     rfl
                   refine pure_ (i := 3) (N := some 32) (v := ?_) (a' := ?_) #[true, true, true, true, false, false, false, false, false, false, false, false, false, false] rfl rfl (any_of HT_.out (by kernel_rfl)) (fun _ _ _ h => h) (Or.inl ⟨by rfl, ?_⟩) ?_ ?_
                   rotate_left
                   · intro w'
                     go_simp
                     with_reducible rfl
                   rotate_left
                   · simp only [Act.put, List.setIfInBounds_toArray, List.set_cons_zero, List.set_cons_succ, i64_w, i32_w]
                     rfl
                   refine pure_ (i := 4) (N := some 33) (v := ?_) (a' := ?_) #[true, true, true, true, true, false, false, false, false, false, false, false, false, false] rfl rfl (any_of HT_.out (by kernel_rfl)) (fun _ _ _ h => h) (Or.inl ⟨by rfl, ?_⟩) ?_ ?_
                   rotate_left
                   · intro w'
                     go_simp
                     with_reducible rfl
                   rotate_left
                   · simp only [Act.put, List.setIfInBounds_toArray, List.set_cons_zero, List.set_cons_succ, i64_w, i32_w]
                     rfl
                   refine take_ (i := 5) (N := some 34) (v := ?_) (a' := ?_) #[true, true, true, true, true, true, false, false, false, false, false, false, false, false] rfl rfl (take_ofW HT_.out HW_.out (by kernel_rfl)) (fun _ _ _ h => h) (Or.inl ⟨by rfl, ?_⟩) hHeld ?_ ?_
                   rotate_left
                   · rintro w' ⟨s0, s1, s2, s3⟩
                     go_simp
                     with_reducible rfl
                   rotate_left
                   · simp only [Act.put, List.setIfInBounds_toArray, List.set_cons_zero, List.set_cons_succ, i64_w, i32_w]
                     rfl
                   refine take_ (i := 6) (N := some 35) (v := ?_) (a' := ?_) #[true, true, true, true, true, true, true, false, false, false, false, false, false, false] rfl rfl (take_ofW HT_.out HW_.out (by kernel_rfl)) (fun _ _ _ h => h) (Or.inl ⟨by rfl, ?_⟩) hHeld ?_ ?_
                   rotate_left
                   · rintro w' ⟨s0, s1, s2, s3⟩
                     go_simp
                     with_reducible rfl
                   rotate_left
                   · simp only [Act.put, List.setIfInBounds_toArray, List.set_cons_zero, List.set_cons_succ, i64_w, i32_w]
                     rfl
                   refine join_ (σ := Nat) 2 #[true, true, true, true, true, true, true, true, true, true, true, true, false, false] (fun s_ => [(36, .tuple #[.agg #[.int .i64 t134, .int .i64 t135], .bool false]), (11, .pointer (some ⟨s_, 0, none⟩)), (28, .tuple #[.agg #[.int .i64 t134, .int .i64 t135], .bool false]), (37, .agg #[.int .i64 t134, .int .i64 t135]), (38, .bool false)]) (fun s_ w' => (w'.cell? ⟨gb132, 0, none⟩ = some (.int .i64 ((rd_T40 x18_1 x20_1).f0)) ∧ w'.cell? ⟨gb132, 1, none⟩ = some (.int .i64 ((rd_T40 x18_1 x20_1).f1)) ∧ w'.cell? (ad133.add (((ji11)).toNat * 2)) = some (.int .i64 ((rd_T40 x7_1 (ji11)).f0)) ∧ w'.cell? ⟨(ad133.add (((ji11)).toNat * 2)).block, (ad133.add (((ji11)).toNat * 2)).off + 1, none⟩ = some (.int .i64 ((rd_T40 x7_1 (ji11)).f1))) ∧ (Kd.R k40 40 w' w.heap.size (fun k_ => some k_ ≠ (.slice (some ad133) x7_1.length co35 : Value).ownBlock ∧ k_ ≠ gb132 ∧ k_ ≠ s_) (.slice (some ad131) x18_1.length co6) x18_1) ∧ (Kd.R k40 40 w' w.heap.size (fun k_ => some k_ ≠ (.slice (some ad131) x18_1.length co6 : Value).ownBlock ∧ k_ ≠ gb132 ∧ k_ ≠ s_) (.slice (some ad133) x7_1.length co35) x7_1) ∧ (w'.heap[gb132]? = some (.cells #[.int .i64 ((rd_T40 x18_1 x20_1).f0), .int .i64 ((rd_T40 x18_1 x20_1).f1)] 40 (0, 0))) ∧ (w'.heap[s_]? = some (.cells #[.int .i64 0, .int .i64 0] 40 (0, 0))) ∧ (w.heap.size ≤ s_) ∧ (w.heap.size ≤ s_) ∧ (gb132 ≠ s_) ∧ (s_ ≠ gb132) ∧ (Below w.heap.size w w')) ?_ ?_
                   rotate_left
                   · intro hCont
                     refine two_ (i := 7) (j := 11) (Ni := some 36) (Nj := some 11) #[true, true, true, true, true, true, true, true, false, false, false, false, false, false] #[true, true, true, true, true, true, true, false, false, false, false, true, false, false] rfl rfl rfl rfl (two_of HT_.out (by kernel_rfl)) (by decide) (by decide) (fun K hK => ?_) (fun K hK => ?_)
                     · skip
                       refine goesT_ Tryz.func72 (by kernel_rfl) rfl #[.agg #[.int .i64 ((rd_T40 x7_1 (ji11)).f0), .int .i64 ((rd_T40 x7_1 (ji11)).f1)], .agg #[.int .i64 ((rd_T40 x18_1 x20_1).f0), .int .i64 ((rd_T40 x18_1 x20_1).f1)]] (by rfl) rfl rfl rfl (by (try simp only [List.map_toArray, List.map_cons, List.map_nil]); rfl) ?_
                       with_reducible refine (zone_merged_2.calls ((rd_T40 x7_1 (ji11)).f0) ((rd_T40 x7_1 (ji11)).f1) ((rd_T40 x18_1 x20_1).f0) ((rd_T40 x18_1 x20_1).f1) t134 t135 false _ A14.out).mono ?_
                       rintro e w38 ⟨rfl, hb⟩
                       have HS2_ := (hb.cell (World.block_lt_of_cell? _ _ (hHeld.2.2.1))).trans (hHeld.2.2.1)
                       have HS3_ := (hb.cell (World.block_lt_of_cell? _ _ (hHeld.2.2.2))).trans (hHeld.2.2.2)
                       refine ⟨_, rfl, ?_⟩
                       have n0_ := Aside0.mk (Kd.R_below (by (with_reducible repeat (fail)); exact HO_7.out) hb)
                       have n1_ := Aside0.mk (Kd.R_below (by (with_reducible repeat (fail)); exact HO_18.out) hb)
                       have n2_ := Aside0.mk (blk_below (g := gb132) (o := .cells #[.int .i64 ((rd_T40 x18_1 x20_1).f0), .int .i64 ((rd_T40 x18_1 x20_1).f1)] 40 (0, 0)) (by (with_reducible repeat (fail)); exact BK132.out) hb)
                       have n3_ := Aside0.mk (below_step (by repeat ((with_reducible exact HB.out))) hb)
                       clear HO_7
                       clear HO_18
                       clear BK132
                       clear HB
                       have HO_7 := n0_
                       have HO_18 := n1_
                       have BK132 := n2_
                       have HB := n3_
                       clear n0_ n1_ n2_ n3_
                       (try clear hb)
                       (skip)
                       (skip)
                       (skip)
                       refine hK.out _ _ ⟨(blk_cell BK132.out 0).trans rfl, (blk_cell BK132.out 1).trans rfl, HS2_, HS3_⟩ (fun hHeld => ?_)
                       clear hK K
                       refine norm_ (a' := ?_) ?_ ?_
                       rotate_left
                       · show Act.put _ (some 36) _ = _
                         simp only [Act.put, List.setIfInBounds_toArray, List.set_cons_zero, List.set_cons_succ, i64_w, i32_w]
                         rfl
                       refine pure_ (i := 8) (N := some 28) (v := ?_) (a' := ?_) #[true, true, true, true, true, true, true, true, true, false, false, false, false, false] rfl rfl (any_of HT_.out (by kernel_rfl)) (fun _ _ _ h => h) (Or.inl ⟨by rfl, ?_⟩) ?_ ?_
                       rotate_left
                       · intro w'
                         go_simp
                         with_reducible rfl
                       rotate_left
                       · simp only [Act.put, List.setIfInBounds_toArray, List.set_cons_zero, List.set_cons_succ, i64_w, i32_w]
                         rfl
                       refine pure_ (i := 9) (N := some 37) (v := ?_) (a' := ?_) #[true, true, true, true, true, true, true, true, true, true, false, false, false, false] rfl rfl (any_of HT_.out (by kernel_rfl)) (fun _ _ _ h => h) (Or.inl ⟨by rfl, ?_⟩) ?_ ?_
                       rotate_left
                       · intro w'
                         go_simp
                         with_reducible rfl
                       rotate_left
                       · simp only [Act.put, List.setIfInBounds_toArray, List.set_cons_zero, List.set_cons_succ, i64_w, i32_w]
                         rfl
                       refine pure_ (i := 10) (N := some 38) (v := ?_) (a' := ?_) #[true, true, true, true, true, true, true, true, true, true, true, false, false, false] rfl rfl (any_of HT_.out (by kernel_rfl)) (fun _ _ _ h => h) (Or.inl ⟨by rfl, ?_⟩) ?_ ?_
                       rotate_left
                       · intro w'
                         go_simp
                         with_reducible rfl
                       rotate_left
                       · simp only [Act.put, List.setIfInBounds_toArray, List.set_cons_zero, List.set_cons_succ, i64_w, i32_w]
                         rfl
                       refine one_ (i := 11) (N := some 11) #[true, true, true, true, true, true, true, true, true, true, true, true, false, false] rfl rfl (one_of HT_.out (by kernel_rfl)) (by decide) (fun K hK => ?_)
                       refine box_step ?hg (N := 11) ?hd (cs := #[.int .i64 0, .int .i64 0]) (t := 40) ?hr ?_; (case hd => rfl); (case hg => rfl); (case hr => (go_simp; done))
                       intro gb137 hg w39 hbox hb
                       have HS2_ := (hb.cell (World.block_lt_of_cell? _ _ (hHeld.2.2.1))).trans (hHeld.2.2.1)
                       have HS3_ := (hb.cell (World.block_lt_of_cell? _ _ (hHeld.2.2.2))).trans (hHeld.2.2.2)
                       have n0_ := Aside0.mk (Kd.R_below (Kd.R_elderB (by (with_reducible repeat (fail)); exact HO_7.out) gb137 (Nat.le_of_eq hg.symm)) hb)
                       have n1_ := Aside0.mk (Kd.R_below (Kd.R_elderB (by (with_reducible repeat (fail)); exact HO_18.out) gb137 (Nat.le_of_eq hg.symm)) hb)
                       have n2_ := Aside0.mk (blk_below (g := gb132) (o := .cells #[.int .i64 ((rd_T40 x18_1 x20_1).f0), .int .i64 ((rd_T40 x18_1 x20_1).f1)] 40 (0, 0)) (by (with_reducible repeat (fail)); exact BK132.out) hb)
                       have n3_ := Aside0.mk (below_step (by repeat ((with_reducible exact HB.out))) hb)
                       have n4_ := Aside0.mk (hbox)
                       have n5_ := Aside0.mk ((by rw [hg]; exact (below_size (by repeat ((with_reducible exact HB.out)))) : w.heap.size ≤ gb137))
                       have n6_ := Aside0.mk ((by rw [hg]; exact (below_size (by repeat ((with_reducible exact HB.out)))) : w.heap.size ≤ gb137))
                       have n7_ := Aside0.mk ((by rw [hg]; exact Nat.ne_of_lt (blk_lt (g := gb132) (o := .cells #[.int .i64 ((rd_T40 x18_1 x20_1).f0), .int .i64 ((rd_T40 x18_1 x20_1).f1)] 40 (0, 0)) (by (with_reducible repeat (fail)); exact BK132.out)) : gb132 ≠ gb137))
                       have n8_ := Aside0.mk ((by rw [hg]; exact Nat.ne_of_gt (blk_lt (g := gb132) (o := .cells #[.int .i64 ((rd_T40 x18_1 x20_1).f0), .int .i64 ((rd_T40 x18_1 x20_1).f1)] 40 (0, 0)) (by (with_reducible repeat (fail)); exact BK132.out)) : gb137 ≠ gb132))
                       clear HO_7
                       clear HO_18
                       clear BK132
                       clear HB
                       have HO_7 := n0_
                       have HO_18 := n1_
                       have BK132 := n2_
                       have HB := n3_
                       have BK137 := n4_
                       have GW137 := n5_
                       have GE137 := n6_
                       have NB132_137 := n7_
                       have NB137_132 := n8_
                       clear n0_ n1_ n2_ n3_ n4_ n5_ n6_ n7_ n8_
                       clear hb hbox hg
                       refine hK.out _ _ ⟨(blk_cell BK132.out 0).trans rfl, (blk_cell BK132.out 1).trans rfl, HS2_, HS3_⟩ (fun hHeld => ?_)
                       clear hK K
                       refine norm_ (a' := ?_) ?_ ?_
                       rotate_left
                       · show Act.put _ (some 11) _ = _
                         simp only [Act.put, List.setIfInBounds_toArray, List.set_cons_zero, List.set_cons_succ, i64_w, i32_w]
                         rfl
                       exact norm_ (by simp only [putAll, Act.put, List.setIfInBounds_toArray, List.set_cons_zero, List.set_cons_succ]) (hCont (gb137) _ ⟨hHeld, (by (with_reducible repeat (fail)); exact Kd.R_mono HO_18.out (fun _ hk => ⟨hk.1.1, ⟨hk.1.2, hk.2⟩⟩)), (by (with_reducible repeat (fail)); exact Kd.R_mono HO_7.out (fun _ hk => ⟨hk.1.1, ⟨hk.1.2, hk.2⟩⟩)), (by (with_reducible repeat (fail)); exact BK132.out), (by (with_reducible repeat (fail)); exact BK137.out), GW137.out, GE137.out, NB132_137.out, NB137_132.out, (by repeat ((with_reducible exact HB.out)))⟩)
                     · skip
                       refine box_step ?hg (N := 11) ?hd (cs := #[.int .i64 0, .int .i64 0]) (t := 40) ?hr ?_; (case hd => rfl); (case hg => rfl); (case hr => (go_simp; done))
                       intro gb137 hg w38 hbox hb
                       have HS2_ := (hb.cell (World.block_lt_of_cell? _ _ (hHeld.2.2.1))).trans (hHeld.2.2.1)
                       have HS3_ := (hb.cell (World.block_lt_of_cell? _ _ (hHeld.2.2.2))).trans (hHeld.2.2.2)
                       have n0_ := Aside0.mk (Kd.R_below (Kd.R_elderB (by (with_reducible repeat (fail)); exact HO_7.out) gb137 (Nat.le_of_eq hg.symm)) hb)
                       have n1_ := Aside0.mk (Kd.R_below (Kd.R_elderB (by (with_reducible repeat (fail)); exact HO_18.out) gb137 (Nat.le_of_eq hg.symm)) hb)
                       have n2_ := Aside0.mk (blk_below (g := gb132) (o := .cells #[.int .i64 ((rd_T40 x18_1 x20_1).f0), .int .i64 ((rd_T40 x18_1 x20_1).f1)] 40 (0, 0)) (by (with_reducible repeat (fail)); exact BK132.out) hb)
                       have n3_ := Aside0.mk (below_step (by repeat ((with_reducible exact HB.out))) hb)
                       have n4_ := Aside0.mk (hbox)
                       have n5_ := Aside0.mk ((by rw [hg]; exact (below_size (by repeat ((with_reducible exact HB.out)))) : w.heap.size ≤ gb137))
                       have n6_ := Aside0.mk ((by rw [hg]; exact (below_size (by repeat ((with_reducible exact HB.out)))) : w.heap.size ≤ gb137))
                       have n7_ := Aside0.mk ((by rw [hg]; exact Nat.ne_of_lt (blk_lt (g := gb132) (o := .cells #[.int .i64 ((rd_T40 x18_1 x20_1).f0), .int .i64 ((rd_T40 x18_1 x20_1).f1)] 40 (0, 0)) (by (with_reducible repeat (fail)); exact BK132.out)) : gb132 ≠ gb137))
                       have n8_ := Aside0.mk ((by rw [hg]; exact Nat.ne_of_gt (blk_lt (g := gb132) (o := .cells #[.int .i64 ((rd_T40 x18_1 x20_1).f0), .int .i64 ((rd_T40 x18_1 x20_1).f1)] 40 (0, 0)) (by (with_reducible repeat (fail)); exact BK132.out)) : gb137 ≠ gb132))
                       clear HO_7
                       clear HO_18
                       clear BK132
                       clear HB
                       have HO_7 := n0_
                       have HO_18 := n1_
                       have BK132 := n2_
                       have HB := n3_
                       have BK137 := n4_
                       have GW137 := n5_
                       have GE137 := n6_
                       have NB132_137 := n7_
                       have NB137_132 := n8_
                       clear n0_ n1_ n2_ n3_ n4_ n5_ n6_ n7_ n8_
                       clear hb hbox hg
                       refine hK.out _ _ ⟨(blk_cell BK132.out 0).trans rfl, (blk_cell BK132.out 1).trans rfl, HS2_, HS3_⟩ (fun hHeld => ?_)
                       clear hK K
                       refine norm_ (a' := ?_) ?_ ?_
                       rotate_left
                       · show Act.put _ (some 11) _ = _
                         simp only [Act.put, List.setIfInBounds_toArray, List.set_cons_zero, List.set_cons_succ, i64_w, i32_w]
                         rfl
                       refine one_ (i := 7) (N := some 36) #[true, true, true, true, true, true, true, true, false, false, false, true, false, false] rfl rfl (one_of HT_.out (by kernel_rfl)) (by decide) (fun K hK => ?_)
                       refine goesT_ Tryz.func72 (by kernel_rfl) rfl #[.agg #[.int .i64 ((rd_T40 x7_1 (ji11)).f0), .int .i64 ((rd_T40 x7_1 (ji11)).f1)], .agg #[.int .i64 ((rd_T40 x18_1 x20_1).f0), .int .i64 ((rd_T40 x18_1 x20_1).f1)]] (by rfl) rfl rfl rfl (by (try simp only [List.map_toArray, List.map_cons, List.map_nil]); rfl) ?_
                       with_reducible refine (zone_merged_2.calls ((rd_T40 x7_1 (ji11)).f0) ((rd_T40 x7_1 (ji11)).f1) ((rd_T40 x18_1 x20_1).f0) ((rd_T40 x18_1 x20_1).f1) t134 t135 false _ A14.out).mono ?_
                       rintro e w39 ⟨rfl, hb⟩
                       have HS2_ := (hb.cell (World.block_lt_of_cell? _ _ (hHeld.2.2.1))).trans (hHeld.2.2.1)
                       have HS3_ := (hb.cell (World.block_lt_of_cell? _ _ (hHeld.2.2.2))).trans (hHeld.2.2.2)
                       refine ⟨_, rfl, ?_⟩
                       have n0_ := Aside0.mk (Kd.R_below (by (with_reducible repeat (fail)); exact HO_7.out) hb)
                       have n1_ := Aside0.mk (Kd.R_below (by (with_reducible repeat (fail)); exact HO_18.out) hb)
                       have n2_ := Aside0.mk (blk_below (g := gb132) (o := .cells #[.int .i64 ((rd_T40 x18_1 x20_1).f0), .int .i64 ((rd_T40 x18_1 x20_1).f1)] 40 (0, 0)) (by (with_reducible repeat (fail)); exact BK132.out) hb)
                       have n3_ := Aside0.mk (blk_below (g := gb137) (o := .cells #[.int .i64 0, .int .i64 0] 40 (0, 0)) (by (with_reducible repeat (fail)); exact BK137.out) hb)
                       have n4_ := Aside0.mk (below_step (by repeat ((with_reducible exact HB.out))) hb)
                       clear HO_7
                       clear HO_18
                       clear BK132
                       clear BK137
                       clear HB
                       have HO_7 := n0_
                       have HO_18 := n1_
                       have BK132 := n2_
                       have BK137 := n3_
                       have HB := n4_
                       clear n0_ n1_ n2_ n3_ n4_
                       (try clear hb)
                       (skip)
                       (skip)
                       (skip)
                       refine hK.out _ _ ⟨(blk_cell BK132.out 0).trans rfl, (blk_cell BK132.out 1).trans rfl, HS2_, HS3_⟩ (fun hHeld => ?_)
                       clear hK K
                       refine norm_ (a' := ?_) ?_ ?_
                       rotate_left
                       · show Act.put _ (some 36) _ = _
                         simp only [Act.put, List.setIfInBounds_toArray, List.set_cons_zero, List.set_cons_succ, i64_w, i32_w]
                         rfl
                       refine pure_ (i := 8) (N := some 28) (v := ?_) (a' := ?_) #[true, true, true, true, true, true, true, true, true, false, false, true, false, false] rfl rfl (any_of HT_.out (by kernel_rfl)) (fun _ _ _ h => h) (Or.inl ⟨by rfl, ?_⟩) ?_ ?_
                       rotate_left
                       · intro w'
                         go_simp
                         with_reducible rfl
                       rotate_left
                       · simp only [Act.put, List.setIfInBounds_toArray, List.set_cons_zero, List.set_cons_succ, i64_w, i32_w]
                         rfl
                       refine pure_ (i := 9) (N := some 37) (v := ?_) (a' := ?_) #[true, true, true, true, true, true, true, true, true, true, false, true, false, false] rfl rfl (any_of HT_.out (by kernel_rfl)) (fun _ _ _ h => h) (Or.inl ⟨by rfl, ?_⟩) ?_ ?_
                       rotate_left
                       · intro w'
                         go_simp
                         with_reducible rfl
                       rotate_left
                       · simp only [Act.put, List.setIfInBounds_toArray, List.set_cons_zero, List.set_cons_succ, i64_w, i32_w]
                         rfl
                       refine pure_ (i := 10) (N := some 38) (v := ?_) (a' := ?_) #[true, true, true, true, true, true, true, true, true, true, true, true, false, false] rfl rfl (any_of HT_.out (by kernel_rfl)) (fun _ _ _ h => h) (Or.inl ⟨by rfl, ?_⟩) ?_ ?_
                       rotate_left
                       · intro w'
                         go_simp
                         with_reducible rfl
                       rotate_left
                       · simp only [Act.put, List.setIfInBounds_toArray, List.set_cons_zero, List.set_cons_succ, i64_w, i32_w]
                         rfl
                       exact norm_ (by simp only [putAll, Act.put, List.setIfInBounds_toArray, List.set_cons_zero, List.set_cons_succ]) (hCont (gb137) _ ⟨hHeld, (by (with_reducible repeat (fail)); exact Kd.R_mono HO_18.out (fun _ hk => ⟨hk.1.1, ⟨hk.1.2, hk.2⟩⟩)), (by (with_reducible repeat (fail)); exact Kd.R_mono HO_7.out (fun _ hk => ⟨hk.1.1, ⟨hk.1.2, hk.2⟩⟩)), (by (with_reducible repeat (fail)); exact BK132.out), (by (with_reducible repeat (fail)); exact BK137.out), GW137.out, GE137.out, NB132_137.out, NB137_132.out, (by repeat ((with_reducible exact HB.out)))⟩)
                   rintro gb137 w40 ⟨hS_, h0_, h1_, h2_, h3_, h4_, h5_, h6_, h7_, h8_⟩
                   have n0_ : Aside0 (Kd.R k40 40 w40 w.heap.size (fun k_ => some k_ ≠ (.slice (some ad133) x7_1.length co35 : Value).ownBlock ∧ k_ ≠ gb132 ∧ k_ ≠ gb137) (.slice (some ad131) x18_1.length co6) x18_1) := ⟨h0_⟩
                   have n1_ : Aside0 (Kd.R k40 40 w40 w.heap.size (fun k_ => some k_ ≠ (.slice (some ad131) x18_1.length co6 : Value).ownBlock ∧ k_ ≠ gb132 ∧ k_ ≠ gb137) (.slice (some ad133) x7_1.length co35) x7_1) := ⟨h1_⟩
                   have n2_ : Aside0 (w40.heap[gb132]? = some (.cells #[.int .i64 ((rd_T40 x18_1 x20_1).f0), .int .i64 ((rd_T40 x18_1 x20_1).f1)] 40 (0, 0))) := ⟨h2_⟩
                   have n3_ : Aside0 (w40.heap[gb137]? = some (.cells #[.int .i64 0, .int .i64 0] 40 (0, 0))) := ⟨h3_⟩
                   have n4_ : Aside0 (w.heap.size ≤ gb137) := ⟨h4_⟩
                   have n5_ : Aside0 (w.heap.size ≤ gb137) := ⟨h5_⟩
                   have n6_ : Aside0 (gb132 ≠ gb137) := ⟨h6_⟩
                   have n7_ : Aside0 (gb137 ≠ gb132) := ⟨h7_⟩
                   have n8_ : Aside0 (Below w.heap.size w w40) := ⟨h8_⟩
                   clear HO_7
                   clear HO_18
                   clear BK132
                   clear HB
                   clear h0_ h1_ h2_ h3_ h4_ h5_ h6_ h7_ h8_
                   have HO_18 := n0_
                   have HO_7 := n1_
                   have BK132 := n2_
                   have BK137 := n3_
                   have GW137 := n4_
                   have GE137 := n5_
                   have NB132_137 := n6_
                   have NB137_132 := n7_
                   have HB := n8_
                   clear n0_ n1_ n2_ n3_ n4_ n5_ n6_ n7_ n8_
                   have hHeld : w40.cell? ⟨gb132, 0, none⟩ = some (.int .i64 ((rd_T40 x18_1 x20_1).f0)) ∧ w40.cell? ⟨gb132, 1, none⟩ = some (.int .i64 ((rd_T40 x18_1 x20_1).f1)) ∧ w40.cell? (ad133.add (((ji11)).toNat * 2)) = some (.int .i64 ((rd_T40 x7_1 (ji11)).f0)) ∧ w40.cell? ⟨(ad133.add (((ji11)).toNat * 2)).block, (ad133.add (((ji11)).toNat * 2)).off + 1, none⟩ = some (.int .i64 ((rd_T40 x7_1 (ji11)).f1)) := hS_
                   refine norm_ (a' := ?_) ?_ ?_
                   rotate_left
                   · simp only [putAll, Act.put, List.setIfInBounds_toArray, List.set_cons_zero, List.set_cons_succ]
                     rfl
                   refine one_ (i := 12) (N := none) #[true, true, true, true, true, true, true, true, true, true, true, true, true, false] rfl rfl (one_of HT_.out (by kernel_rfl)) (by decide) (fun K hK => ?_)
                   have hs41 : w40.cell? ⟨gb137, 0, none⟩ = some (.int .i64 0) := (blk_cell BK137.out 0).trans rfl
                   have hfs41 := blk_frozen BK137.out 0
                   have hns41_0 := NB132_137.out
                   have hms41_0 := NB137_132.out
                   have hs42 : w40.cell? ⟨gb137, 1, none⟩ = some (.int .i64 0) := (blk_cell BK137.out 1).trans rfl
                   have hfs42 := blk_frozen BK137.out 1
                   have hns42_0 := NB132_137.out
                   have hms42_0 := NB137_132.out
                   refine skip_ (w1 := ?_) (by rfl) rfl ?_ ?_
                   rotate_left
                   · go_simp
                     rfl
                   refine hK.out _ _ ⟨((cell_far (p := ⟨gb137, _, none⟩) NB132_137.out _).trans (((cell_far (p := ⟨gb137, _, none⟩) NB132_137.out _).trans (hHeld.1)))), ((cell_far (p := ⟨gb137, _, none⟩) NB132_137.out _).trans (((cell_far (p := ⟨gb137, _, none⟩) NB132_137.out _).trans (hHeld.2.1)))), ((cell_far (p := ⟨gb137, _, none⟩) (by (rw [add_block]; exact Kd.own_blk (Kd.R_away HO_7.out (fun _ hk => hk.2.2)))) _).trans (((cell_far (p := ⟨gb137, _, none⟩) (by (rw [add_block]; exact Kd.own_blk (Kd.R_away HO_7.out (fun _ hk => hk.2.2)))) _).trans (hHeld.2.2.1)))), ((cell_far (p := ⟨gb137, _, none⟩) (by (rw [add_block]; exact Kd.own_blk (Kd.R_away HO_7.out (fun _ hk => hk.2.2)))) _).trans (((cell_far (p := ⟨gb137, _, none⟩) (by (rw [add_block]; exact Kd.own_blk (Kd.R_away HO_7.out (fun _ hk => hk.2.2)))) _).trans (hHeld.2.2.2))))⟩ (fun hHeld => ?_)
                   clear hK K
                   refine pure_ (i := 13) (N := some 12) (v := ?_) (a' := ?_) #[true, true, true, true, true, true, true, true, true, true, true, true, true, true] rfl rfl (any_of HT_.out (by kernel_rfl)) (fun _ _ _ h => h) (Or.inl ⟨by rfl, ?_⟩) ?_ ?_
                   rotate_left
                   · intro w'
                     go_simp
                     with_reducible rfl
                   rotate_left
                   · simp only [Act.put, List.setIfInBounds_toArray, List.set_cons_zero, List.set_cons_succ, i64_w, i32_w]
                     rfl
                   refine done_ (done_of HT_.out (by kernel_rfl)) ?_
                   have hnb43 := NB132_137.out
                   have hnc43 := NB137_132.out
                   have hcz44_0 : w40.cell? ⟨gb132, 0, none⟩ = some (.int .i64 ((rd_T40 x18_1 x20_1).f0)) := (blk_cell BK132.out 0).trans rfl
                   have hcz44_1 : w40.cell? ⟨gb132, 1, none⟩ = some (.int .i64 ((rd_T40 x18_1 x20_1).f1)) := (blk_cell BK132.out 1).trans rfl
                   have hfz44_0 := blk_frozen BK132.out 0
                   have hfz44_1 := blk_frozen BK132.out 1
                   try go_wp2_with (((with_reducible refine gate_builtin (b := .append) (xs := #[.tmp 45, .tmp 47]) rfl ?_); at_builtin; refine Kd.R_append k40 (w0 := w) w.heap.size rfl (.tmp 45) (.tmp 47) 62 40 (.agg #[(.int .i64 0), (.int .i64 0)]) 16 rfl Tryz.underlying62 info40 rfl (by decide) (by omega) (.slice (some ad133) x7_1.length co35) x7_1 (⟨(rd_T40 x18_1 x20_1).f0, (rd_T40 x18_1 x20_1).f1⟩ : S40) [.int .i64 ((rd_T40 x18_1 x20_1).f0), .int .i64 ((rd_T40 x18_1 x20_1).f1)] (fun k_ => some k_ ≠ (.slice (some ad131) x18_1.length co6 : Value).ownBlock ∧ k_ ≠ gb132 ∧ k_ ≠ gb137) (fun _ => False) rfl (by (go_simp; done)) ?aP (fun _ hk => hk.elim) ?aF ?aO ?aB ?aS ?aL ?_; (case aP => exact k40_mkM _ _ _ (⟨(rd_T40 x18_1 x20_1).f0, (rd_T40 x18_1 x20_1).f1⟩ : S40)); (case aB => exact (by repeat ((with_reducible first | exact HB.out | refine below_set ?_ GE137.out)))); (case aF => exact (fun k_ hk => ⟨Kd.fresh' (Kd.R_lt (by (with_reducible repeat (fail)); exact (Kd.R_mono (Kd.R_far (p := ⟨gb137, 1, none⟩) (Kd.R_far (p := ⟨gb137, 0, none⟩) (Kd.R_mono HO_18.out (fun k_ hk => (⟨hk, hk.2.2⟩ : _ ∧ k_ ≠ gb137))) (fun _ hk => hk.2) (.int .i64 t134)) (fun _ hk => hk.2) (.int .i64 t135)) (fun _ h_ => h_.1)))) k_ hk, Kd.freshB (g := gb132) (o := .cells #[.int .i64 ((rd_T40 x18_1 x20_1).f0), .int .i64 ((rd_T40 x18_1 x20_1).f1)] 40 (0, 0)) (by (with_reducible repeat (fail)); refine blk_far ?_ NB132_137.out _; (with_reducible repeat (fail)); refine blk_far ?_ NB132_137.out _; (with_reducible repeat (fail)); exact BK132.out) k_ hk, Kd.freshB (g := gb137) (o := .cells #[.int .i64 t134, .int .i64 t135] 40 (0, 0)) (by (with_reducible repeat (fail)); refine blk_put (cs := #[.int .i64 t134, .int .i64 0]) ?_ 1 _ rfl; (with_reducible repeat (fail)); refine blk_put (cs := #[.int .i64 0, .int .i64 0]) ?_ 0 _ rfl; (with_reducible repeat (fail)); exact BK137.out) k_ hk⟩)); (case aO => exact (by (with_reducible repeat (fail)); exact Kd.R_mono (Kd.R_far (p := ⟨gb137, 1, none⟩) (Kd.R_far (p := ⟨gb137, 0, none⟩) (Kd.R_mono HO_7.out (fun k_ hk => (⟨hk, hk.2.2⟩ : _ ∧ k_ ≠ gb137))) (fun _ hk => hk.2) (.int .i64 t134)) (fun _ hk => hk.2) (.int .i64 t135)) (fun _ hk => ⟨hk.1.1, ⟨hk.1.2.1, hk.1.2.2⟩⟩))); (case aS => exact (below_size (by repeat ((with_reducible first | exact HB.out | refine below_set ?_ GE137.out))))); (case aL => have := LMc32.out; omega); intro v140 w45 ho hb hg hat; rw [← Ny139.out] at ho; have n0_ := Aside0.mk (Kd.R_after (ok := (fun k_ => k_ ≠ gb132 ∧ k_ ≠ gb137)) (by (with_reducible repeat (fail)); exact Kd.R_mono (Kd.R_far (p := ⟨gb137, 1, none⟩) (Kd.R_far (p := ⟨gb137, 0, none⟩) (Kd.R_mono HO_18.out (fun k_ hk => (⟨hk, hk.2.2⟩ : _ ∧ k_ ≠ gb137))) (fun _ hk => hk.2) (.int .i64 t134)) (fun _ hk => hk.2) (.int .i64 t135)) (fun _ hk => ⟨⟨hk.1.2.1, hk.1.2.2⟩, hk.1.1⟩)) hg hat); have n1_ := Aside0.mk (blk_grown (g := gb132) (o := .cells #[.int .i64 ((rd_T40 x18_1 x20_1).f0), .int .i64 ((rd_T40 x18_1 x20_1).f1)] 40 (0, 0)) (by (with_reducible repeat (fail)); refine blk_far ?_ NB132_137.out _; (with_reducible repeat (fail)); refine blk_far ?_ NB132_137.out _; (with_reducible repeat (fail)); exact BK132.out) hg (Kd.R_away HO_7.out (fun _ hk => hk.2.1))); have n2_ := Aside0.mk (blk_grown (g := gb137) (o := .cells #[.int .i64 t134, .int .i64 t135] 40 (0, 0)) (by (with_reducible repeat (fail)); refine blk_put (cs := #[.int .i64 t134, .int .i64 0]) ?_ 1 _ rfl; (with_reducible repeat (fail)); refine blk_put (cs := #[.int .i64 0, .int .i64 0]) ?_ 0 _ rfl; (with_reducible repeat (fail)); exact BK137.out) hg (Kd.R_away HO_7.out (fun _ hk => hk.2.2))); have n3_ := Aside0.mk (hb); have n4_ := Aside0.mk (ho); clear HO_18; clear BK132; clear BK137; clear HB; clear HO_7; have HO_18 := n0_; have BK132 := n1_; have BK137 := n2_; have HB := n3_; have HO141 := n4_; clear n0_ n1_ n2_ n3_ n4_; clear ho hb hg hat))
                   (try simp only [← hl18_1])
                   go_roundg k1
                   case measure => have := HK1.out; omega
                   case rel => exact ⟨(y139), (x18_1), (wrap64 (x20_1 + 1)), (by rfl), H', ⟨by have := HK1.out; omega⟩, ⟨by (try simp only [hl18_1]); (with_reducible repeat (fail)); exact Kd.R_mono HO141.out (fun _ hk => hk.1)⟩, ⟨by (try simp only [hl18_1]); (with_reducible repeat (fail)); exact Kd.R_mono HO_18.out (fun _ hk => hk.2)⟩, ⟨by repeat ((with_reducible exact HB.out))⟩⟩
                 · rw [if_neg c32] at H
                   exact absurd H (by simp)
             · rw [if_neg c13] at H
               exact absurd H (by simp)
           · rw [if_neg c12] at H
             exact absurd H (by simp)
         · rw [if_neg c10] at H
           have c10b0 : decide (0 < (x7_1.length : Int)) = false := decide_eq_false c10
           have c10b1 : decide (0 < x7_1.length) = false := decide_eq_false (by omega)
           clear c10
           by_cases c46 : x7_1.length < 8796093022208
           · rw [if_pos c46] at H
             have LMc46 := Aside0.mk c46
             clear c46
             obtain ⟨y142, hy142⟩ : ∃ y_ : List (S40), y_ = (x7_1 ++ [(⟨(rd_T40 x18_1 x20_1).f0, (rd_T40 x18_1 x20_1).f1⟩ : S40)]) := ⟨_, rfl⟩
             replace H : (zone_joined.l0 k1 y142 x18_1 (l0.length : Int) (wrap64 (x20_1 + 1))) = some r := by (rw [hy142]; with_reducible exact H)
             have Ny142 := Aside0.mk hy142
             clear hy142
             have H' := Aside0.mk H
             clear H
             have p131 : 0 ≤ (x20_1 : Int) := of_decide_eq_true (by (with_reducible assumption))
             have q131 : x20_1 < (x18_1.length : Int) := of_decide_eq_true (by (with_reducible assumption))
             obtain ⟨ad131, e131, hx131_0, hx131_1⟩ := at_T40 (Kd.R_reads' HO_18.out).2.2 x20_1 p131 q131
             cases e131
             replace p131 := eq_true p131
             replace q131 := eq_true q131
             go_wp2_with (first | ((with_reducible refine gate_dst (N := 9) rfl ?_); refine box_event ?hg (N := 9) ?hd (cs := #[.int .i64 0, .int .i64 0]) (t := 40) ?hr ?_; (case hd => rfl); (case hg => rfl); (case hr => (go_simp; done)); intro gb132 hg w47 hbox hb; have n0_ := Aside0.mk (Kd.R_below (Kd.R_elderB (by (with_reducible repeat (fail)); exact HO_7.out) gb132 (Nat.le_of_eq hg.symm)) hb); have n1_ := Aside0.mk (Kd.R_below (Kd.R_elderB (by (with_reducible repeat (fail)); exact HO_18.out) gb132 (Nat.le_of_eq hg.symm)) hb); have n2_ := Aside0.mk (below_step (by repeat ((with_reducible exact HB.out))) hb); have n3_ := Aside0.mk (hbox); have n4_ := Aside0.mk ((by rw [hg]; exact (below_size (by repeat ((with_reducible exact HB.out)))) : w.heap.size ≤ gb132)); have n5_ := Aside0.mk ((by rw [hg]; exact (below_size (by repeat ((with_reducible exact HB.out)))) : w.heap.size ≤ gb132)); clear HO_7; clear HO_18; clear HB; have HO_7 := n0_; have HO_18 := n1_; have HB := n2_; have BK132 := n3_; have GW132 := n4_; have GE132 := n5_; clear n0_ n1_ n2_ n3_ n4_ n5_; clear hb hbox hg; have hcz48_0 : w47.cell? ⟨gb132, 0, none⟩ = some (.int .i64 0) := (blk_cell BK132.out 0).trans rfl; have hcz48_1 : w47.cell? ⟨gb132, 1, none⟩ = some (.int .i64 0) := (blk_cell BK132.out 1).trans rfl; have hfz48_0 := blk_frozen BK132.out 0; have hfz48_1 := blk_frozen BK132.out 1; obtain ⟨Ao49, co49, eo49⟩ := Kd.R_slice HO_7.out; subst eo49) | ((with_reducible refine gate_builtin (b := .append) (xs := #[.tmp 45, .tmp 47]) rfl ?_); at_builtin; refine Kd.R_append k40 (w0 := w) w.heap.size rfl (.tmp 45) (.tmp 47) 62 40 (.agg #[(.int .i64 0), (.int .i64 0)]) 16 rfl Tryz.underlying62 info40 rfl (by decide) (by omega) (.slice Ao49 x7_1.length co49) x7_1 (⟨(rd_T40 x18_1 x20_1).f0, (rd_T40 x18_1 x20_1).f1⟩ : S40) [.int .i64 ((rd_T40 x18_1 x20_1).f0), .int .i64 ((rd_T40 x18_1 x20_1).f1)] (fun k_ => some k_ ≠ (.slice (some ad131) x18_1.length co6 : Value).ownBlock ∧ k_ ≠ gb132) (fun _ => False) rfl (by (go_simp; done)) ?aP (fun _ hk => hk.elim) ?aF ?aO ?aB ?aS ?aL ?_; (case aP => exact k40_mkM _ _ _ (⟨(rd_T40 x18_1 x20_1).f0, (rd_T40 x18_1 x20_1).f1⟩ : S40)); (case aB => exact (by repeat ((with_reducible first | exact HB.out | refine below_set ?_ GE132.out)))); (case aF => exact (fun k_ hk => ⟨Kd.fresh' (Kd.R_lt (by (with_reducible repeat (fail)); exact (Kd.R_mono (Kd.R_far (p := ⟨gb132, 1, none⟩) (Kd.R_far (p := ⟨gb132, 0, none⟩) (Kd.R_mono HO_18.out (fun k_ hk => (⟨hk, hk.2⟩ : _ ∧ k_ ≠ gb132))) (fun _ hk => hk.2) (.int .i64 ((rd_T40 x18_1 x20_1).f0))) (fun _ hk => hk.2) (.int .i64 ((rd_T40 x18_1 x20_1).f1))) (fun _ h_ => h_.1)))) k_ hk, Kd.freshB (g := gb132) (o := .cells #[.int .i64 ((rd_T40 x18_1 x20_1).f0), .int .i64 ((rd_T40 x18_1 x20_1).f1)] 40 (0, 0)) (by (with_reducible repeat (fail)); refine blk_put (cs := #[.int .i64 ((rd_T40 x18_1 x20_1).f0), .int .i64 0]) ?_ 1 _ rfl; (with_reducible repeat (fail)); refine blk_put (cs := #[.int .i64 0, .int .i64 0]) ?_ 0 _ rfl; (with_reducible repeat (fail)); exact BK132.out) k_ hk⟩)); (case aO => exact (by (with_reducible repeat (fail)); exact Kd.R_mono (Kd.R_far (p := ⟨gb132, 1, none⟩) (Kd.R_far (p := ⟨gb132, 0, none⟩) (Kd.R_mono HO_7.out (fun k_ hk => (⟨hk, hk.2⟩ : _ ∧ k_ ≠ gb132))) (fun _ hk => hk.2) (.int .i64 ((rd_T40 x18_1 x20_1).f0))) (fun _ hk => hk.2) (.int .i64 ((rd_T40 x18_1 x20_1).f1))) (fun _ hk => ⟨hk.1.1, hk.1.2⟩))); (case aS => exact (below_size (by repeat ((with_reducible first | exact HB.out | refine below_set ?_ GE132.out))))); (case aL => have := LMc46.out; omega); intro v143 w50 ho hb hg hat; rw [← Ny142.out] at ho; have n0_ := Aside0.mk (Kd.R_after (ok := (fun k_ => k_ ≠ gb132)) (by (with_reducible repeat (fail)); exact Kd.R_mono (Kd.R_far (p := ⟨gb132, 1, none⟩) (Kd.R_far (p := ⟨gb132, 0, none⟩) (Kd.R_mono HO_18.out (fun k_ hk => (⟨hk, hk.2⟩ : _ ∧ k_ ≠ gb132))) (fun _ hk => hk.2) (.int .i64 ((rd_T40 x18_1 x20_1).f0))) (fun _ hk => hk.2) (.int .i64 ((rd_T40 x18_1 x20_1).f1))) (fun _ hk => ⟨hk.1.2, hk.1.1⟩)) hg hat); have n1_ := Aside0.mk (blk_grown (g := gb132) (o := .cells #[.int .i64 ((rd_T40 x18_1 x20_1).f0), .int .i64 ((rd_T40 x18_1 x20_1).f1)] 40 (0, 0)) (by (with_reducible repeat (fail)); refine blk_put (cs := #[.int .i64 ((rd_T40 x18_1 x20_1).f0), .int .i64 0]) ?_ 1 _ rfl; (with_reducible repeat (fail)); refine blk_put (cs := #[.int .i64 0, .int .i64 0]) ?_ 0 _ rfl; (with_reducible repeat (fail)); exact BK132.out) hg (Kd.R_away HO_7.out (fun _ hk => hk.2))); have n2_ := Aside0.mk (hb); have n3_ := Aside0.mk (ho); clear HO_18; clear BK132; clear HB; clear HO_7; have HO_18 := n0_; have BK132 := n1_; have HB := n2_; have HO144 := n3_; clear n0_ n1_ n2_ n3_; clear ho hb hg hat))
             (try simp only [← hl18_1])
             go_roundg k1
             case measure => have := HK1.out; omega
             case rel => exact ⟨(y142), (x18_1), (wrap64 (x20_1 + 1)), (by rfl), H', ⟨by have := HK1.out; omega⟩, ⟨by (try simp only [hl18_1]); (with_reducible repeat (fail)); exact Kd.R_mono HO144.out (fun _ hk => hk.1)⟩, ⟨by (try simp only [hl18_1]); (with_reducible repeat (fail)); exact Kd.R_mono HO_18.out (fun _ hk => hk.2)⟩, ⟨by repeat ((with_reducible exact HB.out))⟩⟩
           · rw [if_neg c46] at H
             exact absurd H (by simp)
       · rw [if_neg c9] at H
         exact absurd H (by simp)
     · rw [if_neg c8] at H
       exact absurd H (by simp)
   · rw [if_neg c7] at H
     have c7b0 : decide (x20_1 < (l0.length : Int)) = false := decide_eq_false c7
     clear c7
     obtain rfl := Option.some.inj H
     (try simp only [hl18_1] at c7b0)
     go_wp2
     go_ret
     exact ⟨_, by rfl, by (with_reducible repeat (fail)); exact Kd.R_mono HO_7.out (fun _ hk => trivial), by repeat ((with_reducible exact HB.out))⟩
end Go.Proofs.YtacohlafmbhcdaaGreat.PAll
