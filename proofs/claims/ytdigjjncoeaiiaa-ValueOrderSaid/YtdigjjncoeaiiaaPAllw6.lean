/- Printed by a program of this session (wip/gprint.py) over the translation, cut to what is named (wip/dcut.py). Not trusted: Lean checks it. -/
import Derived.Test.YtdigjjncoeaiiaaPAlld0
import Derived.Test.YtdigjjncoeaiiaaPAllw3
import Derived.Test.YtdigjjncoeaiiaaPAllw5
namespace Go.Proofs.Ytdigjjncoeaiiaa.PAll
open Go.RowKit Go.Proofs.YtdigjjncoeaiiaaW.PrintWords Go.Proofs.YtdigjjncoeaiiaaW.PrintLast Go.Proofs.YtdigjjncoeaiiaaW.PrintMore
attribute [local go_sem] max2_int min2_int max_two min_two max_three min_three max_four min_four -- for this text's walks alone
set_option linter.unusedVariables false
set_option linter.unusedSimpArgs false
open Go.Proofs.YtdigjjncoeaiiaaGlib
set_option maxHeartbeats 4000000 in
set_option maxRecDepth 100000 in
theorem formed_zero (w0 : World) (e : S24) (A : Option Addr) (c : Nat) (L : Int) (gl : Nat) (w : World) (hr : Kd.C k24 w0 A e.f2.length e.f2) (hc : e.f2.length ≤ c) (h0 : 0 ≤ L) (h1 : L ≤ 1000) (hb : Below w0.heap.size w0 w) (hgl : w0.heap.size ≤ gl) (hg : cellL gl L w) :
    Calls Try.prog 33 #[.agg #[.int .i64 e.f0, .int .i64 e.f1, .slice A e.f2.length c], .int .i64 0, .pointer (some ⟨gl, 0, none⟩)] w fun r w' => r = .returned (.bool (formedP 0 e L).1) ∧ w.grownBy w' (some gl) ∧ cellL gl (formedP 0 e L).2 w' := by
  have HR := Aside0.mk hr
  have HG := Aside0.mk hg
  have HB := Aside0.mk hb
  have HGL := Aside0.mk hgl
  have hlt : gl < w.heap.size := (Array.getElem?_eq_some_iff.1 hg).1
  have HL := Aside0.mk hlt
  obtain ⟨lo, hi, kids, ok, hs⟩ : ∃ lo hi kids ok, (match shapeP e.f0 with | none => (0, 0, 0, false) | some (lo, hi, kids) => (lo, hi, kids, true) : Int × Int × Int × Bool) = (lo, hi, kids, ok) := ⟨_, _, _, _, rfl⟩
  have SH := Aside0.mk (fun W => value_shapeOf.calls 2 e.f0 lo hi kids ok W ((shape_of e.f0).trans (congrArg some hs)))
  have WI := Aside0.mk (fun W => value_within.calls e.f1 lo hi _ W (within_of e.f1 lo hi))
  have HW := Aside0.mk (wrap64_id (x := L - 1) (by omega) (by omega))
  obtain ⟨b1, hb1⟩ : ∃ b1, decide (L - 1 < 0) = b1 := ⟨_, rfl⟩
  obtain ⟨b2, hb2⟩ : ∃ b2, ((e.f2.length : Int) != kids) = b2 := ⟨_, rfl⟩
  have HF := Aside0.mk (node_of e 0 (L - 1) lo hi kids ok hs)
  generalize inI e.f1 lo hi = b3 at WI HF
  rw [hb2] at HF
  have HF2 := Aside0.mk (HF.out.trans (by rw [show decide (0 ≤ L - 1) = !decide (L - 1 < 0) from by by_cases h : L - 1 < 0 <;> simp [h] <;> omega, hb1]))
  have hwl := HW.out
  clear hr hg hs hb hgl HF
  go_enter Try.func33, Try.ntmps33
  go_wp2_with (first
    | ((with_reducible refine gate_dst (N := 3) rfl ?_); refine box_event ?hg (N := 3) ?hd (cs := #[.int .i64 e.f0, .int .i64 e.f1, .slice A e.f2.length c]) (t := 24) ?hr ?_; (case hd => rfl); (case hg => rfl); (case hr => first | (go_simp; done) | (go_simp; rfl)); intro g1 hg w1 hbox hb
       have HB1 := Aside0.mk hb
       have BK1 := Aside0.mk hbox
       have G1 := Aside0.mk hg
       clear hb hbox hg
       have e10 := (blk_cell BK1.out 0).trans rfl)
    | (go_at_call 61; with_reducible refine (SH.out _).mono ?_; rintro e2 w2 ⟨rfl, hb⟩
       have HB2 := Aside0.mk (below_step HB1.out hb)
       have BK2 := Aside0.mk (blk_below BK1.out hb)
       clear hb e10
       have hlt2 := Nat.lt_of_lt_of_le HL.out HB2.out.size
       have hc2 := cell_of_one (blk_alloc (blk_below HG.out HB2.out) (.cells #[.int .i64 lo, .int .i64 hi, .int .i64 kids] 89))
       have hz2 := free_of_one (blk_alloc (blk_below HG.out HB2.out) (.cells #[.int .i64 lo, .int .i64 hi, .int .i64 kids] 89)))
    | ((with_reducible refine gate_store (t := 3) (p := 21) (v := .tmp 20) rfl ?_); refine store_event ?hg (t := 3) (p := 21) (v := .tmp 20) ?ho ?hN (w1 := (w2.alloc (.cells #[.int .i64 lo, .int .i64 hi, .int .i64 kids] 89)).setCell ⟨gl, 0, none⟩ (.int .i64 (wrap64 (L - 1)))) ?hr ?_; (case hg => rfl); (case ho => rfl); (case hN => rfl); (case hr => first | (go_simp; done) | (go_simp; rfl)); intro w3 hw3
       have GR3 := Aside0.mk (formed_w3 HG.out HB2.out hw3)
       have BK3 := Aside0.mk (grown_blk (formed_w3' hw3) (blk_alloc BK2.out _) (by have h1 := G1.out; have h2 := HL.out; omega))
       have SK3 := Aside0.mk (grown_blk (formed_w3' hw3) (blk_new w2 _) (by omega))
       have CL3 := Aside0.mk (formed_c3 HG.out HB2.out HW.out hw3)
       clear hw3 hc2 hz2 hlt2
       have hcl := cell_of_one CL3.out
       have e30 := (blk_cell BK3.out 0).trans rfl
       have e31 := (blk_cell BK3.out 1).trans rfl
       have e32 := (blk_cell BK3.out 2).trans rfl
       have s30 := (blk_cell SK3.out 0).trans rfl
       have s31 := (blk_cell SK3.out 1).trans rfl
       have s32 := (blk_cell SK3.out 2).trans rfl)
    | (go_at_call 28; with_reducible refine (WI.out _).mono ?_; rintro e2 w4 ⟨rfl, hd⟩
       have hb := Drawn0.below hd
       clear hd
       have GR4 := Aside0.mk (grown_trans GR3.out (grown_below hb))
       have CL4 := Aside0.mk (show cellL gl (L - 1) w4 from blk_below CL3.out hb)
       have BK4 := Aside0.mk (blk_below BK3.out hb)
       clear hb
       have e40 := (blk_cell BK4.out 2).trans rfl))
  all_goals (go_ret; exact ⟨rfl, GR3.out, CL3.out⟩)
set_option maxHeartbeats 4000000 in
set_option maxRecDepth 100000 in
theorem formed_succ (n : Nat) (hn : n ≤ 1000) (w0 : World) (e : S24) (A : Option Addr) (c : Nat) (L : Int) (gl : Nat) (w : World) (hr : Kd.C k24 w0 A e.f2.length e.f2) (hc : e.f2.length ≤ c) (h0 : 0 ≤ L) (h1 : L ≤ 1000) (hb : Below w0.heap.size w0 w) (hgl : w0.heap.size ≤ gl) (hg : cellL gl L w)
    (ih : ∀ (e : S24) (A : Option Addr) (c : Nat) (L : Int) (w : World), Kd.C k24 w0 A e.f2.length e.f2 → e.f2.length ≤ c → 0 ≤ L → L ≤ 1000 → Below w0.heap.size w0 w → cellL gl L w →
      Calls Try.prog 33 #[.agg #[.int .i64 e.f0, .int .i64 e.f1, .slice A e.f2.length c], .int .i64 (n : Int), .pointer (some ⟨gl, 0, none⟩)] w fun r w' => r = .returned (.bool (formedP n e L).1) ∧ w.grownBy w' (some gl) ∧ cellL gl (formedP n e L).2 w') :
    Calls Try.prog 33 #[.agg #[.int .i64 e.f0, .int .i64 e.f1, .slice A e.f2.length c], .int .i64 ((n : Int) + 1), .pointer (some ⟨gl, 0, none⟩)] w fun r w' => r = .returned (.bool (formedP (n + 1) e L).1) ∧ w.grownBy w' (some gl) ∧ cellL gl (formedP (n + 1) e L).2 w' := by
  have IH := Aside0.mk ih
  clear ih
  have hn0 : (((n : Int) + 1) == 0) = false := by rw [beq_eq_false_iff_ne]; omega
  have hwn : wrap64 (n : Int) = n := wrap64_id (by omega) (by omega)
  have hwn2 : wrap64 ((n : Int) + 1 - 1) = n := by rw [show (n : Int) + 1 - 1 = n from by omega]; exact hwn
  have HR := Aside0.mk hr
  have HG := Aside0.mk hg
  have HB := Aside0.mk hb
  have HGL := Aside0.mk hgl
  have hlt : gl < w.heap.size := (Array.getElem?_eq_some_iff.1 hg).1
  have HL := Aside0.mk hlt
  obtain ⟨lo, hi, kids, ok, hs⟩ : ∃ lo hi kids ok, (match shapeP e.f0 with | none => (0, 0, 0, false) | some (lo, hi, kids) => (lo, hi, kids, true) : Int × Int × Int × Bool) = (lo, hi, kids, ok) := ⟨_, _, _, _, rfl⟩
  have SH := Aside0.mk (fun W => value_shapeOf.calls 2 e.f0 lo hi kids ok W ((shape_of e.f0).trans (congrArg some hs)))
  have WI := Aside0.mk (fun W => value_within.calls e.f1 lo hi _ W (within_of e.f1 lo hi))
  have HW := Aside0.mk (wrap64_id (x := L - 1) (by omega) (by omega))
  obtain ⟨b1, hb1⟩ : ∃ b1, decide (L - 1 < 0) = b1 := ⟨_, rfl⟩
  obtain ⟨b2, hb2⟩ : ∃ b2, ((e.f2.length : Int) != kids) = b2 := ⟨_, rfl⟩
  have HF := Aside0.mk (node_of e (n + 1) (L - 1) lo hi kids ok hs)
  generalize inI e.f1 lo hi = b3 at WI HF
  rw [hb2] at HF
  have HF2 := Aside0.mk (HF.out.trans (by rw [show decide (0 ≤ L - 1) = !decide (L - 1 < 0) from by by_cases h : L - 1 < 0 <;> simp [h] <;> omega, hb1]))
  have hwl := HW.out
  clear hr hg hs hb hgl HF
  go_enter Try.func33, Try.ntmps33
  go_wp2_with (first
    | ((with_reducible refine gate_dst (N := 3) rfl ?_); refine box_event ?hg (N := 3) ?hd (cs := #[.int .i64 e.f0, .int .i64 e.f1, .slice A e.f2.length c]) (t := 24) ?hr ?_; (case hd => rfl); (case hg => rfl); (case hr => first | (go_simp; done) | (go_simp; rfl)); intro g1 hg w1 hbox hb
       have HB1 := Aside0.mk hb
       have BK1 := Aside0.mk hbox
       have G1 := Aside0.mk hg
       clear hb hbox hg
       have e10 := (blk_cell BK1.out 0).trans rfl)
    | (go_at_call 61; with_reducible refine (SH.out _).mono ?_; rintro e2 w2 ⟨rfl, hb⟩
       have HB2 := Aside0.mk (below_step HB1.out hb)
       have BK2 := Aside0.mk (blk_below BK1.out hb)
       clear hb e10
       have hlt2 := Nat.lt_of_lt_of_le HL.out HB2.out.size
       have hc2 := cell_of_one (blk_alloc (blk_below HG.out HB2.out) (.cells #[.int .i64 lo, .int .i64 hi, .int .i64 kids] 89))
       have hz2 := free_of_one (blk_alloc (blk_below HG.out HB2.out) (.cells #[.int .i64 lo, .int .i64 hi, .int .i64 kids] 89)))
    | ((with_reducible refine gate_store (t := 3) (p := 21) (v := .tmp 20) rfl ?_); refine store_event ?hg (t := 3) (p := 21) (v := .tmp 20) ?ho ?hN (w1 := (w2.alloc (.cells #[.int .i64 lo, .int .i64 hi, .int .i64 kids] 89)).setCell ⟨gl, 0, none⟩ (.int .i64 (wrap64 (L - 1)))) ?hr ?_; (case hg => rfl); (case ho => rfl); (case hN => rfl); (case hr => first | (go_simp; done) | (go_simp; rfl)); intro w3 hw3
       have GR3 := Aside0.mk (formed_w3 HG.out HB2.out hw3)
       have BK3 := Aside0.mk (grown_blk (formed_w3' hw3) (blk_alloc BK2.out _) (by have h1 := G1.out; have h2 := HL.out; omega))
       have SK3 := Aside0.mk (grown_blk (formed_w3' hw3) (blk_new w2 _) (by omega))
       have CL3 := Aside0.mk (formed_c3 HG.out HB2.out HW.out hw3)
       clear hw3 hc2 hz2 hlt2
       have hcl := cell_of_one CL3.out
       have e30 := (blk_cell BK3.out 0).trans rfl
       have e31 := (blk_cell BK3.out 1).trans rfl
       have e32 := (blk_cell BK3.out 2).trans rfl
       have s30 := (blk_cell SK3.out 0).trans rfl
       have s31 := (blk_cell SK3.out 1).trans rfl
       have s32 := (blk_cell SK3.out 2).trans rfl)
    | (go_at_call 28; with_reducible refine (WI.out _).mono ?_; rintro e2 w4 ⟨rfl, hd⟩
       have hb := Drawn0.below hd
       clear hd
       have GR4 := Aside0.mk (grown_trans GR3.out (grown_below hb))
       have CL4 := Aside0.mk (show cellL gl (L - 1) w4 from blk_below CL3.out hb)
       have BK4 := Aside0.mk (blk_below BK3.out hb)
       clear hb
       have e40 := (blk_cell BK4.out 2).trans rfl))
  all_goals try (have hq : nodeOk e (n + 1) (L - 1) = false := (by rw [HF2.out]; first | (simp [*]; done) | (rename_i hx; rw [Bool.not_eq_true'] at hx; simp [*]; done)); have hp : formedP (n + 1) e L = (false, L - 1) := (by unfold formedP; rw [hq]; simp); go_ret; exact ⟨by rw [hp]; rfl, by first | exact GR4.out | exact GR3.out, by rw [hp]; first | exact CL4.out | exact CL3.out⟩)
  have hq : nodeOk e (n + 1) (L - 1) = true := by rw [HF2.out]; (have hx : (!b3) = false := by assumption); rw [Bool.not_eq_false'] at hx; simp [*]
  have hx3 : b3 = true := by have hx : (!b3) = false := by assumption
                             simpa using hx
  subst hx3
  have HP := Aside0.mk (show formedP (n + 1) e L = kidsF (formedP n) e.f2 (L - 1) by unfold formedP; rw [if_pos hq])
  have HL0 := Aside0.mk (show 0 ≤ L - 1 by have h_ := hq; unfold nodeOk at h_; split at h_ <;> simp at h_; omega)
  clear hq hb1 hb2 hcl e30 e31 e32 s30 s31 s32 e40
  go_loopw [55] (fun i wr => ∃ (m : Nat) (Lm : Int), m ≤ e.f2.length ∧ i = .int .i64 m ∧ Aside0 (kidsF (formedP n) e.f2 (L - 1) = kidsF (formedP n) (e.f2.drop m) Lm) ∧ Aside0 (0 ≤ Lm) ∧ Aside0 (Lm ≤ 1000) ∧ Aside0 (w.grownBy wr (some gl)) ∧ Aside0 (cellL gl Lm wr)) (fun i _ => e.f2.length - (intOf i).toNat)
  case atStart => exact ⟨0, L - 1, Nat.zero_le _, rfl, ⟨by rw [List.drop_zero]⟩, HL0, ⟨by omega⟩, GR4, CL4⟩
  case round =>
    obtain ⟨m, Lm, hm, rfl, HE, HM0, HM1, GRm, CLm⟩ := hrel
    clear HL0 GR4 CL4 GR3 CL3 BK3 BK4 SK3
    by_cases hlt2 : m < e.f2.length
    · have d0 : decide ((m : Int) < (e.f2.length : Int)) = true := decide_eq_true (by omega)
      have d1 : decide (m < e.f2.length) = true := decide_eq_true hlt2
      have q0 : (0 : Int) ≤ (m : Int) := by omega
      have hdr : e.f2.drop m = e.f2[m] :: e.f2.drop (m + 1) := List.drop_eq_getElem_cons hlt2
      have hrd : rd_T24 e.f2 (m : Int) = e.f2[m] := by
        unfold rd_T24
        rw [Int.toNat_natCast, List.getD_eq_getElem?_getD, List.getElem?_eq_getElem hlt2]
        rfl
      obtain ⟨ad, A2, c2, ea, x0, x1, x2, hc2, hC2⟩ := at_T24 HR.out (m : Int) (by omega) (by omega)
      subst ea
      rw [hrd] at x0 x1 x2 hc2 hC2
      rw [Int.toNat_natCast] at x0 x1 x2
      have HBm := Aside0.mk (below_grown HB.out HGL.out GRm.out)
      replace x0 := (HBm.out.cell (World.block_lt_of_cell? w0 _ x0)).trans x0
      replace x1 := (HBm.out.cell (World.block_lt_of_cell? w0 _ x1)).trans x1
      replace x2 := (HBm.out.cell (World.block_lt_of_cell? w0 _ x2)).trans x2
      rw [hdr] at HE
      simp only [kidsF] at HE
      have HD := Aside0.mk hdr
      clear hdr hrd
      generalize e.f2[m] = z at *
      have HC2 := Aside0.mk hC2
      have HL2 := Aside0.mk hc2
      clear hC2 hc2
      obtain ⟨fb, fL, hfp⟩ : ∃ fb fL, formedP n z Lm = (fb, fL) := ⟨_, _, rfl⟩
      have HFB := Aside0.mk (formed_bounds n z Lm fb fL HM0.out hfp)
      have CA := Aside0.mk (fun W h1 h2 => IH.out z A2 c2 Lm W HC2.out HL2.out HM0.out HM1.out h1 h2)
      rw [hfp] at CA HE
      clear hfp
      cases fb with
      | false =>
        have HX : Aside0 (formedP (n + 1) e L = (false, fL)) := ⟨HP.out.trans (HE.out.trans (by simp))⟩
        clear HE HP
        go_wp2_with (go_at_call 33; go_loud (with_reducible refine (CA.out _ ?b1 ?b2).mono ?_; (case b1 => exact below_alloc HBm.out _); (case b2 => exact cellL_alloc CLm.out _); rintro e2 w5 ⟨rfl, hg5, hc5⟩))
        go_ret
        exact ⟨by rw [HX.out]; rfl, grown_trans (grown_trans GRm.out (grown_below (below_alloc (Below.refl _ _) _))) hg5, by rw [HX.out]; exact hc5⟩
      | true =>
        have HX : Aside0 (kidsF (formedP n) e.f2 (L - 1) = kidsF (formedP n) (e.f2.drop (m + 1)) fL) := ⟨HE.out.trans (by simp)⟩
        clear HE
        go_wp2_with (go_at_call 33; go_loud (with_reducible refine (CA.out _ ?b1 ?b2).mono ?_; (case b1 => exact below_alloc HBm.out _); (case b2 => exact cellL_alloc CLm.out _); rintro e2 w5 ⟨rfl, hg5, hc5⟩))
        go_roundw
        case rel => exact ⟨_, _, _, _, _, _, _, _, _, _, _, _, _, ⟨m + 1, fL, hlt2, (congrArg (Value.int .i64) (wrap_next (n := m) (Nat.lt_of_lt_of_le hlt2 HR.out.2.1))), HX, ⟨HFB.out.2 (by trivial)⟩, ⟨le_step HFB.out.1 HM1.out⟩, ⟨grown_trans (grown_trans GRm.out (grown_below (below_alloc (Below.refl _ _) _))) hg5⟩, ⟨hc5⟩⟩, rfl⟩
        case measure => exact meas_next hlt2 HR.out.2.1
    · have d0 : decide ((m : Int) < (e.f2.length : Int)) = false := decide_eq_false (by omega)
      have d1 : decide (m < e.f2.length) = false := decide_eq_false hlt2
      rw [List.drop_eq_nil_of_le (by omega)] at HE
      have HX := Aside0.mk (HP.out.trans HE.out)
      clear HE HP
      go_wp2
      go_ret
      exact ⟨by rw [HX.out]; rfl, GRm.out, by rw [HX.out]; exact CLm.out⟩
theorem formed_calls (w0 : World) (gl : Nat) (hgl : w0.heap.size ≤ gl) : ∀ (n : Nat), n ≤ 1000 → ∀ (e : S24) (A : Option Addr) (c : Nat) (L : Int) (w : World), Kd.C k24 w0 A e.f2.length e.f2 → e.f2.length ≤ c → 0 ≤ L → L ≤ 1000 → Below w0.heap.size w0 w → cellL gl L w →
    Calls Try.prog 33 #[.agg #[.int .i64 e.f0, .int .i64 e.f1, .slice A e.f2.length c], .int .i64 (n : Int), .pointer (some ⟨gl, 0, none⟩)] w fun r w' => r = .returned (.bool (formedP n e L).1) ∧ w.grownBy w' (some gl) ∧ cellL gl (formedP n e L).2 w' := by
  intro n
  induction n with
  | zero =>
    intro _ e A c L w hr hc h0 h1 hb hg
    exact formed_zero w0 e A c L gl w hr hc h0 h1 hb hgl hg
  | succ n ih =>
    intro hn e A c L w hr hc h0 h1 hb hg
    exact formed_succ n (by omega) w0 e A c L gl w hr hc h0 h1 hb hgl hg (fun e A c L w hr hc h0 h1 hb hg => ih (by omega) e A c L w hr hc h0 h1 hb hg)
end Go.Proofs.Ytdigjjncoeaiiaa.PAll
