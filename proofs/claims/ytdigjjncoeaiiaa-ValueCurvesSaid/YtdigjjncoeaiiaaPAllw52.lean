/- Printed by a program of this session (wip/gprint.py) over the translation, cut to what is named (wip/dcut.py). Not trusted: Lean checks it. -/
import Derived.Test.YtdigjjncoeaiiaaPAlld0
import Derived.Test.YtdigjjncoeaiiaaVaParts
import Derived.Test.YtdigjjncoeaiiaaPAllw29
import Derived.Test.YtdigjjncoeaiiaaPAllw25
import Derived.Test.YtdigjjncoeaiiaaPAllw50
namespace Go.Proofs.Ytdigjjncoeaiiaa.PAll
open Go.RowKit Go.Proofs.YtdigjjncoeaiiaaW.PrintWords Go.Proofs.YtdigjjncoeaiiaaW.PrintLast Go.Proofs.YtdigjjncoeaiiaaW.PrintMore
attribute [local go_sem] max2_int min2_int max_two min_two max_three min_three max_four min_four -- for this text's walks alone
set_option linter.unusedVariables false
set_option linter.unusedSimpArgs false
section
set_option maxHeartbeats 8000000 in
set_option maxRecDepth 100000 in
open Go.Proofs.Ytdigjjncoeaiiaa.Plain Go.Proofs.YtdigjjncoeaiiaaGlib in
theorem validC_calls (l : List S57) (A : Option Addr) (c : Nat) (w : World) (hr : Kd.C k57 w A l.length l) (hc : l.length ≤ c) :
  Calls Try.prog 42 #[.slice A l.length c] w fun e w' => e = .returned (.bool (validC l)) ∧ Below w.heap.size w w' := by
 have hll : l.length ≤ 9223372036854775807 := by have := Kd.C_max hr; omega
 obtain ⟨k1, h1⟩ := joined_ev l hll
 have JC := Aside0.mk (curve_joined.calls k1 A c l _ w hr hc (h1 k1 (Nat.le_refl _)))
 have HB := Aside0.mk (Below.refl w.heap.size w)
 have HR := Aside0.mk hr
 clear h1
 unfold validC
 cases hj : joinedB l with
 | false =>
  rw [hj] at JC
  clear hr hj
  go_enter Try.func42, Try.ntmps42
  go_wp2_with (go_at_call 70; with_reducible refine JC.out.mono ?_; rintro e w2 ⟨rfl, hb⟩)
  go_ret
  exact ⟨rfl, hb⟩
 | true =>
  obtain ⟨hg, hn, hv⟩ := joined_good hj
  rw [hj] at JC
  have HG := Aside0.mk hg
  have HV := Aside0.mk hv
  have hlm := Kd.C_max hr
  obtain ⟨ad, rfl, y0, -⟩ := at_T57 hr 0 (by omega) (by omega)
  rw [show ((0 : Int)).toNat = 0 from rfl, Nat.zero_mul, Addr.add_zero'] at y0
  have q0 : (0 : Int) < (l.length : Int) := by omega
  obtain ⟨k2, h2⟩ := pmake_ev (rd_T57 l 0).f0 (valsC l)
  have MC := Aside0.mk (fun (A2 : Option Addr) (c2 : Nat) W hs => curve_Make.calls k2 (rd_T57 l 0).f0 (fun _ => True) A2 c2 (valsC l) (makeP (rd_T57 l 0).f0 (valsC l)).1 (makeP (rd_T57 l 0).f0 (valsC l)).2 W hs (h2 k2 (Nat.le_refl _)))
  obtain ⟨k3, h3⟩ := parts_ev l (makeP (rd_T57 l 0).f0 (valsC l)).1 hll
  have PC := Aside0.mk (fun A2 c2 W (h : Below w.heap.size w W) hr2 hc2 => api_Part_72.calls k3 (some ad) c l A2 c2 (makeP (rd_T57 l 0).f0 (valsC l)).1 _ W (Kd.C_below hr h) hc hr2 hc2 (h3 k3 (Nat.le_refl _)))
  have VC := Aside0.mk (fun W => (values_calls (some ad) l.length c W).mono (R' := fun e w' => ∃ g : Nat, e = .returned (.func (.func 86) #[] #[.pointer (some ⟨g, 0, none⟩)]) ∧ w'.heap[g]? = some (.cells #[.slice (some ad) l.length c] 38 (0, 0)) ∧ Below W.heap.size W w') (fun e w' h => ⟨_, h.1, h.2.1, h.2.2.1⟩))
  have CV := Aside0.mk (fun g W (h : Below w.heap.size w W) hcap => collect_vals (g1 := g) (w := W) hg hc (Kd.C_below hr h) hcap hv)
  have SY := Aside0.mk (fun W (h : Below w.heap.size w W) => (h.cell (World.block_lt_of_cell? w _ y0)).trans y0)
  clear h2 h3 hj hr hg hv
  generalize valsC l = ys at *
  generalize makeP (rd_T57 l 0).f0 ys = M at *
  obtain ⟨m1, m2⟩ := M
  generalize eqParts l m1 = b at *
  generalize (rd_T57 l 0).f0 = f0 at *
  dsimp only at *
  go_enter Try.func42, Try.ntmps42
  go_wp2_with (go_at_call 70; with_reducible refine JC.out.mono ?_; rintro e w2 ⟨rfl, hb⟩; have HB2 := Aside0.mk hb; have z0 := SY.out _ hb; clear hb)
  go_region_held3 (fun w' => w'.cell? ad = some (.int .i64 f0))
   (first | exact SY.out _ HB5.out | exact SY.out _ HB4.out | exact SY.out _ HB3.out | exact SY.out _ HB2.out | exact SY.out _ (below_drew1 HB2.out))
   (first
    | (go_at_call 71; with_reducible refine (VC.out _).mono ?_; rintro e w3 ⟨g3, rfl, hcap, hb⟩; have HB3 := Aside0.mk (below_step (by repeat (first | (with_reducible exact HB2.out) | apply below_drew1 | apply pw_below_drewN)) hb); have HC3 := Aside0.mk hcap; clear hb hcap)
    | (go_at_call 38; with_reducible refine (MC.out A4 c4 _ ?t1).mono ?_; (case t1 => exact (by repeat (first | (with_reducible exact HO4.out) | refine Kd.V_drew ?_))); rintro e w5 ⟨v5, rfl, ho, hb⟩; have HB5 := Aside0.mk (below_step (by repeat (first | (with_reducible exact HB4.out) | apply below_drew1 | apply pw_below_drewN)) hb); obtain ⟨A5, c5, ev⟩ := Kd.R_slice ho; subst ev; have HO5 := Aside0.mk (Kd.R_reads' ho); clear hb ho)
    | (go_at_call 63; with_reducible refine (CV.out _ _ ?s1 ?s2).mono ?_; (case s1 => exact (by repeat (first | (with_reducible exact HB3.out) | apply below_drew1 | apply pw_below_drewN))); (case s2 => exact HC3.out); rintro e w4 ⟨v4, rfl, ho, hb⟩; have HB4 := Aside0.mk (below_step (by repeat (first | (with_reducible exact HB3.out) | apply below_drew1 | apply pw_below_drewN)) hb); obtain ⟨A4, c4, ev⟩ := Kd.R_slice ho; subst ev; have HO4 := Aside0.mk (Kd.R_V (base' := w4.heap.size) ho); clear hb ho))
  by_cases hm : m2 = 0
  · subst hm
    go_wp2_with (go_at_call 72; with_reducible refine (PC.out A5 c5 _ HB5.out HO5.out.2.2 HO5.out.2.1).mono ?_; rintro e w6 ⟨rfl, ⟨nd, rfl⟩⟩)
    go_ret
    exact ⟨rfl, pw_below_drewN HB5.out _⟩
  · have d0 : (m2 == 0) = false := beq_eq_false_iff_ne.mpr hm
    have d1 : decide (m2 = 0) = false := decide_eq_false hm
    go_wp2
    go_ret
    exact ⟨by rw [d1]; rfl, HB5.out⟩
end
section
set_option maxHeartbeats 8000000 in
set_option maxRecDepth 100000 in
open Go.Proofs.Ytdigjjncoeaiiaa.Plain Go.Proofs.YtdigjjncoeaiiaaGlib in
theorem at1_calls (g : Nat) (n a b q0 q1 q2 : Int) (W : World) (hn : W.cell? ⟨g, 0, none⟩ = some (.int .i64 n)) :
  Calls Try.prog 40 #[.agg #[.int .i64 a, .int .i64 b, .int .i64 q0, .int .i64 q1, .int .i64 q2], .pointer (some ⟨g, 0, none⟩)] W fun e w' => e = .returned (.bool (hasB n ⟨a, b, ⟨q0, q1, q2⟩⟩)) ∧ Below W.heap.size W w' := by
 have hb := below_alloc (Below.refl W.heap.size W) (.cells #[.int .i64 a, .int .i64 b, .int .i64 q0, .int .i64 q1, .int .i64 q2] 57)
 have hx := blk_new W (.cells #[.int .i64 a, .int .i64 b, .int .i64 q0, .int .i64 q1, .int .i64 q2] 57)
 have hc := (hb.cell (World.block_lt_of_cell? W _ hn)).trans hn
 have HB := Aside0.mk hb
 have x0 := (blk_cell hx 0).trans rfl
 have x1 := (blk_cell hx 1).trans rfl
 clear hb hx
 unfold hasB
 by_cases h1 : a ≤ n
 · have d1 : decide (a ≤ n) = true := decide_eq_true h1
   go_enter Try.func40, Try.ntmps40
   go_wp2
   go_ret
   exact ⟨by rw [d1]; rfl, HB.out⟩
 · have d1 : decide (a ≤ n) = false := decide_eq_false h1
   go_enter Try.func40, Try.ntmps40
   go_wp2
   go_ret
   exact ⟨rfl, HB.out⟩
set_option maxHeartbeats 8000000 in
set_option maxRecDepth 100000 in
open Go.Proofs.Ytdigjjncoeaiiaa.Plain Go.Proofs.YtdigjjncoeaiiaaGlib in
theorem indexP_calls (g : Nat) (n : Int) (A : Option Addr) (c : Nat) (l : List S57) (w : World) (hr : Kd.C k57 w A l.length l) (hc : l.length ≤ c) (hn : w.cell? ⟨g, 0, none⟩ = some (.int .i64 n)) :
  Calls Try.prog 41 #[.slice A l.length c, .func (.func 40) #[] #[.pointer (some ⟨g, 0, none⟩)]] w fun e w' => e = .returned (.int .i64 (idxP (hasB n) l 0)) ∧ Below w.heap.size w w' := by
 have HR := Aside0.mk hr
 have HN := Aside0.mk hn
 have AT := Aside0.mk (fun a b q0 q1 q2 W h => at1_calls g n a b q0 q1 q2 W h)
 have hlm := Kd.C_max hr
 clear hr hn
 go_enter Try.func41, Try.ntmps41
 go_wp2
 go_loopw [5, 8] (fun v i wr => ∃ m : Nat, m ≤ l.length ∧ i = .int .i64 m ∧ Aside0 (idxP (hasB n) l 0 = idxP (hasB n) (l.drop m) m) ∧ Aside0 (Below w.heap.size w wr)) (fun _ i _ => l.length - (intOf i).toNat)
 case atStart => exact ⟨0, Nat.zero_le _, rfl, ⟨by rw [List.drop_zero]⟩, ⟨Below.refl _ _⟩⟩
 case round =>
  obtain ⟨m, hm, rfl, HE, HB⟩ := hrel
  by_cases hlt : m < l.length
  · have hd : l.drop m = l[m] :: l.drop (m + 1) := List.drop_eq_getElem_cons hlt
    have hz : rd_T57 l (m : Int) = l[m] := rd57_at hlt
    have he := HE.out
    rw [hd] at he
    simp only [idxP] at he
    obtain ⟨ad, rfl, y0, y1, y2, y3, y4⟩ := at_T57 (Kd.C_below HR.out HB.out) (m : Int) (by omega) (by omega)
    rw [hz] at y0 y1 y2 y3 y4
    rw [Int.toNat_natCast] at y0 y1 y2 y3 y4
    have d0 : decide ((m : Int) < (l.length : Int)) = true := decide_eq_true (by omega)
    have d1 : decide (m < l.length) = true := decide_eq_true hlt
    have p0 : (0 : Int) ≤ (m : Int) := by omega
    have hnw := (HB.out.cell (World.block_lt_of_cell? w _ HN.out)).trans HN.out
    have HE2 := Aside0.mk he
    clear he hd hz HE
    generalize l[m] = p at *
    obtain ⟨pa, pb, qa, qb, qd⟩ := p
    dsimp only at *
    have ATm := Aside0.mk (AT.out pa pb qa qb qd wr hnw)
    go_wp2_with (go_at_call 40; with_reducible refine (ATm.out).mono ?_)
    rintro e w2 ⟨rfl, hb⟩
    have HB2 := Aside0.mk (below_step HB.out hb)
    clear hb
    cases hp : hasB n ⟨pa, pb, ⟨qa, qb, qd⟩⟩ with
    | true =>
     rw [hp, if_pos rfl] at HE2
     go_wp2
     go_ret
     exact ⟨by rw [HE2.out]; rfl, HB2.out⟩
    | false =>
     rw [hp, if_neg (by simp)] at HE2
     go_wp2
     go_roundw
     case rel => exact ⟨m + 1, by omega, by go_num, HE2, HB2⟩
     case measure => simp [intOf]; omega
  · have d0 : decide ((m : Int) < (l.length : Int)) = false := decide_eq_false (by omega)
    have d1 : decide (m < l.length) = false := decide_eq_false hlt
    have he := HE.out
    rw [List.drop_eq_nil_of_le (by omega)] at he
    have HE2 := Aside0.mk he
    clear he HE
    go_wp2
    go_ret
    exact ⟨by rw [HE2.out]; rfl, HB.out⟩
set_option maxHeartbeats 8000000 in
set_option maxRecDepth 100000 in
open Go.Proofs.Ytdigjjncoeaiiaa.Plain Go.Proofs.YtdigjjncoeaiiaaGlib in
theorem at_calls (A : Option Addr) (c : Nat) (l : List S57) (n : Int) (w : World) (hr : Kd.C k57 w A l.length l) (hc : l.length ≤ c) :
  Calls Try.prog 26 #[.slice A l.length c, .int .i64 n] w fun e w' => e = .returned (.tuple #[.int .i64 (atC l n).1, .int .i64 (atC l n).2]) ∧ Below w.heap.size w w' := by
 have hmf : ∀ (fn : Fn) (first cap : Array Value) (w : World), (Instr.makeFunc fn first cap).run Try.prog w = .ok (.func fn first cap) w := fun _ _ _ _ => rfl
 have HR := Aside0.mk (fun W (h : Below w.heap.size w W) => Kd.C_below hr h)
 have HX := Aside0.mk ((blk_cell (blk_new w (.cells #[.int .i64 n] 3)) 0).trans rfl : (w.alloc (.cells #[.int .i64 n] 3)).cell? ⟨w.heap.size, 0, none⟩ = some (.int .i64 n))
 have HB := Aside0.mk (below_alloc (Below.refl w.heap.size w) (.cells #[.int .i64 n] 3))
 have IC := Aside0.mk (fun W (h : Below w.heap.size w W) hx => indexP_calls w.heap.size n A c l W (Kd.C_below hr h) hc hx)
 have VC := Aside0.mk (fun W (h : Below w.heap.size w W) => validC_calls l A c W (Kd.C_below hr h) hc)
 clear hr
 go_enter Try.func26, Try.ntmps26
 go_wp2_with fail
 generalize w.alloc (.cells #[.int .i64 n] 3) = W1 at *
 with_reducible refine (IC.out _ HB.out HX.out).mono ?_
 rintro e w2 ⟨rfl, hb⟩
 have HB2 := Aside0.mk (below_step HB.out hb)
 have hx2 := (hb.cell (World.block_lt_of_cell? _ _ HX.out)).trans HX.out
 have HX2 := Aside0.mk hx2
 clear hb hx2 HX
 by_cases hi : idxP (hasB n) l 0 < 0
 · have d0 : decide (idxP (hasB n) l 0 < 0) = true := decide_eq_true hi
   have HE := Aside0.mk (atC_no (.inl hi))
   generalize idxP (hasB n) l 0 = i at *
   go_wp2
   go_ret2
   rw [HE.out]
   exact ⟨rfl, HB2.out⟩
 · have d0 : decide (idxP (hasB n) l 0 < 0) = false := decide_eq_false hi
   cases hv : validC l with
   | false =>
    rw [hv] at VC
    have HE := Aside0.mk (atC_no (.inr hv) : atC l n = (0, 1))
    generalize idxP (hasB n) l 0 = i at *
    go_wp2_with (go_at_call 42; with_reducible refine (VC.out _ HB2.out).mono ?_; rintro e w3 ⟨rfl, hb⟩; have HB3 := Aside0.mk (below_step HB2.out hb); clear hb)
    go_ret2
    rw [HE.out]
    exact ⟨rfl, HB3.out⟩
   | true =>
    rw [hv] at VC
    obtain ⟨h1, h2, h3⟩ := atC_hit hi hv
    obtain ⟨j0, j1, -⟩ := idx_hit hi
    obtain ⟨R1, R2, hR⟩ : ∃ a b, atC l n = (a, b) := ⟨_, _, rfl⟩
    rw [hR] at h1
    have HE := Aside0.mk hR
    clear hR
    have QC := Aside0.mk (fun W => quot_At.calls _ _ _ _ R1 R2 W h1)
    have HT := Aside0.mk (fun W (h : Below w.heap.size w W) => at_T57 (HR.out W h) _ j0 j1)
    generalize idxP (hasB n) l 0 = i at *
    generalize rd_T57 l i = p at *
    obtain ⟨pa, pb, qa, qb, qd⟩ := p
    dsimp only at *
    have ws : wrap64 (n - pa) = n - pa := wrap64_id (by omega) (by omega)
    clear h1 hv HR
    go_wp2_with (go_at_call 42; with_reducible refine (VC.out _ HB2.out).mono ?_; rintro e w3 ⟨rfl, hb⟩; have HB3 := Aside0.mk (below_step HB2.out hb); have hx3 := (hb.cell (World.block_lt_of_cell? _ _ HX2.out)).trans HX2.out; obtain ⟨ad, rfl, y0, y1, y2, y3, y4⟩ := HT.out _ HB3.out; clear hb)
    have ws2 : IntKind.i64.wrap (n - pa) = n - pa := IntWalk.i64_in _ (by omega)
    have hn3 := Aside0.mk (⟨y0, y2, y3, y4, hx3⟩ : w3.cell? (ad.add (i.toNat * 5)) = some (.int .i64 pa) ∧ w3.cell? ⟨(ad.add (i.toNat * 5)).block, (ad.add (i.toNat * 5)).off + 2, none⟩ = some (.int .i64 qa) ∧ w3.cell? ⟨(ad.add (i.toNat * 5)).block, (ad.add (i.toNat * 5)).off + 3, none⟩ = some (.int .i64 qb) ∧ w3.cell? ⟨(ad.add (i.toNat * 5)).block, (ad.add (i.toNat * 5)).off + 4, none⟩ = some (.int .i64 qd) ∧ w3.cell? ⟨w.heap.size, 0, none⟩ = some (.int .i64 n))
    go_region_held3 (fun w' => w'.cell? (ad.add (i.toNat * 5)) = some (.int .i64 pa) ∧ w'.cell? ⟨(ad.add (i.toNat * 5)).block, (ad.add (i.toNat * 5)).off + 2, none⟩ = some (.int .i64 qa) ∧ w'.cell? ⟨(ad.add (i.toNat * 5)).block, (ad.add (i.toNat * 5)).off + 3, none⟩ = some (.int .i64 qb) ∧ w'.cell? ⟨(ad.add (i.toNat * 5)).block, (ad.add (i.toNat * 5)).off + 4, none⟩ = some (.int .i64 qd) ∧ w'.cell? ⟨w.heap.size, 0, none⟩ = some (.int .i64 n))
     (first | exact hn3.out | go_keep | exact SK.out)
     (first | (go_at_call 43; with_reducible refine (QC.out _).mono ?_; rintro e w4 ⟨rfl, hb⟩; have HB4 := Aside0.mk (below_step (by repeat (first | (with_reducible exact HB3.out) | apply below_drew1 | apply pw_below_drewN)) hb); have hq : Below w3.heap.size w3 w4 := below_step (below_drew1 (Below.refl w3.heap.size w3)) hb; have SK := Aside0.mk (show w4.cell? (ad.add (i.toNat * 5)) = some (.int .i64 pa) ∧ w4.cell? ⟨(ad.add (i.toNat * 5)).block, (ad.add (i.toNat * 5)).off + 2, none⟩ = some (.int .i64 qa) ∧ w4.cell? ⟨(ad.add (i.toNat * 5)).block, (ad.add (i.toNat * 5)).off + 3, none⟩ = some (.int .i64 qb) ∧ w4.cell? ⟨(ad.add (i.toNat * 5)).block, (ad.add (i.toNat * 5)).off + 4, none⟩ = some (.int .i64 qd) ∧ w4.cell? ⟨w.heap.size, 0, none⟩ = some (.int .i64 n) from ⟨(hq.cell (World.block_lt_of_cell? w3 _ y0)).trans y0, (hq.cell (World.block_lt_of_cell? w3 _ y2)).trans y2, (hq.cell (World.block_lt_of_cell? w3 _ y3)).trans y3, (hq.cell (World.block_lt_of_cell? w3 _ y4)).trans y4, (hq.cell (World.block_lt_of_cell? w3 _ hx3)).trans hx3⟩); clear hb))
    go_wp2
    go_ret2
    rw [HE.out]
    exact ⟨rfl, HB4.out⟩
theorem curve_At.calls (A0 : Option Addr) (c0 : Nat) (l0 : List S57) (a1 : Int) (r1 r2 : Int) (w : World) (hr0 : Kd.C k57 w A0 l0.length l0) (hc0 : l0.length ≤ c0) (h : curve_At.f l0 a1 = some (r1, r2)) :
  Calls Try.prog 26 #[.slice A0 l0.length c0, .int .i64 a1] w fun e w' => e = .returned (.tuple #[.int .i64 r1, .int .i64 r2]) ∧ Below w.heap.size w w' := by
 have h1 := Option.some.inj h
 have h2 := at_calls A0 c0 l0 a1 w hr0 hc0
 rw [h1] at h2
 exact h2
end
end Go.Proofs.Ytdigjjncoeaiiaa.PAll
