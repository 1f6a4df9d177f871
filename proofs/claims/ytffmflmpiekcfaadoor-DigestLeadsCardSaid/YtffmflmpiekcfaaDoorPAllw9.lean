/- Printed by a program of this session (wip/gprint.py) over the translation. Not trusted: Lean checks it. -/
import Derived.Test.YtffmflmpiekcfaaDoorPAlld0
import Derived.Test.YtffmflmpiekcfaaDoorPAllw3
namespace Go.Proofs.YtffmflmpiekcfaaDoor.PAll
open Go.RowKit Go.Proofs.YtffmflmpiekcfaaDoorW.PrintWords Go.Proofs.YtffmflmpiekcfaaDoorW.PrintLast Go.Proofs.YtffmflmpiekcfaaDoorW.PrintMore
attribute [local go_sem] max2_int min2_int max_two min_two max_three min_three max_four min_four   -- for this text's walks alone
set_option linter.unusedVariables false
set_option linter.unusedSimpArgs false

open Go.Shelf
theorem half_calls {n : Nat} (h1 : 1 ≤ n) (h2 : n ≤ 1000000000) (w : World) : Calls Tryd.prog 39 #[.int .i64 (n : Int)] w fun e w' => e = .returned (.int .i64 (halfP n : Int)) ∧ Drawn0 w w' := by
  obtain ⟨K, hK⟩ := (half_ev h1 h2).rounds
  exact digest_half.calls K _ _ w hK
set_option maxHeartbeats 4000000 in
set_option maxRecDepth 100000 in
theorem follow_calls : ∀ (f : Nat) (d : Int) (A : Option Addr) (c : Nat) (p : List Int) (i : Int) (n : Nat) (w : World) (gd gf : Nat), n ≤ f → f ≤ 1000000000 → 1 ≤ n → 0 ≤ i → i < n → p.length ≤ 1000000000 → Kd.C (Kd.int .u64) w A p.length p → p.length ≤ c → Tab w → w.heap[gd]? = some (.cells #[.int .u64 d] 23 (0, 0)) → w.heap[gf]? = some (followFn gd gf) →
    Calls Tryd.prog 38 #[.int .i64 i, .int .i64 (n : Int), .slice A p.length c, .pointer (some ⟨gd, 0, none⟩), .pointer (some ⟨gf, 0, none⟩)] w fun e w' => e = .returned (.tuple #[.int .u64 (followF f d i n p).1, .bool (followF f d i n p).2]) ∧ Below w.heap.size w w' := by
  intro f
  induction f with
  | zero => intro d A c p i n w gd gf h1 h2 h3; omega
  | succ f ih =>
    intro d A c p i n w gd gf hf hf2 h1 hi0 hi1 hpl hr0 hc0 hT hgd hgf
    have HT := Aside0.mk hT
    have HR := Aside0.mk hr0
    have HD := Aside0.mk hgd
    have HF := Aside0.mk hgf
    clear hT hr0 hgd hgf
    by_cases hone : n = 1
    · subst hone
      obtain ⟨KN, hk⟩ := (next_ev (l := [0]) (by decide) zero_ok d).rounds
      have NX := Aside0.mk (fun W A c hr hc hT => digest_Next.calls KN d A c [0] _ W hr hc hk hT)
      have e1 : followF (f + 1) d i 1 p = (leafP d, decide (p.length = 0)) := by simp [followF]
      rw [e1]
      have hz : decide (p.length = 0) = ((p.length : Int) == 0) := by
        by_cases hp0 : p.length = 0
        · rw [hp0]; rfl
        · rw [decide_eq_false hp0]; symm; simp only [beq_eq_false_iff_ne, ne_eq]; omega
      rw [hz]
      have hcd : w.cell? ⟨gd, 0, none⟩ = some (.int .u64 d) := (blk_cell HD.out 0).trans rfl
      clear ih e1 hk
      go_enter Tryd.func38, Tryd.ntmps38
      go_wp2_with (go_at_call 12; refine (NX.out _ _ _ (C_lit (blk_new _ _)) (by decide) (HT.out.below (below_alloc (Below.refl _ _) _))).mono ?_; rintro e w1 ⟨rfl, hb⟩)
      go_ret2
      refine ⟨?_, below_then (below_alloc (Below.refl _ _) _) (by simp) hb⟩
      rfl
    · have hone' : ((n : Int) == 1) = false := by simp; omega
      by_cases hemp : p.length = 0
      · have e1 : followF (f + 1) d i n p = (0, false) := by simp [followF, hone, hemp]
        rw [e1]
        have hz : ((p.length : Int) == 0) = true := by rw [hemp]; rfl
        clear ih e1 hemp
        go_enter Tryd.func38, Tryd.ntmps38
        go_wp2_with fail
        go_ret2
        exact ⟨rfl, Below.refl _ _⟩
      · have hz : ((p.length : Int) == 0) = false := by simp only [beq_eq_false_iff_ne, ne_eq]; omega
        have h2 : 2 ≤ n := by omega
        have hsp := halfP_spec h2
        have hlen1 : (1 : Int) ≤ (p.length : Int) := by omega
        have hlen2 : (p.length : Int) ≤ 1000000000 := by omega
        have hm1 : ((p.length : Int) - 1).toNat = p.length - 1 := by omega
        have hw : IntKind.i64.wrap ((p.length : Int) - 1) = (p.length : Int) - 1 := (i64_w _).trans (Go.Proofs.YtffmflmpiekcfaaDoorGlib.wrap64_id (by omega) (by omega))
        have p1 : 0 ≤ (p.length : Int) - 1 := by omega
        have q1 : (p.length : Int) - 1 < (p.length : Int) := by omega
        obtain ⟨i0, hi0', _, hsz, _⟩ := info_parts info23
        obtain ⟨hcut, hA1, hC1⟩ := print_take_of (P := Tryd.prog) (Value.int .u64) 0 25 23 .i64 Tryd.underlying25 hi0' hsz A c p ((p.length : Int) - 1) (by omega) (by omega) (by omega)
        obtain ⟨ad, ea, hx⟩ := Kd.at_int HR.out ((p.length : Int) - 1) (by omega) (by omega)
        subst ea
        rw [hm1] at hx
        rw [hm1] at hA1 hC1
        have hq : (p.take (p.length - 1)).length = p.length - 1 := by rw [List.length_take]; omega
        have HALF := Aside0.mk (fun W => half_calls (n := n) (by omega) (by omega) W)
        have hcf : w.cell? ⟨gf, 0, none⟩ = some (.func (Fn.func 38) #[] #[.pointer (some ⟨gd, 0, none⟩), .pointer (some ⟨gf, 0, none⟩)]) := (blk_cell HF.out 0).trans rfl
        have cq : Kd.C (Kd.int .u64) w (some ad) (p.take (p.length - 1)).length (p.take (p.length - 1)) := Kd.C_of_reads (h1 := fun _ => rfl) (hA1 _ (Kd.reads_of_C HR.out))
        have hcut0 := hcut
        by_cases hlt : i < halfP n
        · have e1 : followF (f + 1) d i n p = (pairP (followF f d i (halfP n) (p.take (p.length - 1))).1 (rd p ((p.length : Int) - 1)), (followF f d i (halfP n) (p.take (p.length - 1))).2) := by simp [followF, hone, hemp, hlt]
          rw [e1]
          have i1 := fun W hr hc hT hd hf => ih d (some ad) c (p.take (p.length - 1)) i (halfP n) W gd gf (by omega) (by omega) (by omega) hi0 hlt (by omega) hr hc hT hd hf
          rw [hq] at i1 cq
          generalize followF f d i (halfP n) (p.take (p.length - 1)) = r at i1 ⊢
          generalize p.take (p.length - 1) = q at i1 cq hA1
          obtain ⟨KP, hk⟩ := (pair_ev r.1 (rd p ((p.length : Int) - 1))).rounds
          have PR := Aside0.mk (fun W => digest_Pair.calls KP _ _ _ W hk)
          have I1 := Aside0.mk i1
          have CQ := Aside0.mk cq
          have hlt' : decide (i < (halfP n : Int)) = true := decide_eq_true hlt
          clear ih i1 cq hk e1 hq
          clear hemp hA1 hcut0
          go_enter Tryd.func38, Tryd.ntmps38
          go_wp2_with fail
          go_region_law (go_simp; go_at_call 39; refine (HALF.out _).mono ?_; rintro e w1 ⟨rfl, ⟨nd, rfl⟩⟩; simp only [])
          all_goals
            go_simp
            go_wp2_with (first
              | ((with_reducible refine (I1.out _ (Kd.C_below CQ.out (pw_below_drewN (Below.refl w.heap.size w) _)) (by omega) (HT.out.below (pw_below_drewN (Below.refl w.heap.size w) _)) (blk_below HD.out (pw_below_drewN (Below.refl w.heap.size w) _)) (blk_below HF.out (pw_below_drewN (Below.refl w.heap.size w) _))).mono ?_)
                 rintro e w2 ⟨rfl, hb⟩
                 have HB2 := Aside0.mk (below_then (pw_below_drewN (Below.refl w.heap.size w) _) (by simp) hb)
                 clear hb)
              | (go_at_call 14; with_reducible refine (PR.out _).mono ?_; rintro e w3 ⟨rfl, hb⟩))
            go_ret2
            exact ⟨rfl, below_then HB2.out HB2.out.size hb⟩
        · have e1 : followF (f + 1) d i n p = (pairP (rd p ((p.length : Int) - 1)) (followF f d (i - halfP n) (n - halfP n) (p.take (p.length - 1))).1, (followF f d (i - halfP n) (n - halfP n) (p.take (p.length - 1))).2) := by simp [followF, hone, hemp, hlt]
          rw [e1]
          have i1 := fun W hr hc hT hd hf => ih d (some ad) c (p.take (p.length - 1)) (i - halfP n) (n - halfP n) W gd gf (by omega) (by omega) (by omega) (by omega) (by omega) (by omega) hr hc hT hd hf
          rw [hq] at i1 cq
          have en : ((n - halfP n : Nat) : Int) = (n : Int) - (halfP n : Int) := by omega
          rw [en] at i1
          generalize followF f d (i - halfP n) (n - halfP n) (p.take (p.length - 1)) = r at i1 ⊢
          generalize p.take (p.length - 1) = q at i1 cq hA1
          obtain ⟨KP, hk⟩ := (pair_ev (rd p ((p.length : Int) - 1)) r.1).rounds
          have PR := Aside0.mk (fun W => digest_Pair.calls KP _ _ _ W hk)
          have I1 := Aside0.mk i1
          have CQ := Aside0.mk cq
          have hlt' : decide (i < (halfP n : Int)) = false := decide_eq_false hlt
          clear ih i1 cq hk e1 hq en
          clear hemp hA1 hcut0
          go_enter Tryd.func38, Tryd.ntmps38
          go_wp2_with fail
          go_region_law (go_simp; go_at_call 39; refine (HALF.out _).mono ?_; rintro e w1 ⟨rfl, ⟨nd, rfl⟩⟩; simp only [])
          all_goals
            go_simp
            go_wp2_with (first
              | ((with_reducible refine (I1.out _ (Kd.C_below CQ.out (pw_below_drewN (Below.refl w.heap.size w) _)) (by omega) (HT.out.below (pw_below_drewN (Below.refl w.heap.size w) _)) (blk_below HD.out (pw_below_drewN (Below.refl w.heap.size w) _)) (blk_below HF.out (pw_below_drewN (Below.refl w.heap.size w) _))).mono ?_)
                 rintro e w2 ⟨rfl, hb⟩
                 have HB2 := Aside0.mk (below_then (pw_below_drewN (Below.refl w.heap.size w) _) (by simp) hb)
                 clear hb)
              | (go_at_call 14; with_reducible refine (PR.out _).mono ?_; rintro e w3 ⟨rfl, hb⟩))
            go_ret2
            exact ⟨rfl, below_then HB2.out HB2.out.size hb⟩

end Go.Proofs.YtffmflmpiekcfaaDoor.PAll
