/- Printed by a program of this session (wip/gprint.py) over the translation. Not trusted: Lean checks it. -/
import Derived.Test.YtffmflmpiekcfaaDoorPAlld0
import Derived.Test.YtffmflmpiekcfaaDoorPAllw3
import Derived.Test.YtffmflmpiekcfaaDoorPAllw4
import Derived.Test.YtffmflmpiekcfaaDoorPAllw5
namespace Go.Proofs.YtffmflmpiekcfaaDoor.PAll
open Go.RowKit Go.Proofs.YtffmflmpiekcfaaDoorW.PrintWords Go.Proofs.YtffmflmpiekcfaaDoorW.PrintLast Go.Proofs.YtffmflmpiekcfaaDoorW.PrintMore
attribute [local go_sem] max2_int min2_int max_two min_two max_three min_three max_four min_four   -- for this text's walks alone
set_option linter.unusedVariables false
set_option linter.unusedSimpArgs false

open Go.Shelf
set_option maxHeartbeats 4000000 in
set_option maxRecDepth 100000 in
theorem path_calls : ∀ (f : Nat) (A0 : Option Addr) (c0 : Nat) (l0 : List Int) (i : Int) (w : World) (g : Nat), l0.length ≤ f → f ≤ 1000000000 → 1 ≤ l0.length → 0 ≤ i → i < l0.length → Kd.C (Kd.int .u64) w A0 l0.length l0 → l0.length ≤ c0 → Tab w → w.heap[g]? = some (selfFn g) →
    Calls Tryd.prog 35 #[.slice A0 l0.length c0, .int .i64 i, .pointer (some ⟨g, 0, none⟩)] w fun e w' => ∃ v, e = .returned v ∧ Kd.R (Kd.int .u64) 23 w' w.heap.size (fun _ => True) v (pathF f l0 i) ∧ Below w.heap.size w w' := by
  intro f
  induction f with
  | zero => intro A0 c0 l0 i w g h1 h2 h3; omega
  | succ f ih =>
    intro A0 c0 l0 i w g hf hf2 h1 hi0 hi1 hr0 hc0 hT hg
    have HT := Aside0.mk hT
    have HR := Aside0.mk hr0
    have HG := Aside0.mk hg
    clear hT hr0 hg
    by_cases hone : l0.length = 1
    · have hone' : ((l0.length : Int) == 1) = true := by simp; omega
      have e1 : pathF (f + 1) l0 i = [] := by simp [pathF, hone]
      rw [e1]
      clear ih
      go_enter Tryd.func35, Tryd.ntmps35
      go_wp2_with fail
      go_ret
      exact ⟨_, rfl, Kd.R_nil _ _ _ _ _, Below.refl _ _⟩
    · have h2 : 2 ≤ l0.length := by omega
      have hp := fun W => parts_calls A0 c0 l0 W hc0 h2 (by omega)
      have hsp := halfP_spec h2
      have hl1 : (l0.take (halfP l0.length)).length = halfP l0.length := by rw [List.length_take]; omega
      have hl2 : (l0.drop (halfP l0.length)).length = l0.length - halfP l0.length := List.length_drop
      have hlc : (l0.take (halfP l0.length)).length ≤ halfP l0.length := by omega
      have i1 := fun (h : i < halfP l0.length) A c W => ih A c (l0.take (halfP l0.length)) i W g (by omega) (by omega) (by omega) hi0 (by omega)
      have i2 := fun (h : ¬ i < halfP l0.length) A c W => ih A c (l0.drop (halfP l0.length)) (i - halfP l0.length) W g (by omega) (by omega) (by omega) (by omega) (by omega)
      have r1 := fun A c W => root_calls (l0.take (halfP l0.length)).length A c (l0.take (halfP l0.length)) W (Nat.le_refl _) (by omega) (by omega)
      have r2 := fun A c W => root_calls (l0.drop (halfP l0.length)).length A c (l0.drop (halfP l0.length)) W (Nat.le_refl _) (by omega) (by omega)
      have hone' : ((l0.length : Int) == 1) = false := by simp; omega
      have hpl1 := pathF_len f (l0.take (halfP l0.length)) i
      have hpl2 := pathF_len f (l0.drop (halfP l0.length)) (i - halfP l0.length)
      have hwr : ¬ i < halfP l0.length → wrap64 (i - halfP l0.length) = i - halfP l0.length := fun h => Go.Proofs.YtffmflmpiekcfaaDoorGlib.wrap64_id (by omega) (by omega)
      by_cases hlt : i < halfP l0.length
      · have e1 : pathF (f + 1) l0 i = pathF f (l0.take (halfP l0.length)) i ++ [rootP (l0.drop (halfP l0.length))] := by simp [pathF, hone, hlt]
        rw [e1]
        unfold rootP
        have I1 := Aside0.mk (i1 hlt)
        have R2 := Aside0.mk r2
        have P1 := Aside0.mk hp
        have hlt' : i < ((l0.take (halfP l0.length)).length : Int) := by omega
        have HPL := Aside0.mk hpl1
        clear hp i1 i2 r1 r2 ih hl1 hl2 e1 hpl1 hpl2 hwr
        generalize rootF (l0.drop (halfP l0.length)).length (l0.drop (halfP l0.length)) = rb at R2 ⊢
        generalize pathF f (l0.take (halfP l0.length)) i = pa at I1 HPL ⊢
        generalize hta : l0.take (halfP l0.length) = la at P1 I1 hlc hlt'
        generalize htb : l0.drop (halfP l0.length) = lb at P1 R2
        clear hta htb
        have hd1 : decide (i < (la.length : Int)) = true := decide_eq_true hlt'
        go_enter Tryd.func35, Tryd.ntmps35
        go_wp2_with (first
          | (go_at_call 36; refine (P1.out _).mono ?_; rintro e w1 ⟨A2, rfl, hC, hcb, hd⟩
             have HB := Aside0.mk (show Below w.heap.size w w1 by obtain ⟨nd, rfl⟩ := hd; exact pw_below_drewN (Below.refl w.heap.size w) nd)
             have CA := Aside0.mk (hC _ (Kd.C_below HR.out HB.out)).1
             have CB := Aside0.mk (hC _ (Kd.C_below HR.out HB.out)).2
             have HG1 := Aside0.mk (blk_below HG.out HB.out)
             have HCB := Aside0.mk hcb
             have hcg : w1.cell? ⟨g, 0, none⟩ = some (.func (Fn.func 35) #[] #[.pointer (some ⟨g, 0, none⟩)]) := (blk_cell HG1.out 0).trans rfl
             clear hC hcb hd)
          | (with_reducible refine (I1.out _ _ _ CA.out hlc (HT.out.below HB.out) HG1.out).mono ?_
             rintro e w2 ⟨v, rfl, hR, hb⟩))
        have HO := Aside0.mk (Kd.R_lower hR HB.out.size)
        have CO2 := Aside0.mk (Kd.C_below CB.out hb)
        have HB2 := Aside0.mk (below_then HB.out HB.out.size hb)
        clear hR hb hcg
        go_wp2_with (first
          | (go_at_call 33; with_reducible refine (R2.out _ _ _ CO2.out HCB.out (HT.out.below HB2.out)).mono ?_; rintro e w3 ⟨rfl, hb⟩
             have HO3 := Aside0.mk (Kd.R_below HO.out hb)
             have HB3 := Aside0.mk (below_then HB2.out HB2.out.size hb)
             clear hb)
          | (refine gate_builtin (b := .append) (xs := #[.tmp 23, .tmp 26]) rfl ?_; at_builtin
             refine Kd.R_append (Kd.int .u64) (w0 := w) w.heap.size rfl (.tmp 23) (.tmp 26) 25 23 (.int .u64 0) 8 rfl Tryd.underlying25 info23 rfl (by decide) (by omega) v pa rb [.int .u64 rb] (fun _ => True) (fun _ => False) rfl rfl rfl (fun _ hk => hk.elim) (fun _ _ => trivial) HO3.out HB3.out HB3.out.size (by have := HPL.out; omega) ?_
             intro v1 w4 ho hb _ _))
        go_ret
        exact ⟨_, rfl, ho, hb⟩
      · have e1 : pathF (f + 1) l0 i = pathF f (l0.drop (halfP l0.length)) (i - halfP l0.length) ++ [rootP (l0.take (halfP l0.length))] := by simp [pathF, hone, hlt]
        rw [e1]
        unfold rootP
        have i2' := i2 hlt
        have e5 : i - (halfP l0.length : Int) = i - ((l0.take (halfP l0.length)).length : Int) := by rw [hl1]
        have R2 := Aside0.mk r1
        have P1 := Aside0.mk hp
        have hlt' : ¬ i < ((l0.take (halfP l0.length)).length : Int) := by omega
        generalize pathF f (l0.drop (halfP l0.length)) (i - halfP l0.length) = pa at i2' hpl2 ⊢
        rw [e5] at i2'
        have I1 := Aside0.mk i2'
        have HPL := Aside0.mk hpl2
        clear hp i1 i2 i2' r1 r2 ih hl1 hl2 e1 e5 hpl1 hpl2 hwr
        generalize rootF (l0.take (halfP l0.length)).length (l0.take (halfP l0.length)) = rb at R2 ⊢
        generalize hta : l0.take (halfP l0.length) = la at P1 I1 R2 hlc hlt'
        generalize htb : l0.drop (halfP l0.length) = lb at P1 I1
        clear hta htb
        have hd1 : decide (i < (la.length : Int)) = false := decide_eq_false hlt'
        go_enter Tryd.func35, Tryd.ntmps35
        go_wp2_with (first
          | (go_at_call 36; refine (P1.out _).mono ?_; rintro e w1 ⟨A2, rfl, hC, hcb, hd⟩
             have HB := Aside0.mk (show Below w.heap.size w w1 by obtain ⟨nd, rfl⟩ := hd; exact pw_below_drewN (Below.refl w.heap.size w) nd)
             have CA := Aside0.mk (hC _ (Kd.C_below HR.out HB.out)).1
             have CB := Aside0.mk (hC _ (Kd.C_below HR.out HB.out)).2
             have HG1 := Aside0.mk (blk_below HG.out HB.out)
             have HCB := Aside0.mk hcb
             have hcg : w1.cell? ⟨g, 0, none⟩ = some (.func (Fn.func 35) #[] #[.pointer (some ⟨g, 0, none⟩)]) := (blk_cell HG1.out 0).trans rfl
             clear hC hcb hd)
          | (with_reducible refine (I1.out _ _ _ CB.out HCB.out (HT.out.below HB.out) HG1.out).mono ?_
             rintro e w2 ⟨v, rfl, hR, hb⟩))
        have HO := Aside0.mk (Kd.R_lower hR HB.out.size)
        have CO2 := Aside0.mk (Kd.C_below CA.out hb)
        have HB2 := Aside0.mk (below_then HB.out HB.out.size hb)
        clear hR hb hcg
        go_wp2_with (first
          | (go_at_call 33; with_reducible refine (R2.out _ _ _ CO2.out hlc (HT.out.below HB2.out)).mono ?_; rintro e w3 ⟨rfl, hb⟩
             have HO3 := Aside0.mk (Kd.R_below HO.out hb)
             have HB3 := Aside0.mk (below_then HB2.out HB2.out.size hb)
             clear hb)
          | (refine gate_builtin (b := .append) (xs := #[.tmp 34, .tmp 37]) rfl ?_; at_builtin
             refine Kd.R_append (Kd.int .u64) (w0 := w) w.heap.size rfl (.tmp 34) (.tmp 37) 25 23 (.int .u64 0) 8 rfl Tryd.underlying25 info23 rfl (by decide) (by omega) v pa rb [.int .u64 rb] (fun _ => True) (fun _ => False) rfl rfl rfl (fun _ hk => hk.elim) (fun _ _ => trivial) HO3.out HB3.out HB3.out.size (by have := HPL.out; omega) ?_
             intro v1 w4 ho hb _ _))
        go_ret
        exact ⟨_, rfl, ho, hb⟩
theorem digest_Path.calls (A0 : Option Addr) (c0 : Nat) (l0 : List Int) (a1 : Int) (r1 : List Int) (r2 : Int) (w : World) (hr0 : Kd.C (Kd.int .u64) w A0 l0.length l0) (hc0 : l0.length ≤ c0) (h : digest_Path.f l0 a1 = some (r1, r2)) (hT : Tab w) :
    Calls Tryd.prog 18 #[.slice A0 l0.length c0, .int .i64 a1] w fun e w' => ∃ v0_ : Value, e = .returned (.tuple #[v0_, .int .i64 r2]) ∧ Kd.R (Kd.int .u64) 23 w' w.heap.size (fun _ => True) v0_ r1 ∧ Below w.heap.size w w' := by
  unfold digest_Path.f at h
  have HR := Aside0.mk hr0
  have HT := Aside0.mk hT
  by_cases hbig : l0.length > 10000
  · rw [if_pos hbig] at h
    obtain ⟨rfl, rfl⟩ := Prod.mk.inj (Option.some.inj h)
    have CK := Aside0.mk (digest_check.calls A0 c0 l0 2 w hr0 hc0 (by unfold digest_check.f; rw [if_pos (by omega)]))
    clear hr0 hT h
    go_enter Tryd.func18, Tryd.ntmps18
    go_wp2_with (go_at_call 32; with_reducible refine CK.out.mono ?_; rintro e w1 ⟨rfl, ⟨nd, rfl⟩⟩)
    go_ret2
    exact ⟨_, rfl, Kd.R_nil _ _ _ _ _, pw_below_drewN (Below.refl _ _) _⟩
  rw [if_neg hbig] at h
  by_cases hz : l0.length = 0
  · rw [if_pos hz] at h
    obtain ⟨rfl, rfl⟩ := Prod.mk.inj (Option.some.inj h)
    have CK := Aside0.mk (digest_check.calls A0 c0 l0 1 w hr0 hc0 (by unfold digest_check.f; rw [if_neg (by omega), if_pos (by omega)]))
    clear hr0 hT h hz hbig
    go_enter Tryd.func18, Tryd.ntmps18
    go_wp2_with (go_at_call 32; with_reducible refine CK.out.mono ?_; rintro e w1 ⟨rfl, ⟨nd, rfl⟩⟩)
    go_ret2
    exact ⟨_, rfl, Kd.R_nil _ _ _ _ _, pw_below_drewN (Below.refl _ _) _⟩
  rw [if_neg hz] at h
  have CK := Aside0.mk (digest_check.calls A0 c0 l0 0 w hr0 hc0 (by unfold digest_check.f; rw [if_neg (by omega), if_neg (by omega)]))
  by_cases hin : 0 ≤ a1 ∧ a1 < l0.length
  · rw [if_pos hin] at h
    obtain ⟨rfl, rfl⟩ := Prod.mk.inj (Option.some.inj h)
    have PC := Aside0.mk (fun W g hr hT hg => path_calls l0.length A0 c0 l0 a1 W g (Nat.le_refl _) (by omega) (by omega) hin.1 hin.2 hr hc0 hT hg)
    have hb1 : decide (a1 < 0) = false := by simp; omega
    have hb2 : decide ((l0.length : Int) ≤ a1) = false := by simp; omega
    generalize pathF l0.length l0 a1 = pa at PC ⊢
    clear hr0 hT h
    go_enter Tryd.func18, Tryd.ntmps18
    go_wp2_with (first
      | (go_at_call 32; with_reducible refine CK.out.mono ?_; rintro e w1 ⟨rfl, hd⟩
         have HB := Aside0.mk (show Below w.heap.size w w1 by obtain ⟨nd, rfl⟩ := hd; exact pw_below_drewN (Below.refl w.heap.size w) nd)
         clear hd)
      | ((refine (PC.out _ w1.heap.size (Kd.C_below HR.out (below_alloc HB.out _)) (HT.out.below (below_alloc HB.out _)) (blk_new _ _)).mono ?_)
         rintro e w2 ⟨v, rfl, hR, hb⟩))
    go_ret2
    exact ⟨_, rfl, Kd.R_lower hR (by have := HB.out.size; simp; omega), below_then (below_alloc HB.out _) (by have := HB.out.size; simp; omega) hb⟩
  · rw [if_neg hin] at h
    obtain ⟨rfl, rfl⟩ := Prod.mk.inj (Option.some.inj h)
    clear hr0 hT h
    by_cases hneg : a1 < 0
    · have hb1 : decide (a1 < 0) = true := by simpa using hneg
      go_enter Tryd.func18, Tryd.ntmps18
      go_wp2_with (go_at_call 32; with_reducible refine CK.out.mono ?_; rintro e w1 ⟨rfl, ⟨nd, rfl⟩⟩)
      go_ret2
      exact ⟨_, rfl, Kd.R_nil _ _ _ _ _, pw_below_drewN (Below.refl _ _) _⟩
    · have hb1 : decide (a1 < 0) = false := by simpa using hneg
      have hb2 : decide ((l0.length : Int) ≤ a1) = true := by simp; omega
      go_enter Tryd.func18, Tryd.ntmps18
      go_wp2_with (go_at_call 32; with_reducible refine CK.out.mono ?_; rintro e w1 ⟨rfl, ⟨nd, rfl⟩⟩)
      go_ret2
      exact ⟨_, rfl, Kd.R_nil _ _ _ _ _, pw_below_drewN (Below.refl _ _) _⟩

end Go.Proofs.YtffmflmpiekcfaaDoor.PAll
