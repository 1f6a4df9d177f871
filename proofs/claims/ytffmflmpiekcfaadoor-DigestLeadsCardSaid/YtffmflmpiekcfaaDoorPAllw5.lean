/- Printed by a program of this session (wip/gprint.py) over the translation. Not trusted: Lean checks it. -/
import Derived.Test.YtffmflmpiekcfaaDoorPAlld0
import Derived.Test.YtffmflmpiekcfaaDoorPAllw3
import Derived.Test.YtffmflmpiekcfaaDoorPAllw4
namespace Go.Proofs.YtffmflmpiekcfaaDoor.PAll
open Go.RowKit Go.Proofs.YtffmflmpiekcfaaDoorW.PrintWords Go.Proofs.YtffmflmpiekcfaaDoorW.PrintLast Go.Proofs.YtffmflmpiekcfaaDoorW.PrintMore
attribute [local go_sem] max2_int min2_int max_two min_two max_three min_three max_four min_four   -- for this text's walks alone
set_option linter.unusedVariables false
set_option linter.unusedSimpArgs false

open Go.Proofs.YtffmflmpiekcfaaDoorGlib
set_option maxHeartbeats 4000000 in
set_option maxRecDepth 100000 in
theorem root_calls : ∀ (f : Nat) (A0 : Option Addr) (c0 : Nat) (l0 : List Int) (w : World), l0.length ≤ f → 1 ≤ l0.length → l0.length ≤ 1000000000 → Kd.C (Kd.int .u64) w A0 l0.length l0 → l0.length ≤ c0 → Tab w →
    Calls Tryd.prog 33 #[.slice A0 l0.length c0] w fun e w' => e = .returned (.int .u64 (rootF f l0)) ∧ Below w.heap.size w w' := by
  intro f
  induction f with
  | zero => intro A0 c0 l0 w h1 h2; omega
  | succ f ih =>
    intro A0 c0 l0 w hf h1 hn hr0 hc0 hT
    have HT := Aside0.mk hT
    have HR := Aside0.mk hr0
    by_cases hone : l0.length = 1
    · obtain ⟨KN, hk⟩ := (next_ev (l := [0]) (by decide) zero_ok (rd l0 0)).rounds
      have hnx := fun W A c hr hc hT => digest_Next.calls KN (rd l0 0) A c [0] _ W hr hc hk hT
      obtain ⟨ad, e, hx⟩ := Kd.at_int hr0 0 (by omega) (by omega)
      cases e
      rw [show ((0 : Int)).toNat = 0 from rfl, Addr.add_zero'] at hx
      have e1 : rootF (f + 1) l0 = nextP (rd l0 0) [0] := by simp [rootF, hone, leafP]
      rw [e1]
      clear ih hr0 hk hT
      go_enter Tryd.func33, Tryd.ntmps33
      go_wp2_with (go_at_call 12; refine (hnx _ _ _ (C_lit (blk_new _ _)) (by decide) (HT.out.below (below_alloc (Below.refl _ _) _))).mono ?_; rintro e w1 ⟨rfl, hb⟩)
      go_ret
      exact ⟨rfl, below_then (below_alloc (Below.refl _ _) _) (by simp) hb⟩
    · have h2 : 2 ≤ l0.length := by omega
      have hp := fun W => parts_calls A0 c0 l0 W hc0 h2 hn
      have hsp := halfP_spec h2
      have hl1 : (l0.take (halfP l0.length)).length = halfP l0.length := by rw [List.length_take]; omega
      have hl2 : (l0.drop (halfP l0.length)).length = l0.length - halfP l0.length := List.length_drop
      have i1 := fun A c W => ih A c (l0.take (halfP l0.length)) W (by omega) (by omega) (by omega)
      have i2 := fun A c W => ih A c (l0.drop (halfP l0.length)) W (by omega) (by omega) (by omega)
      have hlc : (l0.take (halfP l0.length)).length ≤ halfP l0.length := by omega
      obtain ⟨KP, hk⟩ := (pair_ev (rootF f (l0.take (halfP l0.length))) (rootF f (l0.drop (halfP l0.length)))).rounds
      have hpr := fun W => digest_Pair.calls KP _ _ _ W hk
      have e1 : rootF (f + 1) l0 = pairP (rootF f (l0.take (halfP l0.length))) (rootF f (l0.drop (halfP l0.length))) := by simp [rootF, hone]
      rw [e1]
      have hone' : ((l0.length : Int) == 1) = false := by simp; omega
      have P1 := Aside0.mk hp
      have I1 := Aside0.mk i1
      have I2 := Aside0.mk i2
      have PR := Aside0.mk hpr
      clear hp i1 i2 hpr ih hk hl1 hl2 e1
      generalize rootF f (l0.take (halfP l0.length)) = ra at I1 PR ⊢
      generalize rootF f (l0.drop (halfP l0.length)) = rb at I2 PR ⊢
      generalize hta : l0.take (halfP l0.length) = la at P1 I1 hlc
      generalize htb : l0.drop (halfP l0.length) = lb at P1 I2
      clear hta htb
      go_enter Tryd.func33, Tryd.ntmps33
      go_wp2_with (go_at_call 36; refine (P1.out _).mono ?_; rintro e w1 ⟨A2, rfl, hC, hcb, ⟨nd, rfl⟩⟩)
      have CA := Aside0.mk (hC _ (Kd.C_below HR.out (pw_below_drewN (Below.refl w.heap.size w) nd))).1
      have CB := Aside0.mk (hC _ (Kd.C_below HR.out (pw_below_drewN (Below.refl w.heap.size w) nd))).2
      have HB := Aside0.mk (pw_below_drewN (Below.refl w.heap.size w) nd)
      have HCB := Aside0.mk hcb
      clear hC hcb
      go_wp2_with (go_at_call 33; with_reducible refine (I1.out _ _ _ CA.out hlc (HT.out.below HB.out)).mono ?_; rintro e w2 ⟨rfl, hb⟩)
      have CB2 := Aside0.mk (Kd.C_below CB.out hb)
      have HB2 := Aside0.mk (below_then HB.out HB.out.size hb)
      clear hb
      go_wp2_with (go_at_call 33; with_reducible refine (I2.out _ _ _ CB2.out HCB.out (HT.out.below HB2.out)).mono ?_; rintro e w3 ⟨rfl, hb⟩)
      have HB3 := Aside0.mk (below_then HB2.out HB2.out.size hb)
      clear hb
      go_wp2_with (go_at_call 14; refine (PR.out _).mono ?_; rintro e w4 ⟨rfl, hb⟩)
      go_ret
      exact ⟨rfl, below_then HB3.out HB3.out.size hb⟩
theorem digest_root.calls (A0 : Option Addr) (c0 : Nat) (l0 : List Int) (r : Int) (w : World) (hr0 : Kd.C (Kd.int .u64) w A0 l0.length l0) (hc0 : l0.length ≤ c0) (h : digest_root.f l0 = some r) (hT : Tab w) :
    Calls Tryd.prog 33 #[.slice A0 l0.length c0] w fun e w' => e = .returned (.int .u64 r) ∧ Below w.heap.size w w' := by
  unfold digest_root.f at h
  split at h
  case isFalse => cases h
  rename_i hh
  obtain rfl := Option.some.inj h
  exact root_calls l0.length A0 c0 l0 w (Nat.le_refl _) hh.1 hh.2 hr0 hc0 hT

end Go.Proofs.YtffmflmpiekcfaaDoor.PAll
