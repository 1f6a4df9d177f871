/- Printed by a program of this session (wip/gprint.py) over the translation. Not trusted: Lean checks it. -/
import Derived.Test.YtffmflmpiekcfaaDoorPAlld0
import Derived.Test.YtffmflmpiekcfaaDoorPAllw3
namespace Go.Proofs.YtffmflmpiekcfaaDoor.PAll
open Go.RowKit Go.Proofs.YtffmflmpiekcfaaDoorW.PrintWords Go.Proofs.YtffmflmpiekcfaaDoorW.PrintLast Go.Proofs.YtffmflmpiekcfaaDoorW.PrintMore
attribute [local go_sem] max2_int min2_int max_two min_two max_three min_three max_four min_four   -- for this text's walks alone
set_option linter.unusedVariables false
set_option linter.unusedSimpArgs false

open Go.Proofs.YtffmflmpiekcfaaDoorGlib
set_option maxHeartbeats 4000000 in
set_option maxRecDepth 100000 in
theorem digest_parts.calls (K : Nat) (A0 : Option Addr) (c0 : Nat) (l0 : List Int) (t : Nat) (w : World) (hc0 : l0.length ≤ c0) (ht : t ≤ l0.length) (h : digest_half.f K (l0.length : Int) = some (t : Int)) :
    Calls Tryd.prog 36 #[.slice A0 l0.length c0] w fun e w' => ∃ A2, e = .returned (.tuple #[.slice A0 (l0.take t).length t, .slice A2 (l0.drop t).length (c0 - t)]) ∧ (∀ w1, Kd.C (Kd.int .u64) w1 A0 l0.length l0 → Kd.C (Kd.int .u64) w1 A0 (l0.take t).length (l0.take t) ∧ Kd.C (Kd.int .u64) w1 A2 (l0.drop t).length (l0.drop t)) ∧ (l0.drop t).length ≤ c0 - t ∧ Drawn0 w w' := by
  have hh := digest_half.calls K (l0.length : Int) (t : Int) w h
  obtain ⟨i0, hi0, _, hsz, _⟩ := info_parts info23
  obtain ⟨hcut1, hA1, hC1⟩ := print_take_of (P := Tryd.prog) (Value.int .u64) 0 25 23 .i64 Tryd.underlying25 hi0 hsz A0 c0 l0 (t : Int) (by omega) (by omega) hc0
  obtain ⟨A2, hcut2, hA2, hC2⟩ := print_drop_of (P := Tryd.prog) (Value.int .u64) 0 25 23 .i64 Tryd.underlying25 hi0 hsz A0 c0 l0 (t : Int) (by omega) (by omega) hc0
  simp only [Int.toNat_natCast] at hcut2 hA1 hA2 hC2
  have hcut := cut_hm A0 l0.length c0 t (by omega)
  have hlt : (l0.take t).length = t := by rw [List.length_take]; omega
  go_enter Tryd.func36, Tryd.ntmps36
  go_wp2_with (go_at_call 39; refine hh.mono ?_; rintro e w1 ⟨rfl, ⟨nd, rfl⟩⟩)
  go_region_law (fail)
  go_simp
  go_wp2_with fail
  go_ret2
  exact ⟨A2, by rw [hlt, List.length_drop]; rfl, fun w1 hr => ⟨Kd.C_of_reads (h1 := fun _ => rfl) (hA1 _ (Kd.reads_of_C hr)), Kd.C_of_reads (h1 := fun _ => rfl) (hA2 _ (Kd.reads_of_C hr))⟩, hC2, ⟨_, rfl⟩⟩
/-- The two parts of a row. -/
theorem parts_calls (A0 : Option Addr) (c0 : Nat) (l0 : List Int) (w : World) (hc0 : l0.length ≤ c0) (h2 : 2 ≤ l0.length) (hn : l0.length ≤ 1000000000) :
    Calls Tryd.prog 36 #[.slice A0 l0.length c0] w fun e w' => ∃ A2, e = .returned (.tuple #[.slice A0 (l0.take (halfP l0.length)).length (halfP l0.length), .slice A2 (l0.drop (halfP l0.length)).length (c0 - halfP l0.length)]) ∧ (∀ w1, Kd.C (Kd.int .u64) w1 A0 l0.length l0 → Kd.C (Kd.int .u64) w1 A0 (l0.take (halfP l0.length)).length (l0.take (halfP l0.length)) ∧ Kd.C (Kd.int .u64) w1 A2 (l0.drop (halfP l0.length)).length (l0.drop (halfP l0.length))) ∧ (l0.drop (halfP l0.length)).length ≤ c0 - halfP l0.length ∧ Drawn0 w w' := by
  obtain ⟨K, hK⟩ := (half_ev (n := l0.length) (by omega) hn).rounds
  exact digest_parts.calls K A0 c0 l0 _ w hc0 (by have := halfP_spec h2; omega) hK

end Go.Proofs.YtffmflmpiekcfaaDoor.PAll
