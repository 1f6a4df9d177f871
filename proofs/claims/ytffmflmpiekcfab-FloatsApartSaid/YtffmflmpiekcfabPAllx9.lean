/- Printed by a program of this session (wip/gprint.py) over the translation. Not trusted: Lean checks it. -/
import Derived.Test.YtffmflmpiekcfabPAllx0
import Derived.Test.YtffmflmpiekcfabPAllx5
import Derived.Test.YtffmflmpiekcfabPAllx8
import Derived.Test.YtffmflmpiekcfabGlib
namespace Go.Proofs.Ytffmflmpiekcfab.PAll
open Go.RowKit Go.Proofs.YtffmflmpiekcfabW.PrintWords Go.Proofs.YtffmflmpiekcfabW.PrintLast Go.Proofs.YtffmflmpiekcfabW.PrintMore
attribute [local go_sem] max2_int min2_int max_two min_two max_three min_three max_four min_four   -- for this text's walks alone
set_option linter.unusedVariables false
set_option linter.unusedSimpArgs false

-- GIVEN b_room
open Go.Proofs.YtffmflmpiekcfabGlib
theorem beside_of (f : S41) (y h : Int) : floats_placed_beside.f f.f0 f.f1 f.f2 f.f3 f.f4 y h = some (besideB f y h) := by
  have : ∃ r, floats_placed_beside.f f.f0 f.f1 f.f2 f.f3 f.f4 y h = some r := by
    unfold floats_placed_beside.f floats_placed_bottom.f
    split
    · split
      · exact ⟨_, rfl⟩
      · exact ⟨_, rfl⟩
    · exact ⟨_, rfl⟩
  obtain ⟨r, hr⟩ := this
  simp [besideB, hr]
theorem rd_at {l : List S41} {n : Nat} (h : n < l.length) : rd_T41 l (n : Int) = l[n] := by
  unfold rd_T41
  exact getD_at h

theorem room_loop (y h : Int) (l : List S41) (hl : l.length < 9223372036854775807) : ∀ (d n : Nat) (lo hi : Int) (b : Bool), n + d = l.length →
    Ev (fun k => floats_room.l0 k y h b l (l.length : Int) (n : Int) lo hi) (((l.drop n).foldl (roomStep y h) (lo, hi, b)).1, mx ((l.drop n).foldl (roomStep y h) (lo, hi, b)).1 ((l.drop n).foldl (roomStep y h) (lo, hi, b)).2.1, ((l.drop n).foldl (roomStep y h) (lo, hi, b)).2.2) := by
  intro d
  induction d with
  | zero =>
    intro n lo hi b hn
    refine Ev.zero fun k => ?_
    simp only [floats_room.l0]
    rw [if_neg (by omega), drop_all (by omega)]
    rfl
  | succ d ih =>
    intro n lo hi b hn
    have hlt : n < l.length := by omega
    rw [drop_get hlt]
    simp only [List.foldl_cons]
    cases hb : besideB l[n] y h with
    | true =>
      by_cases h1 : l[n].f0 = 1
      · refine Ev.succ (ih (n + 1) (mx lo (wrap64 (l[n].f1 + l[n].f3))) hi true (by omega)) fun k hk => ?_
        simp only [floats_room.l0]
        rw [if_pos (by omega), if_pos (by omega), if_pos (by omega), rd_at hlt, beside_of, hb]
        simp only [Option.bind_some, if_true]
        rw [if_pos h1, wrap_next (by omega), hk]
        simp only [roomStep, hb, if_true, h1]
      · refine Ev.succ (ih (n + 1) lo (mn hi l[n].f1) true (by omega)) fun k hk => ?_
        simp only [floats_room.l0]
        rw [if_pos (by omega), if_pos (by omega), if_pos (by omega), rd_at hlt, beside_of, hb]
        simp only [Option.bind_some, if_true]
        rw [if_neg h1, wrap_next (by omega), hk]
        simp only [roomStep, hb, if_true, h1, if_false]
    | false =>
      refine Ev.succ (ih (n + 1) lo hi b (by omega)) fun k hk => ?_
      simp only [floats_room.l0]
      rw [if_pos (by omega), if_pos (by omega), if_pos (by omega), rd_at hlt, beside_of, hb]
      simp only [Option.bind_some]
      rw [if_neg (by decide), wrap_next (by omega), hk]
      simp only [roomStep, hb]
      rfl
theorem room_ev {l : List S41} (hl : l.length < 9223372036854775807) (w y h : Int) : Ev (fun k => floats_room.f k l w y h) (roomP l w y h) := room_loop y h l hl l.length 0 0 w false (by omega)

theorem room_some {l : List S41} (hl : l.length < 9223372036854775807) (w y h : Int) : ∃ k, floats_room.f k l w y h = some (roomP l w y h) := (room_ev hl w y h).rounds


end Go.Proofs.Ytffmflmpiekcfab.PAll
