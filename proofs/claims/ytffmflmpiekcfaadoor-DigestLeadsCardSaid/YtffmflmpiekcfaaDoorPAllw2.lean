/- Printed by a program of this session (wip/gprint.py) over the translation. Not trusted: Lean checks it. -/
import Derived.Test.YtffmflmpiekcfaaDoorPAlld0
import Derived.Test.YtffmflmpiekcfaaDoorPAllw1
namespace Go.Proofs.YtffmflmpiekcfaaDoor.PAll
open Go.RowKit Go.Proofs.YtffmflmpiekcfaaDoorW.PrintWords Go.Proofs.YtffmflmpiekcfaaDoorW.PrintLast Go.Proofs.YtffmflmpiekcfaaDoorW.PrintMore
attribute [local go_sem] max2_int min2_int max_two min_two max_three min_three max_four min_four   -- for this text's walks alone
set_option linter.unusedVariables false
set_option linter.unusedSimpArgs false


theorem strconv_AppendInt_30.calls (A0 : Option Addr) (c0 : Nat) (l0 : List Int) (a1 a2 : Int) (r : List Int) (w : World) (hr0 : Kd.C (Kd.int .u8) w A0 l0.length l0) (hc0 : l0.length ≤ c0) (h : strconv_AppendInt_30.f l0 a1 a2 = some r) (hT : Tab w) (hN : A0 = none ∧ c0 = 0) :
    Calls Tryd.prog 30 #[.slice A0 l0.length c0, .int .i64 a1, .int .i64 a2] w fun e w' => ∃ v0_ : Value, e = .returned v0_ ∧ Kd.R (Kd.int .u8) 5 w' w.heap.size (fun _ => True) v0_ r ∧ Below w.heap.size w w' := by
  unfold strconv_AppendInt_30.f at h
  split at h
  case isFalse => cases h
  rename_i hh
  obtain ⟨rfl, rfl, h0, h1⟩ := hh
  obtain ⟨rfl, rfl⟩ := hN
  obtain rfl := Option.some.inj h
  refine (Tryd.strconv_AppendInt_10 w.heap.size 0 a1 h0 h1 (.slice none 0 0) [] w (own_nil _ _ _ _) (Nat.le_refl _) (by omega) (Lib.tabBelow_of_tabIs hT)).mono ?_
  rintro e w' ⟨v, rfl, ho, hb, _⟩
  refine ⟨v, rfl, R_of_own (n := 0 + (Lib.itoa a1).length) ?_ (by simp [textP]), hb⟩
  have : ([] : List Value) ++ Lib.byteCells (Lib.itoa a1) = (textP a1).map (Value.int .u8) := by
    simp [Lib.byteCells, textP]
  rw [← this]
  exact ho

end Go.Proofs.YtffmflmpiekcfaaDoor.PAll
