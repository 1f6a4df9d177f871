/- Printed by a program of this session (wip/gprint.py) over the translation. Not trusted: Lean checks it. -/
import Derived.Test.YtffmflmpiekcfabPAllx0
import Derived.Test.YtffmflmpiekcfabPAllx4
import Derived.Test.YtffmflmpiekcfabPAllx5
import Derived.Test.YtffmflmpiekcfabPAllx7
namespace Go.Proofs.Ytffmflmpiekcfab.PAll
open Go.RowKit Go.Proofs.YtffmflmpiekcfabW.PrintWords Go.Proofs.YtffmflmpiekcfabW.PrintLast Go.Proofs.YtffmflmpiekcfabW.PrintMore
attribute [local go_sem] max2_int min2_int max_two min_two max_three min_three max_four min_four   -- for this text's walks alone
set_option linter.unusedVariables false
set_option linter.unusedSimpArgs false

-- GIVEN b_defs
def besideB (f : S41) (y h : Int) : Bool := (floats_placed_beside.f f.f0 f.f1 f.f2 f.f3 f.f4 y h).getD false
def roomStep (y h : Int) (s : Int × Int × Bool) (f : S41) : Int × Int × Bool := if besideB f y h = true then (if f.f0 = 1 then (mx s.1 (wrap64 (f.f1 + f.f3)), s.2.1, true) else (s.1, mn s.2.1 f.f1, true)) else s
def roomP (l : List S41) (width y h : Int) : Int × Int × Bool :=
  ((l.foldl (roomStep y h) (0, width, false)).1, mx (l.foldl (roomStep y h) (0, width, false)).1 (l.foldl (roomStep y h) (0, width, false)).2.1, (l.foldl (roomStep y h) (0, width, false)).2.2)
def bottomOf (f : S41) : Int := wrap64 (f.f2 + f.f4)
def topY (l : List S41) (y : Int) : Int := l.foldl (fun m f => mx m f.f2) y
def endsP (l : List S41) (y0 : Int) : List Int := y0 :: (l.map bottomOf).filter (fun b => decide (y0 < b))
def heightsP (l : List S41) (y0 : Int) : List Int := isort (endsP l y0)
def fitsP (l : List S41) (width w h at_ : Int) : Bool := !((roomP l width at_ h).2.2 && decide (w > wrap64 ((roomP l width at_ h).2.1 - (roomP l width at_ h).1)))
def nextP (l : List S41) (width side y w h : Int) : S41 :=
  match (heightsP l (topY l y)).find? (fitsP l width w h) with
  | none => ⟨side, 0, 0, w, h⟩
  | some at_ => ⟨side, if side = 2 then mx 0 (wrap64 ((roomP l width at_ h).2.1 - w)) else (roomP l width at_ h).1, at_, w, h⟩
def placeBad (l : List S41) (width side y w h : Int) : Bool := !((floats_Valid.f l width).getD false) || (decide (side ≠ 1) && decide (side ≠ 2)) || !(decide (0 ≤ y) && decide (y ≤ 1000000000)) || !(decide (0 ≤ w) && decide (w ≤ 1000000)) || !(decide (0 ≤ h) && decide (h ≤ 1000000))


end Go.Proofs.Ytffmflmpiekcfab.PAll
