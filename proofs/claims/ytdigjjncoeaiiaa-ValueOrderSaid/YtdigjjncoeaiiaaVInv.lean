/- Small lemmas, cut by a program of this session (words.py) out of the words that the kit's print lays for the seat: what the claim's texts name, unchanged. -/
import Derived.Test.YtdigjjncoeaiiaaVTab
namespace Go.Proofs.YtdigjjncoeaiiaaW.PrintLast
/-- Number i is listed too. -/
def up (b : Nat → Bool) (i : Nat) : Nat → Bool := fun j => if j = i then true else b j
end Go.Proofs.YtdigjjncoeaiiaaW.PrintLast
