/- The step of the digest of bytes (an odd factor, an exclusive or) can be undone: plain facts. -/
import Derived.Laws.Entries
import Derived.Laws.BitsLemmas
namespace Go.Fnv
theorem wrap_u64 (n : Int) : IntKind.u64.wrap n = n % 18446744073709551616 := by simp [IntKind.wrap, IntKind.bits, IntKind.signed]
def stepB (d x : Int) : Int := IntKind.u64.wrap ((Go.bits .xor .u64 d (IntKind.u64.wrap x)) * 1099511628211)
def toB (d : Int) : BitVec 64 := BitVec.ofInt 64 d
theorem toB_wrap (x : Int) : toB (IntKind.u64.wrap x) = toB x := by
  rw [wrap_u64]
  apply BitVec.eq_of_toNat_eq
  simp only [toB, BitVec.toNat_ofInt]
  omega
theorem toB_step (d x : Int) : toB (stepB d x) = (toB d ^^^ toB x) * 1099511628211#64 := by
  unfold stepB
  rw [toB_wrap]
  have e : Go.bits .xor .u64 d (IntKind.u64.wrap x) = ((toB d ^^^ toB x).toNat : Int) := by
    have h : Go.bits .xor .u64 d (IntKind.u64.wrap x) = IntKind.u64.wrap ((toB d ^^^ toB (IntKind.u64.wrap x)).toNat : Int) := rfl
    rw [h, toB_wrap, wrap_u64]
    have := (toB d ^^^ toB x).isLt
    omega
  rw [e]
  show BitVec.ofInt 64 _ = _
  rw [BitVec.ofInt_mul]
  congr 1
  simp
theorem mulP_inj {a b : BitVec 64} (h : a * 1099511628211#64 = b * 1099511628211#64) : a = b := by
  have e : (1099511628211#64 : BitVec 64) * 14886173955864302971#64 = 1#64 := by decide
  have h2 := congrArg (· * 14886173955864302971#64) h
  simp only [BitVec.mul_assoc, e, BitVec.mul_one] at h2
  exact h2
theorem xor_inj {a b c : BitVec 64} (h : a ^^^ c = b ^^^ c) : a = b := by
  have h2 := congrArg (· ^^^ c) h
  simpa only [BitVec.xor_assoc, BitVec.xor_self, BitVec.xor_zero] using h2
theorem xor_inj' {a b c : BitVec 64} (h : c ^^^ a = c ^^^ b) : a = b := by
  rw [BitVec.xor_comm c a, BitVec.xor_comm c b] at h
  exact xor_inj h
def ok (d : Int) : Prop := 0 ≤ d ∧ d < 18446744073709551616
theorem step_ok (d x : Int) : ok (stepB d x) := by
  unfold stepB ok
  rw [wrap_u64]
  omega
theorem toB_inj {a b : Int} (ha : ok a) (hb : ok b) (h : toB a = toB b) : a = b := by
  have := congrArg BitVec.toNat h
  simp only [toB, BitVec.toNat_ofInt] at this
  unfold ok at ha hb
  omega
theorem step_inj {a b x : Int} (ha : ok a) (hb : ok b) (h : stepB a x = stepB b x) : a = b := by
  have := congrArg toB h
  rw [toB_step, toB_step] at this
  exact toB_inj ha hb (xor_inj (mulP_inj this))
theorem step_byte {a x y : Int} (hx : ok x) (hy : ok y) (h : stepB a x = stepB a y) : x = y := by
  have := congrArg toB h
  rw [toB_step, toB_step] at this
  exact toB_inj hx hy (xor_inj' (mulP_inj this))
def moreP (d : Int) (l : List Int) : Int := l.foldl stepB d
theorem more_append (d : Int) (l m : List Int) : moreP d (l ++ m) = moreP (moreP d l) m := List.foldl_append
theorem more_ok : ∀ (l : List Int) (d : Int), ok d → ok (moreP d l)
  | [], _, h => h
  | x :: l, d, _ => more_ok l _ (step_ok d x)
theorem more_inj : ∀ (l : List Int) {a b : Int}, ok a → ok b → moreP a l = moreP b l → a = b
  | [], _, _, _, _, h => h
  | x :: l, a, b, ha, hb, h => step_inj ha hb (more_inj l (step_ok a x) (step_ok b x) h)
/-- One byte of a list set to another: another digest. -/
theorem more_set {l : List Int} {n : Nat} (hn : n < l.length) {d x : Int} (_hd : ok d) (hl : ∀ y ∈ l, ok y) (hx : ok x) (h : moreP d l = moreP d (l.set n x)) : l[n] = x := by
  have e1 : l = l.take n ++ l[n] :: l.drop (n + 1) := by rw [List.getElem_cons_drop, List.take_append_drop]
  have e2 : l.set n x = l.take n ++ x :: l.drop (n + 1) := List.set_eq_take_append_cons_drop.trans (by rw [if_pos hn])
  have a1 : moreP d l = moreP (stepB (moreP d (l.take n)) l[n]) (l.drop (n + 1)) := by
    conv => lhs; rw [e1, more_append]
    rfl
  have a2 : moreP d (l.set n x) = moreP (stepB (moreP d (l.take n)) x) (l.drop (n + 1)) := by
    rw [e2, more_append]
    rfl
  rw [a1, a2] at h
  exact step_byte (hl _ (List.getElem_mem hn)) hx (more_inj _ (step_ok _ _) (step_ok _ _) h)
end Go.Fnv
