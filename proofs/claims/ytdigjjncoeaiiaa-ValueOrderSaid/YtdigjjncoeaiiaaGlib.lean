/- Small plain lemmas for printed functions: 'from some number of rounds on' (Ev), whole numbers without wrap, loops over lists. Own text; Ytdigjjncoeaiiaa is the seat's name. -/
import Derived.Test.YtdigjjncoeaiiaaVWords
import Derived.Test.YtdigjjncoeaiiaaVMore
namespace Go.Proofs.YtdigjjncoeaiiaaGlib
open Go.Proofs.YtdigjjncoeaiiaaW.PrintWords Go.Proofs.YtdigjjncoeaiiaaW.PrintLast Go.Proofs.YtdigjjncoeaiiaaW.PrintMore Go.RowKit

theorem Ev.succ {α β : Type} {f : Nat → Option α} {g : Nat → Option β} {a : α} {r : β} (h : Ev f a) (hs : ∀ k, f k = some a → g (k + 1) = some r) : Ev g r := by
  obtain ⟨K, hK⟩ := h
  refine ⟨K + 1, fun k hk => ?_⟩
  obtain ⟨k, rfl⟩ : ∃ m, k = m + 1 := ⟨k - 1, by omega⟩
  exact hs k (hK k (by omega))
theorem Ev.zero {β : Type} {g : Nat → Option β} {r : β} (hs : ∀ k, g (k + 1) = some r) : Ev g r := by
  refine ⟨1, fun k hk => ?_⟩
  obtain ⟨k, rfl⟩ : ∃ m, k = m + 1 := ⟨k - 1, by omega⟩
  exact hs k
theorem Ev.same {α β : Type} {f : Nat → Option α} {g : Nat → Option β} {a : α} {r : β} (h : Ev f a) (hs : ∀ k, f k = some a → g k = some r) : Ev g r := by
  obtain ⟨K, hK⟩ := h
  exact ⟨K, fun k hk => hs k (hK k hk)⟩
theorem Ev.any {β : Type} {g : Nat → Option β} {r : β} (hs : ∀ k, g k = some r) : Ev g r := ⟨0, fun k _ => hs k⟩
/-- Two at once. -/
theorem Ev.both {α β : Type} {f : Nat → Option α} {g : Nat → Option β} {a : α} {b : β} (h : Ev f a) (h' : Ev g b) : Ev (fun k => (f k).bind fun x => (g k).bind fun y => some (x, y)) (a, b) := by
  obtain ⟨K, hK⟩ := h
  obtain ⟨K', hK'⟩ := h'
  exact ⟨max K K', fun k hk => by simp only [hK k (by omega), hK' k (by omega), Option.bind_some]⟩
theorem Ev.succ2 {α β γ : Type} {f : Nat → Option α} {g : Nat → Option β} {G : Nat → Option γ} {a : α} {b : β} {r : γ} (h : Ev f a) (h' : Ev g b) (hs : ∀ k, f k = some a → g k = some b → G (k + 1) = some r) : Ev G r := by
  obtain ⟨K, hK⟩ := h
  obtain ⟨K', hK'⟩ := h'
  refine ⟨max K K' + 1, fun k hk => ?_⟩
  obtain ⟨k, rfl⟩ : ∃ m, k = m + 1 := ⟨k - 1, by omega⟩
  exact hs k (hK k (by omega)) (hK' k (by omega))
theorem Ev.same2 {α β γ : Type} {f : Nat → Option α} {g : Nat → Option β} {G : Nat → Option γ} {a : α} {b : β} {r : γ} (h : Ev f a) (h' : Ev g b) (hs : ∀ k, f k = some a → g k = some b → G k = some r) : Ev G r := by
  obtain ⟨K, hK⟩ := h
  obtain ⟨K', hK'⟩ := h'
  exact ⟨max K K', fun k hk => hs k (hK k (by omega)) (hK' k (by omega))⟩
/-- Any number of facts on rounds at once. -/
def EvP (p : Nat → Prop) : Prop := ∃ K, ∀ k, K ≤ k → p k
theorem EvP.and {p q : Nat → Prop} (h : EvP p) (h' : EvP q) : EvP (fun k => p k ∧ q k) := by
  obtain ⟨K, hK⟩ := h
  obtain ⟨K', hK'⟩ := h'
  exact ⟨max K K', fun k hk => ⟨hK k (by omega), hK' k (by omega)⟩⟩
theorem EvP.imp {p q : Nat → Prop} (h : EvP p) (hs : ∀ k, p k → q k) : EvP q := by
  obtain ⟨K, hK⟩ := h
  exact ⟨K, fun k hk => hs k (hK k hk)⟩
theorem EvP.imp1 {p q : Nat → Prop} (h : EvP p) (hs : ∀ k, p k → q (k + 1)) : EvP q := by
  obtain ⟨K, hK⟩ := h
  refine ⟨K + 1, fun k hk => ?_⟩
  obtain ⟨k, rfl⟩ : ∃ m, k = m + 1 := ⟨k - 1, by omega⟩
  exact hs k (hK k (by omega))
theorem Ev.p {α : Type} {f : Nat → Option α} {a : α} (h : Ev f a) : EvP (fun k => f k = some a) := h
theorem EvP.ev {α : Type} {f : Nat → Option α} {a : α} (h : EvP (fun k => f k = some a)) : Ev f a := h
theorem Ev.det {α : Type} {f : Nat → Option α} {a b : α} (h : Ev f a) (h' : Ev f b) : a = b := by
  obtain ⟨K, hK⟩ := h
  obtain ⟨K', hK'⟩ := h'
  have h1 := hK (max K K') (by omega)
  rw [hK' (max K K') (by omega)] at h1
  exact (Option.some.inj h1).symm

theorem wrap64_id {x : Int} (h0 : -9223372036854775808 ≤ x) (h1 : x ≤ 9223372036854775807) : wrap64 x = x := by
  unfold wrap64
  omega
theorem wrap_next {n : Nat} (h : n < 9223372036854775807) : wrap64 ((n : Int) + 1) = ((n + 1 : Nat) : Int) := by
  rw [wrap64_id (by omega) (by omega)]
  rfl
theorem wf64 {x : Int} (h : (Lit.int .i64 x).wf = true) : -9223372036854775808 ≤ x ∧ x ≤ 9223372036854775807 := by
  have hmin : IntKind.i64.min = -9223372036854775808 := rfl
  have hmax : IntKind.i64.max = 9223372036854775807 := rfl
  simp only [Lit.wf, Bool.and_eq_true, decide_eq_true_eq] at h
  omega
theorem wfu64 {x : Int} (h : (Lit.int .u64 x).wf = true) : 0 ≤ x ∧ x ≤ 18446744073709551615 := by
  have hmin : IntKind.u64.min = 0 := rfl
  have hmax : IntKind.u64.max = 18446744073709551615 := rfl
  simp only [Lit.wf, Bool.and_eq_true, decide_eq_true_eq] at h
  omega
theorem wfu16 {x : Int} (h : (Lit.int .u16 x).wf = true) : 0 ≤ x ∧ x ≤ 65535 := by
  have hmin : IntKind.u16.min = 0 := rfl
  have hmax : IntKind.u16.max = 65535 := rfl
  simp only [Lit.wf, Bool.and_eq_true, decide_eq_true_eq] at h
  omega
theorem wfu8 {x : Int} (h : (Lit.int .u8 x).wf = true) : 0 ≤ x ∧ x ≤ 255 := by
  have hmin : IntKind.u8.min = 0 := rfl
  have hmax : IntKind.u8.max = 255 := rfl
  simp only [Lit.wf, Bool.and_eq_true, decide_eq_true_eq] at h
  omega
theorem drop_get {α : Type} {l : List α} {n : Nat} (h : n < l.length) : l.drop n = l[n] :: l.drop (n + 1) := List.drop_eq_getElem_cons h
theorem drop_all {α : Type} {l : List α} {n : Nat} (h : l.length ≤ n) : l.drop n = [] := List.drop_eq_nil_of_le h
theorem getD_at {α : Type} {l : List α} {n : Nat} {z : α} (h : n < l.length) : l.getD (n : Int).toNat z = l[n] := by
  simp [List.getD_eq_getElem?_getD, h]
theorem mx_eq (a b : Int) : mx a b = max a b := by unfold mx; omega
theorem mn_eq (a b : Int) : mn a b = min a b := by unfold mn; omega

end Go.Proofs.YtdigjjncoeaiiaaGlib
