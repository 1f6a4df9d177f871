/- How arguments of nested kinds (structs, slices of structs, ..) are opened: what a row's reading finds is of the printed kind, with its bounds. Own text; Ytdigjjncoeaiiaa is the seat's name. -/
import Derived.Test.YtdigjjncoeaiiaaVWords
import Derived.ProofKit
import Derived.SizedLaws
import Derived.ChangeSlices
import Derived.ChangeArms
import Derived.Deep.Slices
namespace Go.Proofs.YtdigjjncoeaiiaaGopen
open Go.Proofs.YtdigjjncoeaiiaaW.PrintWords Go.RowKit

/-- What a reading with fuel n at type t finds is of kind d; B: what is known of it. -/
def OpensF (P : Program) (n : Nat) (t : TypeId) {α : Type} (d : Kd α) (B : α → Prop) : Prop :=
  ∀ (H : Type) (enc : TypeId × Value → H) (w : World) (spare : Nat → Bool) (held : Bool) (cs : List Value) (y : DataW H) (ps : List MemPlace),
    DataW.trod enc P w 0 spare held n t cs = some (y, ps) → (∀ k ∈ y.weights P t, k ≤ reachBytes) → ∃ x : α, d.K w x cs ∧ B x

theorem opensF_zero {P : Program} {t : TypeId} {α : Type} {d : Kd α} {B : α → Prop} : OpensF P 0 t d B := by
  intro H enc w spare held cs y ps h _
  simp [DataW.trod] at h

theorem opensF_int {P : Program} {n : Nat} {t : TypeId} {k : IntKind} (hu : P.underlying t = some (.int k)) : OpensF P n t (Kd.int k) (fun x => (Lit.int k x).wf = true) := by
  intro H enc w spare held cs y ps h _
  obtain ⟨x, rfl, _, hw⟩ := DataW.trod_int hu h
  exact ⟨x, rfl, hw⟩

theorem opensF_bool {P : Program} {n : Nat} {t : TypeId} (hu : P.underlying t = some .bool) : OpensF P n t Kd.bool (fun _ => True) := by
  intro H enc w spare held cs y ps h _
  obtain ⟨x, rfl, _⟩ := DataW.trod_bool hu h
  exact ⟨x, rfl, trivial⟩

theorem opensF_string {P : Program} {n : Nat} {t : TypeId} (hu : P.underlying t = some .string) : OpensF P n t Kd.string (fun s => s.size ≤ 140737488351232) := by
  intro H enc w spare held cs y ps h hw
  obtain ⟨s, rfl, hy, _⟩ := DataW.trod_string hu h
  obtain ⟨rfl, rfl⟩ := Prod.mk.inj hy
  refine ⟨s, rfl, ?_⟩
  have := hw s.data.toList.length (by simp [DataW.weights])
  have e : reachBytes = 140737488351232 := by decide
  rw [e] at this
  simpa using this

theorem weights_all {H : Type} {P : Program} {e : TypeId} : ∀ {l : List (DataW H)} {d : DataW H}, d ∈ l → ∀ k ∈ d.weights P e, k ∈ DataW.weightsAll P e l
  | a :: l, d, h, k, hk => by
    simp only [DataW.weightsAll, List.mem_append]
    rcases List.mem_cons.1 h with rfl | h
    · exact .inl hk
    · exact .inr (weights_all h k hk)

theorem exists_list {α : Type} {p : Nat → α → Prop} : ∀ (n : Nat), (∀ i, i < n → ∃ x, p i x) → ∃ l : List α, l.length = n ∧ ∀ i x, l[i]? = some x → p i x
  | 0, _ => ⟨[], rfl, fun i x h => by simp at h⟩
  | n + 1, h => by
    obtain ⟨l, hl, hp⟩ := exists_list n (fun i hi => h i (by omega))
    obtain ⟨x, hx⟩ := h n (by omega)
    refine ⟨l ++ [x], by simp [hl], fun i y hy => ?_⟩
    rcases Nat.lt_trichotomy i n with hi | hi | hi
    · rw [List.getElem?_append_left (by omega)] at hy
      exact hp i y hy
    · subst hi
      rw [List.getElem?_append_right (by omega)] at hy
      simp [hl] at hy
      exact hy ▸ hx
    · rw [List.getElem?_eq_none (by simp; omega)] at hy
      cases hy

theorem opensF_slice {P : Program} {n : Nat} {t e : TypeId} {b : Nat} {α : Type} {d : Kd α} {B : α → Prop} (hu : P.underlying t = some (.slice e)) (hsz : P.cellsOf e = d.sz) (hb : P.bytesOf e = b) (hd : OpensF P n e d B) :
    OpensF P (n + 1) t (Kd.slice e d) (fun xs => xs.length * b ≤ 140737488351232 ∧ ∀ x ∈ xs, B x) := by
  intro H enc w spare held cs y ps h hw
  rcases DataW.trod_slice hu h with ⟨rfl, _⟩ | ⟨a, len, cap, elems, rest, m, hm, rfl, hy, hb0, hl, hmax, hlen, hel, _⟩
  · exact ⟨[], ⟨none, 0, rfl, by simp, Kd.C_nil d w⟩, by simp, by simp⟩
  · obtain ⟨rfl⟩ : n = m := by omega
    obtain ⟨rfl, rfl⟩ := Prod.mk.inj hy
    have hx : ∀ i, i < len → ∃ x, (∃ c, c.length = d.sz ∧ d.K w x c ∧ ∀ j u, c[j]? = some u → w.cell? (a.add (i * d.sz + j)) = some u) ∧ B x := by
      intro i hi
      have h1 := hel i hi
      rw [List.getElem?_eq_getElem (by omega)] at h1
      obtain ⟨c, hc, htr⟩ := Option.bind_eq_some_iff.1 h1
      obtain ⟨x, hK, hB⟩ := hd H enc w spare held c (elems[i]'(by omega)).1 (elems[i]'(by omega)).2 htr (fun k hk => hw k (by
        simp only [DataW.weights, hu, List.mem_cons, List.mem_append]
        exact .inr (.inl (weights_all (List.mem_map.2 ⟨_, List.getElem_mem (by omega), rfl⟩) k hk))))
      rw [hsz] at hc
      obtain ⟨_, hcl, hcc⟩ := World.cells?_some hc
      refine ⟨x, ⟨c, hcl, hK, fun j u hj => ?_⟩, hB⟩
      have hjl : j < d.sz := by have := (List.getElem?_eq_some_iff.1 hj).1; omega
      have := (hcc j hjl).trans hj
      rw [← this, add_add]
    obtain ⟨l, hll, hp⟩ := exists_list len hx
    have hlw : (elems.length + rest.length) * b ≤ reachBytes := by
      have := hw ((elems.length + rest.length) * P.bytesOf e) (by simp [DataW.weights, hu])
      rwa [hb] at this
    have er : reachBytes = 140737488351232 := by decide
    rw [er] at hlw
    refine ⟨l, ⟨some a, cap, by rw [hll], by omega, ⟨rfl, ?_, fun _ => ⟨a, rfl, fun j p hj => ?_⟩⟩⟩, ?_, fun x hx' => ?_⟩
    · have : maxLen = 9223372036854775807 := rfl
      omega
    · obtain ⟨⟨c, h1, h2, h3⟩, _⟩ := hp j p hj
      exact ⟨c, h1, h2, h3⟩
    · refine Nat.le_trans (Nat.mul_le_mul_right _ ?_) hlw
      omega
    · obtain ⟨i, hi, rfl⟩ := List.mem_iff_getElem.1 hx'
      exact (hp i _ (List.getElem?_eq_getElem hi)).2

/-- The fields of a struct, from the one at place 'off' on. -/
def OpensL (P : Program) (n : Nat) (fs : List Field) (off : Nat) {α : Type} (d : Kd α) (B : α → Prop) : Prop :=
  ∀ (H : Type) (enc : TypeId × Value → H) (w : World) (spare : Nat → Bool) (held : Bool) (cs : List Value) (ys : List (DataW H × List MemPlace)),
    cs.length = off + d.sz → ys.length = fs.length → (∀ (i : Nat) (f : Field), fs[i]? = some f → DataW.trod enc P w 0 spare held n f.type ((cs.drop f.offset).take (P.cellsOf f.type)) = ys[i]?) →
    (∀ k ∈ DataW.weightsEach P (fs.map (·.type)) (ys.map (·.1)), k ≤ reachBytes) → ∃ x : α, d.K w x (cs.drop off) ∧ B x

theorem opensL_last {P : Program} {n : Nat} {f : Field} {off : Nat} {α : Type} {d : Kd α} {B : α → Prop} (ho : f.offset = off) (hs : P.cellsOf f.type = d.sz) (hd : OpensF P n f.type d B) : OpensL P n [f] off d B := by
  intro H enc w spare held cs ys hl hy hf hw
  match ys, hy with
  | [y], _ =>
    have h := hf 0 f rfl
    rw [ho, hs, List.take_of_length_le (by rw [List.length_drop]; omega)] at h
    exact hd H enc w spare held _ y.1 y.2 h (fun k hk => hw k (by simpa [DataW.weightsEach] using hk))

theorem opensL_cons {P : Program} {n : Nat} {f : Field} {fs : List Field} {off : Nat} {α β : Type} {d : Kd α} {d' : Kd β} {B : α → Prop} {B' : β → Prop} (ho : f.offset = off) (hs : P.cellsOf f.type = d.sz) (hd : OpensF P n f.type d B)
    (hr : OpensL P n fs (off + d.sz) d' B') : OpensL P n (f :: fs) off (Kd.pair d d') (fun x => B x.1 ∧ B' x.2) := by
  intro H enc w spare held cs ys hl hy hf hw
  match ys, hy with
  | y :: ys, hy =>
    have hl' : cs.length = off + (d.sz + d'.sz) := hl
    have h := hf 0 f rfl
    rw [ho, hs] at h
    obtain ⟨x, hx, hB⟩ := hd H enc w spare held _ y.1 y.2 h (fun k hk => hw k (by simp [DataW.weightsEach, hk]))
    obtain ⟨z, hz, hB'⟩ := hr H enc w spare held cs ys (by omega) (by simpa using hy) (fun i g hg => by simpa using hf (i + 1) g (by simpa using hg)) (fun k hk => hw k (by simp [DataW.weightsEach, hk]))
    refine ⟨(x, z), ⟨_, _, ?_, hx, hz⟩, hB, hB'⟩
    rw [← List.drop_drop, List.take_append_drop]

theorem opensF_struct {P : Program} {n : Nat} {t : TypeId} {fs : List Field} {α β : Type} {d : Kd α} {B : α → Prop} (g : β → α) (mk : α → β) (hg : ∀ x, g (mk x) = x) (hu : P.underlying t = some (.struct fs.toArray)) (hs : P.cellsOf t = d.sz)
    (hd : OpensL P n fs 0 d B) : OpensF P (n + 1) t (Kd.iso d g) (fun x => B (g x)) := by
  intro H enc w spare held cs y ps h hw
  obtain ⟨ys, m, hm, hy, hl, hyl, hf⟩ := DataW.trod_struct hu h
  obtain ⟨rfl⟩ : n = m := by omega
  obtain ⟨rfl, rfl⟩ := Prod.mk.inj hy
  obtain ⟨x, hx, hB⟩ := hd H enc w spare held cs ys (by rw [hl, hs]; simp) (by simpa using hyl) (fun i f hi => hf i f (by simpa using hi)) (fun k hk => hw k (by simpa [DataW.weights, hu] using hk))
  refine ⟨mk x, ?_, ?_⟩
  · show d.K w (g (mk x)) cs
    rw [hg]
    simpa using hx
  · show B (g (mk x))
    rw [hg]; exact hB

theorem opensF_imp {P : Program} {n : Nat} {t : TypeId} {α : Type} {d d' : Kd α} {B B' : α → Prop} (h : OpensF P n t d B) (hd : ∀ w x cs, d.K w x cs → d'.K w x cs) (hB : ∀ x, B x → B' x) : OpensF P n t d' B' := by
  intro H enc w spare held cs y ps htr hw
  obtain ⟨x, hx, hb⟩ := h H enc w spare held cs y ps htr hw
  exact ⟨x, hd _ _ _ hx, hB _ hb⟩

/-- An argument, opened. -/
theorem opened {P : Program} {t : TypeId} {α : Type} {d : Kd α} {B : α → Prop} (hd : ∀ n, OpensF P n t d B) {H : Type} {enc : TypeId × Value → H} {w : World} {spare : Nat → Bool} {held : Bool} {v : Value} {y : DataW H} {ps : List MemPlace} {ts : List TypeId} {ds : List (DataW H)} {j : Nat}
    (hsz : (DataW.weightsEach P ts ds).all (· ≤ reachBytes) = true) (ht : ts[j]? = some t) (hy : ds[j]? = some y) (h : DataW.Trod enc P w 0 spare held t v y ps) : ∃ x : α, d.K w x v.cells.toList ∧ B x := by
  obtain ⟨n, hn⟩ := h
  exact hd n H enc w spare held _ y ps hn (fun k hk => by
    have := List.all_eq_true.1 hsz _ (DataW.weights_mem_each ht hy k hk)
    simpa using this)

end Go.Proofs.YtdigjjncoeaiiaaGopen
