/- Plain facts on zones for the statements of chapter 3: validity, equality, what a reader is in, counts. -/
import Derived.Test.YtacohlafmbhcdaaPAlld1
namespace Go.Proofs.Ytacohlafmbhcdaa.Plain
open Go.RowKit Go.Proofs.Ytacohlafmbhcdaa.PAll Go.Proofs.YtacohlafmbhcdaaW.PrintWords Go.Proofs.YtacohlafmbhcdaaW.PrintLast Go.Proofs.YtacohlafmbhcdaaW.PrintMore Go.Proofs.YtacohlafmbhcdaaGlib

theorem wrap_id {x : Int} (h0 : -9223372036854775808 ≤ x) (h1 : x ≤ 9223372036854775807) : wrap64 x = x := by unfold wrap64; omega
/-- What is a reader. -/
def RD (w s lang : Int) : Prop := 0 ≤ lang ∧ lang < 4 ∧ 50 ≤ s ∧ s ≤ 300 ∧ 200 ≤ w ∧ w ≤ 4000
instance (w s lang : Int) : Decidable (RD w s lang) := inferInstanceAs (Decidable (_ ∧ _))
theorem reader_yes {w s lang : Int} (h : RD w s lang) : formeref03_Reader.f w s lang = some true := by
  unfold RD at h
  unfold formeref03_Reader.f
  rw [if_pos (by omega), if_pos (by omega), if_pos (by omega), if_pos (by omega), if_pos (by omega), decide_eq_true (by omega)]
theorem reader_no {w s lang : Int} (h : ¬ RD w s lang) : formeref03_Reader.f w s lang = some false := by
  unfold RD at h
  unfold formeref03_Reader.f
  repeat' split
  all_goals first | rfl | (rw [decide_eq_false (by omega)])
theorem reader_of (w s lang : Int) : formeref03_Reader.f w s lang = some (decide (RD w s lang)) := by
  by_cases h : RD w s lang
  · rw [reader_yes h, decide_eq_true h]
  · rw [reader_no h, decide_eq_false h]
theorem okB_iff (z : S35) : okB z = true ↔ okZ z := by
  simp only [okB, okRB, okZ, okR, Bool.and_eq_true, decide_eq_true_eq]
theorem okB_no {z : S35} (h : ¬ okZ z) : okB z = false := by
  rw [Bool.eq_false_iff]
  exact fun h1 => h ((okB_iff z).1 h1)
theorem zone_of (z : S35) : formeref03_Zone.f z.f0 z.f1.f0 z.f1.f1 z.f2.f0 z.f2.f1 = some (okB z) := by
  unfold formeref03_Zone.f
  by_cases h : okZ z
  · rw [(okB_iff z).2 h]
    unfold okZ okR at h
    rw [reader_yes (by unfold RD; omega), Option.bind_some, if_pos rfl, reader_yes (by unfold RD; omega), Option.bind_some, if_pos rfl, if_pos (by omega), decide_eq_true (by omega)]
  · rw [okB_no h]
    unfold okZ okR at h
    by_cases h1 : RD z.f2.f0 z.f1.f0 z.f0
    · rw [reader_yes h1, Option.bind_some, if_pos rfl]
      by_cases h2 : RD z.f2.f1 z.f1.f1 z.f0
      · rw [reader_yes h2, Option.bind_some, if_pos rfl]
        unfold RD at h1 h2
        split
        · rw [decide_eq_false (by omega)]
        · rfl
      · rw [reader_no h2, Option.bind_some, if_neg (by simp)]
    · rw [reader_no h1, Option.bind_some, if_neg (by simp)]
theorem rvalid_loop (l : List S35) (hl : l.length ≤ 9223372036854775806) : ∀ (d i : Nat), i + d = l.length → Ev (fun k => formeref03_Valid.l0 k l (i : Int)) (decide ((l.length : Int) ≤ 1000) && !((l.drop i).any fun z => !okB z))
  | 0, i, hi => by
    refine Ev.step (f := fun _ => some (decide ((l.length : Int) ≤ 1000))) (fun k => ?_) ?_
    · simp only [formeref03_Valid.l0]
      rw [if_neg (by omega)]
    · rw [List.drop_eq_nil_of_le (by omega)]
      simpa using Ev.now _
  | d + 1, i, hi => by
    have h : i < l.length := by omega
    rw [List.drop_eq_getElem_cons h, List.any_cons]
    cases hb : okB l[i] with
    | true =>
      refine Ev.step (f := fun k => formeref03_Valid.l0 k l ((i + 1 : Nat) : Int)) (fun k => ?_) ?_
      · simp only [formeref03_Valid.l0]
        rw [if_pos (by omega), if_pos (by omega), rd35_at h, zone_of, hb, Option.bind_some, if_pos rfl, wrap_id (by omega) (by omega)]
        rfl
      · simpa using rvalid_loop l hl d (i + 1) (by omega)
    | false =>
      refine Ev.step (f := fun _ => some false) (fun k => ?_) ?_
      · simp only [formeref03_Valid.l0]
        rw [if_pos (by omega), if_pos (by omega), rd35_at h, zone_of, hb, Option.bind_some, if_neg (by simp)]
      · simpa using Ev.now false
theorem rvalid_ev (l : List S35) (hl : l.length ≤ 9223372036854775806) : Ev (fun k => formeref03_Valid.f k l) (validP l) := by
  refine Ev.congr (f := fun k => formeref03_Valid.l0 k l ((0 : Nat) : Int)) (fun k => rfl) ?_
  exact rvalid_loop l hl l.length 0 (by omega)
theorem usable_ev (a b : List S35) (ha : a.length ≤ 4000000000000000000) (hb : b.length ≤ 4000000000000000000) : Ev (fun k => formelaw03_usable.f k a b) (decide (a.length + b.length ≤ 24) && (validP a && validP b)) := by
  obtain ⟨K1, h1⟩ := rvalid_ev a (by omega)
  obtain ⟨K2, h2⟩ := rvalid_ev b (by omega)
  replace h1 : ∀ k, K1 ≤ k → formeref03_Valid.f k a = some (validP a) := h1
  replace h2 : ∀ k, K2 ≤ k → formeref03_Valid.f k b = some (validP b) := h2
  refine ⟨K1 + K2, fun k hk => ?_⟩
  show formelaw03_usable.f k a b = _
  unfold formelaw03_usable.f
  rw [wrap_id (by omega) (by omega)]
  by_cases hs : a.length + b.length ≤ 24
  · rw [if_pos (by omega), h1 k (by omega), Option.bind_some, h2 k (by omega), Option.bind_some, decide_eq_true hs]
    cases validP a <;> simp
  · rw [if_neg (by omega), decide_eq_false hs]
    rfl
theorem differ (a b : S35) : (!(a.f0 == b.f0) || ((!(a.f1.f0 == b.f1.f0) || (!(a.f1.f1 == b.f1.f1))) || (!(a.f2.f0 == b.f2.f0) || (!(a.f2.f1 == b.f2.f1))))) = !decide (a = b) := by
  obtain ⟨a0, ⟨a1, a2⟩, ⟨a3, a4⟩⟩ := a
  obtain ⟨b0, ⟨b1, b2⟩, ⟨b3, b4⟩⟩ := b
  rw [Bool.eq_iff_iff]
  simp only [S35.mk.injEq, S33.mk.injEq, Bool.or_eq_true, Bool.not_eq_true', beq_eq_false_iff_ne, decide_eq_false_iff_not, ne_eq]
  omega
theorem same_loop (a b : List S35) (hab : a.length = b.length) (ha : a.length ≤ 9223372036854775806) : ∀ (d i : Nat), i + d = a.length → (∀ j, j < i → a[j]? = b[j]?) → Ev (fun k => formeref03_Same.l0 k a b (i : Int)) (decide (a = b))
  | 0, i, hi, hj => by
    refine Ev.step (f := fun _ => some true) (fun k => ?_) ?_
    · simp only [formeref03_Same.l0]
      rw [if_neg (by omega)]
    · have : a = b := List.ext_getElem? fun j => by
        by_cases h : j < i
        · exact hj j h
        · rw [List.getElem?_eq_none (by omega), List.getElem?_eq_none (by omega)]
      rw [decide_eq_true this]
      exact Ev.now _
  | d + 1, i, hi, hj => by
    have h1 : i < a.length := by omega
    have h2 : i < b.length := by omega
    by_cases he : a[i] = b[i]
    · refine Ev.step (f := fun k => formeref03_Same.l0 k a b ((i + 1 : Nat) : Int)) (fun k => ?_) ?_
      · simp only [formeref03_Same.l0]
        rw [if_pos (by omega), if_pos (by omega), if_pos (by omega), rd35_at h1, rd35_at h2, differ, he, if_neg (by simp), wrap_id (by omega) (by omega)]
        rfl
      · refine same_loop a b hab ha d (i + 1) (by omega) fun j hj' => ?_
        by_cases h : j = i
        · subst h
          rw [List.getElem?_eq_getElem h1, List.getElem?_eq_getElem h2, he]
        · exact hj j (by omega)
    · have hne : ¬ a = b := fun e => he (by subst e; rfl)
      refine Ev.step (f := fun _ => some false) (fun k => ?_) ?_
      · simp only [formeref03_Same.l0]
        rw [if_pos (by omega), if_pos (by omega), if_pos (by omega), rd35_at h1, rd35_at h2, differ, if_pos (by simp [he])]
      · rw [decide_eq_false hne]
        exact Ev.now _
theorem same_ev (a b : List S35) (ha : a.length ≤ 9223372036854775806) : Ev (fun k => formeref03_Same.f k a b) (decide (a = b)) := by
  by_cases h : a.length = b.length
  · refine Ev.congr (f := fun k => formeref03_Same.l0 k a b ((0 : Nat) : Int)) (fun k => ?_) (same_loop a b h ha a.length 0 (by omega) (fun j hj => by omega))
    unfold formeref03_Same.f
    rw [if_pos (by omega)]
    rfl
  · refine Ev.congr (f := fun _ => some false) (fun k => ?_) ?_
    · unfold formeref03_Same.f
      rw [if_neg (by omega)]
    · rw [decide_eq_false (fun e => h (by rw [e]))]
      exact Ev.now _
/-! ### canonical forms -/
theorem can_ok {x : List S33} (h : CanF 200 x) (hm : ∀ n, mem n x → n ≤ 4000) : ∀ r ∈ x, okR 200 4000 r := fun r hr =>
  ⟨h.from_ r hr, h.ok r hr, hm r.f1 ⟨r, hr, h.ok r hr, Int.le_refl _⟩⟩
theorem mem_widths {l : List S35} (hl : OkL l) {lang s n : Int} (h : mem n (widthsOf l lang s)) : 200 ≤ n ∧ n ≤ 4000 := by
  obtain ⟨r, hr, h1, h2⟩ := h
  have := widthsOf_ok hl lang s r hr
  unfold okR at this
  omega
theorem canW_ok {l : List S35} (hl : OkL l) (lang s : Int) : ∀ r ∈ canW l lang s, okR 200 4000 r :=
  can_ok (canW_can hl lang s).1 fun n h => (mem_widths hl (((canW_can hl lang s).2 n).1 h)).2
theorem both_mem {a b : List S35} (ha : OkL a) (hb : OkL b) (what lang s n : Int) : mem n (bothP a b what lang s) ↔ opB what (memB n (canW a lang s)) (memB n (canW b lang s)) = true := (opP_can what (canW_can ha lang s).1 (canW_can hb lang s).1).2 n
theorem both_le {a b : List S35} (ha : OkL a) (hb : OkL b) {what lang s n : Int} (h : mem n (bothP a b what lang s)) : n ≤ 4000 := by
  rw [both_mem ha hb] at h
  have h1 : memB n (canW a lang s) = true ∨ memB n (canW b lang s) = true := by
    unfold opB at h
    cases h2 : memB n (canW a lang s) with
    | true => exact .inl rfl
    | false =>
      cases h3 : memB n (canW b lang s) with
      | true => exact .inr rfl
      | false =>
        exfalso
        rw [h2, h3] at h
        split at h
        · cases h
        · split at h <;> cases h
  rcases h1 with h1 | h1
  · exact (mem_widths ha (((canW_can ha lang s).2 n).1 (memB_iff.1 h1))).2
  · exact (mem_widths hb (((canW_can hb lang s).2 n).1 (memB_iff.1 h1))).2
theorem both_ok {a b : List S35} (ha : OkL a) (hb : OkL b) (what lang s : Int) : ∀ r ∈ bothP a b what lang s, okR 200 4000 r :=
  can_ok (bothP_can ha hb what lang s) fun _ h => both_le ha hb h
theorem valid_of_ok {l : List S35} (h : OkL l) (hl : l.length ≤ 1000) : validP l = true := by
  unfold validP
  rw [decide_eq_true (by omega), Bool.true_and, Bool.not_eq_true', Bool.eq_false_iff]
  intro h1
  obtain ⟨z, hz, h2⟩ := List.any_eq_true.1 h1
  have := h z hz
  unfold okZ okR at this
  have h3 : okB z = true := by
    simp only [okB, okRB, Bool.and_eq_true, decide_eq_true_eq]
    omega
  rw [h3] at h2
  cases h2
/-- A form: its zones, well-formed and not too many, and it is its own form. -/
structure Form (f : Int → Int → List S33) : Prop where
  can : ∀ lang s, CanF 200 (f lang s)
  ok : ∀ lang s, ∀ r ∈ f lang s, okR 200 4000 r
  short : (formP f).length ≤ 576
theorem Form.okL {f : Int → Int → List S33} (h : Form f) : OkL (formP f) := formP_ok h.ok
theorem Form.valid {f : Int → Int → List S33} (h : Form f) : validP (formP f) = true := valid_of_ok h.okL (by have := h.short; omega)
theorem both_form {a b : List S35} (ha : OkL a) (hb : OkL b) (hl : a.length + b.length ≤ 24) (what : Int) : Form (bothP a b what) := ⟨bothP_can ha hb what, both_ok ha hb what, formP_short (bothP_few ha hb hl what)⟩
theorem okN : OkL [] := fun z hz => by cases hz
theorem canW_form {a : List S35} (ha : OkL a) (hl : a.length ≤ 24) : Form (canW a) := by
  have h := both_form ha okN (by simpa using hl) 0
  have e : bothP a [] 0 = canW a := by
    funext lang s
    exact bothP_nil a lang s
  rwa [e] at h
theorem canon_of {l : List S35} (hv : validP l = true) (hl : l.length ≤ 24) : zone_Canon.f l = some (formP (canW l), 0) := by
  have h := (canW_form (valid_ok hv).1 hl).short
  unfold zone_Canon.f formR
  rw [hv, if_pos (by rfl), if_neg (by omega)]
theorem both_of {a b : List S35} (hv : validP a = true) (hv' : validP b = true) (hl : a.length + b.length ≤ 24) (what : Int) : formR a b (bothP a b what) = (formP (bothP a b what), 0) := by
  have h := (both_form (valid_ok hv).1 (valid_ok hv').1 hl what).short
  unfold formR
  rw [hv, hv', if_pos (by rfl), if_neg (by omega)]
theorem Form.again {f : Int → Int → List S33} (h : Form f) : zone_Canon.f (formP f) = some (formP f, 0) := by
  unfold zone_Canon.f formR
  rw [h.valid, if_pos (by rfl), formP_again h.can, if_neg (by have := h.short; omega)]
/-! ### what a reader is in -/
theorem in_of (z : S35) (w s lang : Int) : formeref03_In.f z.f0 z.f1.f0 z.f1.f1 z.f2.f0 z.f2.f1 w s lang = some (inB w s lang z) := by
  unfold formeref03_In.f inB
  repeat' split
  all_goals
    congr 1
    rw [Bool.eq_iff_iff]
    simp only [Bool.and_eq_true, decide_eq_true_eq, Bool.false_eq_true, false_iff] at *
    omega
def inR (w : Int) (r : S33) : Bool := decide (r.f0 ≤ w) && decide (w ≤ r.f1)
theorem inB_at (w s lang : Int) (z : S35) : inB w s lang z = (atZ lang s z && inR w z.f2) := by
  unfold inB atZ inR
  rw [Bool.eq_iff_iff]
  simp only [Bool.and_eq_true, decide_eq_true_eq]
  omega
theorem in_count (c : List S35) (w s lang : Int) : (c.filter (inB w s lang)).length = ((widthsOf c lang s).filter (inR w)).length := by
  unfold widthsOf
  rw [List.filter_map, List.length_map, List.filter_filter]
  congr 2
  funext z
  rw [inB_at, Bool.and_comm]
  rfl
theorem any_mem (l : List S35) (w s lang : Int) : l.any (inB w s lang) = memB w (widthsOf l lang s) := by
  unfold memB widthsOf
  rw [List.any_map, List.any_filter]
  congr 1
  funext z
  exact inB_at w s lang z
theorem can_count {w : Int} : ∀ {x : List S33} {B : Int}, CanF B x → (x.filter (inR w)).length = if memB w x = true then 1 else 0
  | [], _, _ => rfl
  | r :: l, B, h => by
    obtain ⟨_, h2, h3⟩ := h
    have ih := can_count (w := w) h3
    by_cases hr : r.f0 ≤ w ∧ w ≤ r.f1
    · have hno : memB w l = false := memB_false fun hm => by
        have := h3.low hm
        omega
      have hy : inR w r = true := by simp [inR, hr.1, hr.2]
      rw [List.filter_cons, if_pos hy, List.length_cons, ih, hno, show memB w (r :: l) = true from by simp [memB, hr.1, hr.2]]
      rfl
    · have hy : inR w r = false := by
        unfold inR
        rw [Bool.eq_false_iff]
        simp only [ne_eq, Bool.and_eq_true, decide_eq_true_eq]
        omega
      have e : memB w (r :: l) = memB w l := by
        unfold memB
        rw [List.any_cons]
        unfold inR at hy
        rw [hy, Bool.false_or]
      rw [List.filter_cons, if_neg (by simp [hy]), ih, e]
theorem has_of_valid {l : List S35} (hv : validP l = true) {w s lang : Int} (hr : RD w s lang) : zone_Has.f l w s lang = some (memB w (widthsOf l lang s), 0) := by
  unfold zone_Has.f hasP
  have : readerB w s lang = true := by
    unfold readerB okB okRB
    unfold RD at hr
    simp only [Bool.and_eq_true, decide_eq_true_eq]
    omega
  rw [hv, this, if_pos (by rfl), any_mem]
theorem memB_can {l : List S35} (hl : OkL l) (w lang s : Int) : memB w (canW l lang s) = memB w (widthsOf l lang s) := by
  rw [Bool.eq_iff_iff, memB_iff, memB_iff]
  exact (canW_can hl lang s).2 w
theorem widths_form {f : Int → Int → List S33} {w s lang : Int} (hr : RD w s lang) : widthsOf (formP f) lang s = f lang s := by
  rw [widthsOf_formP, if_pos (by unfold RD at hr; omega)]
theorem has_form {f : Int → Int → List S33} (h : Form f) {w s lang : Int} (hr : RD w s lang) : zone_Has.f (formP f) w s lang = some (memB w (f lang s), 0) := by
  rw [has_of_valid h.valid hr, widths_form hr]
theorem has_zones {l : List S35} (hv : validP l = true) {w s lang : Int} (hr : RD w s lang) : zone_Has.f l w s lang = some (memB w (canW l lang s), 0) := by
  rw [has_of_valid hv hr, memB_can (valid_ok hv).1]
theorem memB_both {a b : List S35} (ha : OkL a) (hb : OkL b) (what w lang s : Int) : memB w (bothP a b what lang s) = opB what (memB w (canW a lang s)) (memB w (canW b lang s)) := by
  rw [Bool.eq_iff_iff, memB_iff]
  exact both_mem ha hb what lang s w
theorem union_of {a b : List S35} (hv : validP a = true) (hv' : validP b = true) (hl : a.length + b.length ≤ 24) : zone_Union.f a b = some (formP (bothP a b 0), 0) := congrArg some (both_of hv hv' hl 0)
theorem meet_of {a b : List S35} (hv : validP a = true) (hv' : validP b = true) (hl : a.length + b.length ≤ 24) : zone_Meet.f a b = some (formP (bothP a b 1), 0) := congrArg some (both_of hv hv' hl 1)
theorem less_of {a b : List S35} (hv : validP a = true) (hv' : validP b = true) (hl : a.length + b.length ≤ 24) : zone_Less.f a b = some (formP (bothP a b 2), 0) := congrArg some (both_of hv hv' hl 2)
/-! ### the zones of a form rise -/
def LtZ (a b : S35) : Prop := a.f0 < b.f0 ∨ (a.f0 = b.f0 ∧ (a.f1.f0 < b.f1.f0 ∨ (a.f1.f0 = b.f1.f0 ∧ a.f2.f0 < b.f2.f0)))
theorem before_of (w s g w' s' g' : Int) (h : g < g' ∨ (g = g' ∧ (s < s' ∨ (s = s' ∧ w < w')))) : formeref03_Before.f w s g w' s' g' = some true := by
  unfold formeref03_Before.f
  repeat' split
  all_goals rw [decide_eq_true (by omega)]
theorem can_rise : ∀ {x : List S33} {B : Int}, CanF B x → x.Pairwise (fun a b => a.f0 < b.f0)
  | [], _, _ => List.Pairwise.nil
  | r :: l, B, h => by
    obtain ⟨_, h2, h3⟩ := h
    refine List.Pairwise.cons (fun r' hr' => ?_) (can_rise h3)
    have := h3.from_ r' hr'
    omega
theorem loop_low (f : Int → List S33) : ∀ (m : Nat) (s low : Int) (now : List S33), ∀ b ∈ loopP f m s low now, b.1 = low ∨ s ≤ b.1
  | 0, s, low, now, b, hb => by
    simp only [loopP, List.mem_singleton] at hb
    subst hb
    exact .inl rfl
  | m + 1, s, low, now, b, hb => by
    simp only [loopP] at hb
    split at hb
    · have := loop_low f m (s + 1) low now b hb
      omega
    · rcases List.mem_cons.1 hb with rfl | hb
      · exact .inl rfl
      · have := loop_low f m (s + 1) s (f s) b hb
        omega
theorem loop_rise (f : Int → List S33) : ∀ (m : Nat) (s low : Int) (now : List S33), low < s → (loopP f m s low now).Pairwise (fun a b => a.1 < b.1)
  | 0, s, low, now, h => by
    simp only [loopP]
    exact List.pairwise_singleton _ _
  | m + 1, s, low, now, h => by
    simp only [loopP]
    split
    · exact loop_rise f m (s + 1) low now (by omega)
    · refine List.Pairwise.cons (fun b hb => ?_) (loop_rise f m (s + 1) s (f s) (by omega))
      have := loop_low f m (s + 1) s (f s) b hb
      simp only
      omega
theorem loop_can (f : Int → List S33) (hf : ∀ s, CanF 200 (f s)) : ∀ (m : Nat) (s low : Int) (now : List S33), CanF 200 now → ∀ b ∈ loopP f m s low now, CanF 200 b.2.2
  | 0, s, low, now, h, b, hb => by
    simp only [loopP, List.mem_singleton] at hb
    subst hb
    exact h
  | m + 1, s, low, now, h, b, hb => by
    simp only [loopP] at hb
    split at hb
    · exact loop_can f hf m (s + 1) low now h b hb
    · rcases List.mem_cons.1 hb with rfl | hb
      · exact h
      · exact loop_can f hf m (s + 1) s (f s) (hf s) b hb
theorem lang_rise (f : Int → List S33) (hf : ∀ s, CanF 200 (f s)) (lang : Int) : (langP f lang).Pairwise LtZ := by
  unfold langP
  rw [List.pairwise_flatMap]
  refine ⟨fun b hb => ?_, (loop_rise f 250 51 50 (f 50) (by omega)).imp fun {a b} hab x hx y hy => ?_⟩
  · unfold bandZ zonesP
    rw [List.pairwise_map]
    refine (can_rise (loop_can f hf 250 51 50 (f 50) (hf 50) b hb)).imp fun {r r'} h => ?_
    exact .inr ⟨rfl, .inr ⟨rfl, h⟩⟩
  · unfold bandZ zonesP at hx hy
    obtain ⟨r, _, rfl⟩ := List.mem_map.1 hx
    obtain ⟨r', _, rfl⟩ := List.mem_map.1 hy
    exact .inr ⟨rfl, .inl hab⟩
theorem lang_lang {f : Int → List S33} {lang : Int} {z : S35} (h : z ∈ langP f lang) : z.f0 = lang := by
  unfold langP at h
  obtain ⟨b, _, hz⟩ := List.mem_flatMap.1 h
  unfold bandZ zonesP at hz
  obtain ⟨r, _, rfl⟩ := List.mem_map.1 hz
  rfl
theorem form_rise {f : Int → Int → List S33} (hf : ∀ lang s, CanF 200 (f lang s)) : (formP f).Pairwise LtZ := by
  unfold formP
  rw [List.pairwise_append, List.pairwise_append, List.pairwise_append]
  refine ⟨lang_rise _ (hf 0) 0, ⟨lang_rise _ (hf 1) 1, ⟨lang_rise _ (hf 2) 2, lang_rise _ (hf 3) 3, ?_⟩, ?_⟩, ?_⟩
  · intro a ha b hb
    have h1 := lang_lang ha
    have h2 := lang_lang hb
    exact .inl (by omega)
  · intro a ha b hb
    have h1 := lang_lang ha
    rcases List.mem_append.1 hb with hb | hb <;> have h2 := lang_lang hb <;> exact .inl (by omega)
  · intro a ha b hb
    have h1 := lang_lang ha
    rcases List.mem_append.1 hb with hb | hb
    · have h2 := lang_lang hb
      exact .inl (by omega)
    · rcases List.mem_append.1 hb with hb | hb <;> have h2 := lang_lang hb <;> exact .inl (by omega)
theorem count_of {l : List S35} (hv : validP l = true) : zone_Count.f l = some (cntZ (formP (canW l)), 0) := by
  unfold zone_Count.f countR
  rw [if_pos hv]
/-! ### how many readers there are -/
def sumL (g : Int → Int) : Nat → Int → Int
  | 0, _ => 0
  | m + 1, s => g s + sumL g m (s + 1)
theorem sumL_add (g h : Int → Int) : ∀ (m : Nat) (s : Int), sumL (fun n => g n + h n) m s = sumL g m s + sumL h m s
  | 0, _ => rfl
  | m + 1, s => by
    simp only [sumL, sumL_add g h m (s + 1)]
    omega
theorem sumL_congr {g h : Int → Int} : ∀ (m : Nat) (s : Int), (∀ n, s ≤ n → n < s + m → g n = h n) → sumL g m s = sumL h m s
  | 0, _, _ => rfl
  | m + 1, s, hg => by
    simp only [sumL]
    rw [hg s (Int.le_refl _) (by omega), sumL_congr m (s + 1) fun n h1 h2 => hg n (by omega) (by omega)]
def lenW (x : List S33) : Int := (x.map fun r => r.f1 - r.f0 + 1).sum
def ind (x : List S33) (n : Int) : Int := if memB n x = true then 1 else 0
theorem sum_zero : ∀ (m : Nat) (s : Int), sumL (fun _ => 0) m s = 0
  | 0, _ => rfl
  | m + 1, s => by
    simp only [sumL, sum_zero m (s + 1)]
    rfl
theorem ind_one (r : S33) : ∀ (m : Nat) (s : Int), r.f0 ≤ r.f1 → r.f1 < s + m → sumL (ind [r]) m s = if s ≤ r.f0 then r.f1 - r.f0 + 1 else if s ≤ r.f1 then r.f1 - s + 1 else 0
  | 0, s, h1, h2 => by
    simp only [sumL]
    split
    · omega
    · split <;> omega
  | m + 1, s, h1, h2 => by
    simp only [sumL]
    rw [ind_one r m (s + 1) h1 (by omega)]
    have e : ind [r] s = if r.f0 ≤ s ∧ s ≤ r.f1 then 1 else 0 := by
      simp [ind, memB]
    rw [e]
    repeat' split
    all_goals omega
theorem ind_len : ∀ {x : List S33} {B : Int}, CanF B x → ∀ (m : Nat) (s : Int), s ≤ B → (∀ r ∈ x, r.f1 < s + m) → sumL (ind x) m s = lenW x
  | [], _, _, m, s, _, _ => by
    have e : ind ([] : List S33) = fun _ => 0 := rfl
    rw [e, sum_zero]
    rfl
  | r :: l, B, h, m, s, hs, hm => by
    obtain ⟨h1, h2, h3⟩ := h
    have e : ∀ n, ind (r :: l) n = ind [r] n + ind l n := fun n => by
      have e1 : memB n (r :: l) = (memB n [r] || memB n l) := by simp [memB]
      unfold ind
      rw [e1]
      cases hb : memB n [r] with
      | false => simp
      | true =>
        have : memB n l = false := memB_false fun hmn => by
          have := h3.low hmn
          have := memB_iff.1 hb
          obtain ⟨r', hr', h5, h6⟩ := this
          rw [List.mem_singleton] at hr'
          subst hr'
          omega
        rw [this]
        rfl
    rw [sumL_congr m s (g := ind (r :: l)) (h := fun n => ind [r] n + ind l n) (fun n _ _ => e n), sumL_add, ind_one r m s h2 (hm r List.mem_cons_self), if_pos (by omega), ind_len h3 m s (by omega) (fun r' hr' => hm r' (List.mem_cons_of_mem _ hr'))]
    simp [lenW]
/-- The readers of a zone. -/
def wt (z : S35) : Int := (z.f1.f1 - z.f1.f0 + 1) * (z.f2.f1 - z.f2.f0 + 1)
theorem wt_bound {z : S35} (h : okZ z) : 0 ≤ wt z ∧ wt z ≤ 954051 := by
  unfold okZ okR at h
  have a1 : 0 ≤ z.f1.f1 - z.f1.f0 + 1 := by omega
  have a2 : z.f1.f1 - z.f1.f0 + 1 ≤ 251 := by omega
  have b1 : 0 ≤ z.f2.f1 - z.f2.f0 + 1 := by omega
  have b2 : z.f2.f1 - z.f2.f0 + 1 ≤ 3801 := by omega
  unfold wt
  exact ⟨Int.mul_nonneg a1 b1, Int.le_trans (Int.mul_le_mul a2 b2 b1 (by omega)) (by omega)⟩
theorem step_wt {z : S35} (h : okZ z) {n : Int} (h0 : 0 ≤ n) (h1 : n ≤ 1000000000000) : wrap64 (n + wrap64 (wrap64 (wrap64 (z.f1.f1 - z.f1.f0) + 1) * wrap64 (wrap64 (z.f2.f1 - z.f2.f0) + 1))) = n + wt z := by
  have hw := wt_bound h
  unfold okZ okR at h
  rw [wrap_id (x := z.f1.f1 - z.f1.f0) (by omega) (by omega), wrap_id (x := z.f1.f1 - z.f1.f0 + 1) (by omega) (by omega), wrap_id (x := z.f2.f1 - z.f2.f0) (by omega) (by omega), wrap_id (x := z.f2.f1 - z.f2.f0 + 1) (by omega) (by omega)]
  rw [show (z.f1.f1 - z.f1.f0 + 1) * (z.f2.f1 - z.f2.f0 + 1) = wt z from rfl, wrap_id (x := wt z) (by omega) (by omega), wrap_id (by omega) (by omega)]
theorem cnt_fold : ∀ (zs : List S35) (n : Int), OkL zs → 0 ≤ n → n + 954051 * zs.length ≤ 1000000000000 → zs.foldl (fun n z => wrap64 (n + wrap64 (wrap64 (wrap64 (z.f1.f1 - z.f1.f0) + 1) * wrap64 (wrap64 (z.f2.f1 - z.f2.f0) + 1)))) n = n + (zs.map wt).sum
  | [], n, _, _, _ => by simp
  | z :: zs, n, ho, h0, h1 => by
    have hz := ho z List.mem_cons_self
    have hw := wt_bound hz
    rw [List.length_cons] at h1
    rw [List.foldl_cons, step_wt hz h0 (by omega), cnt_fold zs (n + wt z) (fun y hy => ho y (List.mem_cons_of_mem _ hy)) (by omega) (by omega), List.map_cons, List.sum_cons]
    omega
theorem cnt_sum {zs : List S35} (ho : OkL zs) (hl : zs.length ≤ 1000) : cntZ zs = (zs.map wt).sum := by
  unfold cntZ
  rw [cnt_fold zs 0 ho (by omega) (by omega), Int.zero_add]
theorem wt_band (lang : Int) (b : Int × Int × List S33) : ((bandZ lang b).map wt).sum = (b.2.1 - b.1 + 1) * lenW b.2.2 := by
  obtain ⟨lo, hi, x⟩ := b
  unfold bandZ zonesP lenW
  simp only
  induction x with
  | nil => simp
  | cons r l ih =>
    rw [List.map_cons, List.map_cons, List.sum_cons, List.map_cons, List.sum_cons, ih, Int.mul_add]
    rfl
theorem wt_loop (f : Int → List S33) (lang : Int) : ∀ (m : Nat) (s low : Int) (now : List S33), (((loopP f m s low now).flatMap (bandZ lang)).map wt).sum = (s - low) * lenW now + sumL (fun t => lenW (f t)) m s
  | 0, s, low, now => by
    simp only [loopP, List.flatMap_cons, List.flatMap_nil, List.append_nil, sumL, Int.add_zero]
    rw [wt_band]
    simp only
    rw [show s - 1 - low + 1 = s - low by omega]
  | m + 1, s, low, now => by
    simp only [loopP]
    split
    · rename_i h
      rw [wt_loop f lang m (s + 1) low now]
      simp only [sumL]
      rw [h, show s + 1 - low = (s - low) + 1 by omega, Int.add_mul, Int.one_mul]
      omega
    · rw [List.flatMap_cons, List.map_append, List.sum_append, wt_band, wt_loop f lang m (s + 1) s (f s)]
      simp only [sumL]
      rw [show s - 1 - low + 1 = s - low by omega, show s + 1 - s = 1 by omega, Int.one_mul]
theorem wt_lang (f : Int → List S33) (lang : Int) : ((langP f lang).map wt).sum = sumL (fun t => lenW (f t)) 251 50 := by
  unfold langP
  rw [wt_loop]
  show (51 - 50) * lenW (f 50) + sumL (fun t => lenW (f t)) 250 51 = lenW (f 50) + sumL (fun t => lenW (f t)) 250 (50 + 1)
  rw [show (51 : Int) - 50 = 1 by omega, Int.one_mul]
  rfl
def total (f : Int → Int → List S33) : Int := sumL (fun t => lenW (f 0 t)) 251 50 + (sumL (fun t => lenW (f 1 t)) 251 50 + (sumL (fun t => lenW (f 2 t)) 251 50 + sumL (fun t => lenW (f 3 t)) 251 50))
theorem cnt_form {f : Int → Int → List S33} (h : Form f) : cntZ (formP f) = total f := by
  rw [cnt_sum h.okL (by have := h.short; omega)]
  unfold formP total
  simp only [List.map_append, List.sum_append, wt_lang]
theorem len_both {a b : List S35} (ha : OkL a) (hb : OkL b) (lang s : Int) : lenW (bothP a b 0 lang s) + lenW (bothP a b 1 lang s) = lenW (canW a lang s) + lenW (canW b lang s) := by
  have e : ∀ {x : List S33}, CanF 200 x → (∀ r ∈ x, okR 200 4000 r) → lenW x = sumL (ind x) 3801 200 := fun {x} hc ho => (ind_len hc 3801 200 (Int.le_refl _) (fun r hr => by have := (ho r hr).2.2; omega)).symm
  rw [e (bothP_can ha hb 0 lang s) (both_ok ha hb 0 lang s), e (bothP_can ha hb 1 lang s) (both_ok ha hb 1 lang s), e (canW_can ha lang s).1 (canW_ok ha lang s), e (canW_can hb lang s).1 (canW_ok hb lang s), ← sumL_add, ← sumL_add]
  refine sumL_congr _ _ fun n _ _ => ?_
  unfold ind
  rw [memB_both ha hb, memB_both ha hb]
  cases memB n (canW a lang s) <;> cases memB n (canW b lang s) <;> rfl
theorem total_both {a b : List S35} (ha : OkL a) (hb : OkL b) : total (bothP a b 0) + total (bothP a b 1) = total (canW a) + total (canW b) := by
  have h : ∀ lang, sumL (fun t => lenW (bothP a b 0 lang t)) 251 50 + sumL (fun t => lenW (bothP a b 1 lang t)) 251 50 = sumL (fun t => lenW (canW a lang t)) 251 50 + sumL (fun t => lenW (canW b lang t)) 251 50 := fun lang => by
    rw [← sumL_add, ← sumL_add]
    exact sumL_congr _ _ fun n _ _ => len_both ha hb lang n
  have h0 := h 0
  have h1 := h 1
  have h2 := h 2
  have h3 := h 3
  unfold total
  omega
theorem canW_at {f : Int → Int → List S33} (h : ∀ lang s, CanF 200 (f lang s)) {lang s : Int} (h0 : 0 ≤ lang) (h1 : lang < 4) (h2 : 50 ≤ s) (h3 : s ≤ 300) : canW (formP f) lang s = f lang s := by
  unfold canW
  rw [widthsOf_formP, if_pos ⟨h0, h1, h2, h3⟩, layAll_self (h lang s)]
/-- Meet and what is left make the first list again. -/
theorem again_of {a b : List S35} (ha : OkL a) (hb : OkL b) (hl : a.length + b.length ≤ 24) : zone_Union.f (formP (bothP a b 1)) (formP (bothP a b 2)) = some (formP (canW a), 0) := by
  have f1 := both_form ha hb hl 1
  have f2 := both_form ha hb hl 2
  have e : formP (bothP (formP (bothP a b 1)) (formP (bothP a b 2)) 0) = formP (canW a) := by
    refine formP_congr fun lang s h0 h1 h2 h3 => ?_
    refine can_uniq (bothP_can f1.okL f2.okL 0 lang s) (canW_can ha lang s).1 fun n => ?_
    rw [both_mem f1.okL f2.okL, canW_at f1.can h0 h1 h2 h3, canW_at f2.can h0 h1 h2 h3, memB_both ha hb, memB_both ha hb, ← memB_iff]
    cases memB n (canW a lang s) <;> cases memB n (canW b lang s) <;> decide
  have hs := (canW_form ha (by omega)).short
  unfold zone_Union.f formR
  rw [f1.valid, f2.valid, if_pos (by rfl), e, if_neg (by omega)]
end Go.Proofs.Ytacohlafmbhcdaa.Plain
