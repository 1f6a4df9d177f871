/- Printed by a program of this session (wip/gprint.py) over the translation, cut to what is named (wip/dcut.py). Not trusted: Lean checks it. -/
import Derived.Test.YtacohlafmbhcdaaGreatPAlld1
namespace Go.Proofs.YtacohlafmbhcdaaGreat.Plain
open Go.RowKit Go.Proofs.YtacohlafmbhcdaaGreat.PAll Go.Proofs.YtacohlafmbhcdaaGreatW.PrintWords Go.Proofs.YtacohlafmbhcdaaGreatW.PrintLast Go.Proofs.YtacohlafmbhcdaaGreatW.PrintMore Go.Proofs.YtacohlafmbhcdaaGreatGlib
theorem wrap_id {x : Int} (h0 : -9223372036854775808 ≤ x) (h1 : x ≤ 9223372036854775807) : wrap64 x = x := by unfold wrap64; omega
/-- What is a reader. -/
def RD (w s lang : Int) : Prop := 0 ≤ lang ∧ lang < 4 ∧ 50 ≤ s ∧ s ≤ 300 ∧ 200 ≤ w ∧ w ≤ 4000
instance (w s lang : Int) : Decidable (RD w s lang) := inferInstanceAs (Decidable (_ ∧ _))
theorem reader_yes {w s lang : Int} (h : RD w s lang) : formeref03_Reader.f w s lang = some true := by
 unfold RD at h
 unfold formeref03_Reader.f
 rw [if_pos (by omega), if_pos (by omega), if_pos (by omega), if_pos (by omega), if_pos (by omega), decide_eq_true (by omega)]
theorem reader_no {w s lang : Int} (h : ¬ RD w s lang) : formeref03_Reader.f w s lang = some false := by
 unfold RD at h
 unfold formeref03_Reader.f
 repeat' split
 all_goals first | rfl | (rw [decide_eq_false (by omega)])
theorem reader_of (w s lang : Int) : formeref03_Reader.f w s lang = some (decide (RD w s lang)) := by
 by_cases h : RD w s lang
 · rw [reader_yes h, decide_eq_true h]
 · rw [reader_no h, decide_eq_false h]
theorem okB_iff (z : S42) : okB z = true ↔ okZ z := by
 simp only [okB, okRB, okZ, okR, Bool.and_eq_true, decide_eq_true_eq]
theorem okB_no {z : S42} (h : ¬ okZ z) : okB z = false := by
 rw [Bool.eq_false_iff]
 exact fun h1 => h ((okB_iff z).1 h1)
theorem zone_of (z : S42) : formeref03_Zone.f z.f0 z.f1.f0 z.f1.f1 z.f2.f0 z.f2.f1 = some (okB z) := by
 unfold formeref03_Zone.f
 by_cases h : okZ z
 · rw [(okB_iff z).2 h]
   unfold okZ okR at h
   rw [reader_yes (by unfold RD; omega), Option.bind_some, if_pos rfl, reader_yes (by unfold RD; omega), Option.bind_some, if_pos rfl, if_pos (by omega), decide_eq_true (by omega)]
 · rw [okB_no h]
   unfold okZ okR at h
   by_cases h1 : RD z.f2.f0 z.f1.f0 z.f0
   · rw [reader_yes h1, Option.bind_some, if_pos rfl]
     by_cases h2 : RD z.f2.f1 z.f1.f1 z.f0
     · rw [reader_yes h2, Option.bind_some, if_pos rfl]
       unfold RD at h1 h2
       split
       · rw [decide_eq_false (by omega)]
       · rfl
     · rw [reader_no h2, Option.bind_some, if_neg (by simp)]
   · rw [reader_no h1, Option.bind_some, if_neg (by simp)]
theorem rvalid_loop (l : List S42) (hl : l.length ≤ 9223372036854775806) : ∀ (d i : Nat), i + d = l.length → Ev (fun k => formeref03_Valid.l0 k l (i : Int)) (decide ((l.length : Int) ≤ 1000) && !((l.drop i).any fun z => !okB z))
 | 0, i, hi => by
  refine Ev.step (f := fun _ => some (decide ((l.length : Int) ≤ 1000))) (fun k => ?_) ?_
  · simp only [formeref03_Valid.l0]
    rw [if_neg (by omega)]
  · rw [List.drop_eq_nil_of_le (by omega)]
    simpa using Ev.now _
 | d + 1, i, hi => by
  have h : i < l.length := by omega
  rw [List.drop_eq_getElem_cons h, List.any_cons]
  cases hb : okB l[i] with
  | true =>
   refine Ev.step (f := fun k => formeref03_Valid.l0 k l ((i + 1 : Nat) : Int)) (fun k => ?_) ?_
   · simp only [formeref03_Valid.l0]
     rw [if_pos (by omega), if_pos (by omega), rd35_at h, zone_of, hb, Option.bind_some, if_pos rfl, wrap_id (by omega) (by omega)]
     rfl
   · simpa using rvalid_loop l hl d (i + 1) (by omega)
  | false =>
   refine Ev.step (f := fun _ => some false) (fun k => ?_) ?_
   · simp only [formeref03_Valid.l0]
     rw [if_pos (by omega), if_pos (by omega), rd35_at h, zone_of, hb, Option.bind_some, if_neg (by simp)]
   · simpa using Ev.now false
theorem rvalid_ev (l : List S42) (hl : l.length ≤ 9223372036854775806) : Ev (fun k => formeref03_Valid.f k l) (validP l) := by
 refine Ev.congr (f := fun k => formeref03_Valid.l0 k l ((0 : Nat) : Int)) (fun k => rfl) ?_
 exact rvalid_loop l hl l.length 0 (by omega)
theorem differ (a b : S42) : (!(a.f0 == b.f0) || ((!(a.f1.f0 == b.f1.f0) || (!(a.f1.f1 == b.f1.f1))) || (!(a.f2.f0 == b.f2.f0) || (!(a.f2.f1 == b.f2.f1))))) = !decide (a = b) := by
 obtain ⟨a0, ⟨a1, a2⟩, ⟨a3, a4⟩⟩ := a
 obtain ⟨b0, ⟨b1, b2⟩, ⟨b3, b4⟩⟩ := b
 rw [Bool.eq_iff_iff]
 simp only [S42.mk.injEq, S40.mk.injEq, Bool.or_eq_true, Bool.not_eq_true', beq_eq_false_iff_ne, decide_eq_false_iff_not, ne_eq]
 omega
theorem same_loop (a b : List S42) (hab : a.length = b.length) (ha : a.length ≤ 9223372036854775806) : ∀ (d i : Nat), i + d = a.length → (∀ j, j < i → a[j]? = b[j]?) → Ev (fun k => formeref03_Same.l0 k a b (i : Int)) (decide (a = b))
 | 0, i, hi, hj => by
  refine Ev.step (f := fun _ => some true) (fun k => ?_) ?_
  · simp only [formeref03_Same.l0]
    rw [if_neg (by omega)]
  · have : a = b := List.ext_getElem? fun j => by
     by_cases h : j < i
     · exact hj j h
     · rw [List.getElem?_eq_none (by omega), List.getElem?_eq_none (by omega)]
    rw [decide_eq_true this]
    exact Ev.now _
 | d + 1, i, hi, hj => by
  have h1 : i < a.length := by omega
  have h2 : i < b.length := by omega
  by_cases he : a[i] = b[i]
  · refine Ev.step (f := fun k => formeref03_Same.l0 k a b ((i + 1 : Nat) : Int)) (fun k => ?_) ?_
    · simp only [formeref03_Same.l0]
      rw [if_pos (by omega), if_pos (by omega), if_pos (by omega), rd35_at h1, rd35_at h2, differ, he, if_neg (by simp), wrap_id (by omega) (by omega)]
      rfl
    · refine same_loop a b hab ha d (i + 1) (by omega) fun j hj' => ?_
      by_cases h : j = i
      · subst h
        rw [List.getElem?_eq_getElem h1, List.getElem?_eq_getElem h2, he]
      · exact hj j (by omega)
  · have hne : ¬ a = b := fun e => he (by subst e; rfl)
    refine Ev.step (f := fun _ => some false) (fun k => ?_) ?_
    · simp only [formeref03_Same.l0]
      rw [if_pos (by omega), if_pos (by omega), if_pos (by omega), rd35_at h1, rd35_at h2, differ, if_pos (by simp [he])]
    · rw [decide_eq_false hne]
      exact Ev.now _
theorem same_ev (a b : List S42) (ha : a.length ≤ 9223372036854775806) : Ev (fun k => formeref03_Same.f k a b) (decide (a = b)) := by
 by_cases h : a.length = b.length
 · refine Ev.congr (f := fun k => formeref03_Same.l0 k a b ((0 : Nat) : Int)) (fun k => ?_) (same_loop a b h ha a.length 0 (by omega) (fun j hj => by omega))
   unfold formeref03_Same.f
   rw [if_pos (by omega)]
   rfl
 · refine Ev.congr (f := fun _ => some false) (fun k => ?_) ?_
   · unfold formeref03_Same.f
     rw [if_neg (by omega)]
   · rw [decide_eq_false (fun e => h (by rw [e]))]
     exact Ev.now _
theorem can_ok {x : List S40} (h : CanF 200 x) (hm : ∀ n, mem n x → n ≤ 4000) : ∀ r ∈ x, okR 200 4000 r := fun r hr =>
 ⟨h.from_ r hr, h.ok r hr, hm r.f1 ⟨r, hr, h.ok r hr, Int.le_refl _⟩⟩
theorem mem_widths {l : List S42} (hl : OkL l) {lang s n : Int} (h : mem n (widthsOf l lang s)) : 200 ≤ n ∧ n ≤ 4000 := by
 obtain ⟨r, hr, h1, h2⟩ := h
 have := widthsOf_ok hl lang s r hr
 unfold okR at this
 omega
theorem canW_ok {l : List S42} (hl : OkL l) (lang s : Int) : ∀ r ∈ canW l lang s, okR 200 4000 r :=
 can_ok (canW_can hl lang s).1 fun n h => (mem_widths hl (((canW_can hl lang s).2 n).1 h)).2
theorem both_mem {a b : List S42} (ha : OkL a) (hb : OkL b) (what lang s n : Int) : mem n (bothP a b what lang s) ↔ opB what (memB n (canW a lang s)) (memB n (canW b lang s)) = true := (opP_can what (canW_can ha lang s).1 (canW_can hb lang s).1).2 n
theorem both_le {a b : List S42} (ha : OkL a) (hb : OkL b) {what lang s n : Int} (h : mem n (bothP a b what lang s)) : n ≤ 4000 := by
 rw [both_mem ha hb] at h
 have h1 : memB n (canW a lang s) = true ∨ memB n (canW b lang s) = true := by
  unfold opB at h
  cases h2 : memB n (canW a lang s) with
  | true => exact .inl rfl
  | false =>
   cases h3 : memB n (canW b lang s) with
   | true => exact .inr rfl
   | false =>
    exfalso
    rw [h2, h3] at h
    split at h
    · cases h
    · split at h <;> cases h
 rcases h1 with h1 | h1
 · exact (mem_widths ha (((canW_can ha lang s).2 n).1 (memB_iff.1 h1))).2
 · exact (mem_widths hb (((canW_can hb lang s).2 n).1 (memB_iff.1 h1))).2
theorem both_ok {a b : List S42} (ha : OkL a) (hb : OkL b) (what lang s : Int) : ∀ r ∈ bothP a b what lang s, okR 200 4000 r :=
 can_ok (bothP_can ha hb what lang s) fun _ h => both_le ha hb h
theorem valid_of_ok {l : List S42} (h : OkL l) (hl : l.length ≤ 1000) : validP l = true := by
 unfold validP
 rw [decide_eq_true (by omega), Bool.true_and, Bool.not_eq_true', Bool.eq_false_iff]
 intro h1
 obtain ⟨z, hz, h2⟩ := List.any_eq_true.1 h1
 have := h z hz
 unfold okZ okR at this
 have h3 : okB z = true := by
  simp only [okB, okRB, Bool.and_eq_true, decide_eq_true_eq]
  omega
 rw [h3] at h2
 cases h2
/-- A form: its zones, well-formed and not too many, and it is its own form. -/
structure Form (f : Int → Int → List S40) : Prop where
 can : ∀ lang s, CanF 200 (f lang s)
 ok : ∀ lang s, ∀ r ∈ f lang s, okR 200 4000 r
 short : (formP f).length ≤ 576
theorem Form.okL {f : Int → Int → List S40} (h : Form f) : OkL (formP f) := formP_ok h.ok
theorem Form.valid {f : Int → Int → List S40} (h : Form f) : validP (formP f) = true := valid_of_ok h.okL (by have := h.short; omega)
theorem both_form {a b : List S42} (ha : OkL a) (hb : OkL b) (hl : a.length + b.length ≤ 24) (what : Int) : Form (bothP a b what) := ⟨bothP_can ha hb what, both_ok ha hb what, formP_short (bothP_few ha hb hl what)⟩
theorem okN : OkL [] := fun z hz => by cases hz
theorem canW_form {a : List S42} (ha : OkL a) (hl : a.length ≤ 24) : Form (canW a) := by
 have h := both_form ha okN (by simpa using hl) 0
 have e : bothP a [] 0 = canW a := by
  funext lang s
  exact bothP_nil a lang s
 rwa [e] at h
theorem Form.again {f : Int → Int → List S40} (h : Form f) : zone_Canon.f (formP f) = some (formP f, 0) := by
 unfold zone_Canon.f formR
 rw [h.valid, if_pos (by rfl), formP_again h.can, if_neg (by have := h.short; omega)]
theorem in_of (z : S42) (w s lang : Int) : formeref03_In.f z.f0 z.f1.f0 z.f1.f1 z.f2.f0 z.f2.f1 w s lang = some (inB w s lang z) := by
 unfold formeref03_In.f inB
 repeat' split
 all_goals
  congr 1
  rw [Bool.eq_iff_iff]
  simp only [Bool.and_eq_true, decide_eq_true_eq, Bool.false_eq_true, false_iff] at *
  omega
def LtZ (a b : S42) : Prop := a.f0 < b.f0 ∨ (a.f0 = b.f0 ∧ (a.f1.f0 < b.f1.f0 ∨ (a.f1.f0 = b.f1.f0 ∧ a.f2.f0 < b.f2.f0)))
theorem before_of (w s g w' s' g' : Int) (h : g < g' ∨ (g = g' ∧ (s < s' ∨ (s = s' ∧ w < w')))) : formeref03_Before.f w s g w' s' g' = some true := by
 unfold formeref03_Before.f
 repeat' split
 all_goals rw [decide_eq_true (by omega)]
def sumL (g : Int → Int) : Nat → Int → Int
 | 0, _ => 0
 | m + 1, s => g s + sumL g m (s + 1)
def lenW (x : List S40) : Int := (x.map fun r => r.f1 - r.f0 + 1).sum
/-- The readers of a zone. -/
def wt (z : S42) : Int := (z.f1.f1 - z.f1.f0 + 1) * (z.f2.f1 - z.f2.f0 + 1)
theorem wt_bound {z : S42} (h : okZ z) : 0 ≤ wt z ∧ wt z ≤ 954051 := by
 unfold okZ okR at h
 have a1 : 0 ≤ z.f1.f1 - z.f1.f0 + 1 := by omega
 have a2 : z.f1.f1 - z.f1.f0 + 1 ≤ 251 := by omega
 have b1 : 0 ≤ z.f2.f1 - z.f2.f0 + 1 := by omega
 have b2 : z.f2.f1 - z.f2.f0 + 1 ≤ 3801 := by omega
 unfold wt
 exact ⟨Int.mul_nonneg a1 b1, Int.le_trans (Int.mul_le_mul a2 b2 b1 (by omega)) (by omega)⟩
theorem step_wt {z : S42} (h : okZ z) {n : Int} (h0 : 0 ≤ n) (h1 : n ≤ 1000000000000) : wrap64 (n + wrap64 (wrap64 (wrap64 (z.f1.f1 - z.f1.f0) + 1) * wrap64 (wrap64 (z.f2.f1 - z.f2.f0) + 1))) = n + wt z := by
 have hw := wt_bound h
 unfold okZ okR at h
 rw [wrap_id (x := z.f1.f1 - z.f1.f0) (by omega) (by omega), wrap_id (x := z.f1.f1 - z.f1.f0 + 1) (by omega) (by omega), wrap_id (x := z.f2.f1 - z.f2.f0) (by omega) (by omega), wrap_id (x := z.f2.f1 - z.f2.f0 + 1) (by omega) (by omega)]
 rw [show (z.f1.f1 - z.f1.f0 + 1) * (z.f2.f1 - z.f2.f0 + 1) = wt z from rfl, wrap_id (x := wt z) (by omega) (by omega), wrap_id (by omega) (by omega)]
theorem cnt_fold : ∀ (zs : List S42) (n : Int), OkL zs → 0 ≤ n → n + 954051 * zs.length ≤ 1000000000000 → zs.foldl (fun n z => wrap64 (n + wrap64 (wrap64 (wrap64 (z.f1.f1 - z.f1.f0) + 1) * wrap64 (wrap64 (z.f2.f1 - z.f2.f0) + 1)))) n = n + (zs.map wt).sum
 | [], n, _, _, _ => by simp
 | z :: zs, n, ho, h0, h1 => by
  have hz := ho z List.mem_cons_self
  have hw := wt_bound hz
  rw [List.length_cons] at h1
  rw [List.foldl_cons, step_wt hz h0 (by omega), cnt_fold zs (n + wt z) (fun y hy => ho y (List.mem_cons_of_mem _ hy)) (by omega) (by omega), List.map_cons, List.sum_cons]
  omega
theorem cnt_sum {zs : List S42} (ho : OkL zs) (hl : zs.length ≤ 1000) : cntZ zs = (zs.map wt).sum := by
 unfold cntZ
 rw [cnt_fold zs 0 ho (by omega) (by omega), Int.zero_add]
theorem wt_band (lang : Int) (b : Int × Int × List S40) : ((bandZ lang b).map wt).sum = (b.2.1 - b.1 + 1) * lenW b.2.2 := by
 obtain ⟨lo, hi, x⟩ := b
 unfold bandZ zonesP lenW
 simp only
 induction x with
 | nil => simp
 | cons r l ih =>
  rw [List.map_cons, List.map_cons, List.sum_cons, List.map_cons, List.sum_cons, ih, Int.mul_add]
  rfl
theorem wt_loop (f : Int → List S40) (lang : Int) : ∀ (m : Nat) (s low : Int) (now : List S40), (((loopP f m s low now).flatMap (bandZ lang)).map wt).sum = (s - low) * lenW now + sumL (fun t => lenW (f t)) m s
 | 0, s, low, now => by
  simp only [loopP, List.flatMap_cons, List.flatMap_nil, List.append_nil, sumL, Int.add_zero]
  rw [wt_band]
  simp only
  rw [show s - 1 - low + 1 = s - low by omega]
 | m + 1, s, low, now => by
  simp only [loopP]
  split
  · rename_i h
    rw [wt_loop f lang m (s + 1) low now]
    simp only [sumL]
    rw [h, show s + 1 - low = (s - low) + 1 by omega, Int.add_mul, Int.one_mul]
    omega
  · rw [List.flatMap_cons, List.map_append, List.sum_append, wt_band, wt_loop f lang m (s + 1) s (f s)]
    simp only [sumL]
    rw [show s - 1 - low + 1 = s - low by omega, show s + 1 - s = 1 by omega, Int.one_mul]
theorem wt_lang (f : Int → List S40) (lang : Int) : ((langP f lang).map wt).sum = sumL (fun t => lenW (f t)) 251 50 := by
 unfold langP
 rw [wt_loop]
 show (51 - 50) * lenW (f 50) + sumL (fun t => lenW (f t)) 250 51 = lenW (f 50) + sumL (fun t => lenW (f t)) 250 (50 + 1)
 rw [show (51 : Int) - 50 = 1 by omega, Int.one_mul]
 rfl
def total (f : Int → Int → List S40) : Int := sumL (fun t => lenW (f 0 t)) 251 50 + (sumL (fun t => lenW (f 1 t)) 251 50 + (sumL (fun t => lenW (f 2 t)) 251 50 + sumL (fun t => lenW (f 3 t)) 251 50))
theorem cnt_form {f : Int → Int → List S40} (h : Form f) : cntZ (formP f) = total f := by
 rw [cnt_sum h.okL (by have := h.short; omega)]
 unfold formP total
 simp only [List.map_append, List.sum_append, wt_lang]
end Go.Proofs.YtacohlafmbhcdaaGreat.Plain
