/- The plain statement of ZoneOne: zones that are cut, in the opposite order, and with one of them twice, have the same canonical form; lists of which nothing is left without the other one have the same form. -/
import Derived.Test.YtacohlafmbhcdaaStmZoneOne
import Derived.Test.YtacohlafmbhcdaaZPlain
import Derived.Test.YtacohlafmbhcdaaGlib
namespace Go.Proofs.Ytacohlafmbhcdaa.ZoneOnePure
open Go.RowKit Go.Proofs.Ytacohlafmbhcdaa.PAll Go.Proofs.Ytacohlafmbhcdaa.Plain Go.Proofs.YtacohlafmbhcdaaW.PrintWords Go.Proofs.YtacohlafmbhcdaaW.PrintLast Go.Proofs.YtacohlafmbhcdaaW.PrintMore Go.Proofs.YtacohlafmbhcdaaGopen

def cutZ (width scale : Int) (z : S35) : List S35 :=
  if z.f2.f0 < width ∧ width ≤ z.f2.f1 then [⟨z.f0, z.f1, ⟨width, z.f2.f1⟩⟩, ⟨z.f0, z.f1, ⟨z.f2.f0, width - 1⟩⟩]
  else if z.f1.f0 < scale ∧ scale ≤ z.f1.f1 then [⟨z.f0, ⟨scale, z.f1.f1⟩, z.f2⟩, ⟨z.f0, ⟨z.f1.f0, scale - 1⟩, z.f2⟩] else [z, z]
theorem cutZ_ok {width scale : Int} {z : S35} (h : okZ z) : OkL (cutZ width scale z) := by
  intro y hy
  unfold okZ okR at *
  unfold cutZ at hy
  split at hy
  · simp only [List.mem_cons, List.not_mem_nil, or_false] at hy
    rcases hy with rfl | rfl <;> simp only <;> omega
  · split at hy
    · simp only [List.mem_cons, List.not_mem_nil, or_false] at hy
      rcases hy with rfl | rfl <;> simp only <;> omega
    · simp only [List.mem_cons, List.not_mem_nil, or_false] at hy
      rcases hy with rfl | rfl <;> omega
theorem cutZ_len (width scale : Int) (z : S35) : (cutZ width scale z).length = 2 := by
  unfold cutZ
  split
  · rfl
  · split <;> rfl
theorem cutZ_any (width scale n s lang : Int) (z : S35) : (cutZ width scale z).any (inB n s lang) = inB n s lang z := by
  unfold cutZ
  rw [Bool.eq_iff_iff]
  split
  · simp only [List.any_cons, List.any_nil, Bool.or_false, Bool.or_eq_true, inB, Bool.and_eq_true, decide_eq_true_eq]
    omega
  · split
    · simp only [List.any_cons, List.any_nil, Bool.or_false, Bool.or_eq_true, inB, Bool.and_eq_true, decide_eq_true_eq]
      omega
    · simp
def cutAll (width scale : Int) (l : List S35) : List S35 := l.reverse.flatMap (cutZ width scale)
theorem cutAll_any (width scale n s lang : Int) (l : List S35) : (cutAll width scale l).any (inB n s lang) = l.any (inB n s lang) := by
  unfold cutAll
  rw [List.any_flatMap]
  simp only [cutZ_any]
  rw [List.any_reverse]
theorem cutAll_ok {width scale : Int} {l : List S35} (h : OkL l) : OkL (cutAll width scale l) := by
  intro y hy
  obtain ⟨z, hz, hy⟩ := List.mem_flatMap.1 hy
  exact cutZ_ok (h z (List.mem_reverse.1 hz)) y hy
theorem cutAll_len (width scale : Int) (l : List S35) : (cutAll width scale l).length = 2 * l.length := by
  unfold cutAll
  rw [List.length_flatMap]
  simp only [cutZ_len]
  rw [List.map_const', List.sum_replicate_nat, List.length_reverse]
  omega
theorem canon_same {a c : List S35} (ha : OkL a) (hc : OkL c) (hl : a.length ≤ 24) (hl' : c.length ≤ 1000) (h : ∀ n s lang, c.any (inB n s lang) = a.any (inB n s lang)) : zone_Canon.f c = some (formP (canW a), 0) := by
  have e : formP (canW c) = formP (canW a) := by
    refine formP_congr fun lang s _ _ _ _ => ?_
    refine can_uniq (canW_can hc lang s).1 (canW_can ha lang s).1 fun n => ?_
    rw [(canW_can hc lang s).2, (canW_can ha lang s).2, ← memB_iff, ← memB_iff, ← any_mem, ← any_mem, h n s lang]
  have hs := (canW_form ha hl).short
  unfold zone_Canon.f formR
  rw [valid_of_ok hc hl', if_pos (by rfl), e, if_neg (by omega)]
theorem form_nil {f : Int → Int → List S33} (h : formP f = []) {lang s : Int} (h0 : 0 ≤ lang) (h1 : lang < 4) (h2 : 50 ≤ s) (h3 : s ≤ 300) : f lang s = [] := by
  have e := widthsOf_formP f lang s
  rw [h, if_pos ⟨h0, h1, h2, h3⟩] at e
  exact e.symm
set_option maxRecDepth 100000 in
theorem nil_form : formP (fun _ _ => []) = [] := by kernel_rfl
theorem less_nil {a b : List S35} (ha : OkL a) (hb : OkL b) {lang s : Int} (h : bothP a b 2 lang s = []) (n : Int) (hn : mem n (canW a lang s)) : mem n (canW b lang s) := by
  have h1 := both_mem ha hb 2 lang s n
  rw [h] at h1
  refine Classical.byContradiction fun h2 => ?_
  refine mem_nil (h1.2 ?_)
  rw [memB_iff.2 hn, memB_false h2]
  rfl
theorem less_same {a b : List S35} (ha : OkL a) (hb : OkL b) {lang s : Int} (h : canW a lang s = canW b lang s) : bothP a b 2 lang s = [] := by
  refine can_uniq (A := 200) (B := 200) (bothP_can ha hb 2 lang s) (show CanF 200 [] from trivial) fun n => ?_
  rw [both_mem ha hb, h]
  refine ⟨fun h1 => ?_, fun h1 => (mem_nil h1).elim⟩
  cases hm : memB n (canW b lang s) <;> rw [hm] at h1 <;> cases h1
theorem both_nil {a b : List S35} (ha : OkL a) (hb : OkL b) : ((formP (bothP a b 2)).length + (formP (bothP b a 2)).length = 0) ↔ formP (canW a) = formP (canW b) := by
  constructor
  · intro h
    have e1 : formP (bothP a b 2) = [] := List.eq_nil_of_length_eq_zero (by omega)
    have e2 : formP (bothP b a 2) = [] := List.eq_nil_of_length_eq_zero (by omega)
    refine formP_congr fun lang s h0 h1 h2 h3 => ?_
    refine can_uniq (canW_can ha lang s).1 (canW_can hb lang s).1 fun n => ⟨less_nil ha hb (form_nil e1 h0 h1 h2 h3) n, less_nil hb ha (form_nil e2 h0 h1 h2 h3) n⟩
  · intro h
    have e : ∀ lang s, 0 ≤ lang → lang < 4 → 50 ≤ s → s ≤ 300 → canW a lang s = canW b lang s := fun lang s h0 h1 h2 h3 => by
      rw [← canW_at (fun l t => (canW_can ha l t).1) h0 h1 h2 h3, h, canW_at (fun l t => (canW_can hb l t).1) h0 h1 h2 h3]
    have e1 : formP (bothP a b 2) = [] := (formP_congr fun lang s h0 h1 h2 h3 => less_same ha hb (e lang s h0 h1 h2 h3)).trans nil_form
    have e2 : formP (bothP b a 2) = [] := (formP_congr fun lang s h0 h1 h2 h3 => less_same hb ha (e lang s h0 h1 h2 h3).symm).trans nil_form
    rw [e1, e2]
    rfl
/-- Behind the cut. -/
theorem tail_ev {a b c : List S35} (ha : OkL a) (hb : OkL b) (hv : validP a = true) (hv' : validP b = true) (hl : a.length + b.length ≤ 24) (hc : zone_Canon.f c = some (formP (canW a), 0)) : Ev (fun k => formelaw03_ZoneOne.j2 k a b true c) true := by
  have ca := canon_of hv (show a.length ≤ 24 by omega)
  have cb := canon_of hv' (show b.length ≤ 24 by omega)
  have l1 := less_of hv hv' hl
  have l2 := less_of hv' hv (show b.length + a.length ≤ 24 by omega)
  have hn := both_nil ha hb
  have s1 := (both_form ha hb hl 2).short
  have s2 := (both_form hb ha (show b.length + a.length ≤ 24 by omega) 2).short
  have s3 := (canW_form ha (show a.length ≤ 24 by omega)).short
  obtain ⟨K1, h1⟩ := same_ev (formP (canW a)) (formP (canW a)) (by omega)
  obtain ⟨K2, h2⟩ := same_ev (formP (canW a)) (formP (canW b)) (by omega)
  replace h1 : ∀ k, K1 ≤ k → formeref03_Same.f k (formP (canW a)) (formP (canW a)) = some true := fun k hk => (h1 k hk).trans (by simp)
  replace h2 : ∀ k, K2 ≤ k → formeref03_Same.f k (formP (canW a)) (formP (canW b)) = some (decide (formP (canW a) = formP (canW b))) := h2
  generalize formP (canW a) = x at *
  generalize formP (canW b) = y at *
  generalize formP (bothP a b 2) = p at *
  generalize formP (bothP b a 2) = q at *
  refine ⟨K1 + K2 + 3, fun k hk => ?_⟩
  obtain ⟨k, rfl⟩ : ∃ m, k = m + 2 := ⟨k - 2, by omega⟩
  show formelaw03_ZoneOne.j2 (k + 2) a b true c = some true
  simp only [formelaw03_ZoneOne.j2]
  rw [ca, Option.bind_some, hc, Option.bind_some]
  simp only [if_true]
  rw [h1 _ (by omega), Option.bind_some]
  simp only [formelaw03_ZoneOne.j3]
  rw [if_neg (by simp), l1, Option.bind_some, l2, Option.bind_some, cb, Option.bind_some]
  simp only [if_true]
  rw [h2 _ (by omega), Option.bind_some, wrap_id (by omega) (by omega)]
  congr 1
  rw [beq_iff_eq, Bool.eq_iff_iff, beq_iff_eq, decide_eq_true_iff, ← hn]
  omega
theorem take_snoc {a : List S35} {d : Nat} (h : d < a.length) (width scale : Int) : cutAll width scale (a.take (d + 1)) = cutZ width scale a[d] ++ cutAll width scale (a.take d) := by
  unfold cutAll
  rw [List.take_succ_eq_append_getElem h, List.reverse_append, List.reverse_singleton, List.singleton_append, List.flatMap_cons]
theorem cut_loop {a b : List S35} {width scale which : Int} (ha : OkL a) (hb : OkL b) (hv : validP a = true) (hv' : validP b = true) (hl : a.length + b.length ≤ 24) (hw0 : 0 ≤ which) (hw1 : which ≤ 255) :
    ∀ (d : Nat) (acc : List S35), d ≤ a.length → acc ++ cutAll width scale (a.take d) = cutAll width scale a → Ev (fun k => formelaw03_ZoneOne.l0 k a b width scale which true acc ((d : Int) - 1)) true
  | 0, acc, hd, he => by
    have hacc : acc = cutAll width scale a := by
      rw [← he]
      simp [cutAll]
    subst hacc
    clear he
    have hlen := cutAll_len width scale a
    by_cases h0 : 0 < a.length
    · have hm0 : 0 ≤ Int.tmod which (a.length : Int) := Int.tmod_nonneg _ hw0
      have hm1 : Int.tmod which (a.length : Int) < (a.length : Int) := Int.tmod_lt_of_pos _ (by omega)
      obtain ⟨j, hj⟩ := Int.eq_ofNat_of_zero_le hm0
      have hj1 : j < a.length := by omega
      have hok : OkL (cutAll width scale a ++ [a[j]]) := by
        intro y hy
        rcases List.mem_append.1 hy with hy | hy
        · exact cutAll_ok ha y hy
        · rw [List.mem_singleton] at hy
          subst hy
          exact ha _ (List.getElem_mem hj1)
      have hc := canon_same (c := cutAll width scale a ++ [a[j]]) ha hok (by omega) (by rw [List.length_append, hlen]; simp; omega) fun n s lang => by
        rw [List.any_append, cutAll_any, Bool.eq_iff_iff]
        simp only [List.any_cons, List.any_nil, Bool.or_false, Bool.or_eq_true]
        exact ⟨fun h => h.elim id fun h => List.any_eq_true.2 ⟨_, List.getElem_mem hj1, h⟩, .inl⟩
      refine Ev.step (f := fun k => formelaw03_ZoneOne.j2 k a b true (cutAll width scale a ++ [a[j]])) (fun k => ?_) (tail_ev ha hb hv hv' hl hc)
      simp only [formelaw03_ZoneOne.l0]
      rw [if_neg (by omega), if_pos (by omega), if_neg (by omega), wrap_id (x := which) (by omega) (by omega), hj, if_pos (by omega), if_pos (by omega), if_pos (by omega), rd35_at hj1]
    · have hc := canon_same (c := cutAll width scale a) ha (cutAll_ok ha) (by omega) (by rw [hlen]; omega) fun n s lang => cutAll_any width scale n s lang a
      refine Ev.step (f := fun k => formelaw03_ZoneOne.j2 k a b true (cutAll width scale a)) (fun k => ?_) (tail_ev ha hb hv hv' hl hc)
      simp only [formelaw03_ZoneOne.l0]
      rw [if_neg (by omega), if_neg (by omega)]
  | d + 1, acc, hd, he => by
    have h : d < a.length := by omega
    rw [take_snoc h, ← List.append_assoc] at he
    have ih := cut_loop ha hb hv hv' hl hw0 hw1 d (acc ++ cutZ width scale a[d]) (by omega) he
    have hl2 := congrArg List.length he
    rw [List.length_append, List.length_append, cutZ_len, cutAll_len, cutAll_len] at hl2
    have hz := ha a[d] (List.getElem_mem h)
    obtain ⟨K, hK⟩ := ih
    refine ⟨K + 2, fun k hk => ?_⟩
    obtain ⟨k, rfl⟩ : ∃ m, k = m + 2 := ⟨k - 2, by omega⟩
    have hK' : formelaw03_ZoneOne.l0 k a b width scale which true (acc ++ cutZ width scale a[d]) ((d : Int) - 1) = some true := hK k (by omega)
    show formelaw03_ZoneOne.l0 (k + 2) a b width scale which true acc (((d + 1 : Nat) : Int) - 1) = some true
    rw [show ((d + 1 : Nat) : Int) - 1 = (d : Int) by omega]
    simp only [formelaw03_ZoneOne.l0]
    rw [if_pos (by omega), if_pos (by omega), if_pos (by omega), rd35_at h]
    unfold okZ okR at hz
    have hcut := hK'
    unfold cutZ at hcut
    by_cases hw : a[d].f2.f0 < width ∧ width ≤ a[d].f2.f1
    · rw [if_pos hw] at hcut
      rw [if_pos hw.1, decide_eq_true hw.2]
      simp only [formelaw03_ZoneOne.j1]
      rw [if_pos trivial, Option.bind_some, if_pos (by simp; omega), wrap_id (x := width - 1) (by omega) (by omega), wrap_id (x := (d : Int) - 1) (by omega) (by omega)]
      exact hcut
    · rw [if_neg hw] at hcut
      have hj : formelaw03_ZoneOne.j1 (k + 1) a b width scale which true acc (d : Int) false a[d].f0 a[d].f1.f0 a[d].f1.f1 a[d].f2.f0 a[d].f2.f1 a[d].f0 a[d].f1.f0 a[d].f1.f1 a[d].f2.f0 a[d].f2.f1 = some true := by
        simp only [formelaw03_ZoneOne.j1]
        rw [if_neg (by simp), if_pos (by omega), if_pos (by omega), rd35_at h]
        by_cases hs : a[d].f1.f0 < scale ∧ scale ≤ a[d].f1.f1
        · rw [if_pos hs] at hcut
          rw [if_pos hs.1, if_pos hs.2, Option.bind_some, if_pos (by simp; omega), wrap_id (x := scale - 1) (by omega) (by omega), wrap_id (x := (d : Int) - 1) (by omega) (by omega)]
          exact hcut
        · rw [if_neg hs] at hcut
          have hl3 : acc.length + 2 < 3518437208883 := by omega
          by_cases h1 : a[d].f1.f0 < scale
          · rw [if_pos h1, if_neg (fun h2 => hs ⟨h1, h2⟩), Option.bind_some, if_pos (by simpa using hl3), wrap_id (x := (d : Int) - 1) (by omega) (by omega)]
            exact hcut
          · rw [if_neg h1, Option.bind_some, if_pos (by simpa using hl3), wrap_id (x := (d : Int) - 1) (by omega) (by omega)]
            exact hcut
      by_cases h1 : a[d].f2.f0 < width
      · rw [if_pos h1, decide_eq_false (fun h2 => hw ⟨h1, h2⟩)]
        exact hj
      · rw [if_neg h1]
        exact hj
theorem proved : ZoneOneStm.Pure := by
  intro a b width scale which ha hb _ _ hw
  have hla : a.length ≤ 4000000000000000000 := by have := ha.1; omega
  have hlb : b.length ≤ 4000000000000000000 := by have := hb.1; omega
  clear ha hb
  obtain ⟨KU, hU⟩ := usable_ev a b hla hlb
  replace hU : ∀ k, KU ≤ k → formelaw03_usable.f k a b = some (decide (a.length + b.length ≤ 24) && (validP a && validP b)) := hU
  cases hu : (decide (a.length + b.length ≤ 24) && (validP a && validP b)) with
  | true =>
    rw [hu] at hU
    rw [Bool.and_eq_true, Bool.and_eq_true, decide_eq_true_eq] at hu
    obtain ⟨h24, hva, hvb⟩ := hu
    obtain ⟨KL, hL⟩ := cut_loop (width := width) (scale := scale) (which := which) (valid_ok hva).1 (valid_ok hvb).1 hva hvb h24 (Go.Proofs.YtacohlafmbhcdaaGlib.wfu8 hw).1 (Go.Proofs.YtacohlafmbhcdaaGlib.wfu8 hw).2 a.length [] (Nat.le_refl _) (by rw [List.take_length]; rfl)
    replace hL : ∀ k, KL ≤ k → formelaw03_ZoneOne.l0 k a b width scale which true [] ((a.length : Int) - 1) = some true := hL
    refine ⟨KU + KL, ?_⟩
    unfold formelaw03_ZoneOne.f formelaw03_head.f
    rw [Option.bind_some, hU _ (by omega), Option.bind_some, if_pos rfl, wrap_id (by omega) (by omega)]
    exact hL _ (by omega)
  | false =>
    rw [hu] at hU
    refine ⟨KU, ?_⟩
    unfold formelaw03_ZoneOne.f formelaw03_head.f
    rw [Option.bind_some, hU _ (by omega), Option.bind_some, if_neg (by simp)]

end Go.Proofs.Ytacohlafmbhcdaa.ZoneOnePure
