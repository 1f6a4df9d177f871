/- The plain statement of ValueMatchesReference: values, variables and functions of the reference are those of the program. -/
import Derived.Test.YtdigjjncoeaiiaaStmValueMatchesReference
import Derived.Test.YtdigjjncoeaiiaaVaFit
namespace Go.Proofs.Ytdigjjncoeaiiaa.ValueMatchesReferencePure
open Go.RowKit Go.Proofs.Ytdigjjncoeaiiaa.PAll Go.Proofs.Ytdigjjncoeaiiaa.Plain Go.Proofs.YtdigjjncoeaiiaaW.PrintWords Go.Proofs.YtdigjjncoeaiiaaW.PrintLast Go.Proofs.YtdigjjncoeaiiaaW.PrintMore Go.Proofs.YtdigjjncoeaiiaaGopen Go.Proofs.YtdigjjncoeaiiaaGlib
set_option linter.unusedSimpArgs false

theorem inI_of {n lo hi : Int} : inI n lo hi = true ↔ lo ≤ n ∧ n ≤ hi := by unfold inI; simp
theorem about_and (s : Int) (v : List Int) : aboutB s v = (inI s 50 300 && v.all coordB) := by unfold aboutB; rw [Bool.and_comm]
theorem reval14_ev (e : S24) (w s x0 x1 x2 x3 x4 x5 x6 x7 : Int) : Ev (fun k => formeref14_Eval.f k e.f0 e.f1 e.f2 w s x0 x1 x2 x3 x4 x5 x6 x7) (evalP e w s [x0, x1, x2, x3, x4, x5, x6, x7]) := by
  unfold formeref14_Eval.f formeref14_about.f
  refine Ev.bind (rvalid_ev e) ?_
  simp only [Option.bind_some]
  rw [evalP_eq, about_and]
  unfold condB
  have hstop : Ev (fun k => formeref14_Eval.j0 k w s true e.f0 e.f1 e.f2 x0 x1 x2 x3 x4 x5 x6 x7) (0, 1) := Ev.zero (fun k => by simp [formeref14_Eval.j0])
  cases hv : validE e with
  | false => simpa using hstop
  | true =>
    cases ha : (inI s 50 300 && [x0, x1, x2, x3, x4, x5, x6, x7].all coordB) with
    | false => simpa using hstop
    | true =>
      simp only [if_true, Bool.true_and, true_and]
      by_cases h0 : w < 0
      · simp only [if_pos h0]
        rw [if_neg (by rw [inI_of]; omega)]
        exact hstop
      · simp only [if_neg h0]
        by_cases h1 : w > 1000000
        · rw [decide_eq_true h1, if_neg (by rw [inI_of]; omega)]
          exact hstop
        · rw [decide_eq_false h1, if_pos (by rw [inI_of]; omega)]
          have hs := inI_of.1 (Bool.and_eq_true _ _ ▸ ha).1
          refine Ev.step (f := fun k => (formeref14_eval.f k e.f0 e.f1 e.f2 w s x0 x1 x2 x3 x4 x5 x6 x7).bind fun bt222 => (if bt222.2 = true then (some (bt222.1, 0)) else (some (0, 3)))) (fun k => by simp [formeref14_Eval.j0]) ?_
          refine Ev.bind (reval_ev (by omega) hs 30 e (valid_wf hv)) ?_
          cases evF w s [x0, x1, x2, x3, x4, x5, x6, x7] 30 e with
          | none => exact Ev.now _
          | some x => exact Ev.now _

/-! ### variables -/
theorem has_var (j : Int) (hj : 0 ≤ j) : ∀ (m : Nat) (e : S24), hasR 4 j m e = true ↔ j ∈ varF m e
  | 0, e => by simp [hasR, varF]
  | m + 1, e => by
    unfold hasR varF
    rw [Bool.or_eq_true, List.mem_append, List.any_eq_true, List.mem_flatMap]
    have h1 : (decide (e.f0 = 4) && (decide (j < 0) || decide (e.f1 = j))) = true ↔ j ∈ (if e.f0 = 4 then [e.f1] else []) := by
      by_cases h : e.f0 = 4
      · rw [if_pos h]
        simp [h]
        constructor
        · rintro (h | h)
          · omega
          · exact h.symm
        · intro h; exact .inr h.symm
      · rw [if_neg h]
        simp [h]
    rw [h1]
    constructor
    · rintro (h | ⟨k, hk, h⟩)
      · exact .inl h
      · exact .inr ⟨k, hk, (has_var j hj m k).1 h⟩
    · rintro (h | ⟨k, hk, h⟩)
      · exact .inl h
      · exact .inr ⟨k, hk, (has_var j hj m k).2 h⟩
def rangeI : Nat → Int → List Int
  | 0, _ => []
  | n + 1, i => i :: rangeI n (i + 1)
theorem uses_loop {e : S24} (hw : wfE 30 e) : ∀ (n : Nat) (i : Int) (acc : List Int), i + n = 9 → 1 ≤ i → acc.length ≤ i → Ev (fun k => formeref14_Uses.l0 k acc i e.f0 e.f1 e.f2) (acc ++ (rangeI n i).filter (fun k => (varF 30 e).contains k), 0)
  | 0, i, acc, h, h1, ha => by
    refine Ev.zero fun k => ?_
    simp only [formeref14_Uses.l0]
    rw [if_neg (by omega)]
    simp [rangeI]
  | n + 1, i, acc, h, h1, ha => by
    refine Ev.step (f := fun k => (formeref14_Has.f k e.f0 e.f1 e.f2 4 i).bind fun t229 => (if t229 = true then (formeref14_Uses.l0 k (acc ++ [i]) (i + 1) e.f0 e.f1 e.f2) else (formeref14_Uses.l0 k acc (i + 1) e.f0 e.f1 e.f2))) (fun k => ?_) ?_
    · simp only [formeref14_Uses.l0]
      rw [if_pos (by omega), wrap64_id (x := i + 1) (by omega) (by omega)]
      simp only [if_pos (show acc.length < 17592186044416 by omega)]
    · refine Ev.bind (has_ev 4 i 30 e hw) ?_
      have hh := has_var i (by omega) 30 e
      unfold rangeI
      rw [List.filter_cons]
      cases hc : hasR 4 i 30 e with
      | true =>
        rw [if_pos (List.contains_iff_mem.2 (hh.1 hc))]
        have := uses_loop hw n (i + 1) (acc ++ [i]) (by omega) (by omega) (by simp; omega)
        simpa using this
      | false =>
        rw [if_neg (by rw [List.contains_iff_mem, ← hh, hc]; simp)]
        have := uses_loop hw n (i + 1) acc (by omega) (by omega) (by omega)
        simpa using this
theorem uses_ev (e : S24) : Ev (fun k => formeref14_Uses.f k e.f0 e.f1 e.f2) (usesP e) := by
  unfold formeref14_Uses.f usesP
  refine Ev.bind (rvalid_ev e) ?_
  cases hv : validE e with
  | false => simpa using Ev.now _
  | true =>
    have := uses_loop (valid_wf hv) 8 1 [] (by omega) (by omega) (by simp)
    simp only [if_true]
    exact this
theorem ints_loop (l : List Int) (hl : l.length < 9000000000000000000) : ∀ (n i : Nat), i + n = l.length → Ev (fun k => formeref02_SameInts.l0 k l l (i : Int)) true
  | 0, i, h => Ev.zero fun k => by simp only [formeref02_SameInts.l0]; rw [if_neg (by omega)]
  | n + 1, i, h => by
    refine Ev.step (fun k => ?_) (ints_loop l hl n (i + 1) (by omega))
    simp only [formeref02_SameInts.l0]
    rw [if_pos (by omega), if_pos (by omega), if_pos (by omega), if_true, wrap_next (by omega)]
theorem ints_ev (l : List Int) (hl : l.length < 9000000000000000000) : Ev (fun k => formeref02_SameInts.f k l l) true := by
  unfold formeref02_SameInts.f
  simp only [if_true]
  exact ints_loop l hl l.length 0 (by omega)
theorem same_loop (l : List S57) (hl : l.length < 9000000000000000000) : ∀ (n i : Nat), i + n = l.length → Ev (fun k => formeref02_Same.l0 k l l (i : Int)) true
  | 0, i, h => Ev.zero fun k => by simp only [formeref02_Same.l0]; rw [if_neg (by omega)]
  | n + 1, i, h => by
    refine Ev.step (fun k => ?_) (same_loop l hl n (i + 1) (by omega))
    simp only [formeref02_Same.l0]
    rw [if_pos (by omega), if_pos (by omega), if_pos (by omega), if_neg (by simp), wrap_next (by omega)]
theorem same_ev (l : List S57) (hl : l.length < 9000000000000000000) : Ev (fun k => formeref02_Same.f k l l) true := by
  unfold formeref02_Same.f
  simp only [if_true]
  exact same_loop l hl l.length 0 (by omega)
theorem uses_len (e : S24) : (usesP e).1.length < 9000000000000000000 := by
  unfold usesP
  split
  · unfold usedL
    have := List.length_filter_le (fun k => (varF 30 e).contains k) [1, 2, 3, 4, 5, 6, 7, 8]
    simp only [List.length_cons, List.length_nil] at this ⊢
    omega
  · simp

/-! ### functions -/
def curveQ (e : S24) (lo hi scale : Int) (v : List Int) : List S57 × Int :=
  if (validE e && (inI scale 50 300 && v.all coordB)) = true ∧ ¬ lo < 0 ∧ ¬ hi < lo ∧ ¬ 4000 < hi then
    (if 4000 ≤ hi - lo then ([], 2) else match valsG (fun z => evF z scale v 30 e) (hi - lo + 1).toNat lo [] with | none => ([], 3) | some ys => makeP lo ys)
  else ([], 1)
theorem pcurve_ev (e : S24) (lo hi s : Int) (v : List Int) : Ev (fun k => curveP k e lo hi s v) (curveQ e lo hi s v) := by
  unfold curveP curveQ
  split
  · split
    · exact Ev.now _
    · cases valsG (fun z => evF z s v 30 e) (hi - lo + 1).toNat lo [] with
      | none => exact Ev.now _
      | some ys => exact pmake_ev lo ys
  · exact Ev.now _
theorem curve_loop {e : S24} {lo hi s x0 x1 x2 x3 x4 x5 x6 x7 : Int} (hw : wfE 30 e) (hs : 50 ≤ s ∧ s ≤ 300) (hlo : 0 ≤ lo) (hhi : hi ≤ 4000) : ∀ (n : Nat) (z : Int) (acc : List Int), (hi - z + 1).toNat = n → lo ≤ z → z ≤ 4001 → acc.length ≤ z →
    Ev (fun k => formeref14_Curve.l0 k s acc z e.f0 e.f1 e.f2 lo hi x0 x1 x2 x3 x4 x5 x6 x7) (match valsG (fun z => evF z s [x0, x1, x2, x3, x4, x5, x6, x7] 30 e) n z acc with | none => ([], 3) | some ys => makeP lo ys)
  | 0, z, acc, h, h1, h2, ha => by
    refine Ev.step (f := fun k => (formeref02_Make.f k lo acc).bind fun bt295 => (some (bt295.1, bt295.2))) (fun k => ?_) (Ev.bind (rmake_ev lo acc) (Ev.now _))
    simp only [formeref14_Curve.l0]
    rw [if_neg (by omega)]
  | n + 1, z, acc, h, h1, h2, ha => by
    refine Ev.step (f := fun k => (formeref14_eval.f k e.f0 e.f1 e.f2 z s x0 x1 x2 x3 x4 x5 x6 x7).bind fun bt290 => (if bt290.2 = true then (formeref14_Curve.l0 k s (acc ++ [bt290.1]) (z + 1) e.f0 e.f1 e.f2 lo hi x0 x1 x2 x3 x4 x5 x6 x7) else (some (([] : List (S57)), 3)))) (fun k => ?_) ?_
    · simp only [formeref14_Curve.l0]
      rw [if_pos (by omega), wrap64_id (x := z + 1) (by omega) (by omega)]
      simp only [if_pos (show acc.length < 17592186044416 by omega)]
    · refine Ev.bind (reval_ev (by omega) hs 30 e hw) ?_
      unfold valsG
      cases evF z s [x0, x1, x2, x3, x4, x5, x6, x7] 30 e with
      | none => exact Ev.now _
      | some x =>
        simp only [pairR, if_true]
        exact curve_loop hw hs hlo hhi n (z + 1) (acc ++ [x]) (by omega) (by omega) (by omega) (by simp; omega)
theorem rcurve_ev (e : S24) {lo hi : Int} (s x0 x1 x2 x3 x4 x5 x6 x7 : Int) (hlo : -9223372036854775808 ≤ lo) (hhi : -9223372036854775808 ≤ hi) : Ev (fun k => formeref14_Curve.f k e.f0 e.f1 e.f2 lo hi s x0 x1 x2 x3 x4 x5 x6 x7) (curveQ e lo hi s [x0, x1, x2, x3, x4, x5, x6, x7]) := by
  unfold formeref14_Curve.f formeref14_about.f
  refine Ev.bind (rvalid_ev e) ?_
  simp only [Option.bind_some]
  rw [about_and]
  unfold curveQ
  have hstop : Ev (fun k => formeref14_Curve.j0 k s true e.f0 e.f1 e.f2 lo hi x0 x1 x2 x3 x4 x5 x6 x7) ([], 1) := Ev.zero (fun k => by simp [formeref14_Curve.j0])
  cases hv : validE e with
  | false => simpa using hstop
  | true =>
    cases ha : (inI s 50 300 && [x0, x1, x2, x3, x4, x5, x6, x7].all coordB) with
    | false => simpa using hstop
    | true =>
      simp only [if_true, Bool.true_and, true_and]
      by_cases h0 : lo < 0
      · simp only [if_pos h0]
        rw [if_neg (by omega)]
        exact hstop
      simp only [if_neg h0]
      by_cases h1 : lo > hi
      · simp only [if_pos h1]
        rw [if_neg (by omega)]
        exact hstop
      simp only [if_neg h1]
      by_cases h2 : hi > 4000
      · rw [decide_eq_true h2, if_neg (by omega)]
        exact hstop
      rw [decide_eq_false h2, if_pos (by omega)]
      have hs := inI_of.1 (Bool.and_eq_true _ _ ▸ ha).1
      refine Ev.step (f := fun k => if 4000 ≤ hi - lo then some ([], 2) else formeref14_Curve.l0 k s [] lo e.f0 e.f1 e.f2 lo hi x0 x1 x2 x3 x4 x5 x6 x7) (fun k => ?_) ?_
      · simp only [formeref14_Curve.j0]
        rw [if_neg (by simp), wrap64_id (x := hi - lo) (by omega) (by omega), wrap64_id (x := hi - lo + 1) (by omega) (by omega)]
        by_cases hc : 4000 ≤ hi - lo
        · rw [if_pos (by omega), if_pos hc]
        · rw [if_neg (by omega), if_neg hc]
      · by_cases hc : 4000 ≤ hi - lo
        · simp only [if_pos hc]
          exact Ev.now _
        · simp only [if_neg hc]
          exact curve_loop (valid_wf hv) hs (by omega) (by omega) _ lo [] rfl (by omega) (by omega) (by simp; omega)
theorem split_len : ∀ (k : Nat) (a : Int) (l : List Int), (splitP k a l).length ≤ k
  | 0, a, l => by simp [splitP]
  | k + 1, a, l => by
    unfold splitP
    split
    · simp
    · have := split_len k (a + (lenP l : Int)) (l.drop (lenP l))
      simp only [List.length_cons]
      omega
theorem curve_len (e : S24) (lo hi s : Int) (v : List Int) : (curveQ e lo hi s v).1.length < 9000000000000000000 := by
  have hm : ∀ ys, (makeP lo ys).1.length < 9000000000000000000 := by
    intro ys
    unfold makeP
    split
    · simp
    · split
      · simp
      · have := split_len ys.length lo ys
        show (splitP ys.length lo ys).length < _
        omega
  unfold curveQ
  split
  · split
    · simp
    · split
      · simp
      · exact hm _
  · simp
theorem proved : ValueMatchesReferenceStm.Pure := by
  intro e w s v r _ _ _ _ hr
  obtain ⟨f0, f1, ks⟩ := e
  obtain ⟨x0, x1, x2, x3, x4, x5, x6, x7⟩ := v
  obtain ⟨lo, hi⟩ := r
  have hlo := wf64 hr.1
  have hhi := wf64 hr.2
  have hF : ∃ b, formeref14_Few.f lo hi = some b := by
    unfold formeref14_Few.f
    repeat' split
    all_goals exact ⟨_, rfl⟩
  obtain ⟨b, hF⟩ := hF
  have hj1 : Ev (fun k => formelaw14_ValueMatchesReference.j1 k s true f0 f1 ks x0 x1 x2 x3 x4 x5 x6 x7 lo hi) true := by
    refine Ev.step (f := fun k => if b = true then ((value_Curve.f k f0 f1 ks lo hi s x0 x1 x2 x3 x4 x5 x6 x7).bind fun bt319 => ((formeref14_Curve.f k f0 f1 ks lo hi s x0 x1 x2 x3 x4 x5 x6 x7).bind fun bt323 => ((formeref02_Same.f k bt319.1 bt323.1).bind fun t327 => (if t327 = true then (some (bt319.2 == bt323.2)) else (some false))))) else some true) (fun k => ?_) ?_
    · simp only [formelaw14_ValueMatchesReference.j1, hF, Option.bind_some, if_true]
    · cases b with
      | false => simpa using Ev.now true
      | true =>
        simp only [if_true, value_Curve.f]
        refine Ev.bind (pcurve_ev ⟨f0, f1, ks⟩ lo hi s [x0, x1, x2, x3, x4, x5, x6, x7]) ?_
        refine Ev.bind (rcurve_ev ⟨f0, f1, ks⟩ s x0 x1 x2 x3 x4 x5 x6 x7 hlo.1 hhi.1) ?_
        refine Ev.bind (same_ev _ (curve_len _ lo hi s _)) ?_
        simp only [if_true, beq_self_eq_true]
        exact Ev.now _
  have hj0 : Ev (fun k => formelaw14_ValueMatchesReference.j0 k s true f0 f1 ks x0 x1 x2 x3 x4 x5 x6 x7 lo hi) true := by
    refine Ev.step (f := fun k => (formeref14_Uses.f k f0 f1 ks).bind fun bt313 => (formeref02_SameInts.f k (usesP ⟨f0, f1, ks⟩).1 bt313.1).bind fun t317 => (if t317 = true then (formelaw14_ValueMatchesReference.j1 k s ((usesP ⟨f0, f1, ks⟩).2 == bt313.2) f0 f1 ks x0 x1 x2 x3 x4 x5 x6 x7 lo hi) else (formelaw14_ValueMatchesReference.j1 k s false f0 f1 ks x0 x1 x2 x3 x4 x5 x6 x7 lo hi))) (fun k => ?_) ?_
    · simp only [formelaw14_ValueMatchesReference.j0, value_Uses.f, Option.bind_some, if_true]
    · refine Ev.bind (uses_ev ⟨f0, f1, ks⟩) ?_
      refine Ev.bind (ints_ev _ (uses_len ⟨f0, f1, ks⟩)) ?_
      simp only [if_true, beq_self_eq_true]
      exact hj1
  have hall : Ev (fun k => formelaw14_ValueMatchesReference.f k f0 f1 ks w s x0 x1 x2 x3 x4 x5 x6 x7 lo hi) true := by
    unfold formelaw14_ValueMatchesReference.f
    simp only [formelaw14_head.f, value_Eval.f, value_Valid.f, Option.bind_some, if_true]
    refine Ev.bind (reval14_ev ⟨f0, f1, ks⟩ w s x0 x1 x2 x3 x4 x5 x6 x7) ?_
    refine Ev.bind (rvalid_ev ⟨f0, f1, ks⟩) ?_
    simp only [beq_self_eq_true, if_true]
    exact hj0
  exact hall.rounds

end Go.Proofs.Ytdigjjncoeaiiaa.ValueMatchesReferencePure
