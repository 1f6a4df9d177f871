/- The plain statement of ValueCurves: the function that is made has at each width the value of the expression. -/
import Derived.Test.YtdigjjncoeaiiaaStmValueCurves
import Derived.Test.YtdigjjncoeaiiaaVaParts
namespace Go.Proofs.Ytdigjjncoeaiiaa.ValueCurvesPure
open Go.RowKit Go.Proofs.Ytdigjjncoeaiiaa.PAll Go.Proofs.Ytdigjjncoeaiiaa.Plain Go.Proofs.YtdigjjncoeaiiaaW.PrintWords Go.Proofs.YtdigjjncoeaiiaaW.PrintLast Go.Proofs.YtdigjjncoeaiiaaW.PrintMore Go.Proofs.YtdigjjncoeaiiaaGopen Go.Proofs.YtdigjjncoeaiiaaGlib
set_option linter.unusedSimpArgs false

theorem inI_of {n lo hi : Int} : inI n lo hi = true ↔ lo ≤ n ∧ n ≤ hi := by unfold inI; simp
def curveQ (e : S24) (lo hi scale : Int) (v : List Int) : List S57 × Int :=
  if (validE e && (inI scale 50 300 && v.all coordB)) = true ∧ ¬ lo < 0 ∧ ¬ hi < lo ∧ ¬ 4000 < hi then
    (if 4000 ≤ hi - lo then ([], 2) else match valsG (fun z => evF z scale v 30 e) (hi - lo + 1).toNat lo [] with | none => ([], 3) | some ys => makeP lo ys)
  else ([], 1)
theorem pcurve_ev (e : S24) (lo hi s : Int) (v : List Int) : Ev (fun k => curveP k e lo hi s v) (curveQ e lo hi s v) := by
  unfold curveP curveQ
  split
  · split
    · exact Ev.now _
    · cases valsG (fun z => evF z s v 30 e) (hi - lo + 1).toNat lo [] with
      | none => exact Ev.now _
      | some ys => exact pmake_ev lo ys
  · exact Ev.now _
theorem valsG_all {f : Int → Option Int} : ∀ (n : Nat) (z : Int) (acc ys : List Int), valsG f n z acc = some ys → ∃ xs : List Int, ys = acc ++ xs ∧ xs.length = n ∧ ∀ (j : Nat) (h : j < xs.length), f (z + j) = some xs[j]
  | 0, z, acc, ys, h => by
    obtain rfl := Option.some.inj h
    exact ⟨[], by simp, rfl, fun j h => absurd h (by simp)⟩
  | n + 1, z, acc, ys, h => by
    cases hz : f z with
    | none => unfold valsG at h; rw [hz] at h; cases h
    | some x =>
      have h1 : valsG f n (z + 1) (acc ++ [x]) = some ys := by unfold valsG at h; rw [hz] at h; exact h
      obtain ⟨xs, h2, h3, h4⟩ := valsG_all n (z + 1) (acc ++ [x]) ys h1
      refine ⟨x :: xs, by rw [h2]; simp, by simp [h3], fun j hj => ?_⟩
      cases j with
      | zero => simpa using hz
      | succ j =>
        have := h4 j (by simpa using hj)
        rw [show z + ((j + 1 : Nat) : Int) = z + 1 + (j : Int) by omega, this]
        rfl
theorem valsG_miss {f : Int → Option Int} : ∀ (n : Nat) (z : Int) (acc : List Int), valsG f n z acc = none → ∃ j : Nat, j < n ∧ f (z + j) = none
  | 0, z, acc, h => by cases h
  | n + 1, z, acc, h => by
    cases hz : f z with
    | none => exact ⟨0, by omega, by simpa using hz⟩
    | some x =>
      have h1 : valsG f n (z + 1) (acc ++ [x]) = none := by unfold valsG at h; rw [hz] at h; exact h
      obtain ⟨j, h2, h3⟩ := valsG_miss n (z + 1) (acc ++ [x]) h1
      exact ⟨j + 1, by omega, by rw [show z + ((j + 1 : Nat) : Int) = z + 1 + (j : Int) by omega]; exact h3⟩
/-- Where all is well: each width has its value. -/
def Fine (e : S24) (s : Int) (v : List Int) (l : List S57) (er lo hi : Int) : Prop :=
  (er = 0 → ∀ z, lo ≤ z → z ≤ hi → (evalP e z s v).2 = 0 ∧ atC l z = ((evalP e z s v).1, 0)) ∧ (er = 3 ↔ ∃ z, lo ≤ z ∧ z ≤ hi ∧ (evalP e z s v).2 = 3)
theorem loop_ev {e : S24} {s x0 x1 x2 x3 x4 x5 x6 x7 lo hi : Int} {l : List S57} {er : Int} (hlo : 0 ≤ lo) (hhi : hi ≤ 4000) (hf : Fine e s [x0, x1, x2, x3, x4, x5, x6, x7] l er lo hi) : ∀ (n : Nat) (z : Int) (m : Bool), (hi - z + 1).toNat = n → lo ≤ z → (m = true ↔ ∃ y, lo ≤ y ∧ y < z ∧ y ≤ hi ∧ (evalP e y s [x0, x1, x2, x3, x4, x5, x6, x7]).2 = 3) →
    Ev (fun k => formelaw14_ValueCurves.l0 k s true l er m z e.f0 e.f1 e.f2 lo hi x0 x1 x2 x3 x4 x5 x6 x7) true
  | 0, z, m, hn, hz, hm => by
    refine Ev.zero fun k => ?_
    simp only [formelaw14_ValueCurves.l0]
    rw [if_neg (by omega), if_pos trivial]
    congr 1
    rw [beq_iff_eq, Bool.eq_iff_iff, beq_iff_eq, hf.2, hm]
    constructor
    · rintro ⟨y, h1, h2, h3⟩; exact ⟨y, h1, by omega, h2, h3⟩
    · rintro ⟨y, h1, h2, h3, h4⟩; exact ⟨y, h1, h3, h4⟩
  | n + 1, z, m, hn, hz, hm => by
    have hz2 : z ≤ hi := by omega
    have hnext : ∀ m', (m' = true ↔ m = true ∨ (evalP e z s [x0, x1, x2, x3, x4, x5, x6, x7]).2 = 3) → Ev (fun k => formelaw14_ValueCurves.l0 k s true l er m' (z + 1) e.f0 e.f1 e.f2 lo hi x0 x1 x2 x3 x4 x5 x6 x7) true := by
      intro m' hm'
      refine loop_ev hlo hhi hf n (z + 1) m' (by clear hf hm hm'; omega) (by clear hf hm hm'; omega) ?_
      rw [hm', hm]
      constructor
      · rintro (⟨y, h1, h2, h3, h4⟩ | h)
        · exact ⟨y, h1, by omega, h3, h4⟩
        · exact ⟨z, hz, by omega, hz2, h⟩
      · rintro ⟨y, h1, h2, h3, h4⟩
        by_cases hyz : y = z
        · rw [hyz] at h4; exact .inr h4
        · exact .inl ⟨y, h1, Int.lt_iff_le_and_ne.2 ⟨Int.lt_add_one_iff.1 h2, hyz⟩, h3, h4⟩
    have hj2 : ∀ m', (m' = true ↔ m = true ∨ (evalP e z s [x0, x1, x2, x3, x4, x5, x6, x7]).2 = 3) → Ev (fun k => formelaw14_ValueCurves.j2 k s true l er m' z (evalP e z s [x0, x1, x2, x3, x4, x5, x6, x7]).1 (evalP e z s [x0, x1, x2, x3, x4, x5, x6, x7]).2 e.f0 e.f1 e.f2 lo hi x0 x1 x2 x3 x4 x5 x6 x7) true := by
      intro m' hm'
      refine Ev.step (fun k => ?_) (hnext m' hm')
      simp only [formelaw14_ValueCurves.j2]
      rw [wrap64_id (x := z + 1) (by omega) (by omega)]
      by_cases h0 : er = 0
      · obtain ⟨h1, h2⟩ := hf.1 h0 z hz hz2
        rw [if_pos h0]
        unfold curve_At.f
        rw [h2, Option.bind_some, if_pos h1, if_pos rfl, if_pos rfl]
      · rw [if_neg h0]
    refine Ev.step (f := fun k => if m = true then formelaw14_ValueCurves.j2 k s true l er true z (evalP e z s [x0, x1, x2, x3, x4, x5, x6, x7]).1 (evalP e z s [x0, x1, x2, x3, x4, x5, x6, x7]).2 e.f0 e.f1 e.f2 lo hi x0 x1 x2 x3 x4 x5 x6 x7 else formelaw14_ValueCurves.j2 k s true l er ((evalP e z s [x0, x1, x2, x3, x4, x5, x6, x7]).2 == 3) z (evalP e z s [x0, x1, x2, x3, x4, x5, x6, x7]).1 (evalP e z s [x0, x1, x2, x3, x4, x5, x6, x7]).2 e.f0 e.f1 e.f2 lo hi x0 x1 x2 x3 x4 x5 x6 x7) (fun k => ?_) ?_
    · simp only [formelaw14_ValueCurves.l0]
      rw [if_pos hz2]
      rfl
    · cases m with
      | true => exact hj2 true (by simp)
      | false => exact hj2 _ (by simp)
theorem evalP_fine {e : S24} {w s : Int} {v : List Int} (he : validE e = true) (ha : (inI s 50 300 && v.all coordB) = true) (hw : 0 ≤ w ∧ w ≤ 4000) : evalP e w s v = pairE (evF w s v 30 e) := by
  have hcb : condB w s v = true := by
    unfold condB
    rw [ha, Bool.true_and]
    exact inI_of.2 (by omega)
  rw [evalP_eq, if_pos ⟨he, hcb⟩]
theorem fine_of (e : S24) (s : Int) (v : List Int) (lo hi : Int) (hlo : 0 ≤ lo) (hhi : hi ≤ 4000) (hd : hi - lo < 30) : Fine e s v (curveQ e lo hi s v).1 (curveQ e lo hi s v).2 lo hi := by
  unfold curveQ
  by_cases hc : (validE e && (inI s 50 300 && v.all coordB)) = true
  · by_cases hr : hi < lo
    · rw [if_neg (fun h => h.2.2.1 hr)]
      refine ⟨fun h => by simp at h, ?_⟩
      constructor
      · intro h; simp at h
      · rintro ⟨z, h1, h2, h3⟩; omega
    · rw [if_pos ⟨hc, by omega, hr, by omega⟩, if_neg (by omega)]
      obtain ⟨he, ha⟩ := Bool.and_eq_true_iff.1 hc
      have hev := fun z (h : 0 ≤ z ∧ z ≤ 4000) => evalP_fine (w := z) he ha h
      cases hg : valsG (fun z => evF z s v 30 e) (hi - lo + 1).toNat lo [] with
      | none =>
        obtain ⟨j, h1, h2⟩ := valsG_miss _ _ _ hg
        refine ⟨fun h => by simp at h, ?_⟩
        constructor
        · intro _
          exact ⟨lo + j, by omega, by omega, by rw [hev _ (by omega), h2]; rfl⟩
        · intro _; rfl
      | some ys =>
        obtain ⟨xs, h1, h2, h3⟩ := valsG_all _ _ _ _ hg
        rw [List.nil_append] at h1
        subst h1
        have hv : ValsOk ys := by
          intro x hx
          obtain ⟨j, hj, rfl⟩ := List.getElem_of_mem hx
          exact evF_coord (h3 j hj)
        have hl : ys.length ≤ 4000 := by omega
        have h5 : 1 ≤ ys.length := by omega
        have hb : badM lo ys = false := by
          unfold badM
          rw [decide_eq_false (by omega), decide_eq_false (by omega), decide_eq_false (by omega)]
          simp
          exact fun x hx => hv x hx
        have hm : makeP lo ys = (splitP ys.length lo ys, 0) := by unfold makeP; rw [if_neg (by omega), if_neg (by rw [hb]; simp)]
        show Fine e s v (makeP lo ys).1 (makeP lo ys).2 lo hi
        rw [hm]
        have hz : ∀ z, lo ≤ z → z ≤ hi → ∃ (j : Nat) (h : j < ys.length), z = lo + j ∧ evalP e z s v = (ys[j], 0) := by
          intro z z0 z1
          refine ⟨(z - lo).toNat, by omega, by omega, ?_⟩
          have h4 := h3 (z - lo).toNat (by omega)
          have e1 : lo + ((z - lo).toNat : Int) = z := by omega
          rw [e1] at h4
          rw [hev z (by omega), h4]
          rfl
        refine ⟨fun _ z z0 z1 => ?_, ?_⟩
        · obtain ⟨j, hj, rfl, h6⟩ := hz z z0 z1
          rw [h6]
          exact ⟨rfl, at_made hv hl hlo (by omega) hj⟩
        · constructor
          · intro h; simp at h
          · rintro ⟨z, z0, z1, h4⟩
            obtain ⟨j, hj, h5, h6⟩ := hz z z0 z1
            rw [h6] at h4
            simp at h4
  · rw [if_neg (fun h => hc h.1)]
    refine ⟨fun h => by simp at h, ?_⟩
    constructor
    · intro h; simp at h
    · rintro ⟨z, h1, h2, h3⟩
      rw [evalP_eq, if_neg (fun h => hc (by rw [h.1, Bool.true_and]; exact (Bool.and_eq_true_iff.1 h.2).1))] at h3
      simp at h3
theorem proved : ValueCurvesStm.Pure := by
  intro e r s v _ hr _ _
  obtain ⟨f0, f1, ks⟩ := e
  obtain ⟨x0, x1, x2, x3, x4, x5, x6, x7⟩ := v
  obtain ⟨lo, hi⟩ := r
  have hlo := wf64 hr.1
  have hhi := wf64 hr.2
  have hstop : Ev (fun k => formelaw14_ValueCurves.j0 k s true true f0 f1 ks lo hi x0 x1 x2 x3 x4 x5 x6 x7) true := Ev.zero (fun k => by simp [formelaw14_ValueCurves.j0])
  have hall : Ev (fun k => formelaw14_ValueCurves.f k f0 f1 ks lo hi s x0 x1 x2 x3 x4 x5 x6 x7) true := by
    unfold formelaw14_ValueCurves.f
    simp only [formelaw14_head.f, Option.bind_some]
    by_cases h0 : lo < 0
    · simp only [if_pos h0]; exact hstop
    simp only [if_neg h0]
    by_cases h1 : hi > 4000
    · simp only [if_pos h1]; exact hstop
    simp only [if_neg h1]
    have hw : wrap64 (hi - lo) = hi - lo ∨ 30 ≤ 0 ∨ hi - lo < -9223372036854775808 := by
      by_cases h2 : -9223372036854775808 ≤ hi - lo
      · exact .inl (wrap64_id (by omega) (by omega))
      · exact .inr (.inr (by omega))
    by_cases h2 : wrap64 (hi - lo) ≥ 30
    · rw [decide_eq_true h2]; exact hstop
    rw [decide_eq_false h2]
    have h3 : hi - lo < 30 := by
      rcases hw with h | h | h
      · omega
      · omega
      · omega
    refine Ev.step (f := fun k => (value_Curve.f k f0 f1 ks lo hi s x0 x1 x2 x3 x4 x5 x6 x7).bind fun bt339 => (formelaw14_ValueCurves.l0 k s true bt339.1 bt339.2 false lo f0 f1 ks lo hi x0 x1 x2 x3 x4 x5 x6 x7)) (fun k => by simp [formelaw14_ValueCurves.j0]) ?_
    refine Ev.bind (pcurve_ev ⟨f0, f1, ks⟩ lo hi s [x0, x1, x2, x3, x4, x5, x6, x7]) ?_
    exact loop_ev (e := ⟨f0, f1, ks⟩) (by omega) (by omega) (fine_of ⟨f0, f1, ks⟩ s [x0, x1, x2, x3, x4, x5, x6, x7] lo hi (by omega) (by omega) h3) _ lo false rfl (by omega) (by simp; intro y _ _ ; omega)
  exact hall.rounds

end Go.Proofs.Ytdigjjncoeaiiaa.ValueCurvesPure
