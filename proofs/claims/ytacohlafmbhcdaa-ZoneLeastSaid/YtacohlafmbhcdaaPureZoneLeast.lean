/- The plain statement of ZoneLeast: there is a least reader exactly if there is a zone; it is in one of them, and no reader that is comes before it. -/
import Derived.Test.YtacohlafmbhcdaaStmZoneLeast
import Derived.Test.YtacohlafmbhcdaaZPlain
namespace Go.Proofs.Ytacohlafmbhcdaa.ZoneLeastPure
open Go.RowKit Go.Proofs.Ytacohlafmbhcdaa.PAll Go.Proofs.Ytacohlafmbhcdaa.Plain Go.Proofs.YtacohlafmbhcdaaW.PrintWords Go.Proofs.YtacohlafmbhcdaaW.PrintLast Go.Proofs.YtacohlafmbhcdaaW.PrintMore Go.Proofs.YtacohlafmbhcdaaGopen

def c3 (x y : Int) : Int := if x < y then -1 else if x > y then 1 else 0
theorem compare_of (x y : Int) : cmp_Compare_int.f x y = some (c3 x y) := by
  unfold cmp_Compare_int.f cmp_isNaN_int.f c3
  simp only [Option.bind_some]
  rw [if_neg (by simp), if_neg (by simp)]
  split
  · rfl
  · split <;> rfl
theorem or_loop (a b c : Int) : cmp_Or_int.f 4 [a, b, c] = some (if a = 0 then (if b = 0 then c else b) else a) := by
  unfold cmp_Or_int.f
  by_cases ha : a = 0
  · by_cases hb : b = 0
    · by_cases hc : c = 0
      · subst ha hb hc
        simp [cmp_Or_int.l0, rd, wrap64]
      · subst ha hb
        simp [cmp_Or_int.l0, rd, wrap64, hc]
    · subst ha
      simp [cmp_Or_int.l0, rd, wrap64, hb]
  · simp [cmp_Or_int.l0, rd, ha]
def Lt (a b : S35) : Prop := a.f0 < b.f0 ∨ (a.f0 = b.f0 ∧ (a.f1.f0 < b.f1.f0 ∨ (a.f1.f0 = b.f1.f0 ∧ a.f2.f0 < b.f2.f0)))
def ordP (a b : S35) : Int := if c3 a.f0 b.f0 = 0 then (if c3 a.f1.f0 b.f1.f0 = 0 then c3 a.f2.f0 b.f2.f0 else c3 a.f1.f0 b.f1.f0) else c3 a.f0 b.f0
theorem ordP_lt (a b : S35) : ordP a b < 0 ↔ Lt a b := by
  unfold ordP Lt c3
  repeat' split
  all_goals omega
theorem least1_of (a b : S35) : ∀ k, 4 ≤ k → zone_Least_1.f k a.f0 a.f1.f0 a.f1.f1 a.f2.f0 a.f2.f1 b.f0 b.f1.f0 b.f1.f1 b.f2.f0 b.f2.f1 = some (ordP a b) := fun k hk => by
  unfold zone_Least_1.f
  rw [compare_of, Option.bind_some, compare_of, Option.bind_some, compare_of, Option.bind_some]
  have := at_rounds (fun k => cmp_Or_int.mono [c3 a.f0 b.f0, c3 a.f1.f0 b.f1.f0, c3 a.f2.f0 b.f2.f0] k) hk (or_loop (c3 a.f0 b.f0) (c3 a.f1.f0 b.f1.f0) (c3 a.f2.f0 b.f2.f0))
  rw [this]
  rfl
theorem min_loop (l : List S35) (hl : l.length ≤ 1000) : ∀ (d i : Nat) (m : S35), i + d = l.length → m ∈ l → (∀ j (h : j < l.length), j < i → ¬ Lt l[j] m) →
    ∃ r, r ∈ l ∧ (∀ z ∈ l, ¬ Lt z r) ∧ Ev (fun k => api_Zone_35.l0 k l (i : Int) m.f0 m.f1.f0 m.f1.f1 m.f2.f0 m.f2.f1) (r.f0, r.f1.f0, r.f1.f1, r.f2.f0, r.f2.f1)
  | 0, i, m, hi, hm, hlt => by
    refine ⟨m, hm, fun z hz => ?_, Ev.step (f := fun _ => some (m.f0, m.f1.f0, m.f1.f1, m.f2.f0, m.f2.f1)) (fun k => ?_) (Ev.now _)⟩
    · obtain ⟨j, hj, rfl⟩ := List.getElem_of_mem hz
      exact hlt j hj (by omega)
    · simp only [api_Zone_35.l0]
      rw [if_neg (by omega)]
  | d + 1, i, m, hi, hm, hlt => by
    have h : i < l.length := by omega
    by_cases ho : Lt l[i] m
    · obtain ⟨r, hr, hz, he⟩ := min_loop l hl d (i + 1) l[i] (by omega) (List.getElem_mem h) (fun j hj hji => by
        by_cases e : j = i
        · subst e
          unfold Lt
          omega
        · have := hlt j hj (by omega)
          unfold Lt at *
          omega)
      refine ⟨r, hr, hz, ?_⟩
      obtain ⟨K, hK⟩ := he
      refine ⟨K + 5, fun k hk => ?_⟩
      obtain ⟨k, rfl⟩ : ∃ q, k = q + 1 := ⟨k - 1, by omega⟩
      show api_Zone_35.l0 (k + 1) l (i : Int) m.f0 m.f1.f0 m.f1.f1 m.f2.f0 m.f2.f1 = _
      simp only [api_Zone_35.l0]
      rw [if_pos (by omega), if_pos (by omega), rd35_at h, least1_of l[i] m k (by omega), Option.bind_some, if_pos ((ordP_lt _ _).2 ho), wrap_id (by omega) (by omega)]
      exact hK k (by omega)
    · obtain ⟨r, hr, hz, he⟩ := min_loop l hl d (i + 1) m (by omega) hm (fun j hj hji => by
        by_cases e : j = i
        · subst e
          exact ho
        · exact hlt j hj (by omega))
      refine ⟨r, hr, hz, ?_⟩
      obtain ⟨K, hK⟩ := he
      refine ⟨K + 5, fun k hk => ?_⟩
      obtain ⟨k, rfl⟩ : ∃ q, k = q + 1 := ⟨k - 1, by omega⟩
      show api_Zone_35.l0 (k + 1) l (i : Int) m.f0 m.f1.f0 m.f1.f1 m.f2.f0 m.f2.f1 = _
      simp only [api_Zone_35.l0]
      rw [if_pos (by omega), if_pos (by omega), rd35_at h, least1_of l[i] m k (by omega), Option.bind_some, if_neg (fun h1 => ho ((ordP_lt _ _).1 h1)), wrap_id (by omega) (by omega)]
      exact hK k (by omega)
theorem least_of {l : List S35} (hv : validP l = true) (hn : 0 < l.length) : ∃ r, r ∈ l ∧ (∀ z ∈ l, ¬ Lt z r) ∧ Ev (fun k => zone_Least.f k l) (r.f2.f0, r.f1.f0, r.f0, true, 0) := by
  obtain ⟨r, hr, hz, K, hK⟩ := min_loop l (valid_ok hv).2 (l.length - 1) 1 l[0] (by omega) (List.getElem_mem hn) (fun j hj hji => by
    obtain rfl : j = 0 := by omega
    unfold Lt
    omega)
  refine ⟨r, hr, hz, K, fun k hk => ?_⟩
  have h := hK k hk
  show zone_Least.f k l = _
  unfold zone_Least.f zone_Valid.f
  rw [hv, Option.bind_some, if_pos rfl, if_neg (by omega)]
  unfold api_Zone_35.f
  have e := rd35_at hn
  rw [if_neg (by omega), if_pos (by omega), show rd_T35 l 0 = l[0] from e]
  replace h : api_Zone_35.l0 k l 1 l[0].f0 l[0].f1.f0 l[0].f1.f1 l[0].f2.f0 l[0].f2.f1 = _ := h
  rw [h, Option.bind_some]
theorem before_of (w s g w' s' g' : Int) (h : g < g' ∨ (g = g' ∧ (s < s' ∨ (s = s' ∧ w < w')))) : formeref03_Before.f w s g w' s' g' = some true := by
  unfold formeref03_Before.f
  repeat' split
  all_goals rw [decide_eq_true (by omega)]
theorem proved : ZoneLeastStm.Pure := by
  intro l a h0 h1
  obtain ⟨w, s, lang⟩ := a
  have hl : l.length ≤ 4000000000000000000 := by have := h0.1; omega
  clear h0 h1
  obtain ⟨KU, hU⟩ := usable_ev l [] hl (by simp)
  replace hU : ∀ k, KU ≤ k → formelaw03_usable.f k l [] = some (decide (l.length + ([] : List S35).length ≤ 24) && (validP l && validP [])) := hU
  show ∃ k, formelaw03_ZoneLeast.f k l w s lang = some true
  cases hu : (decide (l.length + ([] : List S35).length ≤ 24) && (validP l && validP [])) with
  | true =>
    rw [hu] at hU
    rw [Bool.and_eq_true, Bool.and_eq_true, decide_eq_true_eq] at hu
    obtain ⟨h24, hv, _⟩ := hu
    by_cases hn : 0 < l.length
    · obtain ⟨m, hm, hz, KM, hM⟩ := least_of hv hn
      replace hM : ∀ k, KM ≤ k → zone_Least.f k l = some (m.f2.f0, m.f1.f0, m.f0, true, 0) := hM
      have hokm := (valid_ok hv).1 m hm
      have hRm : RD m.f2.f0 m.f1.f0 m.f0 := by
        unfold okZ okR at hokm
        unfold RD
        omega
      have hin : memB m.f2.f0 (widthsOf l m.f0 m.f1.f0) = true := by
        rw [← any_mem]
        refine List.any_eq_true.2 ⟨m, hm, ?_⟩
        unfold okZ okR at hokm
        simp only [inB, Bool.and_eq_true, decide_eq_true_eq]
        exact ⟨trivial, ⟨Int.le_refl _, by omega⟩, Int.le_refl _, by omega⟩
      have hh := has_of_valid hv hRm
      rw [hin] at hh
      refine ⟨KU + KM + 2, ?_⟩
      unfold formelaw03_ZoneLeast.f formelaw03_head.f
      rw [Option.bind_some, hU _ (by omega), Option.bind_some, if_pos rfl, hM _ (by omega), Option.bind_some]
      simp only [if_true]
      rw [show (true != decide ((l.length : Int) > 0)) = false by rw [decide_eq_true (by omega)]; rfl]
      simp only [formelaw03_ZoneLeast.j0]
      rw [if_neg (by simp)]
      simp only [if_true]
      rw [hh, Option.bind_some]
      simp only [if_true]
      by_cases hr : RD w s lang
      · rw [reader_yes hr, Option.bind_some]
        simp only [formelaw03_ZoneLeast.j1]
        rw [if_neg (by simp), has_of_valid hv hr, Option.bind_some]
        simp only [if_true]
        cases ho : memB w (widthsOf l lang s) with
        | false => rfl
        | true =>
          rw [if_pos rfl]
          rw [← any_mem] at ho
          obtain ⟨z, hzl, hzi⟩ := List.any_eq_true.1 ho
          have hnz := hz z hzl
          unfold inB at hzi
          simp only [Bool.and_eq_true, decide_eq_true_eq] at hzi
          unfold Lt at hnz
          split
          · rfl
          · rename_i hne
            simp only [Bool.and_eq_true, beq_iff_eq] at hne
            rw [before_of _ _ _ _ _ _ (by omega), Option.bind_some]
      · rw [reader_no hr, Option.bind_some]
        simp only [formelaw03_ZoneLeast.j1]
        rfl
    · have e : l = [] := List.eq_nil_of_length_eq_zero (by omega)
      subst e
      refine ⟨KU + 2, ?_⟩
      unfold formelaw03_ZoneLeast.f formelaw03_head.f
      rw [Option.bind_some, hU _ (by omega), Option.bind_some, if_pos rfl]
      rfl
  | false =>
    rw [hu] at hU
    refine ⟨KU, ?_⟩
    unfold formelaw03_ZoneLeast.f formelaw03_head.f
    rw [Option.bind_some, hU _ (by omega), Option.bind_some, if_neg (by simp)]

end Go.Proofs.Ytacohlafmbhcdaa.ZoneLeastPure
