/- The plain statement of ValueRounds: a multiple divided is the value; a part multiplied is not greater, and less by less than the number. -/
import Derived.Test.YtdigjjncoeaiiaaStmValueRounds
import Derived.Test.YtdigjjncoeaiiaaVaPlain
namespace Go.Proofs.Ytdigjjncoeaiiaa.ValueRoundsPure
open Go.RowKit Go.Proofs.Ytdigjjncoeaiiaa.PAll Go.Proofs.Ytdigjjncoeaiiaa.Plain Go.Proofs.YtdigjjncoeaiiaaW.PrintWords Go.Proofs.YtdigjjncoeaiiaaW.PrintLast Go.Proofs.YtdigjjncoeaiiaaW.PrintMore Go.Proofs.YtdigjjncoeaiiaaGopen Go.Proofs.YtdigjjncoeaiiaaGlib

theorem cnt_one (n : Nat) (op k : Int) (a : S24) : cnt (n + 1) ⟨op, k, [a]⟩ = 1 + cnt n a := by
  show 1 + ([a].map (cnt n)).sum = _
  simp
theorem wf_one {n : Nat} {op k : Int} {a : S24} (h : wfE (n + 1) ⟨op, k, [a]⟩) : wfE n a := h.2 a (by simp)
theorem wfN_7 {k : Int} (a : S24) (h0 : -1000 ≤ k) (h1 : k ≤ 1000) : wfN ⟨7, k, [a]⟩ := ⟨-1000, 1000, 1, rfl, rfl, h0, h1⟩
theorem wfN_8 {k : Int} (a : S24) (h0 : 1 ≤ k) (h1 : k ≤ 1000) : wfN ⟨8, k, [a]⟩ := ⟨1, 1000, 1, rfl, rfl, h0, h1⟩
theorem op7 (w s : Int) (v : List Int) (n x : Int) : opP w s v 7 n [x] = n * x := rfl
theorem op8 (w s : Int) (v : List Int) (n x : Int) : opP w s v 8 n [x] = x / n := rfl
theorem div_coord {x n : Int} (hn : 1 ≤ n) (hx : coordB x = true) : coordB (x / n) = true := by
  have h := coordB_of hx
  have := div_bound (a := x) (n := n) (m := 1000000000) hn h.1 h.2 (by omega)
  unfold coordB
  simp [this.1, this.2]
theorem rounds_law {x : S24} {n w s z : Int} {v : List Int} (h0 : 1 ≤ n) (h1 : n ≤ 1000) (hz : evalP x w s v = (z, 0)) (hb : validE ⟨8, n, [⟨7, n, [x]⟩]⟩ = true) :
    ((evalP ⟨8, n, [⟨7, n, [x]⟩]⟩ w s v).2 = 0 → (evalP ⟨8, n, [⟨7, n, [x]⟩]⟩ w s v).1 = z) ∧ ((evalP ⟨8, n, [⟨7, n, [x]⟩]⟩ w s v).2 ≠ 0 → coordB (n * z) = false) ∧
    ((evalP ⟨7, n, [⟨8, n, [x]⟩]⟩ w s v).2 = 0 → coordB (evalP ⟨7, n, [⟨8, n, [x]⟩]⟩ w s v).1 = true ∧ (evalP ⟨7, n, [⟨8, n, [x]⟩]⟩ w s v).1 ≤ z ∧ z - (evalP ⟨7, n, [⟨8, n, [x]⟩]⟩ w s v).1 < n) := by
  obtain ⟨hv, hc, z', hev, hcz, he⟩ := evalP_ok (e := x) (w := w) (s := s) (v := v) (by rw [hz])
  rw [hz] at he
  obtain rfl : z = z' := he
  have hB := (valid_iff _).1 hb
  have hx := wf_one (wf_one hB.1)
  have hd : validE ⟨7, n, [⟨8, n, [x]⟩]⟩ = true := by
    refine (valid_iff _).2 ⟨⟨wfN_7 _ (by omega) h1, fun k hk => ?_⟩, ?_⟩
    · rw [List.mem_singleton.1 hk]
      exact ⟨wfN_8 _ h0 h1, fun k hk => by rw [List.mem_singleton.1 hk]; exact hx⟩
    · have h3 := hB.2
      rw [cnt_one 29, cnt_one 28] at h3 ⊢
      exact h3
  have hev28 : evF w s v 28 x = some z := by rw [← evF_succ 28 x hx, ← evF_succ 29 x (wfE_succ _ _ hx)]; exact hev
  rw [evalP_eq, evalP_eq, hb, hd, if_pos ⟨rfl, hc⟩, if_pos ⟨rfl, hc⟩, evF_one 29, evF_one 28, evF_one 29, evF_one 28, hev28]
  simp only [Option.bind_some, op7, op8, chk_coord (div_coord h0 hcz)]
  have hq : n * z / n = z := Int.mul_ediv_cancel_left z (by omega)
  refine ⟨?_, ?_, ?_⟩
  · unfold chk
    by_cases hm : coordB (n * z) = true
    · rw [if_pos hm, Option.bind_some, hq, if_pos hcz]
      intro _; rfl
    · rw [if_neg hm]; intro h; simp [pairE] at h
  · unfold chk
    by_cases hm : coordB (n * z) = true
    · rw [if_pos hm, Option.bind_some, hq, if_pos hcz]
      intro h; simp [pairE] at h
    · intro _; simpa using hm
  · rw [pairE_chk]
    by_cases hm : coordB (n * (z / n)) = true
    · rw [if_pos hm]
      intro _
      have e1 := Int.mul_ediv_add_emod z n
      have e2 := Int.emod_nonneg z (show n ≠ 0 by omega)
      have e3 := Int.emod_lt_of_pos z (show 0 < n by omega)
      exact ⟨hm, by show n * (z / n) ≤ z; omega, by show z - n * (z / n) < n; omega⟩
    · rw [if_neg hm]; intro h; simp at h
theorem proved : ValueRoundsStm.Pure := by
  intro x w s v by_ _ _ _ _ h4
  obtain ⟨f0, f1, ks⟩ := x
  obtain ⟨b3, b4⟩ := wf64 h4
  have e1 := modP (a := by_) (m := 1000) (by omega) (by omega) b3 b4
  have b0 := Int.emod_nonneg by_ (show (1000 : Int) ≠ 0 by omega)
  have b1 := Int.emod_lt_of_pos by_ (show (0 : Int) < 1000 by omega)
  have e2 : wrap64 (1 + by_ % 1000) = 1 + by_ % 1000 := wrap64_id (by omega) (by omega)
  have n0 : 1 ≤ 1 + by_ % 1000 := by omega
  have n1 : 1 + by_ % 1000 ≤ 1000 := by omega
  simp only [formelaw14_ValueRounds.f, formelaw14_head.f, formelaw14_one.f, Option.bind_some, e1, e2, value_Eval.f]
  generalize 1 + by_ % 1000 = n at *
  obtain ⟨k1, hk1⟩ := rvalid_ev ⟨8, n, [⟨7, n, [⟨f0, f1, ks⟩]⟩]⟩
  refine ⟨k1 + 1, ?_⟩
  have H1 : formeref14_Valid.f (k1 + 1) 8 n [⟨7, n, [⟨f0, f1, ks⟩]⟩] = some (validE ⟨8, n, [⟨7, n, [⟨f0, f1, ks⟩]⟩]⟩) := hk1 (k1 + 1) (by omega)
  obtain ⟨z, g, hz⟩ : ∃ z g, evalP ⟨f0, f1, ks⟩ w s [v.f0, v.f1, v.f2, v.f3, v.f4, v.f5, v.f6, v.f7] = (z, g) := ⟨_, _, rfl⟩
  simp only [hz]
  by_cases hg : g = 0
  · subst hg
    rw [if_pos rfl, H1, Option.bind_some]
    cases hb : validE ⟨8, n, [⟨7, n, [⟨f0, f1, ks⟩]⟩]⟩ with
    | false => simp [formelaw14_ValueRounds.j0]
    | true =>
      obtain ⟨l1, l2, l3⟩ := rounds_law n0 n1 hz hb
      have hcz : coordB z = true := by
        obtain ⟨_, _, z', _, hc, he⟩ := evalP_ok (e := ⟨f0, f1, ks⟩) (w := w) (s := s) (v := [v.f0, v.f1, v.f2, v.f3, v.f4, v.f5, v.f6, v.f7]) (by rw [hz])
        rw [hz] at he
        obtain rfl : z = z' := he
        exact hc
      have bz := coordB_of hcz
      have hw : wrap64 (n * z) = n * z := by
        have := mul_bound (a := n) (b := z) (m := 1000) (n := 1000000000) (by omega) (by omega) bz.1 bz.2
        exact wrap64_id (by omega) (by omega)
      simp only [formelaw14_ValueRounds.j0, value_Eval.f, Option.bind_some, Bool.not_true, hw, lawcoord_of]
      generalize evalP ⟨8, n, [⟨7, n, [⟨f0, f1, ks⟩]⟩]⟩ w s [v.f0, v.f1, v.f2, v.f3, v.f4, v.f5, v.f6, v.f7] = A at *
      generalize evalP ⟨7, n, [⟨8, n, [⟨f0, f1, ks⟩]⟩]⟩ w s [v.f0, v.f1, v.f2, v.f3, v.f4, v.f5, v.f6, v.f7] = B at *
      have key : (if B.2 = 0 then (if B.1 ≤ z then some (decide (wrap64 (z - B.1) < n)) else some false) else some true) = some true := by
        by_cases hB : B.2 = 0
        · obtain ⟨c, d1, d2⟩ := l3 hB
          have bc := coordB_of c
          rw [if_pos hB, if_pos d1, wrap64_id (by omega) (by omega), decide_eq_true d2]
        · rw [if_neg hB]
      by_cases hA : A.2 = 0
      · simp [hA, l1 hA, key]
      · simp [hA, l2 hA, key]
  · rw [if_neg hg]
    simp [formelaw14_ValueRounds.j0]

end Go.Proofs.Ytdigjjncoeaiiaa.ValueRoundsPure
