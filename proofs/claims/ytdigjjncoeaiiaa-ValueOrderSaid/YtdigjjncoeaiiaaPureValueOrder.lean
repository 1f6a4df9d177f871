/- The plain statement of ValueOrder: the lesser and the greater of two values have the same sum as both, and their difference is not negative. -/
import Derived.Test.YtdigjjncoeaiiaaStmValueOrder
import Derived.Test.YtdigjjncoeaiiaaVaPlain
namespace Go.Proofs.Ytdigjjncoeaiiaa.ValueOrderPure
open Go.RowKit Go.Proofs.Ytdigjjncoeaiiaa.PAll Go.Proofs.Ytdigjjncoeaiiaa.Plain Go.Proofs.YtdigjjncoeaiiaaW.PrintWords Go.Proofs.YtdigjjncoeaiiaaW.PrintLast Go.Proofs.YtdigjjncoeaiiaaW.PrintMore Go.Proofs.YtdigjjncoeaiiaaGopen Go.Proofs.YtdigjjncoeaiiaaGlib

theorem cnt_two (n : Nat) (op k : Int) (a b : S24) : cnt (n + 1) ⟨op, k, [a, b]⟩ = 1 + (cnt n a + cnt n b) := by
  show 1 + ([a, b].map (cnt n)).sum = _
  simp
theorem wf_two (n : Nat) (op : Int) (a b : S24) (h : wfE (n + 1) ⟨op, 0, [a, b]⟩) : wfE n a ∧ wfE n b := ⟨h.2 a (by simp), h.2 b (by simp)⟩
theorem wfN_two {op : Int} (a b : S24) (h : op = 5 ∨ op = 6 ∨ op = 9 ∨ op = 10) : wfN ⟨op, 0, [a, b]⟩ := by
  refine ⟨0, 0, 2, ?_, rfl, by simp, by simp⟩
  rcases h with rfl | rfl | rfl | rfl <;> rfl
theorem op5 (w s : Int) (v : List Int) (x y : Int) : opP w s v 5 0 [x, y] = x + y := rfl
theorem op6 (w s : Int) (v : List Int) (x y : Int) : opP w s v 6 0 [x, y] = x - y := rfl
theorem op9 (w s : Int) (v : List Int) (x y : Int) : opP w s v 9 0 [x, y] = mn x y := rfl
theorem op10 (w s : Int) (v : List Int) (x y : Int) : opP w s v 10 0 [x, y] = mx x y := rfl
theorem mn_coord {x y : Int} (hx : coordB x = true) (hy : coordB y = true) : coordB (mn x y) = true := by
  unfold mn; split <;> assumption
theorem mx_coord {x y : Int} (hx : coordB x = true) (hy : coordB y = true) : coordB (mx x y) = true := by
  unfold mx; split <;> assumption
theorem order_law {a b : S24} {w s : Int} {v : List Int} (hx : validE ⟨5, 0, [⟨9, 0, [a, b]⟩, ⟨10, 0, [a, b]⟩]⟩ = true) (hz : validE ⟨6, 0, [⟨10, 0, [a, b]⟩, ⟨9, 0, [a, b]⟩]⟩ = true) :
    evalP ⟨5, 0, [⟨9, 0, [a, b]⟩, ⟨10, 0, [a, b]⟩]⟩ w s v = evalP ⟨5, 0, [a, b]⟩ w s v ∧ ((evalP ⟨6, 0, [⟨10, 0, [a, b]⟩, ⟨9, 0, [a, b]⟩]⟩ w s v).2 = 0 → 0 ≤ (evalP ⟨6, 0, [⟨10, 0, [a, b]⟩, ⟨9, 0, [a, b]⟩]⟩ w s v).1) := by
  have hv := (valid_iff _).1 hx
  obtain ⟨h1, h2⟩ := wf_two 29 5 _ _ hv.1
  obtain ⟨ha, hb⟩ := wf_two 28 9 a b h1
  have hy : validE ⟨5, 0, [a, b]⟩ = true := by
    refine (valid_iff _).2 ⟨⟨wfN_two a b (.inl rfl), fun k hk => ?_⟩, ?_⟩
    · rcases List.mem_cons.1 hk with rfl | hk
      · exact wfE_succ _ _ ha
      · rw [List.mem_singleton.1 hk]; exact wfE_succ _ _ hb
    · have h3 := hv.2
      rw [cnt_two 29, cnt_two 28, cnt_two 28] at h3
      rw [cnt_two 29, cnt_succ 28 a ha, cnt_succ 28 b hb]
      omega
  rw [evalP_eq, evalP_eq, evalP_eq, hx, hy, hz]
  by_cases hc : condB w s v = true
  · rw [if_pos ⟨rfl, hc⟩, if_pos ⟨rfl, hc⟩, if_pos ⟨rfl, hc⟩]
    rw [evF_two 29, evF_two 29, evF_two 29, evF_two 28, evF_two 28, evF_succ 28 a ha, evF_succ 28 b hb]
    cases hA : evF w s v 28 a with
    | none => simp [pairE]
    | some x =>
      cases hB : evF w s v 28 b with
      | none => simp [pairE]
      | some y =>
        have cx := evF_coord hA
        have cy := evF_coord hB
        simp only [Option.bind_some, op9, op10, chk_coord (mn_coord cx cy), chk_coord (mx_coord cx cy), op5, op6]
        have e1 : mn x y + mx x y = x + y := by unfold mn mx; split <;> split <;> omega
        rw [e1]
        refine ⟨rfl, ?_⟩
        rw [pairE_chk]
        split
        · intro _
          show 0 ≤ mx x y - mn x y
          unfold mn mx
          split <;> split <;> omega
        · intro h; simp at h
  · rw [if_neg (fun h => hc h.2), if_neg (fun h => hc h.2), if_neg (fun h => hc h.2)]
    exact ⟨rfl, fun h => by simp at h⟩
theorem proved : ValueOrderStm.Pure := by
  intro a b w s v _ _ _ _ _
  obtain ⟨f0, f1, ks⟩ := a
  obtain ⟨g0, g1, ls⟩ := b
  obtain ⟨k1, hk1⟩ := rvalid_ev ⟨5, 0, [⟨9, 0, [⟨f0, f1, ks⟩, ⟨g0, g1, ls⟩]⟩, ⟨10, 0, [⟨f0, f1, ks⟩, ⟨g0, g1, ls⟩]⟩]⟩
  obtain ⟨k2, hk2⟩ := rvalid_ev ⟨6, 0, [⟨10, 0, [⟨f0, f1, ks⟩, ⟨g0, g1, ls⟩]⟩, ⟨9, 0, [⟨f0, f1, ks⟩, ⟨g0, g1, ls⟩]⟩]⟩
  refine ⟨max k1 k2 + 1, ?_⟩
  have H1 : formeref14_Valid.f (max k1 k2 + 1) 5 0 [⟨9, 0, [⟨f0, f1, ks⟩, ⟨g0, g1, ls⟩]⟩, ⟨10, 0, [⟨f0, f1, ks⟩, ⟨g0, g1, ls⟩]⟩] = some (validE ⟨5, 0, [⟨9, 0, [⟨f0, f1, ks⟩, ⟨g0, g1, ls⟩]⟩, ⟨10, 0, [⟨f0, f1, ks⟩, ⟨g0, g1, ls⟩]⟩]⟩) := hk1 (max k1 k2 + 1) (by omega)
  have H2 : formeref14_Valid.f (max k1 k2 + 1) 6 0 [⟨10, 0, [⟨f0, f1, ks⟩, ⟨g0, g1, ls⟩]⟩, ⟨9, 0, [⟨f0, f1, ks⟩, ⟨g0, g1, ls⟩]⟩] = some (validE ⟨6, 0, [⟨10, 0, [⟨f0, f1, ks⟩, ⟨g0, g1, ls⟩]⟩, ⟨9, 0, [⟨f0, f1, ks⟩, ⟨g0, g1, ls⟩]⟩]⟩) := hk2 (max k1 k2 + 1) (by omega)
  simp only [formelaw14_ValueOrder.f, formelaw14_head.f, formelaw14_two.f, Option.bind_some, H1, H2]
  cases hx : validE ⟨5, 0, [⟨9, 0, [⟨f0, f1, ks⟩, ⟨g0, g1, ls⟩]⟩, ⟨10, 0, [⟨f0, f1, ks⟩, ⟨g0, g1, ls⟩]⟩]⟩ with
  | false => simp [formelaw14_ValueOrder.j0]
  | true =>
    cases hz : validE ⟨6, 0, [⟨10, 0, [⟨f0, f1, ks⟩, ⟨g0, g1, ls⟩]⟩, ⟨9, 0, [⟨f0, f1, ks⟩, ⟨g0, g1, ls⟩]⟩]⟩ with
    | false => simp [formelaw14_ValueOrder.j0]
    | true =>
      obtain ⟨e1, e2⟩ := order_law (w := w) (s := s) (v := [v.f0, v.f1, v.f2, v.f3, v.f4, v.f5, v.f6, v.f7]) hx hz
      simp only [formelaw14_ValueOrder.j0, value_Eval.f, Option.bind_some, Bool.not_true, if_true]
      have e1' : evalP ⟨5, 0, [⟨9, 0, [⟨f0, f1, ks⟩, ⟨g0, g1, ls⟩]⟩, ⟨10, 0, [⟨f0, f1, ks⟩, ⟨g0, g1, ls⟩]⟩]⟩ w s [v.f0, v.f1, v.f2, v.f3, v.f4, v.f5, v.f6, v.f7] = evalP ⟨5, 0, [⟨f0, f1, ks⟩, ⟨g0, g1, ls⟩]⟩ w s [v.f0, v.f1, v.f2, v.f3, v.f4, v.f5, v.f6, v.f7] := e1
      rw [e1']
      simp
      intro h
      exact e2 h

end Go.Proofs.Ytdigjjncoeaiiaa.ValueOrderPure
