/- The plain statement of ValueReader: a value depends on the scale only by OpEm, on the width only by OpPercent. -/
import Derived.Test.YtdigjjncoeaiiaaStmValueReader
import Derived.Test.YtdigjjncoeaiiaaVaPlain
namespace Go.Proofs.Ytdigjjncoeaiiaa.ValueReaderPure
open Go.RowKit Go.Proofs.Ytdigjjncoeaiiaa.PAll Go.Proofs.Ytdigjjncoeaiiaa.Plain Go.Proofs.YtdigjjncoeaiiaaW.PrintWords Go.Proofs.YtdigjjncoeaiiaaW.PrintLast Go.Proofs.YtdigjjncoeaiiaaW.PrintMore Go.Proofs.YtdigjjncoeaiiaaGopen Go.Proofs.YtdigjjncoeaiiaaGlib

theorem eval_same {e : S24} {w w' s s' : Int} {v : List Int} (hw : inI w 0 1000000 = true) (hw' : inI w' 0 1000000 = true) (hs : inI s 50 300 = true) (hs' : inI s' 50 300 = true) (h : evF w s v 30 e = evF w' s' v 30 e) : evalP e w s v = evalP e w' s' v := by
  unfold evalP
  rw [hw, hw', hs, hs', h]
theorem modIn {a m : Int} (h1 : 0 < m) (h2 : m ≤ 1000000000) (h : (Lit.int .i64 a).wf = true) : Int.tmod (wrap64 (Int.tmod a m + m)) m = a % m ∧ 0 ≤ a % m ∧ a % m < m := by
  obtain ⟨h3, h4⟩ := wf64 h
  exact ⟨modP h1 h2 h3 h4, Int.emod_nonneg a (by omega), Int.emod_lt_of_pos a h1⟩
theorem inI_of {a lo hi : Int} (h0 : lo ≤ a) (h1 : a ≤ hi) : inI a lo hi = true := by unfold inI; simp [h0, h1]
theorem proved : ValueReaderStm.Pure := by
  intro e a1 a2 a3 a4 v _ h1 h2 h3 h4 _
  obtain ⟨e1, b1, c1⟩ := modIn (m := 1000001) (by omega) (by omega) h1
  obtain ⟨e2, b2, c2⟩ := modIn (m := 1000001) (by omega) (by omega) h2
  obtain ⟨e3, b3, c3⟩ := modIn (m := 251) (by omega) (by omega) h3
  obtain ⟨e4, b4, c4⟩ := modIn (m := 251) (by omega) (by omega) h4
  have w3 : wrap64 (50 + a3 % 251) = 50 + a3 % 251 := wrap64_id (by omega) (by omega)
  have w4 : wrap64 (50 + a4 % 251) = 50 + a4 % 251 := wrap64_id (by omega) (by omega)
  have i1 : inI (a1 % 1000001) 0 1000000 = true := inI_of b1 (by omega)
  have i2 : inI (a2 % 1000001) 0 1000000 = true := inI_of b2 (by omega)
  have i3 : inI (50 + a3 % 251) 50 300 = true := inI_of (by omega) (by omega)
  have i4 : inI (50 + a4 % 251) 50 300 = true := inI_of (by omega) (by omega)
  cases hv : validE e with
  | false => exact ⟨0, by simp [formelaw14_ValueReader.f, formelaw14_head.f, value_Valid.f, show validE ⟨e.f0, e.f1, e.f2⟩ = false from hv]⟩
  | true =>
    have hwf := valid_wf hv
    obtain ⟨k3, hk3⟩ := has_ev 3 (-1) 30 e hwf
    obtain ⟨k2, hk2⟩ := has_ev 2 (-1) 30 e hwf
    refine ⟨max k2 k3 + 1, ?_⟩
    have H3 : formeref14_Has.f (max k2 k3 + 1) e.f0 e.f1 e.f2 3 (-1) = some (hasR 3 (-1) 30 e) := hk3 (max k2 k3 + 1) (by omega)
    have H2 : formeref14_Has.f (max k2 k3) e.f0 e.f1 e.f2 2 (-1) = some (hasR 2 (-1) 30 e) := hk2 (max k2 k3) (by omega)
    have key : ∀ w' s', inI w' 0 1000000 = true → inI s' 50 300 = true → evF (a1 % 1000001) (50 + a3 % 251) [v.f0, v.f1, v.f2, v.f3, v.f4, v.f5, v.f6, v.f7] 30 e = evF w' s' [v.f0, v.f1, v.f2, v.f3, v.f4, v.f5, v.f6, v.f7] 30 e → evalP ⟨e.f0, e.f1, e.f2⟩ (a1 % 1000001) (50 + a3 % 251) [v.f0, v.f1, v.f2, v.f3, v.f4, v.f5, v.f6, v.f7] = evalP ⟨e.f0, e.f1, e.f2⟩ w' s' [v.f0, v.f1, v.f2, v.f3, v.f4, v.f5, v.f6, v.f7] :=
      fun w' s' hw hs h => eval_same i1 hw i3 hs h
    simp only [formelaw14_ValueReader.f, formelaw14_head.f, value_Valid.f, Option.bind_some, e1, e2, e3, e4, w3, w4]
    have e0 : validE ⟨e.f0, e.f1, e.f2⟩ = true := hv
    rw [e0, if_pos rfl, H3]
    simp only [Option.bind_some]
    cases r3 : hasR 3 (-1) 30 e with
    | true =>
      rw [if_pos rfl]
      simp only [formelaw14_ValueReader.j0, H2, Option.bind_some, value_Eval.f]
      cases r2 : hasR 2 (-1) 30 e with
      | true => simp
      | false =>
        have := key (a2 % 1000001) (50 + a3 % 251) i2 i3 (evF_width 30 e r2)
        simp [this]
    | false =>
      rw [if_neg (by simp)]
      simp only [formelaw14_ValueReader.j0, H2, Option.bind_some, value_Eval.f]
      have hs := evF_scale (width := a1 % 1000001) (scale := 50 + a3 % 251) (scale' := 50 + a4 % 251) (v := [v.f0, v.f1, v.f2, v.f3, v.f4, v.f5, v.f6, v.f7]) 30 e r3
      cases r2 : hasR 2 (-1) 30 e with
      | true =>
        have := key (a1 % 1000001) (50 + a4 % 251) i1 i4 hs
        simp [this]
      | false =>
        have := key (a2 % 1000001) (50 + a4 % 251) i2 i4 (hs.trans (evF_width 30 e r2))
        simp [this]

end Go.Proofs.Ytdigjjncoeaiiaa.ValueReaderPure
