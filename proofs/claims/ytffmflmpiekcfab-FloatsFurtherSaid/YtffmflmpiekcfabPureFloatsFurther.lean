/- The plain statement of FloatsFurther: one more float leaves no more room. -/
import Derived.Test.YtffmflmpiekcfabStmFloatsFurther
import Derived.Test.YtffmflmpiekcfabPlainC
namespace Go.Proofs.Ytffmflmpiekcfab.FloatsFurtherPure
open Go.RowKit Go.Proofs.Ytffmflmpiekcfab.PAll Go.Proofs.Ytffmflmpiekcfab.Plain Go.Proofs.YtffmflmpiekcfabW.PrintWords Go.Proofs.YtffmflmpiekcfabW.PrintLast Go.Proofs.YtffmflmpiekcfabW.PrintMore Go.Proofs.YtffmflmpiekcfabGlib
theorem proved : FloatsFurtherStm.Pure := by
  intro l g w y h hok _ _ _ _
  have hlim := hok.1
  have hl : l.length < 9223372036854775807 := by omega
  have hl1 : (l ++ [g]).length < 9223372036854775807 := by simp; omega
  obtain ⟨g0, g1, g2, g3, g4⟩ := g
  show ∃ k, formelaw20_FloatsFurther.f k l g0 g1 g2 g3 g4 w y h = some true
  generalize hg : (⟨g0, g1, g2, g3, g4⟩ : S41) = g at hl1
  have hfin : ∀ b : Bool, (b = false → okAll (l ++ [g]) w = true ∧ l.length ≤ 30) → Ev (fun k => formelaw20_FloatsFurther.j0 k l w y h true (l ++ [g]) b g0 g1 g2 g3 g4) true := by
    intro b hb
    cases b with
    | true => exact Ev.zero fun k => by simp [formelaw20_FloatsFurther.j0]
    | false =>
      obtain ⟨ho1, h30⟩ := hb rfl
      have ho1' := (okAll_iff _ w).1 ho1
      have hfl : ∀ f ∈ l, Fine f := fun f hf => ho1'.2.2.2 f (List.mem_append_left _ hf)
      have ho : okAll l w = true := (okAll_iff l w).2 ⟨ho1'.1, ho1'.2.1, by omega, hfl⟩
      refine Ev.succ2 (room_ans hl w y h) (room_ans hl1 w y h) fun k r1 r2 => ?_
      simp only [formelaw20_FloatsFurther.j0, r1, r2, Option.bind_some]
      by_cases hy : 0 ≤ y ∧ y ≤ 1000000000 ∧ 0 ≤ h ∧ h ≤ 1000000
      · obtain ⟨lo, hi, e1, a1, _⟩ := room_ok (y := y) (h := h) ho (by omega) (by omega)
        obtain ⟨lo', hi', e2, a2, _⟩ := room_ok (y := y) (h := h) ho1 (by omega) (by omega)
        have hm := a1.mono a2 fun f hf hb => ⟨List.mem_append_left _ hf, hb⟩
        have hz1 := a1.bounds hfl ⟨ho1'.1, ho1'.2.1⟩
        have hz2 := a2.bounds ho1'.2.2.2 ⟨ho1'.1, ho1'.2.1⟩
        rw [e1, e2]
        simp only [if_true]
        have v1 : wrap64 (max lo' hi' - lo') = max lo' hi' - lo' := wrap64_id (by omega) (by omega)
        have v2 : wrap64 (max lo hi - lo) = max lo hi - lo := wrap64_id (by omega) (by omega)
        rw [v1, v2, if_pos (show lo' ≥ lo by omega), if_pos (show max lo' hi' - lo' ≤ max lo hi - lo by omega)]
        have hrb := ref_beside_of g y h
        rw [← hg] at hrb
        simp only [] at hrb
        rw [hrb]
        simp only [Option.bind_some]
        cases hgb : besideB (⟨g0, g1, g2, g3, g4⟩ : S41) y h with
        | true => rfl
        | false =>
          have hm2 := a2.mono a1 fun f hf hbs => by
            rcases List.mem_append.1 hf with hf | hf
            · exact ⟨hf, hbs⟩
            · obtain rfl := List.mem_singleton.1 hf
              rw [hg] at hgb
              rw [hgb] at hbs
              cases hbs
          have q1 : lo = lo' := by omega
          have q2 : hi = hi' := by omega
          simp [q1, q2]
      · have hbad : ∀ m : List S41, roomAns m w y h = (0, 0, 1) := by
          intro m
          unfold roomAns
          rw [if_neg]
          intro hh
          simp only [Bool.and_eq_true, decide_eq_true_eq] at hh
          omega
        rw [hbad, hbad]
        rfl
  have hap : (([] : List S41) ++ l).length + ([(⟨g0, g1, g2, g3, g4⟩ : S41)] : List S41).length < 3518437208883 := by simp; omega
  by_cases h30 : (l.length : Int) > 30
  · refine (Ev.same2 head_ev (hfin true (by simp)) fun k q1 q2 => ?_ : Ev (fun k => formelaw20_FloatsFurther.f k l g0 g1 g2 g3 g4 w y h) true).rounds
    unfold formelaw20_FloatsFurther.f
    rw [q1]
    simp only [Option.bind_some]
    rw [if_pos (by simp; omega), if_pos hap, if_pos h30, List.nil_append, hg]
    exact q2
  · refine (?_ : Ev (fun k => formelaw20_FloatsFurther.f k l g0 g1 g2 g3 g4 w y h) true).rounds
    obtain ⟨K, hK⟩ := (Ev.p head_ev).and ((Ev.p (ref_valid_ev hl1 w)).and (Ev.p (hfin (!okAll (l ++ [g]) w) (fun hh => ⟨by simpa using hh, by omega⟩))))
    refine ⟨K, fun k hk => ?_⟩
    obtain ⟨q1, q2, q3⟩ := hK k hk
    show formelaw20_FloatsFurther.f k l g0 g1 g2 g3 g4 w y h = some true
    unfold formelaw20_FloatsFurther.f
    rw [q1]
    simp only [Option.bind_some]
    rw [if_pos (by simp; omega), if_pos hap, if_neg h30, List.nil_append, hg, q2]
    exact q3
end Go.Proofs.Ytffmflmpiekcfab.FloatsFurtherPure
