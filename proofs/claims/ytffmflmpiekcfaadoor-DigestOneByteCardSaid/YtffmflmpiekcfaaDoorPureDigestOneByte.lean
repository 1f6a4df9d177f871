/- The plain statement of DigestOneByte: bytes that differ in one place have another digest. -/
import Derived.Test.YtffmflmpiekcfaaDoorStmDigestOneByte
import Derived.Test.YtffmflmpiekcfaaDoorPlain
namespace Go.Proofs.YtffmflmpiekcfaaDoor.DigestOneBytePure
open Go.RowKit Go.Proofs.YtffmflmpiekcfaaDoor.PAll Go.Proofs.YtffmflmpiekcfaaDoor.Plain Go.Proofs.YtffmflmpiekcfaaDoorW.PrintWords Go.Proofs.YtffmflmpiekcfaaDoorW.PrintLast Go.Proofs.YtffmflmpiekcfaaDoorW.PrintMore Go.Proofs.YtffmflmpiekcfaaDoorGopen Go.Proofs.YtffmflmpiekcfaaDoorGlib
open DigestOneByteStm

theorem xor8 (y z : Int) : Go.bits .xor .u8 y z = ((BitVec.ofInt 8 y ^^^ BitVec.ofInt 8 z).toNat : Int) := by
  have h : Go.bits .xor .u8 y z = IntKind.u8.wrap ((BitVec.ofInt 8 y ^^^ BitVec.ofInt 8 z).toNat : Int) := rfl
  rw [h, IntKind.wrap_u8]
  have := (BitVec.ofInt 8 y ^^^ BitVec.ofInt 8 z).isLt
  omega
theorem of8 {y : Int} (h0 : 0 ≤ y) (h1 : y ≤ 255) : ((BitVec.ofInt 8 y).toNat : Int) = y := by
  rw [BitVec.toNat_ofInt]
  omega
theorem xor8_zero {y : Int} (h0 : 0 ≤ y) (h1 : y ≤ 255) : Go.bits .xor .u8 y 0 = y := by
  rw [xor8]
  have : BitVec.ofInt 8 0 = 0#8 := rfl
  rw [this, BitVec.xor_zero, of8 h0 h1]
theorem xor8_self {y z : Int} (h0 : 0 ≤ y) (h1 : y ≤ 255) (hz0 : 0 ≤ z) (hz1 : z ≤ 255) (h : Go.bits .xor .u8 y z = y) : z = 0 := by
  rw [xor8] at h
  have e : BitVec.ofInt 8 y ^^^ BitVec.ofInt 8 z = BitVec.ofInt 8 y ^^^ 0#8 := by
    apply BitVec.eq_of_toNat_eq
    rw [BitVec.xor_zero]
    have := of8 h0 h1
    omega
  have e2 : BitVec.ofInt 8 z = 0#8 := by
    have := congrArg (BitVec.ofInt 8 y ^^^ ·) e
    simpa only [← BitVec.xor_assoc, BitVec.xor_self, BitVec.zero_xor] using this
  have := of8 hz0 hz1
  rw [e2] at this
  simpa using this.symm
theorem xor8_ok (y z : Int) : Fnv.ok (Go.bits .xor .u8 y z) := by
  rw [xor8]
  have := (BitVec.ofInt 8 y ^^^ BitVec.ofInt 8 z).isLt
  unfold Fnv.ok
  omega

theorem proved : DigestOneByteStm.Pure := by
  intro l0 a1 a2 hl h1 h2
  obtain ⟨hl, hb⟩ := hl
  have w1 := wfu16 h1
  have w2 := wfu8 h2
  by_cases h0 : l0.length = 0
  · refine ⟨1, ?_⟩
    unfold formelaw04_DigestOneByte.f formelaw04_head.f
    simp only [Option.bind_some]
    rw [if_pos (by omega)]
    rfl
  · by_cases h3 : l0.length > 300
    · refine ⟨1, ?_⟩
      unfold formelaw04_DigestOneByte.f formelaw04_head.f
      simp only [Option.bind_some]
      rw [if_neg (by omega), decide_eq_true (by omega)]
      rfl
    · have hw : wrap64 a1 = a1 := wrap64_id (by omega) (by omega)
      obtain ⟨i, hi⟩ := Int.eq_ofNat_of_zero_le (show 0 ≤ Int.tmod a1 (l0.length : Int) by rw [Int.tmod_eq_emod_of_nonneg (by omega)]; exact Int.emod_nonneg _ (by omega))
      have hlt : i < l0.length := by
        have h4 := Int.emod_lt_of_pos a1 (show (0 : Int) < (l0.length : Int) by omega)
        rw [← Int.tmod_eq_emod_of_nonneg (by omega), hi] at h4
        omega
      obtain ⟨x, hx⟩ : ∃ x, x = Go.bits .xor .u8 l0[i] a2 := ⟨_, rfl⟩
      have hy := wfu8 (hb _ (List.getElem_mem hlt))
      obtain ⟨K, hK⟩ := (Ev.p (sum_ev (l := l0) (by omega))).and (Ev.p (sum_ev (l := l0.set i x) (by rw [List.length_set]; omega)))
      refine ⟨K + 1, ?_⟩
      obtain ⟨e1, e2⟩ := hK K (Nat.le_refl _)
      have res : ((sumP l0 == sumP (l0.set i x)) == (a2 == 0)) = true := by
        by_cases hz : a2 = 0
        · subst hz
          rw [xor8_zero hy.1 hy.2] at hx
          have : l0.set i x = l0 := by rw [hx, List.set_getElem_self]
          rw [this]
          simp
        · have hne : sumP l0 ≠ sumP (l0.set i x) := by
            intro he
            have h5 := Fnv.more_set hlt basis_ok (fun y hy => by have := wfu8 (hb y hy); unfold Fnv.ok; omega) (hx ▸ xor8_ok _ _) he
            exact hz (xor8_self hy.1 hy.2 w2.1 w2.2 (hx.symm.trans h5.symm))
          rw [beq_eq_false_iff_ne.mpr hne, beq_eq_false_iff_ne.mpr hz]
          rfl
      generalize sumP (l0.set i x) = s2 at e2 res
      generalize sumP l0 = s1 at e1 res
      unfold formelaw04_DigestOneByte.f formelaw04_head.f
      simp only [Option.bind_some]
      rw [if_neg (by omega), decide_eq_false (by omega)]
      simp only [formelaw04_DigestOneByte.j0, List.nil_append, Option.bind_some]
      rw [if_neg (by simp), if_pos (by simp; omega), if_neg (by omega), hw, hi, if_pos (by omega), if_pos (by omega), if_pos trivial, e1]
      rw [Option.bind_some, Int.toNat_natCast, rd_at hlt, ← hx, e2, Option.bind_some, res]

end Go.Proofs.YtffmflmpiekcfaaDoor.DigestOneBytePure
