/- Printed by a program of this session (wip/gprint.py) over the translation. Not trusted: Lean checks it. -/
import Derived.Test.YtffmflmpiekcfaaDoorPAlld0
import Derived.Test.YtffmflmpiekcfaaDoorPAllw12
namespace Go.Proofs.YtffmflmpiekcfaaDoor.PAll
open Go.RowKit Go.Proofs.YtffmflmpiekcfaaDoorW.PrintWords Go.Proofs.YtffmflmpiekcfaaDoorW.PrintLast Go.Proofs.YtffmflmpiekcfaaDoorW.PrintMore
attribute [local go_sem] max2_int min2_int max_two min_two max_three min_three max_four min_four   -- for this text's walks alone
set_option linter.unusedVariables false
set_option linter.unusedSimpArgs false

open Go.Proofs.YtffmflmpiekcfaaDoorGlib
set_option maxHeartbeats 8000000 in
set_option maxRecDepth 100000 in
theorem formeref04_Text.calls (a0 : Int) (A1 : Option Addr) (c1 : Nat) (l1 : List Int) (r : List Int) (w : World) (hr1 : Kd.C (Kd.int .i64) w A1 l1.length l1) (hc1 : l1.length ≤ c1) (h : formeref04_Text.f a0 l1 = some r) :
    Calls Tryd.prog 23 #[.int .u64 a0, .slice A1 l1.length c1] w fun e w' => ∃ v0_ : Value, e = .returned v0_ ∧ Kd.R (Kd.int .u8) 5 w' w.heap.size (fun _ => True) v0_ r ∧ Below w.heap.size w w' := by
  unfold formeref04_Text.f at h
  split at h
  case isFalse => cases h
  rename_i hh
  obtain ⟨hl, hok⟩ := hh
  obtain rfl := Option.some.inj h
  have HR1 := Aside0.mk hr1
  have HB := Aside0.mk (Below.refl w.heap.size w)
  have HOK := Aside0.mk hok
  obtain ⟨KB, hKB⟩ := (bytes_ev a0).rounds
  have BY := Aside0.mk (fun W => formeref04_Bytes.calls KB a0 (eight a0) W hKB)
  clear hr1 hok h hKB
  have kc := fun (W : World) (s : ByteArray) => Lib.run_convert_string_bytes (P := Tryd.prog) W 9 22 5 s Tryd.underlying9 Tryd.underlying22 Tryd.underlying5
  go_enter Tryd.func23, Tryd.ntmps23
  go_wp2_with (go_at_call 31; refine (BY.out _).mono ?_; rintro e w1 ⟨v0, rfl, ho, hb⟩)
  have HO0 := Aside0.mk ho
  have HB0 := Aside0.mk hb
  clear ho hb
  go_loopw [5, 6] (fun v i wr => ∃ n : Nat, n ≤ l1.length ∧ i = .int .i64 n ∧ Aside0 (Kd.R (Kd.int .u8) 5 wr w.heap.size (fun _ => True) v (textAll a0 (l1.take n))) ∧ Aside0 (Below w.heap.size w wr)) (fun _ i _ => l1.length - (intOf i).toNat)
  case atStart => exact ⟨0, Nat.zero_le _, rfl, HO0, HB0⟩
  case round =>
    obtain ⟨n, hn, rfl, HO, HB1⟩ := hrel
    by_cases hlt : n < l1.length
    · have hc : decide ((n : Int) < (l1.length : Int)) = true := decide_eq_true (by omega)
      have hc' : decide (n < l1.length) = true := decide_eq_true hlt
      obtain ⟨ad, e, hx⟩ := Kd.at_int HR1.out (n : Int) (by omega) (by omega)
      cases e
      rw [rd_at hlt, Int.toNat_natCast] at hx
      have hx1 := (HB1.out.cell (World.block_lt_of_cell? w _ hx)).trans hx
      clear hx
      have hr := HOK.out _ (List.getElem_mem hlt)
      obtain ⟨KD, hKD⟩ := (decimal_ev l1[n] hr.1 hr.2).rounds
      have DC := Aside0.mk (fun W => formeref04_Decimal.calls KD l1[n] _ W hKD)
      have hsz : ((⟨(Lib.itoa l1[n]).toArray⟩ : ByteArray)).size ≤ 21 := by
        have := text_short l1[n] hr.1 hr.2
        have e : ((⟨(Lib.itoa l1[n]).toArray⟩ : ByteArray)).size = (Lib.itoa l1[n]).length := by simp [ByteArray.size]
        rw [e]
        simpa [textP] using this
      have SN := Aside0.mk (textAll_snoc a0 l1 n hlt)
      have SB := Aside0.mk (itoa_bytes l1[n])
      have SL := Aside0.mk (textAll_len a0 (l1.take n) (fun x hx => HOK.out x (List.mem_of_mem_take hx)))
      have q0 : (0 : Int) ≤ (n : Int) := by omega
      generalize l1[n] = x at *
      generalize (⟨(Lib.itoa x).toArray⟩ : ByteArray) = sx at *
      clear hKD hr
      have hlen : (List.take n l1).length = n := by rw [List.length_take]; omega
      have HL := Aside0.mk hlen
      clear hlen
      go_wp2_with (first | (go_at_call 41; refine (DC.out _).mono ?_; rintro e w2 ⟨rfl, hb⟩; have HB2 := Aside0.mk (below_then HB1.out HB1.out.size hb); have HO2 := Aside0.mk (Kd.R_below HO.out hb); clear hb) | ((with_reducible refine gate_builtin (b := .append) (xs := #[.tmp 15, .tmp 22]) rfl ?_); at_builtin; refine Kd.R_append_rows (Kd.int .u8) (Rr := Kd.K (Kd.int .u8) w) (w0 := w) w.heap.size rfl (.tmp 15) (.tmp 22) 22 5 (.int .u8 0) 1 rfl Tryd.underlying22 info5 rfl (by decide) (by omega) _ (textAll a0 (List.take n l1)) (textP x ++ [32]) _ _ _ (fun _ => True) (fun _ => False) rfl rfl ?aO ?aR (fun _ _ h => h) (fun _ h => h.elim) ?aF ?aB ?aS ?aL ?_; (case aO => exact Kd.R_below HO2.out (bytes_below (Below.refl _ _) (Nat.le_refl _) 5 _)); (case aR => exact text_reads _ _ _ _ SB.out hsz); (case aF => exact fun _ _ => trivial); (case aB => exact bytes_below HB2.out HB2.out.size 5 _); (case aS => exact (bytes_below HB2.out HB2.out.size 5 _).size); (case aL => have := SL.out; rw [HL.out] at this; omega); intro v3 w3 ho hb3 hg hat; rw [← SN.out] at ho; have HO3 := Aside0.mk ho; have HB3 := Aside0.mk hb3; clear ho hb3 hg hat))
      go_roundw
      case rel => exact ⟨n + 1, by omega, by go_num, HO3, HB3⟩
      case measure => simp [intOf]; omega
    · have hc : decide ((n : Int) < (l1.length : Int)) = false := decide_eq_false (by omega)
      have hc' : decide (n < l1.length) = false := decide_eq_false hlt
      obtain rfl : n = l1.length := by omega
      rw [List.take_length] at HO
      go_wp2
      go_ret
      exact ⟨_, rfl, HO.out, HB1.out⟩

end Go.Proofs.YtffmflmpiekcfaaDoor.PAll
