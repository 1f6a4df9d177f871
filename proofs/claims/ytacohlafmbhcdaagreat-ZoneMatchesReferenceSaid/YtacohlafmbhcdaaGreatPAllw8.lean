/- Printed by wip/gprint.py. -/
import Derived.Test.YtacohlafmbhcdaaGreatPAlld1
import Derived.Test.YtacohlafmbhcdaaGreatPAllw7
namespace Go.Proofs.YtacohlafmbhcdaaGreat.PAll
open Go.RowKit Go.Proofs.YtacohlafmbhcdaaGreatW.PrintWords Go.Proofs.YtacohlafmbhcdaaGreatW.PrintLast Go.Proofs.YtacohlafmbhcdaaGreatW.PrintMore
attribute [local go_sem] max2_int min2_int max_two min_two max_three min_three max_four min_four
open Go.Sort Go.RowKit Go.Lib
set_option maxHeartbeats 8000000 in
set_option maxRecDepth 100000 in
theorem zone_merged.calls (A0 : Option Addr) (c0 : Nat) (l0 : List (S40)) (r : List (S40)) (w : World) (hr0 : Kd.C k40 w A0 l0.length l0) (hc0 : l0.length ≤ c0) (h : zone_merged.f l0 = some r) :
  Calls Tryz.prog 65 #[.slice A0 l0.length c0] w fun e w' => ∃ v0_ : Value, e = .returned (v0_) ∧ Kd.R k40 40 w' w.heap.size (fun _ => True) v0_ r ∧ Below w.heap.size w w' := by
 obtain ⟨hb, rfl⟩ : bndB l0 = true ∧ mergeP l0 = r := by
  unfold zone_merged.f at h
  split at h
  case isTrue h1 => exact ⟨h1, Option.some.inj h⟩
  case isFalse => cases h
 obtain ⟨hlen, hbd⟩ := bndB_iff.1 hb
 have HJ := Aside0.mk (fun W h => zone_joined.calls A0 c0 l0 (mergeP l0) W h hc0 hlen (fun ys hp hs => by
  have hl := hp.length_eq
  obtain ⟨k, hk⟩ := join_all (ys := ys) (fun r hr => hbd r (hp.mem_iff.1 hr)) (by omega)
  rw [mergeP_join (fun r hr => (hbd r hr).1) hp hs (-4611686018427387904) (fun r hr => (hbd r hr).2.1), hl] at hk
  exact ⟨k, hk⟩))
 have HR0 := Aside0.mk hr0
 clear hr0 hc0 h hb hlen hbd
 generalize mergeP l0 = r at *
 go_enter Tryz.func65, Tryz.ntmps65
 go_wp2_with (go_at_call 71; refine (HJ.out _ HR0.out).mono ?_; rintro e w3 ⟨v, rfl, ho, hb⟩)
 go_ret
 exact ⟨_, rfl, ho, hb⟩
end Go.Proofs.YtacohlafmbhcdaaGreat.PAll
