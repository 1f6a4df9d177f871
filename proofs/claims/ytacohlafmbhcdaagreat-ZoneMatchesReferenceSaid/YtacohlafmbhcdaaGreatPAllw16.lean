/- Printed by wip/gprint.py. -/
import Derived.Test.YtacohlafmbhcdaaGreatPAlld1
import Derived.Test.YtacohlafmbhcdaaGreatPAllw9
import Derived.Test.YtacohlafmbhcdaaGreatPAllw13
import Derived.Test.YtacohlafmbhcdaaGreatPAllw14
import Derived.Test.YtacohlafmbhcdaaGreatPAllw15
namespace Go.Proofs.YtacohlafmbhcdaaGreat.PAll
set_option linter.unusedVariables false
set_option linter.unusedSimpArgs false
open Go.RowKit Go.Proofs.YtacohlafmbhcdaaGreatW.PrintWords Go.Proofs.YtacohlafmbhcdaaGreatW.PrintLast Go.Proofs.YtacohlafmbhcdaaGreatW.PrintMore
attribute [local go_sem] max2_int min2_int max_two min_two max_three min_three max_four min_four
attribute [local go_sem] Oper.semAt_some
set_option maxHeartbeats 4000000 in
set_option maxRecDepth 100000 in
theorem bands1_calls {base bx g1 g2 g3 : Nat} {A0 A1 : Option Addr} {c0 c1 : Nat} {l0 l1 : List S42} {kw : FuncId} {wf : Bool → Bool → Bool} {w : World} {f : Int → Int → List S40}
  (hkw : ∀ args W, (callFunc kw args).run Tryz.prog W = .ok (.enter kw args) W) (hwf : ∀ (a b : Bool) (r : Bool) (W : World), wantO wf a b = some r → Calls Tryz.prog kw #[.bool a, .bool b] W fun e w' => e = .returned (.bool r) ∧ Drawn0 W w')
  (ho0 : OkL l0) (ho1 : OkL l1) (hl0 : l0.length < 1000000) (hl1 : l1.length < 1000000) (hc0 : l0.length ≤ c0) (hc1 : l1.length ≤ c1) (hf : ∀ lang s, ∃ k, zone_sweep.f wf k (canW l0 lang s) (canW l1 lang s) = some (f lang s))
  (hbw : base ≤ w.heap.size) (hR0 : ∀ B, Below base w B → Kd.C k42 B A0 l0.length l0) (hR1 : ∀ B, Below base w B → Kd.C k42 B A1 l1.length l1)
  (hcap : Caps g1 g2 g3 (.slice A0 l0.length c0) (.slice A1 l1.length c1) kw w) (hb1 : g1 ≠ bx) (hb2 : g2 ≠ bx) (hb3 : g3 ≠ bx) (hbx : bx < w.heap.size)
  (l : Nat) (J : List Band → World → Prop) (W : World) (hl : w.heap.size ≤ l) (hlW : l < W.heap.size) (hs : Stp (fun _ => False) 64 base w W)
  (hJ : ∀ pre A B, J pre A → Stp (fun _ => False) 64 base A B → J pre B)
  (hY : ∀ pre x A, J pre A → PxB f pre x A → YieldAt Fence.wide 0 Tryz.prog l (encB x) A fun e B => e = .returned (.bool true) ∧ J (pre ++ [x]) B ∧ Stp (fun k => k = bx ∨ k = l) 42 base A B)
  (hJ0 : J [] W) :
  CallsIn Fence.wide 0 Tryz.prog 53 (#[.func (.yield l) #[] #[]] ++ #[.pointer (some ⟨g1, 0, none⟩), .pointer (some ⟨g2, 0, none⟩), .pointer (some ⟨g3, 0, none⟩)]) W fun e B => (∃ v, e = .returned v) ∧ ∃ xs : List Band, xs.map Band.plain = allB f 4 0 ∧ J xs B := by
 have HJ := Aside0.mk hJ
 have HY := Aside0.mk hY
 have HR0 := Aside0.mk hR0
 have HR1 := Aside0.mk hR1
 have HF := Aside0.mk hf
 have HK := Aside0.mk hkw
 have HW := Aside0.mk hwf
 have HC := Aside0.mk (hcap.stp hs id id id (by decide) (by decide))
 have HB := Aside0.mk (hs.below hbw)
 have HJ0 := Aside0.mk hJ0
 have HO0 := Aside0.mk ho0
 have HO1 := Aside0.mk ho1
 have hg1 := (Array.getElem?_eq_some_iff.1 hcap.b1).1
 have hg2 := (Array.getElem?_eq_some_iff.1 hcap.b2).1
 have hg3 := (Array.getElem?_eq_some_iff.1 hcap.b3).1
 clear hJ hY hR0 hR1 hf hkw hwf hcap hJ0 hs ho0 ho1
 refine callsIn_wide.2 (calls_of_wp Tryz.func53 rfl ?_)
 simp only [Tryz.ntmps53, List.size_toArray, List.length_cons, List.length_nil, Nat.reduceAdd, Nat.reduceSub, Array.replicate_succ, Array.replicate_zero, List.push_toArray, List.append_toArray, List.nil_append, List.cons_append]
 refine wp_scope_straight (wp_seq (wp_label ?_))
 refine (wpIn_wide (n := 0)).1 ?_
 gi_wp2
 gi_loopw [9] (fun v wr => ∃ (k : Nat) (pre : List Band), k ≤ 4 ∧ v = .int .i64 k ∧ Aside0 (pre.map Band.plain ++ allB f (4 - k) k = allB f 4 0) ∧ Aside0 (J pre wr) ∧ Aside0 (Caps g1 g2 g3 (.slice A0 l0.length c0) (.slice A1 l1.length c1) kw wr) ∧ Aside0 (Below base w wr) ∧ Aside0 (l < wr.heap.size)) (fun v _ => 4 - (intOf v).toNat)
 case atStart => exact ⟨0, [], by omega, rfl, ⟨rfl⟩, HJ0, HC, HB, ⟨hlW⟩⟩
 case round =>
  clear HJ0 HC HB
  obtain ⟨k, pre, hk, rfl, HE, HJp, HC, HB, HL⟩ := hrel
  obtain ⟨wo, rfl⟩ : ∃ wo : World, wo = wr := ⟨_, rfl⟩
  by_cases hlt : k < 4
  · have d0 : decide ((k : Int) < 4) = true := decide_eq_true (by omega)
    gi_wp2
    gi_loopw [7] (fun v ws => ∃ (s : Int) (pre2 : List Band) (lo hi : Int) (An : Option Addr) (now : List S40) (cn : Nat), v = .int .i64 s ∧ 50 ≤ s ∧ s ≤ 301 ∧ Aside0 (J pre2 ws) ∧ Aside0 (Caps g1 g2 g3 (.slice A0 l0.length c0) (.slice A1 l1.length c1) kw ws) ∧ Aside0 (Below base w ws) ∧ Aside0 (l < ws.heap.size) ∧
     Aside0 (ws.heap[wo.heap.size]? = some (.cells #[.int .i64 k, .int .i64 lo, .int .i64 hi, .slice An now.length cn] 64 (0, 0))) ∧ Aside0 (Kd.R k40 40 ws 0 (fun _ => True) (.slice An now.length cn) now) ∧ Aside0 (wo.heap.size ≠ l) ∧
     Aside0 ((s = 50 ∧ pre2 = pre ∧ lo = 50 ∧ hi = 50) ∨ (51 ≤ s ∧ hi = s - 1 ∧ now = f k (s - 1) ∧ pre2.map Band.plain ++ ((loopP (f k) (301 - s).toNat s lo now).map (fun b => ((k : Int), b)) ++ allB f (4 - (k + 1)) (k + 1)) = allB f 4 0))) (fun v _ => 301 - (intOf v).toNat)
    case atStart =>
     have hb := below_alloc (Below.refl wo.heap.size wo) (.cells #[.int .i64 k, .int .i64 50, .int .i64 50, .slice none 0 0] 64)
     exact ⟨50, pre, 50, 50, none, [], 0, by first | rfl | trivial, by omega, by omega, ⟨HJ.out _ _ _ HJp.out (Stp.of_below hb)⟩, ⟨HC.out.stp (Stp.of_below hb) (X := fun _ => False) id id id (t := 64) (base := base) (by decide) (by decide)⟩, ⟨HB.out.trans (hb.mono (by have := HB.out.size; omega))⟩, ⟨by have := HL.out; simp; omega⟩, ⟨blk_new wo _⟩, ⟨Kd.R_nil k40 40 _ 0 _⟩, ⟨by have := HL.out; omega⟩, ⟨.inl ⟨rfl, rfl, rfl, rfl⟩⟩⟩
    case round =>
     obtain ⟨s, pre2, lo, hi, An, now, cn, rfl, hs0, hs1, HJ2, HC2, HB2, HL2, HT, HN, HNl, HS⟩ := hrel
     by_cases hs3 : s ≤ 300
     · have d1 : decide (s ≤ 300) = true := decide_eq_true hs3
       have x1 := (blk_cell HC2.out.b1 0).trans rfl
       have x2 := (blk_cell HC2.out.b2 0).trans rfl
       have x3 := (blk_cell HC2.out.b3 0).trans rfl
       obtain ⟨kA, hA⟩ := widths_of HO0.out hl0 k s
       obtain ⟨kB, hB⟩ := widths_of HO1.out hl1 k s
       obtain ⟨kS, hS⟩ := HF.out k s
       have HA := Aside0.mk hA
       have HBx := Aside0.mk hB
       have HSw := Aside0.mk hS
       clear hA hB hS
       have HBB := Aside0.mk (Below.refl wr.heap.size wr)
       gi_wp2
       refine wpIn_wide.2 ?_
       refine start_ (n := 11) (S := fun w' => w'.cell? ⟨g1, 0, none⟩ = some (.slice A0 l0.length c0) ∧ w'.cell? ⟨g2, 0, none⟩ = some (.slice A1 l1.length c1) ∧ w'.cell? ⟨g3, 0, none⟩ = some (.func (.func kw) #[] #[])) (ds := []) #[false, false, false, false, false, false, false, false, false, false, false] (by kernel_rfl) rfl rfl ⟨x1, x2, x3⟩ (fun hHeld => ?_); refine with_tabW bands1.tab7 bands1.bits7 (fun HT_ HW_ => ?_)
       refine pure_ (i := 1) (N := some 20) (v := ?_) (a' := ?_) #[false, true, false, false, false, false, false, false, false, false, false] rfl rfl (any_of HT_.out (by kernel_rfl)) (fun _ _ _ h => h) (Or.inl ⟨by rfl, ?_⟩) ?_ ?_
       rotate_left
       · intro w'
         go_simp
         with_reducible rfl
       rotate_left
       · simp only [Act.put, List.setIfInBounds_toArray, List.set_cons_zero, List.set_cons_succ, i64_w, i32_w]
         rfl
       refine pure_ (i := 2) (N := some 21) (v := ?_) (a' := ?_) #[false, true, true, false, false, false, false, false, false, false, false] rfl rfl (any_of HT_.out (by kernel_rfl)) (fun _ _ _ h => h) (Or.inl ⟨by rfl, ?_⟩) ?_ ?_
       rotate_left
       · intro w'
         go_simp
         with_reducible rfl
       rotate_left
       · simp only [Act.put, List.setIfInBounds_toArray, List.set_cons_zero, List.set_cons_succ, i64_w, i32_w]
         rfl
       refine pure_ (i := 5) (N := some 24) (v := ?_) (a' := ?_) #[false, true, true, false, false, true, false, false, false, false, false] rfl rfl (any_of HT_.out (by kernel_rfl)) (fun _ _ _ h => h) (Or.inl ⟨by rfl, ?_⟩) ?_ ?_
       rotate_left
       · intro w'
         go_simp
         with_reducible rfl
       rotate_left
       · simp only [Act.put, List.setIfInBounds_toArray, List.set_cons_zero, List.set_cons_succ, i64_w, i32_w]
         rfl
       refine pure_ (i := 6) (N := some 25) (v := ?_) (a' := ?_) #[false, true, true, false, false, true, true, false, false, false, false] rfl rfl (any_of HT_.out (by kernel_rfl)) (fun _ _ _ h => h) (Or.inl ⟨by rfl, ?_⟩) ?_ ?_
       rotate_left
       · intro w'
         go_simp
         with_reducible rfl
       rotate_left
       · simp only [Act.put, List.setIfInBounds_toArray, List.set_cons_zero, List.set_cons_succ, i64_w, i32_w]
         rfl
       refine take_ (i := 0) (N := some 19) (v := ?_) (a' := ?_) #[true, true, true, false, false, true, true, false, false, false, false] rfl rfl (take_ofW HT_.out HW_.out (by kernel_rfl)) (fun _ _ _ h => h) (Or.inl ⟨by rfl, ?_⟩) hHeld ?_ ?_
       rotate_left
       · rintro w' ⟨s0, s1, s2⟩
         go_simp
         with_reducible rfl
       rotate_left
       · simp only [Act.put, List.setIfInBounds_toArray, List.set_cons_zero, List.set_cons_succ, i64_w, i32_w]
         rfl
       refine take_ (i := 4) (N := some 23) (v := ?_) (a' := ?_) #[true, true, true, false, true, true, true, false, false, false, false] rfl rfl (take_ofW HT_.out HW_.out (by kernel_rfl)) (fun _ _ _ h => h) (Or.inl ⟨by rfl, ?_⟩) hHeld ?_ ?_
       rotate_left
       · rintro w' ⟨s0, s1, s2⟩
         go_simp
         with_reducible rfl
       rotate_left
       · simp only [Act.put, List.setIfInBounds_toArray, List.set_cons_zero, List.set_cons_succ, i64_w, i32_w]
         rfl
       refine take_ (i := 8) (N := some 27) (v := ?_) (a' := ?_) #[true, true, true, false, true, true, true, false, true, false, false] rfl rfl (take_ofW HT_.out HW_.out (by kernel_rfl)) (fun _ _ _ h => h) (Or.inl ⟨by rfl, ?_⟩) hHeld ?_ ?_
       rotate_left
       · rintro w' ⟨s0, s1, s2⟩
         go_simp
         with_reducible rfl
       rotate_left
       · simp only [Act.put, List.setIfInBounds_toArray, List.set_cons_zero, List.set_cons_succ, i64_w, i32_w]
         rfl
       refine one_ (i := 3) (N := some 22) #[true, true, true, true, true, true, true, false, true, false, false] rfl rfl (one_of HT_.out (by kernel_rfl)) (by decide) (fun K hK => ?_)
       refine goes_ Tryz.func55 (by kernel_rfl) rfl #[.slice A0 l0.length c0, .int .i64 k, .int .i64 s] (by rfl) rfl rfl (by (try simp only [List.map_toArray, List.map_cons, List.map_nil]); first | done | rfl) ?_
       with_reducible refine (zone_widths.calls kA A0 c0 l0 k s (canW l0 k s) _ ?side1 ?side2 HA.out).mono ?_
       (case side1 => exact HR0.out _ (HB2.out.trans (((by repeat (first | (with_reducible first | exact HBB.out | apply pw_below_drewN | apply below_drew1) | exact HBB.out)) : Below wr.heap.size wr _).mono (by have := HB2.out.size; omega))))
       (case side2 => exact hc0)
       rintro e w7a ⟨v22, rfl, ho, hb⟩
       have HS0_ := (hb.cell (World.block_lt_of_cell? _ _ (hHeld.1))).trans (hHeld.1)
       have HS1_ := (hb.cell (World.block_lt_of_cell? _ _ (hHeld.2.1))).trans (hHeld.2.1)
       have HS2_ := (hb.cell (World.block_lt_of_cell? _ _ (hHeld.2.2))).trans (hHeld.2.2)
       refine ⟨_, rfl, ?_⟩
       obtain ⟨Aa, ca, ea⟩ := Kd.R_slice ho
       subst ea
       have HOa := Aside0.mk ho
       have n2_ := Aside0.mk (below_step (by repeat (first | (with_reducible first | exact HBB.out | apply pw_below_drewN | apply below_drew1) | exact HBB.out)) hb)
       clear HBB
       have HBB := n2_
       clear n2_
       clear hb ho
       refine hK.out _ _ ⟨HS0_, HS1_, HS2_⟩ (fun hHeld => ?_)
       clear hK K
       refine norm_ (a' := ?_) ?_ ?_
       rotate_left
       · show Act.put _ (some 22) _ = _
         simp only [Act.put, List.setIfInBounds_toArray, List.set_cons_zero, List.set_cons_succ, i64_w, i32_w]
         rfl
       refine one_ (i := 7) (N := some 26) #[true, true, true, true, true, true, true, true, true, false, false] rfl rfl (one_of HT_.out (by kernel_rfl)) (by decide) (fun K hK => ?_)
       refine goes_ Tryz.func55 (by kernel_rfl) rfl #[.slice A1 l1.length c1, .int .i64 k, .int .i64 s] (by rfl) rfl rfl (by (try simp only [List.map_toArray, List.map_cons, List.map_nil]); first | done | rfl) ?_
       with_reducible refine (zone_widths.calls kB A1 c1 l1 k s (canW l1 k s) _ ?side1 ?side2 HBx.out).mono ?_
       (case side1 => exact HR1.out _ (HB2.out.trans (((by repeat (first | (with_reducible first | exact HBB.out | apply pw_below_drewN | apply below_drew1) | exact HBB.out)) : Below wr.heap.size wr _).mono (by have := HB2.out.size; omega))))
       (case side2 => exact hc1)
       rintro e w7b ⟨v26, rfl, ho, hb⟩
       have HS0_ := (hb.cell (World.block_lt_of_cell? _ _ (hHeld.1))).trans (hHeld.1)
       have HS1_ := (hb.cell (World.block_lt_of_cell? _ _ (hHeld.2.1))).trans (hHeld.2.1)
       have HS2_ := (hb.cell (World.block_lt_of_cell? _ _ (hHeld.2.2))).trans (hHeld.2.2)
       refine ⟨_, rfl, ?_⟩
       obtain ⟨Ab, cb, eb⟩ := Kd.R_slice ho
       subst eb
       have HOb := Aside0.mk ho
       have n0_ := Aside0.mk (Kd.R_below HOa.out hb)
       have n2_ := Aside0.mk (below_step (by repeat (first | (with_reducible first | exact HBB.out | apply pw_below_drewN | apply below_drew1) | exact HBB.out)) hb)
       clear HBB HOa
       have HBB := n2_
       have HOa := n0_
       clear n2_ n0_
       have hz7 := Aside0.mk (below_size HBB.out)
       clear hb ho
       refine hK.out _ _ ⟨HS0_, HS1_, HS2_⟩ (fun hHeld => ?_)
       clear hK K
       refine norm_ (a' := ?_) ?_ ?_
       rotate_left
       · show Act.put _ (some 26) _ = _
         simp only [Act.put, List.setIfInBounds_toArray, List.set_cons_zero, List.set_cons_succ, i64_w, i32_w]
         rfl
       refine one_ (i := 9) (N := some 28) #[true, true, true, true, true, true, true, true, true, true, false] rfl rfl (one_of HT_.out (by kernel_rfl)) (by decide) (fun K hK => ?_)
       refine goes_ Tryz.func54 (by kernel_rfl) rfl #[.slice Aa (canW l0 k s).length ca, .slice Ab (canW l1 k s).length cb, .func (.func kw) #[] #[]] (by rfl) rfl rfl (by (try simp only [List.map_toArray, List.map_cons, List.map_nil]); first | done | rfl) ?_
       with_reducible refine (zone_sweep.calls kw wf HK.out HW.out kS Aa ca (canW l0 k s) Ab cb (canW l1 k s) (f k s) _ ?side1 ?side2 ?side3 ?side4 HSw.out).mono ?_
       (case side1 => exact (Kd.R_reads' HOa.out).2.2)
       (case side2 => exact (Kd.R_reads' HOa.out).2.1)
       (case side3 => exact (Kd.R_reads' HOb.out).2.2)
       (case side4 => exact (Kd.R_reads' HOb.out).2.1)
       rintro e w7c ⟨v28, rfl, ho, hb⟩
       have HS0_ := (hb.cell (World.block_lt_of_cell? _ _ (hHeld.1))).trans (hHeld.1)
       have HS1_ := (hb.cell (World.block_lt_of_cell? _ _ (hHeld.2.1))).trans (hHeld.2.1)
       have HS2_ := (hb.cell (World.block_lt_of_cell? _ _ (hHeld.2.2))).trans (hHeld.2.2)
       refine ⟨_, rfl, ?_⟩
       obtain ⟨Ac, cc, ec⟩ := Kd.R_slice ho
       subst ec
       have HOc := Aside0.mk ho
       have n2_ := Aside0.mk (below_step (by repeat (first | (with_reducible first | exact HBB.out | apply pw_below_drewN | apply below_drew1) | exact HBB.out)) hb)
       clear HBB HOa HOb
       have HBB := n2_
       clear n2_
       clear hb ho
       refine hK.out _ _ ⟨HS0_, HS1_, HS2_⟩ (fun hHeld => ?_)
       clear hK K
       refine norm_ (a' := ?_) ?_ ?_
       rotate_left
       · show Act.put _ (some 28) _ = _
         simp only [Act.put, List.setIfInBounds_toArray, List.set_cons_zero, List.set_cons_succ, i64_w, i32_w]
         rfl
       refine pure_ (i := 10) (N := some 8) (v := ?_) (a' := ?_) #[true, true, true, true, true, true, true, true, true, true, true] rfl rfl (any_of HT_.out (by kernel_rfl)) (fun _ _ _ h => h) (Or.inl ⟨by rfl, ?_⟩) ?_ ?_
       rotate_left
       · intro w'
         go_simp
         with_reducible rfl
       rotate_left
       · simp only [Act.put, List.setIfInBounds_toArray, List.set_cons_zero, List.set_cons_succ, i64_w, i32_w]
         rfl
       refine done_ (done_of HT_.out (by kernel_rfl)) ?_
       have hbs := (Array.getElem?_eq_some_iff.1 HT.out).1
       have hbase : base ≤ wo.heap.size := by have := HB.out.size; omega
       have hwb : base ≤ w7c.heap.size := by have := HB2.out.size; have := below_size HBB.out; omega
       have HT7 := Aside0.mk ((HBB.out.block _ hbs).trans HT.out)
       have HC7 := Aside0.mk (HC2.out.stp (Stp.of_below HBB.out (X := fun _ => False) (t := 64) (base := base)) id id id (by decide) (by decide))
       have HJ7 := Aside0.mk (HJ.out _ _ _ HJ2.out (Stp.of_below HBB.out))
       have HB7 := Aside0.mk (HB2.out.trans (HBB.out.mono (by have := HB2.out.size; omega)))
       have HL7 := Aside0.mk (Nat.lt_of_lt_of_le HL2.out HBB.out.size)
       have HN7 := Aside0.mk (Kd.R_below HN.out HBB.out)
       have hnc := (Kd.R_reads' HN.out).2.1
       have hcc := (Kd.R_reads' HOc.out).2.1
       have hfl := Aside0.mk (Kd.C_max (Kd.R_reads' HOc.out).2.2)
       have HWB := Aside0.mk (show l < w7b.heap.size from Nat.lt_of_lt_of_le HL2.out hz7.out)
       have HXB := Aside0.mk (show bx < w7b.heap.size by have := hz7.out; have := HB2.out.size; omega)
       clear HC2 HJ2 HB2 HL2 HN HT x1 x2 x3 HA HBx HSw
       have y0 := (blk_cell HT7.out 0).trans rfl
       have y1 := (blk_cell HT7.out 1).trans rfl
       have y2 := (blk_cell HT7.out 2).trans rfl
       have y3 := (blk_cell HT7.out 3).trans rfl
       have z1 := blk_frozen HT7.out 1
       have z2 := blk_frozen HT7.out 2
       have z3 := blk_frozen HT7.out 3
       by_cases h50 : 50 < s
       · have d2 : decide (50 < s) = true := decide_eq_true h50
         have HS' : 51 ≤ s ∧ hi = s - 1 ∧ now = f k (s - 1) ∧ pre2.map Band.plain ++ ((loopP (f k) (301 - s).toNat s lo now).map (fun b => ((k : Int), b)) ++ allB f (4 - (k + 1)) (k + 1)) = allB f 4 0 := by
          rcases HS.out with ⟨h1, _⟩ | h1
          · omega
          · exact h1
         obtain ⟨-, hhi, -, hS4⟩ := HS'
         have HS4 := Aside0.mk hS4
         have HHI := Aside0.mk hhi
         clear HS hS4 hhi
         obtain ⟨kE, hE⟩ := equal_of (f k s) now hfl.out
         by_cases hfe : f k s = now
         · rw [decide_eq_true hfe] at hE
           have HE5 := Aside0.mk hE
           have HFE := Aside0.mk hfe
           clear hE hfe
           gi_wp2
           refine ⟨trivial, rfl, (callsIn_wide.2 (api_Range_56.calls kE Ac cc (f k s) An cn now true _ (Kd.R_reads' HOc.out).2.2 hcc (Kd.R_reads' HN7.out).2.2 hnc HE5.out)).mono ?_⟩
           rintro e w8 ⟨rfl, ⟨nd, rfl⟩⟩
           gi_wp2
           go_roundw
           case rel =>
            have hd := pw_below_drewN (Below.refl w7c.heap.size w7c) nd
            obtain ⟨q1, q2, q3, q4, q5, q6⟩ := bands_fin (J := J pre2) (s := .int .i64 s) (fun A B => HJ.out pre2 A B) (HJ.out _ _ _ HJ7.out (Stp.of_below hd)) (HC7.out.stp (Stp.of_below hd (X := fun _ => False) (t := 64) (base := base)) id id id (by decide) (by decide)) (HB7.out.trans (hd.mono hwb)) (Nat.lt_of_lt_of_le HL7.out hd.size) (blk_drewN HT7.out nd) hbase (Nat.le_trans hwb hd.size) (Kd.R_drewN HOc.out nd)
            exact ⟨s + 1, pre2, lo, s, Ac, f k s, cc, rfl, by omega, by omega, q1, q2, q3, q4, q5, q6, HNl, ⟨.inr ⟨by omega, by omega, by rw [show s + 1 - 1 = s by omega], by rw [← loop_same hs3 HFE.out]; exact HS4.out⟩⟩⟩
           case measure => simp [intOf]; omega
         · rw [decide_eq_false hfe] at hE
           have HE5 := Aside0.mk hE
           have hnext : (pre2 ++ [(⟨k, lo, hi, An, now, cn⟩ : Band)]).map Band.plain ++ ((loopP (f k) (301 - (s + 1)).toNat (s + 1) s (f k s)).map (fun b => ((k : Int), b)) ++ allB f (4 - (k + 1)) (k + 1)) = allB f 4 0 := by
            have h := HS4.out
            rw [loop_other hs3 hfe, List.map_cons, List.cons_append] at h
            rw [List.map_append, List.append_assoc]
            have e := HHI.out
            subst e
            exact h
           have HNX := Aside0.mk hnext
           clear hE hfe hnext
           gi_wp2
           refine ⟨trivial, rfl, (callsIn_wide.2 (api_Range_56.calls kE Ac cc (f k s) An cn now false _ (Kd.R_reads' HOc.out).2.2 hcc (Kd.R_reads' HN7.out).2.2 hnc HE5.out)).mono ?_⟩
           rintro e w8 ⟨rfl, ⟨nd, rfl⟩⟩
           have HD := Aside0.mk (pw_below_drewN (Below.refl w7c.heap.size w7c) nd)
           obtain ⟨fn, tmps, assign, body, hy, hR⟩ := HY.out pre2 ⟨k, lo, hi, An, now, cn⟩ (w7c.drewN nd) (HJ.out _ _ _ HJ7.out (Stp.of_below HD.out)) ⟨Kd.R_drewN HN7.out nd, _, HNX.out⟩
           dsimp only [encB] at hy
           gi_wp2
           refine ⟨rfl, hR.mono ?_⟩
           rintro e B ⟨rfl, hJ3, hS3⟩
           have HJ3 := Aside0.mk hJ3
           have HS3 := Aside0.mk hS3
           have HT8 := Aside0.mk (hS3.same _ _ (blk_drewN HT7.out nd) (.inr ⟨fun h => h.elim (fun h => by have := HB.out.size; omega) (fun h => HNl.out h), fun cs fr e => by injection e with _ e _; cases e⟩))
           clear hJ3 hS3 hy hR y0 y1 y2 y3 z1 z2 z3
           have y0 := (blk_cell HT8.out 0).trans rfl
           have y1 := (blk_cell HT8.out 1).trans rfl
           have y2 := (blk_cell HT8.out 2).trans rfl
           have y3 := (blk_cell HT8.out 3).trans rfl
           have z1 := blk_frozen HT8.out 1
           have z2 := blk_frozen HT8.out 2
           have z3 := blk_frozen HT8.out 3
           gi_wp2
           go_roundw
           case rel =>
            have hs9 := (Stp.set HT8.out hbase 1 (.int .i64 s))
            have hR9 := Kd.R_set (R_stp (Kd.R_drewN HOc.out nd) HS3.out (fun k h => h.elim (fun h => by have := HXB.out; omega) (fun h => by have := HWB.out; omega)) (by decide)) HT8.out (by decide) 1 (.int .i64 s)
            have hC9 := (((HC7.out.stp (Stp.of_below HD.out (X := fun _ => False) (t := 64) (base := base)) id id id (by decide) (by decide)).stp HS3.out (by omega) (by omega) (by omega) (by decide) (by decide))).stp hs9 id id id (by decide) (by decide)
            have hB9 := ((HB7.out.trans (HD.out.mono hwb)).trans (HS3.out.below (Nat.le_trans hwb HD.out.size))).trans (hs9.below (by have := HS3.out.size; have := HD.out.size; omega))
            obtain ⟨q1, q2, q3, q4, q5, q6⟩ := bands_fin (J := J (pre2 ++ [(⟨k, lo, hi, An, now, cn⟩ : Band)])) (s := .int .i64 s) (fun A B => HJ.out _ A B) (HJ.out _ _ _ HJ3.out hs9) hC9 hB9 (Nat.lt_of_lt_of_le HL7.out (Nat.le_trans HD.out.size (Nat.le_trans HS3.out.size hs9.size))) (blk_set HT8.out 1 _) hbase (Nat.le_trans hwb (Nat.le_trans HD.out.size (Nat.le_trans HS3.out.size hs9.size))) hR9
            exact ⟨s + 1, pre2 ++ [⟨k, lo, hi, An, now, cn⟩], s, s, Ac, f k s, cc, rfl, by omega, by omega, q1, q2, q3, q4, q5, q6, HNl, ⟨.inr ⟨by omega, by omega, by rw [show s + 1 - 1 = s by omega], HNX.out⟩⟩⟩
           case measure => simp [intOf]; omega
       · have d2 : decide (50 < s) = false := decide_eq_false h50
         have hnext : pre2.map Band.plain ++ ((loopP (f k) (301 - (s + 1)).toNat (s + 1) lo (f k s)).map (fun b => ((k : Int), b)) ++ allB f (4 - (k + 1)) (k + 1)) = allB f 4 0 := by
          rcases HS.out with ⟨h1, h2, h3, h4⟩ | ⟨h1, _⟩
          · subst h1
            subst h2
            subst h3
            have h := HE.out
            rw [all_first hlt] at h
            exact h
          · omega
         have HNX := Aside0.mk hnext
         clear hnext HS
         gi_wp2
         refine ⟨trivial, ?_⟩
         gi_wp2
         go_roundw
         case rel =>
          obtain ⟨q1, q2, q3, q4, q5, q6⟩ := bands_fin (J := J pre2) (s := .int .i64 s) (fun A B => HJ.out pre2 A B) HJ7.out HC7.out HB7.out HL7.out HT7.out hbase hwb HOc.out
          exact ⟨s + 1, pre2, lo, s, Ac, f k s, cc, rfl, by omega, by omega, q1, q2, q3, q4, q5, q6, HNl, ⟨.inr ⟨by omega, by omega, by rw [show s + 1 - 1 = s by omega], HNX.out⟩⟩⟩
         case measure => simp [intOf]; omega
     · have d1 : decide (s ≤ 300) = false := decide_eq_false hs3
       have x0 := (blk_cell HT.out 0).trans rfl
       have x1 := (blk_cell HT.out 1).trans rfl
       have x2 := (blk_cell HT.out 2).trans rfl
       have x3 := (blk_cell HT.out 3).trans rfl
       have hE2 : (pre2 ++ [(⟨k, lo, hi, An, now, cn⟩ : Band)]).map Band.plain ++ allB f (4 - (k + 1)) (k + 1) = allB f 4 0 := by
        rcases HS.out with ⟨h1, _⟩ | ⟨h1, h2, h3, h4⟩
        · omega
        · have hs5 : s = 301 := by omega
          subst hs5
          subst h2
          rw [List.map_append, List.append_assoc]
          exact h4
       obtain ⟨fn, tmps, assign, body, hy, hR⟩ := HY.out pre2 ⟨k, lo, hi, An, now, cn⟩ _ HJ2.out ⟨HN.out, _, hE2⟩
       have HE2 := Aside0.mk hE2
       clear hE2
       dsimp only [encB] at hy
       gi_wp2
       refine ⟨rfl, hR.mono ?_⟩
       rintro e B ⟨rfl, hJ3, hS3⟩
       gi_wp2
       go_roundw
       case rel => exact ⟨k + 1, pre2 ++ [⟨k, lo, hi, An, now, cn⟩], by omega, by go_num, HE2, ⟨hJ3⟩, ⟨HC2.out.stp hS3 (by omega) (by omega) (by omega) (by decide) (by decide)⟩, ⟨HB2.out.trans (hS3.below (by have := HB2.out.size; omega))⟩, ⟨by have := HL2.out; have := hS3.size; omega⟩⟩
       case measure => simp [intOf]; omega
  · have d0 : decide ((k : Int) < 4) = false := decide_eq_false (by omega)
    gi_wp2
    have hk4 : k = 4 := by omega
    subst hk4
    unfold Exit.noGoto
    show bodyPost Tryz.prog Tryz.f53 _ _ _ _
    refine bodyPost_end (results_none rfl _ _ _) rfl ?_
    exact ⟨⟨_, rfl⟩, pre, by have := HE.out; simpa [allB] using this, HJp.out⟩
set_option maxHeartbeats 1000000 in
theorem bands_calls (A0 A1 : Option Addr) (n0 c0 n1 c1 : Nat) (kw : FuncId) (w : World) :
  Calls Tryz.prog 44 #[.slice A0 n0 c0, .slice A1 n1 c1, .func (.func kw) #[] #[]] w fun e w' => e = .returned (.func (.func 53) #[] #[.pointer (some ⟨w.heap.size, 0, none⟩), .pointer (some ⟨w.heap.size + 1, 0, none⟩), .pointer (some ⟨w.heap.size + 2, 0, none⟩)]) ∧
   Caps w.heap.size (w.heap.size + 1) (w.heap.size + 2) (.slice A0 n0 c0) (.slice A1 n1 c1) kw w' ∧ Below w.heap.size w w' ∧ w'.heap.size = w.heap.size + 3 := by
 go_enter Tryz.func44, Tryz.ntmps44
 go_wp2
 go_ret
 exact ⟨rfl, ⟨blk_alloc (blk_alloc (blk_new w _) _) _, blk_alloc (by have := blk_new (w.alloc (.cells #[.slice A0 n0 c0] 22)) (.cells #[.slice A1 n1 c1] 22); rwa [World.size_alloc] at this) _,
  by have := blk_new ((w.alloc (.cells #[.slice A0 n0 c0] 22)).alloc (.cells #[.slice A1 n1 c1] 22)) (.cells #[.func (.func kw) #[] #[]] 51); rwa [World.size_alloc, World.size_alloc] at this⟩,
  below_alloc (below_alloc (below_alloc (Below.refl _ _) _) _) _, by simp⟩
set_option maxHeartbeats 400000 in
set_option maxRecDepth 100000 in
theorem form_calls {A0 A1 : Option Addr} {c0 c1 : Nat} {l0 l1 : List S42} {kw : FuncId} {wf : Bool → Bool → Bool} {w : World} {f : Int → Int → List S40}
  (hkw : ∀ args W, (callFunc kw args).run Tryz.prog W = .ok (.enter kw args) W) (hwf : ∀ (a b : Bool) (r : Bool) (W : World), wantO wf a b = some r → Calls Tryz.prog kw #[.bool a, .bool b] W fun e w' => e = .returned (.bool r) ∧ Drawn0 W w')
  (hc0 : l0.length ≤ c0) (hc1 : l1.length ≤ c1) (hf : OkL l0 → OkL l1 → ∀ lang s, ∃ k, zone_sweep.f wf k (canW l0 lang s) (canW l1 lang s) = some (f lang s))
  (hr0 : Kd.C k42 w A0 l0.length l0) (hr1 : Kd.C k42 w A1 l1.length l1) (hlen : (formP f).length ≤ 1000000000000) (hv0 : validP l0 = true) (hv1 : validP l1 = true) (hp0 : OkL l0) (hp1 : OkL l1) (hl0 : l0.length < 1000000) (hl1 : l1.length < 1000000) :
  Calls Tryz.prog 32 #[.slice A0 l0.length c0, .slice A1 l1.length c1, .func (.func kw) #[] #[]] w fun e w' => ∃ v, e = .returned (.tuple #[v, .int .i64 (formR l0 l1 f).2]) ∧ Kd.R k42 42 w' w.heap.size (fun _ => True) v (formR l0 l1 f).1 ∧ Below w.heap.size w w' := by
 have V0 := Aside0.mk (fun W h => valid_calls A0 c0 l0 W h hc0)
 have V1 := Aside0.mk (fun W h => valid_calls A1 c1 l1 W h hc1)
 rw [hv0] at V0
 rw [hv1] at V1
 have HR0 := Aside0.mk hr0
 have HR1 := Aside0.mk hr1
 have HF := Aside0.mk (hf hp0 hp1)
 have HK := Aside0.mk hkw
 have HW := Aside0.mk hwf
 have HV := Aside0.mk (And.intro hv0 hv1)
 have HLEN := Aside0.mk hlen
 have HB := Aside0.mk (Below.refl w.heap.size w)
 have HP := Aside0.mk (And.intro hp0 hp1)
 clear hr0 hr1 hf hkw hwf hv0 hv1 hlen hp0 hp1
 refine (callsIn_wide (n := 0)).1 (callsIn_of_wp_marks Tryz.func32 rfl trivial ?_ rfl)
 simp only [Tryz.ntmps32, List.size_toArray, List.length_cons, List.length_nil, Nat.reduceAdd, Nat.reduceSub, Array.replicate_succ, Array.replicate_zero, List.push_toArray, List.append_toArray, List.nil_append, List.cons_append]
 refine wpIn_wide.2 ?_
 go_wp2_with (go_at_call 7; with_reducible refine (V0.out _ ?s1).mono ?_; (case s1 => exact Kd.C_below HR0.out HB.out); rintro e w2 ⟨rfl, hb⟩; have n0_ := Aside0.mk (below_step HB.out hb); clear HB; have HB := n0_; clear n0_ hb)
 go_wp2_with (go_at_call 7; with_reducible refine (V1.out _ ?s1).mono ?_; (case s1 => exact Kd.C_below HR1.out HB.out); rintro e w3 ⟨rfl, hb⟩; have n0_ := Aside0.mk (below_step HB.out hb); clear HB; have HB := n0_; clear n0_ hb)
 go_wp2_with (go_at_call 44; refine (bands_calls _ _ _ _ _ _ kw _).mono ?_; rintro e w4 ⟨rfl, hcap, hb, hsz⟩; simp only [World.size_alloc] at hcap; have HCAP := Aside0.mk hcap; have HB4 := Aside0.mk hb; clear hcap hb hsz)
 have hbx := blk_new w3 (.cells #[.slice none 0 0] 22)
 have HBX := Aside0.mk ((HB4.out.block _ (Array.getElem?_eq_some_iff.1 hbx).1).trans hbx)
 have HBa := Aside0.mk (below_step HB.out (below_alloc (Below.refl w3.heap.size w3) (.cells #[.slice none 0 0] 22)))
 have HB5 := Aside0.mk (below_step HBa.out HB4.out)
 have hs3 := HB.out.size
 have hs4 := HB4.out.size
 rw [World.size_alloc] at hs4
 clear hbx HB HBa HB4
 refine (wpIn_wide (n := 0)).1 ?_
 refine range_run (α := Band) (gf := 53) (lb := #[.pointer (some ⟨w3.heap.size + 1, 0, none⟩), .pointer (some ⟨w3.heap.size + 1 + 1, 0, none⟩), .pointer (some ⟨w3.heap.size + 1 + 2, 0, none⟩)]) ?hg enters53 (encs := encB) (Px := PxB f) (S := fun xs => xs.map Band.plain = allB f 4 0) (tb := 64) (te := 42) (base := w.heap.size) (bx := w3.heap.size) ?hbw ?hbx (fun _ => rfl) ?hseq (GatherI w w3.heap.size) ?hI ?hIl ?h0 ?hround ?hdone
 case hg => rfl
 case hbw => exact HB5.out.size
 case hbx => omega
 case hseq =>
  intro l J W hl hlW hs hJ hY hJ0
  exact bands1_calls HK.out HW.out HP.out.1 HP.out.2 hl0 hl1 hc0 hc1 HF.out (base := w.heap.size) (bx := w3.heap.size) HB5.out.size (fun B hB => Kd.C_below HR0.out (HB5.out.trans hB)) (fun B hB => Kd.C_below HR1.out (HB5.out.trans hB))
   HCAP.out (by omega) (by omega) (by omega) (by omega) l J W hl hlW hs hJ hY hJ0
 case hI =>
  rintro pre A B ⟨v, h1, h2, h3⟩ hs
  exact ⟨v, hs.same _ _ h1 (.inr ⟨id, fun cs fr e => by injection e with _ e _; cases e⟩), R_stp h2 hs (fun _ h => h.elim) (by decide), h3.trans (hs.below h3.size)⟩
 case hIl =>
  rintro pre A B k ⟨v, h1, h2, h3⟩ hk ho hg
  exact ⟨v, blk_grown h1 hg (fun e => by have := Option.some.inj e; omega), R_loop h2 hg ho, h3.grown hg h3.size (fun r e => by have := Option.some.inj e; omega)⟩
 case h0 => exact ⟨.slice none 0 0, HBX.out, Kd.R_nil _ _ _ _ _, HB5.out⟩
 case hround =>
  rintro l pre x A ⟨v, h1, h2, h3⟩ hx hl
  obtain ⟨X, lo, hi, An, ws, cn⟩ := x
  obtain ⟨hxr, rest, hxe⟩ := hx
  have HX := Aside0.mk hxr
  have HL := Aside0.mk (flatZ_le hxe)
  have HA := Aside0.mk h1
  have HZ := Aside0.mk h2
  have HBA := Aside0.mk h3
  clear hxr hxe h1 h2 h3 hc0 hc1 hl0 hl1 rest
  dsimp only [encB]
  gi_wp2
  refine ⟨Stp.of_below (below_alloc (Below.refl _ _) _), ?_⟩
  rintro B' hg ob hob hoc
  have hnew := blk_new A (.cells #[.int .i64 X, .int .i64 lo, .int .i64 hi, .slice An ws.length cn] 64)
  have hne : A.heap.size ≠ l := fun e => by
   subst e
   rw [hnew] at hob
   obtain rfl := Option.some.inj hob
   cases hoc
  have hlb := HBA.out.size
  have hA0 := HA.out
  have hbl := blk_lt hA0
  have HG := Aside0.mk (blk_grown hnew hg (fun e => hne (Option.some.inj e)))
  have HA' := Aside0.mk (blk_grown (blk_alloc hA0 _) hg (fun e => by have := Option.some.inj e; omega))
  have HZ' := Aside0.mk (R_loop (Kd.R_alloc HZ.out _) hg ⟨ob, hob, hoc⟩)
  have HX' := Aside0.mk (R_loop (Kd.R_alloc HX.out _) hg ⟨ob, hob, hoc⟩)
  have HB' := Aside0.mk ((HBA.out.trans ((below_alloc (Below.refl _ _) _).mono hlb)).grown hg (by simp; omega) (fun r e => by have := Option.some.inj e; omega))
  clear hob hoc hnew hg hA0 HA HZ HX HBA ob hne
  have g2 := (blk_cell HG.out 2).trans rfl
  have g3 := (blk_cell HG.out 3).trans rfl
  gi_wp2
  gi_loopw [28] (fun v28 wr => ∃ (i : Int) (v : Value), 0 ≤ i ∧ i ≤ ws.length ∧ v28 = .int .i64 i ∧ Aside0 (wr.heap[w3.heap.size]? = some (.cells #[v] 22 (0, 0))) ∧ Aside0 (Kd.R k42 42 wr w.heap.size (fun _ => True) v (flatZ pre ++ zonesP X lo hi (ws.take i.toNat))) ∧
   Aside0 (Below w.heap.size w wr) ∧ Aside0 (wr.heap[A.heap.size]? = some (.cells #[.int .i64 X, .int .i64 lo, .int .i64 hi, .slice An ws.length cn] 64 (0, 0))) ∧ Aside0 (Kd.R k40 40 wr 0 (fun _ => True) (.slice An ws.length cn) ws) ∧ Aside0 (Stp (fun k => k = w3.heap.size) 42 w.heap.size B' wr)) (fun v28 _ => ws.length - (intOf v28).toNat)
  case atStart => exact ⟨0, v, by omega, by omega, rfl, HA', ⟨by have := HZ'.out; simpa [zonesP] using this⟩, HB', HG, HX', ⟨Stp.refl _⟩⟩
  case round =>
   clear HA' HZ' HB' HG HX' g2 g3
   obtain ⟨i, v, hi0, hi1, rfl, HA, HZ, HBr, HG, HX, HS⟩ := hrel
   by_cases hlt : i < (ws.length : Int)
   · have d0 : decide (i < (ws.length : Int)) = true := decide_eq_true hlt
     obtain ⟨ad, rfl, hx0, hx1⟩ := at_T40 (Kd.R_reads' HX.out).2.2 i hi0 hlt
     have g0 := (blk_cell HG.out 0).trans rfl
     have g1 := (blk_cell HG.out 1).trans rfl
     have g2 := (blk_cell HG.out 2).trans rfl
     have b0 := (blk_cell HA.out 0).trans rfl
     have bf := blk_frozen HA.out 0
     have p0 : 0 ≤ i := hi0
     have lx := blk_lt HA.out
     have lg := blk_lt HG.out
     have hzl : (flatZ pre ++ zonesP X lo hi (ws.take i.toNat)).length ≤ (flatZ pre).length + ws.length := by
      rw [List.length_append]
      simp only [zonesP, List.length_map, List.length_take]
      omega
     have HZL := Aside0.mk hzl
     clear hzl
     have HWI := Aside0.mk (show wrap64 (i + 1) = i + 1 by have := Kd.C_max (Kd.R_reads' HX.out).2.2; unfold wrap64; omega)
     have hwr := HBr.out.size
     have HZa := Aside0.mk (Kd.R_alloc HZ.out (.cells #[.int .i64 (rd_T40 ws i).f0, .int .i64 (rd_T40 ws i).f1] 40))
     have HAa := Aside0.mk (blk_alloc HA.out (.cells #[.int .i64 (rd_T40 ws i).f0, .int .i64 (rd_T40 ws i).f1] 40))
     have HGa := Aside0.mk (blk_alloc HG.out (.cells #[.int .i64 (rd_T40 ws i).f0, .int .i64 (rd_T40 ws i).f1] 40))
     have HXa := Aside0.mk (Kd.R_alloc HX.out (.cells #[.int .i64 (rd_T40 ws i).f0, .int .i64 (rd_T40 ws i).f1] 40))
     have HSa := Aside0.mk (HS.out.trans (Stp.of_below (below_alloc (Below.refl wr.heap.size wr) (.cells #[.int .i64 (rd_T40 ws i).f0, .int .i64 (rd_T40 ws i).f1] 40))))
     have NA := Aside0.mk (Kd.R_ne HZa.out HAa.out (by decide))
     have NG := Aside0.mk (Kd.R_ne HZa.out HGa.out (by decide))
     gi_wp2_with (gi_at_builtin; refine R_appendIn k42 (w0 := w) (W := wr.alloc (.cells #[.int .i64 (rd_T40 ws i).f0, .int .i64 (rd_T40 ws i).f1] 40)) w.heap.size rfl (.tmp 32) (.tmp 39) 22 42 (.agg #[(.int .i64 0), (.int .i64 0), (.int .i64 0), (.int .i64 0), (.int .i64 0)]) 40 rfl Tryz.underlying22 info42 rfl (by decide) (by omega) v (flatZ pre ++ zonesP X lo hi (ws.take i.toNat)) (⟨X, ⟨lo, hi⟩, rd_T40 ws i⟩ : S42) [.int .i64 X, .int .i64 lo, .int .i64 hi, .int .i64 ((rd_T40 ws i).f0), .int .i64 ((rd_T40 ws i).f1)] (fun _ => True) (fun _ => False) rfl ?hx ?aP (fun _ hk => hk.elim) ?aF ?aO ?aB ?aS ?aL ?_; (case hx => first | (go_simp; done) | (go_simp; rfl)); (case aP => exact k42_mkM _ _ _ (⟨X, ⟨lo, hi⟩, rd_T40 ws i⟩ : S42)); (case aF => exact (fun _ _ => trivial)); (case aO => exact Kd.R_alloc HZ.out _); (case aB => exact HBr.out.alloc hwr _); (case aS => exact (HBr.out.alloc hwr _).size); (case aL => have := HL.out; have := HLEN.out; have := HZL.out; omega); intro v1 w1 ho hb hg hat; obtain ⟨y, hy⟩ : ∃ y, (flatZ pre ++ zonesP X lo hi (ws.take i.toNat)) ++ [(⟨X, ⟨lo, hi⟩, rd_T40 ws i⟩ : S42)] = y := ⟨_, rfl⟩; rw [hy] at ho; have HY := Aside0.mk hy; clear hy; obtain ⟨Av, cv, ev⟩ := Kd.R_slice ho; subst ev; have n0_ := Aside0.mk (blk_grown HAa.out hg NA.out); have n1_ := Aside0.mk (blk_grown HGa.out hg NG.out); have n2_ := Aside0.mk (Kd.R_over HXa.out HZa.out n33_35 hg); have n3_ := Aside0.mk (HSa.out.trans (Stp.of_grownBy hg (fun r e => ⟨Kd.R_base HZa.out r e, .inr ((Kd.R_typed HZa.out r e).imp fun _ h => ⟨_, h⟩)⟩))); have HZ1 := Aside0.mk ho; have HB1 := Aside0.mk hb; clear hg hat HA HG HX HS HZ HBr HAa HGa HXa HSa HZa NA NG ho hb b0 bf g0 g1 g2 lx lg hx0 hx1; have HA := n0_; have HG := n1_; have HX := n2_; have HS := n3_; clear n0_ n1_ n2_ n3_; have b0 := (blk_cell HA.out 0).trans rfl; have bf := blk_frozen HA.out 0)
     go_roundw
     case rel =>
      have hbw1 := HB1.out.size
      have hbs : Stp (fun k => k = w3.heap.size) 42 w.heap.size w1 (w1.setCell ⟨w3.heap.size, 0, none⟩ (.slice Av y.length cv)) := Stp.setX (X := fun k => k = w3.heap.size) (b := w3.heap.size) rfl hs3 0 (.slice Av y.length cv)
      exact ⟨i + 1, (.slice Av y.length cv), by omega, by omega, by rw [HWI.out], ⟨blk_set HA.out 0 (.slice Av y.length cv)⟩, ⟨by have := Kd.R_set HZ1.out HA.out (by decide) 0 (.slice Av y.length cv); rw [zonesP_take X lo hi ws i hi0 hlt, ← List.append_assoc, HY.out]; exact this⟩, ⟨HB1.out.trans (hbs.below hbw1)⟩, ⟨hbs.same _ _ HG.out (.inr ⟨by omega, fun cs fr e => by injection e with _ e _; cases e⟩)⟩, ⟨Kd.R_set HX.out HA.out (by decide) 0 (.slice Av y.length cv)⟩, ⟨HS.out.trans hbs⟩⟩
     case measure => have := HWI.out; simp [intOf]; omega
   · have d0 : decide (i < (ws.length : Int)) = false := decide_eq_false hlt
     gi_wp2
     have hie : i.toNat = ws.length := by omega
     have hz := HZ.out
     rw [hie, List.take_length] at hz
     exact ⟨HS.out, v, HA.out, by rw [flatZ_snoc]; exact hz, HBr.out⟩
 case hdone =>
  rintro D xs W hD hS ⟨v, h1, h2, h3⟩ hDd
  rw [flatZ_all hS] at h2
  obtain ⟨Av, cv, ev⟩ := Kd.R_slice h2
  subst ev
  have HE : formR l0 l1 f = if 1000 < (formP f).length then ([], 2) else (formP f, 0) := by
   unfold formR
   rw [HV.out.1, HV.out.2]
   rfl
  have HEE := Aside0.mk HE
  have b0 := (blk_cell h1 0).trans rfl
  have HD := Aside0.mk hDd
  have H2 := Aside0.mk h2
  have H3 := Aside0.mk h3
  clear h1 h2 h3 hDd HE hS hc0 hc1 hl0 hl1
  by_cases hz : 1000 < (formP f).length
  · have dz : decide (1000 < ((formP f).length : Int)) = true := decide_eq_true (by omega)
    have HZ := Aside0.mk hz
    clear hz
    go_wp2
    refine ⟨by simp, .inl ⟨_, _, rfl, run_takeDeferred HD.out, ?_⟩⟩
    refine ⟨.tuple #[.slice none 0 0, .int .i64 2], by simp [results, go_sem], ?_⟩
    rw [HEE.out, if_pos HZ.out]
    exact ⟨_, rfl, Kd.R_nil _ _ _ _ _, H3.out.grown (grownBy_putObj' _ _ _) H3.out.size (fun r e => by have := Option.some.inj e; omega)⟩
  · have dz : decide (1000 < ((formP f).length : Int)) = false := decide_eq_false (by omega)
    have HZ := Aside0.mk hz
    clear hz
    go_wp2
    refine ⟨by simp, .inl ⟨_, _, rfl, run_takeDeferred HD.out, ?_⟩⟩
    refine ⟨.tuple #[.slice Av (formP f).length cv, .int .i64 0], by simp [results, go_sem], ?_⟩
    rw [HEE.out, if_neg HZ.out]
    exact ⟨_, rfl, R_loop H2.out (grownBy_putObj' _ _ _) ⟨_, HD.out, rfl⟩, H3.out.grown (grownBy_putObj' _ _ _) H3.out.size (fun r e => by have := Option.some.inj e; omega)⟩
theorem count1_calls (a b : Bool) (r : Bool) (W : World) (h : wantO (fun x _ => x) a b = some r) : Calls Tryz.prog 45 #[.bool a, .bool b] W fun e w' => e = .returned (.bool r) ∧ Drawn0 W w' := by
 obtain rfl : a = r := Option.some.inj h
 go_enter Tryz.func45, Tryz.ntmps45
 go_wp2
 go_ret
 exact ⟨rfl, Drawn0.refl _⟩
set_option maxHeartbeats 400000 in
set_option maxRecDepth 100000 in
theorem count_calls {A0 : Option Addr} {c0 : Nat} {l0 : List S42} {w : World} {f : Int → Int → List S40}
  (hc0 : l0.length ≤ c0) (hf : OkL l0 → OkL [] → ∀ lang s, ∃ k, zone_sweep.f (fun x _ => x) k (canW l0 lang s) (canW [] lang s) = some (f lang s))
  (hr0 : Kd.C k42 w A0 l0.length l0) (hlen : (formP f).length ≤ 1000000000000) (hv0 : validP l0 = true) (hp0 : OkL l0) (hl0 : l0.length < 1000000) :
  Calls Tryz.prog 20 #[.slice A0 l0.length c0] w fun e w' => e = .returned (.tuple #[.int .i64 (cntZ (formP f)), .int .i64 0]) ∧ Below w.heap.size w w' := by
 have V0 := Aside0.mk (fun W h => valid_calls A0 c0 l0 W h hc0)
 rw [hv0] at V0
 have HR0 := Aside0.mk hr0
 have HF := Aside0.mk (hf hp0 okL_nil)
 have HLEN := Aside0.mk hlen
 have HB := Aside0.mk (Below.refl w.heap.size w)
 have HP := Aside0.mk (And.intro hp0 okL_nil)
 clear hr0 hf hv0 hlen hp0
 refine (callsIn_wide (n := 0)).1 (callsIn_of_wp_marks Tryz.func20 rfl trivial ?_ rfl)
 simp only [Tryz.ntmps20, List.size_toArray, List.length_cons, List.length_nil, Nat.reduceAdd, Nat.reduceSub, Array.replicate_succ, Array.replicate_zero, List.push_toArray, List.append_toArray, List.nil_append, List.cons_append]
 refine wpIn_wide.2 ?_
 go_wp2_with (go_at_call 7; with_reducible refine (V0.out _ ?s1).mono ?_; (case s1 => exact Kd.C_below HR0.out HB.out); rintro e w3 ⟨rfl, hb⟩; have n0_ := Aside0.mk (below_step HB.out hb); clear HB; have HB := n0_; clear n0_ hb)
 go_wp2_with (go_at_call 44; refine (bands_calls _ _ _ _ _ _ 45 _).mono ?_; rintro e w4 ⟨rfl, hcap, hb, hsz⟩; simp only [World.size_alloc] at hcap; have HCAP := Aside0.mk hcap; have HB4 := Aside0.mk hb; clear hcap hb hsz)
 have hbx := blk_new w3 (.cells #[.int .i64 0] 3)
 have HBX := Aside0.mk ((HB4.out.block _ (Array.getElem?_eq_some_iff.1 hbx).1).trans hbx)
 have HBa := Aside0.mk (below_step HB.out (below_alloc (Below.refl w3.heap.size w3) (.cells #[.int .i64 0] 3)))
 have HB5 := Aside0.mk (below_step HBa.out HB4.out)
 have hs3 := HB.out.size
 have hs4 := HB4.out.size
 rw [World.size_alloc] at hs4
 clear hbx HB HBa HB4
 refine (wpIn_wide (n := 0)).1 ?_
 refine range_run (α := Band) (gf := 53) (lb := #[.pointer (some ⟨w3.heap.size + 1, 0, none⟩), .pointer (some ⟨w3.heap.size + 1 + 1, 0, none⟩), .pointer (some ⟨w3.heap.size + 1 + 2, 0, none⟩)]) ?hg enters53 (encs := encB) (Px := PxB f) (S := fun xs => xs.map Band.plain = allB f 4 0) (tb := 64) (te := 42) (base := w.heap.size) (bx := w3.heap.size) ?hbw ?hbx (fun _ => rfl) ?hseq (CountI w w3.heap.size) ?hI ?hIl ?h0 ?hround ?hdone
 case hg => rfl
 case hbw => exact HB5.out.size
 case hbx => omega
 case hseq =>
  intro l J W hl hlW hs hJ hY hJ0
  exact bands1_calls (l1 := []) (A1 := none) (c1 := 0) enters45 count1_calls HP.out.1 HP.out.2 hl0 (by simp) hc0 (by simp) HF.out (base := w.heap.size) (bx := w3.heap.size) HB5.out.size (fun B hB => Kd.C_below HR0.out (HB5.out.trans hB)) (fun B hB => Kd.C_nil _ _)
   HCAP.out (by omega) (by omega) (by omega) (by omega) l J W hl hlW hs hJ hY hJ0
 case hI =>
  rintro pre A B ⟨h1, h3⟩ hs
  exact ⟨hs.same _ _ h1 (.inr ⟨id, fun cs fr e => by injection e with _ e _; cases e⟩), h3.trans (hs.below h3.size)⟩
 case hIl =>
  rintro pre A B k ⟨h1, h3⟩ hk ho hg
  exact ⟨blk_grown h1 hg (fun e => by have := Option.some.inj e; omega), h3.grown hg h3.size (fun r e => by have := Option.some.inj e; omega)⟩
 case h0 => exact ⟨HBX.out, HB5.out⟩
 case hround =>
  rintro l pre x A ⟨h1, h3⟩ hx hl
  obtain ⟨X, lo, hi, An, ws, cn⟩ := x
  obtain ⟨hxr, rest, hxe⟩ := hx
  have HX := Aside0.mk hxr
  have HL := Aside0.mk (flatZ_le hxe)
  have HA := Aside0.mk h1
  have HBA := Aside0.mk h3
  clear hxr hxe h1 h3 hc0 hl0 rest
  dsimp only [encB]
  gi_wp2
  refine ⟨Stp.of_below (below_alloc (Below.refl _ _) _), ?_⟩
  rintro B' hg ob hob hoc
  have hnew := blk_new A (.cells #[.int .i64 X, .int .i64 lo, .int .i64 hi, .slice An ws.length cn] 64)
  have hne : A.heap.size ≠ l := fun e => by
   subst e
   rw [hnew] at hob
   obtain rfl := Option.some.inj hob
   cases hoc
  have hlb := HBA.out.size
  have hA0 := HA.out
  have hbl := blk_lt hA0
  have HG := Aside0.mk (blk_grown hnew hg (fun e => hne (Option.some.inj e)))
  have HA' := Aside0.mk (blk_grown (blk_alloc hA0 _) hg (fun e => by have := Option.some.inj e; omega))
  have HX' := Aside0.mk (R_loop (Kd.R_alloc HX.out _) hg ⟨ob, hob, hoc⟩)
  have HB' := Aside0.mk ((HBA.out.trans ((below_alloc (Below.refl _ _) _).mono hlb)).grown hg (by simp; omega) (fun r e => by have := Option.some.inj e; omega))
  clear hob hoc hnew hg hA0 HA HX HBA ob hne
  have g2 := (blk_cell HG.out 2).trans rfl
  have g3 := (blk_cell HG.out 3).trans rfl
  gi_wp2
  gi_loopw [17] (fun v28 wr => ∃ (i : Int), 0 ≤ i ∧ i ≤ ws.length ∧ v28 = .int .i64 i ∧ Aside0 (wr.heap[w3.heap.size]? = some (.cells #[.int .i64 (cntZ (flatZ pre ++ zonesP X lo hi (ws.take i.toNat)))] 3 (0, 0))) ∧
   Aside0 (Below w.heap.size w wr) ∧ Aside0 (wr.heap[A.heap.size]? = some (.cells #[.int .i64 X, .int .i64 lo, .int .i64 hi, .slice An ws.length cn] 64 (0, 0))) ∧ Aside0 (Kd.R k40 40 wr 0 (fun _ => True) (.slice An ws.length cn) ws) ∧ Aside0 (Stp (fun k => k = w3.heap.size) 42 w.heap.size B' wr)) (fun v28 _ => ws.length - (intOf v28).toNat)
  case atStart => exact ⟨0, by omega, by omega, rfl, ⟨by have := HA'.out; simpa [zonesP] using this⟩, HB', HG, HX', ⟨Stp.refl _⟩⟩
  case round =>
   clear HA' HB' HG HX' g2 g3
   obtain ⟨i, hi0, hi1, rfl, HA, HBr, HG, HX, HS⟩ := hrel
   by_cases hlt : i < (ws.length : Int)
   · have d0 : decide (i < (ws.length : Int)) = true := decide_eq_true hlt
     obtain ⟨ad, rfl, hx0, hx1⟩ := at_T40 (Kd.R_reads' HX.out).2.2 i hi0 hlt
     have g1 := (blk_cell HG.out 1).trans rfl
     have g2 := (blk_cell HG.out 2).trans rfl
     have b0 := (blk_cell HA.out 0).trans rfl
     have bf := blk_frozen HA.out 0
     have p0 : 0 ≤ i := hi0
     have lx := blk_lt HA.out
     have lg := blk_lt HG.out
     have HWI := Aside0.mk (show wrap64 (i + 1) = i + 1 by have := Kd.C_max (Kd.R_reads' HX.out).2.2; unfold wrap64; omega)
     have hwr := HBr.out.size
     gi_wp2
     go_roundw
     case rel =>
      have hn : cntZ (flatZ pre ++ zonesP X lo hi (ws.take (i + 1).toNat)) = wrap64 (cntZ (flatZ pre ++ zonesP X lo hi (ws.take i.toNat)) + wrap64 (wrap64 (wrap64 (hi - lo) + 1) * wrap64 (wrap64 ((rd_T40 ws i).f1 - (rd_T40 ws i).f0) + 1))) := by
       rw [zonesP_take X lo hi ws i hi0 hlt, ← List.append_assoc, cntZ_snoc]
      rw [← hn]
      obtain ⟨N, hN⟩ : ∃ N, cntZ (flatZ pre ++ zonesP X lo hi (ws.take (i + 1).toNat)) = N := ⟨_, rfl⟩
      rw [hN]
      have hs1 : Stp (fun k => k = w3.heap.size) 42 w.heap.size wr (wr.setCell ⟨w3.heap.size, 0, none⟩ (.int .i64 N)) := Stp.setX (X := fun k => k = w3.heap.size) (b := w3.heap.size) rfl hs3 0 _
      have hs2 := hs1.trans (Stp.of_below (below_alloc (Below.refl _ _) (.cells #[.int .i64 (rd_T40 ws i).f0, .int .i64 (rd_T40 ws i).f1] 40)))
      exact ⟨i + 1, by omega, by omega, by rw [HWI.out], ⟨by rw [hN]; exact blk_alloc (blk_set HA.out 0 _) _⟩, ⟨HBr.out.trans (hs2.below hwr)⟩, ⟨hs2.same _ _ HG.out (.inr ⟨by omega, fun cs fr e => by injection e with _ e _; cases e⟩)⟩, ⟨Kd.R_alloc (Kd.R_set HX.out HA.out (by decide) 0 _) _⟩, ⟨HS.out.trans hs2⟩⟩
     case measure => have := HWI.out; simp [intOf]; omega
   · have d0 : decide (i < (ws.length : Int)) = false := decide_eq_false hlt
     gi_wp2
     have hie : i.toNat = ws.length := by omega
     have hz := HA.out
     rw [hie, List.take_length] at hz
     exact ⟨HS.out, by rw [flatZ_snoc]; exact hz, HBr.out⟩
 case hdone =>
  rintro D xs W hD hS ⟨h1, h3⟩ hDd
  rw [flatZ_all hS] at h1
  have b0 := (blk_cell h1 0).trans rfl
  have HD := Aside0.mk hDd
  have H3 := Aside0.mk h3
  clear h1 h3 hDd hS hc0 hl0
  go_wp2
  refine ⟨by simp, .inl ⟨_, _, rfl, run_takeDeferred HD.out, ?_⟩⟩
  refine ⟨.tuple #[.int .i64 (cntZ (formP f)), .int .i64 0], by simp [results, go_sem], ?_⟩
  exact ⟨rfl, H3.out.grown (grownBy_putObj' _ _ _) H3.out.size (fun r e => by have := Option.some.inj e; omega)⟩
set_option maxHeartbeats 1000000 in
theorem form_bad {A0 A1 : Option Addr} {c0 c1 : Nat} {l0 l1 : List S42} {v : Value} {w : World} (hc0 : l0.length ≤ c0) (hc1 : l1.length ≤ c1) (hr0 : Kd.C k42 w A0 l0.length l0) (hr1 : Kd.C k42 w A1 l1.length l1) (hv : (validP l0 && validP l1) = false) :
  Calls Tryz.prog 32 #[.slice A0 l0.length c0, .slice A1 l1.length c1, v] w fun e w' => e = .returned (.tuple #[.slice none 0 0, .int .i64 1]) ∧ Below w.heap.size w w' := by
 have V0 := Aside0.mk (fun W h => valid_calls A0 c0 l0 W h hc0)
 have V1 := Aside0.mk (fun W h => valid_calls A1 c1 l1 W h hc1)
 have HR0 := Aside0.mk hr0
 have HR1 := Aside0.mk hr1
 have HB := Aside0.mk (Below.refl w.heap.size w)
 clear hr0 hr1 hc0 hc1
 generalize validP l0 = b0 at *
 generalize validP l1 = b1 at *
 cases b0 with
 | false =>
  clear hv
  go_enter Tryz.func32, Tryz.ntmps32
  go_wp2_with (go_at_call 7; with_reducible refine (V0.out _ ?s1).mono ?_; (case s1 => exact Kd.C_below HR0.out HB.out); rintro e w2 ⟨rfl, hb⟩; have n0_ := Aside0.mk (below_step HB.out hb); clear HB; have HB := n0_; clear n0_ hb)
  go_ret2
  exact ⟨rfl, HB.out⟩
 | true =>
  cases b1 with
  | true => cases hv
  | false =>
   clear hv
   go_enter Tryz.func32, Tryz.ntmps32
   go_wp2_with (go_at_call 7; with_reducible refine (V0.out _ ?s1).mono ?_; (case s1 => exact Kd.C_below HR0.out HB.out); rintro e w2 ⟨rfl, hb⟩; have n0_ := Aside0.mk (below_step HB.out hb); clear HB; have HB := n0_; clear n0_ hb)
   go_wp2_with (go_at_call 7; with_reducible refine (V1.out _ ?s1).mono ?_; (case s1 => exact Kd.C_below HR1.out HB.out); rintro e w2 ⟨rfl, hb⟩; have n0_ := Aside0.mk (below_step HB.out hb); clear HB; have HB := n0_; clear n0_ hb)
   go_ret2
   exact ⟨rfl, HB.out⟩
theorem form_any {A0 A1 : Option Addr} {c0 c1 : Nat} {l0 l1 : List S42} {kw : FuncId} {wf : Bool → Bool → Bool} {f : Int → Int → List S40} (w : World)
  (hkw : ∀ args W, (callFunc kw args).run Tryz.prog W = .ok (.enter kw args) W) (hwf : ∀ (a b : Bool) (r : Bool) (W : World), wantO wf a b = some r → Calls Tryz.prog kw #[.bool a, .bool b] W fun e w' => e = .returned (.bool r) ∧ Drawn0 W w')
  (hf : validP l0 = true → validP l1 = true → (∀ lang s, ∃ k, zone_sweep.f wf k (canW l0 lang s) (canW l1 lang s) = some (f lang s)) ∧ (formP f).length ≤ 1000000000000)
  (hc0 : l0.length ≤ c0) (hc1 : l1.length ≤ c1) (hr0 : Kd.C k42 w A0 l0.length l0) (hr1 : Kd.C k42 w A1 l1.length l1) :
  Calls Tryz.prog 32 #[.slice A0 l0.length c0, .slice A1 l1.length c1, .func (.func kw) #[] #[]] w fun e w' => ∃ v, e = .returned (.tuple #[v, .int .i64 (formR l0 l1 f).2]) ∧ Kd.R k42 42 w' w.heap.size (fun _ => True) v (formR l0 l1 f).1 ∧ Below w.heap.size w w' := by
 by_cases hv : (validP l0 && validP l1) = true
 · obtain ⟨h0, h1⟩ := Bool.and_eq_true_iff.1 hv
   obtain ⟨a1, a2⟩ := valid_ok h0
   obtain ⟨b1, b2⟩ := valid_ok h1
   obtain ⟨g1, g2⟩ := hf h0 h1
   exact form_calls hkw hwf hc0 hc1 (fun _ _ => g1) hr0 hr1 g2 h0 h1 a1 b1 (by omega) (by omega)
 · have hv' : (validP l0 && validP l1) = false := by simpa using hv
   refine (form_bad hc0 hc1 hr0 hr1 hv').mono ?_
   rintro e w' ⟨rfl, hb⟩
   have h := hv
   unfold formR
   rw [if_neg h]
   exact ⟨_, rfl, Kd.R_nil _ _ _ _ _, hb⟩
set_option maxHeartbeats 1000000 in
theorem count_bad {A0 : Option Addr} {c0 : Nat} {l0 : List S42} {w : World} (hc0 : l0.length ≤ c0) (hr0 : Kd.C k42 w A0 l0.length l0) (hv : validP l0 = false) :
  Calls Tryz.prog 20 #[.slice A0 l0.length c0] w fun e w' => e = .returned (.tuple #[.int .i64 0, .int .i64 1]) ∧ Below w.heap.size w w' := by
 have V0 := Aside0.mk (fun W h => valid_calls A0 c0 l0 W h hc0)
 rw [hv] at V0
 have HR0 := Aside0.mk hr0
 have HB := Aside0.mk (Below.refl w.heap.size w)
 clear hr0 hc0 hv
 go_enter Tryz.func20, Tryz.ntmps20
 go_wp2_with (go_at_call 7; with_reducible refine (V0.out _ ?s1).mono ?_; (case s1 => exact Kd.C_below HR0.out HB.out); rintro e w2 ⟨rfl, hb⟩; have n0_ := Aside0.mk (below_step HB.out hb); clear HB; have HB := n0_; clear n0_ hb)
 go_ret2
 exact ⟨rfl, HB.out⟩
end Go.Proofs.YtacohlafmbhcdaaGreat.PAll
