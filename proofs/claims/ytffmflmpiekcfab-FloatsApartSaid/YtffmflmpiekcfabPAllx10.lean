/- Printed by a program of this session (wip/gprint.py) over the translation. Not trusted: Lean checks it. -/
import Derived.Test.YtffmflmpiekcfabPAllx0
import Derived.Test.YtffmflmpiekcfabPAllx5
import Derived.Test.YtffmflmpiekcfabPAllx7
import Derived.Test.YtffmflmpiekcfabPAllx8
import Derived.RangeFuncNested
import Derived.Shelf.Abstract
import Derived.WalkKit
import Derived.OwnWalkIn
import Derived.TacticsInMore
import Derived.LoopNIn
import Derived.LoopIn
import Derived.Below
namespace Go.Proofs.Ytffmflmpiekcfab.PAll
open Go.RowKit Go.Proofs.YtffmflmpiekcfabW.PrintWords Go.Proofs.YtffmflmpiekcfabW.PrintLast Go.Proofs.YtffmflmpiekcfabW.PrintMore
attribute [local go_sem] max2_int min2_int max_two min_two max_three min_three max_four min_four   -- for this text's walks alone
set_option linter.unusedVariables false
set_option linter.unusedSimpArgs false

-- GIVEN c_heights
open Go.Shelf
/-- Cells that lie at or beyond B stay. -/
def KeepsCells (B : Nat) (A C : World) : Prop := ∀ (k : Nat), B ≤ k → ∀ (c : Array Value) (t : TypeId) (f : Nat × Nat), A.heap[k]? = some (.cells c t f) → C.heap[k]? = some (.cells c t f)
theorem KeepsCells.trans {B : Nat} {A C D : World} (h : KeepsCells B A C) (h' : KeepsCells B C D) : KeepsCells B A D := fun k hk c t f hc => h' k hk c t f (h k hk c t f hc)
theorem keepsCells_put {B : Nat} (W : World) (l : Nat) (o o' : Obj) (ho : W.heap[l]? = some o) (hc : o.isCells = false) : KeepsCells B W (W.putObj l o') := fun k hk c t f h => by
  have hne : k ≠ l := by
    rintro rfl
    rw [ho] at h
    cases h
    cases hc
  exact (World.putObj_heap_other hne).trans h

def stepEnds (y0 : Int) (xs : List Int) (f : S41) : List Int := if y0 < bottomOf f then xs ++ [bottomOf f] else xs
theorem ends_fold (l : List S41) (y0 : Int) : endsP l y0 = l.foldl (stepEnds y0) [y0] := by
  have : ∀ (l : List S41) (acc : List Int), l.foldl (stepEnds y0) acc = acc ++ (l.map bottomOf).filter (fun b => decide (y0 < b)) := by
    intro l
    induction l with
    | nil => simp
    | cons f l ih =>
      intro acc
      simp only [List.foldl_cons, ih, List.map_cons, stepEnds]
      split <;> simp [*]
  rw [this]
  rfl
theorem ends_len (l : List S41) (y0 : Int) : (endsP l y0).length ≤ l.length + 1 := by
  unfold endsP
  simp only [List.length_cons]
  have := List.length_filter_le (fun b => decide (y0 < b)) (l.map bottomOf)
  simp at this
  omega
theorem foldl_take_succ {α β : Type} (f : β → α → β) (b : β) (l : List α) (i : Nat) (h : i < l.length) : (l.take (i + 1)).foldl f b = f ((l.take i).foldl f b) l[i] := by
  rw [List.take_succ_eq_append_getElem h, List.foldl_append]
  rfl
theorem foldEnds_len (y0 : Int) : ∀ (l : List S41) (acc : List Int), (l.foldl (stepEnds y0) acc).length ≤ acc.length + l.length
  | [], acc => by simp
  | f :: l, acc => by
    simp only [List.foldl_cons, List.length_cons]
    have := foldEnds_len y0 l (stepEnds y0 acc f)
    have h2 : (stepEnds y0 acc f).length ≤ acc.length + 1 := by unfold stepEnds; split <;> simp
    omega
theorem rd_nat {l : List S41} {n : Nat} (h : n < l.length) : rd_T41 l (n : Int) = l[n] := by
  unfold rd_T41
  simp [List.getD_eq_getElem?_getD, h]
theorem R_lit1 (W : World) (e : Nat) (base : Nat) (x : Int) (hb : base ≤ W.heap.size) : (Kd.int .i64).R e (W.alloc (.cells #[.int .i64 x] e)) base (fun _ => True) (.slice (some ⟨W.heap.size, 0, none⟩) 1 1) [x] := by
  refine ⟨fun _ _ => trivial, [.int .i64 x], ⟨by simp [Kd.int, Kd.scalar], .inr ⟨W.heap.size, 1, #[.int .i64 x], rfl, hb, by simpa using heap_alloc_new W _, Nat.le_refl _, by simp [maxLen], by simp [Kd.int, Kd.scalar], by simp [Kd.int, Kd.scalar]⟩⟩, ⟨by simp [Kd.int, Kd.scalar], fun j p hj => ?_⟩⟩
  rcases j with _ | j
  · simp at hj; subst hj; simp [Kd.int, Kd.scalar]
  · simp at hj

/-- A row of whole numbers, by its block. -/
def IntRow (B : Nat) (W : World) (A : Option Addr) (ys : List Int) : Prop := ys = [] ∨ ∃ g cur, A = some ⟨g, 0, none⟩ ∧ B ≤ g ∧ W.heap[g]? = some (.cells cur 3 (0, 0)) ∧ ∀ (j : Nat) (h : j < ys.length), cur[j]? = some (.int .i64 ys[j])
theorem IntRow.of_R {W : World} {base : Nat} {A : Option Addr} {n c : Nat} {ys : List Int} (h : Kd.R (Kd.int .i64) 3 W base (fun _ => True) (.slice A n c) ys) : IntRow base W A ys := by
  obtain ⟨inner, hown, hreps⟩ := h.2
  rcases hown.2 with ⟨_, h0⟩ | ⟨g, cap, cur, he, hbase, hgb, h1, h2, h3, h4⟩
  · exact .inl (List.eq_nil_of_length_eq_zero h0)
  · injection he with he1 _ _
    refine .inr ⟨g, cur, he1, hbase, hgb, fun j hj => ?_⟩
    have hr := hreps.2 j ys[j] (List.getElem?_eq_getElem hj)
    have h5 : ((inner.drop j).take 1) = [.int .i64 ys[j]] := by simpa [Kd.int, Kd.scalar] using hr
    have h6 : inner[j]? = some (.int .i64 ys[j]) := by
      have := congrArg (·[0]?) h5
      simpa using this
    have h4' : cur.toList.take ys.length = inner := by simpa [Kd.int, Kd.scalar] using h4
    rw [← h4', List.getElem?_take_of_lt hj, Array.getElem?_toList] at h6
    exact h6
theorem IntRow.keeps {B n0 : Nat} {W W' : World} {A : Option Addr} {ys : List Int} (h : IntRow B W A ys) (hn : n0 ≤ B) (hk : KeepsCells n0 W W') : IntRow B W' A ys := by
  rcases h with h | ⟨g, cur, h1, h2, h3, h4⟩
  · exact .inl h
  · exact .inr ⟨g, cur, h1, h2, hk g (by omega) cur 3 (0, 0) h3, h4⟩
theorem IntRow.get {B : Nat} {W : World} {A : Option Addr} {ys : List Int} (h : IntRow B W A ys) {j : Nat} (hj : j < ys.length) : ∃ g, A = some ⟨g, 0, none⟩ ∧ W.cell? ⟨g, j, none⟩ = some (.int .i64 ys[j]) := by
  rcases h with h | ⟨g, cur, h1, h2, h3, h4⟩
  · rw [h] at hj; simp at hj
  · exact ⟨g, h1, by simp [World.cell?, h3, h4 j hj]⟩

theorem info3 : (Try.prog.info? 3).map (fun i => (i.zero, i.size, i.bytes)) = some (some (.int .i64 0), 1, 8) := by kernel_rfl

set_option maxHeartbeats 4000000 in
set_option maxRecDepth 100000 in
theorem heights1_calls (n l Bf Bl n0 : Nat) (A : Option Addr) (c : Nat) (fs : List S41) (y0 : Int) (J Jx : List Int → World → Prop) (W : World) (hn0 : n0 ≤ W.heap.size)
    (hJ : ∀ pre W W', J pre W → W.grownBy W' none → J pre W')
    (hY : ∀ pre x W1, J pre W1 → pre.length < (heightsP fs y0).length → YieldAt Fence.wide (n - 1) Try.prog l #[.int .i64 x] W1 fun e W' =>
      (e = .returned (.bool true) ∧ J (pre ++ [x]) W' ∧ KeepsCells n0 W1 W') ∨ (e = .returned (.bool false) ∧ Jx (pre ++ [x]) W'))
    (hf : W.cell? ⟨Bf, 0, none⟩ = some (.int .i64 y0)) (hl : W.cell? ⟨Bl, 0, none⟩ = some (.slice A fs.length c)) (hr : Kd.C k41 W A fs.length fs) (hlen : fs.length < 3518437208883) (h0 : J [] W) :
    Calls Try.prog 34 #[.func (.yield l) #[] #[], .pointer (some ⟨Bf, 0, none⟩), .pointer (some ⟨Bl, 0, none⟩)] W fun e W' => (∃ v, e = .returned v) ∧
      ((∃ ys, ys = heightsP fs y0 ∧ J ys W') ∨ (∃ pre, pre <+: heightsP fs y0 ∧ Jx pre W')) := by
  have hu41 := Try.underlying41
  have HR := Aside0.mk hr
  have HJ := Aside0.mk hJ
  have HY := Aside0.mk hY
  have HF := Aside0.mk hf
  have HL := Aside0.mk hl
  have H0 := Aside0.mk h0
  have hlt := World.block_lt_of_cell? W _ hl
  have hl1 : (W.alloc (.cells #[.int .i64 y0] 3)).cell? ⟨Bl, 0, none⟩ = some (.slice A fs.length c) := (below_alloc (Below.refl _ _) _).cell hlt |>.trans hl
  clear hr hJ hY h0 hl hlt
  go_enter Try.func34, Try.ntmps34
  go_wp2_with fail
  go_loopw [4, 15] (fun v4 v15 wr => ∃ i : Nat, i ≤ fs.length ∧ v15 = .int .i64 i ∧ Aside0 (Kd.R (Kd.int .i64) 3 wr W.heap.size (fun _ => True) v4 ((fs.take i).foldl (stepEnds y0) [y0])) ∧ Aside0 (Below W.heap.size W wr)) (fun _ v15 _ => fs.length - (intOf v15).toNat)
  case atStart => exact ⟨0, by omega, rfl, ⟨R_lit1 W 3 W.heap.size y0 (Nat.le_refl _)⟩, ⟨below_alloc (Below.refl _ _) _⟩⟩
  case round =>
    obtain ⟨i, hi, rfl, HO, HB⟩ := hrel
    by_cases hlt : i < fs.length
    · obtain ⟨ad, ea, c0, c1, c2, c3, c4⟩ := at_T41 HR.out i (by omega) (by omega)
      cases ea
      rw [Int.toNat_natCast] at c0 c1 c2 c3 c4
      replace c0 := (HB.out.cell (World.block_lt_of_cell? W _ c0)).trans c0
      replace c1 := (HB.out.cell (World.block_lt_of_cell? W _ c1)).trans c1
      replace c2 := (HB.out.cell (World.block_lt_of_cell? W _ c2)).trans c2
      replace c3 := (HB.out.cell (World.block_lt_of_cell? W _ c3)).trans c3
      replace c4 := (HB.out.cell (World.block_lt_of_cell? W _ c4)).trans c4
      rw [rd_nat hlt] at c0 c1 c2 c3 c4
      have hx := foldl_take_succ (stepEnds y0) [y0] fs i hlt
      have hxl := foldEnds_len y0 (fs.take i) [y0]
      simp only [List.length_take, List.length_singleton] at hxl
      generalize fs[i] = x at c0 c1 c2 c3 c4 hx
      have hcf : wr.cell? ⟨Bf, 0, none⟩ = some (.int .i64 y0) := (HB.out.cell (World.block_lt_of_cell? W _ HF.out)).trans HF.out
      have hbc := fun W => floats_placed_bottom.calls x.f0 x.f1 x.f2 x.f3 x.f4 _ W rfl
      generalize (fs.take i).foldl (stepEnds y0) [y0] = xs at HO hx hxl
      have hx' := Aside0.mk hx
      clear hx hf
      go_wp2_with fail
      refine (hbc _).mono ?_
      rintro e w' ⟨rfl, hb⟩
      have hb0 : Below W.heap.size W w' := below_then (below_alloc HB.out _) (below_alloc HB.out _).size hb
      have hcf' : w'.cell? ⟨Bf, 0, none⟩ = some (.int .i64 y0) := (hb0.cell (World.block_lt_of_cell? W _ HF.out)).trans HF.out
      have HB' := Aside0.mk hb0
      have HO' := Aside0.mk (Kd.R_below (Kd.R_below HO.out (below_alloc (Below.refl _ _) _)) hb)
      clear hcf hb hbc hb0
      by_cases hgt : y0 < bottomOf x
      · have hgt' : y0 < wrap64 (x.f2 + x.f4) := hgt
        have hx2 : List.foldl (stepEnds y0) [y0] (fs.take (i + 1)) = xs ++ [bottomOf x] := by rw [hx'.out]; simp [stepEnds, hgt]
        have hx3 := Aside0.mk hx2
        clear hx2 hgt
        go_wp2_with (at_builtin; refine Kd.R_append (Kd.int .i64) (w0 := W) W.heap.size rfl (.tmp 27) (.tmp 29) 65 3 (.int .i64 0) 8 rfl Try.underlying65 info3 rfl (by decide) (by omega) u4 xs (bottomOf x) [.int .i64 (bottomOf x)] (fun _ => True) (fun _ => False) rfl rfl ?aP (fun _ hk => hk.elim) ?aF ?aO ?aB ?aS ?aL ?_)
        case aP => exact rfl
        case aF => exact fun _ _ => trivial
        case aO => exact HO'.out
        case aB => exact HB'.out
        case aS => exact HB'.out.size
        case aL => omega
        intro v1 w1 HO1 HB1 _ _
        have HO1' := Aside0.mk HO1
        have HB1' := Aside0.mk HB1
        clear HO1 HB1
        go_wp2
        go_roundw
        case rel => exact ⟨i + 1, by omega, by go_num, ⟨by rw [hx3.out]; exact HO1'.out⟩, HB1'⟩
        case measure => simp [intOf]; omega
      · have hgt' : ¬ y0 < wrap64 (x.f2 + x.f4) := hgt
        have hx2 : List.foldl (stepEnds y0) [y0] (fs.take (i + 1)) = xs := by rw [hx'.out]; simp [stepEnds, hgt]
        have hx3 := Aside0.mk hx2
        clear hx2 hgt
        go_wp2
        go_roundw
        case rel => exact ⟨i + 1, by omega, by go_num, ⟨by rw [hx3.out]; exact HO'.out⟩, HB'⟩
        case measure => simp [intOf]; omega
    · have he : (fs.take i).foldl (stepEnds y0) [y0] = endsP fs y0 := by
        rw [List.take_of_length_le (by omega), ends_fold]
      rw [he] at HO
      have hel := ends_len fs y0
      have hso := sort35 HO.out (by omega)
      have hsl : (isort (endsP fs y0)).length = (endsP fs y0).length := isort_length _
      have HS := Aside0.mk (show isort (endsP fs y0) = heightsP fs y0 from rfl)
      generalize endsP fs y0 = es at HO hel hso hsl HS
      obtain ⟨A2, c2, rfl, hcl2, _⟩ := Kd.R_reads HO.out
      have HL2 := Aside0.mk hsl
      clear he hf hsl
      go_wp2_with (go_at_call 35; refine hso.mono ?_; rintro e w' ⟨rfl, HO2, hg2⟩)
      have hbx : Below W.heap.size W w' := HB.out.grown hg2 HB.out.size (fun k hk => by obtain ⟨_, inner, hown, _⟩ := HO.out; exact own_base hown k hk)
      have hb2 := Aside0.mk hbx
      have hO2 := Aside0.mk HO2
      clear HO2 hg2 hso hbx
      refine (wpIn_wide (n := n)).1 ?_
      gi_loopw [36] (fun v36 wr => ∃ i : Nat, i ≤ es.length ∧ v36 = .int .i64 i ∧ Aside0 (IntRow W.heap.size wr A2 (isort es)) ∧ Aside0 (J ((isort es).take i) wr)) (fun v36 _ => es.length - (intOf v36).toNat)
      case atStart => exact ⟨0, by omega, rfl, ⟨IntRow.of_R hO2.out⟩, ⟨HJ.out _ _ _ H0.out (grown_of_below hb2.out none)⟩⟩
      case round =>
        obtain ⟨i, hi, rfl, HI, HJi⟩ := hrel
        by_cases hlt : i < es.length
        · obtain ⟨g, rfl, hcx⟩ := HI.out.get (j := i) (by rw [HL2.out]; exact hlt)
          have htk : (isort es).take (i + 1) = (isort es).take i ++ [(isort es)[i]'(by rw [HL2.out]; exact hlt)] := List.take_succ_eq_append_getElem (by rw [HL2.out]; exact hlt)
          have hln : ((isort es).take i).length < (heightsP fs y0).length := by rw [← HS.out, List.length_take]; rw [HL2.out]; omega
          have hpx : (isort es).take (i + 1) <+: heightsP fs y0 := by rw [← HS.out]; exact List.take_prefix _ _
          generalize (isort es)[i]'(by rw [HL2.out]; exact hlt) = x at hcx htk
          obtain ⟨fn, tmps, assign, body, hy, hR⟩ := HY.out _ x wr HJi.out hln
          have hR' := Aside0.mk hR
          have htk' := Aside0.mk htk
          have hln' := Aside0.mk hln
          have hpx' := Aside0.mk hpx
          clear hR htk hln hpx
          gi_wp2
          refine ⟨(fun h => by cases h), hR'.out.mono ?_⟩
          rintro e W3 (⟨rfl, hJ3, hk3⟩ | ⟨rfl, hJx3⟩)
          · have hI3 := Aside0.mk (HI.out.keeps hn0 hk3)
            have hJ3' := Aside0.mk hJ3
            clear hJ3 hk3 hy
            gi_wp2
            go_roundw
            case rel => exact ⟨i + 1, by omega, by go_num, hI3, ⟨by rw [htk'.out]; exact hJ3'.out⟩⟩
            case measure => simp [intOf]; omega
          · have hJx3' := Aside0.mk hJx3
            clear hJx3 hy
            gi_wp2
            refine bodyPost_ret (results_none rfl _ _ _) rfl ?_
            exact ⟨⟨_, rfl⟩, .inr ⟨_, hpx'.out, by rw [htk'.out]; exact hJx3'.out⟩⟩
        · have hfin : (isort es).take i = heightsP fs y0 := by rw [List.take_of_length_le (by rw [HL2.out]; omega), HS.out]
          have hfin' := Aside0.mk hfin
          clear hfin
          gi_wp2
          go_end0
          exact ⟨⟨_, rfl⟩, .inl ⟨_, rfl, by rw [← hfin'.out]; exact HJi.out⟩⟩


end Go.Proofs.Ytffmflmpiekcfab.PAll
