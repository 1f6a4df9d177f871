/- Plain facts on the printed functions of layer 4 (digest) and of its reference: what they compute. -/
import Derived.Test.YtffmflmpiekcfaaDoorPAlld0
import Derived.Test.YtffmflmpiekcfaaDoorFnv
namespace Go.Proofs.YtffmflmpiekcfaaDoor.Plain
open Go.RowKit Go.Proofs.YtffmflmpiekcfaaDoor.PAll Go.Proofs.YtffmflmpiekcfaaDoorW.PrintWords Go.Proofs.YtffmflmpiekcfaaDoorW.PrintLast Go.Proofs.YtffmflmpiekcfaaDoorW.PrintMore Go.Proofs.YtffmflmpiekcfaaDoorGlib

/-! ### bytes -/
theorem more_fnv (d : Int) (l : List Int) : moreP d l = Fnv.moreP d l := rfl
theorem more_append (d : Int) (l m : List Int) : moreP d (l ++ m) = moreP (moreP d l) m := List.foldl_append
theorem basis_ok : Fnv.ok basisP := by unfold Fnv.ok basisP; omega
theorem more_ok {d : Int} (l : List Int) (h : Fnv.ok d) : Fnv.ok (moreP d l) := Fnv.more_ok l d h
def sumP (l : List Int) : Int := moreP basisP l
theorem sum_ok (l : List Int) : Fnv.ok (sumP l) := more_ok l basis_ok
theorem sum_ev {l : List Int} (hl : l.length < 9223372036854775807) : Ev (fun k => digest_Sum.f k l) (sumP l) :=
  Ev.same (more_ev hl basisP) fun k hk => by
    unfold digest_Sum.f
    have : (14695981039346656037 : Int) = basisP := rfl
    rw [this, hk]
    rfl
theorem refsum_loop (l : List Int) (hl : l.length < 9223372036854775807) : ∀ (m n : Nat) (d : Int), n + m = l.length → Ev (fun k => formeref04_Sum.l0 k l d (n : Int)) (moreP d (l.drop n)) := by
  intro m
  induction m with
  | zero =>
    intro n d hn
    refine Ev.zero fun k => ?_
    simp only [formeref04_Sum.l0]
    rw [if_neg (by omega), drop_all (by omega)]
    rfl
  | succ m ih =>
    intro n d hn
    have hlt : n < l.length := by omega
    rw [drop_get hlt]
    refine Ev.succ (ih (n + 1) (stepB d l[n]) (by omega)) fun k hk => ?_
    simp only [formeref04_Sum.l0]
    rw [if_pos (by omega), if_pos (by omega), rd_at hlt, wrap_next (by omega)]
    exact hk
theorem refsum_ev {l : List Int} (hl : l.length < 9223372036854775807) : Ev (fun k => formeref04_Sum.f k l) (sumP l) := by
  have h := refsum_loop l hl l.length 0 basisP (by omega)
  rwa [List.drop_zero] at h
theorem fold_text (g : Int → List Int) : ∀ (l : List Int) (acc : List Int), moreP basisP (l.foldl (fun acc n => acc ++ (g n ++ [32])) acc) = l.foldl (fun o n => moreP o (g n ++ [32])) (moreP basisP acc)
  | [], acc => rfl
  | x :: l, acc => by
    simp only [List.foldl_cons]
    rw [fold_text g l, more_append]
theorem text_sum (d : Int) (l : List Int) : sumP (textAll d l) = nextP d l := fold_text textP l (eight d)
theorem eight_len (d : Int) : (eight d).length = 8 := rfl
theorem text_ev {d : Int} {l : List Int} (hl : l.length ≤ 1000000000) (hok : nextOk l) : formeref04_Text.f d l = some (textAll d l) := by
  unfold formeref04_Text.f
  rw [if_pos ⟨hl, hok⟩]
theorem refnext_ev {d : Int} {l : List Int} (hl : l.length ≤ 1000000000) (hok : nextOk l) : Ev (fun k => formeref04_Next.f k d l) (nextP d l) := by
  have h2 := textAll_len d l hok
  refine Ev.same (refsum_ev (l := textAll d l) (by omega)) fun k hk => ?_
  unfold formeref04_Next.f
  rw [text_ev hl hok]
  simp only [Option.bind_some]
  rw [hk, text_sum]
  rfl
theorem pair_sum (a b : Int) : sumP ([1] ++ eight a ++ eight b) = pairP a b := by
  unfold sumP pairP
  rw [more_append, more_append]
theorem refpair_ev (a b : Int) : Ev (fun k => formeref04_Pair.f k a b) (pairP a b) := by
  obtain ⟨K, hK⟩ := (Ev.p (refsum_ev (l := [1] ++ eight a ++ eight b) (by simp [eight_len]))).and ((Ev.p (bytes_ev a)).and (Ev.p (bytes_ev b)))
  refine ⟨K, fun k hk => ?_⟩
  obtain ⟨h1, h2, h3⟩ := hK k hk
  show formeref04_Pair.f k a b = some (pairP a b)
  unfold formeref04_Pair.f
  simp only [Option.bind_some]
  rw [h2]
  simp only [Option.bind_some]
  rw [if_pos (by simp [eight_len]), h3]
  simp only [Option.bind_some]
  rw [if_pos (by simp [eight_len])]
  rw [h1, pair_sum]
  rfl
theorem refhalf_loop (n : Int) (hn : n ≤ 1000000000) : ∀ (f : Nat) (x : Int), 1 ≤ x → x ≤ 1000000000 → n ≤ x + f → Ev (fun k => formeref04_Half.l0 k n x) (halfF f n x) := by
  intro f
  induction f with
  | zero =>
    intro x h1 h2 h3
    refine Ev.zero fun k => ?_
    simp only [formeref04_Half.l0]
    rw [wrap64_id (by omega) (by omega), if_neg (by omega)]
    rfl
  | succ f ih =>
    intro x h1 h2 h3
    by_cases h : 2 * x < n
    · refine Ev.succ (ih (2 * x) (by omega) (by omega) (by omega)) fun k hk => ?_
      simp only [formeref04_Half.l0, halfF]
      rw [wrap64_id (by omega) (by omega), if_pos h, if_pos h]
      exact hk
    · refine Ev.zero fun k => ?_
      simp only [formeref04_Half.l0, halfF]
      rw [wrap64_id (by omega) (by omega), if_neg h, if_neg h]
theorem refhalf_ev {n : Nat} (h1 : 1 ≤ n) (h2 : n ≤ 1000000000) : Ev (fun k => formeref04_Half.f k (n : Int)) (halfP n : Int) := by
  have h := refhalf_loop (n : Int) (by omega) n 1 (by omega) (by omega) (by omega)
  have e : ((halfP n : Nat) : Int) = halfF n (n : Int) 1 := by
    unfold halfP
    have : 1 ≤ halfF n (n : Int) 1 := by
      by_cases hn : n = 1
      · subst hn; decide
      · exact (halfF_spec (n : Int) n 1 (by omega) (by omega) (by omega)).1
    omega
  rw [e]
  exact h
theorem leaf_ev (d : Int) : Ev (fun k => digest_Next.f k d [0]) (leafP d) := next_ev (by decide) zero_ok d
theorem refleaf_ev (d : Int) : Ev (fun k => formeref04_Leaf.f k d) (leafP d) :=
  Ev.same (refnext_ev (l := [0]) (by decide) zero_ok) fun k hk => by
    unfold formeref04_Leaf.f
    rw [hk]
    rfl

/-! ### trees -/
theorem rootF_two : ∀ (f g : Nat) (l : List Int), 1 ≤ l.length → l.length ≤ f → l.length ≤ g → rootF f l = rootF g l
  | 0, _, l, h, hf, _ => by omega
  | _ + 1, 0, l, h, _, hg => by omega
  | f + 1, g + 1, l, h, hf, hg => by
    simp only [rootF]
    by_cases h1 : l.length = 1
    · rw [if_pos h1, if_pos h1]
    · rw [if_neg h1, if_neg h1]
      have hp := halfP_spec (n := l.length) (by omega)
      rw [rootF_two f g (l.take _) (by rw [List.length_take]; omega) (by rw [List.length_take]; omega) (by rw [List.length_take]; omega),
        rootF_two f g (l.drop _) (by rw [List.length_drop]; omega) (by rw [List.length_drop]; omega) (by rw [List.length_drop]; omega)]
theorem root_one {l : List Int} (h : l.length = 1) : rootP l = leafP (rd l 0) := by
  unfold rootP
  rw [h]
  simp only [rootF]
  rw [if_pos h]
theorem root_two {l : List Int} (h : 2 ≤ l.length) : rootP l = pairP (rootP (l.take (halfP l.length))) (rootP (l.drop (halfP l.length))) := by
  have hp := halfP_spec h
  obtain ⟨n, hn⟩ : ∃ n, l.length = n + 1 := ⟨l.length - 1, by omega⟩
  have e : rootP l = rootF (n + 1) l := by unfold rootP; rw [hn]
  rw [e]
  simp only [rootF]
  rw [if_neg (by omega)]
  unfold rootP
  rw [rootF_two n _ (l.take _) (by rw [List.length_take]; omega) (by rw [List.length_take]; omega) (Nat.le_refl _),
    rootF_two n _ (l.drop _) (by rw [List.length_drop]; omega) (by rw [List.length_drop]; omega) (Nat.le_refl _)]
theorem refroot_ev : ∀ (f : Nat) (l : List Int), 1 ≤ l.length → l.length ≤ f → l.length ≤ 1000000 → Ev (fun k => formeref04_root.f k l) (rootP l)
  | 0, l, h, hf, _ => by omega
  | f + 1, l, h, hf, hm => by
    by_cases h1 : l.length = 1
    · refine Ev.succ (refleaf_ev (rd l 0)) fun k hk => ?_
      simp only [formeref04_root.f]
      rw [if_pos (by omega), if_pos (by omega), hk, root_one h1]
      rfl
    · have hp := halfP_spec (n := l.length) (by omega)
      obtain ⟨K, hK⟩ := (Ev.p (refhalf_ev (n := l.length) (by omega) (by omega))).and (((Ev.p (refroot_ev f (l.take (halfP l.length)) (by rw [List.length_take]; omega) (by rw [List.length_take]; omega) (by rw [List.length_take]; omega))).and
        (Ev.p (refroot_ev f (l.drop (halfP l.length)) (by rw [List.length_drop]; omega) (by rw [List.length_drop]; omega) (by rw [List.length_drop]; omega)))).and (Ev.p (refpair_ev (rootP (l.take (halfP l.length))) (rootP (l.drop (halfP l.length))))))
      refine ⟨K + 1, fun k hk => ?_⟩
      obtain ⟨k, rfl⟩ : ∃ m, k = m + 1 := ⟨k - 1, by omega⟩
      obtain ⟨e1, ⟨e2, e3⟩, e4⟩ := hK k (by omega)
      simp only [formeref04_root.f]
      rw [if_neg (by omega), e1]
      simp only [Option.bind_some]
      rw [if_pos (by omega), if_pos (by omega), Int.toNat_natCast, e2]
      simp only [Option.bind_some]
      rw [e3]
      simp only [Option.bind_some]
      rw [e4, root_two (l := l) (by omega)]
      rfl
/-- What Root returns. -/
def rootE (l : List Int) : Int × Int := if l.length > 10000 then (0, 2) else if l.length = 0 then (0, 1) else (rootP l, 0)
theorem root_ev (l : List Int) : digest_Root.f l = some (rootE l) := by
  unfold digest_Root.f digest_check.f rootE
  by_cases h1 : l.length > 10000
  · rw [if_pos (by omega), if_pos h1]
    rfl
  · rw [if_neg (by omega), if_neg h1]
    by_cases h2 : l.length = 0
    · rw [if_pos (by omega), if_pos h2]
      rfl
    · rw [if_neg (by omega), if_neg h2]
      simp only [Option.bind_some]
      unfold digest_root.f
      rw [if_pos trivial, if_pos (by omega)]
      rfl
theorem refRoot_ev (l : List Int) : Ev (fun k => formeref04_Root.f k l) (rootE l) := by
  unfold rootE
  by_cases h1 : l.length > 10000
  · rw [if_pos h1]
    refine Ev.any fun k => ?_
    unfold formeref04_Root.f
    rw [if_pos (by omega)]
  · rw [if_neg h1]
    by_cases h2 : l.length = 0
    · rw [if_pos h2]
      refine Ev.any fun k => ?_
      unfold formeref04_Root.f
      rw [if_neg (by omega), if_pos (by omega)]
    · rw [if_neg h2]
      refine Ev.same (refroot_ev l.length l (by omega) (Nat.le_refl _) (by omega)) fun k hk => ?_
      unfold formeref04_Root.f
      rw [if_neg (by omega), if_neg (by omega), hk]
      rfl

/-! ### paths -/
theorem pathF_two : ∀ (f g : Nat) (l : List Int) (i : Int), 1 ≤ l.length → l.length ≤ f → l.length ≤ g → pathF f l i = pathF g l i
  | 0, _, l, i, h, hf, _ => by omega
  | _ + 1, 0, l, i, h, _, hg => by omega
  | f + 1, g + 1, l, i, h, hf, hg => by
    simp only [pathF]
    by_cases h1 : l.length = 1
    · rw [if_pos h1, if_pos h1]
    · rw [if_neg h1, if_neg h1]
      have hp := halfP_spec (n := l.length) (by omega)
      rw [pathF_two f g (l.take _) _ (by rw [List.length_take]; omega) (by rw [List.length_take]; omega) (by rw [List.length_take]; omega),
        pathF_two f g (l.drop _) _ (by rw [List.length_drop]; omega) (by rw [List.length_drop]; omega) (by rw [List.length_drop]; omega)]
def pathP (l : List Int) (i : Int) : List Int := pathF l.length l i
theorem path_one {l : List Int} (h : l.length = 1) (i : Int) : pathP l i = [] := by
  unfold pathP
  rw [h]
  simp only [pathF]
  rw [if_pos h]
theorem path_two {l : List Int} (h : 2 ≤ l.length) (i : Int) : pathP l i = if i < halfP l.length then pathP (l.take (halfP l.length)) i ++ [rootP (l.drop (halfP l.length))] else pathP (l.drop (halfP l.length)) (i - halfP l.length) ++ [rootP (l.take (halfP l.length))] := by
  have hp := halfP_spec h
  obtain ⟨n, hn⟩ : ∃ n, l.length = n + 1 := ⟨l.length - 1, by omega⟩
  have e : pathP l i = pathF (n + 1) l i := by unfold pathP; rw [hn]
  rw [e]
  simp only [pathF]
  rw [if_neg (by omega)]
  unfold pathP
  rw [pathF_two n _ (l.take _) _ (by rw [List.length_take]; omega) (by rw [List.length_take]; omega) (Nat.le_refl _),
    pathF_two n _ (l.drop _) _ (by rw [List.length_drop]; omega) (by rw [List.length_drop]; omega) (Nat.le_refl _)]
theorem refpath_ev : ∀ (f : Nat) (l : List Int) (i : Int), 0 ≤ i → i < l.length → l.length ≤ f → l.length ≤ 1000000 → Ev (fun k => formeref04_path.f k l i) (pathP l i)
  | 0, l, i, h, h', hf, _ => by omega
  | f + 1, l, i, h, h', hf, hm => by
    by_cases h1 : l.length = 1
    · refine Ev.zero fun k => ?_
      simp only [formeref04_path.f]
      rw [if_pos (by omega), path_one h1]
    · have hp := halfP_spec (n := l.length) (by omega)
      have r1 := refroot_ev l.length (l.take (halfP l.length)) (by rw [List.length_take]; omega) (by rw [List.length_take]; omega) (by rw [List.length_take]; omega)
      have r2 := refroot_ev l.length (l.drop (halfP l.length)) (by rw [List.length_drop]; omega) (by rw [List.length_drop]; omega) (by rw [List.length_drop]; omega)
      rw [path_two (by omega)]
      by_cases hlt : i < halfP l.length
      · rw [if_pos hlt]
        obtain ⟨K, hK⟩ := (Ev.p (refhalf_ev (n := l.length) (by omega) (by omega))).and ((Ev.p (refpath_ev f (l.take (halfP l.length)) i h (by rw [List.length_take]; omega) (by rw [List.length_take]; omega) (by rw [List.length_take]; omega))).and (Ev.p r2))
        refine ⟨K + 1, fun k hk => ?_⟩
        obtain ⟨k, rfl⟩ : ∃ m, k = m + 1 := ⟨k - 1, by omega⟩
        obtain ⟨e1, e2, e3⟩ := hK k (by omega)
        simp only [formeref04_path.f]
        rw [if_neg (by omega), e1]
        simp only [Option.bind_some]
        rw [if_pos hlt, if_pos (by omega), if_pos (by omega), Int.toNat_natCast, e2]
        simp only [Option.bind_some]
        rw [e3]
        simp only [Option.bind_some]
        have hb := pathF_len (l.take (halfP l.length)).length (l.take (halfP l.length)) i
        rw [List.length_take] at hb
        have hb' : (pathP (l.take (halfP l.length)) i).length ≤ 1000000 := by
          unfold pathP
          rw [List.length_take]
          omega
        rw [if_pos (by omega)]
      · rw [if_neg hlt]
        obtain ⟨K, hK⟩ := (Ev.p (refhalf_ev (n := l.length) (by omega) (by omega))).and ((Ev.p (refpath_ev f (l.drop (halfP l.length)) (i - halfP l.length) (by omega) (by rw [List.length_drop]; omega) (by rw [List.length_drop]; omega) (by rw [List.length_drop]; omega))).and (Ev.p r1))
        refine ⟨K + 1, fun k hk => ?_⟩
        obtain ⟨k, rfl⟩ : ∃ m, k = m + 1 := ⟨k - 1, by omega⟩
        obtain ⟨e1, e2, e3⟩ := hK k (by omega)
        simp only [formeref04_path.f]
        rw [if_neg (by omega), e1]
        simp only [Option.bind_some]
        rw [if_neg hlt, if_pos (by omega), if_pos (by omega), Int.toNat_natCast, wrap64_id (by omega) (by omega), e2]
        simp only [Option.bind_some]
        rw [e3]
        simp only [Option.bind_some]
        have hb := pathF_len (l.drop (halfP l.length)).length (l.drop (halfP l.length)) (i - halfP l.length)
        rw [List.length_drop] at hb
        have hb' : (pathP (l.drop (halfP l.length)) (i - halfP l.length)).length ≤ 1000000 := by
          unfold pathP
          rw [List.length_drop]
          omega
        rw [if_pos (by omega)]
/-- What Path returns. -/
def pathE (l : List Int) (i : Int) : List Int × Int := if l.length > 10000 then ([], 2) else if l.length = 0 then ([], 1) else if 0 ≤ i ∧ i < l.length then (pathP l i, 0) else ([], 1)
theorem path_ev (l : List Int) (i : Int) : digest_Path.f l i = some (pathE l i) := by
  unfold digest_Path.f pathE pathP
  by_cases h1 : l.length > 10000
  · rw [if_pos h1, if_pos h1]
  · rw [if_neg h1, if_neg h1]
    by_cases h2 : l.length = 0
    · rw [if_pos h2, if_pos h2]
    · rw [if_neg h2, if_neg h2]
      split <;> rfl
theorem refPath_ev (l : List Int) (i : Int) : Ev (fun k => formeref04_Path.f k l i) (pathE l i) := by
  unfold pathE
  by_cases h1 : l.length > 10000
  · rw [if_pos h1]
    refine Ev.same (refRoot_ev l) fun k hk => ?_
    unfold formeref04_Path.f
    rw [hk]
    unfold rootE
    rw [if_pos h1]
    rfl
  · rw [if_neg h1]
    by_cases h2 : l.length = 0
    · rw [if_pos h2]
      refine Ev.same (refRoot_ev l) fun k hk => ?_
      unfold formeref04_Path.f
      rw [hk]
      unfold rootE
      rw [if_neg h1, if_pos h2]
      rfl
    · rw [if_neg h2]
      by_cases h3 : 0 ≤ i ∧ i < l.length
      · rw [if_pos h3]
        refine Ev.same2 (refRoot_ev l) (refpath_ev l.length l i h3.1 h3.2 (Nat.le_refl _) (by omega)) fun k hk hk' => ?_
        unfold formeref04_Path.f
        rw [hk]
        unfold rootE
        rw [if_neg h1, if_neg h2]
        simp only [Option.bind_some]
        rw [if_pos trivial, if_neg (by omega), if_neg (by omega), hk']
        rfl
      · rw [if_neg h3]
        refine Ev.same (refRoot_ev l) fun k hk => ?_
        unfold formeref04_Path.f
        rw [hk]
        unfold rootE
        rw [if_neg h1, if_neg h2]
        simp only [Option.bind_some]
        rw [if_pos trivial]
        by_cases h4 : i < 0
        · rw [if_pos h4]
        · rw [if_neg h4, if_pos (by omega)]

/-! ### ways -/
def lenF : Nat → Int → Nat → Nat
  | 0, _, _ => 0
  | f + 1, i, n => if n ≤ 1 then 0 else if i < halfP n then lenF f i (halfP n) + 1 else lenF f (i - halfP n) (n - halfP n) + 1
theorem reflen_loop : ∀ (f : Nat) (i : Int) (n : Nat) (c : Nat), 0 ≤ i → i < n → n ≤ f → n ≤ 1000000 → c + f ≤ 1000000000 → Ev (fun k => formeref04_Length.l0 k i (n : Int) (c : Int)) ((c + lenF f i n : Nat) : Int)
  | 0, i, n, c, h0, h1, hf, _, _ => by omega
  | f + 1, i, n, c, h0, h1, hf, hm, hc => by
    simp only [lenF]
    by_cases hn : n ≤ 1
    · rw [if_pos hn]
      refine Ev.zero fun k => ?_
      simp only [formeref04_Length.l0]
      rw [if_neg (by omega)]
      rfl
    · rw [if_neg hn]
      have hp := halfP_spec (n := n) (by omega)
      by_cases hlt : i < halfP n
      · rw [if_pos hlt]
        refine Ev.succ2 (refhalf_ev (n := n) (by omega) (by omega)) (reflen_loop f i (halfP n) (c + 1) h0 hlt (by omega) (by omega) (by omega)) fun k e1 e2 => ?_
        simp only [formeref04_Length.l0]
        rw [if_pos (by omega), e1]
        simp only [Option.bind_some]
        rw [if_pos hlt, wrap_next (by omega), e2]
        congr 1
        omega
      · rw [if_neg hlt]
        refine Ev.succ2 (refhalf_ev (n := n) (by omega) (by omega)) (reflen_loop f (i - halfP n) (n - halfP n) (c + 1) (by omega) (by omega) (by omega) (by omega) (by omega)) fun k e1 e2 => ?_
        simp only [formeref04_Length.l0]
        rw [if_pos (by omega), e1]
        simp only [Option.bind_some]
        rw [if_neg hlt, wrap_next (by omega), wrap64_id (by omega) (by omega), wrap64_id (x := (n : Int) - halfP n) (by omega) (by omega)]
        have : ((n - halfP n : Nat) : Int) = (n : Int) - halfP n := by omega
        rw [this] at e2
        rw [e2]
        congr 1
        omega
theorem reflen_ev {i : Int} {n : Nat} (h0 : 0 ≤ i) (h1 : i < n) (hm : n ≤ 1000000) : Ev (fun k => formeref04_Length.f k i (n : Int)) (lenF n i n : Int) := by
  have h := reflen_loop n i n 0 h0 h1 (Nat.le_refl _) hm (by omega)
  rw [Nat.zero_add] at h
  exact h
/-- A path that follow takes to the end has its length. -/
theorem follow_len : ∀ (f : Nat) (d i : Int) (n : Nat) (p : List Int), 0 ≤ i → i < n → n ≤ f → ((followF f d i n p).2 = true ↔ p.length = lenF f i n)
  | 0, d, i, n, p, h0, h1, hf => by omega
  | f + 1, d, i, n, p, h0, h1, hf => by
    simp only [followF, lenF]
    by_cases hn : n = 1
    · rw [if_pos hn, if_pos (show n ≤ 1 by omega)]
      simp
    · rw [if_neg hn, if_neg (show ¬ n ≤ 1 by omega)]
      have hp := halfP_spec (n := n) (by omega)
      by_cases he : p.length = 0
      · rw [if_pos he]
        constructor
        · intro h
          cases h
        · intro h
          split at h <;> omega
      · rw [if_neg he]
        by_cases hlt : i < halfP n
        · rw [if_pos hlt, if_pos hlt]
          show (followF f d i (halfP n) (p.take (p.length - 1))).2 = true ↔ _
          rw [follow_len f d i (halfP n) _ h0 hlt (by omega), List.length_take]
          omega
        · rw [if_neg hlt, if_neg hlt]
          show (followF f d (i - halfP n) (n - halfP n) (p.take (p.length - 1))).2 = true ↔ _
          rw [follow_len f d (i - halfP n) (n - halfP n) _ (by omega) (by omega) (by omega), List.length_take]
          omega
theorem reffollow_ev : ∀ (f : Nat) (d i : Int) (n : Nat) (p : List Int), 0 ≤ i → i < n → n ≤ f → n ≤ 1000000 → p.length = lenF f i n → p.length ≤ 1000000000 → Ev (fun k => formeref04_follow.f k d i (n : Int) p) (followF f d i n p).1
  | 0, d, i, n, p, h0, h1, hf, _, _, _ => by omega
  | f + 1, d, i, n, p, h0, h1, hf, hm, hl, hpl => by
    simp only [lenF] at hl
    simp only [followF]
    by_cases hn : n = 1
    · rw [if_pos hn]
      refine Ev.succ (refleaf_ev d) fun k hk => ?_
      simp only [formeref04_follow.f]
      rw [if_pos (by omega), hk]
      rfl
    · rw [if_neg hn]
      rw [if_neg (show ¬ n ≤ 1 by omega)] at hl
      have hp := halfP_spec (n := n) (by omega)
      have he : ¬ p.length = 0 := by
        intro he
        split at hl <;> omega
      rw [if_neg he]
      have w1 : wrap64 ((p.length : Int) - 1) = (p.length : Int) - 1 := wrap64_id (by omega) (by omega)
      have w2 : ((p.length : Int) - 1).toNat = p.length - 1 := by omega
      by_cases hlt : i < halfP n
      · rw [if_pos hlt]
        rw [if_pos hlt] at hl
        show Ev _ (pairP (followF f d i (halfP n) (p.take (p.length - 1))).1 (rd p ((p.length : Int) - 1)))
        have i1 := reffollow_ev f d i (halfP n) (p.take (p.length - 1)) h0 hlt (by omega) (by omega) (by rw [List.length_take]; omega) (by rw [List.length_take]; omega)
        obtain ⟨K, hK⟩ := (Ev.p (refhalf_ev (n := n) (by omega) (by omega))).and ((Ev.p i1).and (Ev.p (refpair_ev (followF f d i (halfP n) (p.take (p.length - 1))).1 (rd p ((p.length : Int) - 1)))))
        refine ⟨K + 1, fun k hk => ?_⟩
        obtain ⟨k, rfl⟩ : ∃ m, k = m + 1 := ⟨k - 1, by omega⟩
        obtain ⟨e1, e2, e3⟩ := hK k (by omega)
        simp only [formeref04_follow.f]
        rw [if_neg (by omega), e1]
        simp only [Option.bind_some, w1, w2]
        rw [if_pos (by omega), if_pos (by omega), if_pos hlt, if_pos (by omega), e2]
        simp only [Option.bind_some]
        rw [e3]
        rfl
      · rw [if_neg hlt]
        rw [if_neg hlt] at hl
        show Ev _ (pairP (rd p ((p.length : Int) - 1)) (followF f d (i - halfP n) (n - halfP n) (p.take (p.length - 1))).1)
        have i1 := reffollow_ev f d (i - halfP n) (n - halfP n) (p.take (p.length - 1)) (by omega) (by omega) (by omega) (by omega) (by rw [List.length_take]; omega) (by rw [List.length_take]; omega)
        obtain ⟨K, hK⟩ := (Ev.p (refhalf_ev (n := n) (by omega) (by omega))).and ((Ev.p i1).and (Ev.p (refpair_ev (rd p ((p.length : Int) - 1)) (followF f d (i - halfP n) (n - halfP n) (p.take (p.length - 1))).1)))
        refine ⟨K + 1, fun k hk => ?_⟩
        obtain ⟨k, rfl⟩ : ∃ m, k = m + 1 := ⟨k - 1, by omega⟩
        obtain ⟨e1, e2, e3⟩ := hK k (by omega)
        have c : ((n - halfP n : Nat) : Int) = (n : Int) - halfP n := by omega
        rw [c] at e2
        simp only [formeref04_follow.f]
        rw [if_neg (by omega), e1]
        simp only [Option.bind_some, w1, w2]
        rw [if_pos (by omega), if_pos (by omega), if_neg hlt, if_pos (by omega), wrap64_id (x := i - halfP n) (by omega) (by omega), wrap64_id (x := (n : Int) - halfP n) (by omega) (by omega), e2]
        simp only [Option.bind_some]
        rw [e3]
        rfl
/-- What Leads returns. -/
def leadsE (r d i n : Int) (p : List Int) : Bool :=
  if 1 ≤ n ∧ n ≤ 10000 ∧ 0 ≤ i ∧ i < n then (followF n.toNat d i n.toNat p).2 && decide ((followF n.toNat d i n.toNat p).1 = r) else false
theorem leads_ev (r d i n : Int) {p : List Int} (hp : p.length ≤ 1000000000) : digest_Leads.f r d i n p = some (leadsE r d i n p) := by
  unfold digest_Leads.f leadsE
  rw [if_pos hp]
  split <;> rfl
theorem refLeads_ev (r d i n : Int) {p : List Int} (hp : p.length ≤ 1000000000) : Ev (fun k => formeref04_Leads.f k r d i n p) (leadsE r d i n p) := by
  unfold leadsE
  by_cases h : 1 ≤ n ∧ n ≤ 10000 ∧ 0 ≤ i ∧ i < n
  · rw [if_pos h]
    obtain ⟨m, rfl⟩ := Int.eq_ofNat_of_zero_le (show 0 ≤ n by omega)
    have hl := follow_len m d i m p h.2.2.1 h.2.2.2 (Nat.le_refl _)
    rw [Int.toNat_natCast]
    by_cases hq : p.length = lenF m i m
    · refine Ev.same2 (reflen_ev h.2.2.1 h.2.2.2 (by omega)) (reffollow_ev m d i m p h.2.2.1 h.2.2.2 (Nat.le_refl _) (by omega) hq hp) fun k e1 e2 => ?_
      unfold formeref04_Leads.f
      rw [if_neg (by omega), if_neg (by omega), if_neg (by omega), if_neg (by omega), e1]
      simp only [Option.bind_some]
      rw [if_pos (by omega), e2, hl.2 hq]
      simp only [Option.bind_some, Bool.true_and]
      congr 1
    · refine Ev.same (reflen_ev h.2.2.1 h.2.2.2 (by omega)) fun k e1 => ?_
      unfold formeref04_Leads.f
      rw [if_neg (by omega), if_neg (by omega), if_neg (by omega), if_neg (by omega), e1]
      simp only [Option.bind_some]
      rw [if_neg (by omega)]
      have : (followF m d i m p).2 = false := by
        cases hb : (followF m d i m p).2 with
        | false => rfl
        | true => exact absurd (hl.1 hb) hq
      rw [this]
      rfl
  · rw [if_neg h]
    refine Ev.any fun k => ?_
    unfold formeref04_Leads.f
    by_cases h1 : n < 1
    · rw [if_pos h1]
    · rw [if_neg h1]
      by_cases h2 : n > 10000
      · rw [if_pos h2]
      · rw [if_neg h2]
        by_cases h3 : i < 0
        · rw [if_pos h3]
        · rw [if_neg h3, if_pos (by omega)]
theorem same_loop (p : List Int) (hl : p.length ≤ 1000000) : ∀ (m n : Nat), n + m = p.length → Ev (fun k => formeref04_Same.l0 k p p (n : Int)) true := by
  intro m
  induction m with
  | zero =>
    intro n hn
    refine Ev.zero fun k => ?_
    simp only [formeref04_Same.l0]
    rw [if_neg (by omega)]
  | succ m ih =>
    intro n hn
    refine Ev.succ (ih (n + 1) (by omega)) fun k hk => ?_
    simp only [formeref04_Same.l0]
    rw [if_pos (by omega), if_pos (by omega), if_pos (by omega), if_pos trivial, wrap_next (by omega)]
    exact hk
theorem same_ev {p : List Int} (hl : p.length ≤ 1000000) : Ev (fun k => formeref04_Same.f k p p) true := by
  refine Ev.same (same_loop p hl p.length 0 (by omega)) fun k hk => ?_
  unfold formeref04_Same.f
  rw [if_pos rfl]
  exact hk
theorem pathE_len (l : List Int) (i : Int) : (pathE l i).1.length ≤ 1000000 := by
  unfold pathE
  split
  · simp
  · split
    · simp
    · split
      · have := pathF_len l.length l i
        show (pathP l i).length ≤ _
        unfold pathP
        omega
      · simp
end Go.Proofs.YtffmflmpiekcfaaDoor.Plain
