/- Plain facts on the example of chapter 4 (digest): the values that its head compares. -/
import Derived.Test.YtffmflmpiekcfaaDoorPlain
namespace Go.Proofs.YtffmflmpiekcfaaDoor.Plain
open Go.RowKit Go.Proofs.YtffmflmpiekcfaaDoor.PAll Go.Proofs.YtffmflmpiekcfaaDoorW.PrintWords Go.Proofs.YtffmflmpiekcfaaDoorW.PrintLast Go.Proofs.YtffmflmpiekcfaaDoorW.PrintMore Go.Proofs.YtffmflmpiekcfaaDoorGlib
theorem half3 : halfP 3 = 2 := by decide
theorem half2 : halfP 2 = 1 := by decide
theorem head_root3 : rootP [5, 6, 7] = pairP (rootP [5, 6]) (leafP 7) := by
  have h := root_two (l := [5, 6, 7]) (by decide)
  have e : ([5, 6, 7] : List Int).length = 3 := rfl
  rw [e, half3] at h
  have e1 : ([5, 6, 7] : List Int).take 2 = [5, 6] := rfl
  have e2 : ([5, 6, 7] : List Int).drop 2 = [7] := rfl
  rw [e1, e2, root_one (l := [7]) rfl] at h
  exact h
theorem head_F1 : digest_Root.f [5, 6, 7] = some (rootP [5, 6, 7], 0) := root_ev _
theorem head_F2 : digest_Root.f [5, 6] = some (rootP [5, 6], 0) := root_ev _
theorem head_F3 : digest_Path.f [5, 6, 7] 2 = some ([rootP [5, 6]], 0) := by
  rw [path_ev]
  unfold pathE
  rw [if_neg (by decide), if_neg (by decide), if_pos (by decide), path_two (by decide)]
  have e : ([5, 6, 7] : List Int).length = 3 := rfl
  rw [e, half3, if_neg (by decide), path_one (by rfl)]
  rfl
theorem head_F4 : digest_Root.f [] = some (0, 1) := root_ev _
theorem head_F5 : digest_Path.f [5, 6, 7] 3 = some ([], 1) := by
  rw [path_ev]
  unfold pathE
  rw [if_neg (by decide), if_neg (by decide), if_neg (by decide)]
theorem head_S0 : Ev (fun k => digest_Sum.f k []) 14695981039346656037 := sum_ev (l := []) (by decide)
theorem sum_a : sumP [97] = 12638187200555641996 := by decide +kernel
theorem sum_foobar : sumP [102, 111, 111, 98, 97, 114] = 9625390261332436968 := by decide +kernel
theorem head_S1 : Ev (fun k => digest_Sum.f k [97]) 12638187200555641996 := sum_a ▸ sum_ev (l := [97]) (by decide)
theorem head_S2 : Ev (fun k => digest_Sum.f k [102, 111, 111, 98, 97, 114]) 9625390261332436968 := sum_foobar ▸ sum_ev (l := [102, 111, 111, 98, 97, 114]) (by decide)
theorem text5 : textP 5 = [53] := by
  unfold textP
  have : Lib.itoa 5 = [53] := by
    have e : Lib.decDigits 5 = [53] := by
      rw [Lib.decDigits]
      rfl
    unfold Lib.itoa
    rw [if_neg (by omega)]
    exact e
  rw [this]
  rfl
theorem next_text : nextP 97 [5] = sumP [0, 0, 0, 0, 0, 0, 0, 97, 53, 32] := by
  rw [← text_sum]
  congr 1
  show eight 97 ++ (textP 5 ++ [32]) = _
  rw [text5]
  decide +kernel
theorem five_ok : nextOk [5] := by intro x hx; obtain rfl := List.mem_singleton.1 hx; omega
theorem head_N5 : Ev (fun k => digest_Next.f k 97 [5]) (sumP [0, 0, 0, 0, 0, 0, 0, 97, 53, 32]) := next_text ▸ next_ev (l := [5]) (by decide) five_ok 97
theorem head_S3 : Ev (fun k => digest_Sum.f k [0, 0, 0, 0, 0, 0, 0, 97, 53, 32]) (sumP [0, 0, 0, 0, 0, 0, 0, 97, 53, 32]) := sum_ev (by decide)
theorem head_same (q : Int) : Ev (fun k => formeref04_Same.f k [q] [q]) true := by
  refine ⟨2, fun k hk => ?_⟩
  obtain ⟨k, rfl⟩ : ∃ m, k = m + 2 := ⟨k - 2, by omega⟩
  have e : wrap64 1 = 1 := wrap64_id (x := 1) (by omega) (by omega)
  simp [formeref04_Same.f, formeref04_Same.l0, e]
theorem head_leads : digest_Leads.f (rootP [5, 6, 7]) 7 2 3 [rootP [5, 6]] = some true := by
  rw [leads_ev _ _ _ _ (by decide)]
  unfold leadsE
  rw [if_pos (by decide), head_root3]
  generalize rootP [5, 6] = q
  have e : followF 3 7 2 3 [q] = (pairP q (leafP 7), true) := by
    rw [followF, if_neg (by decide), if_neg (by simp), half3, if_neg (by decide)]
    show (pairP (rd [q] ((([q] : List Int).length : Int) - 1)) (followF 2 7 (2 - 2) 1 ([q].take 0)).1, (followF 2 7 (2 - 2) 1 ([q].take 0)).2) = _
    rfl
  show some ((followF 3 7 2 3 [q]).2 && decide ((followF 3 7 2 3 [q]).1 = pairP q (leafP 7))) = _
  rw [e]
  simp
theorem head_pair : Ev (fun k => digest_Pair.f k (rootP [5, 6]) (leafP 7)) (rootP [5, 6, 7]) := by
  rw [head_root3]
  exact pair_ev _ _
end Go.Proofs.YtffmflmpiekcfaaDoor.Plain
