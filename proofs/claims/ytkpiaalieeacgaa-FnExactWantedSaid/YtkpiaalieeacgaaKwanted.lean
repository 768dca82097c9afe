/- What the functions come to (wanted). Conditions: none. -/
import Derived.Test.YtkpiaalieeacgaaKpick
set_option linter.unusedSimpArgs false
set_option linter.unusedVariables false
namespace Go.Ev
open Go
def m_Wanted (l : List MPack) : List MNeed := l.flatMap (·.Needs)
theorem m_Wanted_len (l : List MPack) : (m_Wanted l).length ≤ wtL MPack.wt l := by
  induction l with
  | nil => simp [m_Wanted]
  | cons x l ih =>
    simp only [m_Wanted, wtL, List.flatMap_cons, List.length_append, List.length_cons, List.map_cons, List.sum_cons] at ih ⊢
    have : x.Needs.length ≤ MPack.wt x := by simp only [MPack.wt, wtL]; omega
    omega
theorem b_Wanted (l : List MPack) (hl : bdL 1048576 (MPack.Bd 1048576) l) (hw : wtL MPack.wt l ≤ 1048576) : bdL 1048576 (MNeed.Bd 1048576) (m_Wanted l) := by
  refine ⟨Nat.le_trans (m_Wanted_len l) hw, fun x hx => ?_⟩
  obtain ⟨p, hp, hx⟩ := List.mem_flatMap.1 hx
  exact (hl.2 p hp).2.2.1.2 x hx
theorem cnt_Wanted (l : List MPack) (hl : bdL 1048576 (MPack.Bd 1048576) l) (hw : wtL MPack.wt l ≤ 1048576) : cntL MNeed.cntR (m_Wanted l) ≤ 1099511627776 := by
  have h := (b_Wanted l hl hw).1
  have : ∀ xs : List MNeed, cntL MNeed.cntR xs ≤ 2 * xs.length := by
    intro xs
    induction xs with
    | nil => simp [cntL]
    | cons x xs ih =>
      simp only [cntL, MNeed.cntR, List.length_cons, List.map_cons, List.sum_cons] at ih ⊢
      omega
  have := this (m_Wanted l)
  omega
theorem c_spec_Wanted (l : List MPack) (hl : bdL 1048576 (MPack.Bd 1048576) l) (hw : wtL MPack.wt l ≤ 1048576) : outL run_spec_Wanted [.one (encL 4 MPack.enc l)] = some [.one (encL 2 MNeed.enc (m_Wanted l))] := by
  have hM := maxLen_eq
  have hxl := hl.1
  have htot := m_Wanted_len l
  have loop : ∀ (r : List MPack) (i n : Nat) (acc : List MNeed) (c : Cell) (H : List Entry), l.drop i = r → r.length < n → acc.length + (m_Wanted r).length ≤ 1048576 → Grow 2 c H (acc.map MNeed.enc) →
      ∀ k m, ∃ c' H', spec_Wanted_l0 k m n (encL 4 MPack.enc l) c i H = some ([.one c'], H') ∧ Grow 2 c' H' ((acc ++ m_Wanted r).map MNeed.enc) := by
    intro r
    induction r with
    | nil =>
      intro i n acc c H hd hn ha hg k m
      obtain ⟨n, rfl⟩ : ∃ j, n = j + 1 := ⟨n - 1, by omega⟩
      have := drop_nil hd
      refine ⟨c, H, ?_, by simpa [m_Wanted] using hg⟩
      simp only [spec_Wanted_l0, lenC_encL, Option.bind_some]
      rw [decide_eq_false (by omega), cond_false]
    | cons x r ih =>
      intro i n acc c H hd hn ha hg k m
      obtain ⟨n, rfl⟩ : ∃ j, n = j + 1 := ⟨n - 1, by omega⟩
      obtain ⟨hlt, hx, hd'⟩ := drop_cons hd
      simp only [List.length_cons] at hn
      have he : m_Wanted (x :: r) = x.Needs ++ m_Wanted r := by simp [m_Wanted]
      rw [he, List.length_append] at ha
      obtain ⟨q, e1, e2⟩ := hg.app (by' := 32) (x.Needs.map MNeed.enc) (by unfold bound; simp; omega) (by unfold bound; simp; omega)
      obtain ⟨c', H', h1, h2⟩ := ih (i + 1) n (acc ++ x.Needs) q.1 q.2 hd' (by omega) (by rw [List.length_append]; omega) (by simpa using e2) k m
      refine ⟨c', H', ?_, by rw [he, ← List.append_assoc]; exact h2⟩
      have hs : srcRows H 2 (encL 2 MNeed.enc x.Needs) = some (x.Needs.map MNeed.enc) := by simp [srcRows, rowsOf, encL]
      simp only [spec_Wanted_l0, lenC_encL, Option.bind_some]
      rw [decide_eq_true (by omega), cond_true]
      simp only [idxA_encL, hx, MPack.enc, Nat.zero_add, fldA_ref, hs, e1, callS_canon, callL_canon, Option.map_some, Option.bind_some, shape_one, shape_agg, shape_nil, cellsAt_0, cellsAt_1, cellsAt_2, cellsAt_3, cells_one, cells_agg, cB_zero, cI_zero, cS_zero, cC_zero, cB_cons, cI_cons, cS_cons, cC_cons, cond_true, cond_false, List.length_cons, List.length_nil, beq_self_eq_true, Bool.and_true, Bool.true_and, lenC_encL, lenC_lst, deref_ref, emptyK_nil, bs_size, bs_toList]
      rw [wrap_succ (by omega)]
      exact h1
  obtain ⟨c', H', h1, h2⟩ := loop l 0 (l.length + 1 + 1) [] (.lst true 2 []) [] rfl (by omega) (by simp; omega) (Grow.nil 2) (l.length + 1 + 1) (l.length + 1 + 1)
  refine outL_of (H := H') (run_spec_Wanted_of (l.length + 1) ?_) (Grow.read h2)
  simpa [spec_Wanted] using h1
theorem f_impl_Wanted (l : List MPack) (hl : bdL 1048576 (MPack.Bd 1048576) l) (hw : wtL MPack.wt l ≤ 1048576) : Fresh run_impl_Wanted true 2 [.one (encL 4 MPack.enc l)] [.one (trL 2 MNeed.tr (m_Wanted l))] := by
  have hM := maxLen_eq
  have hxl := hl.1
  have htot := m_Wanted_len l
  have loop : ∀ (r : List MPack) (i n : Nat) (acc : List MNeed) (c : Cell) (H : List Entry), l.drop i = r → r.length < n → acc.length + (m_Wanted r).length ≤ 1048576 → Grow 2 c H (acc.map MNeed.enc) →
      ∀ k m, ∃ c' H', impl_Wanted_l0 k m n c (encL 4 MPack.enc l) l.length i H = some ([.one c'], H') ∧ Grow 2 c' H' ((acc ++ m_Wanted r).map MNeed.enc) := by
    intro r
    induction r with
    | nil =>
      intro i n acc c H hd hn ha hg k m
      obtain ⟨n, rfl⟩ : ∃ j, n = j + 1 := ⟨n - 1, by omega⟩
      have := drop_nil hd
      refine ⟨c, H, ?_, by simpa [m_Wanted] using hg⟩
      simp only [impl_Wanted_l0]
      rw [decide_eq_false (by omega), cond_false]
    | cons x r ih =>
      intro i n acc c H hd hn ha hg k m
      obtain ⟨n, rfl⟩ : ∃ j, n = j + 1 := ⟨n - 1, by omega⟩
      obtain ⟨hlt, hx, hd'⟩ := drop_cons hd
      simp only [List.length_cons] at hn
      have he : m_Wanted (x :: r) = x.Needs ++ m_Wanted r := by simp [m_Wanted]
      rw [he, List.length_append] at ha
      obtain ⟨q, e1, e2⟩ := hg.app (by' := 32) (x.Needs.map MNeed.enc) (by unfold bound; simp; omega) (by unfold bound; simp; omega)
      obtain ⟨c', H', h1, h2⟩ := ih (i + 1) n (acc ++ x.Needs) q.1 q.2 hd' (by omega) (by rw [List.length_append]; omega) (by simpa using e2) k m
      refine ⟨c', H', ?_, by rw [he, ← List.append_assoc]; exact h2⟩
      have hs : srcRows H 2 (encL 2 MNeed.enc x.Needs) = some (x.Needs.map MNeed.enc) := by simp [srcRows, rowsOf, encL]
      simp only [impl_Wanted_l0]
      rw [decide_eq_true (by omega), cond_true]
      simp only [idxA_encL, hx, MPack.enc, Nat.zero_add, fldA_ref, hs, e1, callS_canon, callL_canon, Option.map_some, Option.bind_some, shape_one, shape_agg, shape_nil, cellsAt_0, cellsAt_1, cellsAt_2, cellsAt_3, cells_one, cells_agg, cB_zero, cI_zero, cS_zero, cC_zero, cB_cons, cI_cons, cS_cons, cC_cons, cond_true, cond_false, List.length_cons, List.length_nil, beq_self_eq_true, Bool.and_true, Bool.true_and, lenC_encL, lenC_lst, deref_ref, emptyK_nil, bs_size, bs_toList]
      rw [wrap_succ (by omega)]
      exact h1
  obtain ⟨c', H', h1, h2⟩ := loop l 0 (l.length + 1 + 1) [] (.lst true 2 []) [] rfl (by omega) (by simp; omega) (Grow.nil 2) (l.length + 1 + 1) (l.length + 1 + 1)
  rw [List.nil_append] at h2
  obtain ⟨ids, h3, h4, h5⟩ := h2.rep (tr := MNeed.tr) (fun _ _ => rfl) (fun x _ H' => by
    unfold MNeed.tr MNeed.enc
    exact Sp.cons (i := []) (leaf_reps _) (Sp.cons (i := []) (leaf_reps _) .nil))
  refine Fresh.one (c := c') (H := H') (run_impl_Wanted_of (l.length + 1) ?_) h5 h3 h4
  simpa [impl_Wanted] using h1

end Go.Ev
