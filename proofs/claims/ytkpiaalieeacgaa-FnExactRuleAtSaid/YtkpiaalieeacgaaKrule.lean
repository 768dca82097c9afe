/- What the functions come to (rule). Conditions: none. -/
import Derived.Test.YtkpiaalieeacgaaKgraph
set_option linter.unusedSimpArgs false
set_option linter.unusedVariables false
namespace Go.Ev
open Go
theorem f_impl_copyRule (x : MRule) (hx : x.Bd 1048576) : Fresh run_impl_copyRule true 2 [.agg [Cell.str (bs x.Task), strsC x.On, strsC x.Ins, strsC x.Envs, Cell.bool x.Keep]] [.agg x.tr] := by
  obtain ⟨b0, b1, b2, b3, b4⟩ := hx
  obtain ⟨c1, E1, i1, e1, r1, w1, g1⟩ := freshO (f_slices_Clone_string x.On (Nat.le_trans b1.1 (by omega))) ([] : List Entry) (mapO_canon [.one (strsC x.On)] _ _)
  obtain ⟨c2, E2, i2, e2, r2, w2, g2⟩ := freshO (f_slices_Clone_string x.Ins (Nat.le_trans b2.1 (by omega))) ([] ++ E1) (mapO_canon [.one (strsC x.Ins)] _ _)
  obtain ⟨c3, E3, i3, e3, r3, w3, g3⟩ := freshO (f_slices_Clone_string x.Envs (Nat.le_trans b3.1 (by omega))) ([] ++ E1 ++ E2) (mapO_canon [.one (strsC x.Envs)] _ _)
  have hs : Sp (Rep ([] ++ E1 ++ E2 ++ E3) true true 2) (i1 ++ (i2 ++ (i3 ++ []))) [Cell.str (bs x.Task), c1, c2, c3, Cell.bool x.Keep] x.tr :=
    (Sp.append (Sp.leafD (H := [] ++ E1 ++ E2 ++ E3) (w := true) (q := true) (n := 2) (by omega) (.string (bs x.Task))) (Sp.append (Sp.one1 (Rep.app E3 (Rep.app E2 r1))) (Sp.append (Sp.one1 (Rep.app E3 r2)) (Sp.append (Sp.one1 r3) (Sp.append (Sp.leafD (by omega) (.bool x.Keep)) Sp.nil)))) :)
  refine Fresh.agg (run_impl_copyRule_of 0 ?_) (g3 (g2 (g1 good_nil))) hs (Mine.app w1 (Mine.app w2 (Mine.app w3 (Mine.nil (Nat.le_refl _))))).nd
  simp only [impl_copyRule, e1, e2, e3, callS_canon, callL_canon, Option.map_some, Option.bind_some, shape_one, shape_agg, shape_nil, cellsAt_0, cellsAt_1, cellsAt_2, cellsAt_3, cells_one, cells_agg, cB_zero, cI_zero, cS_zero, cC_zero, cB_cons, cI_cons, cS_cons, cC_cons, cond_true, cond_false, List.length_cons, List.length_nil, beq_self_eq_true, Bool.and_true, Bool.true_and, lenC_encL, lenC_lst, deref_ref, emptyK_nil, bs_size, bs_toList]
theorem c_spec_l12Copy (x : MRule) (hx : x.Bd 1048576) : outL run_spec_l12Copy [.agg [Cell.str (bs x.Task), strsC x.On, strsC x.Ins, strsC x.Envs, Cell.bool x.Keep]] = some [.agg [Cell.str (bs x.Task), strsC x.On, strsC x.Ins, strsC x.Envs, Cell.bool x.Keep]] := by
  obtain ⟨b0, b1, b2, b3, b4⟩ := hx
  have l1 := b1.1
  have l2 := b2.1
  have l3 := b3.1
  have hs : ∀ (xs : List Str) H, srcRows H 1 (strsC xs) = some (xs.map eStr) := fun xs H => by simp [srcRows, rowsOf, encL]
  obtain ⟨c1, E1, i1, e1, r1, w1, g1⟩ := clone_rep (sz := 1) (by' := 16) (e := eStr) (tr := trStr) ([] : List Entry) x.On (fun _ _ => rfl) (fun _ _ _ => Sp.leaf1 _) (by unfold bound; omega) (by unfold bound; omega)
  obtain ⟨c2, E2, i2, e2, r2, w2, g2⟩ := clone_rep (sz := 1) (by' := 16) (e := eStr) (tr := trStr) ([] ++ E1) x.Ins (fun _ _ => rfl) (fun _ _ _ => Sp.leaf1 _) (by unfold bound; omega) (by unfold bound; omega)
  obtain ⟨c3, E3, i3, e3, r3, w3, g3⟩ := clone_rep (sz := 1) (by' := 16) (e := eStr) (tr := trStr) ([] ++ E1 ++ E2) x.Envs (fun _ _ => rfl) (fun _ _ _ => Sp.leaf1 _) (by unfold bound; omega) (by unfold bound; omega)
  have hs' : Sp (Rep ([] ++ E1 ++ E2 ++ E3) true true 2) (i1 ++ (i2 ++ (i3 ++ []))) [Cell.str (bs x.Task), c1, c2, c3, Cell.bool x.Keep] x.tr :=
    (Sp.append (Sp.leafD (H := [] ++ E1 ++ E2 ++ E3) (w := true) (q := true) (n := 2) (by omega) (.string (bs x.Task))) (Sp.append (Sp.one1 (Rep.app E3 (Rep.app E2 r1))) (Sp.append (Sp.one1 (Rep.app E3 r2)) (Sp.append (Sp.one1 r3) (Sp.append (Sp.leafD (by omega) (.bool x.Keep)) Sp.nil)))) :)
  refine outL_of (H := [] ++ E1 ++ E2 ++ E3) (xs := [.agg [Cell.str (bs x.Task), c1, c2, c3, Cell.bool x.Keep]]) (run_spec_l12Copy_of 0 ?_) ?_
  · simp only [spec_l12Copy, hs, e1, e2, e3, callS_canon, callL_canon, Option.map_some, Option.bind_some, shape_one, shape_agg, shape_nil, cellsAt_0, cellsAt_1, cellsAt_2, cellsAt_3, cells_one, cells_agg, cB_zero, cI_zero, cS_zero, cC_zero, cB_cons, cI_cons, cS_cons, cC_cons, cond_true, cond_false, List.length_cons, List.length_nil, beq_self_eq_true, Bool.and_true, Bool.true_and, lenC_encL, lenC_lst, deref_ref, emptyK_nil, bs_size, bs_toList]
  · have := mapO_c (reify_agg hs' (by omega)) (mapO_nil' (reifyAV false ([] ++ E1 ++ E2 ++ E3)))
    simpa only [MRule.tr, List.map_cons, List.map_nil, leaf_cell, trL_cell] using this
def m_RuleAt (l : List MRule) (s : Str) : MRule × Bool := match l.find? (fun r => r.Task == s) with
  | some r => (r, true)
  | none => (⟨s, [], [], [], false⟩, false)
theorem b_RuleAt (l : List MRule) (hl : bdL 1048576 (MRule.Bd 1048576) l) (s : Str) (hs : bdS 1048576 s) : (m_RuleAt l s).1.Bd 1048576 := by
  unfold m_RuleAt
  split
  · rename_i r h
    exact hl.2 r (List.mem_of_find?_eq_some h)
  · exact ⟨hs, ⟨by simp, by simp⟩, ⟨by simp, by simp⟩, ⟨by simp, by simp⟩, trivial⟩
theorem cnt_RuleAt (l : List MRule) (hl : bdL 1048576 (MRule.Bd 1048576) l) (s : Str) (hs : bdS 1048576 s) : (m_RuleAt l s).1.cntA ≤ 1099511627776 := by
  obtain ⟨_, b1, b2, b3, _⟩ := b_RuleAt l hl s hs
  have h1 := b1.1
  have h2 := b2.1
  have h3 := b3.1
  simp only [MRule.cntA, cntL_one1]
  omega
theorem c_spec_RuleAt (l : List MRule) (hl : bdL 1048576 (MRule.Bd 1048576) l) (s : Str) (hs : bdS 1048576 s) : outL run_spec_RuleAt [.one (encL 5 MRule.enc l), .one (Cell.str (bs s))] = some [.agg [Cell.str (bs (m_RuleAt l s).1.Task), strsC (m_RuleAt l s).1.On, strsC (m_RuleAt l s).1.Ins, strsC (m_RuleAt l s).1.Envs, Cell.bool (m_RuleAt l s).1.Keep], .one (Cell.bool (m_RuleAt l s).2)] := by
  have hM := maxLen_eq
  have hxl := hl.1
  have loop : ∀ (r : List MRule) (i n : Nat), l.drop i = r → r.length < n → (∀ x ∈ r, x.Bd 1048576) → ∀ k m, ∃ ys, spec_RuleAt_l0 k m n (encL 5 MRule.enc l) (bs s) i = some (ys, []) ∧
      mapO (reifyAV false []) ys = some [.agg [Cell.str (bs (m_RuleAt r s).1.Task), strsC (m_RuleAt r s).1.On, strsC (m_RuleAt r s).1.Ins, strsC (m_RuleAt r s).1.Envs, Cell.bool (m_RuleAt r s).1.Keep], .one (Cell.bool (m_RuleAt r s).2)] := by
    intro r
    induction r with
    | nil =>
      intro i n hd hn hb k m
      obtain ⟨n, rfl⟩ : ∃ j, n = j + 1 := ⟨n - 1, by omega⟩
      have := drop_nil hd
      refine ⟨_, by simp only [spec_RuleAt_l0, lenC_encL, Option.bind_some]; rw [decide_eq_false (by omega), cond_false], ?_⟩
      rfl
    | cons x r ih =>
      intro i n hd hn hb k m
      obtain ⟨n, rfl⟩ : ∃ j, n = j + 1 := ⟨n - 1, by omega⟩
      obtain ⟨hlt, hg, hd'⟩ := drop_cons hd
      simp only [List.length_cons] at hn
      have hx := hb x List.mem_cons_self
      by_cases e : x.Task = s
      · have hm : m_RuleAt (x :: r) s = (x, true) := by simp [m_RuleAt, e]
        refine ⟨_, ?_, mapO_canon [.agg [Cell.str (bs x.Task), strsC x.On, strsC x.Ins, strsC x.Envs, Cell.bool x.Keep], .one (Cell.bool true)] _ _ |>.trans (by rw [hm])⟩
        simp only [spec_RuleAt_l0, lenC_encL, idxA_encL, hg, MRule.enc, c_spec_l12Copy x hx, fldA_ref, Nat.zero_add, callS_canon, callL_canon, Option.map_some, Option.bind_some, shape_one, shape_agg, shape_nil, cellsAt_0, cellsAt_1, cellsAt_2, cellsAt_3, cells_one, cells_agg, cB_zero, cI_zero, cS_zero, cC_zero, cB_cons, cI_cons, cS_cons, cC_cons, cond_true, cond_false, List.length_cons, List.length_nil, beq_self_eq_true, Bool.and_true, Bool.true_and, lenC_encL, lenC_lst, deref_ref, emptyK_nil, bs_size, bs_toList]
        rw [decide_eq_true (by omega), cond_true, show (x.Task == s) = true by simpa using e, cond_true]
      · have hm : m_RuleAt (x :: r) s = m_RuleAt r s := by simp [m_RuleAt, e]
        obtain ⟨ys, h1, h2⟩ := ih (i + 1) n hd' (by omega) (fun y hy => hb y (List.mem_cons_of_mem _ hy)) k m
        refine ⟨ys, ?_, by rw [hm]; exact h2⟩
        simp only [spec_RuleAt_l0, lenC_encL, idxA_encL, hg, MRule.enc, fldA_ref, Nat.zero_add, callS_canon, callL_canon, Option.map_some, Option.bind_some, shape_one, shape_agg, shape_nil, cellsAt_0, cellsAt_1, cellsAt_2, cellsAt_3, cells_one, cells_agg, cB_zero, cI_zero, cS_zero, cC_zero, cB_cons, cI_cons, cS_cons, cC_cons, cond_true, cond_false, List.length_cons, List.length_nil, beq_self_eq_true, Bool.and_true, Bool.true_and, lenC_encL, lenC_lst, deref_ref, emptyK_nil, bs_size, bs_toList]
        rw [decide_eq_true (by omega), cond_true, show (x.Task == s) = false by simpa using e, cond_false, wrap_succ (by omega)]
        exact h1
  obtain ⟨ys, h1, h2⟩ := loop l 0 (l.length + 1 + 1) rfl (by omega) hl.2 (l.length + 1 + 1) (l.length + 1 + 1)
  refine outL_of (H := []) (run_spec_RuleAt_of (l.length + 1) ?_) h2
  simpa [spec_RuleAt] using h1
theorem f_impl_RuleAt (l : List MRule) (hl : bdL 1048576 (MRule.Bd 1048576) l) (s : Str) (hs : bdS 1048576 s) : Fresh run_impl_RuleAt true 2 [.one (encL 5 MRule.enc l), .one (Cell.str (bs s))] [.agg (m_RuleAt l s).1.tr, .one (.leaf (.bool (m_RuleAt l s).2))] := by
  have hM := maxLen_eq
  have hxl := hl.1
  have loop : ∀ (r : List MRule) (i n : Nat), l.drop i = r → r.length < n → (∀ x ∈ r, x.Bd 1048576) → ∀ k m, ∃ cs H ids, impl_RuleAt_l0 k m n (bs s) (encL 5 MRule.enc l) l.length i = some ([.agg cs, .one (Cell.bool (m_RuleAt r s).2)], H) ∧
      good H ∧ Sp (Rep H true true 2) ids cs (m_RuleAt r s).1.tr ∧ ids.Nodup := by
    intro r
    induction r with
    | nil =>
      intro i n hd hn hb k m
      obtain ⟨n, rfl⟩ : ∃ j, n = j + 1 := ⟨n - 1, by omega⟩
      have := drop_nil hd
      refine ⟨[Cell.str (bs s), .lst true 1 [], .lst true 1 [], .lst true 1 [], Cell.bool false], [], [], by simp only [impl_RuleAt_l0]; rw [decide_eq_false (by omega), cond_false]; rfl, good_nil, ?_, by simp⟩
      exact .cons (i := []) (is := []) ⟨rfl, rfl⟩ (.cons (i := []) (is := []) (.inl ⟨rfl, rfl, true, rfl⟩) (.cons (i := []) (is := []) (.inl ⟨rfl, rfl, true, rfl⟩) (.cons (i := []) (is := []) (.inl ⟨rfl, rfl, true, rfl⟩) (.cons (i := []) (is := []) ⟨rfl, rfl⟩ .nil))))
    | cons x r ih =>
      intro i n hd hn hb k m
      obtain ⟨n, rfl⟩ : ∃ j, n = j + 1 := ⟨n - 1, by omega⟩
      obtain ⟨hlt, hg, hd'⟩ := drop_cons hd
      simp only [List.length_cons] at hn
      have hx := hb x List.mem_cons_self
      by_cases e : x.Task = s
      · have hm : m_RuleAt (x :: r) s = (x, true) := by simp [m_RuleAt, e]
        obtain ⟨cs, E, ids, e1, r1, w1, g1⟩ := freshA (f_impl_copyRule x hx) [] (mapO_canon [.agg [Cell.str (bs x.Task), strsC x.On, strsC x.Ins, strsC x.Envs, Cell.bool x.Keep]] _ _)
        obtain ⟨c1, c2, c3, rfl⟩ := MRule.open r1
        rw [hm]
        refine ⟨_, _, ids, ?_, g1 good_nil, r1, w1.nd⟩
        simp only [impl_RuleAt_l0, idxA_encL, hg, MRule.enc, e1, Nat.zero_add, callS_canon, callL_canon, Option.map_some, Option.bind_some, shape_one, shape_agg, shape_nil, cellsAt_0, cellsAt_1, cellsAt_2, cellsAt_3, cells_one, cells_agg, cB_zero, cI_zero, cS_zero, cC_zero, cB_cons, cI_cons, cS_cons, cC_cons, cond_true, cond_false, List.length_cons, List.length_nil, beq_self_eq_true, Bool.and_true, Bool.true_and, lenC_encL, lenC_lst, deref_ref, emptyK_nil, bs_size, bs_toList]
        rw [decide_eq_true (by omega), cond_true, show (x.Task == s) = true by simpa using e, cond_true]
      · have hm : m_RuleAt (x :: r) s = m_RuleAt r s := by simp [m_RuleAt, e]
        obtain ⟨cs, H, ids, h1, h2⟩ := ih (i + 1) n hd' (by omega) (fun y hy => hb y (List.mem_cons_of_mem _ hy)) k m
        rw [hm]
        refine ⟨cs, H, ids, ?_, h2⟩
        simp only [impl_RuleAt_l0, idxA_encL, hg, MRule.enc, Nat.zero_add, callS_canon, callL_canon, Option.map_some, Option.bind_some, shape_one, shape_agg, shape_nil, cellsAt_0, cellsAt_1, cellsAt_2, cellsAt_3, cells_one, cells_agg, cB_zero, cI_zero, cS_zero, cC_zero, cB_cons, cI_cons, cS_cons, cC_cons, cond_true, cond_false, List.length_cons, List.length_nil, beq_self_eq_true, Bool.and_true, Bool.true_and, lenC_encL, lenC_lst, deref_ref, emptyK_nil, bs_size, bs_toList]
        rw [decide_eq_true (by omega), cond_true, show (x.Task == s) = false by simpa using e, cond_false, wrap_succ (by omega)]
        exact h1
  obtain ⟨cs, H, ids, h1, h2, h3, h4⟩ := loop l 0 (l.length + 1 + 1) rfl (by omega) hl.2 (l.length + 1 + 1) (l.length + 1 + 1)
  refine Fresh.agg1 (n := 1) (run_impl_RuleAt_of (l.length + 1) ?_) h2 h3 h4
  simpa [impl_RuleAt] using h1

end Go.Ev
