/- What the functions come to (pick). Conditions: none. -/
import Derived.Test.YtkpiaalieeacgaaKrule
set_option linter.unusedSimpArgs false
set_option linter.unusedVariables false
namespace Go.Ev
open Go
/-- The place of the first element that answers. -/
def idxF {α : Type} (p : α → Bool) : List α → Nat → Int
  | [], _ => -1
  | x :: r, i => cond (p x) (i : Int) (idxF p r (i + 1))
theorem idxF_find {α : Type} (p : α → Bool) : ∀ (l : List α) (i : Nat), (idxF p l i = -1 ∧ l.find? p = none) ∨ ∃ (j : Nat) (x : α), idxF p l i = ((i + j : Nat) : Int) ∧ l[j]? = some x ∧ l.find? p = some x := by
  intro l
  induction l with
  | nil => intro i; exact .inl ⟨rfl, rfl⟩
  | cons b r ih =>
    intro i
    by_cases e : p b = true
    · exact .inr ⟨0, b, by simp [idxF, e], rfl, by simp [e]⟩
    · rcases ih (i + 1) with ⟨h1, h2⟩ | ⟨j, x, h1, h2, h3⟩
      · exact .inl ⟨by simp [idxF, e, h1], by simp [e, h2]⟩
      · exact .inr ⟨j + 1, x, by simp only [idxF, Bool.eq_false_iff.2 e, cond_false, h1]; congr 1; omega, by simpa using h2, by simp [e, h3]⟩
theorem f_impl_copyVer (x : MVer) (hx : x.Bd 1048576) : Fresh run_impl_copyVer true 2 [.agg [Cell.int x.A, Cell.int x.B, Cell.int x.C, strsC x.Pre]] [.agg x.tr] := by
  obtain ⟨b0, b1, b2, b3⟩ := hx
  obtain ⟨c1, E1, i1, e1, r1, w1, g1⟩ := freshO (f_slices_Clone_string x.Pre (Nat.le_trans b3.1 (by omega))) ([] : List Entry) (mapO_canon [.one (strsC x.Pre)] _ _)
  have hs : Sp (Rep ([] ++ E1) true true 2) (i1 ++ []) [Cell.int x.A, Cell.int x.B, Cell.int x.C, c1] x.tr :=
    by
    unfold MVer.tr
    exact Sp.cons (i := []) (leaf_reps _) (Sp.cons (i := []) (leaf_reps _) (Sp.cons (i := []) (leaf_reps _) (Sp.cons r1 .nil)))
  refine Fresh.agg (run_impl_copyVer_of 0 ?_) (g1 good_nil) hs (Mine.app w1 (Mine.nil (Nat.le_refl _))).nd
  simp only [impl_copyVer, e1, callS_canon, callL_canon, Option.map_some, Option.bind_some, shape_one, shape_agg, shape_nil, cellsAt_0, cellsAt_1, cellsAt_2, cellsAt_3, cells_one, cells_agg, cB_zero, cI_zero, cS_zero, cC_zero, cB_cons, cI_cons, cS_cons, cC_cons, cond_true, cond_false, List.length_cons, List.length_nil, beq_self_eq_true, Bool.and_true, Bool.true_and, lenC_encL, lenC_lst, deref_ref, emptyK_nil, bs_size, bs_toList]
theorem c_spec_l3Copy (x : MVer) (hx : x.Bd 1048576) : outL run_spec_l3Copy [.agg [Cell.int x.A, Cell.int x.B, Cell.int x.C, strsC x.Pre]] = some [.agg [Cell.int x.A, Cell.int x.B, Cell.int x.C, strsC x.Pre]] := by
  obtain ⟨b0, b1, b2, b3⟩ := hx
  have l1 := b3.1
  have hs : ∀ (xs : List Str) H, srcRows H 1 (strsC xs) = some (xs.map eStr) := fun xs H => by simp [srcRows, rowsOf, encL]
  obtain ⟨c1, E1, i1, e1, r1, w1, g1⟩ := clone_rep (sz := 1) (by' := 16) (e := eStr) (tr := trStr) ([] : List Entry) x.Pre (fun _ _ => rfl) (fun _ _ _ => Sp.leaf1 _) (by unfold bound; omega) (by unfold bound; omega)
  have hs' : Sp (Rep ([] ++ E1) true true 2) (i1 ++ []) [Cell.int x.A, Cell.int x.B, Cell.int x.C, c1] x.tr :=
    by
    unfold MVer.tr
    exact Sp.cons (i := []) (leaf_reps _) (Sp.cons (i := []) (leaf_reps _) (Sp.cons (i := []) (leaf_reps _) (Sp.cons r1 .nil)))
  refine outL_of (H := [] ++ E1) (xs := [.agg [Cell.int x.A, Cell.int x.B, Cell.int x.C, c1]]) (run_spec_l3Copy_of 0 ?_) ?_
  · simp only [spec_l3Copy, hs, e1, callS_canon, callL_canon, Option.map_some, Option.bind_some, shape_one, shape_agg, shape_nil, cellsAt_0, cellsAt_1, cellsAt_2, cellsAt_3, cells_one, cells_agg, cB_zero, cI_zero, cS_zero, cC_zero, cB_cons, cI_cons, cS_cons, cC_cons, cond_true, cond_false, List.length_cons, List.length_nil, beq_self_eq_true, Bool.and_true, Bool.true_and, lenC_encL, lenC_lst, deref_ref, emptyK_nil, bs_size, bs_toList]
  · have := mapO_c (reify_agg hs' (by omega)) (mapO_nil' (reifyAV false ([] ++ E1)))
    simpa only [MVer.tr, List.map_cons, List.map_nil, leaf_cell, trL_cell] using this
def m_PickOf (l : List MPick) (s : Str) : MVer × Bool := match l.find? (fun p => p.Name == s) with
  | some p => (p.V, true)
  | none => (⟨0, 0, 0, []⟩, false)
theorem b_PickOf (l : List MPick) (hl : bdL 1048576 (MPick.Bd 1048576) l) (s : Str) (hs : bdS 1048576 s) : (m_PickOf l s).1.Bd 1048576 := by
  unfold m_PickOf
  split
  · rename_i r h
    exact (hl.2 r (List.mem_of_find?_eq_some h)).2
  · exact ⟨by simp [bdI], by simp [bdI], by simp [bdI], ⟨by simp, by simp⟩⟩
theorem cnt_PickOf (l : List MPick) (hl : bdL 1048576 (MPick.Bd 1048576) l) (s : Str) (hs : bdS 1048576 s) : (m_PickOf l s).1.cntA ≤ 1099511627776 := by
  obtain ⟨_, _, _, b1⟩ := b_PickOf l hl s hs
  have h1 := b1.1
  simp only [MVer.cntA, cntL_one1]
  omega
theorem c_spec_PickOf (l : List MPick) (hl : bdL 1048576 (MPick.Bd 1048576) l) (s : Str) (hs : bdS 1048576 s) : outL run_spec_PickOf [.one (encL 5 MPick.enc l), .one (Cell.str (bs s))] = some [.agg [Cell.int (m_PickOf l s).1.A, Cell.int (m_PickOf l s).1.B, Cell.int (m_PickOf l s).1.C, strsC (m_PickOf l s).1.Pre], .one (Cell.bool (m_PickOf l s).2)] := by
  have hM := maxLen_eq
  have hxl := hl.1
  have loop : ∀ (r : List MPick) (i n : Nat), l.drop i = r → r.length < n → (∀ x ∈ r, x.Bd 1048576) → ∀ k m, ∃ ys, spec_PickOf_l0 k m n (encL 5 MPick.enc l) (bs s) i = some (ys, []) ∧
      mapO (reifyAV false []) ys = some [.agg [Cell.int (m_PickOf r s).1.A, Cell.int (m_PickOf r s).1.B, Cell.int (m_PickOf r s).1.C, strsC (m_PickOf r s).1.Pre], .one (Cell.bool (m_PickOf r s).2)] := by
    intro r
    induction r with
    | nil =>
      intro i n hd hn hb k m
      obtain ⟨n, rfl⟩ : ∃ j, n = j + 1 := ⟨n - 1, by omega⟩
      have := drop_nil hd
      refine ⟨_, by simp only [spec_PickOf_l0, lenC_encL, Option.bind_some]; rw [decide_eq_false (by omega), cond_false], ?_⟩
      rfl
    | cons x r ih =>
      intro i n hd hn hb k m
      obtain ⟨n, rfl⟩ : ∃ j, n = j + 1 := ⟨n - 1, by omega⟩
      obtain ⟨hlt, hg, hd'⟩ := drop_cons hd
      simp only [List.length_cons] at hn
      have hx := hb x List.mem_cons_self
      by_cases e : x.Name = s
      · have hm : m_PickOf (x :: r) s = (x.V, true) := by simp [m_PickOf, e]
        refine ⟨_, ?_, mapO_canon [.agg [Cell.int x.V.A, Cell.int x.V.B, Cell.int x.V.C, strsC x.V.Pre], .one (Cell.bool true)] _ _ |>.trans (by rw [hm])⟩
        simp only [spec_PickOf_l0, lenC_encL, idxA_encL, hg, MPick.enc, c_spec_l3Copy x.V hx.2, fldA_ref, Nat.zero_add, callS_canon, callL_canon, Option.map_some, Option.bind_some, shape_one, shape_agg, shape_nil, cellsAt_0, cellsAt_1, cellsAt_2, cellsAt_3, cells_one, cells_agg, cB_zero, cI_zero, cS_zero, cC_zero, cB_cons, cI_cons, cS_cons, cC_cons, cond_true, cond_false, List.length_cons, List.length_nil, beq_self_eq_true, Bool.and_true, Bool.true_and, lenC_encL, lenC_lst, deref_ref, emptyK_nil, bs_size, bs_toList]
        rw [decide_eq_true (by omega), cond_true, show (x.Name == s) = true by simpa using e, cond_true]
      · have hm : m_PickOf (x :: r) s = m_PickOf r s := by simp [m_PickOf, e]
        obtain ⟨ys, h1, h2⟩ := ih (i + 1) n hd' (by omega) (fun y hy => hb y (List.mem_cons_of_mem _ hy)) k m
        refine ⟨ys, ?_, by rw [hm]; exact h2⟩
        simp only [spec_PickOf_l0, lenC_encL, idxA_encL, hg, MPick.enc, fldA_ref, Nat.zero_add, callS_canon, callL_canon, Option.map_some, Option.bind_some, shape_one, shape_agg, shape_nil, cellsAt_0, cellsAt_1, cellsAt_2, cellsAt_3, cells_one, cells_agg, cB_zero, cI_zero, cS_zero, cC_zero, cB_cons, cI_cons, cS_cons, cC_cons, cond_true, cond_false, List.length_cons, List.length_nil, beq_self_eq_true, Bool.and_true, Bool.true_and, lenC_encL, lenC_lst, deref_ref, emptyK_nil, bs_size, bs_toList]
        rw [decide_eq_true (by omega), cond_true, show (x.Name == s) = false by simpa using e, cond_false, wrap_succ (by omega)]
        exact h1
  obtain ⟨ys, h1, h2⟩ := loop l 0 (l.length + 1 + 1) rfl (by omega) hl.2 (l.length + 1 + 1) (l.length + 1 + 1)
  refine outL_of (H := []) (run_spec_PickOf_of (l.length + 1) ?_) h2
  simpa [spec_PickOf] using h1
theorem c_impl_pickAt (l : List MPick) (hl : l.length ≤ 1073741824) (s : Str) : out run_impl_pickAt [.one (encL 5 MPick.enc l), .one (Cell.str (bs s))] = some [.one (Cell.int (idxF (fun p => p.Name == s) l 0))] := by
  have hM := maxLen_eq
  have hc : ∀ x : MPick, run_impl_pickAt_1 [.agg [Cell.str (bs x.Name), Cell.int x.V.A, Cell.int x.V.B, Cell.int x.V.C, strsC x.V.Pre], .one (.ptr 0 1 0 0 0)] [Entry.mk 1 [[Cell.str (bs s)]] 0 false] = some ([.one (Cell.bool (x.Name == s))], [Entry.mk 1 [[Cell.str (bs s)]] 0 false]) := by
    intro x
    refine run_impl_pickAt_1_of 0 ?_
    simp [impl_pickAt_1, deref, entry?, cS]
  have loop : ∀ (r : List MPick) (i n : Nat), l.drop i = r → r.length < n → ∀ k m, slices_IndexFunc_Pick_impl_pickAt_1_l0 k m n (encL 5 MPick.enc l) (.ptr 0 1 0 0 0) l.length i [Entry.mk 1 [[Cell.str (bs s)]] 0 false] = some ([.one (Cell.int (idxF (fun p => p.Name == s) r i))], [Entry.mk 1 [[Cell.str (bs s)]] 0 false]) := by
    intro r
    induction r with
    | nil =>
      intro i n hd hn k m
      obtain ⟨n, rfl⟩ : ∃ j, n = j + 1 := ⟨n - 1, by omega⟩
      have := drop_nil hd
      simp only [slices_IndexFunc_Pick_impl_pickAt_1_l0]
      rw [decide_eq_false (by omega), cond_false]
      rfl
    | cons x r ih =>
      intro i n hd hn k m
      obtain ⟨n, rfl⟩ : ∃ j, n = j + 1 := ⟨n - 1, by omega⟩
      obtain ⟨hlt, hg, hd'⟩ := drop_cons hd
      simp only [List.length_cons] at hn
      simp only [slices_IndexFunc_Pick_impl_pickAt_1_l0, idxA_encL, hg, MPick.enc, hc, Nat.zero_add, callS_canon, callL_canon, Option.map_some, Option.bind_some, shape_one, shape_agg, shape_nil, cellsAt_0, cellsAt_1, cellsAt_2, cellsAt_3, cells_one, cells_agg, cB_zero, cI_zero, cS_zero, cC_zero, cB_cons, cI_cons, cS_cons, cC_cons, cond_true, cond_false, List.length_cons, List.length_nil, beq_self_eq_true, Bool.and_true, Bool.true_and, lenC_encL, lenC_lst, deref_ref, emptyK_nil, bs_size, bs_toList]
      rw [decide_eq_true (by omega), cond_true, wrap_succ (by omega), ih (i + 1) n hd' (by omega)]
      simp only [idxF]
      cases x.Name == s <;> rfl
  refine out_of (H := [Entry.mk 1 [[Cell.str (bs s)]] 0 false]) (run_impl_pickAt_of 0 ?_)
  have h := run_slices_IndexFunc_Pick_impl_pickAt_1_of (c1 := encL 5 MPick.enc l) (q2 := .ptr 0 1 0 0 0) (H := [Entry.mk 1 [[Cell.str (bs s)]] 0 false]) (l.length + 1) (by
    simpa [slices_IndexFunc_Pick_impl_pickAt_1] using loop l 0 (l.length + 1 + 1) rfl (by omega) (l.length + 1 + 1) (l.length + 1 + 1))
  simp only [impl_pickAt, h, callS_canon, callL_canon, Option.map_some, Option.bind_some, shape_one, shape_agg, shape_nil, cellsAt_0, cellsAt_1, cellsAt_2, cellsAt_3, cells_one, cells_agg, cB_zero, cI_zero, cS_zero, cC_zero, cB_cons, cI_cons, cS_cons, cC_cons, cond_true, cond_false, List.length_cons, List.length_nil, beq_self_eq_true, Bool.and_true, Bool.true_and, lenC_encL, lenC_lst, deref_ref, emptyK_nil, bs_size, bs_toList]
theorem f_impl_PickOf (l : List MPick) (hl : bdL 1048576 (MPick.Bd 1048576) l) (s : Str) (hs : bdS 1048576 s) : Fresh run_impl_PickOf true 2 [.one (encL 5 MPick.enc l), .one (Cell.str (bs s))] [.agg (m_PickOf l s).1.tr, .one (.leaf (.bool (m_PickOf l s).2))] := by
  have hM := maxLen_eq
  have hxl := hl.1
  rcases idxF_find (fun p : MPick => p.Name == s) l 0 with ⟨h1, h2⟩ | ⟨j, x, h1, h2, h3⟩
  · have hm : m_PickOf l s = (⟨0, 0, 0, []⟩, false) := by simp [m_PickOf, h2]
    rw [hm]
    refine Fresh.agg1 (n := 1) (cs := [Cell.int 0, Cell.int 0, Cell.int 0, .lst true 1 []]) (H := []) (ids := []) (run_impl_PickOf_of 0 ?_) good_nil ?_ (by simp)
    · simp only [impl_PickOf, c_impl_pickAt l (by omega) s, h1, callS_canon, callL_canon, Option.map_some, Option.bind_some, shape_one, shape_agg, shape_nil, cellsAt_0, cellsAt_1, cellsAt_2, cellsAt_3, cells_one, cells_agg, cB_zero, cI_zero, cS_zero, cC_zero, cB_cons, cI_cons, cS_cons, cC_cons, cond_true, cond_false, List.length_cons, List.length_nil, beq_self_eq_true, Bool.and_true, Bool.true_and, lenC_encL, lenC_lst, deref_ref, emptyK_nil, bs_size, bs_toList]
      rfl
    · exact .cons (i := []) (is := []) ⟨rfl, rfl⟩ (.cons (i := []) (is := []) ⟨rfl, rfl⟩ (.cons (i := []) (is := []) ⟨rfl, rfl⟩ (.cons (i := []) (is := []) (.inl ⟨rfl, rfl, true, rfl⟩) .nil)))
  · have hm : m_PickOf l s = (x.V, true) := by simp [m_PickOf, h3]
    have hx := hl.2 x (List.mem_of_getElem? h2)
    obtain ⟨cs, E, ids, e1, r1, w1, g1⟩ := freshA (f_impl_copyVer x.V hx.2) [] (mapO_canon [.agg [Cell.int x.V.A, Cell.int x.V.B, Cell.int x.V.C, strsC x.V.Pre]] _ _)
    obtain ⟨c1, rfl⟩ := MVer.open r1
    rw [hm]
    refine Fresh.agg1 (n := 1) (run_impl_PickOf_of 0 ?_) (g1 good_nil) r1 w1.nd
    simp only [impl_PickOf, c_impl_pickAt l (by omega) s, h1, callS_canon, callL_canon, Option.map_some, Option.bind_some, shape_one, shape_agg, shape_nil, cellsAt_0, cellsAt_1, cellsAt_2, cellsAt_3, cells_one, cells_agg, cB_zero, cI_zero, cS_zero, cC_zero, cB_cons, cI_cons, cS_cons, cC_cons, cond_true, cond_false, List.length_cons, List.length_nil, beq_self_eq_true, Bool.and_true, Bool.true_and, lenC_encL, lenC_lst, deref_ref, emptyK_nil, bs_size, bs_toList]
    rw [decide_eq_false (by omega), cond_false, Nat.zero_add]
    simp only [idxA_encL, h2, MPick.enc, fldA_ref, e1, Nat.zero_add, callS_canon, callL_canon, Option.map_some, Option.bind_some, shape_one, shape_agg, shape_nil, cellsAt_0, cellsAt_1, cellsAt_2, cellsAt_3, cells_one, cells_agg, cB_zero, cI_zero, cS_zero, cC_zero, cB_cons, cI_cons, cS_cons, cC_cons, cond_true, cond_false, List.length_cons, List.length_nil, beq_self_eq_true, Bool.and_true, Bool.true_and, lenC_encL, lenC_lst, deref_ref, emptyK_nil, bs_size, bs_toList]

end Go.Ev
