/- What the functions come to (usedby). Conditions: none. -/
import Derived.Test.YtiocamjonchabaaKsorted
set_option linter.unusedSimpArgs false
set_option linter.unusedVariables false
namespace Go.Ev
open Go
/-- The names that lean on a name. -/
def byOf (names : List Str) (next : List (List Str)) (s : Str) : List Str := ((names.zip next).filter fun p => p.2.contains s).map (·.1)
theorem gm_by {H : List Entry} {ids : List Nat} {g : Nat} {names : List Str} {next : List (List Str)} (h : GraphM H ids g names next) (h1 : names.length ≤ 1048576) (h3 : ∀ d ∈ next, d.length ≤ 1073741824) (s : Str) :
    ∃ c T, run_impl_graph_by [.one (.ptr g 2 0 0 0), .one (Cell.str (bs s))] H = some ([.one c], H ++ T) ∧ GrowAt H.length 1 c T ((byOf names next s).map eStr) := by
  have hM := maxLen_eq
  have hG : ∀ T, GraphM (H ++ T) ids g names next := fun T => h.app (fun j hj => by rw [List.getElem?_append_left (h.lt j hj)]) (by simp)
  obtain ⟨_, hlt, hlen, cn, co, fr, he, hn, ho⟩ := h
  have hgl : g < H.length := (List.getElem?_eq_some_iff.1 he).1
  have d0 : ∀ T, deref (H ++ T) (.ptr g 2 0 0 0) = some ([cn, co], 0) := fun T => by simp [deref, entry?, List.getElem?_append_left hgl, he]
  have d1 : deref H (.ptr g 2 0 1 0) = some ([cn, co], 1) := by simp [deref, entry?, he]
  have fr' : ∀ (T : List Entry), ∀ j ∈ ids, (H ++ T)[j]? = H[j]? := fun T j hj => List.getElem?_append_left (hlt j hj)
  have loop : ∀ (r : List (Str × List Str)) (i n : Nat) (acc : List Str) (c : Cell) (T : List Entry), (names.zip next).drop i = r → r.length < n → acc.length ≤ i → GrowAt H.length 1 c T (acc.map eStr) → ∀ k m,
      ∃ c' T', impl_graph_by_l0 k m n (.ptr g 2 0 0 0) (bs s) c co next.length i (H ++ T) = some ([.one c'], H ++ T') ∧ GrowAt H.length 1 c' T' ((acc ++ (r.filter fun p => p.2.contains s).map (·.1)).map eStr) := by
    intro r
    induction r with
    | nil =>
      intro i n acc c T hd hn' ha hg k m
      obtain ⟨n, rfl⟩ : ∃ j, n = j + 1 := ⟨n - 1, by omega⟩
      have := drop_nil hd
      simp only [List.length_zip] at this
      refine ⟨c, T, ?_, by simpa using hg⟩
      simp only [impl_graph_by_l0]
      rw [decide_eq_false (by omega), cond_false]
    | cons x r ih =>
      intro i n acc c T hd hn' ha hg k m
      obtain ⟨n, rfl⟩ : ∃ j, n = j + 1 := ⟨n - 1, by omega⟩
      obtain ⟨hlt', hx, hd'⟩ := drop_cons hd
      simp only [List.length_cons] at hn'
      simp only [List.length_zip] at hlt'
      obtain ⟨nm, d⟩ := x
      obtain ⟨hxn, hxd⟩ : names[i]? = some nm ∧ next[i]? = some d := by
        rw [List.getElem?_zip_eq_some] at hx
        exact hx
      obtain ⟨a, dc, i1, i2, i3⟩ := (ho.frame (fr' T)).at hxd
      have q1 : callS run_slices_Contains_string [.one dc, .one (Cell.str (bs s))] (H ++ T) = some [.one (Cell.bool (d.contains s))] := by
        rw [callS_of (mapO_c i3.read (mapO_c (reifyAV_canon _ _ _) (mapO_nil' _)))]
        exact c_slices_Contains_string d s (h3 d (List.mem_of_getElem? hxd))
      simp only [impl_graph_by_l0]
      rw [decide_eq_true (by omega), cond_true]
      simp only [i1, i2, q1, wrap_succ (show i < maxLen by omega), callS_canon, callL_canon, Option.map_some, Option.bind_some, shape_one, shape_agg, shape_nil, cellsAt_0, cellsAt_1, cellsAt_2, cellsAt_3, cells_one, cells_agg, cB_zero, cI_zero, cS_zero, cC_zero, cB_cons, cI_cons, cS_cons, cC_cons, cond_true, cond_false, List.length_cons, List.length_nil, beq_self_eq_true, Bool.and_true, Bool.true_and, lenC_encL, lenC_lst, deref_ref, emptyK_nil, bs_size, bs_toList]
      cases hc : d.contains s with
      | false =>
        rw [cond_false]
        obtain ⟨c', T', z1, z2⟩ := ih (i + 1) n acc c T hd' (by omega) (by omega) hg k m
        have hf : ((nm, d) :: r).filter (fun p => p.2.contains s) = r.filter fun p => p.2.contains s := by simp only [List.filter_cons, hc]; rfl
        exact ⟨c', T', z1, by rw [hf]; exact z2⟩
      | true =>
        rw [cond_true]
        obtain ⟨a2, row, off, j1, j2, j3⟩ := (hn.frame (fr' T)).at hxn
        obtain ⟨c1, T1, a1, g1⟩ := app_at (A := H) (by' := 16) hg (eStr nm) (by simp [bound]; omega) (by simp [bound]; omega)
        have hrow : acc.map eStr ++ [eStr nm] = (acc ++ [nm]).map eStr := by simp
        rw [hrow] at g1
        obtain ⟨c', T', z1, z2⟩ := ih (i + 1) n (acc ++ [nm]) c1 T1 hd' (by omega) (by simp; omega) g1 k m
        have hf : ((nm, d) :: r).filter (fun p => p.2.contains s) = (nm, d) :: r.filter fun p => p.2.contains s := by simp only [List.filter_cons, hc]; rfl
        refine ⟨c', T', ?_, by rw [hf, List.map_cons, List.append_cons]; exact z2⟩
        simp only [eStr] at a1
        simp only [ptrC, fldA_ptr, Nat.zero_add, d0, cC_zero, j1, j2, j3, a1, Option.bind_some]
        exact z1
  obtain ⟨c, T, z1, z2⟩ := loop (names.zip next) 0 (next.length + 1 + 1) [] (.lst true 1 []) [] rfl (by simp; omega) (by simp) (.inl ⟨rfl, rfl, rfl⟩) (next.length + 1 + 1) (next.length + 1 + 1)
  refine ⟨c, T, run_impl_graph_by_of (next.length + 1) ?_, z2⟩
  rw [List.append_nil] at z1
  simp only [impl_graph_by, ptrC, fldA_ptr, Nat.zero_add, d1, cC_cons, cC_zero, ho.len, Option.bind_some]
  exact z1
def byNames (l : List MPack) (s : Str) : List Str := (l.filter fun p => p.Uses.contains s).map (·.Name)
def m_UsedBy (l : List MPack) (s : Str) : List Str := sortedU (byNames l s)
theorem b_UsedBy (l : List MPack) (hl : bdL 1048576 (MPack.Bd 1048576) l) (s : Str) (hs : bdS 1048576 s) : bdL 1048576 (bdS 1048576) (m_UsedBy l s) := by
  have h1 := hl.1
  refine ⟨Nat.le_trans (sortedU_le _) (Nat.le_trans (by simp only [byNames, List.length_map]; exact List.length_filter_le _ _) h1), fun x hx => ?_⟩
  have hx := ((sortedU_spec _).2 x).1 hx
  obtain ⟨p, hp, rfl⟩ := List.mem_map.1 hx
  exact (hl.2 p (List.mem_filter.1 hp).1).1
theorem cnt_UsedBy (l : List MPack) (hl : bdL 1048576 (MPack.Bd 1048576) l) (s : Str) (hs : bdS 1048576 s) : cntL one1 (m_UsedBy l s) ≤ 1099511627776 := by
  rw [cntL_one1]
  have := (b_UsedBy l hl s hs).1
  omega
theorem c_spec_UsedBy (l : List MPack) (hl : bdL 1048576 (MPack.Bd 1048576) l) (s : Str) (hs : bdS 1048576 s) : outL run_spec_UsedBy [.one (encL 4 MPack.enc l), .one (Cell.str (bs s))] = some [.one (strsC (m_UsedBy l s))] := by
  have hM := maxLen_eq
  have hxl := hl.1
  have hbl : (byNames l s).length ≤ 1048576 := Nat.le_trans (by simp only [byNames, List.length_map]; exact List.length_filter_le _ _) hxl
  have loop : ∀ (r : List MPack) (i n : Nat) (acc : List Str) (c : Cell) (H : List Entry), l.drop i = r → r.length < n → acc.length ≤ i → Grow 1 c H (acc.map eStr) → acc ++ byNames r s = byNames l s → ∀ k m,
      ∃ xs H', spec_UsedBy_l0 k m n (encL 4 MPack.enc l) (bs s) c i H = some (xs, H') ∧ mapO (reifyAV false H') xs = some [.one (strsC (m_UsedBy l s))] := by
    intro r
    induction r with
    | nil =>
      intro i n acc c H hd hn ha hg he k m
      obtain ⟨n, rfl⟩ : ∃ j, n = j + 1 := ⟨n - 1, by omega⟩
      have := drop_nil hd
      have he : acc = byNames l s := by simpa [byNames] using he
      subst he
      obtain ⟨ids, r1, r2, _⟩ := hg.rep (tr := trStr) (fun _ _ => rfl) (fun x _ H' => Sp.leaf1 _)
      obtain ⟨H1, _, e1⟩ := callL_reps (run := run_spec_Sorted) (n := 2) (by omega) (Sp.cons (a := AV.one c) (b := AT.one (trL 1 trStr (byNames l s))) r1 .nil)
      have e2 : callL run_spec_Sorted [.one c] H = some ([.one (strsC (m_UsedBy l s))], H1) := by
        rw [e1]
        simp only [List.map_cons, List.map_nil, AT.av, trL_cell]
        rw [c_spec_Sorted _ (by omega)]
        rfl
      refine ⟨[.one (strsC (m_UsedBy l s))], H1, ?_, mapO_canon _ _ _⟩
      simp only [spec_UsedBy_l0, lenC_encL, Option.bind_some]
      rw [decide_eq_false (by omega), cond_false]
      simp only [e2, callS_canon, callL_canon, Option.map_some, Option.bind_some, shape_one, shape_agg, shape_nil, cellsAt_0, cellsAt_1, cellsAt_2, cellsAt_3, cells_one, cells_agg, cB_zero, cI_zero, cS_zero, cC_zero, cB_cons, cI_cons, cS_cons, cC_cons, cond_true, cond_false, List.length_cons, List.length_nil, beq_self_eq_true, Bool.and_true, Bool.true_and, lenC_encL, lenC_lst, deref_ref, emptyK_nil, bs_size, bs_toList]
    | cons x r ih =>
      intro i n acc c H hd hn ha hg he k m
      obtain ⟨n, rfl⟩ : ∃ j, n = j + 1 := ⟨n - 1, by omega⟩
      obtain ⟨hlt, hx, hd'⟩ := drop_cons hd
      simp only [List.length_cons] at hn
      have hb := hl.2 x (List.mem_of_getElem? hx)
      have q1 : out run_spec_l1Has [.one (encL 1 eStr x.Uses), .one (Cell.str (bs s))] = some [.one (Cell.bool (x.Uses.contains s))] := c_spec_l1Has x.Uses s (Nat.le_trans hb.2.1.1 (by omega))
      simp only [spec_UsedBy_l0, lenC_encL, Option.bind_some]
      rw [decide_eq_true (by omega), cond_true]
      simp only [idxA_encL, hx, MPack.enc, fldA_ref, Nat.zero_add, q1, wrap_succ (show i < maxLen by omega), callS_canon, callL_canon, Option.map_some, Option.bind_some, shape_one, shape_agg, shape_nil, cellsAt_0, cellsAt_1, cellsAt_2, cellsAt_3, cells_one, cells_agg, cB_zero, cI_zero, cS_zero, cC_zero, cB_cons, cI_cons, cS_cons, cC_cons, cond_true, cond_false, List.length_cons, List.length_nil, beq_self_eq_true, Bool.and_true, Bool.true_and, lenC_encL, lenC_lst, deref_ref, emptyK_nil, bs_size, bs_toList]
      cases hc : x.Uses.contains s with
      | false =>
        rw [cond_false]
        exact ih (i + 1) n acc c H hd' (by omega) (by omega) hg (by rw [← he]; simp only [byNames, List.filter_cons, hc]; rfl) k m
      | true =>
        rw [cond_true]
        obtain ⟨q, e1, e2⟩ := hg.app (by' := 16) [[Cell.str (bs x.Name)]] (by unfold bound; simp; omega) (by unfold bound; simp; omega)
        simp only [e1, Option.bind_some]
        exact ih (i + 1) n (acc ++ [x.Name]) q.1 q.2 hd' (by omega) (by simp; omega) (by simpa [eStr] using e2) (by rw [← he]; simp only [byNames, List.filter_cons, hc, if_true, List.map_cons, List.append_assoc, List.singleton_append]) k m
  obtain ⟨xs, H', z1, z2⟩ := loop l 0 (l.length + 1 + 1) [] (.lst true 1 []) [] rfl (by omega) (by simp) (Grow.nil 1) (by simp) (l.length + 1 + 1) (l.length + 1 + 1)
  refine outL_of (H := H') (run_spec_UsedBy_of (l.length + 1) ?_) z2
  simpa [spec_UsedBy] using z1
theorem f_impl_UsedBy (l : List MPack) (hl : bdL 1048576 (MPack.Bd 1048576) l) (s : Str) (hs : bdS 1048576 s) : Fresh run_impl_UsedBy true 2 [.one (encL 4 MPack.enc l), .one (Cell.str (bs s))] [.one (trL 1 trStr (m_UsedBy l s))] := by
  have h1 := hl.1
  have hbl : (byNames l s).length ≤ 1048576 := Nat.le_trans (by simp only [byNames, List.length_map]; exact List.length_filter_le _ _) h1
  have hby : byOf (l.map (·.Name)) (l.map (·.Uses)) s = byNames l s := by
    unfold byOf byNames
    rw [List.zip_map', List.filter_map, List.map_map]
    rfl
  obtain ⟨H, g1, e1⟩ := g_impl_graphOf l hl
  obtain ⟨ids, hG⟩ := g1.graph (by simp)
  obtain ⟨c, T, e2, g2⟩ := gm_by hG (by simpa using h1) (packs_next hl) s
  rw [hby] at g2
  obtain ⟨is, r1, r2, _⟩ := g2.list
  refine Fresh.tailO (f_impl_Sorted (byNames l s) (by omega)) (H ++ T) (mapO_c (ListM.of (n := 2) r1).read (mapO_nil' _)) fun c' E hc => run_impl_UsedBy_of 0 ?_
  simp only [impl_UsedBy, e1, e2, hc, callS_canon, callL_canon, Option.map_some, Option.bind_some, shape_one, shape_agg, shape_nil, cellsAt_0, cellsAt_1, cellsAt_2, cellsAt_3, cells_one, cells_agg, cB_zero, cI_zero, cS_zero, cC_zero, cB_cons, cI_cons, cS_cons, cC_cons, cond_true, cond_false, List.length_cons, List.length_nil, beq_self_eq_true, Bool.and_true, Bool.true_and, lenC_encL, lenC_lst, deref_ref, emptyK_nil, bs_size, bs_toList]

end Go.Ev
