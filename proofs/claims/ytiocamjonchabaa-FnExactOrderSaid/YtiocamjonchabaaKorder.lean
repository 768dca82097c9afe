/- What the functions come to (order). Conditions: none. -/
import Derived.Test.YtiocamjonchabaaKwanted
set_option linter.unusedSimpArgs false
set_option linter.unusedVariables false
namespace Go.Ev
open Go
/-- What a name leans on is in order already, or is no name. -/
def readyB (names : List Str) (next : List (List Str)) (s : Str) (done : List Str) : Bool := (nextOf names next s).all fun x => !(names.contains x && !done.contains x)
def freeB (names : List Str) (next : List (List Str)) (done : List Str) (s : Str) : Bool := !done.contains s && readyB names next s done
def orderGo (names : List Str) (next : List (List Str)) : Nat → List Str → List Str × Bool
  | 0, o => (o, true)
  | d + 1, o => match names.find? (freeB names next o) with
    | some s => orderGo names next d (o ++ [s])
    | none => ([], false)
def orderOf (names : List Str) (next : List (List Str)) : List Str × Bool := orderGo names next names.length []
theorem orderGo_le (names : List Str) (next : List (List Str)) : ∀ (d : Nat) (o : List Str), (orderGo names next d o).1.length ≤ d + o.length ∧ ∀ x ∈ (orderGo names next d o).1, x ∈ o ∨ x ∈ names := by
  intro d
  induction d with
  | zero => intro o; exact ⟨by simp [orderGo], fun x hx => .inl hx⟩
  | succ d ih =>
    intro o
    simp only [orderGo]
    split
    · rename_i s hs
      obtain ⟨h1, h2⟩ := ih (o ++ [s])
      refine ⟨by simp at h1; omega, fun x hx => ?_⟩
      rcases h2 x hx with h | h
      · rcases List.mem_append.1 h with h | h
        · exact .inl h
        · simp only [List.mem_singleton] at h
          subst h
          exact .inr (List.mem_of_find?_eq_some hs)
      · exact .inr h
    · exact ⟨by simp, by simp⟩
theorem orderOf_le (names : List Str) (next : List (List Str)) : (orderOf names next).1.length ≤ names.length ∧ ∀ x ∈ (orderOf names next).1, x ∈ names := by
  obtain ⟨h1, h2⟩ := orderGo_le names next names.length []
  exact ⟨by simpa [orderOf] using h1, fun x hx => (h2 x hx).resolve_left (by simp)⟩
theorem nextOf_le {names : List Str} {next : List (List Str)} (h : ∀ d ∈ next, d.length ≤ 1073741824) (s : Str) : (nextOf names next s).length ≤ 1073741824 := by
  unfold nextOf
  split
  · simp
  · cases hd : next[(idxS s names 0).toNat]? with
    | none => simp
    | some d => exact h d (List.mem_of_getElem? hd)
theorem c_spec_l11Ready (names : List Str) (next : List (List Str)) (s : Str) (done : List Str) (h1 : names.length ≤ 1073741824) (h2 : names.length = next.length) (h3 : ∀ d ∈ next, d.length ≤ 1073741824) (h4 : done.length ≤ 1073741824) :
    out run_spec_l11Ready [.agg [strsC names, encL 1 eStrs next], .one (Cell.str (bs s)), .one (strsC done)] = some [.one (Cell.bool (readyB names next s done))] := by
  have hM := maxLen_eq
  have hN := nextOf_le (names := names) h3 s
  have loop : ∀ (r : List Str) (i n : Nat), (nextOf names next s).drop i = r → r.length < n → ∀ k m, spec_l11Ready_l0 k m n (strsC done) (strsC (nextOf names next s)) i (strsC names) (encL 1 eStrs next) [] = some ([.one (Cell.bool (r.all fun x => !(names.contains x && !done.contains x)))], []) := by
    intro r
    induction r with
    | nil =>
      intro i n hd hn k m
      obtain ⟨n, rfl⟩ : ∃ j, n = j + 1 := ⟨n - 1, by omega⟩
      have := drop_nil hd
      simp only [spec_l11Ready_l0, lenC_encL, Option.bind_some]
      rw [decide_eq_false (by omega), cond_false]
      rfl
    | cons x r ih =>
      intro i n hd hn k m
      obtain ⟨n, rfl⟩ : ∃ j, n = j + 1 := ⟨n - 1, by omega⟩
      obtain ⟨hlt, hg, hd'⟩ := drop_cons hd
      simp only [List.length_cons] at hn
      simp only [spec_l11Ready_l0, lenC_encL, Option.bind_some]
      rw [decide_eq_true (by omega), cond_true]
      simp only [idxA_encL, hg, eStr, c_spec_l1Has done x h4, c_spec_l11At names _ x h1, idxS_ge, wrap_succ (show i < maxLen by omega), ih (i + 1) n hd' (by omega), callS_canon, callL_canon, Option.map_some, Option.bind_some, shape_one, shape_agg, shape_nil, cellsAt_0, cellsAt_1, cellsAt_2, cellsAt_3, cells_one, cells_agg, cB_zero, cI_zero, cS_zero, cC_zero, cB_cons, cI_cons, cS_cons, cC_cons, cond_true, cond_false, List.length_cons, List.length_nil, beq_self_eq_true, Bool.and_true, Bool.true_and, lenC_encL, lenC_lst, deref_ref, emptyK_nil, bs_size, bs_toList, List.all_cons]
      cases done.contains x <;> cases names.contains x <;> rfl
  refine out_of (H := []) (run_spec_l11Ready_of ((nextOf names next s).length + 1) ?_)
  have := loop (nextOf names next s) 0 ((nextOf names next s).length + 1 + 1) rfl (by omega) ((nextOf names next s).length + 1 + 1) ((nextOf names next s).length + 1 + 1)
  simp only [spec_l11Ready, c_spec_l11Next names next s h1 h2, callS_canon, callL_canon, Option.map_some, Option.bind_some, shape_one, shape_agg, shape_nil, cellsAt_0, cellsAt_1, cellsAt_2, cellsAt_3, cells_one, cells_agg, cB_zero, cI_zero, cS_zero, cC_zero, cB_cons, cI_cons, cS_cons, cC_cons, cond_true, cond_false, List.length_cons, List.length_nil, beq_self_eq_true, Bool.and_true, Bool.true_and, lenC_encL, lenC_lst, deref_ref, emptyK_nil, bs_size, bs_toList]
  exact this
theorem c_spec_l11Order (names : List Str) (next : List (List Str)) (h1 : names.length ≤ 1048576) (h2 : names.length = next.length) (h3 : ∀ d ∈ next, d.length ≤ 1073741824) :
    outL run_spec_l11Order [.agg [strsC names, encL 1 eStrs next]] = some [.one (strsC (orderOf names next).1), .one (Cell.bool (orderOf names next).2)] := by
  have hM := maxLen_eq
  have inner : ∀ (b : Cell → Cell → Cell → List Entry → Option Res) (o : List Str) (c : Cell) (H : List Entry), o.length ≤ 1073741824 → Grow 1 c H (o.map eStr) → ∀ (r : List Str) (i n : Nat), names.drop i = r → i ≤ names.length → r.length < n → ∀ k m,
      spec_l11Order_l1 k m b n c i (strsC names) (encL 1 eStrs next) H = match r.find? (freeB names next o) with
        | some s => (app H 1 16 c [[Cell.str (bs s)]]).bind fun p => b p.1 (strsC names) (encL 1 eStrs next) p.2
        | none => some ([.one (.lst true 1 []), .one (Cell.bool false)], H) := by
    intro b o c H ho hg r
    have hrd : reifyAV false H (.one c) = some (.one (strsC o)) := by
      have := hg.read
      simp only [mapO] at this
      cases h : reifyAV false H (.one c) with
      | none => rw [h] at this; simp at this
      | some y => rw [h] at this; simpa using this
    induction r with
    | nil =>
      intro i n hd h5 hn k m
      obtain ⟨n, rfl⟩ : ∃ j, n = j + 1 := ⟨n - 1, by omega⟩
      have h4 := drop_nil hd
      simp only [spec_l11Order_l1, lenC_encL, Option.bind_some]
      rw [decide_eq_false (by omega), cond_false, show ((i : Int) == (names.length : Int)) = true by simp; omega, cond_true]
      rfl
    | cons x r ih =>
      intro i n hd h5 hn k m
      obtain ⟨n, rfl⟩ : ∃ j, n = j + 1 := ⟨n - 1, by omega⟩
      obtain ⟨hlt, hx, hd'⟩ := drop_cons hd
      simp only [List.length_cons] at hn
      have q1 : callS run_spec_l1Has [.one c, .one (Cell.str (bs x))] H = some [.one (Cell.bool (o.contains x))] := by
        rw [callS_of (mapO_c hrd (mapO_c (reifyAV_canon _ _ _) (mapO_nil' _)))]
        exact c_spec_l1Has o x ho
      have q2 : callS run_spec_l11Ready [.agg [strsC names, encL 1 eStrs next], .one (Cell.str (bs x)), .one c] H = some [.one (Cell.bool (readyB names next x o))] := by
        rw [callS_of (mapO_c (reifyAV_canon _ _ _) (mapO_c (reifyAV_canon _ _ _) (mapO_c hrd (mapO_nil' _))))]
        exact c_spec_l11Ready names next x o (by omega) h2 h3 ho
      simp only [spec_l11Order_l1, lenC_encL, Option.bind_some]
      rw [decide_eq_true (by omega), cond_true]
      simp only [idxA_encL, hx, eStr, q1, q2, wrap_succ (show i < maxLen by omega), ih (i + 1) n hd' (by omega) (by omega), callS_canon, callL_canon, Option.map_some, Option.bind_some, shape_one, shape_agg, shape_nil, cellsAt_0, cellsAt_1, cellsAt_2, cellsAt_3, cells_one, cells_agg, cB_zero, cI_zero, cS_zero, cC_zero, cB_cons, cI_cons, cS_cons, cC_cons, cond_true, cond_false, List.length_cons, List.length_nil, beq_self_eq_true, Bool.and_true, Bool.true_and, lenC_encL, lenC_lst, deref_ref, emptyK_nil, bs_size, bs_toList]
      rw [show ((i : Int) == (names.length : Int)) = false by simp; omega, cond_false, List.find?_cons]
      simp only [freeB]
      cases o.contains x <;> cases readyB names next x o <;> rfl
  have loop : ∀ (d : Nat) (o : List Str) (c : Cell) (H : List Entry) (n : Nat), o.length + d = names.length → d < n → Grow 1 c H (o.map eStr) → ∀ k m, names.length < m →
      ∃ c' H', spec_l11Order_l0 k m n c (strsC names) (encL 1 eStrs next) H = some ([.one c', .one (Cell.bool (orderGo names next d o).2)], H') ∧ Grow 1 c' H' ((orderGo names next d o).1.map eStr) ∨
        ∃ H', spec_l11Order_l0 k m n c (strsC names) (encL 1 eStrs next) H = some ([.one (.lst true 1 []), .one (Cell.bool false)], H') ∧ orderGo names next d o = ([], false) := by
    intro d
    induction d with
    | zero =>
      intro o c H n hd hn hg k m hm
      obtain ⟨n, rfl⟩ : ∃ j, n = j + 1 := ⟨n - 1, by omega⟩
      refine ⟨c, H, .inl ⟨?_, hg⟩⟩
      have hlen : lenC c = some o.length := by
        rcases hg with ⟨h4, rfl, _⟩ | ⟨ep, rfl, _⟩
        · simp only [List.map_eq_nil_iff] at h4
          subst h4; rfl
        · simp
      simp only [spec_l11Order_l0, hlen, lenC_encL, Option.bind_some]
      rw [decide_eq_false (by omega), cond_false]
      rfl
    | succ d ih =>
      intro o c H n hd hn hg k m hm
      obtain ⟨n, rfl⟩ : ∃ j, n = j + 1 := ⟨n - 1, by omega⟩
      have hlen : lenC c = some o.length := by
        rcases hg with ⟨h4, rfl, _⟩ | ⟨ep, rfl, _⟩
        · simp only [List.map_eq_nil_iff] at h4
          subst h4; rfl
        · simp
      have hin := inner (spec_l11Order_l0 k m n) o c H (by omega) hg names 0 m rfl (by omega) hm k m
      simp only [spec_l11Order_l0, hlen, lenC_encL, Option.bind_some]
      rw [decide_eq_true (by omega), cond_true]
      simp only [orderGo]
      cases hf : names.find? (freeB names next o) with
      | none =>
        rw [hf] at hin
        exact ⟨c, H, .inr ⟨H, hin, rfl⟩⟩
      | some s =>
        rw [hf] at hin
        obtain ⟨q, e1, e2⟩ := hg.app (by' := 16) [[Cell.str (bs s)]] (by unfold bound; simp; omega) (by unfold bound; simp; omega)
        obtain ⟨c', H', h5⟩ := ih (o ++ [s]) q.1 q.2 n (by simp; omega) (by omega) (by simpa [eStr] using e2) k m hm
        refine ⟨c', H', ?_⟩
        have hin' : spec_l11Order_l1 k m (spec_l11Order_l0 k m n) m c 0 (strsC names) (encL 1 eStrs next) H = spec_l11Order_l0 k m n q.1 (strsC names) (encL 1 eStrs next) q.2 := by
          refine hin.trans ?_
          simp only [e1, Option.bind_some]
        rw [hin']
        exact h5
  obtain ⟨c', H', h5⟩ := loop names.length [] (.lst true 1 []) [] (names.length + 1 + 1) (by simp) (by omega) (Grow.nil 1) (names.length + 1 + 1) (names.length + 1 + 1) (by omega)
  rcases h5 with ⟨h5, h6⟩ | ⟨H', h5, h6⟩
  · refine outL_of (H := H') (run_spec_l11Order_of (names.length + 1) h5) ?_
    have := h6.read
    simp only [mapO] at this
    cases h : reifyAV false H' (.one c') with
    | none => rw [h] at this; simp at this
    | some y =>
      rw [h] at this
      simp only [Option.some.injEq, List.cons.injEq, and_true] at this
      subst this
      exact mapO_c h (mapO_c (reifyAV_canon _ _ _) (mapO_nil' _))
  · refine outL_of (H := H') (run_spec_l11Order_of (names.length + 1) h5) ?_
    unfold orderOf
    rw [h6]
    rfl
theorem gm_onOf {H : List Entry} {ids : List Nat} {g : Nat} {names : List Str} {next : List (List Str)} (h : GraphM H ids g names next) (h1 : names.length ≤ 1073741824) (s : Str) :
    ∃ d, run_impl_graph_onOf [.one (.ptr g 2 0 0 0), .one (Cell.str (bs s))] H = some ([.one d], H) ∧ ListM H ids d (nextOf names next s) := by
  obtain ⟨_, _, hlen, cn, co, fr, he, hn, ho⟩ := h
  have d0 : deref H (.ptr g 2 0 0 0) = some ([cn, co], 0) := by simp [deref, entry?, he]
  have d1 : deref H (.ptr g 2 0 1 0) = some ([cn, co], 1) := by simp [deref, entry?, he]
  have q1 : callS run_slices_Index_string [.one cn, .one (Cell.str (bs s))] H = some [.one (Cell.int (idxS s names 0))] := by
    rw [callS_of (mapO_c hn.read (mapO_c (reifyAV_canon _ _ _) (mapO_nil' _)))]
    exact c_slices_Index_string names s h1
  rcases idxS_nat s names 0 with ⟨e1, _⟩ | ⟨j, x, e1, e2⟩
  · refine ⟨.lst true 1 [], run_impl_graph_onOf_of 0 ?_, ?_⟩
    · simp only [impl_graph_onOf, ptrC, fldA_ptr, Nat.zero_add, d0, q1, e1, callS_canon, callL_canon, Option.map_some, Option.bind_some, shape_one, shape_agg, shape_nil, cellsAt_0, cellsAt_1, cellsAt_2, cellsAt_3, cells_one, cells_agg, cB_zero, cI_zero, cS_zero, cC_zero, cB_cons, cI_cons, cS_cons, cC_cons, cond_true, cond_false, List.length_cons, List.length_nil, beq_self_eq_true, Bool.and_true, Bool.true_and, lenC_encL, lenC_lst, deref_ref, emptyK_nil, bs_size, bs_toList]
      rfl
    · rw [nextOf, e1, if_pos (by omega)]
      exact .nil _ _
  · have hj := (List.getElem?_eq_some_iff.1 e2).1
    obtain ⟨d, hd⟩ : ∃ d, next[j]? = some d := ⟨next[j], List.getElem?_eq_getElem (by omega)⟩
    have e : nextOf names next s = d := by
      rw [nextOf, e1, if_neg (by omega)]
      simp [hd]
    rw [e]
    obtain ⟨a, dc, i1, i2, i3⟩ := ho.at hd
    refine ⟨dc, run_impl_graph_onOf_of 0 ?_, i3⟩
    simp only [impl_graph_onOf, ptrC, fldA_ptr, Nat.zero_add, d0, q1, e1, callS_canon, callL_canon, Option.map_some, Option.bind_some, shape_one, shape_agg, shape_nil, cellsAt_0, cellsAt_1, cellsAt_2, cellsAt_3, cells_one, cells_agg, cB_zero, cI_zero, cS_zero, cC_zero, cB_cons, cI_cons, cS_cons, cC_cons, cond_true, cond_false, List.length_cons, List.length_nil, beq_self_eq_true, Bool.and_true, Bool.true_and, lenC_encL, lenC_lst, deref_ref, emptyK_nil, bs_size, bs_toList]
    rw [decide_eq_false (by omega), cond_false]
    simp only [d1, cC_cons, cC_zero, i1, i2, Option.bind_some]
theorem gm_canBeNext {H : List Entry} {ids is : List Nat} {g : Nat} {names : List Str} {next : List (List Str)} (h : GraphM H ids g names next) (h1 : names.length ≤ 1073741824) (h3 : ∀ d ∈ next, d.length ≤ 1073741824) (s : Str) {c : Cell} {done : List Str} (hc : ListM H is c done) (h4 : done.length ≤ 1073741824) :
    run_impl_graph_canBeNext [.one (.ptr g 2 0 0 0), .one (Cell.str (bs s)), .one c] H = some ([.one (Cell.bool (readyB names next s done))], H) := by
  have hM := maxLen_eq
  have hN := nextOf_le (names := names) h3 s
  obtain ⟨d, o1, o2⟩ := gm_onOf h h1 s
  obtain ⟨_, _, hlen, cn, co, fr, he, hn, ho⟩ := h
  have d0 : deref H (.ptr g 2 0 0 0) = some ([cn, co], 0) := by simp [deref, entry?, he]
  have q1 : ∀ x, callS run_slices_Contains_string [.one cn, .one (Cell.str (bs x))] H = some [.one (Cell.bool (names.contains x))] := fun x => by
    rw [callS_of (mapO_c hn.read (mapO_c (reifyAV_canon _ _ _) (mapO_nil' _)))]
    exact c_slices_Contains_string names x h1
  have q2 : ∀ x, callS run_slices_Contains_string [.one c, .one (Cell.str (bs x))] H = some [.one (Cell.bool (done.contains x))] := fun x => by
    rw [callS_of (mapO_c hc.read (mapO_c (reifyAV_canon _ _ _) (mapO_nil' _)))]
    exact c_slices_Contains_string done x h4
  have loop : ∀ (r : List Str) (i n : Nat), (nextOf names next s).drop i = r → r.length < n → ∀ k m, impl_graph_canBeNext_l0 k m n (.ptr g 2 0 0 0) c d (nextOf names next s).length i H = some ([.one (Cell.bool (r.all fun x => !(names.contains x && !done.contains x)))], H) := by
    intro r
    induction r with
    | nil =>
      intro i n hd hn k m
      obtain ⟨n, rfl⟩ : ∃ j, n = j + 1 := ⟨n - 1, by omega⟩
      have := drop_nil hd
      simp only [impl_graph_canBeNext_l0]
      rw [decide_eq_false (by omega), cond_false]
      rfl
    | cons x r ih =>
      intro i n hd hn k m
      obtain ⟨n, rfl⟩ : ∃ j, n = j + 1 := ⟨n - 1, by omega⟩
      obtain ⟨hlt, hg, hd'⟩ := drop_cons hd
      simp only [List.length_cons] at hn
      obtain ⟨a, row, off, i1, i2, i3⟩ := o2.at hg
      simp only [impl_graph_canBeNext_l0]
      rw [decide_eq_true (by omega), cond_true]
      simp only [i1, i2, i3, ptrC, fldA_ptr, Nat.zero_add, d0, q1, q2, wrap_succ (show i < maxLen by omega), ih (i + 1) n hd' (by omega), callS_canon, callL_canon, Option.map_some, Option.bind_some, shape_one, shape_agg, shape_nil, cellsAt_0, cellsAt_1, cellsAt_2, cellsAt_3, cells_one, cells_agg, cB_zero, cI_zero, cS_zero, cC_zero, cB_cons, cI_cons, cS_cons, cC_cons, cond_true, cond_false, List.length_cons, List.length_nil, beq_self_eq_true, Bool.and_true, Bool.true_and, lenC_encL, lenC_lst, deref_ref, emptyK_nil, bs_size, bs_toList, List.all_cons]
      cases done.contains x <;> cases names.contains x <;> rfl
  refine run_impl_graph_canBeNext_of ((nextOf names next s).length + 1) ?_
  have := loop (nextOf names next s) 0 ((nextOf names next s).length + 1 + 1) rfl (by omega) ((nextOf names next s).length + 1 + 1) ((nextOf names next s).length + 1 + 1)
  simp only [impl_graph_canBeNext, o1, o2.len, callS_canon, callL_canon, Option.map_some, Option.bind_some, shape_one, shape_agg, shape_nil, cellsAt_0, cellsAt_1, cellsAt_2, cellsAt_3, cells_one, cells_agg, cB_zero, cI_zero, cS_zero, cC_zero, cB_cons, cI_cons, cS_cons, cC_cons, cond_true, cond_false, List.length_cons, List.length_nil, beq_self_eq_true, Bool.and_true, Bool.true_and, lenC_encL, lenC_lst, deref_ref, emptyK_nil, bs_size, bs_toList]
  exact this
theorem gm_order {H : List Entry} {ids : List Nat} {g : Nat} {names : List Str} {next : List (List Str)} (h : GraphM H ids g names next) (h1 : names.length ≤ 1048576) (h3 : ∀ d ∈ next, d.length ≤ 1073741824) :
    ∃ c H' is, run_impl_graph_order [.one (.ptr g 2 0 0 0)] H = some ([.one c, .one (Cell.bool (orderOf names next).2)], H') ∧ Rep H' true true 2 is c (trL 1 trStr (orderOf names next).1) ∧ is.Nodup := by
  have hM := maxLen_eq
  -- the heap: the graph, its pointer, the list's variable, the list
  let A : Cell → List Entry := fun c => H ++ [Entry.mk 1 [[.ptr g 2 0 0 0]] 0 false] ++ [Entry.mk 1 [[c]] 0 false]
  have hAl : ∀ c, (A c).length = H.length + 2 := fun c => by simp [A]
  have hA : ∀ c T, ∀ j ∈ ids, (A c ++ T)[j]? = H[j]? := fun c T j hj => by
    have := h.lt j hj
    simp only [A]
    rw [List.getElem?_append_left (by simp; omega), List.getElem?_append_left (by simp; omega), List.getElem?_append_left (by omega)]
  have hG : ∀ c T, GraphM (A c ++ T) ids g names next := fun c T => h.app (hA c T) (by simp [A])
  have dg : ∀ c T, deref (A c ++ T) (.ptr H.length 1 0 0 0) = some ([.ptr g 2 0 0 0], 0) := fun c T => by simp [A, deref, entry?]
  have dv : ∀ c T, deref (A c ++ T) (.ptr (H.length + 1) 1 0 0 0) = some ([c], 0) := fun c T => by simp [A, deref, entry?]
  have sv : ∀ c T d, hStore (A c ++ T) (.ptr (H.length + 1) 1 0 0 0) [d] = some (A d ++ T) := fun c T d => by
    simp [A, hStore, entry?, splice, List.set_append]
  have loop : ∀ (d : Nat) (o : List Str) (c : Cell) (T : List Entry) (n : Nat), o.length + d = names.length → d < n → GrowAt (H.length + 2) 1 c T (o.map eStr) → ∀ k m,
      ∃ c' H' is, impl_graph_order_l0 k m n (.ptr H.length 1 0 0 0) (.ptr (H.length + 1) 1 0 0 0) (A c ++ T) = some ([.one c', .one (Cell.bool (orderGo names next d o).2)], H') ∧ Rep H' true true 2 is c' (trL 1 trStr (orderGo names next d o).1) ∧ is.Nodup := by
    intro d
    induction d with
    | zero =>
      intro o c T n hd hn hg k m
      obtain ⟨n, rfl⟩ : ∃ j, n = j + 1 := ⟨n - 1, by omega⟩
      rw [← hAl c] at hg
      obtain ⟨is, r1, r2, r3⟩ := hg.list
      obtain ⟨_, _, _, cn, co, fr, he, hn', _⟩ := hG c T
      have d0 : deref (A c ++ T) (.ptr g 2 0 0 0) = some ([cn, co], 0) := by simp only [deref, entry?, he]; rfl
      refine ⟨c, A c ++ T, is, ?_, r1, r2⟩
      simp only [impl_graph_order_l0, dv, dg, cC_zero, ptrC, fldA_ptr, Nat.zero_add, d0, (ListM.of (n := 2) r1).len, hn'.len, Option.bind_some]
      rw [decide_eq_false (by omega), cond_false]
      rfl
    | succ d ih =>
      intro o c T n hd hn hg k m
      obtain ⟨n, rfl⟩ : ∃ j, n = j + 1 := ⟨n - 1, by omega⟩
      rw [← hAl c] at hg
      obtain ⟨is, r1, r2, r3⟩ := hg.list
      have hGc := hG c T
      obtain ⟨_, _, _, cn, co, fr, he, hn', _⟩ := hG c T
      have d0 : deref (A c ++ T) (.ptr g 2 0 0 0) = some ([cn, co], 0) := by simp only [deref, entry?, he]; rfl
      have hoc : ListM (A c ++ T) is c o := ListM.of (n := 2) r1
      -- the function that is handed over
      have hc : ∀ s, run_impl_graph_order_1 [.one (Cell.str (bs s)), .one (.ptr (H.length + 1) 1 0 0 0), .one (.ptr H.length 1 0 0 0)] (A c ++ T) = some ([.one (Cell.bool (freeB names next o s))], A c ++ T) := by
        intro s
        refine run_impl_graph_order_1_of 0 ?_
        have q : callS run_slices_Contains_string [.one c, .one (Cell.str (bs s))] (A c ++ T) = some [.one (Cell.bool (o.contains s))] := by
          rw [callS_of (mapO_c hoc.read (mapO_c (reifyAV_canon _ _ _) (mapO_nil' _)))]
          exact c_slices_Contains_string o s (by omega)
        simp only [impl_graph_order_1, dv, dg, cC_zero, q, gm_canBeNext hGc (by omega) h3 s hoc (by omega), callS_canon, callL_canon, Option.map_some, Option.bind_some, shape_one, shape_agg, shape_nil, cellsAt_0, cellsAt_1, cellsAt_2, cellsAt_3, cells_one, cells_agg, cB_zero, cI_zero, cS_zero, cC_zero, cB_cons, cI_cons, cS_cons, cC_cons, cond_true, cond_false, List.length_cons, List.length_nil, beq_self_eq_true, Bool.and_true, Bool.true_and, lenC_encL, lenC_lst, deref_ref, emptyK_nil, bs_size, bs_toList, freeB]
        cases o.contains s <;> rfl
      have idx : ∀ (r : List Str) (i n : Nat), names.drop i = r → r.length < n → ∀ k m, slices_IndexFunc_string_impl_graph_order_1_l0 k m n cn (.ptr (H.length + 1) 1 0 0 0) (.ptr H.length 1 0 0 0) names.length i (A c ++ T) = some ([.one (Cell.int (idxF (freeB names next o) r i))], A c ++ T) := by
        intro r
        induction r with
        | nil =>
          intro i n hd hn k m
          obtain ⟨n, rfl⟩ : ∃ j, n = j + 1 := ⟨n - 1, by omega⟩
          have := drop_nil hd
          simp only [slices_IndexFunc_string_impl_graph_order_1_l0]
          rw [decide_eq_false (by omega), cond_false]
          rfl
        | cons x r ihr =>
          intro i n hd hn k m
          obtain ⟨n, rfl⟩ : ∃ j, n = j + 1 := ⟨n - 1, by omega⟩
          obtain ⟨hlt, hg, hd'⟩ := drop_cons hd
          simp only [List.length_cons] at hn
          obtain ⟨a, row, off, i1, i2, i3⟩ := hn'.at hg
          simp only [slices_IndexFunc_string_impl_graph_order_1_l0, i1, i2, i3, hc, callS_canon, callL_canon, Option.map_some, Option.bind_some, shape_one, shape_agg, shape_nil, cellsAt_0, cellsAt_1, cellsAt_2, cellsAt_3, cells_one, cells_agg, cB_zero, cI_zero, cS_zero, cC_zero, cB_cons, cI_cons, cS_cons, cC_cons, cond_true, cond_false, List.length_cons, List.length_nil, beq_self_eq_true, Bool.and_true, Bool.true_and, lenC_encL, lenC_lst, deref_ref, emptyK_nil, bs_size, bs_toList]
          rw [decide_eq_true (by omega), cond_true, wrap_succ (by omega), ihr (i + 1) n hd' (by omega)]
          simp only [idxF]
          cases freeB names next o x <;> rfl
      have hi := run_slices_IndexFunc_string_impl_graph_order_1_of (c1 := cn) (q2 := .ptr (H.length + 1) 1 0 0 0) (q3 := .ptr H.length 1 0 0 0) (H := A c ++ T) (names.length + 1) (by
        have := idx names 0 (names.length + 1 + 1) rfl (by omega) (names.length + 1 + 1) (names.length + 1 + 1)
        simp only [slices_IndexFunc_string_impl_graph_order_1, hn'.len, Option.bind_some]
        exact this)
      simp only [impl_graph_order_l0, dv, dg, cC_zero, ptrC, fldA_ptr, Nat.zero_add, d0, hoc.len, hn'.len, Option.bind_some]
      rw [decide_eq_true (by omega), cond_true]
      simp only [orderGo]
      rcases idxF_find (freeB names next o) names 0 with ⟨e1, e2⟩ | ⟨j, x, e1, e2, e3⟩
      · refine ⟨.lst true 1 [], A c ++ T, [], ?_, ?_, by simp⟩
        · simp only [hi, e1, e2, callS_canon, callL_canon, Option.map_some, Option.bind_some, shape_one, shape_agg, shape_nil, cellsAt_0, cellsAt_1, cellsAt_2, cellsAt_3, cells_one, cells_agg, cB_zero, cI_zero, cS_zero, cC_zero, cB_cons, cI_cons, cS_cons, cC_cons, cond_true, cond_false, List.length_cons, List.length_nil, beq_self_eq_true, Bool.and_true, Bool.true_and, lenC_encL, lenC_lst, deref_ref, emptyK_nil, bs_size, bs_toList]
          rfl
        · rw [e2]
          exact .inl ⟨rfl, rfl, true, rfl⟩
      · rw [e3]
        obtain ⟨c1, T1, a1, g1⟩ := app_at (A := A c) (by' := 16) hg (eStr x) (by simp [bound]; omega) (by simp [bound]; omega)
        rw [hAl] at g1
        obtain ⟨a, row, off, i1, i2, i3⟩ := hn'.at e2
        obtain ⟨c2, H2, is2, z1, z2, z3⟩ := ih (o ++ [x]) c1 T1 n (by simp; omega) (by omega) (by simpa using g1) k m
        refine ⟨c2, H2, is2, ?_, z2, z3⟩
        simp only [eStr] at a1
        simp only [hi, e1, callS_canon, callL_canon, Option.map_some, Option.bind_some, shape_one, shape_agg, shape_nil, cellsAt_0, cellsAt_1, cellsAt_2, cellsAt_3, cells_one, cells_agg, cB_zero, cI_zero, cS_zero, cC_zero, cB_cons, cI_cons, cS_cons, cC_cons, cond_true, cond_false, List.length_cons, List.length_nil, beq_self_eq_true, Bool.and_true, Bool.true_and, lenC_encL, lenC_lst, deref_ref, emptyK_nil, bs_size, bs_toList]
        rw [decide_eq_false (by omega), cond_false, Nat.zero_add]
        simp only [dv, dg, cC_zero, ptrC, fldA_ptr, Nat.zero_add, d0, i1, i2, i3, a1, sv, Option.bind_some]
        exact z1
  obtain ⟨c, H', is, z1, z2, z3⟩ := loop names.length [] (.lst true 1 []) [] (names.length + 1 + 1) (by simp) (by omega) (.inl ⟨rfl, rfl, rfl⟩) (names.length + 1 + 1) (names.length + 1 + 1)
  refine ⟨c, H', is, run_impl_graph_order_of (names.length + 1) ?_, z2, z3⟩
  simpa [impl_graph_order, A, orderOf] using z1
end Go.Ev
