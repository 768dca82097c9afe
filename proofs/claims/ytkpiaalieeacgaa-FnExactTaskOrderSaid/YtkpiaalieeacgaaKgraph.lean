/- What the functions come to (graph). Conditions: none. -/
import Derived.Test.YtkpiaalieeacgaaKtask
set_option linter.unusedSimpArgs false
set_option linter.unusedVariables false
namespace Go.Ev
open Go
theorem idxS_nat (s : Str) : ∀ (l : List Str) (i : Nat), (idxS s l i = -1 ∧ s ∉ l) ∨ ∃ j x, idxS s l i = ((i + j : Nat) : Int) ∧ l[j]? = some x := by
  intro l
  induction l with
  | nil => intro i; exact .inl ⟨rfl, by simp⟩
  | cons b r ih =>
    intro i
    by_cases e : s = b
    · exact .inr ⟨0, b, by simp [idxS, e], rfl⟩
    · rcases ih (i + 1) with ⟨h1, h2⟩ | ⟨j, x, h1, h2⟩
      · exact .inl ⟨by simp [idxS, e, h1], by simp [e, h2]⟩
      · exact .inr ⟨j + 1, x, by simp only [idxS, if_neg e, h1]; congr 1; omega, by simpa using h2⟩
/-- What a name leans on. -/
def nextOf (names : List Str) (next : List (List Str)) (s : Str) : List Str := if idxS s names 0 < 0 then [] else (next[(idxS s names 0).toNat]?).getD []
theorem idxS_take (s : Str) (n : Nat) : ∀ (l : List Str) (i : Nat), (idxS s (l.take n) i = idxS s l i ∧ idxS s l i < ((i + n : Nat) : Int)) ∨ (idxS s (l.take n) i = -1 ∧ ((i + n : Nat) : Int) ≤ idxS s l i) := by
  induction n with
  | zero =>
    intro l i
    rcases idxS_nat s l i with ⟨h1, _⟩ | ⟨j, x, h1, _⟩
    · exact .inl ⟨by rw [h1]; rfl, by rw [h1]; omega⟩
    · exact .inr ⟨rfl, by rw [h1]; omega⟩
  | succ n ih =>
    intro l i
    cases l with
    | nil => exact .inl ⟨rfl, by simp only [idxS]; omega⟩
    | cons b r =>
      by_cases e : s = b
      · exact .inl ⟨by simp [idxS, e], by simp only [idxS, if_pos e]; omega⟩
      · simp only [List.take_succ_cons, idxS, if_neg e]
        have := ih r (i + 1)
        rw [show i + 1 + n = i + (n + 1) by omega] at this
        exact this
/-- What names lean on is not asked behind the shorter of both. -/
theorem nextOf_take (names : List Str) (next : List (List Str)) (s : Str) : nextOf (names.take (min names.length next.length)) (next.take (min names.length next.length)) s = nextOf names next s := by
  unfold nextOf
  rcases idxS_take s (min names.length next.length) names 0 with ⟨h1, h2⟩ | ⟨h1, h2⟩
  · rw [h1]
    split
    · rfl
    · rw [List.getElem?_take, if_pos (by omega)]
  · rw [h1, if_pos (by omega), if_neg (by omega)]
    rcases idxS_nat s names 0 with ⟨h3, _⟩ | ⟨j, x, h3, h4⟩
    · rw [h3] at h2; omega
    · have hj := (List.getElem?_eq_some_iff.1 h4).1
      rw [h3] at h2 ⊢
      rw [List.getElem?_eq_none (by omega)]
      rfl
theorem c_spec_l11At (xs : List Str) (c : Cell) [Canon c] (s : Str) (hx : xs.length ≤ 1073741824) : out run_spec_l11At [.agg [strsC xs, c], .one (Cell.str (bs s))] = some [.one (Cell.int (idxS s xs 0))] := by
  have hM := maxLen_eq
  have loop : ∀ (r : List Str) (i n : Nat), xs.drop i = r → r.length < n → ∀ k m, spec_l11At_l0 k m n (bs s) i (strsC xs) c = some ([.one (Cell.int (idxS s r i))], []) := by
    intro r
    induction r with
    | nil =>
      intro i n hd hn k m
      obtain ⟨n, rfl⟩ : ∃ j, n = j + 1 := ⟨n - 1, by omega⟩
      have := drop_nil hd
      simp only [spec_l11At_l0, lenC_encL, Option.bind_some]
      rw [decide_eq_false (by omega), cond_false]
      rfl
    | cons b r ih =>
      intro i n hd hn k m
      obtain ⟨n, rfl⟩ : ∃ j, n = j + 1 := ⟨n - 1, by omega⟩
      obtain ⟨hlt, hg, hd'⟩ := drop_cons hd
      simp only [List.length_cons] at hn
      simp only [spec_l11At_l0, idxA_encL, hg, eStr, callS_canon, callL_canon, Option.map_some, Option.bind_some, shape_one, shape_agg, shape_nil, cellsAt_0, cellsAt_1, cellsAt_2, cellsAt_3, cells_one, cells_agg, cB_zero, cI_zero, cS_zero, cC_zero, cB_cons, cI_cons, cS_cons, cC_cons, cond_true, cond_false, List.length_cons, List.length_nil, beq_self_eq_true, Bool.and_true, Bool.true_and, lenC_encL, lenC_lst, deref_ref, emptyK_nil, bs_size, bs_toList]
      rw [decide_eq_true (by omega), cond_true, wrap_succ (by omega), ih (i + 1) n hd' (by omega)]
      simp only [idxS]
      by_cases e : s = b
      · rw [show (b == s) = true by simpa using e.symm, if_pos e]; rfl
      · rw [show (b == s) = false by simpa using Ne.symm e, if_neg e]; rfl
  refine out_of (H := []) (run_spec_l11At_of (xs.length + 1) ?_)
  have := loop xs 0 (xs.length + 1 + 1) rfl (by omega) (xs.length + 1 + 1) (xs.length + 1 + 1)
  simpa [spec_l11At] using this
theorem c_spec_l11Next (xs : List Str) (ds : List (List Str)) (s : Str) (hx : xs.length ≤ 1073741824) (hl : xs.length = ds.length) : outL run_spec_l11Next [.agg [strsC xs, encL 1 eStrs ds], .one (Cell.str (bs s))] = some [.one (strsC (nextOf xs ds s))] := by
  rcases idxS_nat s xs 0 with ⟨h1, _⟩ | ⟨j, x, h1, h2⟩
  · refine outL_of (H := []) (xs := [.one (.lst true 1 [])]) (run_spec_l11Next_of 0 ?_) ?_
    · simp only [spec_l11Next, c_spec_l11At xs _ s hx, callS_canon, callL_canon, Option.map_some, Option.bind_some, shape_one, shape_agg, shape_nil, cellsAt_0, cellsAt_1, cellsAt_2, cellsAt_3, cells_one, cells_agg, cB_zero, cI_zero, cS_zero, cC_zero, cB_cons, cI_cons, cS_cons, cC_cons, cond_true, cond_false, List.length_cons, List.length_nil, beq_self_eq_true, Bool.and_true, Bool.true_and, lenC_encL, lenC_lst, deref_ref, emptyK_nil, bs_size, bs_toList, h1]
      rfl
    · rw [nextOf, h1, if_pos (by omega)]
      rfl
  · have hj := (List.getElem?_eq_some_iff.1 h2).1
    obtain ⟨d, hd⟩ : ∃ d, ds[j]? = some d := ⟨ds[j], List.getElem?_eq_getElem (by omega)⟩
    have e : nextOf xs ds s = d := by
      rw [nextOf, h1, if_neg (by omega)]
      simp [hd]
    rw [e]
    refine outL_canon (H := []) (run_spec_l11Next_of 0 ?_)
    simp only [spec_l11Next, c_spec_l11At xs _ s hx, callS_canon, callL_canon, Option.map_some, Option.bind_some, shape_one, shape_agg, shape_nil, cellsAt_0, cellsAt_1, cellsAt_2, cellsAt_3, cells_one, cells_agg, cB_zero, cI_zero, cS_zero, cC_zero, cB_cons, cI_cons, cS_cons, cC_cons, cond_true, cond_false, List.length_cons, List.length_nil, beq_self_eq_true, Bool.and_true, Bool.true_and, lenC_encL, lenC_lst, deref_ref, emptyK_nil, bs_size, bs_toList, h1]
    rw [decide_eq_false (by omega), cond_false, Nat.zero_add]
    simp only [idxA_encL, hd, eStrs, callS_canon, callL_canon, Option.map_some, Option.bind_some, shape_one, shape_agg, shape_nil, cellsAt_0, cellsAt_1, cellsAt_2, cellsAt_3, cells_one, cells_agg, cB_zero, cI_zero, cS_zero, cC_zero, cB_cons, cI_cons, cS_cons, cC_cons, cond_true, cond_false, List.length_cons, List.length_nil, beq_self_eq_true, Bool.and_true, Bool.true_and, lenC_encL, lenC_lst, deref_ref, emptyK_nil, bs_size, bs_toList]
theorem c_spec_l13Graph (p : MPlan) (hp : p.Bd 1048576) : outL run_spec_l13Graph [.agg [strsC p.Tasks, encL 1 eStrs p.Deps]] = some [.agg [strsC (p.Tasks.take (min p.Tasks.length p.Deps.length)), encL 1 eStrs (p.Deps.take (min p.Tasks.length p.Deps.length))]] := by
  obtain ⟨b1, b2⟩ := hp
  have hM := maxLen_eq
  have hl1 := b1.1
  have hl2 := b2.1
  have loop : ∀ (d i n : Nat) (c6 c7 : Cell) (H : List Entry) (i6 i7 : List Nat), d = min p.Tasks.length p.Deps.length - i → i ≤ min p.Tasks.length p.Deps.length → d < n →
      Rep H true true 2 i6 c6 (trL 1 trStr (p.Tasks.take i)) → Rep H true true 3 i7 c7 (trL 1 (trLs 1 trStr) (p.Deps.take i)) → notLent c6 → notLent c7 → i6.Nodup → i7.Nodup → (∀ j ∈ i6, j ∉ i7) →
      ∀ k m, ∃ c6' c7' H' j6 j7, spec_l13Graph_l0 k m n i (strsC p.Tasks) (encL 1 eStrs p.Deps) c6 c7 H = some ([.agg [c6', c7']], H') ∧
        Rep H' true true 2 j6 c6' (trL 1 trStr (p.Tasks.take (min p.Tasks.length p.Deps.length))) ∧ Rep H' true true 3 j7 c7' (trL 1 (trLs 1 trStr) (p.Deps.take (min p.Tasks.length p.Deps.length))) := by
    intro d
    induction d with
    | zero =>
      intro i n c6 c7 H i6 i7 hd hi hn r6 r7 f6 f7 n6 n7 dj k m
      obtain ⟨n, rfl⟩ : ∃ j, n = j + 1 := ⟨n - 1, by omega⟩
      obtain rfl : i = min p.Tasks.length p.Deps.length := by omega
      refine ⟨c6, c7, H, i6, i7, ?_, r6, r7⟩
      simp only [spec_l13Graph_l0, lenC_encL, Option.bind_some]
      by_cases h : p.Tasks.length ≤ p.Deps.length
      · rw [decide_eq_false (p := ((min p.Tasks.length p.Deps.length : Nat) : Int) < (p.Tasks.length : Int)) (by omega), cond_false]
      · rw [decide_eq_true (p := ((min p.Tasks.length p.Deps.length : Nat) : Int) < (p.Tasks.length : Int)) (by omega), cond_true, decide_eq_false (by omega), cond_false]
    | succ d ih =>
      intro i n c6 c7 H i6 i7 hd hi hn r6 r7 f6 f7 n6 n7 dj k m
      obtain ⟨n, rfl⟩ : ∃ j, n = j + 1 := ⟨n - 1, by omega⟩
      have hi1 : i < p.Tasks.length := by omega
      have hi2 : i < p.Deps.length := by omega
      obtain ⟨t, ht⟩ : ∃ t, p.Tasks[i]? = some t := ⟨_, List.getElem?_eq_getElem hi1⟩
      obtain ⟨e, he⟩ : ∃ e, p.Deps[i]? = some e := ⟨_, List.getElem?_eq_getElem hi2⟩
      have hel := (b2.2 e (List.mem_of_getElem? he)).1
      -- the name
      have q6 := r6.app [Entry.mk 1 [[Cell.str (bs t)]] 0 false]
      have q7 := r7.app [Entry.mk 1 [[Cell.str (bs t)]] 0 false]
      obtain ⟨c6', H1, j6, a1, r6', f6', n6', g6, l6, k6, _⟩ := q6.append (by' := 16) (ys := [[Cell.str (bs t)]]) (tys := [trStr t]) (js := []) f6 n6 (.cons (i := []) (is := []) (Sp.leaf1 _) .nil) (by simp) (by simp) (by simp) (by simp [bound]; omega) (by simp [bound]; omega)
      have s1 : srcRows (H ++ [Entry.mk 1 [[Cell.str (bs t)]] 0 false]) 1 (.vs H.length 1 0 1 0) = some [[Cell.str (bs t)]] := by simp [srcRows, rowsOf, entry?]
      have q7' : Rep H1 true true 3 i7 c7 (trL 1 (trLs 1 trStr) (p.Deps.take i)) := q7.frame fun j hj => k6 j (q7.lt j hj) fun h => dj j h hj
      -- the list of its own
      have q6' := r6'.app [Entry.mk 1 [] 0 false]
      have q7'' := q7'.app [Entry.mk 1 [] 0 false]
      have rn : Rep (H1 ++ [Entry.mk 1 [] 0 false]) true true 2 [H1.length] (.vs H1.length 1 0 0 0) (.list 1 []) := .inr ⟨H1.length, 0, 0, [], false, [], rfl, rfl, by simp, fun _ => rfl, fun _ => ⟨rfl, rfl⟩, by simp, by simp, .nil⟩
      obtain ⟨c8, H2, j8, a2, r8, f8, n8, g8, l8, k8, _⟩ := rn.append (by' := 16) (ys := e.map eStr) (tys := e.map trStr) (js := []) (notLent_vs _ _ _ _ _) (by simp)
        (by
          have : ∀ (l : List Str) (G : List Entry), Sp (Sp (Rep G true true 1)) [] (l.map eStr) (l.map trStr) := by
            intro l G
            induction l with
            | nil => exact .nil
            | cons x l ih => exact .cons (i := []) (is := []) (Sp.leaf1 _) ih
          exact this e _) (by intro r hr; obtain ⟨x, _, rfl⟩ := List.mem_map.1 hr; rfl) (by simp) (by simp) (by simp [bound]; omega) (by simp [bound]; omega)
      have s2 : srcRows (H1 ++ [Entry.mk 1 [] 0 false]) 1 (strsC e) = some (e.map eStr) := by simp [srcRows, rowsOf, encL]
      have d8 : ∀ j ∈ j8, H1.length ≤ j := by
        intro j hj
        rcases g8 j hj with h | h | h
        · simp at h; omega
        · simp at h
        · simp at h; omega
      have p6 : Rep H2 true true 2 j6 c6' (.list 1 ((p.Tasks.take i).map trStr ++ [trStr t])) := q6'.frame fun j hj => k8 j (q6'.lt j hj) fun h => by have := r6'.lt j hj; simp at h; omega
      have p7 : Rep H2 true true 3 i7 c7 (trL 1 (trLs 1 trStr) (p.Deps.take i)) := q7''.frame fun j hj => k8 j (q7''.lt j hj) fun h => by have := q7'.lt j hj; simp at h; omega
      -- put behind the others
      have p6' := p6.app [Entry.mk 1 [[c8]] 0 false]
      have p7' := p7.app [Entry.mk 1 [[c8]] 0 false]
      have p8' := r8.app [Entry.mk 1 [[c8]] 0 false]
      obtain ⟨c9, H3, j9, a3, r9, f9, n9, g9, l9, k9, _⟩ := p7'.append (by' := 24) (ys := [[c8]]) (tys := [trLs 1 trStr e]) (js := j8 ++ []) f7 n7 (by
          have := Sp.cons (Sp.one1 p8') (Sp.nil (P := Sp (Rep (H2 ++ [Entry.mk 1 [[c8]] 0 false]) true true 2)))
          exact this) (by simp) (by simpa using n8) (by
          intro j hj h
          simp at h
          have := d8 j h
          have := q7'.lt j hj
          omega) (by simp [bound]; omega) (by simp [bound]; omega)
      have s3 : srcRows (H2 ++ [Entry.mk 1 [[c8]] 0 false]) 1 (.vs H2.length 1 0 1 0) = some [[c8]] := by simp [srcRows, rowsOf, entry?]
      have hd6 : ∀ j ∈ j6, j < (H ++ [Entry.mk 1 [[Cell.str (bs t)]] 0 false]).length + 1 := by
        intro j hj
        rcases g6 j hj with h | h | h
        · have := r6.lt j h; simp; omega
        · simp at h
        · omega
      have p6'' : Rep H3 true true 2 j6 c6' (trL 1 trStr (p.Tasks.take (i + 1))) := by
        have : (p.Tasks.take (i + 1)).map trStr = (p.Tasks.take i).map trStr ++ [trStr t] := by rw [List.take_add_one, ht]; simp
        rw [trL, this]
        refine p6'.frame fun j hj => k9 j (p6'.lt j hj) fun h => ?_
        rcases g6 j hj with h' | h' | h'
        · exact dj j h' h
        · simp at h'
        · have := r7.lt j h
          simp at h'
          omega
      have p7'' : Rep H3 true true 3 j9 c9 (trL 1 (trLs 1 trStr) (p.Deps.take (i + 1))) := by
        have : (p.Deps.take (i + 1)).map (trLs 1 trStr) = (p.Deps.take i).map (trLs 1 trStr) ++ [trLs 1 trStr e] := by rw [List.take_add_one, he]; simp
        rw [trL, this]
        exact r9
      obtain ⟨x6, x7, H', y6, y7, z1, z2, z3⟩ := ih (i + 1) n c6' c9 H3 j6 j9 (by omega) (by omega) (by omega) p6'' p7'' f6' f9 n6' n9 (by
        intro j hj h
        rcases g9 j h with h' | h' | h'
        · rcases g6 j hj with h2 | h2 | h2
          · exact dj j h2 h'
          · simp at h2
          · have := r7.lt j h'
            simp at h2
            omega
        · simp at h'
          have := d8 j h'
          have := r6'.lt j hj
          omega
        · have := r6'.lt j hj
          simp at h'
          simp at l8
          omega) k m
      refine ⟨x6, x7, H', y6, y7, ?_, z2, z3⟩
      simp only [spec_l13Graph_l0, lenC_encL, Option.bind_some]
      rw [decide_eq_true (by omega), cond_true, decide_eq_true (by omega), cond_true]
      simp only [idxA_encL, ht, he, eStr, eStrs, s1, a1, s2, a2, s3, a3, callS_canon, callL_canon, Option.map_some, Option.bind_some, shape_one, shape_agg, shape_nil, cellsAt_0, cellsAt_1, cellsAt_2, cellsAt_3, cells_one, cells_agg, cB_zero, cI_zero, cS_zero, cC_zero, cB_cons, cI_cons, cS_cons, cC_cons, cond_true, cond_false, List.length_cons, List.length_nil, beq_self_eq_true, Bool.and_true, Bool.true_and, lenC_encL, lenC_lst, deref_ref, emptyK_nil, bs_size, bs_toList]
      rw [wrap_succ (by omega)]
      exact z1
  obtain ⟨c6, c7, H, j6, j7, h1, h2, h3⟩ := loop (min p.Tasks.length p.Deps.length) 0 (p.Tasks.length + 1 + 1) (.lst true 1 []) (.lst true 1 []) [] [] [] (by omega) (by omega) (by omega) (.inl ⟨rfl, rfl, true, rfl⟩) (.inl ⟨rfl, rfl, true, rfl⟩) (notLent_nil _) (notLent_nil _) (by simp) (by simp) (by simp) (p.Tasks.length + 1 + 1) (p.Tasks.length + 1 + 1)
  refine outL_of (H := H) (xs := [.agg [c6, c7]]) (run_spec_l13Graph_of (p.Tasks.length + 1) ?_) ?_
  · simp only [spec_l13Graph]
    exact h1
  · have := mapO_c (reify_agg (Sp.cons (h2.more (m := 3) (by omega)) (Sp.cons h3 .nil)) (by omega)) (mapO_nil' (reifyAV false H))
    simpa only [List.map_cons, List.map_nil, trL_cell] using this
def onRow (D : List (List Str)) (i : Nat) : List Cell := match D[i]? with | some d => [strsC d] | none => [.lst true 1 []]
abbrev gE0 (p : MPlan) : Entry := Entry.mk 2 [[strsC p.Tasks, encL 1 eStrs p.Deps]] 0 false
abbrev gE1 (p : MPlan) (c : Cell) : Entry := Entry.mk 2 [[strsC p.Tasks, c]] 0 false
theorem g_impl_Plan_graph (p : MPlan) (hp : p.Bd 1048576) : ∃ c T, GrowAt 2 1 c T ((List.range p.Tasks.length).map (onRow p.Deps)) ∧ run_impl_Plan_graph [.one (.ptr 0 2 0 0 0)] [gE0 p] = some ([.one (.ptr 1 2 0 0 0)], [gE0 p, gE1 p c] ++ T) := by
  have hM := maxLen_eq
  have hl1 := hp.1.1
  have hl2 := hp.2.1
  have loop : ∀ (d i n : Nat) (c : Cell) (T : List Entry), d = p.Tasks.length - i → i ≤ p.Tasks.length → d < n → GrowAt 2 1 c T ((List.range i).map (onRow p.Deps)) → ∀ k m,
      ∃ c' T', GrowAt 2 1 c' T' ((List.range p.Tasks.length).map (onRow p.Deps)) ∧ impl_Plan_graph_l0 k m n (.ptr 0 2 0 0 0) (.ptr 1 2 0 0 0) p.Tasks.length i ([gE0 p, gE1 p c] ++ T) = some ([.one (.ptr 1 2 0 0 0)], [gE0 p, gE1 p c'] ++ T') := by
    intro d
    induction d with
    | zero =>
      intro i n c T hd hi hn hg k m
      obtain ⟨n, rfl⟩ : ∃ j, n = j + 1 := ⟨n - 1, by omega⟩
      obtain rfl : i = p.Tasks.length := by omega
      refine ⟨c, T, hg, ?_⟩
      simp only [impl_Plan_graph_l0]
      rw [decide_eq_false (by omega), cond_false]
    | succ d ih =>
      intro i n c T hd hi hn hg k m
      obtain ⟨n, rfl⟩ : ∃ j, n = j + 1 := ⟨n - 1, by omega⟩
      obtain ⟨c1, T1, a1, g1⟩ := app_at (A := [gE0 p, gE1 p c]) (by' := 24) hg (onRow p.Deps i) (by simp [bound]; omega) (by simp [bound]; omega)
      have hr : (List.range i).map (onRow p.Deps) ++ [onRow p.Deps i] = (List.range (i + 1)).map (onRow p.Deps) := by rw [List.range_succ, List.map_append]; rfl
      rw [hr] at g1
      obtain ⟨c2, T2, g2, e2⟩ := ih (i + 1) n c1 T1 (by omega) (by omega) (by omega) g1 k m
      refine ⟨c2, T2, g2, ?_⟩
      rw [← e2]
      have hst : hStore ([gE0 p, gE1 p c] ++ T1) (.ptr 1 2 0 1 0) [c1] = some ([gE0 p, gE1 p c1] ++ T1) := by simp [hStore, entry?, splice]
      simp only [impl_Plan_graph_l0]
      rw [decide_eq_true (by omega), cond_true]
      have d0 : deref ([gE0 p, gE1 p c] ++ T) (.ptr 0 2 0 1 0) = some ([strsC p.Tasks, encL 1 eStrs p.Deps], 1) := rfl
      have d1 : deref ([gE0 p, gE1 p c] ++ T) (.ptr 1 2 0 1 0) = some ([strsC p.Tasks, c], 1) := rfl
      simp only [ptrC, fldA_ptr, Nat.zero_add, Option.bind_some, d0, d1, cC_cons, cC_zero, lenC_encL]
      cases hD : p.Deps[i]? with
      | none =>
        have : p.Deps.length ≤ i := List.getElem?_eq_none_iff.1 hD
        rw [decide_eq_false (by omega), cond_false]
        have ho : onRow p.Deps i = [.lst true 1 []] := by simp [onRow, hD]
        rw [ho] at a1
        simp only [a1, hst, Option.bind_some]
        rw [wrap_succ (by omega)]
      | some e =>
        have : i < p.Deps.length := (List.getElem?_eq_some_iff.1 hD).1
        rw [decide_eq_true (by omega), cond_true]
        have ho : onRow p.Deps i = [strsC e] := by simp [onRow, hD]
        rw [ho] at a1
        have hrk : ∀ (f : List Cell → Option Res), restK [strsC e] f = f [strsC e] := fun f => by simp [restK, mapO, pureC, encL]
        have hsr : srcRows ([gE0 p, gE1 p c] ++ T) 1 (.lst true 1 (chunks 1 1 [strsC e])) = some [[strsC e]] := by simp [srcRows, rowsOf, chunks]
        simp only [idxA_encL, hD, Option.map_some, Option.bind_some, deref_ref, eStrs, cC_zero, hrk, hsr, a1, hst]
        rw [wrap_succ (by omega)]
  obtain ⟨c, T, hg, he⟩ := loop p.Tasks.length 0 (p.Tasks.length + 1 + 1) (.lst true 1 []) [] (by omega) (by omega) (by omega) (.inl ⟨rfl, rfl, rfl⟩) (p.Tasks.length + 1 + 1) (p.Tasks.length + 1 + 1)
  refine ⟨c, T, hg, run_impl_Plan_graph_of (p.Tasks.length + 1) ?_⟩
  have d0 : deref [gE0 p] (.ptr 0 2 0 0 0) = some ([strsC p.Tasks, encL 1 eStrs p.Deps], 0) := rfl
  have d1 : deref ([gE0 p] ++ [gE1 p (.lst true 1 [])]) (.ptr 0 2 0 0 0) = some ([strsC p.Tasks, encL 1 eStrs p.Deps], 0) := rfl
  simp only [impl_Plan_graph, ptrC, fldA_ptr, Nat.zero_add, Option.bind_some, d0, cC_zero, d1, lenC_encL]
  simpa using he
end Go.Ev
