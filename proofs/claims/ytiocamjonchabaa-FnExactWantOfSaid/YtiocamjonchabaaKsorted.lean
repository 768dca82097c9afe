/- What the functions come to (sorted). Conditions: none. -/
import Derived.Test.YtiocamjonchabaaKpacks
set_option linter.unusedSimpArgs false
set_option linter.unusedVariables false
namespace Go.Ev
open Go
/-! texts in their order, each once -/
theorem lt_iff : ∀ (a b : Str), lt a b = true ↔ a < b := by
  intro a
  unfold lt
  induction a with
  | nil => intro b; cases b <;> simp [Op.bytesLess]
  | cons x a ih =>
    intro b
    cases b with
    | nil => simp [Op.bytesLess]
    | cons y b => rw [List.cons_lt_cons_iff, ← ih b]; simp [Op.bytesLess]
theorem strict_unique : ∀ {a b : List Str}, a.Pairwise (· < ·) → b.Pairwise (· < ·) → (∀ x, x ∈ a ↔ x ∈ b) → a = b := by
  intro a
  induction a with
  | nil =>
    intro b _ _ h
    cases b with
    | nil => rfl
    | cons y b => exact absurd ((h y).2 List.mem_cons_self) (by simp)
  | cons x a ih =>
    intro b ha hb h
    cases b with
    | nil => exact absurd ((h x).1 List.mem_cons_self) (by simp)
    | cons y b =>
      obtain ⟨a1, a2⟩ := List.pairwise_cons.1 ha
      obtain ⟨b1, b2⟩ := List.pairwise_cons.1 hb
      have hxy : x = y := by
        rcases List.mem_cons.1 ((h x).1 List.mem_cons_self) with e | e
        · exact e
        · rcases List.mem_cons.1 ((h y).2 List.mem_cons_self) with e' | e'
          · exact e'.symm
          · exact absurd (List.lt_trans (b1 x e) (a1 y e')) (List.lt_irrefl _)
      subst hxy
      congr 1
      refine ih a2 b2 fun z => ⟨fun hz => ?_, fun hz => ?_⟩
      · rcases List.mem_cons.1 ((h z).1 (List.mem_cons_of_mem _ hz)) with rfl | e
        · exact absurd (a1 z hz) (List.lt_irrefl _)
        · exact e
      · rcases List.mem_cons.1 ((h z).2 (List.mem_cons_of_mem _ hz)) with rfl | e
        · exact absurd (b1 z hz) (List.lt_irrefl _)
        · exact e
def sortedU (xs : List Str) : List Str := Lib.compact (sortS xs)
theorem sortedU_spec (xs : List Str) : (sortedU xs).Pairwise (· < ·) ∧ ∀ x, x ∈ sortedU xs ↔ x ∈ xs := by
  have hp : (sortS xs).Pairwise (fun a b => a ≤ b) := by
    have := List.pairwise_mergeSort (le := fun x y : Str => decide (x ≤ y)) (fun a b c h1 h2 => by simp only [decide_eq_true_eq] at *; exact List.le_trans h1 h2) (fun a b => by simpa using List.le_total a b) xs
    simpa [sortS] using this
  have hm : ∀ x, x ∈ sortS xs ↔ x ∈ xs := fun x => List.mem_mergeSort
  generalize hs : sortS xs = s at hp hm
  have key : ∀ m, m < s.length → ∃ C, Lib.compactUpTo s.toArray (m + 1) = C ++ [s[m]!] ∧ (C ++ [s[m]!]).Pairwise (· < ·) ∧ ∀ x, x ∈ C ++ [s[m]!] ↔ x ∈ s.take (m + 1) := by
    intro m
    induction m with
    | zero =>
      intro h
      obtain ⟨x, r, rfl⟩ : ∃ x r, s = x :: r := by cases s with | nil => simp at h | cons x r => exact ⟨x, r, rfl⟩
      exact ⟨[], by rw [Lib.compactUpTo_succ]; simp [Lib.compactUpTo, Lib.keeps], by simp, by simp⟩
    | succ m ih =>
      intro h
      obtain ⟨C, h1, h2, h3⟩ := ih (by omega)
      have e0 : s[m]! = s[m] := by simp [show m < s.length by omega]
      have e1 : s[m + 1]! = s[m + 1] := by simp [h]
      have ht : s.take (m + 1 + 1) = s.take (m + 1) ++ [s[m + 1]] := by rw [List.take_add_one, List.getElem?_eq_getElem h]; rfl
      have hle : s[m] ≤ s[m + 1] := List.pairwise_iff_getElem.1 hp m (m + 1) (by omega) h (by omega)
      rw [Lib.compactUpTo_succ, h1]
      have hk : Lib.keeps s.toArray (m + 1) = decide (s[m + 1] ≠ s[m]) := by
        simp [Lib.keeps, h, show m < s.length by omega]
      rw [hk, e1, ht]
      by_cases he : s[m + 1] = s[m]
      · refine ⟨C, by simp [he, e0], by rw [he, ← e0]; exact h2, fun x => ?_⟩
        have h4 := h3 x
        rw [e0] at h4
        rw [he]
        constructor
        · exact fun h => List.mem_append_left _ (h4.1 h)
        · intro h
          rcases List.mem_append.1 h with h | h
          · exact h4.2 h
          · exact List.mem_append_right _ h
      · refine ⟨C ++ [s[m]!], by simp [he, h], ?_, fun x => ?_⟩
        · refine List.pairwise_append.2 ⟨h2, by simp, fun a ha b hb => ?_⟩
          simp only [List.mem_singleton] at hb
          subst hb
          have hlt : s[m] < s[m + 1] := by
            rcases Classical.em (s[m] < s[m + 1]) with h | h
            · exact h
            · exact absurd (List.le_antisymm (List.not_lt.1 h) hle) he
          rcases List.mem_append.1 ha with ha | ha
          · have := (List.pairwise_append.1 h2).2.2 a ha s[m]! (by simp)
            rw [e0] at this
            exact List.lt_trans this hlt
          · simp only [List.mem_singleton] at ha
            rw [ha, e0]
            exact hlt
        · rw [List.mem_append, h3 x, List.mem_append]
  unfold sortedU
  rw [hs]
  cases hl : s.length with
  | zero =>
    have : s = [] := List.eq_nil_of_length_eq_zero hl
    subst this
    exact ⟨by simp [Lib.compact, Lib.compactUpTo], fun x => by rw [← hm x]; simp [Lib.compact, Lib.compactUpTo]⟩
  | succ m =>
    obtain ⟨C, h1, h2, h3⟩ := key m (by omega)
    have he : Lib.compact s = C ++ [s[m]!] := by rw [Lib.compact, hl, h1]
    rw [he]
    refine ⟨h2, fun x => ?_⟩
    rw [h3 x, ← hm x, List.take_of_length_le (by omega)]
theorem sortedU_unique {o xs : List Str} (h1 : o.Pairwise (· < ·)) (h2 : ∀ x, x ∈ o ↔ x ∈ xs) : o = sortedU xs :=
  strict_unique h1 (sortedU_spec xs).1 fun x => (h2 x).trans ((sortedU_spec xs).2 x).symm
theorem sortedU_le (xs : List Str) : (sortedU xs).length ≤ xs.length := Nat.le_trans (compact_le _) (Nat.le_of_eq (List.length_mergeSort xs))
theorem c_spec_Sorted (xs : List Str) (hx : xs.length ≤ 1073741824) : outL run_spec_Sorted [.one (strsC xs)] = some [.one (strsC (sortedU xs))] := by
  have hM := maxLen_eq
  have inner : ∀ (o : List Str) (x : Str) (i : Nat) (ep : Nat), xs[i]? = some x → o.length < 1073741824 → x ∉ o → o.Pairwise (· < ·) → ∀ (k : Nat) (z : Str) (n : Nat), k ≤ o.length → k < n → (∀ y ∈ o.drop k, x < y) → ∀ (b : Cell → Cell → Int → List Entry → Option Res) kk m,
      ∃ k', k' ≤ o.length ∧ (∀ y ∈ o.drop k', x < y) ∧ (∀ y ∈ o.take k', y < x) ∧
        spec_Sorted_l1 kk m b n (strsC xs) (.vs 0 1 0 (o.length + 1) ep) i k [Entry.mk 1 ((o.take k ++ z :: o.drop k).map eStr) ep false] = b (strsC xs) (.vs 0 1 0 (o.length + 1) ep) ((i + 1 : Nat) : Int) [Entry.mk 1 ((o.take k' ++ x :: o.drop k').map eStr) ep false] := by
    intro o x i ep hxi hol hxo hp k
    have hi : i < xs.length := (List.getElem?_eq_some_iff.1 hxi).1
    have hput : ∀ (k : Nat) (z y : Str), k ≤ o.length → hStore [Entry.mk 1 ((o.take k ++ z :: o.drop k).map eStr) ep false] (.ptr 0 1 k 0 ep) [Cell.str (bs y)] = some [Entry.mk 1 ((o.take k ++ y :: o.drop k).map eStr) ep false] := by
      intro k z y hk
      have hr : ((o.take k ++ z :: o.drop k).map eStr)[k]? = some (eStr z) := by
        rw [List.getElem?_map, List.getElem?_append_right (by simp; omega)]
        simp [Nat.min_eq_left hk]
      simp only [hStore, entry?, List.getElem?_cons_zero, if_true, hr]
      rw [if_pos ⟨trivial, by simp, trivial⟩]
      simp [splice, eStr, List.set_append, Nat.min_eq_left hk]
    have hix : ∀ (k : Nat), k < o.length + 1 → idxA 1 (.vs 0 1 0 (o.length + 1) ep) ((k : Nat) : Int) = some (.ptr 0 1 k 0 ep) := fun k hk => idxA_vs _ _ _ _ _ hk
    induction k with
    | zero =>
      intro z n hk hn hd b kk m
      obtain ⟨n, rfl⟩ : ∃ j, n = j + 1 := ⟨n - 1, by omega⟩
      refine ⟨0, by omega, hd, by simp, ?_⟩
      simp only [spec_Sorted_l1]
      rw [decide_eq_false (by omega), cond_false]
      simp only [idxA_encL, hxi, eStr, hix 0 (by omega), hput 0 z x (by omega), callS_canon, callL_canon, Option.map_some, Option.bind_some, shape_one, shape_agg, shape_nil, cellsAt_0, cellsAt_1, cellsAt_2, cellsAt_3, cells_one, cells_agg, cB_zero, cI_zero, cS_zero, cC_zero, cB_cons, cI_cons, cS_cons, cC_cons, cond_true, cond_false, List.length_cons, List.length_nil, beq_self_eq_true, Bool.and_true, Bool.true_and, lenC_encL, lenC_lst, deref_ref, emptyK_nil, bs_size, bs_toList]
      rw [wrap_succ (by omega)]
    | succ k ih =>
      intro z n hk hn hd b kk m
      obtain ⟨n, rfl⟩ : ∃ j, n = j + 1 := ⟨n - 1, by omega⟩
      obtain ⟨y, hy⟩ : ∃ y, o[k]? = some y := ⟨o[k], List.getElem?_eq_getElem (by omega)⟩
      have hyo : y ∈ o := List.mem_of_getElem? hy
      have hwp : IntKind.i64.wrap (((k + 1 : Nat) : Int) - 1) = (k : Int) := wrap_pred (by omega)
      have hdr : deref [Entry.mk 1 ((o.take (k + 1) ++ z :: o.drop (k + 1)).map eStr) ep false] (.ptr 0 1 k 0 ep) = some (eStr y, 0) := by
        have hr : ((o.take (k + 1) ++ z :: o.drop (k + 1)).map eStr)[k]? = some (eStr y) := by
          rw [List.getElem?_map, List.getElem?_append_left (by simp; omega), List.getElem?_take_of_lt (by omega), hy]
          rfl
        simp only [deref, entry?, List.getElem?_cons_zero, if_true, hr]
      have hdrop : o.drop k = y :: o.drop (k + 1) := by
        rw [List.drop_eq_getElem_cons (by omega)]
        congr 1
        rw [List.getElem?_eq_getElem (by omega)] at hy
        simpa using hy
      simp only [spec_Sorted_l1]
      rw [decide_eq_true (by omega), cond_true]
      have hbl : (!(Op.bytesLess y x || y == x)) = lt x y := by rw [bl_eq, lt_not, Bool.not_not]
      simp only [hwp, idxA_encL, hxi, hix k (by omega), hdr, eStr, hbl, callS_canon, callL_canon, Option.map_some, Option.bind_some, shape_one, shape_agg, shape_nil, cellsAt_0, cellsAt_1, cellsAt_2, cellsAt_3, cells_one, cells_agg, cB_zero, cI_zero, cS_zero, cC_zero, cB_cons, cI_cons, cS_cons, cC_cons, cond_true, cond_false, List.length_cons, List.length_nil, beq_self_eq_true, Bool.and_true, Bool.true_and, lenC_encL, lenC_lst, deref_ref, emptyK_nil, bs_size, bs_toList]
      by_cases hlt : x < y
      · rw [(lt_iff x y).2 hlt, cond_true]
        simp only [hix (k + 1) (by omega), hdr, eStr, callS_canon, callL_canon, Option.map_some, Option.bind_some, shape_one, shape_agg, shape_nil, cellsAt_0, cellsAt_1, cellsAt_2, cellsAt_3, cells_one, cells_agg, cB_zero, cI_zero, cS_zero, cC_zero, cB_cons, cI_cons, cS_cons, cC_cons, cond_true, cond_false, List.length_cons, List.length_nil, beq_self_eq_true, Bool.and_true, Bool.true_and, lenC_encL, lenC_lst, deref_ref, emptyK_nil, bs_size, bs_toList]
        have hst := hput (k + 1) z y hk
        have hrows : o.take (k + 1) ++ y :: o.drop (k + 1) = o.take k ++ y :: o.drop k := by
          rw [List.take_add_one, hy, hdrop]
          simp
        rw [hrows] at hst
        simp only [hst, Option.bind_some]
        have := ih y n (by omega) (by omega) (fun w hw => by
          rw [hdrop] at hw
          rcases List.mem_cons.1 hw with rfl | hw
          · exact hlt
          · exact hd w hw) b kk m
        exact this
      · have hf : lt x y = false := Bool.eq_false_iff.2 fun h => hlt ((lt_iff x y).1 h)
        rw [hf, cond_false]
        refine ⟨k + 1, hk, hd, fun w hw => ?_, ?_⟩
        · have hyx : y < x := by
            rcases Classical.em (y < x) with h | h
            · exact h
            · exact absurd (List.le_antisymm (List.not_lt.1 h) (List.not_lt.1 hlt)) fun e => hxo (e ▸ hyo)
          rw [List.take_add_one, hy] at hw
          rcases List.mem_append.1 hw with hw | hw
          · have h1 : o = o.take k ++ y :: o.drop (k + 1) := by rw [← hdrop, List.take_append_drop]
            rw [h1] at hp
            exact List.lt_trans ((List.pairwise_append.1 hp).2.2 w hw y List.mem_cons_self) hyx
          · simp only [Option.toList_some, List.mem_singleton] at hw
            rw [hw]
            exact hyx
        · have hst := hput (k + 1) z x hk
          simp only [hix (k + 1) (by omega), hst, callS_canon, callL_canon, Option.map_some, Option.bind_some, shape_one, shape_agg, shape_nil, cellsAt_0, cellsAt_1, cellsAt_2, cellsAt_3, cells_one, cells_agg, cB_zero, cI_zero, cS_zero, cC_zero, cB_cons, cI_cons, cS_cons, cC_cons, cond_true, cond_false, List.length_cons, List.length_nil, beq_self_eq_true, Bool.and_true, Bool.true_and, lenC_encL, lenC_lst, deref_ref, emptyK_nil, bs_size, bs_toList]
          rw [wrap_succ (by omega)]
  have loop : ∀ (r : List Str) (i n : Nat) (o : List Str) (c : Cell) (H : List Entry), xs.drop i = r → i + r.length = xs.length → r.length < n → Grow 1 c H (o.map eStr) → o.length ≤ i → o.Pairwise (· < ·) → (∀ x, x ∈ o ↔ x ∈ xs.take i) → ∀ k m, xs.length < m →
      ∃ (c' : Cell) (H' : List Entry) (o' : List Str), spec_Sorted_l0 k m n (strsC xs) c i H = some ([.one c'], H') ∧ Grow 1 c' H' (o'.map eStr) ∧ o'.Pairwise (· < ·) ∧ ∀ x, x ∈ o' ↔ x ∈ xs := by
    intro r
    induction r with
    | nil =>
      intro i n o c H hd hi hn hg hol hp hm k m hm'
      obtain ⟨n, rfl⟩ : ∃ j, n = j + 1 := ⟨n - 1, by omega⟩
      have h1 := drop_nil hd
      rw [List.take_of_length_le h1] at hm
      refine ⟨c, H, o, ?_, hg, hp, hm⟩
      simp only [spec_Sorted_l0, lenC_encL, Option.bind_some]
      rw [decide_eq_false (by omega), cond_false]
    | cons x r ih =>
      intro i n o c H hd hi hn hg hol hp hm k m hm'
      obtain ⟨n, rfl⟩ : ∃ j, n = j + 1 := ⟨n - 1, by omega⟩
      obtain ⟨hlt, hxi, hd'⟩ := drop_cons hd
      simp only [List.length_cons] at hn hi
      have htake : xs.take (i + 1) = xs.take i ++ [x] := by rw [List.take_add_one, hxi]; rfl
      have hrd : reifyAV false H (.one c) = some (.one (strsC o)) := by
        have := hg.read
        simp only [mapO] at this
        cases h : reifyAV false H (.one c) with
        | none => rw [h] at this; simp at this
        | some y => rw [h] at this; simpa using this
      have q1 : callS run_spec_l1Has [.one c, .one (Cell.str (bs x))] H = some [.one (Cell.bool (o.contains x))] := by
        rw [callS_of (mapO_c hrd (mapO_c (reifyAV_canon _ _ _) (mapO_nil' _)))]
        exact c_spec_l1Has o x (by omega)
      simp only [spec_Sorted_l0, lenC_encL, Option.bind_some]
      rw [decide_eq_true (by omega), cond_true]
      simp only [idxA_encL, hxi, eStr, q1, wrap_succ (show i < maxLen by omega), callS_canon, callL_canon, Option.map_some, Option.bind_some, shape_one, shape_agg, shape_nil, cellsAt_0, cellsAt_1, cellsAt_2, cellsAt_3, cells_one, cells_agg, cB_zero, cI_zero, cS_zero, cC_zero, cB_cons, cI_cons, cS_cons, cC_cons, cond_true, cond_false, List.length_cons, List.length_nil, beq_self_eq_true, Bool.and_true, Bool.true_and, lenC_encL, lenC_lst, deref_ref, emptyK_nil, bs_size, bs_toList]
      by_cases hc : x ∈ o
      · rw [show o.contains x = true by simpa using hc, cond_true]
        exact ih (i + 1) n o c H hd' (by omega) (by omega) hg (by omega) hp (fun w => by
          rw [htake, List.mem_append, ← hm w]
          refine ⟨.inl, fun h => h.elim id fun h => ?_⟩
          simp only [List.mem_singleton] at h
          subst h
          exact hc) k m hm'
      · rw [show o.contains x = false by simpa using hc, cond_false]
        obtain ⟨q, e1, e2⟩ := hg.app (by' := 16) [[Cell.str (bs x)]] (by unfold bound; simp; omega) (by unfold bound; simp; omega)
        have hrows : o.map eStr ++ [[Cell.str (bs x)]] = (o ++ [x]).map eStr := by simp [eStr]
        rw [hrows] at e2
        rcases e2 with ⟨h, _, _⟩ | ⟨ep, h1, h2⟩
        · simp at h
        obtain ⟨qc, qH⟩ := q
        simp only at h1 h2
        subst h1 h2
        have hlen : ((o ++ [x]).map eStr).length = o.length + 1 := by simp
        obtain ⟨k', z1, z2, z3, z4⟩ := inner o x i ep hxi (by omega) hc hp o.length x m (Nat.le_refl _) (by omega) (by simp) (spec_Sorted_l0 k m n) k m
        rw [hlen] at e1
        simp only [e1, Option.bind_some, lenC_vs]
        rw [show IntKind.i64.wrap (((o.length + 1 : Nat) : Int) - 1) = (o.length : Int) from wrap_pred (by omega)]
        simp only [List.take_length, List.drop_length] at z4
        rw [z4]
        have hl2 : (o.take k' ++ x :: o.drop k').length = o.length + 1 := by simp; omega
        have hmem : ∀ w, w ∈ o.take k' ++ x :: o.drop k' ↔ w ∈ o ∨ w = x := by
          intro w
          conv => rhs; rw [← List.take_append_drop k' o]
          simp only [List.mem_append, List.mem_cons]
          constructor
          · rintro (h | h | h)
            · exact .inl (.inl h)
            · exact .inr h
            · exact .inl (.inr h)
          · rintro ((h | h) | h)
            · exact .inl h
            · exact .inr (.inr h)
            · exact .inr (.inl h)
        refine ih (i + 1) n (o.take k' ++ x :: o.drop k') (.vs 0 1 0 (o.length + 1) ep) [Entry.mk 1 ((o.take k' ++ x :: o.drop k').map eStr) ep false] hd' (by omega) (by omega) (.inr ⟨ep, by rw [List.length_map, hl2], rfl⟩) (by rw [hl2]; omega) ?_ ?_ k m hm'
        · have h0 := hp
          rw [← List.take_append_drop k' o] at h0
          obtain ⟨p1, p2, p3⟩ := List.pairwise_append.1 h0
          refine List.pairwise_append.2 ⟨p1, List.pairwise_cons.2 ⟨z2, p2⟩, fun a ha b hb => ?_⟩
          rcases List.mem_cons.1 hb with rfl | hb
          · exact z3 a ha
          · exact p3 a ha b hb
        · intro w
          rw [hmem w, hm w, htake]
          simp
  obtain ⟨c', H', o', h1, h2, h3, h4⟩ := loop xs 0 (xs.length + 1 + 1) [] (.lst true 1 []) [] rfl (by omega) (by omega) (Grow.nil 1) (by simp) (by simp) (by simp) (xs.length + 1 + 1) (xs.length + 1 + 1) (by omega)
  rw [sortedU_unique h3 h4] at h2
  refine outL_of (H := H') (run_spec_Sorted_of (xs.length + 1) ?_) h2.read
  simpa [spec_Sorted] using h1
theorem f_impl_Sorted (xs : List Str) (hx : xs.length ≤ 1073741824) : Fresh run_impl_Sorted true 2 [.one (strsC xs)] [.one (trL 1 trStr (sortedU xs))] := by
  obtain ⟨c1, E1, i1, e1, r1, w1, g1⟩ := freshO (f_slices_Clone_string xs hx) ([] : List Entry) (mapO_canon [.one (strsC xs)] _ _)
  rw [List.nil_append] at e1 r1
  rcases r1 with ⟨h1, _, f, rfl⟩ | ⟨id, off, ep, e, fr, is, rfl, rfl, he, hq, hwh, hl, hr, hs⟩
  · simp only [List.map_eq_nil_iff] at h1
    subst h1
    have hnil : sortedU [] = [] := by simp [sortedU, sortS, Lib.compact, Lib.compactUpTo]
    have h2 : run_slices_Sort_string [.one (.lst f 1 [])] E1 = some ([], E1) := rfl
    have h3 : run_slices_Compact_string [.one (.lst f 1 [])] E1 = some ([.one (.lst f 1 [])], E1) := rfl
    have h4 : run_slices_Clip_string [.one (.lst f 1 [])] E1 = some ([.one (.lst true 1 [])], E1) := run_slices_Clip_string_of 0 (by simp [slices_Clip_string, slcC, fullOf])
    refine Fresh.one (c := .lst true 1 []) (H := E1) (ids := []) (run_impl_Sorted_of 0 ?_) (.inl ⟨by rw [hnil]; rfl, rfl, true, rfl⟩) (by simp)
    simp only [impl_Sorted, e1, h2, h3, h4, callS_canon, callL_canon, Option.map_some, Option.bind_some, shape_one, shape_agg, shape_nil, cellsAt_0, cellsAt_1, cellsAt_2, cellsAt_3, cells_one, cells_agg, cB_zero, cI_zero, cS_zero, cC_zero, cB_cons, cI_cons, cS_cons, cC_cons, cond_true, cond_false, List.length_cons, List.length_nil, beq_self_eq_true, Bool.and_true, Bool.true_and, lenC_encL, lenC_lst, deref_ref, emptyK_nil, bs_size, bs_toList]
  · obtain ⟨rfl, hle⟩ := hwh rfl
    obtain rfl := hq rfl
    rw [List.drop_zero, hle, List.take_of_length_le (Nat.le_refl _)] at hs
    have hrows : e = xs.map eStr := by
      have key : ∀ {is : List Nat} {e : List (List Cell)} {xs : List Str}, Sp (Sp (Rep E1 true true 1)) is e (xs.map trStr) → (∀ r ∈ e, r.length = 1) → e = xs.map eStr := by
        intro is e xs
        induction xs generalizing is e with
        | nil => intro h _; obtain ⟨_, rfl⟩ := h.nil_inv; rfl
        | cons x xs ih =>
          intro h hl
          obtain ⟨i, i', a, as', rfl, rfl, h1, h2⟩ := h.cons_inv
          obtain ⟨r', rfl, h3⟩ := h1.leaf_inv
          have := hl _ List.mem_cons_self
          have : r' = [] := List.eq_nil_of_length_eq_zero (by simpa using this)
          subst this
          rw [ih h2 fun r hr => hl r (List.mem_cons_of_mem _ hr)]
          rfl
      exact key hs hr
    subst hrows
    simp only [List.length_map] at hle
    have hv : vecS E1 id 1 0 (xs.map trStr).length ep = some xs := by
      simp [vecS, entry?, he, strRows_eStr]
      omega
    have h2 : run_slices_Sort_string [.one (.vs id 1 0 (xs.map trStr).length ep)] E1 = some ([], E1.set id ⟨1, (sortS xs).map eStr, ep, false⟩) := by
      show run_sort _ _ = _
      simp only [run_sort, hv]
    have hid : id < E1.length := (List.getElem?_eq_some_iff.1 he).1
    have hv2 : vecS (E1.set id ⟨1, (sortS xs).map eStr, ep, false⟩) id 1 0 (xs.map trStr).length ep = some (sortS xs) := by
      have : (sortS xs).length = xs.length := List.length_mergeSort xs
      simp [vecS, entry?, hid, strRows_eStr, this]
      omega
    have h3 : run_slices_Compact_string [.one (.vs id 1 0 (xs.map trStr).length ep)] (E1.set id ⟨1, (sortS xs).map eStr, ep, false⟩) = some ([.one (.vs id 1 0 (sortedU xs).length ep)], (E1.set id ⟨1, (sortS xs).map eStr, ep, false⟩).set id ⟨1, (sortedU xs).map eStr, ep, false⟩) := by
      show run_compact _ _ = _
      simp only [run_compact, hv2]
      rfl
    rw [List.set_set] at h3
    have h4 : run_slices_Clip_string [.one (.vs id 1 0 (sortedU xs).length ep)] (E1.set id ⟨1, (sortedU xs).map eStr, ep, false⟩) = some ([.one (.vs id 1 0 (sortedU xs).length ep)], E1.set id ⟨1, (sortedU xs).map eStr, ep, false⟩) := run_slices_Clip_string_of 0 (by simp [slices_Clip_string, slcC])
    refine Fresh.one (c := .vs id 1 0 (sortedU xs).length ep) (H := E1.set id ⟨1, (sortedU xs).map eStr, ep, false⟩) (ids := [id]) (run_impl_Sorted_of 0 ?_) (.inr ⟨id, 0, ep, (sortedU xs).map eStr, false, [], by simp, rfl, by simp [hid], fun _ => rfl, fun _ => ⟨rfl, by simp⟩, by simp, ?_, ?_⟩) (by simp)
    · simp only [impl_Sorted, e1, h2, h3, h4, callS_canon, callL_canon, Option.map_some, Option.bind_some, shape_one, shape_agg, shape_nil, cellsAt_0, cellsAt_1, cellsAt_2, cellsAt_3, cells_one, cells_agg, cB_zero, cI_zero, cS_zero, cC_zero, cB_cons, cI_cons, cS_cons, cC_cons, cond_true, cond_false, List.length_cons, List.length_nil, beq_self_eq_true, Bool.and_true, Bool.true_and, lenC_encL, lenC_lst, deref_ref, emptyK_nil, bs_size, bs_toList]
    · intro r hr
      obtain ⟨x, _, rfl⟩ := List.mem_map.1 hr
      rfl
    · rw [List.drop_zero, List.take_of_length_le (by simp)]
      have : ∀ (l : List Str) (G : List Entry), Sp (Sp (Rep G true true 1)) [] (l.map eStr) (l.map trStr) := by
        intro l G
        induction l with
        | nil => exact .nil
        | cons x l ih => exact .cons (i := []) (is := []) (Sp.leaf1 _) ih
      exact this _ _

end Go.Ev
