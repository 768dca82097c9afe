/- What the functions come to (task). Conditions: none. -/
import Derived.Test.YtkpiaalieeacgaaKword
set_option linter.unusedSimpArgs false
set_option linter.unusedVariables false
namespace Go.Ev
open Go
/-! the order of texts -/
def lt (a b : Str) : Bool := Op.bytesLess a b
theorem lt_self (a : Str) : lt a a = false := by
  unfold lt
  induction a with
  | nil => rfl
  | cons x a ih => simp [Op.bytesLess, ih]
theorem lt_not : ∀ (a b : Str), (lt a b || a == b) = !lt b a := by
  unfold lt
  intro a
  induction a with
  | nil => intro b; cases b <;> rfl
  | cons x a ih =>
    intro b
    cases b with
    | nil => rfl
    | cons y b =>
      have h := ih b
      simp only [Op.bytesLess]
      have e : ((x :: a) == (y :: b)) = (x == y && a == b) := rfl
      rw [e]
      rcases Nat.lt_trichotomy x.toNat y.toNat with h1 | h1 | h1
      · have e1 : decide (x < y) = true := by simpa [UInt8.lt_iff_toNat_lt] using h1
        have e2 : decide (y < x) = false := by simp [UInt8.lt_iff_toNat_lt]; omega
        have e3 : (y == x) = false := by simp; intro e; rw [e] at h1; omega
        simp [e1, e2, e3]
      · have e0 := UInt8.toNat_inj.1 h1
        subst e0
        have e1 : decide (x < x) = false := by simp
        simp only [e1, Bool.false_or, beq_self_eq_true, Bool.true_and, h]
      · have e1 : decide (y < x) = true := by simpa [UInt8.lt_iff_toNat_lt] using h1
        have e2 : decide (x < y) = false := by simp [UInt8.lt_iff_toNat_lt]; omega
        have e3 : (x == y) = false := by simp; intro e; rw [e] at h1; omega
        simp [e1, e2, e3]
theorem bl_eq (a b : Str) : Op.bytesLess a b = lt a b := rfl
/-- Ascending, each text once. -/
def asc : List Str → Bool
  | [] => true
  | [_] => true
  | a :: b :: r => lt a b && asc (b :: r)
theorem wrap_pred {i : Nat} (h : i < Go.maxLen) : IntKind.i64.wrap (((i + 1 : Nat) : Int) - 1) = (i : Int) := by
  have := maxLen_eq
  rw [wrap_small (by omega) (by omega)]
  omega
theorem c_spec_l7Ascending (xs : List Str) (hx : xs.length ≤ 1073741824) : out run_spec_l7Ascending [.one (strsC xs)] = some [.one (Cell.bool (asc xs))] := by
  have hM := maxLen_eq
  have loop : ∀ (r : List Str) (p : Str) (i n : Nat), xs[i]? = some p → xs.drop (i + 1) = r → r.length < n → ∀ k m, spec_l7Ascending_l0 k m n (strsC xs) ((i + 1 : Nat) : Int) = some ([.one (Cell.bool (asc (p :: r)))], []) := by
    intro r
    induction r with
    | nil =>
      intro p i n hp hd hn k m
      obtain ⟨n, rfl⟩ : ∃ j, n = j + 1 := ⟨n - 1, by omega⟩
      have := drop_nil hd
      simp only [spec_l7Ascending_l0, lenC_encL, Option.bind_some]
      rw [decide_eq_false (by omega), cond_false]
      rfl
    | cons b r ih =>
      intro p i n hp hd hn k m
      obtain ⟨n, rfl⟩ : ∃ j, n = j + 1 := ⟨n - 1, by omega⟩
      obtain ⟨hlt, hg, hd'⟩ := drop_cons hd
      simp only [List.length_cons] at hn
      simp only [spec_l7Ascending_l0, lenC_encL, Option.bind_some]
      rw [decide_eq_true (by omega), cond_true, wrap_pred (by omega), wrap_succ (by omega)]
      simp only [idxA_encL, hp, hg, eStr, bl_eq, callS_canon, callL_canon, Option.map_some, Option.bind_some, shape_one, shape_agg, shape_nil, cellsAt_0, cellsAt_1, cellsAt_2, cellsAt_3, cells_one, cells_agg, cB_zero, cI_zero, cS_zero, cC_zero, cB_cons, cI_cons, cS_cons, cC_cons, cond_true, cond_false, List.length_cons, List.length_nil, beq_self_eq_true, Bool.and_true, Bool.true_and, lenC_encL, lenC_lst, deref_ref, emptyK_nil, bs_size, bs_toList]
      rw [ih b (i + 1) n hg hd' (by omega)]
      simp only [asc, lt_not]
      cases lt p b <;> rfl
  refine out_of (H := []) (run_spec_l7Ascending_of (xs.length + 1) ?_)
  cases xs with
  | nil =>
    simp only [spec_l7Ascending, spec_l7Ascending_l0, lenC_encL, Option.bind_some]
    rw [decide_eq_false (by simp), cond_false]
    rfl
  | cons a r =>
    have := loop r a 0 (r.length + 1 + 1 + 1) rfl rfl (by omega) (r.length + 1 + 1 + 1) (r.length + 1 + 1 + 1)
    simpa [spec_l7Ascending] using this
theorem c_impl_isAscending (xs : List Str) (hx : xs.length ≤ 1073741824) : out run_impl_isAscending [.one (strsC xs)] = some [.one (Cell.bool (asc xs))] := by
  have hM := maxLen_eq
  have loop : ∀ (r : List Str) (p : Str) (i n : Nat), xs[i]? = some p → xs.drop (i + 1) = r → r.length < n → ∀ k m, impl_isAscending_l0 k m n (strsC xs) ((i + 1 : Nat) : Int) = some ([.one (Cell.bool (asc (p :: r)))], []) := by
    intro r
    induction r with
    | nil =>
      intro p i n hp hd hn k m
      obtain ⟨n, rfl⟩ : ∃ j, n = j + 1 := ⟨n - 1, by omega⟩
      have := drop_nil hd
      simp only [impl_isAscending_l0, lenC_encL, Option.bind_some]
      rw [decide_eq_false (by omega), cond_false]
      rfl
    | cons b r ih =>
      intro p i n hp hd hn k m
      obtain ⟨n, rfl⟩ : ∃ j, n = j + 1 := ⟨n - 1, by omega⟩
      obtain ⟨hlt, hg, hd'⟩ := drop_cons hd
      simp only [List.length_cons] at hn
      simp only [impl_isAscending_l0, lenC_encL, Option.bind_some]
      rw [decide_eq_true (by omega), cond_true, wrap_pred (by omega), wrap_succ (by omega)]
      simp only [idxA_encL, hp, hg, eStr, bl_eq, callS_canon, callL_canon, Option.map_some, Option.bind_some, shape_one, shape_agg, shape_nil, cellsAt_0, cellsAt_1, cellsAt_2, cellsAt_3, cells_one, cells_agg, cB_zero, cI_zero, cS_zero, cC_zero, cB_cons, cI_cons, cS_cons, cC_cons, cond_true, cond_false, List.length_cons, List.length_nil, beq_self_eq_true, Bool.and_true, Bool.true_and, lenC_encL, lenC_lst, deref_ref, emptyK_nil, bs_size, bs_toList]
      rw [ih b (i + 1) n hg hd' (by omega)]
      simp only [asc, lt_not]
      cases lt p b <;> rfl
  refine out_of (H := []) (run_impl_isAscending_of (xs.length + 1) ?_)
  cases xs with
  | nil =>
    simp only [impl_isAscending, impl_isAscending_l0, lenC_encL, Option.bind_some]
    rw [decide_eq_false (by simp), cond_false]
    rfl
  | cons a r =>
    have := loop r a 0 (r.length + 1 + 1 + 1) rfl rfl (by omega) (r.length + 1 + 1 + 1) (r.length + 1 + 1 + 1)
    simpa [impl_isAscending] using this
theorem c_spec_l1Has (xs : List Str) (s : Str) (hx : xs.length ≤ 1073741824) : out run_spec_l1Has [.one (strsC xs), .one (Cell.str (bs s))] = some [.one (Cell.bool (xs.contains s))] := by
  have hM := maxLen_eq
  have loop : ∀ (r : List Str) (i n : Nat), xs.drop i = r → r.length < n → ∀ k m, spec_l1Has_l0 k m n (strsC xs) (bs s) i = some ([.one (Cell.bool (r.contains s))], []) := by
    intro r
    induction r with
    | nil =>
      intro i n hd hn k m
      obtain ⟨n, rfl⟩ : ∃ j, n = j + 1 := ⟨n - 1, by omega⟩
      have := drop_nil hd
      simp only [spec_l1Has_l0, lenC_encL, Option.bind_some]
      rw [decide_eq_false (by omega), cond_false]
      rfl
    | cons b r ih =>
      intro i n hd hn k m
      obtain ⟨n, rfl⟩ : ∃ j, n = j + 1 := ⟨n - 1, by omega⟩
      obtain ⟨hlt, hg, hd'⟩ := drop_cons hd
      simp only [List.length_cons] at hn
      simp only [spec_l1Has_l0, idxA_encL, hg, eStr, callS_canon, callL_canon, Option.map_some, Option.bind_some, shape_one, shape_agg, shape_nil, cellsAt_0, cellsAt_1, cellsAt_2, cellsAt_3, cells_one, cells_agg, cB_zero, cI_zero, cS_zero, cC_zero, cB_cons, cI_cons, cS_cons, cC_cons, cond_true, cond_false, List.length_cons, List.length_nil, beq_self_eq_true, Bool.and_true, Bool.true_and, lenC_encL, lenC_lst, deref_ref, emptyK_nil, bs_size, bs_toList]
      rw [decide_eq_true (by omega), cond_true, wrap_succ (by omega), ih (i + 1) n hd' (by omega), List.contains_cons]
      have : (b == s) = (s == b) := by rw [Bool.eq_iff_iff]; simp only [beq_iff_eq]; exact eq_comm
      rw [this]
      cases (s == b) <;> rfl
  refine out_of (H := []) (run_spec_l1Has_of (xs.length + 1) ?_)
  have := loop xs 0 (xs.length + 1 + 1) rfl (by omega) (xs.length + 1 + 1) (xs.length + 1 + 1)
  simpa [spec_l1Has] using this
/-- The place of a text in a list. -/
def idxS (s : Str) : List Str → Nat → Int
  | [], _ => -1
  | b :: r, i => if s = b then (i : Int) else idxS s r (i + 1)
theorem idxS_ge (s : Str) : ∀ (l : List Str) (i : Nat), (decide (idxS s l i ≥ 0)) = l.contains s := by
  intro l
  induction l with
  | nil => intro i; rfl
  | cons b r ih =>
    intro i
    rw [List.contains_cons]
    by_cases e : s = b
    · have e1 : idxS s (b :: r) i = (i : Int) := if_pos e
      rw [e1, show (s == b) = true by simpa using e, decide_eq_true (by omega)]; rfl
    · have e1 : idxS s (b :: r) i = idxS s r (i + 1) := if_neg e
      rw [e1, ih, show (s == b) = false by simpa using e]; rfl
theorem c_slices_Index_string (xs : List Str) (s : Str) (hx : xs.length ≤ 1073741824) : out run_slices_Index_string [.one (strsC xs), .one (Cell.str (bs s))] = some [.one (Cell.int (idxS s xs 0))] := by
  have hM := maxLen_eq
  have loop : ∀ (r : List Str) (i n : Nat), xs.drop i = r → r.length < n → ∀ k m, slices_Index_string_l0 k m n (strsC xs) (bs s) xs.length i = some ([.one (Cell.int (idxS s r i))], []) := by
    intro r
    induction r with
    | nil =>
      intro i n hd hn k m
      obtain ⟨n, rfl⟩ : ∃ j, n = j + 1 := ⟨n - 1, by omega⟩
      have := drop_nil hd
      simp only [slices_Index_string_l0]
      rw [decide_eq_false (by omega), cond_false]
      rfl
    | cons b r ih =>
      intro i n hd hn k m
      obtain ⟨n, rfl⟩ : ∃ j, n = j + 1 := ⟨n - 1, by omega⟩
      obtain ⟨hlt, hg, hd'⟩ := drop_cons hd
      simp only [List.length_cons] at hn
      simp only [slices_Index_string_l0, idxA_encL, hg, eStr, callS_canon, callL_canon, Option.map_some, Option.bind_some, shape_one, shape_agg, shape_nil, cellsAt_0, cellsAt_1, cellsAt_2, cellsAt_3, cells_one, cells_agg, cB_zero, cI_zero, cS_zero, cC_zero, cB_cons, cI_cons, cS_cons, cC_cons, cond_true, cond_false, List.length_cons, List.length_nil, beq_self_eq_true, Bool.and_true, Bool.true_and, lenC_encL, lenC_lst, deref_ref, emptyK_nil, bs_size, bs_toList]
      rw [decide_eq_true (by omega), cond_true, wrap_succ (by omega), ih (i + 1) n hd' (by omega)]
      simp only [idxS]
      by_cases e : s = b
      · rw [show (s == b) = true by simpa using e, if_pos e]; rfl
      · rw [show (s == b) = false by simpa using e, if_neg e]; rfl
  refine out_of (H := []) (run_slices_Index_string_of (xs.length + 1) ?_)
  have := loop xs 0 (xs.length + 1 + 1) rfl (by omega) (xs.length + 1 + 1) (xs.length + 1 + 1)
  simpa [slices_Index_string] using this
theorem c_slices_Contains_string (xs : List Str) (s : Str) (hx : xs.length ≤ 1073741824) : out run_slices_Contains_string [.one (strsC xs), .one (Cell.str (bs s))] = some [.one (Cell.bool (xs.contains s))] := by
  refine out_of (H := []) (run_slices_Contains_string_of 0 ?_)
  simp only [slices_Contains_string, c_slices_Index_string xs s hx, callS_canon, callL_canon, Option.map_some, Option.bind_some, shape_one, shape_agg, shape_nil, cellsAt_0, cellsAt_1, cellsAt_2, cellsAt_3, cells_one, cells_agg, cB_zero, cI_zero, cS_zero, cC_zero, cB_cons, cI_cons, cS_cons, cC_cons, cond_true, cond_false, List.length_cons, List.length_nil, beq_self_eq_true, Bool.and_true, Bool.true_and, lenC_encL, lenC_lst, deref_ref, emptyK_nil, bs_size, bs_toList, idxS_ge]
theorem c_impl_isTask (s : Str) (hs : s.length ≤ 1073741824) : out run_impl_isTask [.one (Cell.str (bs s))] = some [.one (Cell.bool (parseTask s).2.2)] := by
  refine out_of (H := []) (run_impl_isTask_of 0 ?_)
  simp only [impl_isTask, c_impl_ParseTask s hs, parseTaskV, callS_canon, callL_canon, Option.map_some, Option.bind_some, shape_one, shape_agg, shape_nil, cellsAt_0, cellsAt_1, cellsAt_2, cellsAt_3, cells_one, cells_agg, cB_zero, cI_zero, cS_zero, cC_zero, cB_cons, cI_cons, cS_cons, cC_cons, cond_true, cond_false, List.length_cons, List.length_nil, beq_self_eq_true, Bool.and_true, Bool.true_and, lenC_encL, lenC_lst, deref_ref, emptyK_nil, bs_size, bs_toList]
/-- What is asked of each task and what it waits for. -/
def taskOk (all : List Str) (t : Str) (d : List Str) : Bool := (parseTask t).2.2 && (asc d && d.all fun s => all.contains s)
def tasksOk (all : List Str) : List Str → List (List Str) → Bool
  | t :: ts, d :: ds => taskOk all t d && tasksOk all ts ds
  | _, _ => true
def planOk (p : MPlan) : Bool := decide (p.Tasks.length ≤ 16) && (decide (p.Deps.length = p.Tasks.length) && (asc p.Tasks && tasksOk p.Tasks p.Tasks p.Deps))
theorem c_impl_PlanOk (p : MPlan) (hp : p.Bd 1048576) : out run_impl_PlanOk [.agg [strsC p.Tasks, encL 1 eStrs p.Deps]] = some [.one (Cell.bool (planOk p))] := by
  have hM := maxLen_eq
  obtain ⟨T, D⟩ := p
  obtain ⟨⟨hT, hTs⟩, ⟨hD, hDs⟩⟩ := hp
  simp only at hT hTs hD hDs ⊢
  have hT' : T.length ≤ 1073741824 := by omega
  have inner : ∀ (b : Cell → Int → Int → Cell → Cell → Option Res) (d : List Str) (hd : d.length ≤ 1048576) (i : Int) (r : List Str) (j n : Nat), d.drop j = r → r.length < n → ∀ k m,
      impl_PlanOk_l1 k m b n (strsC T) T.length i (strsC d) d.length j (strsC T) (encL 1 eStrs D) = cond (r.all fun s => T.contains s) (b (strsC T) T.length (IntKind.i64.wrap (i + 1)) (strsC T) (encL 1 eStrs D)) (some ([.one (Cell.bool false)], [])) := by
    intro b d hd i r
    induction r with
    | nil =>
      intro j n hdr hn k m
      obtain ⟨n, rfl⟩ : ∃ j, n = j + 1 := ⟨n - 1, by omega⟩
      have := drop_nil hdr
      simp only [impl_PlanOk_l1]
      rw [decide_eq_false (by omega)]
      rfl
    | cons x r ih =>
      intro j n hdr hn k m
      obtain ⟨n, rfl⟩ : ∃ j, n = j + 1 := ⟨n - 1, by omega⟩
      obtain ⟨hlt, hg, hd'⟩ := drop_cons hdr
      simp only [List.length_cons] at hn
      simp only [impl_PlanOk_l1, idxA_encL, hg, eStr, c_slices_Contains_string T x hT', callS_canon, callL_canon, Option.map_some, Option.bind_some, shape_one, shape_agg, shape_nil, cellsAt_0, cellsAt_1, cellsAt_2, cellsAt_3, cells_one, cells_agg, cB_zero, cI_zero, cS_zero, cC_zero, cB_cons, cI_cons, cS_cons, cC_cons, cond_true, cond_false, List.length_cons, List.length_nil, beq_self_eq_true, Bool.and_true, Bool.true_and, lenC_encL, lenC_lst, deref_ref, emptyK_nil, bs_size, bs_toList]
      rw [decide_eq_true (by omega), cond_true, wrap_succ (by omega), ih (j + 1) n hd' (by omega), List.all_cons]
      cases T.contains x <;> rfl
  have loop : T.length = D.length → ∀ (ts : List Str) (ds : List (List Str)) (i n m : Nat), T.drop i = ts → D.drop i = ds → ts.length < n → 1048577 ≤ m → ∀ k,
      impl_PlanOk_l0 k m n (strsC T) T.length i (strsC T) (encL 1 eStrs D) = some ([.one (Cell.bool (tasksOk T ts ds))], []) := by
    intro hl ts
    induction ts with
    | nil =>
      intro ds i n m hd he hn hm k
      obtain ⟨n, rfl⟩ : ∃ j, n = j + 1 := ⟨n - 1, by omega⟩
      have := drop_nil hd
      simp only [impl_PlanOk_l0]
      rw [decide_eq_false (by omega)]
      rfl
    | cons t ts ih =>
      intro ds i n m hd he hn hm k
      obtain ⟨n, rfl⟩ : ∃ j, n = j + 1 := ⟨n - 1, by omega⟩
      obtain ⟨hlt, hg, hd'⟩ := drop_cons hd
      cases ds with
      | nil => have := drop_nil he; omega
      | cons d ds =>
      obtain ⟨hlt2, hg2, he'⟩ := drop_cons he
      simp only [List.length_cons] at hn
      have ht : t.length ≤ 1048576 := hTs t (List.mem_of_getElem? hg)
      have hdl : d.length ≤ 1048576 := (hDs d (List.mem_of_getElem? hg2)).1
      simp only [impl_PlanOk_l0, idxA_encL, hg, hg2, eStr, eStrs, c_impl_isTask t (by omega), c_impl_isAscending d (by omega), callS_canon, callL_canon, Option.map_some, Option.bind_some, shape_one, shape_agg, shape_nil, cellsAt_0, cellsAt_1, cellsAt_2, cellsAt_3, cells_one, cells_agg, cB_zero, cI_zero, cS_zero, cC_zero, cB_cons, cI_cons, cS_cons, cC_cons, cond_true, cond_false, List.length_cons, List.length_nil, beq_self_eq_true, Bool.and_true, Bool.true_and, lenC_encL, lenC_lst, deref_ref, emptyK_nil, bs_size, bs_toList]
      rw [decide_eq_true (by omega), cond_true]
      have := inner (impl_PlanOk_l0 k m n) d hdl i d 0 m rfl (by omega) k m
      simp only [Int.natCast_zero] at this
      rw [this, wrap_succ (by omega), ih ds (i + 1) n m hd' he' (by omega) hm k]
      simp only [tasksOk, taskOk]
      cases (parseTask t).2.2 <;> cases asc d <;> cases (d.all fun s => T.contains s) <;> rfl
  refine out_of (H := []) (run_impl_PlanOk_of 1048577 ?_)
  simp only [impl_PlanOk, c_impl_isAscending T hT', callS_canon, callL_canon, Option.map_some, Option.bind_some, shape_one, shape_agg, shape_nil, cellsAt_0, cellsAt_1, cellsAt_2, cellsAt_3, cells_one, cells_agg, cB_zero, cI_zero, cS_zero, cC_zero, cB_cons, cI_cons, cS_cons, cC_cons, cond_true, cond_false, List.length_cons, List.length_nil, beq_self_eq_true, Bool.and_true, Bool.true_and, lenC_encL, lenC_lst, deref_ref, emptyK_nil, bs_size, bs_toList, planOk]
  by_cases h1 : T.length ≤ 16
  · rw [decide_eq_false (by omega), cond_false, decide_eq_true h1, Bool.true_and]
    by_cases h2 : D.length = T.length
    · rw [show (((D.length : Nat) : Int) != (T.length : Int)) = false by simp [h2], cond_false, decide_eq_true h2, Bool.true_and]
      have := loop h2.symm T D 0 (1048577 + 1) (1048577 + 1) rfl rfl (by omega) (by omega) (1048577 + 1)
      simp only [Int.natCast_zero] at this
      rw [this]
      cases asc T <;> rfl
    · rw [show (((D.length : Nat) : Int) != (T.length : Int)) = true by simp only [bne_iff_ne, ne_eq]; omega, cond_true, decide_eq_false h2, Bool.false_and]
  · rw [decide_eq_true (by omega), cond_true, decide_eq_false h1, Bool.false_and]
/-- The tasks in order, behind a first one, with what is asked of each. -/
def chainOk (all : List Str) : Option Str → List Str → List (List Str) → Bool
  | p, t :: ts, d :: ds => asc d && ((match p with | some p => lt p t | none => true) && ((parseTask t).2.2 && ((d.all fun s => all.contains s) && chainOk all (some t) ts ds)))
  | _, _, _ => true
theorem chain_eq (all : List Str) : ∀ (ts : List Str) (ds : List (List Str)) (p : Option Str), ts.length = ds.length → chainOk all p ts ds = ((match p with | some p => asc (p :: ts) | none => asc ts) && tasksOk all ts ds) := by
  intro ts
  induction ts with
  | nil => intro ds p _; cases p <;> cases ds <;> rfl
  | cons t ts ih =>
    intro ds p hl
    cases ds with
    | nil => simp at hl
    | cons d ds =>
      simp only [chainOk, ih ds (some t) (by simpa using hl), tasksOk, taskOk]
      cases p with
      | none => cases asc d <;> cases (parseTask t).2.2 <;> cases (d.all fun s => all.contains s) <;> cases asc (t :: ts) <;> rfl
      | some p =>
        simp only [asc]
        cases asc d <;> cases (parseTask t).2.2 <;> cases (d.all fun s => all.contains s) <;> cases asc (t :: ts) <;> cases lt p t <;> rfl
theorem c_spec_PlanOk (p : MPlan) (hp : p.Bd 1048576) : out run_spec_PlanOk [.agg [strsC p.Tasks, encL 1 eStrs p.Deps]] = some [.one (Cell.bool (planOk p))] := by
  have hM := maxLen_eq
  obtain ⟨T, D⟩ := p
  obtain ⟨⟨hT, hTs⟩, ⟨hD, hDs⟩⟩ := hp
  simp only at hT hTs hD hDs ⊢
  have hT' : T.length ≤ 1073741824 := by omega
  have inner : ∀ (b : Int → Cell → Cell → Option Res) (d : List Str) (hd : d.length ≤ 1048576) (i : Nat) (hi : D[i]? = some d) (r : List Str) (j n : Nat), d.drop j = r → r.length < n → ∀ k m,
      spec_PlanOk_l1 k m b n i j (strsC T) (encL 1 eStrs D) = cond (r.all fun s => T.contains s) (b (IntKind.i64.wrap ((i : Int) + 1)) (strsC T) (encL 1 eStrs D)) (some ([.one (Cell.bool false)], [])) := by
    intro b d hd i hi r
    induction r with
    | nil =>
      intro j n hdr hn k m
      obtain ⟨n, rfl⟩ : ∃ j, n = j + 1 := ⟨n - 1, by omega⟩
      have := drop_nil hdr
      simp only [spec_PlanOk_l1, idxA_encL, hi, eStrs, callS_canon, callL_canon, Option.map_some, Option.bind_some, shape_one, shape_agg, shape_nil, cellsAt_0, cellsAt_1, cellsAt_2, cellsAt_3, cells_one, cells_agg, cB_zero, cI_zero, cS_zero, cC_zero, cB_cons, cI_cons, cS_cons, cC_cons, cond_true, cond_false, List.length_cons, List.length_nil, beq_self_eq_true, Bool.and_true, Bool.true_and, lenC_encL, lenC_lst, deref_ref, emptyK_nil, bs_size, bs_toList]
      rw [decide_eq_false (by omega)]
      rfl
    | cons x r ih =>
      intro j n hdr hn k m
      obtain ⟨n, rfl⟩ : ∃ j, n = j + 1 := ⟨n - 1, by omega⟩
      obtain ⟨hlt, hg, hd'⟩ := drop_cons hdr
      simp only [List.length_cons] at hn
      simp only [spec_PlanOk_l1, idxA_encL, hi, hg, eStr, eStrs, c_spec_l1Has T x hT', callS_canon, callL_canon, Option.map_some, Option.bind_some, shape_one, shape_agg, shape_nil, cellsAt_0, cellsAt_1, cellsAt_2, cellsAt_3, cells_one, cells_agg, cB_zero, cI_zero, cS_zero, cC_zero, cB_cons, cI_cons, cS_cons, cC_cons, cond_true, cond_false, List.length_cons, List.length_nil, beq_self_eq_true, Bool.and_true, Bool.true_and, lenC_encL, lenC_lst, deref_ref, emptyK_nil, bs_size, bs_toList]
      rw [decide_eq_true (by omega), cond_true, wrap_succ (by omega), ih (j + 1) n hd' (by omega), List.all_cons]
      cases T.contains x <;> rfl
  have loop : T.length = D.length → ∀ (ts : List Str) (ds : List (List Str)) (i n m : Nat), T.drop i = ts → D.drop i = ds → ts.length < n → 1048577 ≤ m → ∀ k,
      spec_PlanOk_l0 k m n i (strsC T) (encL 1 eStrs D) = some ([.one (Cell.bool (chainOk T (if i = 0 then none else T[i - 1]?) ts ds))], []) := by
    intro hl ts
    induction ts with
    | nil =>
      intro ds i n m hd he hn hm k
      obtain ⟨n, rfl⟩ : ∃ j, n = j + 1 := ⟨n - 1, by omega⟩
      have := drop_nil hd
      simp only [spec_PlanOk_l0, callS_canon, callL_canon, Option.map_some, Option.bind_some, shape_one, shape_agg, shape_nil, cellsAt_0, cellsAt_1, cellsAt_2, cellsAt_3, cells_one, cells_agg, cB_zero, cI_zero, cS_zero, cC_zero, cB_cons, cI_cons, cS_cons, cC_cons, cond_true, cond_false, List.length_cons, List.length_nil, beq_self_eq_true, Bool.and_true, Bool.true_and, lenC_encL, lenC_lst, deref_ref, emptyK_nil, bs_size, bs_toList]
      rw [decide_eq_false (by omega)]
      rfl
    | cons t ts ih =>
      intro ds i n m hd he hn hm k
      obtain ⟨n, rfl⟩ : ∃ j, n = j + 1 := ⟨n - 1, by omega⟩
      obtain ⟨hlt, hg, hd'⟩ := drop_cons hd
      cases ds with
      | nil => have := drop_nil he; omega
      | cons d ds =>
      obtain ⟨hlt2, hg2, he'⟩ := drop_cons he
      simp only [List.length_cons] at hn
      have ht : t.length ≤ 1048576 := hTs t (List.mem_of_getElem? hg)
      have hdl : d.length ≤ 1048576 := (hDs d (List.mem_of_getElem? hg2)).1
      have hin := inner (spec_PlanOk_l0 k m n) d hdl i hg2 d 0 m rfl (by omega) k m
      simp only [Int.natCast_zero] at hin
      have hih := ih ds (i + 1) n m hd' he' (by omega) hm k
      rw [if_neg (by omega), Nat.add_sub_cancel, hg] at hih
      simp only [spec_PlanOk_l0, idxA_encL, hg, hg2, eStr, eStrs, c_spec_l7Ascending d (by omega), c_spec_ParseTask t (by omega), parseTaskV, bl_eq, callS_canon, callL_canon, Option.map_some, Option.bind_some, shape_one, shape_agg, shape_nil, cellsAt_0, cellsAt_1, cellsAt_2, cellsAt_3, cells_one, cells_agg, cB_zero, cI_zero, cS_zero, cC_zero, cB_cons, cI_cons, cS_cons, cC_cons, cond_true, cond_false, List.length_cons, List.length_nil, beq_self_eq_true, Bool.and_true, Bool.true_and, lenC_encL, lenC_lst, deref_ref, emptyK_nil, bs_size, bs_toList]
      rw [decide_eq_true (by omega), cond_true, hin, wrap_succ (by omega), hih]
      cases i with
      | zero =>
        rw [decide_eq_false (by omega), cond_false]
        simp only [chainOk, if_true]
        cases (parseTask t).2.2 <;> cases asc d <;> cases (d.all fun s => T.contains s) <;> rfl
      | succ i =>
        obtain ⟨p, hp⟩ : ∃ p, T[i]? = some p := ⟨T[i]'(by omega), List.getElem?_eq_getElem _⟩
        rw [decide_eq_true (by omega), cond_true, wrap_pred (by omega), if_neg (by omega), Nat.add_sub_cancel, hp]
        simp only [idxA_encL, hp, eStr, bl_eq, callS_canon, callL_canon, Option.map_some, Option.bind_some, shape_one, shape_agg, shape_nil, cellsAt_0, cellsAt_1, cellsAt_2, cellsAt_3, cells_one, cells_agg, cB_zero, cI_zero, cS_zero, cC_zero, cB_cons, cI_cons, cS_cons, cC_cons, cond_true, cond_false, List.length_cons, List.length_nil, beq_self_eq_true, Bool.and_true, Bool.true_and, lenC_encL, lenC_lst, deref_ref, emptyK_nil, bs_size, bs_toList, chainOk]
        cases (parseTask t).2.2 <;> cases asc d <;> cases (d.all fun s => T.contains s) <;> cases lt p t <;> rfl
  refine out_of (H := []) (run_spec_PlanOk_of 1048577 ?_)
  simp only [spec_PlanOk, callS_canon, callL_canon, Option.map_some, Option.bind_some, shape_one, shape_agg, shape_nil, cellsAt_0, cellsAt_1, cellsAt_2, cellsAt_3, cells_one, cells_agg, cB_zero, cI_zero, cS_zero, cC_zero, cB_cons, cI_cons, cS_cons, cC_cons, cond_true, cond_false, List.length_cons, List.length_nil, beq_self_eq_true, Bool.and_true, Bool.true_and, lenC_encL, lenC_lst, deref_ref, emptyK_nil, bs_size, bs_toList, planOk]
  by_cases h2 : D.length = T.length
  · rw [show (((T.length : Nat) : Int) != (D.length : Int)) = false by simp [h2], cond_false, decide_eq_true h2, Bool.true_and]
    by_cases h1 : T.length ≤ 16
    · rw [decide_eq_false (by omega), cond_false, decide_eq_true h1, Bool.true_and]
      have := loop h2.symm T D 0 (1048577 + 1) (1048577 + 1) rfl rfl (by omega) (by omega) (1048577 + 1)
      simp only [Int.natCast_zero, if_true] at this
      rw [this, chain_eq T T D none h2.symm]
    · rw [decide_eq_true (by omega), cond_true, decide_eq_false h1, Bool.false_and]
  · rw [show (((T.length : Nat) : Int) != (D.length : Int)) = true by simp only [bne_iff_ne, ne_eq]; omega, cond_true, decide_eq_false h2, Bool.false_and, Bool.and_false]

end Go.Ev
