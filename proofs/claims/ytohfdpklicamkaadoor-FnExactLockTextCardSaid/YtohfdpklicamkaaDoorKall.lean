/- What the functions come to. Conditions: none. -/
import Derived.Test.YtohfdpklicamkaaDoorEvCon
set_option linter.unusedSimpArgs false
set_option linter.unusedVariables false
namespace Go.Ev
open Go
/-! names -/
def inR (x a b : Int) : Bool := decide (a ≤ x) && decide (x ≤ b)
def isSmall (b : UInt8) : Bool := inR b.toNat 97 122
def isFigure (b : UInt8) : Bool := inR b.toNat 48 57
def nameGo (first : Bool) : Str → Bool
  | [] => true
  | b :: r => (isSmall b || (!first && (isFigure b || b == 45))) && nameGo false r
def nameOk (s : Str) : Bool := nameGo true s && inR s.length 1 10
theorem u8_eq (b : UInt8) (n : Nat) (h : n < 256) : ((b.toNat : Int) == (n : Int)) = (b == UInt8.ofNat n) := by
  rw [Bool.eq_iff_iff]
  simp only [beq_iff_eq]
  constructor
  · intro e
    apply UInt8.toNat_inj.1
    have : (UInt8.ofNat n).toNat = n := by simp; omega
    omega
  · intro e
    have : (UInt8.ofNat n).toNat = n := by simp; omega
    rw [e, this]
theorem u8_ne (b : UInt8) (n : Nat) (h : n < 256) : ((b.toNat : Int) != (n : Int)) = (b != UInt8.ofNat n) := by
  simp only [bne, u8_eq b n h]
theorem u8_lt (b : UInt8) : (b.toNat : Int) < 256 := by have := b.toNat_lt; omega
theorem c_spec_l1In (x a b : Int) : out run_spec_l1In [.one (Cell.int x), .one (Cell.int a), .one (Cell.int b)] = some [.one (Cell.bool (inR x a b))] := by
  refine out_of (H := []) (run_spec_l1In_of 0 ?_)
  simp only [spec_l1In, inR]
  by_cases h : a ≤ x
  · rw [decide_eq_true (by omega : x ≥ a), cond_true, Bool.true_and]
  · rw [decide_eq_false (by omega : ¬ x ≥ a), cond_false, Bool.false_and]
theorem c_impl_inRange (x a b : Int) : out run_impl_inRange [.one (Cell.int x), .one (Cell.int a), .one (Cell.int b)] = some [.one (Cell.bool (inR x a b))] := by
  refine out_of (H := []) (run_impl_inRange_of 0 ?_)
  simp only [impl_inRange, inR]
  by_cases h : a ≤ x
  · rw [decide_eq_true (by omega : x ≥ a), cond_true, Bool.true_and]
  · rw [decide_eq_false (by omega : ¬ x ≥ a), cond_false, Bool.false_and]
theorem c_spec_l1Small (b : UInt8) : out run_spec_l1Small [.one (.sc (.int .u8 (b.toNat : Int)))] = some [.one (Cell.bool (isSmall b))] := by
  have := u8_lt b
  refine out_of (H := []) (run_spec_l1Small_of 0 ?_)
  simp only [spec_l1Small, wrap_small (n := (b.toNat : Int)) (by omega) (by omega), c_spec_l1In, callS_canon, callL_canon, Option.map_some, Option.bind_some, shape_one, shape_agg, shape_nil, cellsAt_0, cellsAt_1, cellsAt_2, cellsAt_3, cells_one, cells_agg, cB_zero, cI_zero, cS_zero, cC_zero, cB_cons, cI_cons, cS_cons, cC_cons, cond_true, cond_false, List.length_cons, List.length_nil, beq_self_eq_true, Bool.and_true, Bool.true_and, lenC_encL, lenC_lst, deref_ref, emptyK_nil, bs_size, bs_toList, isSmall]
theorem c_spec_l1Digit (b : UInt8) : out run_spec_l1Digit [.one (.sc (.int .u8 (b.toNat : Int)))] = some [.one (Cell.bool (isFigure b))] := by
  have := u8_lt b
  refine out_of (H := []) (run_spec_l1Digit_of 0 ?_)
  simp only [spec_l1Digit, wrap_small (n := (b.toNat : Int)) (by omega) (by omega), c_spec_l1In, callS_canon, callL_canon, Option.map_some, Option.bind_some, shape_one, shape_agg, shape_nil, cellsAt_0, cellsAt_1, cellsAt_2, cellsAt_3, cells_one, cells_agg, cB_zero, cI_zero, cS_zero, cC_zero, cB_cons, cI_cons, cS_cons, cC_cons, cond_true, cond_false, List.length_cons, List.length_nil, beq_self_eq_true, Bool.and_true, Bool.true_and, lenC_encL, lenC_lst, deref_ref, emptyK_nil, bs_size, bs_toList, isFigure]
theorem c_impl_isSmall (b : UInt8) : out run_impl_isSmall [.one (.sc (.int .u8 (b.toNat : Int)))] = some [.one (Cell.bool (isSmall b))] := by
  refine out_of (H := []) (run_impl_isSmall_of 0 ?_)
  simp only [impl_isSmall, isSmall, inR]
  by_cases h : (97 : Int) ≤ b.toNat
  · rw [decide_eq_true (by omega : (b.toNat : Int) ≥ 97), cond_true, Bool.true_and]
  · rw [decide_eq_false (by omega : ¬ (b.toNat : Int) ≥ 97), cond_false, Bool.false_and]
theorem c_impl_isFigure (b : UInt8) : out run_impl_isFigure [.one (.sc (.int .u8 (b.toNat : Int)))] = some [.one (Cell.bool (isFigure b))] := by
  refine out_of (H := []) (run_impl_isFigure_of 0 ?_)
  simp only [impl_isFigure, isFigure, inR]
  by_cases h : (48 : Int) ≤ b.toNat
  · rw [decide_eq_true (by omega : (b.toNat : Int) ≥ 48), cond_true, Bool.true_and]
  · rw [decide_eq_false (by omega : ¬ (b.toNat : Int) ≥ 48), cond_false, Bool.false_and]
theorem c_spec_NameOk (s : Str) (hs : s.length ≤ 1073741824) : out run_spec_NameOk [.one (Cell.str (bs s))] = some [.one (Cell.bool (nameOk s))] := by
  have hM := maxLen_eq
  have loop : ∀ (r : Str) (i n : Nat), s.drop i = r → r.length < n → ∀ k m, spec_NameOk_l0 k m n (bs s) i = some ([.one (Cell.bool (nameGo (i == 0) r && inR s.length 1 10))], []) := by
    intro r
    induction r with
    | nil =>
      intro i n hd hn k m
      obtain ⟨n, rfl⟩ : ∃ j, n = j + 1 := ⟨n - 1, by omega⟩
      have := drop_nil hd
      simp only [spec_NameOk_l0, bs_size]
      rw [decide_eq_false (by omega), cond_false]
      simp only [c_spec_l1In, callS_canon, callL_canon, Option.map_some, Option.bind_some, shape_one, shape_agg, shape_nil, cellsAt_0, cellsAt_1, cellsAt_2, cellsAt_3, cells_one, cells_agg, cB_zero, cI_zero, cS_zero, cC_zero, cB_cons, cI_cons, cS_cons, cC_cons, cond_true, cond_false, List.length_cons, List.length_nil, beq_self_eq_true, Bool.and_true, Bool.true_and, lenC_encL, lenC_lst, deref_ref, emptyK_nil, bs_size, bs_toList, nameGo]
    | cons b r ih =>
      intro i n hd hn k m
      obtain ⟨n, rfl⟩ : ∃ j, n = j + 1 := ⟨n - 1, by omega⟩
      obtain ⟨hlt, hg, hd'⟩ := drop_cons hd
      simp only [List.length_cons] at hn
      have hz : ((i : Int) == 0) = (i == 0) := by rw [Bool.eq_iff_iff]; simp
      simp only [spec_NameOk_l0, bytS_bs, hg, c_spec_l1Small, c_spec_l1Digit, callS_canon, callL_canon, Option.map_some, Option.bind_some, shape_one, shape_agg, shape_nil, cellsAt_0, cellsAt_1, cellsAt_2, cellsAt_3, cells_one, cells_agg, cB_zero, cI_zero, cS_zero, cC_zero, cB_cons, cI_cons, cS_cons, cC_cons, cond_true, cond_false, List.length_cons, List.length_nil, beq_self_eq_true, Bool.and_true, Bool.true_and, lenC_encL, lenC_lst, deref_ref, emptyK_nil, bs_size, bs_toList]
      rw [decide_eq_true (by omega), cond_true, wrap_succ (by omega), ih (i + 1) n hd' (by omega)]
      have h45 : ((b.toNat : Int) != 45) = !(b == 45) := u8_ne b 45 (by omega)
      simp only [nameGo, hz, show ((i + 1 : Nat) == 0) = false from rfl, h45]
      cases isSmall b <;> cases isFigure b <;> cases (b == 45) <;> cases (i == 0) <;> rfl
  refine out_of (H := []) (run_spec_NameOk_of (s.length + 1) ?_)
  have := loop s 0 (s.length + 1 + 1) rfl (by omega) (s.length + 1 + 1) (s.length + 1 + 1)
  simpa [spec_NameOk, nameOk] using this
theorem c_impl_NameOk (s : Str) (hs : s.length ≤ 1073741824) : out run_impl_NameOk [.one (Cell.str (bs s))] = some [.one (Cell.bool (nameOk s))] := by
  have hM := maxLen_eq
  have loop : ∀ (r : Str) (i n : Nat), s.drop i = r → r.length < n → ∀ k m, impl_NameOk_l0 k m n (bs s) i = some ([.one (Cell.bool (nameGo (i == 0) r && inR s.length 1 10))], []) := by
    intro r
    induction r with
    | nil =>
      intro i n hd hn k m
      obtain ⟨n, rfl⟩ : ∃ j, n = j + 1 := ⟨n - 1, by omega⟩
      have := drop_nil hd
      simp only [impl_NameOk_l0, bs_size]
      rw [decide_eq_false (by omega), cond_false]
      simp only [c_impl_inRange, callS_canon, callL_canon, Option.map_some, Option.bind_some, shape_one, shape_agg, shape_nil, cellsAt_0, cellsAt_1, cellsAt_2, cellsAt_3, cells_one, cells_agg, cB_zero, cI_zero, cS_zero, cC_zero, cB_cons, cI_cons, cS_cons, cC_cons, cond_true, cond_false, List.length_cons, List.length_nil, beq_self_eq_true, Bool.and_true, Bool.true_and, lenC_encL, lenC_lst, deref_ref, emptyK_nil, bs_size, bs_toList, nameGo]
    | cons b r ih =>
      intro i n hd hn k m
      obtain ⟨n, rfl⟩ : ∃ j, n = j + 1 := ⟨n - 1, by omega⟩
      obtain ⟨hlt, hg, hd'⟩ := drop_cons hd
      simp only [List.length_cons] at hn
      have hz : ((i : Int) == 0) = (i == 0) := by rw [Bool.eq_iff_iff]; simp
      simp only [impl_NameOk_l0, bytS_bs, hg, c_impl_isSmall, c_impl_isFigure, callS_canon, callL_canon, Option.map_some, Option.bind_some, shape_one, shape_agg, shape_nil, cellsAt_0, cellsAt_1, cellsAt_2, cellsAt_3, cells_one, cells_agg, cB_zero, cI_zero, cS_zero, cC_zero, cB_cons, cI_cons, cS_cons, cC_cons, cond_true, cond_false, List.length_cons, List.length_nil, beq_self_eq_true, Bool.and_true, Bool.true_and, lenC_encL, lenC_lst, deref_ref, emptyK_nil, bs_size, bs_toList]
      rw [decide_eq_true (by omega), cond_true, wrap_succ (by omega), ih (i + 1) n hd' (by omega)]
      have h45 : ((b.toNat : Int) != 45) = !(b == 45) := u8_ne b 45 (by omega)
      simp only [nameGo, hz, show ((i + 1 : Nat) == 0) = false from rfl, h45]
      cases isSmall b <;> cases isFigure b <;> cases (b == 45) <;> cases (i == 0) <;> rfl
  refine out_of (H := []) (run_impl_NameOk_of (s.length + 1) ?_)
  have := loop s 0 (s.length + 1 + 1) rfl (by omega) (s.length + 1 + 1) (s.length + 1 + 1)
  simpa [impl_NameOk, nameOk] using this
/-! parts of a text -/
/-- The parts between which a byte stands; cur: what stands ahead already. -/
def splitGo (c : UInt8) (cur : Str) : Str → List Str
  | [] => [cur]
  | b :: r => if b = c then cur :: splitGo c [] r else splitGo c (cur ++ [b]) r
def split (c : UInt8) (s : Str) : List Str := splitGo c [] s
/-- What stands ahead of the first such byte, and behind it. -/
def ahead (c : UInt8) (s : Str) : Str := s.takeWhile (· != c)
def behind (c : UInt8) (s : Str) : Str := (s.dropWhile (· != c)).drop 1

theorem splitGo_length (c : UInt8) : ∀ (s cur : Str), (splitGo c cur s).length ≤ s.length + 1 ∧ ∀ x ∈ splitGo c cur s, x.length ≤ cur.length + s.length := by
  intro s
  induction s with
  | nil => intro cur; simp [splitGo]
  | cons b r ih =>
    intro cur
    simp only [splitGo]
    split
    · obtain ⟨h1, h2⟩ := ih []
      refine ⟨by simp; omega, fun x hx => ?_⟩
      rcases List.mem_cons.1 hx with rfl | hx
      · simp
      · have := h2 x hx; simp at this; simp; omega
    · obtain ⟨h1, h2⟩ := ih (cur ++ [b])
      refine ⟨by simp; omega, fun x hx => ?_⟩
      have := h2 x hx; simp at this; simp; omega

theorem splitGo_not {c : UInt8} : ∀ {s : Str} (cur : Str), c ∉ s → splitGo c cur s = [cur ++ s] := by
  intro s
  induction s with
  | nil => intro cur _; simp [splitGo]
  | cons b r ih =>
    intro cur h
    simp only [List.mem_cons, not_or] at h
    simp only [splitGo]
    rw [if_neg fun e => h.1 e.symm, ih _ h.2]
    simp

theorem splitGo_cut {c : UInt8} : ∀ {s : Str} (cur : Str), c ∈ s → splitGo c cur s = (cur ++ ahead c s) :: splitGo c [] (behind c s) := by
  intro s
  induction s with
  | nil => intro cur h; simp at h
  | cons b r ih =>
    intro cur h
    simp only [splitGo]
    by_cases e : b = c
    · subst e
      simp [ahead, behind]
    · rw [if_neg e, ih _ (by simpa [Ne.symm e] using h)]
      simp [ahead, behind, e]

theorem split_not {c : UInt8} {s : Str} (h : c ∉ s) : split c s = [s] := splitGo_not [] h
theorem split_cut {c : UInt8} {s : Str} (h : c ∈ s) : split c s = ahead c s :: split c (behind c s) := splitGo_cut [] h
theorem splitGo_ne {c : UInt8} : ∀ (s cur : Str), splitGo c cur s ≠ [] := by
  intro s
  induction s with
  | nil => intro cur; simp [splitGo]
  | cons b r ih => intro cur; simp only [splitGo]; split <;> simp [ih]
theorem ahead_le (c : UInt8) (s : Str) : (ahead c s).length ≤ s.length := by
  have := (List.takeWhile_prefix (fun x => x != c) (l := s)).length_le
  exact this
theorem behind_le (c : UInt8) (s : Str) : (behind c s).length ≤ s.length := by
  have := (List.dropWhile_suffix (fun x => x != c) (l := s)).length_le
  simp only [behind, List.length_drop]
  omega
theorem ahead_not {c : UInt8} (s : Str) : c ∉ ahead c s := by
  induction s with
  | nil => simp [ahead]
  | cons b r ih =>
    unfold ahead
    rw [List.takeWhile_cons]
    split
    · rename_i h
      intro hm
      rcases List.mem_cons.1 hm with e | e
      · rw [← e] at h; simp at h
      · exact ih e
    · simp

theorem nameGo_mem : ∀ {s : Str} {f : Bool}, nameGo f s = true → ∀ b ∈ s, isSmall b = true ∨ isFigure b = true ∨ b = 45 := by
  intro s
  induction s with
  | nil => intro f _ b hb; simp at hb
  | cons c r ih =>
    intro f h b hb
    simp only [nameGo, Bool.and_eq_true, Bool.or_eq_true, beq_iff_eq] at h
    rcases List.mem_cons.1 hb with rfl | hb
    · rcases h.1 with h1 | h1
      · exact .inl h1
      · rcases h1.2 with h2 | h2
        · exact .inr (.inl h2)
        · exact .inr (.inr h2)
    · exact ih h.2 b hb
theorem nameOk_not {s : Str} (h : nameOk s = true) : (35 : UInt8) ∉ s ∧ (94 : UInt8) ∉ s := by
  simp only [nameOk, Bool.and_eq_true] at h
  constructor <;> intro hb <;> rcases nameGo_mem h.1 _ hb with h | h | h <;> revert h <;> decide
theorem nameOk_nil : nameOk [] = false := rfl
theorem ahead_all {c : UInt8} {s : Str} (h : c ∉ s) : ahead c s = s := by
  induction s with
  | nil => rfl
  | cons b r ih =>
    simp only [List.mem_cons, not_or] at h
    have : ahead c (b :: r) = b :: ahead c r := by simp [ahead, Ne.symm h.1]
    rw [this, ih h.2]
theorem behind_none {c : UInt8} {s : Str} (h : c ∉ s) : behind c s = [] := by
  induction s with
  | nil => rfl
  | cons b r ih =>
    simp only [List.mem_cons, not_or] at h
    have : behind c (b :: r) = behind c r := by simp [behind, Ne.symm h.1]
    rw [this, ih h.2]
/-! tasks -/
def parseTask (s : Str) : Str × Str × Bool := if nameOk (ahead 35 s) && nameOk (behind 35 s) then (ahead 35 s, behind 35 s, true) else ([], [], false)
def parseTaskV (s : Str) : List AV := [.one (Cell.str (bs (parseTask s).1)), .one (Cell.str (bs (parseTask s).2.1)), .one (Cell.bool (parseTask s).2.2)]
theorem not_mem_behind {c : UInt8} {s : Str} (h : c ∉ s) (d : UInt8) : d ∉ behind c s := by
  rw [behind_none h]
  simp
/-- A text without what stands ahead of it. -/
def trimP (p s : Str) : Str := if p.isPrefixOf s then s.drop p.length else s
def onOk (s : Str) : Bool := if 35 ∈ s then nameOk (ahead 35 s) && nameOk (behind 35 s) else nameOk (trimP [94] s)
theorem bytS_head (b : UInt8) (r : Str) : bytS (bs (b :: r)) 0 = some (b.toNat : Int) := by
  have := bytS_bs (b :: r) 0
  simpa using this
/-! the order of texts -/
def lt (a b : Str) : Bool := Op.bytesLess a b
theorem lt_self (a : Str) : lt a a = false := by
  unfold lt
  induction a with
  | nil => rfl
  | cons x a ih => simp [Op.bytesLess, ih]
theorem lt_not : ∀ (a b : Str), (lt a b || a == b) = !lt b a := by
  unfold lt
  intro a
  induction a with
  | nil => intro b; cases b <;> rfl
  | cons x a ih =>
    intro b
    cases b with
    | nil => rfl
    | cons y b =>
      have h := ih b
      simp only [Op.bytesLess]
      have e : ((x :: a) == (y :: b)) = (x == y && a == b) := rfl
      rw [e]
      rcases Nat.lt_trichotomy x.toNat y.toNat with h1 | h1 | h1
      · have e1 : decide (x < y) = true := by simpa [UInt8.lt_iff_toNat_lt] using h1
        have e2 : decide (y < x) = false := by simp [UInt8.lt_iff_toNat_lt]; omega
        have e3 : (y == x) = false := by simp; intro e; rw [e] at h1; omega
        simp [e1, e2, e3]
      · have e0 := UInt8.toNat_inj.1 h1
        subst e0
        have e1 : decide (x < x) = false := by simp
        simp only [e1, Bool.false_or, beq_self_eq_true, Bool.true_and, h]
      · have e1 : decide (y < x) = true := by simpa [UInt8.lt_iff_toNat_lt] using h1
        have e2 : decide (x < y) = false := by simp [UInt8.lt_iff_toNat_lt]; omega
        have e3 : (x == y) = false := by simp; intro e; rw [e] at h1; omega
        simp [e1, e2, e3]
theorem bl_eq (a b : Str) : Op.bytesLess a b = lt a b := rfl
/-- Ascending, each text once. -/
def asc : List Str → Bool
  | [] => true
  | [_] => true
  | a :: b :: r => lt a b && asc (b :: r)
theorem wrap_pred {i : Nat} (h : i < Go.maxLen) : IntKind.i64.wrap (((i + 1 : Nat) : Int) - 1) = (i : Int) := by
  have := maxLen_eq
  rw [wrap_small (by omega) (by omega)]
  omega
/-- The place of a text in a list. -/
def idxS (s : Str) : List Str → Nat → Int
  | [], _ => -1
  | b :: r, i => if s = b then (i : Int) else idxS s r (i + 1)
theorem idxS_ge (s : Str) : ∀ (l : List Str) (i : Nat), (decide (idxS s l i ≥ 0)) = l.contains s := by
  intro l
  induction l with
  | nil => intro i; rfl
  | cons b r ih =>
    intro i
    rw [List.contains_cons]
    by_cases e : s = b
    · have e1 : idxS s (b :: r) i = (i : Int) := if_pos e
      rw [e1, show (s == b) = true by simpa using e, decide_eq_true (by omega)]; rfl
    · have e1 : idxS s (b :: r) i = idxS s r (i + 1) := if_neg e
      rw [e1, ih, show (s == b) = false by simpa using e]; rfl
theorem idxS_nat (s : Str) : ∀ (l : List Str) (i : Nat), (idxS s l i = -1 ∧ s ∉ l) ∨ ∃ j x, idxS s l i = ((i + j : Nat) : Int) ∧ l[j]? = some x := by
  intro l
  induction l with
  | nil => intro i; exact .inl ⟨rfl, by simp⟩
  | cons b r ih =>
    intro i
    by_cases e : s = b
    · exact .inr ⟨0, b, by simp [idxS, e], rfl⟩
    · rcases ih (i + 1) with ⟨h1, h2⟩ | ⟨j, x, h1, h2⟩
      · exact .inl ⟨by simp [idxS, e, h1], by simp [e, h2]⟩
      · exact .inr ⟨j + 1, x, by simp only [idxS, if_neg e, h1]; congr 1; omega, by simpa using h2⟩
/-- What a name leans on. -/
def nextOf (names : List Str) (next : List (List Str)) (s : Str) : List Str := if idxS s names 0 < 0 then [] else (next[(idxS s names 0).toNat]?).getD []
theorem idxS_take (s : Str) (n : Nat) : ∀ (l : List Str) (i : Nat), (idxS s (l.take n) i = idxS s l i ∧ idxS s l i < ((i + n : Nat) : Int)) ∨ (idxS s (l.take n) i = -1 ∧ ((i + n : Nat) : Int) ≤ idxS s l i) := by
  induction n with
  | zero =>
    intro l i
    rcases idxS_nat s l i with ⟨h1, _⟩ | ⟨j, x, h1, _⟩
    · exact .inl ⟨by rw [h1]; rfl, by rw [h1]; omega⟩
    · exact .inr ⟨rfl, by rw [h1]; omega⟩
  | succ n ih =>
    intro l i
    cases l with
    | nil => exact .inl ⟨rfl, by simp only [idxS]; omega⟩
    | cons b r =>
      by_cases e : s = b
      · exact .inl ⟨by simp [idxS, e], by simp only [idxS, if_pos e]; omega⟩
      · simp only [List.take_succ_cons, idxS, if_neg e]
        have := ih r (i + 1)
        rw [show i + 1 + n = i + (n + 1) by omega] at this
        exact this
/-- What names lean on is not asked behind the shorter of both. -/
theorem nextOf_take (names : List Str) (next : List (List Str)) (s : Str) : nextOf (names.take (min names.length next.length)) (next.take (min names.length next.length)) s = nextOf names next s := by
  unfold nextOf
  rcases idxS_take s (min names.length next.length) names 0 with ⟨h1, h2⟩ | ⟨h1, h2⟩
  · rw [h1]
    split
    · rfl
    · rw [List.getElem?_take, if_pos (by omega)]
  · rw [h1, if_pos (by omega), if_neg (by omega)]
    rcases idxS_nat s names 0 with ⟨h3, _⟩ | ⟨j, x, h3, h4⟩
    · rw [h3] at h2; omega
    · have hj := (List.getElem?_eq_some_iff.1 h4).1
      rw [h3] at h2 ⊢
      rw [List.getElem?_eq_none (by omega)]
      rfl
/-- The place of the first element that answers. -/
def idxF {α : Type} (p : α → Bool) : List α → Nat → Int
  | [], _ => -1
  | x :: r, i => cond (p x) (i : Int) (idxF p r (i + 1))
theorem idxF_find {α : Type} (p : α → Bool) : ∀ (l : List α) (i : Nat), (idxF p l i = -1 ∧ l.find? p = none) ∨ ∃ (j : Nat) (x : α), idxF p l i = ((i + j : Nat) : Int) ∧ l[j]? = some x ∧ l.find? p = some x := by
  intro l
  induction l with
  | nil => intro i; exact .inl ⟨rfl, rfl⟩
  | cons b r ih =>
    intro i
    by_cases e : p b = true
    · exact .inr ⟨0, b, by simp [idxF, e], rfl, by simp [e]⟩
    · rcases ih (i + 1) with ⟨h1, h2⟩ | ⟨j, x, h1, h2, h3⟩
      · exact .inl ⟨by simp [idxF, e, h1], by simp [e, h2]⟩
      · exact .inr ⟨j + 1, x, by simp only [idxF, Bool.eq_false_iff.2 e, cond_false, h1]; congr 1; omega, by simpa using h2, by simp [e, h3]⟩
/-- What a name leans on is in order already, or is no name. -/
def readyB (names : List Str) (next : List (List Str)) (s : Str) (done : List Str) : Bool := (nextOf names next s).all fun x => !(names.contains x && !done.contains x)
def freeB (names : List Str) (next : List (List Str)) (done : List Str) (s : Str) : Bool := !done.contains s && readyB names next s done
def orderGo (names : List Str) (next : List (List Str)) : Nat → List Str → List Str × Bool
  | 0, o => (o, true)
  | d + 1, o => match names.find? (freeB names next o) with
    | some s => orderGo names next d (o ++ [s])
    | none => ([], false)
def orderOf (names : List Str) (next : List (List Str)) : List Str × Bool := orderGo names next names.length []
theorem orderGo_le (names : List Str) (next : List (List Str)) : ∀ (d : Nat) (o : List Str), (orderGo names next d o).1.length ≤ d + o.length ∧ ∀ x ∈ (orderGo names next d o).1, x ∈ o ∨ x ∈ names := by
  intro d
  induction d with
  | zero => intro o; exact ⟨by simp [orderGo], fun x hx => .inl hx⟩
  | succ d ih =>
    intro o
    simp only [orderGo]
    split
    · rename_i s hs
      obtain ⟨h1, h2⟩ := ih (o ++ [s])
      refine ⟨by simp at h1; omega, fun x hx => ?_⟩
      rcases h2 x hx with h | h
      · rcases List.mem_append.1 h with h | h
        · exact .inl h
        · simp only [List.mem_singleton] at h
          subst h
          exact .inr (List.mem_of_find?_eq_some hs)
      · exact .inr h
    · exact ⟨by simp, by simp⟩
theorem orderOf_le (names : List Str) (next : List (List Str)) : (orderOf names next).1.length ≤ names.length ∧ ∀ x ∈ (orderOf names next).1, x ∈ names := by
  obtain ⟨h1, h2⟩ := orderGo_le names next names.length []
  exact ⟨by simpa [orderOf] using h1, fun x hx => (h2 x hx).resolve_left (by simp)⟩
theorem nextOf_le {names : List Str} {next : List (List Str)} (h : ∀ d ∈ next, d.length ≤ 1073741824) (s : Str) : (nextOf names next s).length ≤ 1073741824 := by
  unfold nextOf
  split
  · simp
  · cases hd : next[(idxS s names 0).toNat]? with
    | none => simp
    | some d => exact h d (List.mem_of_getElem? hd)
/-! texts in their order, each once -/
theorem lt_iff : ∀ (a b : Str), lt a b = true ↔ a < b := by
  intro a
  unfold lt
  induction a with
  | nil => intro b; cases b <;> simp [Op.bytesLess]
  | cons x a ih =>
    intro b
    cases b with
    | nil => simp [Op.bytesLess]
    | cons y b => rw [List.cons_lt_cons_iff, ← ih b]; simp [Op.bytesLess]
theorem strict_unique : ∀ {a b : List Str}, a.Pairwise (· < ·) → b.Pairwise (· < ·) → (∀ x, x ∈ a ↔ x ∈ b) → a = b := by
  intro a
  induction a with
  | nil =>
    intro b _ _ h
    cases b with
    | nil => rfl
    | cons y b => exact absurd ((h y).2 List.mem_cons_self) (by simp)
  | cons x a ih =>
    intro b ha hb h
    cases b with
    | nil => exact absurd ((h x).1 List.mem_cons_self) (by simp)
    | cons y b =>
      obtain ⟨a1, a2⟩ := List.pairwise_cons.1 ha
      obtain ⟨b1, b2⟩ := List.pairwise_cons.1 hb
      have hxy : x = y := by
        rcases List.mem_cons.1 ((h x).1 List.mem_cons_self) with e | e
        · exact e
        · rcases List.mem_cons.1 ((h y).2 List.mem_cons_self) with e' | e'
          · exact e'.symm
          · exact absurd (List.lt_trans (b1 x e) (a1 y e')) (List.lt_irrefl _)
      subst hxy
      congr 1
      refine ih a2 b2 fun z => ⟨fun hz => ?_, fun hz => ?_⟩
      · rcases List.mem_cons.1 ((h z).1 (List.mem_cons_of_mem _ hz)) with rfl | e
        · exact absurd (a1 z hz) (List.lt_irrefl _)
        · exact e
      · rcases List.mem_cons.1 ((h z).2 (List.mem_cons_of_mem _ hz)) with rfl | e
        · exact absurd (b1 z hz) (List.lt_irrefl _)
        · exact e
def sortedU (xs : List Str) : List Str := Lib.compact (sortS xs)
theorem sortedU_spec (xs : List Str) : (sortedU xs).Pairwise (· < ·) ∧ ∀ x, x ∈ sortedU xs ↔ x ∈ xs := by
  have hp : (sortS xs).Pairwise (fun a b => a ≤ b) := by
    have := List.pairwise_mergeSort (le := fun x y : Str => decide (x ≤ y)) (fun a b c h1 h2 => by simp only [decide_eq_true_eq] at *; exact List.le_trans h1 h2) (fun a b => by simpa using List.le_total a b) xs
    simpa [sortS] using this
  have hm : ∀ x, x ∈ sortS xs ↔ x ∈ xs := fun x => List.mem_mergeSort
  generalize hs : sortS xs = s at hp hm
  have key : ∀ m, m < s.length → ∃ C, Lib.compactUpTo s.toArray (m + 1) = C ++ [s[m]!] ∧ (C ++ [s[m]!]).Pairwise (· < ·) ∧ ∀ x, x ∈ C ++ [s[m]!] ↔ x ∈ s.take (m + 1) := by
    intro m
    induction m with
    | zero =>
      intro h
      obtain ⟨x, r, rfl⟩ : ∃ x r, s = x :: r := by cases s with | nil => simp at h | cons x r => exact ⟨x, r, rfl⟩
      exact ⟨[], by rw [Lib.compactUpTo_succ]; simp [Lib.compactUpTo, Lib.keeps], by simp, by simp⟩
    | succ m ih =>
      intro h
      obtain ⟨C, h1, h2, h3⟩ := ih (by omega)
      have e0 : s[m]! = s[m] := by simp [show m < s.length by omega]
      have e1 : s[m + 1]! = s[m + 1] := by simp [h]
      have ht : s.take (m + 1 + 1) = s.take (m + 1) ++ [s[m + 1]] := by rw [List.take_add_one, List.getElem?_eq_getElem h]; rfl
      have hle : s[m] ≤ s[m + 1] := List.pairwise_iff_getElem.1 hp m (m + 1) (by omega) h (by omega)
      rw [Lib.compactUpTo_succ, h1]
      have hk : Lib.keeps s.toArray (m + 1) = decide (s[m + 1] ≠ s[m]) := by
        simp [Lib.keeps, h, show m < s.length by omega]
      rw [hk, e1, ht]
      by_cases he : s[m + 1] = s[m]
      · refine ⟨C, by simp [he, e0], by rw [he, ← e0]; exact h2, fun x => ?_⟩
        have h4 := h3 x
        rw [e0] at h4
        rw [he]
        constructor
        · exact fun h => List.mem_append_left _ (h4.1 h)
        · intro h
          rcases List.mem_append.1 h with h | h
          · exact h4.2 h
          · exact List.mem_append_right _ h
      · refine ⟨C ++ [s[m]!], by simp [he, h], ?_, fun x => ?_⟩
        · refine List.pairwise_append.2 ⟨h2, by simp, fun a ha b hb => ?_⟩
          simp only [List.mem_singleton] at hb
          subst hb
          have hlt : s[m] < s[m + 1] := by
            rcases Classical.em (s[m] < s[m + 1]) with h | h
            · exact h
            · exact absurd (List.le_antisymm (List.not_lt.1 h) hle) he
          rcases List.mem_append.1 ha with ha | ha
          · have := (List.pairwise_append.1 h2).2.2 a ha s[m]! (by simp)
            rw [e0] at this
            exact List.lt_trans this hlt
          · simp only [List.mem_singleton] at ha
            rw [ha, e0]
            exact hlt
        · rw [List.mem_append, h3 x, List.mem_append]
  unfold sortedU
  rw [hs]
  cases hl : s.length with
  | zero =>
    have : s = [] := List.eq_nil_of_length_eq_zero hl
    subst this
    exact ⟨by simp [Lib.compact, Lib.compactUpTo], fun x => by rw [← hm x]; simp [Lib.compact, Lib.compactUpTo]⟩
  | succ m =>
    obtain ⟨C, h1, h2, h3⟩ := key m (by omega)
    have he : Lib.compact s = C ++ [s[m]!] := by rw [Lib.compact, hl, h1]
    rw [he]
    refine ⟨h2, fun x => ?_⟩
    rw [h3 x, ← hm x, List.take_of_length_le (by omega)]
theorem sortedU_unique {o xs : List Str} (h1 : o.Pairwise (· < ·)) (h2 : ∀ x, x ∈ o ↔ x ∈ xs) : o = sortedU xs :=
  strict_unique h1 (sortedU_spec xs).1 fun x => (h2 x).trans ((sortedU_spec xs).2 x).symm
theorem sortedU_le (xs : List Str) : (sortedU xs).length ≤ xs.length := Nat.le_trans (compact_le _) (Nat.le_of_eq (List.length_mergeSort xs))
open Classical in
/-- What is reached from a text, in order. -/
noncomputable def reachS (nx : Str → List Str) (a : Str) : List Str := if h : ∃ o : List Str, ∀ x, x ∈ o ↔ Reach nx a x then sortedU h.choose else []
theorem reachS_eq {nx : Str → List Str} {a : Str} {o : List Str} (h : ∀ x, x ∈ o ↔ Reach nx a x) : reachS nx a = sortedU o := by
  have hh : ∃ o : List Str, ∀ x, x ∈ o ↔ Reach nx a x := ⟨o, h⟩
  unfold reachS
  rw [dif_pos hh]
  refine strict_unique (sortedU_spec _).1 (sortedU_spec _).1 fun x => ?_
  rw [(sortedU_spec _).2 x, (sortedU_spec _).2 x, h x, hh.choose_spec x]
theorem reach_congr {nx ny : Str → List Str} (h : ∀ x y, y ∈ nx x ↔ y ∈ ny x) {a x : Str} (hr : Reach nx a x) : Reach ny a x := by
  induction hr with
  | one hb => exact .one ((h _ _).1 hb)
  | step _ k ih => exact .step ih ((h _ _).1 k)
theorem reachS_congr {nx ny : Str → List Str} (h : ∀ x y, y ∈ nx x ↔ y ∈ ny x) {a : Str} {o : List Str} (ho : ∀ x, x ∈ o ↔ Reach nx a x) : reachS ny a = reachS nx a := by
  rw [reachS_eq ho]
  refine reachS_eq fun x => (ho x).trans ⟨reach_congr h, reach_congr fun a b => (h a b).symm⟩
theorem reach_fin {nx : Str → List Str} {s : Str} {U : List Str} (hm : ∀ x, ∀ y ∈ nx x, y ∈ U) : ∃ o : List Str, ∀ x, x ∈ o ↔ Reach nx s x := by
  classical
  refine ⟨U.filter fun x => decide (Reach nx s x), fun x => ?_⟩
  rw [List.mem_filter, decide_eq_true_eq]
  refine ⟨fun h => h.2, fun h => ⟨?_, h⟩⟩
  cases h with
  | one h => exact hm _ _ h
  | step _ k => exact hm _ _ k
theorem pairwise_nodup {l : List Str} (h : l.Pairwise (· < ·)) : l.Nodup := h.imp fun h e => by subst e; exact List.lt_irrefl _ h
theorem reachS_bd {nx : Str → List Str} {s : Str} {U : List Str} (hm : ∀ x, ∀ y ∈ nx x, y ∈ U) : (reachS nx s).length ≤ U.length ∧ ∀ x ∈ reachS nx s, x ∈ U := by
  obtain ⟨o, ho⟩ := reach_fin (s := s) hm
  rw [reachS_eq ho]
  obtain ⟨h1, h2⟩ := sortedU_spec o
  have h3 : ∀ x ∈ sortedU o, x ∈ U := fun x hx => by
    cases (ho x).1 ((h2 x).1 hx) with
    | one h => exact hm _ _ h
    | step _ k => exact hm _ _ k
  exact ⟨nodup_le (pairwise_nodup h1) h3, h3⟩
theorem nextOf_mem {names : List Str} {next : List (List Str)} {x y : Str} (h : y ∈ nextOf names next x) : ∃ d ∈ next, y ∈ d := by
  unfold nextOf at h
  split at h
  · simp at h
  · cases hd : next[(idxS x names 0).toNat]? with
    | none => rw [hd] at h; simp at h
    | some d => rw [hd] at h; exact ⟨d, List.mem_of_getElem? hd, h⟩
def taskName (p t : Str) : Str := p ++ [35] ++ t
def isPath (b : UInt8) : Bool := isSmall b || (isFigure b || (b == 46 || (b == 45 || b == 95)))
def fileOk (s : Str) : Bool := s.all isPath && (inR s.length 1 12 && (!(s == [46]) && !(s == [46, 46])))
theorem last_at {W : List Str} (h : 0 < W.length) (k : Nat) (hk : k < W.length) : ∃ x, W[k]? = some x := ⟨W[k], List.getElem?_eq_getElem hk⟩
theorem wrap_sub {n k : Nat} (h : k ≤ n) (hn : n ≤ 1073741824 + 1) : IntKind.i64.wrap ((n : Int) - (k : Int)) = ((n - k : Nat) : Int) := by
  rw [wrap_small (by omega) (by omega)]
  omega
def hasNil (W : List Str) : Bool := W.contains []
theorem hasNil_mem (W : List Str) : hasNil W = true ↔ [] ∈ W := by unfold hasNil; simp
theorem hasNil_cons (w : Str) (W : List Str) : hasNil (w :: W) = ((w == []) || hasNil W) := by
  unfold hasNil
  rw [List.contains_cons]
  cases w <;> rfl
def actKind (w : Str) (n : Nat) (into : Bool) : Bool :=
  bif w == [112, 117, 116] then decide (2 ≤ n) && into
  else bif w == [99, 97, 116] then inR n 2 4 && into
  else bif w == [101, 110, 118] then decide (n = 2) && into
  else bif w == [117, 115, 101] then decide (n = 3) && into
  else bif w == [108, 111, 103] then decide (2 ≤ n) && !into
  else bif w == [102, 97, 105, 108] then decide (n = 1) && !into
  else false
def actW (W : List Str) : Bool := !hasNil W && bif decide (3 ≤ W.length) && (W[W.length - 2]? == some [62]) then fileOk ((W[W.length - 1]?).getD []) && actKind ((W[0]?).getD []) (W.length - 2) true else actKind ((W[0]?).getD []) W.length false
def actOk (s : Str) : Bool := actW (split 32 s)
theorem n_ge (n k : Nat) : decide ((n : Int) ≥ (k : Int)) = decide (k ≤ n) := by rw [decide_eq_decide]; omega
theorem n_gt (n k : Nat) : decide ((n : Int) > (k : Int)) = decide (k < n) := by rw [decide_eq_decide]; omega
theorem n_eq (n k : Nat) : ((n : Int) == (k : Int)) = decide (n = k) := by rw [Bool.eq_iff_iff]; simp; omega
def kindS (w : Str) (n : Nat) (to lg : Bool) : Bool :=
  bif w == [112, 117, 116] then decide (2 ≤ n) && to
  else bif w == [99, 97, 116] then inR n 2 4 && to
  else bif w == [101, 110, 118] then decide (n = 2) && to
  else bif w == [117, 115, 101] then decide (n = 3) && to
  else bif w == [108, 111, 103] then decide (2 ≤ n) && lg
  else bif w == [102, 97, 105, 108] then decide (n = 1) && lg
  else false
theorem kindS_true (w : Str) (n : Nat) : kindS w n true false = actKind w n true := by
  unfold kindS actKind
  rfl
theorem kindS_false (w : Str) (n : Nat) : kindS w n false true = actKind w n false := by
  unfold kindS actKind
  rfl
theorem kindS_none (w : Str) (n : Nat) : kindS w n false false = false := by
  unfold kindS
  simp
def specB : List Str → Str → Bool → Bool
  | [], _, _ => false
  | w :: l, y, b => !hasNil (w :: l) && kindS w (l.length + 1) (fileOk y) (y == [] && !b)
def pathOk (s : Str) : Bool := (split 47 s).all fileOk && decide ((split 47 s).length ≤ 4)
theorem n_le (n k : Nat) : decide ((n : Int) ≤ (k : Int)) = decide (n ≤ k) := by rw [decide_eq_decide]; omega
def isAl (b : UInt8) : Bool := isSmall b || isFigure b
/-- Behind a bracket: how many bytes up to the closing one. -/
def clsGo : Str → Nat → Option Nat
  | [], _ => none
  | b :: r, c => bif isAl b then (clsGo r (c + 1)).map (· + 1) else bif inR c 1 5 && b == 93 then some 1 else none
theorem clsGo_cons (b : UInt8) (r : Str) (c : Nat) : clsGo (b :: r) c = bif isAl b then (clsGo r (c + 1)).map (· + 1) else bif inR c 1 5 && b == 93 then some 1 else none := rfl
def unitN : Str → Nat
  | [] => 0
  | b :: t => bif b == 91 then (match t with
      | [] => 0
      | d :: t' => bif d == 33 then (match clsGo t' 0 with | some n => n + 2 | none => 0) else (match clsGo (d :: t') 0 with | some n => n + 1 | none => 0))
    else bif isPath b || (b == 63 || b == 42) then 1 else 0
def pieceGo : Nat → Str → Nat → Bool
  | _, [], c => inR c 1 12
  | 0, _ :: _, _ => false
  | n + 1, b :: t, c => bif unitN (b :: t) == 0 then false else pieceGo n ((b :: t).drop (unitN (b :: t))) (c + 1)
def pieceOk (s : Str) : Bool := pieceGo s.length s 0
def globOk (s : Str) : Bool := (split 47 s).all pieceOk && decide ((split 47 s).length ≤ 4)
theorem clsGo_le : ∀ (r : Str) (c n : Nat), clsGo r c = some n → 1 ≤ n ∧ n ≤ r.length := by
  intro r
  induction r with
  | nil => intro c n h; simp [clsGo] at h
  | cons b r ih =>
    intro c n h
    unfold clsGo at h
    cases hb : isAl b with
    | true =>
      rw [hb, cond_true, Option.map_eq_some_iff] at h
      obtain ⟨j, h1, rfl⟩ := h
      obtain ⟨h2, h3⟩ := ih _ _ h1
      simp
      omega
    | false =>
      rw [hb, cond_false] at h
      cases hc : inR (c : Int) 1 5 && b == 93 with
      | true => rw [hc, cond_true] at h; simp only [Option.some.injEq] at h; simp; omega
      | false => rw [hc, cond_false] at h; simp at h
theorem unitN_le (s : Str) : unitN s ≤ s.length := by
  cases s with
  | nil => simp [unitN]
  | cons b t =>
    cases hb : b == 91 with
    | true =>
      cases t with
      | nil => simp only [unitN, hb, cond_true]; omega
      | cons d t' =>
        cases hd : d == 33 with
        | true =>
          simp only [unitN, hb, hd, cond_true]
          split
          · rename_i n h
            have := (clsGo_le _ _ _ h).2
            simp
            omega
          · omega
        | false =>
          simp only [unitN, hb, hd, cond_true, cond_false]
          split
          · rename_i n h
            have := (clsGo_le _ _ _ h).2
            simp at this ⊢
            omega
          · omega
    | false =>
      simp only [unitN, hb, cond_false]
      cases isPath b || (b == 63 || b == 42) <;> simp
theorem u8_int (b : UInt8) (n : Nat) (h : n < 256) : ((b.toNat : Int) == (n : Int)) = (b == UInt8.ofNat n) := u8_eq b n h
def sinceS : Str := [91, 115, 105, 110, 99, 101, 93]
def dotS : Str := [46, 46, 46]
def sufB (p s : Str) : Bool := decide (p.length ≤ s.length) && (s.drop (s.length - p.length) == p)
/-- A filter that is neither turned nor widened: may it stand? -/
def plainF (s : Str) : Bool := s == sinceS || (pieceOk s && decide (s.length ≤ 20))
def oneGo : Nat → Str → Bool
  | 0, s => plainF s
  | d + 1, s => bif List.isPrefixOf [33] s then oneGo d (s.drop 1) else bif List.isPrefixOf dotS s then oneGo d (s.drop 3) else bif sufB dotS s then oneGo d (s.take (s.length - 3)) else plainF s
def oneOk (s : Str) : Bool := oneGo s.length s
def filterOk (s : Str) : Bool := (split 32 s).all oneOk && decide ((split 32 s).length ≤ 4)
theorem oneGo_ge : ∀ (d e : Nat) (s : Str), s.length ≤ d → s.length ≤ e → oneGo d s = oneGo e s := by
  intro d
  induction d with
  | zero =>
    intro e s h1 h2
    have : s = [] := List.eq_nil_of_length_eq_zero (by omega)
    subst this
    cases e <;> rfl
  | succ d ih =>
    intro e s h1 h2
    cases e with
    | zero =>
      have : s = [] := List.eq_nil_of_length_eq_zero (by omega)
      subst this
      rfl
    | succ e =>
      unfold oneGo
      cases h3 : List.isPrefixOf [33] s with
      | true => 
        have := (List.isPrefixOf_iff_prefix.1 h3).length_le
        simp only [List.length_cons, List.length_nil] at this
        simp only [cond_true]
        exact ih e _ (by simp; omega) (by simp; omega)
      | false =>
        cases h4 : List.isPrefixOf dotS s with
        | true =>
          have := (List.isPrefixOf_iff_prefix.1 h4).length_le
          simp only [dotS, List.length_cons, List.length_nil] at this
          simp only [cond_true, cond_false]
          exact ih e _ (by simp; omega) (by simp; omega)
        | false =>
          cases h5 : sufB dotS s with
          | true =>
            have : 3 ≤ s.length := by simp [sufB, dotS] at h5; omega
            simp only [cond_true, cond_false]
            exact ih e _ (by simp; omega) (by simp; omega)
          | false => rfl
theorem clsGo_no : ∀ (r : Str) (c n : Nat), clsGo r c = some n → 47 ∉ r.take n := by
  intro r
  induction r with
  | nil => intro c n h; simp [clsGo] at h
  | cons b r ih =>
    intro c n h
    rw [clsGo_cons] at h
    cases hb : isAl b with
    | true =>
      rw [hb, cond_true, Option.map_eq_some_iff] at h
      obtain ⟨j, h1, rfl⟩ := h
      rw [List.take_succ_cons, List.mem_cons, not_or]
      refine ⟨?_, ih _ _ h1⟩
      rintro rfl
      exact absurd hb (by decide)
    | false =>
      rw [hb, cond_false] at h
      cases hc : inR (c : Int) 1 5 && b == 93 with
      | true =>
        rw [hc, cond_true] at h
        simp only [Option.some.injEq] at h
        subst h
        simp only [Bool.and_eq_true, beq_iff_eq] at hc
        rw [hc.2]
        simp
      | false => rw [hc, cond_false] at h; simp at h
theorem unitN_no (s : Str) : 47 ∉ s.take (unitN s) := by
  cases s with
  | nil => simp
  | cons b t =>
    cases hb : b == 91 with
    | true =>
      have hb' : b = 91 := by simpa using hb
      cases t with
      | nil => simp [unitN, hb']
      | cons d t' =>
        cases hd : d == 33 with
        | true =>
          have hd' : d = 33 := by simpa using hd
          simp only [unitN, hb, hd, cond_true]
          split
          · rename_i n h
            have := clsGo_no _ _ _ h
            rw [List.take_succ_cons, List.take_succ_cons, hb', hd']
            simpa using this
          · simp
        | false =>
          simp only [unitN, hb, hd, cond_true, cond_false]
          split
          · rename_i n h
            have := clsGo_no _ _ _ h
            rw [List.take_succ_cons, hb', List.mem_cons, not_or]
            exact ⟨by decide, this⟩
          · simp
    | false =>
      simp only [unitN, hb, cond_false]
      cases h : isPath b || (b == 63 || b == 42) with
      | true =>
        simp only [cond_true, List.take_succ_cons, List.take_zero, List.mem_singleton]
        rintro rfl
        exact absurd h (by decide)
      | false => simp
theorem pieceGo_no : ∀ (d : Nat) (s : Str) (c : Nat), pieceGo d s c = true → 47 ∉ s := by
  intro d
  induction d with
  | zero =>
    intro s c h
    cases s with
    | nil => simp
    | cons b t => simp [pieceGo] at h
  | succ d ih =>
    intro s c h
    cases s with
    | nil => simp
    | cons b t =>
      unfold pieceGo at h
      cases hu : unitN (b :: t) == 0 with
      | true => rw [hu] at h; simp at h
      | false =>
        rw [hu, cond_false] at h
        have h1 := ih _ _ h
        have h2 := unitN_no (b :: t)
        rw [← List.take_append_drop (unitN (b :: t)) (b :: t), List.mem_append, not_or]
        exact ⟨h2, h1⟩
/-- As the program asks it. -/
theorem plainF_eq (s : Str) (h : (s == sinceS) = false) : plainF s = (decide (s.length ≤ 20) && (!decide (47 ∈ s) && globOk s)) := by
  unfold plainF
  rw [h, Bool.false_or]
  by_cases h1 : 47 ∈ s
  · rw [decide_eq_true h1]
    cases hp : pieceOk s with
    | true => exact absurd h1 (pieceGo_no _ _ _ hp)
    | false => simp
  · rw [decide_eq_false h1]
    unfold globOk
    rw [split_not h1]
    simp [Bool.and_comm]
def b16 (n : Nat) : Str := [UInt8.ofNat (n / 256), UInt8.ofNat n]
/-- A text among bytes. -/
def encT (s : Str) : Str := if 60000 < s.length then [] else b16 s.length ++ s
def numT (n : Nat) : Str := Lib.decDigits n
theorem decDigits_lt {u : Nat} (h : u < 10) : Lib.decDigits u = [UInt8.ofNat (48 + u)] := by
  unfold Lib.decDigits
  rw [dif_pos h]
theorem decDigits_ge {u : Nat} (h : ¬ u < 10) : Lib.decDigits u = Lib.decDigits (u / 10) ++ [UInt8.ofNat (48 + u % 10)] := by
  rw [Lib.decDigits, dif_neg h]
theorem encT_le (s : Str) : (encT s).length ≤ 60002 ∧ (encT s).length ≤ s.length + 2 := by
  unfold encT b16
  split
  · simp
  · simp; omega
theorem numT_le (n : Nat) (h : n ≤ 1099511627776) : (numT n).length ≤ 21 := by
  have := Lib.itoa_length_le (n : Int) (by omega) (by omega)
  have e : Lib.itoa (n : Int) = numT n := by unfold Lib.itoa numT; rw [if_neg (by omega)]; simp
  rwa [e] at this
theorem numT_30 (n : Nat) (h : n ≤ 1099511627776) : (numT n).length ≤ 1073741824 := Nat.le_trans (numT_le n h) (by omega)
theorem hi_u8 (n : Nat) : IntKind.u8.wrap (shrI .i64 (n : Int) 8) = ((UInt8.ofNat (n / 256)).toNat : Int) := by
  rw [← wrap_u8]
  congr 1
  unfold shrI
  rw [show (2 : Int) ^ (min (8 : Int).toNat IntKind.i64.bits) = 256 from rfl, Int.fdiv_eq_ediv_of_nonneg _ (by omega)]
  omega
theorem b16_rows (n : Nat) : [[Cell.sc (.int .u8 (IntKind.u8.wrap (shrI .i64 (n : Int) 8)))], [Cell.sc (.int .u8 (IntKind.u8.wrap (n : Int)))]] = (b16 n).map eByte := by
  rw [hi_u8, wrap_u8]
  rfl
theorem byteRows_bs (s : Str) : byteRows (bs s) = s.map eByte := by
  unfold byteRows
  rw [show (bs s).data.toList = s from by simp [bs]]
  rfl
theorem src_bytes (H : List Entry) (e : Str) : srcRows H 1 (bytesC e) = some (e.map eByte) := by simp [srcRows, rowsOf, encL]
/-- Bytes of one's own. -/
def BytM (H : List Entry) (c : Cell) (b : Str) : Prop := ∃ ids, Rep H true true 2 ids c (trL 1 trByte b) ∧ ids.Nodup
theorem BytM.nil (H : List Entry) : BytM H (.lst true 1 []) [] := ⟨[], .inl ⟨rfl, rfl, true, rfl⟩, by simp⟩
theorem BytM.read {H : List Entry} {c : Cell} {b : Str} (h : BytM H c b) : reifyAV false H (.one c) = some (.one (bytesC b)) := by
  obtain ⟨ids, h, _⟩ := h
  have := reify_one h (by omega)
  rwa [trL_cell] at this
theorem BytM.of {H E : List Entry} {c : Cell} {b : Str} {is : List Nat} {lo hi : Nat} (h : Rep (H ++ E) true true 2 is c (trL 1 trByte b)) (w : Mine lo hi is) : BytM (H ++ E) c b := ⟨is, h, w.nd⟩
theorem rep_bytes {H : List Entry} {ids : List Nat} {c : Cell} {xs : Str} (h : Rep H true true 2 ids c (trL 1 trByte xs)) : (xs = [] ∧ ids = [] ∧ ∃ f, c = .lst f 1 []) ∨ ∃ id ep, c = .vs id 1 0 xs.length ep ∧ ids = [id] ∧ H[id]? = some ⟨1, xs.map eByte, ep, false⟩ := by
  rcases h with ⟨h1, h2, h3⟩ | ⟨id, off, ep, e, fr, is, rfl, rfl, he, hq, hwh, hl, hr, hs⟩
  · exact .inl ⟨List.map_eq_nil_iff.1 h1, h2, h3⟩
  · obtain ⟨rfl, hle⟩ := hwh rfl
    obtain rfl := hq rfl
    rw [List.drop_zero, hle, List.take_of_length_le (Nat.le_refl _)] at hs
    have key : ∀ {is : List Nat} {e : List (List Cell)} {xs : Str}, Sp (Sp (Rep H true true 1)) is e (xs.map trByte) → (∀ r ∈ e, r.length = 1) → e = xs.map eByte ∧ is = [] := by
      intro is e xs
      induction xs generalizing is e with
      | nil => intro h _; obtain ⟨rfl, rfl⟩ := h.nil_inv; exact ⟨rfl, rfl⟩
      | cons x xs ih =>
        intro h hl
        obtain ⟨i, i', a, as', rfl, rfl, h1, h2⟩ := h.cons_inv
        obtain ⟨h3, h4⟩ := ih h2 fun r hr => hl r (List.mem_cons_of_mem _ hr)
        obtain ⟨k, k', a0, r', rfl, rfl, h5, h6⟩ := h1.cons_inv
        obtain ⟨rfl, rfl⟩ := h6.nil_inv
        obtain ⟨rfl, rfl⟩ := h5
        subst h3 h4
        exact ⟨rfl, rfl⟩
    obtain ⟨h1, h2⟩ := key hs hr
    subst h1 h2
    exact .inr ⟨id, ep, by simp, rfl, he⟩
theorem Grow.bytes {c : Cell} {H : List Entry} {b : Str} (h : Grow 1 c H (b.map eByte)) : ∃ ids, Rep H true true 2 ids c (trL 1 trByte b) ∧ ids.Nodup := by
  obtain ⟨ids, h1, h2, _⟩ := h.rep (tr := trByte) (fun _ _ => rfl) (fun x _ H' => Sp.leaf1 _)
  exact ⟨ids, h1, h2⟩
theorem digit_of (H : List Entry) (n : Nat) : bytesOf H (.lst true 1 [[.sc (.int .u8 (IntKind.u8.wrap (IntKind.i64.wrap (48 + (((n : Nat) : Int).tmod 10)))))]]) = some (bs [UInt8.ofNat (48 + n % 10)]) := by
  have e : IntKind.i64.wrap (48 + ((n : Int).tmod 10)) = ((48 + n % 10 : Nat) : Int) := by
    rw [Int.tmod_eq_emod_of_nonneg (by omega), wrap_small (by omega) (by omega)]
    omega
  rw [e, wrap_u8]
  generalize UInt8.ofNat (48 + n % 10) = v
  simp [bytesOf, rowsOf, mapO, byteC, ofBytes, bs]
theorem c_spec_NumText (n : Nat) (hn : n ≤ 1099511627776) : out run_spec_NumText [.one (Cell.int n)] = some [.one (Cell.str (bs (numT n)))] := by
  have loop : ∀ (u : Nat) (s : Str) (q : Nat), u ≤ 1099511627776 → u + s.length < 2199023255552 → u < q → ∀ k m, spec_NumText_l1 k m q u (bs s) = some ([.one (Cell.str (bs (if u < 10 then s else Lib.decDigits (u / 10) ++ s)))], []) := by
    intro u
    induction u using Nat.strongRecOn with
    | _ u ih =>
      intro s q hu hs hq k m
      obtain ⟨q, rfl⟩ : ∃ j, q = j + 1 := ⟨q - 1, by omega⟩
      simp only [spec_NumText_l1]
      by_cases h : u < 10
      · rw [decide_eq_false (by omega), cond_false, if_pos h]
      · have e : IntKind.i64.wrap ((u : Int).tdiv 10) = ((u / 10 : Nat) : Int) := by
          rw [Int.tdiv_eq_ediv_of_nonneg (by omega), wrap_small (by omega) (by omega)]
          omega
        rw [decide_eq_true (by omega), cond_true, if_neg h, e, digit_of]
        simp only [Option.bind_some]
        rw [catS_bs (by simp; omega)]
        simp only [Option.bind_some]
        rw [ih (u / 10) (by omega) _ q (by omega) (by simp; omega) (by omega)]
        by_cases h2 : u / 10 < 10
        · rw [if_pos h2, decDigits_lt h2, Nat.mod_eq_of_lt h2]
        · rw [if_neg h2, decDigits_ge h2]
          simp
  refine out_of (H := []) (run_spec_NumText_of n ?_)
  simp only [spec_NumText]
  rw [decide_eq_false (by omega), cond_false, digit_of]
  simp only [Option.bind_some]
  rw [loop n _ (n + 1) hn (by simp; omega) (by omega)]
  unfold numT
  by_cases h : n < 10
  · rw [if_pos h, decDigits_lt h, Nat.mod_eq_of_lt h]
  · rw [if_neg h, decDigits_ge h]
theorem c_impl_NumText (n : Nat) (hn : n ≤ 1099511627776) : out run_impl_NumText [.one (Cell.int n)] = some [.one (Cell.str (bs (numT n)))] := by
  have e : out run_strconv_Itoa [.one (Cell.int n)] = some [.one (Cell.str (bs (numT n)))] := by
    refine out_of (H := []) ?_
    show run_itoa _ _ = _
    simp only [run_itoa]
    rw [if_pos ⟨by omega, by omega⟩]
    have : Lib.itoa (n : Int) = numT n := by unfold Lib.itoa numT; rw [if_neg (by omega)]; simp
    rw [this]
    rfl
  refine out_of (H := []) (run_impl_NumText_of 0 ?_)
  simp only [impl_NumText]
  rw [if_neg (by omega)]
  simp only [e, callS_canon, callL_canon, Option.map_some, Option.bind_some, shape_one, shape_agg, shape_nil, cellsAt_0, cellsAt_1, cellsAt_2, cellsAt_3, cells_one, cells_agg, cB_zero, cI_zero, cS_zero, cC_zero, cB_cons, cI_cons, cS_cons, cC_cons, cond_true, cond_false, List.length_cons, List.length_nil, beq_self_eq_true, Bool.and_true, Bool.true_and, lenC_encL, lenC_lst, deref_ref, emptyK_nil, bs_size, bs_toList]
theorem Grow.at {sz : Nat} {c : Cell} {H : List Entry} {rows : List (List Cell)} {i : Nat} {row : List Cell} (h : Grow sz c H rows) (hr : rows[i]? = some row) : ∃ a, idxA sz c (i : Int) = some a ∧ deref H a = some (row, 0) := by
  have hlt := (List.getElem?_eq_some_iff.1 hr).1
  rcases h with ⟨rfl, _, _⟩ | ⟨ep, rfl, rfl⟩
  · simp at hr
  · exact ⟨.ptr 0 sz i 0 ep, idxA_vs _ _ _ _ _ hlt, by simp [deref, entry?, hr]⟩
theorem Grow.len {sz : Nat} {c : Cell} {H : List Entry} {rows : List (List Cell)} (h : Grow sz c H rows) : lenC c = some rows.length := by
  rcases h with ⟨rfl, rfl, _⟩ | ⟨ep, rfl, rfl⟩ <;> rfl
def sumB (b : Str) : Nat := (b.map UInt8.toNat).sum
theorem sumB_le (b : Str) : sumB b ≤ 255 * b.length := by
  induction b with
  | nil => simp [sumB]
  | cons x b ih =>
    have := x.toNat_lt
    simp only [sumB, List.map_cons, List.sum_cons, List.length_cons] at ih ⊢
    omega
theorem b16_mod (n : Nat) : b16 (n % 65536) = b16 n := by
  unfold b16
  have h1 : UInt8.ofNat (n % 65536 / 256) = UInt8.ofNat (n / 256) := by
    apply UInt8.toNat_inj.1
    simp only [UInt8.toNat_ofNat']
    omega
  have h2 : UInt8.ofNat (n % 65536) = UInt8.ofNat n := by
    apply UInt8.toNat_inj.1
    simp only [UInt8.toNat_ofNat']
    omega
  rw [h1, h2]
/-- A text off the head of bytes, and the rest. -/
def tk : Str → Option (Str × Str)
  | x :: y :: r => if x.toNat * 256 + y.toNat ≤ 60000 ∧ x.toNat * 256 + y.toNat ≤ r.length then some (r.take (x.toNat * 256 + y.toNat), r.drop (x.toNat * 256 + y.toNat)) else none
  | _ => none
def digits : Str → Nat → Nat
  | [], n => n
  | b :: r, n => digits r (n * 10 + (b.toNat - 48))
def parseNum (s : Str) (most : Nat) : Option Nat :=
  if s.all isFigure = true ∧ 1 ≤ s.length ∧ s.length ≤ 7 ∧ (s.length = 1 ∨ s.head? ≠ some 48) ∧ digits s 0 ≤ most then some (digits s 0) else none
theorem b16_num (n : Nat) (h : n < 65536) : (UInt8.ofNat (n / 256)).toNat * 256 + (UInt8.ofNat n).toNat = n := by
  simp only [UInt8.toNat_ofNat']
  omega
theorem b16_of (x y : UInt8) : b16 (x.toNat * 256 + y.toNat) = [x, y] := by
  have hx := x.toNat_lt
  have hy := y.toNat_lt
  unfold b16
  have h1 : UInt8.ofNat ((x.toNat * 256 + y.toNat) / 256) = x := by
    apply UInt8.toNat_inj.1
    simp only [UInt8.toNat_ofNat']
    omega
  have h2 : UInt8.ofNat (x.toNat * 256 + y.toNat) = y := by
    apply UInt8.toNat_inj.1
    simp only [UInt8.toNat_ofNat']
    omega
  rw [h1, h2]
theorem tk_enc (s r : Str) (h : s.length ≤ 60000) : tk (encT s ++ r) = some (s, r) := by
  unfold encT
  rw [if_neg (by omega)]
  show tk (UInt8.ofNat (s.length / 256) :: UInt8.ofNat s.length :: (s ++ r)) = _
  simp only [tk, b16_num s.length (by omega)]
  rw [if_pos ⟨h, by simp⟩]
  simp
theorem tk_sound {r s z : Str} (h : tk r = some (s, z)) : r = encT s ++ z ∧ s.length ≤ 60000 := by
  cases r with
  | nil => simp [tk] at h
  | cons x r =>
    cases r with
    | nil => simp [tk] at h
    | cons y r =>
      simp only [tk] at h
      split at h
      · rename_i hn
        simp only [Option.some.injEq, Prod.mk.injEq] at h
        obtain ⟨rfl, rfl⟩ := h
        have hl : (r.take (x.toNat * 256 + y.toNat)).length = x.toNat * 256 + y.toNat := by rw [List.length_take]; omega
        refine ⟨?_, by omega⟩
        unfold encT
        rw [hl, if_neg (by omega), b16_of]
        simp
      · simp at h
theorem tk_len {r s z : Str} (h : tk r = some (s, z)) : z.length + 2 + s.length = r.length := by
  obtain ⟨e, h2⟩ := tk_sound h
  rw [e]
  unfold encT b16
  rw [if_neg (by omega)]
  simp
  omega
/-! figures -/
theorem figure_num {b : UInt8} (h : isFigure b = true) : 48 ≤ b.toNat ∧ b.toNat ≤ 57 := by
  unfold isFigure inR at h
  simp only [Bool.and_eq_true, decide_eq_true_eq] at h
  omega
theorem digits_app : ∀ (s t : Str) (n : Nat), digits (s ++ t) n = digits t (digits s n) := by
  intro s
  induction s with
  | nil => intro t n; rfl
  | cons b r ih => intro t n; exact ih t _
theorem digits_le : ∀ (s : Str) (n N : Nat), (∀ b ∈ s, isFigure b = true) → n < 10 ^ N → digits s n < 10 ^ (N + s.length) := by
  intro s
  induction s with
  | nil => intro n N _ h; exact h
  | cons b r ih =>
    intro n N h hn
    have h2 := figure_num (h b List.mem_cons_self)
    have h1 := ih (n * 10 + (b.toNat - 48)) (N + 1) (fun x hx => h x (List.mem_cons_of_mem _ hx)) (by rw [Nat.pow_succ]; omega)
    simp only [digits, List.length_cons]
    rw [show N + (r.length + 1) = N + 1 + r.length by omega]
    exact h1
theorem figure_of {n : Nat} (h : n < 10) : isFigure (UInt8.ofNat (48 + n)) = true := by
  unfold isFigure inR
  simp only [Bool.and_eq_true, decide_eq_true_eq, UInt8.toNat_ofNat']
  omega
theorem numT_shape : ∀ n : Nat, (numT n).all isFigure = true ∧ 1 ≤ (numT n).length ∧ ((numT n).length = 1 ∨ (numT n).head? ≠ some 48) ∧ digits (numT n) 0 = n ∧ (0 < n → (numT n).head? ≠ some 48) := by
  intro n
  induction n using Nat.strongRecOn with
  | _ n ih =>
    unfold numT at ih ⊢
    by_cases h : n < 10
    · rw [decDigits_lt h]
      refine ⟨by rw [List.all_cons, figure_of h, List.all_nil]; rfl, by simp, .inl rfl, ?_, ?_⟩
      · simp only [digits, UInt8.toNat_ofNat']
        omega
      · intro h0 e
        simp only [List.head?_cons, Option.some.injEq] at e
        have := congrArg UInt8.toNat e
        simp only [UInt8.toNat_ofNat'] at this
        have h48 : (48 : UInt8).toNat = 48 := rfl
        omega
    · rw [decDigits_ge h]
      obtain ⟨i1, i2, i3, i4, i5⟩ := ih (n / 10) (by omega)
      have hh : (Lib.decDigits (n / 10) ++ [UInt8.ofNat (48 + n % 10)]).head? = (Lib.decDigits (n / 10)).head? := by
        cases hd : Lib.decDigits (n / 10) with
        | nil => rw [hd] at i2; simp at i2
        | cons x r => rfl
      have i6 := i5 (by omega)
      refine ⟨?_, by simp, .inr ?_, ?_, fun _ => ?_⟩
      · rw [List.all_append, i1]
        rw [List.all_cons, figure_of (show n % 10 < 10 by omega), List.all_nil]
        rfl
      · rw [hh]; exact i6
      · rw [digits_app, i4]
        simp only [digits, UInt8.toNat_ofNat']
        omega
      · rw [hh]; exact i6
theorem numT_digits : ∀ (k : Nat) (s : Str), s.length = k → (∀ b ∈ s, isFigure b = true) → 1 ≤ s.length → (s.length = 1 ∨ s.head? ≠ some 48) → numT (digits s 0) = s := by
  intro k
  induction k with
  | zero => intro s h1 _ h2 _; omega
  | succ k ih =>
    intro s h1 h2 h3 h4
    have hne : s ≠ [] := by intro h; subst h; simp at h3
    obtain ⟨t, d, rfl⟩ : ∃ t d, s = t ++ [d] := ⟨s.dropLast, s.getLast hne, (List.dropLast_concat_getLast hne).symm⟩
    have hd := figure_num (h2 d (by simp))
    simp only [List.length_append, List.length_cons, List.length_nil] at h1 h4
    have hdd : UInt8.ofNat (48 + (d.toNat - 48)) = d := by
      apply UInt8.toNat_inj.1
      simp only [UInt8.toNat_ofNat']
      have := d.toNat_lt
      omega
    by_cases ht : t = []
    · subst ht
      simp only [List.nil_append, digits]
      unfold numT
      rw [decDigits_lt (by omega), show 0 * 10 + (d.toNat - 48) = d.toNat - 48 by omega, hdd]
    · have htl := List.length_pos_iff.2 ht
      have hhead : t.head? ≠ some 48 := by
        rcases h4 with h4 | h4
        · omega
        · cases t with
          | nil => exact absurd rfl ht
          | cons x r => exact h4
      have i1 := ih t (by omega) (fun b hb => h2 b (List.mem_append_left _ hb)) htl (.inr hhead)
      have hpos : 1 ≤ digits t 0 := by
        rcases Nat.eq_zero_or_pos (digits t 0) with h | h
        · rw [h] at i1
          have : numT 0 = [48] := by unfold numT; rw [decDigits_lt (by omega)]; rfl
          rw [this] at i1
          rw [← i1] at hhead
          exact absurd rfl hhead
        · exact h
      rw [digits_app]
      simp only [digits]
      unfold numT at i1 ⊢
      rw [decDigits_ge (by omega), show (digits t 0 * 10 + (d.toNat - 48)) / 10 = digits t 0 by omega, i1, show (digits t 0 * 10 + (d.toNat - 48)) % 10 = d.toNat - 48 by omega, hdd]
theorem parseNum_numT {k most : Nat} (h : k ≤ most) (hm : k < 10000000) : parseNum (numT k) most = some k := by
  obtain ⟨h1, h2, h3, h4, h5⟩ := numT_shape k
  have h6 : (numT k).length ≤ 7 := by
    have := List.all_eq_true.1 h1
    rcases Nat.lt_or_ge 7 (numT k).length with h7 | h7
    · exfalso
      have hx : k ≥ 10000000 := by
        -- a numeral of more than seven figures
        have key : ∀ n : Nat, n < 10000000 → (numT n).length ≤ 7 := by
          intro n hn
          unfold numT
          have s1 : ∀ u : Nat, u < 10 → (Lib.decDigits u).length = 1 := fun u hu => by rw [decDigits_lt hu]; rfl
          have st : ∀ (c u : Nat), (∀ v : Nat, v < 10 ^ c → (Lib.decDigits v).length ≤ c) → 1 ≤ c → u < 10 ^ (c + 1) → (Lib.decDigits u).length ≤ c + 1 := by
            intro c u hc h1c hu
            by_cases h : u < 10
            · rw [s1 u h]; omega
            · rw [decDigits_ge h, List.length_append]
              have := hc (u / 10) (by rw [Nat.pow_succ] at hu; omega)
              simp
              omega
          have t1 : ∀ v : Nat, v < 10 ^ 1 → (Lib.decDigits v).length ≤ 1 := fun v hv => by rw [s1 v (by simpa using hv)]; exact Nat.le_refl _
          have t2 := fun v hv => st 1 v t1 (by omega) hv
          have t3 := fun v hv => st 2 v t2 (by omega) hv
          have t4 := fun v hv => st 3 v t3 (by omega) hv
          have t5 := fun v hv => st 4 v t4 (by omega) hv
          have t6 := fun v hv => st 5 v t5 (by omega) hv
          exact st 6 n t6 (by omega) (by simpa using hn)
        rcases Nat.lt_or_ge k 10000000 with h8 | h8
        · have := key k h8; omega
        · exact h8
      omega
    · exact h7
  unfold parseNum
  rw [if_pos ⟨h1, h2, h6, h3, by rw [h4]; exact h⟩, h4]
theorem parseNum_sound {s : Str} {k most : Nat} (h : parseNum s most = some k) : s = numT k ∧ k ≤ most ∧ s.length ≤ 7 := by
  unfold parseNum at h
  split at h
  · rename_i hc
    obtain ⟨h1, h2, h3, h4, h5⟩ := hc
    simp only [Option.some.injEq] at h
    subst h
    exact ⟨(numT_digits _ s rfl (List.all_eq_true.1 h1) h2 h4).symm, h5, h3⟩
  · simp at h
theorem or_bytes (x y : UInt8) : orI .i64 (shlI .i64 (IntKind.i64.wrap (x.toNat : Int)) 8) (IntKind.i64.wrap (y.toNat : Int)) = ((x.toNat * 256 + y.toNat : Nat) : Int) := by
  have hx := x.toNat_lt
  have hy := y.toNat_lt
  rw [wrap_small (n := (x.toNat : Int)) (by omega) (by omega), wrap_small (n := (y.toNat : Int)) (by omega) (by omega)]
  have e1 : shlI .i64 (x.toNat : Int) 8 = ((x.toNat * 256 : Nat) : Int) := by
    unfold shlI
    rw [show (2 : Int) ^ (min (8 : Int).toNat IntKind.i64.bits) = 256 from rfl, wrap_small (by omega) (by omega)]
    omega
  rw [e1]
  show IntKind.i64.wrap (((BitVec.ofInt 64 ((x.toNat * 256 : Nat) : Int) ||| BitVec.ofInt 64 (y.toNat : Int)).toNat : Nat) : Int) = _
  have e2 : ∀ n : Nat, n < 65536 → (BitVec.ofInt 64 (n : Int)) = BitVec.ofNat 64 n := fun n hn => by
    apply BitVec.eq_of_toNat_eq
    rw [BitVec.toNat_ofInt, BitVec.toNat_ofNat]
    omega
  rw [e2 _ (by omega), e2 _ (by omega), BitVec.toNat_or, BitVec.toNat_ofNat, BitVec.toNat_ofNat, Nat.mod_eq_of_lt (by omega), Nat.mod_eq_of_lt (by omega)]
  have e3 : x.toNat * 256 ||| y.toNat = x.toNat * 256 + y.toNat := by
    rw [Nat.mul_comm, show (256 : Nat) = 2 ^ 8 from rfl]
    exact (Nat.two_pow_add_eq_or_of_lt (by omega) _).symm
  rw [e3]
  exact wrap_small (by omega) (by omega)
def textV (b : Str) (at' : Nat) : List AV := match tk (b.drop at') with
  | some (s, r) => [.one (Cell.str (bs s)), .one (Cell.int ((b.length - r.length : Nat) : Int)), .one (Cell.bool true)]
  | none => [.one (Cell.str (bs [])), .one (Cell.int 0), .one (Cell.bool false)]
theorem slc_bytes (b : Str) (lo hi : Nat) (h1 : lo ≤ hi) (h2 : hi ≤ b.length) : slcC 1 (bytesC b) (lo : Int) (some (hi : Int)) none = some (bytesC ((b.drop lo).take (hi - lo))) := by
  simp only [slcC, encL, List.length_map, Option.getD_some, Option.getD_none]
  rw [if_pos (.inl trivial), if_pos ⟨by omega, by omega, by omega, by omega⟩]
  simp [fullOf, List.map_take, List.map_drop]
theorem bytesOf_bytes (H : List Entry) (s : Str) : bytesOf H (bytesC s) = some (bs s) := by
  have e : ∀ s : Str, mapO byteC (s.map eByte) = some (s.map fun x => (x.toNat : Int)) := by
    intro s
    induction s with
    | nil => rfl
    | cons x s ih =>
      rw [List.map_cons, List.map_cons, mapO, ih]
      simp [byteC, eByte]
  simp only [bytesOf, rowsOf, encL, if_true, true_or, Option.bind_some, e, Option.map_some]
  simp only [ofBytes, List.map_map]
  rw [show ((fun n : Int => UInt8.ofNat n.toNat) ∘ fun x : UInt8 => (x.toNat : Int)) = id from funext fun x => by simp, List.map_id]
  rfl
def figV : Nat → Str → Bool
  | 0, _ => true
  | _, s => !(s == [])
def preCh (b : UInt8) : Bool := isFigure b || isSmall b || inR b.toNat 65 90 || b == 45
def preOkM (s : Str) : Bool := s.all preCh && (inR s.length 1 8 && (!s.all isFigure || s.length == 1 || s.head? != some 48))
def verOkM (a b c : Int) (pre : List Str) : Bool := pre.all preOkM && (inR a 0 9999 && (inR b 0 9999 && (inR c 0 9999 && decide (pre.length ≤ 3))))
def verTextM (a b c : Int) (pre : List Str) : Str :=
  if verOkM a b c pre then numT a.toNat ++ [46] ++ numT b.toNat ++ [46] ++ numT c.toNat ++ (if pre.length = 0 then [] else 45 :: Lib.join pre [46]) else []
theorem preOkM_len {s : Str} (h : preOkM s = true) : 1 ≤ s.length ∧ s.length ≤ 8 := by
  simp only [preOkM, Bool.and_eq_true, inR, decide_eq_true_eq] at h
  omega
theorem verOkM_inv {a b c : Int} {pre : List Str} (h : verOkM a b c pre = true) : (0 ≤ a ∧ a ≤ 9999) ∧ (0 ≤ b ∧ b ≤ 9999) ∧ (0 ≤ c ∧ c ≤ 9999) ∧ pre.length ≤ 3 ∧ ∀ x ∈ pre, x.length ≤ 8 := by
  simp only [verOkM, Bool.and_eq_true, inR, decide_eq_true_eq, List.all_eq_true] at h
  exact ⟨h.2.1, h.2.2.1, h.2.2.2.1, h.2.2.2.2, fun x hx => (preOkM_len (h.1 x hx)).2⟩
theorem joinTail_le {sep : Str} (hs : sep.length ≤ 1) : ∀ r : List Str, (∀ x ∈ r, x.length ≤ 8) → (Lib.joinTail sep r).length ≤ 9 * r.length
  | [], _ => by simp [Lib.joinTail]
  | x :: r, h => by
    have ih := joinTail_le hs r fun y hy => h y (List.mem_cons_of_mem _ hy)
    have hx := h x (List.mem_cons_self ..)
    simp only [Lib.joinTail, List.map_cons, List.flatten_cons, List.length_append, List.length_cons] at ih ⊢
    omega
theorem join_le {sep : Str} (hs : sep.length ≤ 1) (r : List Str) (h : ∀ x ∈ r, x.length ≤ 8) : (Lib.join r sep).length ≤ 9 * r.length := by
  cases r with
  | nil => simp [Lib.join_nil]
  | cons x r =>
    rw [Lib.join_cons, List.length_append]
    have := joinTail_le hs r fun y hy => h y (List.mem_cons_of_mem _ hy)
    have hx := h x (List.mem_cons_self ..)
    simp only [List.length_cons]
    omega
theorem verTextM_le (a b c : Int) (pre : List Str) : (verTextM a b c pre).length ≤ 200 := by
  unfold verTextM
  split
  · rename_i h
    obtain ⟨h1, h2, h3, h4, h5⟩ := verOkM_inv h
    have n1 := numT_le a.toNat (by omega)
    have n2 := numT_le b.toNat (by omega)
    have n3 := numT_le c.toNat (by omega)
    have j := join_le (sep := [46]) (by simp) pre h5
    simp only [List.length_append, List.length_cons, List.length_nil]
    split <;> simp <;> omega
  · simp
theorem c_spec_l3Digits (s : Str) (hs : s.length ≤ 1073741824) : out run_spec_l3Digits [.one (Cell.str (bs s))] = some [.one (Cell.bool (s.all isFigure && figV 0 s))] := by
  have hM := maxLen_eq
  have loop : ∀ (r : Str) (i n : Nat), s.drop i = r → r.length < n → ∀ k m, spec_l3Digits_l0 k m n (bs s) i = some ([.one (Cell.bool (r.all isFigure && figV 0 s))], []) := by
    intro r
    induction r with
    | nil =>
      intro i n hd hn k m
      obtain ⟨n, rfl⟩ : ∃ j, n = j + 1 := ⟨n - 1, by omega⟩
      have := drop_nil hd
      simp only [spec_l3Digits_l0, bs_size, bs_toList]
      rw [decide_eq_false (by omega), cond_false]
      simp [figV]
    | cons b r ih =>
      intro i n hd hn k m
      obtain ⟨n, rfl⟩ : ∃ j, n = j + 1 := ⟨n - 1, by omega⟩
      obtain ⟨hlt, hg, hd'⟩ := drop_cons hd
      simp only [List.length_cons] at hn
      simp only [spec_l3Digits_l0, bytS_bs, hg, c_spec_l1Digit, callS_canon, callL_canon, Option.map_some, Option.bind_some, shape_one, shape_agg, shape_nil, cellsAt_0, cellsAt_1, cellsAt_2, cellsAt_3, cells_one, cells_agg, cB_zero, cI_zero, cS_zero, cC_zero, cB_cons, cI_cons, cS_cons, cC_cons, cond_true, cond_false, List.length_cons, List.length_nil, beq_self_eq_true, Bool.and_true, Bool.true_and, lenC_encL, lenC_lst, deref_ref, emptyK_nil, bs_size, bs_toList]
      rw [decide_eq_true (by omega), cond_true, wrap_succ (by omega), ih (i + 1) n hd' (by omega)]
      simp only [List.all_cons]
      cases isFigure b <;> rfl
  refine out_of (H := []) (run_spec_l3Digits_of (s.length + 1) ?_)
  have := loop s 0 (s.length + 1 + 1) rfl (by omega) (s.length + 1 + 1) (s.length + 1 + 1)
  simpa [spec_l3Digits] using this
theorem c_impl_isFigures (s : Str) (hs : s.length ≤ 1073741824) : out run_impl_isFigures [.one (Cell.str (bs s))] = some [.one (Cell.bool (s.all isFigure && figV 1 s))] := by
  have hM := maxLen_eq
  have loop : ∀ (r : Str) (i n : Nat), s.drop i = r → r.length < n → ∀ k m, impl_isFigures_l0 k m n (bs s) i = some ([.one (Cell.bool (r.all isFigure && figV 1 s))], []) := by
    intro r
    induction r with
    | nil =>
      intro i n hd hn k m
      obtain ⟨n, rfl⟩ : ∃ j, n = j + 1 := ⟨n - 1, by omega⟩
      have := drop_nil hd
      simp only [impl_isFigures_l0, bs_size, bs_toList]
      rw [decide_eq_false (by omega), cond_false]
      simp [figV]
    | cons b r ih =>
      intro i n hd hn k m
      obtain ⟨n, rfl⟩ : ∃ j, n = j + 1 := ⟨n - 1, by omega⟩
      obtain ⟨hlt, hg, hd'⟩ := drop_cons hd
      simp only [List.length_cons] at hn
      simp only [impl_isFigures_l0, bytS_bs, hg, c_impl_isFigure, callS_canon, callL_canon, Option.map_some, Option.bind_some, shape_one, shape_agg, shape_nil, cellsAt_0, cellsAt_1, cellsAt_2, cellsAt_3, cells_one, cells_agg, cB_zero, cI_zero, cS_zero, cC_zero, cB_cons, cI_cons, cS_cons, cC_cons, cond_true, cond_false, List.length_cons, List.length_nil, beq_self_eq_true, Bool.and_true, Bool.true_and, lenC_encL, lenC_lst, deref_ref, emptyK_nil, bs_size, bs_toList]
      rw [decide_eq_true (by omega), cond_true, wrap_succ (by omega), ih (i + 1) n hd' (by omega)]
      simp only [List.all_cons]
      cases isFigure b <;> rfl
  refine out_of (H := []) (run_impl_isFigures_of (s.length + 1) ?_)
  have := loop s 0 (s.length + 1 + 1) rfl (by omega) (s.length + 1 + 1) (s.length + 1 + 1)
  simpa [impl_isFigures] using this
theorem c_spec_l3Part (s : Str) (hs : s.length ≤ 1073741824) : out run_spec_l3Part [.one (Cell.str (bs s))] = some [.one (Cell.bool (preOkM s))] := by
  have hM := maxLen_eq
  have loop : ∀ (r : Str) (i n : Nat), s.drop i = r → r.length < n → ∀ k m, spec_l3Part_l0 k m n (bs s) i = some ([.one (Cell.bool (r.all preCh && (inR s.length 1 8 && (!s.all isFigure || s.length == 1 || s.head? != some 48))))], []) := by
    intro r
    induction r with
    | nil =>
      intro i n hd hn k m
      obtain ⟨n, rfl⟩ : ∃ j, n = j + 1 := ⟨n - 1, by omega⟩
      have := drop_nil hd
      simp only [spec_l3Part_l0, bs_size]
      rw [decide_eq_false (by omega), cond_false]
      simp only [c_spec_l1In, c_spec_l3Digits s hs, figV, callS_canon, callL_canon, Option.map_some, Option.bind_some, shape_one, shape_agg, shape_nil, cellsAt_0, cellsAt_1, cellsAt_2, cellsAt_3, cells_one, cells_agg, cB_zero, cI_zero, cS_zero, cC_zero, cB_cons, cI_cons, cS_cons, cC_cons, cond_true, cond_false, List.length_cons, List.length_nil, beq_self_eq_true, Bool.and_true, Bool.true_and, lenC_encL, lenC_lst, deref_ref, emptyK_nil, bs_size, bs_toList, List.all_nil]
      cases hr : inR (s.length : Int) 1 8 with
      | false => rfl
      | true =>
        simp only [cond_true, Bool.true_and]
        cases hf : s.all isFigure with
        | false => rfl
        | true =>
          simp only [Bool.not_true, cond_false, Bool.false_or]
          cases s with
          | nil => simp [inR] at hr
          | cons x s =>
            have h0 : bytS (bs (x :: s)) 0 = some (x.toNat : Int) := by
              have := bytS_bs (x :: s) 0
              simpa using this
            have h48 : ((x.toNat : Int) != 48) = (x != 48) := u8_ne x 48 (by omega)
            have hl : (((x :: s).length : Int) == 1) = ((x :: s).length == 1) := by rw [Bool.eq_iff_iff]; simp only [beq_iff_eq]; omega
            have hh : ((x :: s).head? != some 48) = (x != 48) := by simp [bne]
            simp only [h0, h48, hl, hh, Option.bind_some]
            cases ((x :: s).length == 1) <;> simp
    | cons b r ih =>
      intro i n hd hn k m
      obtain ⟨n, rfl⟩ : ∃ j, n = j + 1 := ⟨n - 1, by omega⟩
      obtain ⟨hlt, hg, hd'⟩ := drop_cons hd
      simp only [List.length_cons] at hn
      have hb := u8_lt b
      have h45 : ((b.toNat : Int) != 45) = !(b == 45) := u8_ne b 45 (by omega)
      simp only [spec_l3Part_l0, bytS_bs, hg, c_spec_l1Digit, c_spec_l1Small, c_spec_l1In, wrap_small (n := (b.toNat : Int)) (by omega) (by omega), h45, callS_canon, callL_canon, Option.map_some, Option.bind_some, shape_one, shape_agg, shape_nil, cellsAt_0, cellsAt_1, cellsAt_2, cellsAt_3, cells_one, cells_agg, cB_zero, cI_zero, cS_zero, cC_zero, cB_cons, cI_cons, cS_cons, cC_cons, cond_true, cond_false, List.length_cons, List.length_nil, beq_self_eq_true, Bool.and_true, Bool.true_and, lenC_encL, lenC_lst, deref_ref, emptyK_nil, bs_size, bs_toList]
      rw [decide_eq_true (by omega), cond_true, wrap_succ (by omega), ih (i + 1) n hd' (by omega)]
      simp only [List.all_cons, preCh]
      cases isFigure b <;> cases isSmall b <;> cases (inR (b.toNat : Int) 65 90) <;> cases (b == 45) <;> rfl
  refine out_of (H := []) (run_spec_l3Part_of (s.length + 1) ?_)
  have := loop s 0 (s.length + 1 + 1) rfl (by omega) (s.length + 1 + 1) (s.length + 1 + 1)
  simpa [spec_l3Part, preOkM] using this
theorem c_impl_preOk (s : Str) (hs : s.length ≤ 1073741824) : out run_impl_preOk [.one (Cell.str (bs s))] = some [.one (Cell.bool (preOkM s))] := by
  have hM := maxLen_eq
  have loop : ∀ (r : Str) (i n : Nat), s.drop i = r → r.length < n → ∀ k m, impl_preOk_l0 k m n (bs s) i = some ([.one (Cell.bool (r.all preCh && (inR s.length 1 8 && (!s.all isFigure || s.length == 1 || s.head? != some 48))))], []) := by
    intro r
    induction r with
    | nil =>
      intro i n hd hn k m
      obtain ⟨n, rfl⟩ : ∃ j, n = j + 1 := ⟨n - 1, by omega⟩
      have := drop_nil hd
      simp only [impl_preOk_l0, bs_size]
      rw [decide_eq_false (by omega), cond_false]
      simp only [c_impl_inRange, c_impl_isFigures s hs, figV, callS_canon, callL_canon, Option.map_some, Option.bind_some, shape_one, shape_agg, shape_nil, cellsAt_0, cellsAt_1, cellsAt_2, cellsAt_3, cells_one, cells_agg, cB_zero, cI_zero, cS_zero, cC_zero, cB_cons, cI_cons, cS_cons, cC_cons, cond_true, cond_false, List.length_cons, List.length_nil, beq_self_eq_true, Bool.and_true, Bool.true_and, lenC_encL, lenC_lst, deref_ref, emptyK_nil, bs_size, bs_toList, List.all_nil]
      cases hr : inR (s.length : Int) 1 8 with
      | false => rfl
      | true =>
        simp only [cond_true, Bool.true_and]
        cases s with
        | nil => simp [inR] at hr
        | cons x s =>
          cases hf : (x :: s).all isFigure with
          | false => rfl
          | true =>
            have h0 : bytS (bs (x :: s)) 0 = some (x.toNat : Int) := by
              have := bytS_bs (x :: s) 0
              simpa using this
            have h48 : ((x.toNat : Int) != 48) = (x != 48) := u8_ne x 48 (by omega)
            have hh : ((x :: s).head? != some 48) = (x != 48) := by simp [bne]
            simp only [h0, h48, hh, Option.bind_some]
            by_cases hx : x = 48
            · subst hx
              cases s <;> simp
            · have e1 : ((x :: s) == [48]) = false := by simp [hx]
              have e2 : (x != 48) = true := by simp [hx]
              rw [e1, e2]
              simp
    | cons b r ih =>
      intro i n hd hn k m
      obtain ⟨n, rfl⟩ : ∃ j, n = j + 1 := ⟨n - 1, by omega⟩
      obtain ⟨hlt, hg, hd'⟩ := drop_cons hd
      simp only [List.length_cons] at hn
      have hb := u8_lt b
      have h45 : ((b.toNat : Int) != 45) = !(b == 45) := u8_ne b 45 (by omega)
      simp only [impl_preOk_l0, bytS_bs, hg, c_impl_isFigure, c_impl_isSmall, h45, callS_canon, callL_canon, Option.map_some, Option.bind_some, shape_one, shape_agg, shape_nil, cellsAt_0, cellsAt_1, cellsAt_2, cellsAt_3, cells_one, cells_agg, cB_zero, cI_zero, cS_zero, cC_zero, cB_cons, cI_cons, cS_cons, cC_cons, cond_true, cond_false, List.length_cons, List.length_nil, beq_self_eq_true, Bool.and_true, Bool.true_and, lenC_encL, lenC_lst, deref_ref, emptyK_nil, bs_size, bs_toList]
      rw [decide_eq_true (by omega), cond_true, wrap_succ (by omega), ih (i + 1) n hd' (by omega)]
      have hr : inR (b.toNat : Int) 65 90 = (decide ((b.toNat : Int) ≥ 65) && decide ((b.toNat : Int) ≤ 90)) := rfl
      simp only [List.all_cons, preCh, hr]
      cases isFigure b <;> cases isSmall b <;> cases (decide ((b.toNat : Int) ≥ 65)) <;> cases (decide ((b.toNat : Int) ≤ 90)) <;> cases (b == 45) <;> rfl
  refine out_of (H := []) (run_impl_preOk_of (s.length + 1) ?_)
  have := loop s 0 (s.length + 1 + 1) rfl (by omega) (s.length + 1 + 1) (s.length + 1 + 1)
  simpa [impl_preOk, preOkM] using this
theorem c_spec_VerOk (a b c : Int) (pre : List Str) (hp : bdL 1048576 (bdS 1048576) pre) : out run_spec_VerOk [.agg [Cell.int a, Cell.int b, Cell.int c, encL 1 eStr pre]] = some [.one (Cell.bool (verOkM a b c pre))] := by
  have hM := maxLen_eq
  have hl := hp.1
  have loop : ∀ (r : List Str) (i n : Nat), pre.drop i = r → r.length < n → ∀ k m, spec_VerOk_l0 k m n i a b c (encL 1 eStr pre) = some ([.one (Cell.bool (r.all preOkM && (inR a 0 9999 && (inR b 0 9999 && (inR c 0 9999 && decide (pre.length ≤ 3))))))], []) := by
    intro r
    induction r with
    | nil =>
      intro i n hd hn k m
      obtain ⟨n, rfl⟩ : ∃ j, n = j + 1 := ⟨n - 1, by omega⟩
      have := drop_nil hd
      simp only [spec_VerOk_l0, callS_canon, callL_canon, Option.map_some, Option.bind_some, shape_one, shape_agg, shape_nil, cellsAt_0, cellsAt_1, cellsAt_2, cellsAt_3, cells_one, cells_agg, cB_zero, cI_zero, cS_zero, cC_zero, cB_cons, cI_cons, cS_cons, cC_cons, cond_true, cond_false, List.length_cons, List.length_nil, beq_self_eq_true, Bool.and_true, Bool.true_and, lenC_encL, lenC_lst, deref_ref, emptyK_nil, bs_size, bs_toList]
      rw [decide_eq_false (by omega), cond_false]
      have h3 : decide ((pre.length : Int) ≤ 3) = decide (pre.length ≤ 3) := by rw [Bool.eq_iff_iff]; simp; omega
      simp only [c_spec_l1In, h3, callS_canon, callL_canon, Option.map_some, Option.bind_some, shape_one, shape_agg, shape_nil, cellsAt_0, cellsAt_1, cellsAt_2, cellsAt_3, cells_one, cells_agg, cB_zero, cI_zero, cS_zero, cC_zero, cB_cons, cI_cons, cS_cons, cC_cons, cond_true, cond_false, List.length_cons, List.length_nil, beq_self_eq_true, Bool.and_true, Bool.true_and, lenC_encL, lenC_lst, deref_ref, emptyK_nil, bs_size, bs_toList, List.all_nil]
      cases inR a 0 9999 <;> cases inR b 0 9999 <;> cases inR c 0 9999 <;> rfl
    | cons x r ih =>
      intro i n hd hn k m
      obtain ⟨n, rfl⟩ : ∃ j, n = j + 1 := ⟨n - 1, by omega⟩
      obtain ⟨hlt, hg, hd'⟩ := drop_cons hd
      simp only [List.length_cons] at hn
      have hx : x.length ≤ 1073741824 := Nat.le_trans (hp.2 x (List.mem_of_getElem? hg)) (by omega)
      simp only [spec_VerOk_l0, callS_canon, callL_canon, Option.map_some, Option.bind_some, shape_one, shape_agg, shape_nil, cellsAt_0, cellsAt_1, cellsAt_2, cellsAt_3, cells_one, cells_agg, cB_zero, cI_zero, cS_zero, cC_zero, cB_cons, cI_cons, cS_cons, cC_cons, cond_true, cond_false, List.length_cons, List.length_nil, beq_self_eq_true, Bool.and_true, Bool.true_and, lenC_encL, lenC_lst, deref_ref, emptyK_nil, bs_size, bs_toList]
      rw [decide_eq_true (by omega), cond_true]
      simp only [idxA_encL, hg, eStr, c_spec_l3Part x hx, wrap_succ (show i < maxLen by omega), ih (i + 1) n hd' (by omega), callS_canon, callL_canon, Option.map_some, Option.bind_some, shape_one, shape_agg, shape_nil, cellsAt_0, cellsAt_1, cellsAt_2, cellsAt_3, cells_one, cells_agg, cB_zero, cI_zero, cS_zero, cC_zero, cB_cons, cI_cons, cS_cons, cC_cons, cond_true, cond_false, List.length_cons, List.length_nil, beq_self_eq_true, Bool.and_true, Bool.true_and, lenC_encL, lenC_lst, deref_ref, emptyK_nil, bs_size, bs_toList, List.all_cons]
      cases preOkM x <;> rfl
  refine out_of (H := []) (run_spec_VerOk_of (pre.length + 1) ?_)
  exact loop pre 0 (pre.length + 1 + 1) rfl (by omega) (pre.length + 1 + 1) (pre.length + 1 + 1)
theorem c_impl_VerOk (a b c : Int) (pre : List Str) (hp : bdL 1048576 (bdS 1048576) pre) : out run_impl_VerOk [.agg [Cell.int a, Cell.int b, Cell.int c, encL 1 eStr pre]] = some [.one (Cell.bool (verOkM a b c pre))] := by
  have hM := maxLen_eq
  have hl := hp.1
  have loop : ∀ (r : List Str) (i n : Nat), pre.drop i = r → r.length < n → ∀ k m, impl_VerOk_l0 k m n (encL 1 eStr pre) pre.length i a b c (encL 1 eStr pre) = some ([.one (Cell.bool (r.all preOkM && (inR a 0 9999 && (inR b 0 9999 && (inR c 0 9999 && decide (pre.length ≤ 3))))))], []) := by
    intro r
    induction r with
    | nil =>
      intro i n hd hn k m
      obtain ⟨n, rfl⟩ : ∃ j, n = j + 1 := ⟨n - 1, by omega⟩
      have := drop_nil hd
      simp only [impl_VerOk_l0, callS_canon, callL_canon, Option.map_some, Option.bind_some, shape_one, shape_agg, shape_nil, cellsAt_0, cellsAt_1, cellsAt_2, cellsAt_3, cells_one, cells_agg, cB_zero, cI_zero, cS_zero, cC_zero, cB_cons, cI_cons, cS_cons, cC_cons, cond_true, cond_false, List.length_cons, List.length_nil, beq_self_eq_true, Bool.and_true, Bool.true_and, lenC_encL, lenC_lst, deref_ref, emptyK_nil, bs_size, bs_toList]
      rw [decide_eq_false (by omega), cond_false]
      have h3 : decide ((pre.length : Int) ≤ 3) = decide (pre.length ≤ 3) := by rw [Bool.eq_iff_iff]; simp; omega
      simp only [c_impl_inRange, h3, callS_canon, callL_canon, Option.map_some, Option.bind_some, shape_one, shape_agg, shape_nil, cellsAt_0, cellsAt_1, cellsAt_2, cellsAt_3, cells_one, cells_agg, cB_zero, cI_zero, cS_zero, cC_zero, cB_cons, cI_cons, cS_cons, cC_cons, cond_true, cond_false, List.length_cons, List.length_nil, beq_self_eq_true, Bool.and_true, Bool.true_and, lenC_encL, lenC_lst, deref_ref, emptyK_nil, bs_size, bs_toList, List.all_nil]
      cases inR a 0 9999 <;> cases inR b 0 9999 <;> cases inR c 0 9999 <;> rfl
    | cons x r ih =>
      intro i n hd hn k m
      obtain ⟨n, rfl⟩ : ∃ j, n = j + 1 := ⟨n - 1, by omega⟩
      obtain ⟨hlt, hg, hd'⟩ := drop_cons hd
      simp only [List.length_cons] at hn
      have hx : x.length ≤ 1073741824 := Nat.le_trans (hp.2 x (List.mem_of_getElem? hg)) (by omega)
      simp only [impl_VerOk_l0, callS_canon, callL_canon, Option.map_some, Option.bind_some, shape_one, shape_agg, shape_nil, cellsAt_0, cellsAt_1, cellsAt_2, cellsAt_3, cells_one, cells_agg, cB_zero, cI_zero, cS_zero, cC_zero, cB_cons, cI_cons, cS_cons, cC_cons, cond_true, cond_false, List.length_cons, List.length_nil, beq_self_eq_true, Bool.and_true, Bool.true_and, lenC_encL, lenC_lst, deref_ref, emptyK_nil, bs_size, bs_toList]
      rw [decide_eq_true (by omega), cond_true]
      simp only [idxA_encL, hg, eStr, c_impl_preOk x hx, wrap_succ (show i < maxLen by omega), ih (i + 1) n hd' (by omega), callS_canon, callL_canon, Option.map_some, Option.bind_some, shape_one, shape_agg, shape_nil, cellsAt_0, cellsAt_1, cellsAt_2, cellsAt_3, cells_one, cells_agg, cB_zero, cI_zero, cS_zero, cC_zero, cB_cons, cI_cons, cS_cons, cC_cons, cond_true, cond_false, List.length_cons, List.length_nil, beq_self_eq_true, Bool.and_true, Bool.true_and, lenC_encL, lenC_lst, deref_ref, emptyK_nil, bs_size, bs_toList, List.all_cons]
      cases preOkM x <;> rfl
  refine out_of (H := []) (run_impl_VerOk_of (pre.length + 1) ?_)
  simp only [impl_VerOk, callS_canon, callL_canon, Option.map_some, Option.bind_some, shape_one, shape_agg, shape_nil, cellsAt_0, cellsAt_1, cellsAt_2, cellsAt_3, cells_one, cells_agg, cB_zero, cI_zero, cS_zero, cC_zero, cB_cons, cI_cons, cS_cons, cC_cons, cond_true, cond_false, List.length_cons, List.length_nil, beq_self_eq_true, Bool.and_true, Bool.true_and, lenC_encL, lenC_lst, deref_ref, emptyK_nil, bs_size, bs_toList]
  exact loop pre 0 (pre.length + 1 + 1) rfl (by omega) (pre.length + 1 + 1) (pre.length + 1 + 1)
theorem c_spec_VerText_join (xs : List Str) (sep : Str) (h1 : xs.length ≤ 3) (h2 : ∀ x ∈ xs, x.length ≤ 8) (h3 : sep.length ≤ 1) : out run_spec_Join [.one (encL 1 eStr xs), .one (Cell.str (bs sep))] = some [.one (Cell.str (bs (Lib.join xs sep)))] := by
  have hM := maxLen_eq
  have loop : ∀ (r : List Str) (i n : Nat) (acc : Str), xs.drop i = r → r.length < n → i + r.length = xs.length → acc.length ≤ 9 * i → (i = 0 → acc = []) → ∀ k m, spec_Join_l0 k m n (encL 1 eStr xs) (bs sep) (bs acc) i = some ([.one (Cell.str (bs (if i = 0 then Lib.join r sep else acc ++ Lib.joinTail sep r)))], []) := by
    intro r
    induction r with
    | nil =>
      intro i n acc hd hn hi ha h0 k m
      obtain ⟨n, rfl⟩ : ∃ j, n = j + 1 := ⟨n - 1, by omega⟩
      have := drop_nil hd
      simp only [spec_Join_l0, callS_canon, callL_canon, Option.map_some, Option.bind_some, shape_one, shape_agg, shape_nil, cellsAt_0, cellsAt_1, cellsAt_2, cellsAt_3, cells_one, cells_agg, cB_zero, cI_zero, cS_zero, cC_zero, cB_cons, cI_cons, cS_cons, cC_cons, cond_true, cond_false, List.length_cons, List.length_nil, beq_self_eq_true, Bool.and_true, Bool.true_and, lenC_encL, lenC_lst, deref_ref, emptyK_nil, bs_size, bs_toList]
      rw [decide_eq_false (by omega), cond_false]
      by_cases e : i = 0
      · rw [if_pos e, h0 e, Lib.join_nil]
      · rw [if_neg e]
        simp [Lib.joinTail]
    | cons x r ih =>
      intro i n acc hd hn hi ha h0 k m
      obtain ⟨n, rfl⟩ : ∃ j, n = j + 1 := ⟨n - 1, by omega⟩
      obtain ⟨hlt, hg, hd'⟩ := drop_cons hd
      simp only [List.length_cons] at hn hi
      have hx := h2 x (List.mem_of_getElem? hg)
      simp only [spec_Join_l0, callS_canon, callL_canon, Option.map_some, Option.bind_some, shape_one, shape_agg, shape_nil, cellsAt_0, cellsAt_1, cellsAt_2, cellsAt_3, cells_one, cells_agg, cB_zero, cI_zero, cS_zero, cC_zero, cB_cons, cI_cons, cS_cons, cC_cons, cond_true, cond_false, List.length_cons, List.length_nil, beq_self_eq_true, Bool.and_true, Bool.true_and, lenC_encL, lenC_lst, deref_ref, emptyK_nil, bs_size, bs_toList]
      rw [decide_eq_true (by omega), cond_true]
      by_cases e : i = 0
      · have ha0 := h0 e
        subst ha0
        rw [decide_eq_false (by omega), cond_false, if_pos e]
        simp only [idxA_encL, hg, eStr, callS_canon, callL_canon, Option.map_some, Option.bind_some, shape_one, shape_agg, shape_nil, cellsAt_0, cellsAt_1, cellsAt_2, cellsAt_3, cells_one, cells_agg, cB_zero, cI_zero, cS_zero, cC_zero, cB_cons, cI_cons, cS_cons, cC_cons, cond_true, cond_false, List.length_cons, List.length_nil, beq_self_eq_true, Bool.and_true, Bool.true_and, lenC_encL, lenC_lst, deref_ref, emptyK_nil, bs_size, bs_toList]
        rw [catS_bs (by simp; omega)]
        simp only [Option.bind_some, List.nil_append]
        rw [wrap_succ (by omega), ih (i + 1) n x hd' (by omega) (by omega) (by omega) (by omega) k m, if_neg (by omega), Lib.join_cons]
      · rw [decide_eq_true (by omega), cond_true, if_neg e, catS_bs (by omega)]
        simp only [idxA_encL, hg, eStr, callS_canon, callL_canon, Option.map_some, Option.bind_some, shape_one, shape_agg, shape_nil, cellsAt_0, cellsAt_1, cellsAt_2, cellsAt_3, cells_one, cells_agg, cB_zero, cI_zero, cS_zero, cC_zero, cB_cons, cI_cons, cS_cons, cC_cons, cond_true, cond_false, List.length_cons, List.length_nil, beq_self_eq_true, Bool.and_true, Bool.true_and, lenC_encL, lenC_lst, deref_ref, emptyK_nil, bs_size, bs_toList]
        rw [catS_bs (by simp; omega)]
        simp only [Option.bind_some]
        rw [wrap_succ (by omega), ih (i + 1) n _ hd' (by omega) (by omega) (by simp; omega) (by omega) k m, if_neg (by omega)]
        simp [Lib.joinTail]
  refine out_of (H := []) (run_spec_Join_of (xs.length + 1) ?_)
  have := loop xs 0 (xs.length + 1 + 1) [] rfl (by omega) (by omega) (by simp) (fun _ => rfl) (xs.length + 1 + 1) (xs.length + 1 + 1)
  simpa [spec_Join] using this
theorem c_impl_VerText_join (xs : List Str) (sep : Str) (h1 : xs.length ≤ 3) (h2 : ∀ x ∈ xs, x.length ≤ 8) (h3 : sep.length ≤ 1) : out run_strings_Join [.one (encL 1 eStr xs), .one (Cell.str (bs sep))] = some [.one (Cell.str (bs (Lib.join xs sep)))] := by
  have hj := join_le h3 xs h2
  refine out_of (H := []) ?_
  show run_join _ _ = _
  have e : strRows (xs.map eStr) = some xs := strRows_eStr xs
  simp only [encL, run_join, e, bs_data]
  rw [if_pos ⟨trivial, by omega, by omega⟩]
  rfl
theorem c_spec_VerText (a b c : Int) (pre : List Str) (hp : bdL 1048576 (bdS 1048576) pre) : out run_spec_VerText [.agg [Cell.int a, Cell.int b, Cell.int c, encL 1 eStr pre]] = some [.one (Cell.str (bs (verTextM a b c pre)))] := by
  refine out_of (H := []) (run_spec_VerText_of 0 ?_)
  simp only [spec_VerText, c_spec_VerOk a b c pre hp, callS_canon, callL_canon, Option.map_some, Option.bind_some, shape_one, shape_agg, shape_nil, cellsAt_0, cellsAt_1, cellsAt_2, cellsAt_3, cells_one, cells_agg, cB_zero, cI_zero, cS_zero, cC_zero, cB_cons, cI_cons, cS_cons, cC_cons, cond_true, cond_false, List.length_cons, List.length_nil, beq_self_eq_true, Bool.and_true, Bool.true_and, lenC_encL, lenC_lst, deref_ref, emptyK_nil, bs_size, bs_toList, verTextM]
  cases ho : verOkM a b c pre with
  | false => rfl
  | true =>
    obtain ⟨h1, h2, h3, h4, h5⟩ := verOkM_inv ho
    obtain ⟨x, rfl⟩ : ∃ x : Nat, a = (x : Int) := ⟨a.toNat, by omega⟩
    obtain ⟨y, rfl⟩ : ∃ x : Nat, b = (x : Int) := ⟨b.toNat, by omega⟩
    obtain ⟨z, rfl⟩ : ∃ x : Nat, c = (x : Int) := ⟨c.toNat, by omega⟩
    have n1 := numT_le x (by omega)
    have n2 := numT_le y (by omega)
    have n3 := numT_le z (by omega)
    have j := join_le (sep := [46]) (by simp) pre h5
    have k1 : catS (bs (numT x)) (bs [46]) = some (bs (numT x ++ [46])) := catS_bs (by simp; omega)
    have k2 : catS (bs (numT x ++ [46])) (bs (numT y)) = some (bs (numT x ++ [46] ++ numT y)) := catS_bs (by simp; omega)
    have k3 : catS (bs (numT x ++ [46] ++ numT y)) (bs [46]) = some (bs (numT x ++ [46] ++ numT y ++ [46])) := catS_bs (by simp; omega)
    have k4 : catS (bs (numT x ++ [46] ++ numT y ++ [46])) (bs (numT z)) = some (bs (numT x ++ [46] ++ numT y ++ [46] ++ numT z)) := catS_bs (by simp; omega)
    have k5 : catS (bs (numT x ++ [46] ++ numT y ++ [46] ++ numT z)) (bs [45]) = some (bs (numT x ++ [46] ++ numT y ++ [46] ++ numT z ++ [45])) := catS_bs (by simp; omega)
    have k6 : catS (bs (numT x ++ [46] ++ numT y ++ [46] ++ numT z ++ [45])) (bs (Lib.join pre [46])) = some (bs (numT x ++ [46] ++ numT y ++ [46] ++ numT z ++ [45] ++ Lib.join pre [46])) := catS_bs (by simp; omega)
    have k7 : catS (bs [45]) (bs (Lib.join pre [46])) = some (bs ([45] ++ Lib.join pre [46])) := catS_bs (by simp; omega)
    have k8 : catS (bs (numT x ++ [46] ++ numT y ++ [46] ++ numT z)) (bs ([45] ++ Lib.join pre [46])) = some (bs (numT x ++ [46] ++ numT y ++ [46] ++ numT z ++ ([45] ++ Lib.join pre [46]))) := catS_bs (by simp; omega)
    simp only [Bool.not_true, cond_false, c_spec_NumText x (by omega), c_spec_NumText y (by omega), c_spec_NumText z (by omega), k1, k2, k3, k4, callS_canon, callL_canon, Option.map_some, Option.bind_some, shape_one, shape_agg, shape_nil, cellsAt_0, cellsAt_1, cellsAt_2, cellsAt_3, cells_one, cells_agg, cB_zero, cI_zero, cS_zero, cC_zero, cB_cons, cI_cons, cS_cons, cC_cons, cond_true, cond_false, List.length_cons, List.length_nil, beq_self_eq_true, Bool.and_true, Bool.true_and, lenC_encL, lenC_lst, deref_ref, emptyK_nil, bs_size, bs_toList, if_true, Int.toNat_natCast]
    by_cases hz : pre.length = 0
    · rw [decide_eq_false (by omega), cond_false, if_pos hz]
      simp
    · rw [decide_eq_true (by omega), cond_true, if_neg hz]
      simp only [c_spec_VerText_join pre [46] h4 h5 (by simp), k5, k6, k7, k8, callS_canon, callL_canon, Option.map_some, Option.bind_some, shape_one, shape_agg, shape_nil, cellsAt_0, cellsAt_1, cellsAt_2, cellsAt_3, cells_one, cells_agg, cB_zero, cI_zero, cS_zero, cC_zero, cB_cons, cI_cons, cS_cons, cC_cons, cond_true, cond_false, List.length_cons, List.length_nil, beq_self_eq_true, Bool.and_true, Bool.true_and, lenC_encL, lenC_lst, deref_ref, emptyK_nil, bs_size, bs_toList]
      try simp
theorem c_impl_VerText (a b c : Int) (pre : List Str) (hp : bdL 1048576 (bdS 1048576) pre) : out run_impl_VerText [.agg [Cell.int a, Cell.int b, Cell.int c, encL 1 eStr pre]] = some [.one (Cell.str (bs (verTextM a b c pre)))] := by
  refine out_of (H := []) (run_impl_VerText_of 0 ?_)
  simp only [impl_VerText, c_impl_VerOk a b c pre hp, callS_canon, callL_canon, Option.map_some, Option.bind_some, shape_one, shape_agg, shape_nil, cellsAt_0, cellsAt_1, cellsAt_2, cellsAt_3, cells_one, cells_agg, cB_zero, cI_zero, cS_zero, cC_zero, cB_cons, cI_cons, cS_cons, cC_cons, cond_true, cond_false, List.length_cons, List.length_nil, beq_self_eq_true, Bool.and_true, Bool.true_and, lenC_encL, lenC_lst, deref_ref, emptyK_nil, bs_size, bs_toList, verTextM]
  cases ho : verOkM a b c pre with
  | false => rfl
  | true =>
    obtain ⟨h1, h2, h3, h4, h5⟩ := verOkM_inv ho
    obtain ⟨x, rfl⟩ : ∃ x : Nat, a = (x : Int) := ⟨a.toNat, by omega⟩
    obtain ⟨y, rfl⟩ : ∃ x : Nat, b = (x : Int) := ⟨b.toNat, by omega⟩
    obtain ⟨z, rfl⟩ : ∃ x : Nat, c = (x : Int) := ⟨c.toNat, by omega⟩
    have n1 := numT_le x (by omega)
    have n2 := numT_le y (by omega)
    have n3 := numT_le z (by omega)
    have j := join_le (sep := [46]) (by simp) pre h5
    have k1 : catS (bs (numT x)) (bs [46]) = some (bs (numT x ++ [46])) := catS_bs (by simp; omega)
    have k2 : catS (bs (numT x ++ [46])) (bs (numT y)) = some (bs (numT x ++ [46] ++ numT y)) := catS_bs (by simp; omega)
    have k3 : catS (bs (numT x ++ [46] ++ numT y)) (bs [46]) = some (bs (numT x ++ [46] ++ numT y ++ [46])) := catS_bs (by simp; omega)
    have k4 : catS (bs (numT x ++ [46] ++ numT y ++ [46])) (bs (numT z)) = some (bs (numT x ++ [46] ++ numT y ++ [46] ++ numT z)) := catS_bs (by simp; omega)
    have k5 : catS (bs (numT x ++ [46] ++ numT y ++ [46] ++ numT z)) (bs [45]) = some (bs (numT x ++ [46] ++ numT y ++ [46] ++ numT z ++ [45])) := catS_bs (by simp; omega)
    have k6 : catS (bs (numT x ++ [46] ++ numT y ++ [46] ++ numT z ++ [45])) (bs (Lib.join pre [46])) = some (bs (numT x ++ [46] ++ numT y ++ [46] ++ numT z ++ [45] ++ Lib.join pre [46])) := catS_bs (by simp; omega)
    have k7 : catS (bs [45]) (bs (Lib.join pre [46])) = some (bs ([45] ++ Lib.join pre [46])) := catS_bs (by simp; omega)
    have k8 : catS (bs (numT x ++ [46] ++ numT y ++ [46] ++ numT z)) (bs ([45] ++ Lib.join pre [46])) = some (bs (numT x ++ [46] ++ numT y ++ [46] ++ numT z ++ ([45] ++ Lib.join pre [46]))) := catS_bs (by simp; omega)
    simp only [Bool.not_true, cond_false, c_impl_NumText x (by omega), c_impl_NumText y (by omega), c_impl_NumText z (by omega), k1, k2, k3, k4, callS_canon, callL_canon, Option.map_some, Option.bind_some, shape_one, shape_agg, shape_nil, cellsAt_0, cellsAt_1, cellsAt_2, cellsAt_3, cells_one, cells_agg, cB_zero, cI_zero, cS_zero, cC_zero, cB_cons, cI_cons, cS_cons, cC_cons, cond_true, cond_false, List.length_cons, List.length_nil, beq_self_eq_true, Bool.and_true, Bool.true_and, lenC_encL, lenC_lst, deref_ref, emptyK_nil, bs_size, bs_toList, if_true, Int.toNat_natCast]
    by_cases hz : pre.length = 0
    · rw [decide_eq_false (by omega), cond_false, if_pos hz]
      simp
    · rw [decide_eq_true (by omega), cond_true, if_neg hz]
      simp only [c_impl_VerText_join pre [46] h4 h5 (by simp), k5, k6, k7, k8, callS_canon, callL_canon, Option.map_some, Option.bind_some, shape_one, shape_agg, shape_nil, cellsAt_0, cellsAt_1, cellsAt_2, cellsAt_3, cells_one, cells_agg, cB_zero, cI_zero, cS_zero, cC_zero, cB_cons, cI_cons, cS_cons, cC_cons, cond_true, cond_false, List.length_cons, List.length_nil, beq_self_eq_true, Bool.and_true, Bool.true_and, lenC_encL, lenC_lst, deref_ref, emptyK_nil, bs_size, bs_toList]
      try simp
/-- Each entry right, and behind the one ahead of it. -/
def lockGo : Option Str → List MPick → Bool
  | _, [] => true
  | prev, p :: r => nameOk p.Name && (verOkM p.V.A p.V.B p.V.C p.V.Pre && ((match prev with | some q => lt q p.Name | none => true) && lockGo (some p.Name) r))
def lockRow (p : MPick) : Str := p.Name ++ [64] ++ verTextM p.V.A p.V.B p.V.C p.V.Pre ++ [10]
def m_LockText (l : List MPick) : Str := if lockGo none l && decide (l.length ≤ 12) then l.flatMap lockRow else []
def prevOf (l : List MPick) : Nat → Option Str
  | 0 => none
  | i + 1 => (l[i]?).map (·.Name)
theorem lockRow_le {p : MPick} (h : nameOk p.Name = true) : (lockRow p).length ≤ 220 := by
  have := verTextM_le p.V.A p.V.B p.V.C p.V.Pre
  have h2 : p.Name.length ≤ 10 := by
    simp only [nameOk, Bool.and_eq_true, inR, decide_eq_true_eq] at h
    omega
  simp only [lockRow, List.length_append, List.length_singleton]
  omega
theorem c_spec_l10Ok (l : List MPick) (hl : bdL 1048576 (MPick.Bd 1048576) l) : out run_spec_l10Ok [.one (encL 5 MPick.enc l)] = some [.one (Cell.bool (lockGo none l && decide (l.length ≤ 12)))] := by
  have hM := maxLen_eq
  have hxl := hl.1
  have loop : ∀ (r : List MPick) (i n : Nat), l.drop i = r → r.length < n → ∀ k m, spec_l10Ok_l0 k m n (encL 5 MPick.enc l) i = some ([.one (Cell.bool (lockGo (prevOf l i) r && decide (l.length ≤ 12)))], []) := by
    intro r
    induction r with
    | nil =>
      intro i n hd hn k m
      obtain ⟨n, rfl⟩ : ∃ j, n = j + 1 := ⟨n - 1, by omega⟩
      have := drop_nil hd
      have h12 : decide ((l.length : Int) ≤ 12) = decide (l.length ≤ 12) := by rw [Bool.eq_iff_iff]; simp; omega
      simp only [spec_l10Ok_l0, callS_canon, callL_canon, Option.map_some, Option.bind_some, shape_one, shape_agg, shape_nil, cellsAt_0, cellsAt_1, cellsAt_2, cellsAt_3, cells_one, cells_agg, cB_zero, cI_zero, cS_zero, cC_zero, cB_cons, cI_cons, cS_cons, cC_cons, cond_true, cond_false, List.length_cons, List.length_nil, beq_self_eq_true, Bool.and_true, Bool.true_and, lenC_encL, lenC_lst, deref_ref, emptyK_nil, bs_size, bs_toList, h12, lockGo]
      rw [decide_eq_false (by omega), cond_false]
    | cons p r ih =>
      intro i n hd hn k m
      obtain ⟨n, rfl⟩ : ∃ j, n = j + 1 := ⟨n - 1, by omega⟩
      obtain ⟨hlt, hg, hd'⟩ := drop_cons hd
      simp only [List.length_cons] at hn
      have hb := hl.2 p (List.mem_of_getElem? hg)
      have hnm : p.Name.length ≤ 1073741824 := Nat.le_trans hb.1 (by omega)
      have e2 : prevOf l (i + 1) = some p.Name := by simp [prevOf, hg]
      simp only [spec_l10Ok_l0, callS_canon, callL_canon, Option.map_some, Option.bind_some, shape_one, shape_agg, shape_nil, cellsAt_0, cellsAt_1, cellsAt_2, cellsAt_3, cells_one, cells_agg, cB_zero, cI_zero, cS_zero, cC_zero, cB_cons, cI_cons, cS_cons, cC_cons, cond_true, cond_false, List.length_cons, List.length_nil, beq_self_eq_true, Bool.and_true, Bool.true_and, lenC_encL, lenC_lst, deref_ref, emptyK_nil, bs_size, bs_toList]
      rw [decide_eq_true (by omega), cond_true]
      simp only [idxA_encL, hg, MPick.enc, fldA_ref, Nat.zero_add, c_spec_NameOk p.Name hnm, c_spec_VerOk _ _ _ _ hb.2.2.2.2, wrap_succ (show i < maxLen by omega), ih (i + 1) n hd' (by omega), e2, callS_canon, callL_canon, Option.map_some, Option.bind_some, shape_one, shape_agg, shape_nil, cellsAt_0, cellsAt_1, cellsAt_2, cellsAt_3, cells_one, cells_agg, cB_zero, cI_zero, cS_zero, cC_zero, cB_cons, cI_cons, cS_cons, cC_cons, cond_true, cond_false, List.length_cons, List.length_nil, beq_self_eq_true, Bool.and_true, Bool.true_and, lenC_encL, lenC_lst, deref_ref, emptyK_nil, bs_size, bs_toList, lockGo]
      cases nameOk p.Name with
      | false => rfl
      | true =>
        cases verOkM p.V.A p.V.B p.V.C p.V.Pre with
        | false => rfl
        | true =>
          cases i with
          | zero => rfl
          | succ j =>
            obtain ⟨q, hq⟩ : ∃ q, l[j]? = some q := ⟨l[j], List.getElem?_eq_getElem (by omega)⟩
            have hw : IntKind.i64.wrap (((j + 1 : Nat) : Int) - 1) = (j : Int) := by rw [wrap_small (by omega) (by omega)]; omega
            simp only [hw, idxA_encL, hq, MPick.enc, fldA_ref, Nat.zero_add, callS_canon, callL_canon, Option.map_some, Option.bind_some, shape_one, shape_agg, shape_nil, cellsAt_0, cellsAt_1, cellsAt_2, cellsAt_3, cells_one, cells_agg, cB_zero, cI_zero, cS_zero, cC_zero, cB_cons, cI_cons, cS_cons, cC_cons, cond_true, cond_false, List.length_cons, List.length_nil, beq_self_eq_true, Bool.and_true, Bool.true_and, lenC_encL, lenC_lst, deref_ref, emptyK_nil, bs_size, bs_toList, bl_eq, prevOf, Option.map_some, Bool.not_true]
            rw [decide_eq_true (by omega), cond_true]
            cases lt q.Name p.Name <;> rfl
  refine out_of (H := []) (run_spec_l10Ok_of (l.length + 1) ?_)
  exact loop l 0 (l.length + 1 + 1) rfl (by omega) (l.length + 1 + 1) (l.length + 1 + 1)
theorem lockGo_name : ∀ {l : List MPick} {prev : Option Str}, lockGo prev l = true → ∀ p ∈ l, nameOk p.Name = true
  | [], _, _, p, h => by simp at h
  | q :: r, prev, h, p, hp => by
    simp only [lockGo, Bool.and_eq_true] at h
    rcases List.mem_cons.1 hp with rfl | hp
    · exact h.1
    · exact lockGo_name h.2.2.2 p hp
theorem c_spec_LockText (l : List MPick) (hl : bdL 1048576 (MPick.Bd 1048576) l) : out run_spec_LockText [.one (encL 5 MPick.enc l)] = some [.one (Cell.str (bs (m_LockText l)))] := by
  have hM := maxLen_eq
  refine out_of (H := []) (run_spec_LockText_of (l.length + 1) ?_)
  simp only [spec_LockText, c_spec_l10Ok l hl, callS_canon, callL_canon, Option.map_some, Option.bind_some, shape_one, shape_agg, shape_nil, cellsAt_0, cellsAt_1, cellsAt_2, cellsAt_3, cells_one, cells_agg, cB_zero, cI_zero, cS_zero, cC_zero, cB_cons, cI_cons, cS_cons, cC_cons, cond_true, cond_false, List.length_cons, List.length_nil, beq_self_eq_true, Bool.and_true, Bool.true_and, lenC_encL, lenC_lst, deref_ref, emptyK_nil, bs_size, bs_toList, m_LockText]
  cases hok : (lockGo none l && decide (l.length ≤ 12)) with
  | false => rfl
  | true =>
    simp only [Bool.and_eq_true, decide_eq_true_eq] at hok
    have loop : ∀ (r : List MPick) (i n : Nat) (acc : Str), l.drop i = r → r.length < n → i + r.length = l.length → acc.length ≤ 220 * i → ∀ k m, spec_LockText_l0 k m n (encL 5 MPick.enc l) (bs acc) i = some ([.one (Cell.str (bs (acc ++ r.flatMap lockRow)))], []) := by
      intro r
      induction r with
      | nil =>
        intro i n acc hd hn hi ha k m
        obtain ⟨n, rfl⟩ : ∃ j, n = j + 1 := ⟨n - 1, by omega⟩
        have := drop_nil hd
        simp only [spec_LockText_l0, callS_canon, callL_canon, Option.map_some, Option.bind_some, shape_one, shape_agg, shape_nil, cellsAt_0, cellsAt_1, cellsAt_2, cellsAt_3, cells_one, cells_agg, cB_zero, cI_zero, cS_zero, cC_zero, cB_cons, cI_cons, cS_cons, cC_cons, cond_true, cond_false, List.length_cons, List.length_nil, beq_self_eq_true, Bool.and_true, Bool.true_and, lenC_encL, lenC_lst, deref_ref, emptyK_nil, bs_size, bs_toList]
        rw [decide_eq_false (by omega), cond_false]
        simp
      | cons p r ih =>
        intro i n acc hd hn hi ha k m
        obtain ⟨n, rfl⟩ : ∃ j, n = j + 1 := ⟨n - 1, by omega⟩
        obtain ⟨hlt, hg, hd'⟩ := drop_cons hd
        simp only [List.length_cons] at hn hi
        have hmem := List.mem_of_getElem? hg
        have hb := hl.2 p hmem
        have hr := lockRow_le (lockGo_name hok.1 p hmem)
        have hr' := hr
        simp only [lockRow, List.length_append, List.length_singleton] at hr'
        have k1 : catS (bs acc) (bs p.Name) = some (bs (acc ++ p.Name)) := catS_bs (by omega)
        have k2 : catS (bs (acc ++ p.Name)) (bs [64]) = some (bs (acc ++ p.Name ++ [64])) := catS_bs (by simp; omega)
        have k3 : catS (bs (acc ++ p.Name ++ [64])) (bs (verTextM p.V.A p.V.B p.V.C p.V.Pre)) = some (bs (acc ++ p.Name ++ [64] ++ verTextM p.V.A p.V.B p.V.C p.V.Pre)) := catS_bs (by simp; omega)
        have k4 : catS (bs (acc ++ p.Name ++ [64] ++ verTextM p.V.A p.V.B p.V.C p.V.Pre)) (bs [10]) = some (bs (acc ++ lockRow p)) := by
          rw [catS_bs (by simp; omega)]
          simp [lockRow]
        simp only [spec_LockText_l0, callS_canon, callL_canon, Option.map_some, Option.bind_some, shape_one, shape_agg, shape_nil, cellsAt_0, cellsAt_1, cellsAt_2, cellsAt_3, cells_one, cells_agg, cB_zero, cI_zero, cS_zero, cC_zero, cB_cons, cI_cons, cS_cons, cC_cons, cond_true, cond_false, List.length_cons, List.length_nil, beq_self_eq_true, Bool.and_true, Bool.true_and, lenC_encL, lenC_lst, deref_ref, emptyK_nil, bs_size, bs_toList]
        rw [decide_eq_true (by omega), cond_true]
        simp only [idxA_encL, hg, MPick.enc, fldA_ref, Nat.zero_add, k1, k2, k3, k4, c_spec_VerText _ _ _ _ hb.2.2.2.2, wrap_succ (show i < maxLen by omega), callS_canon, callL_canon, Option.map_some, Option.bind_some, shape_one, shape_agg, shape_nil, cellsAt_0, cellsAt_1, cellsAt_2, cellsAt_3, cells_one, cells_agg, cB_zero, cI_zero, cS_zero, cC_zero, cB_cons, cI_cons, cS_cons, cC_cons, cond_true, cond_false, List.length_cons, List.length_nil, beq_self_eq_true, Bool.and_true, Bool.true_and, lenC_encL, lenC_lst, deref_ref, emptyK_nil, bs_size, bs_toList]
        rw [ih (i + 1) n _ hd' (by omega) (by omega) (by rw [List.length_append]; omega) k m]
        simp
    have := loop l 0 (l.length + 1 + 1) [] rfl (by omega) (by omega) (by simp) (l.length + 1 + 1) (l.length + 1 + 1)
    simpa using this
/-- A builder and its row. -/
def bH (acc : Str) (ep : Nat) : List Entry := [Entry.mk 1 [[Cell.str (bs acc)]] 0 false, Entry.mk 1 [] ep false]
theorem bw_run (T e : Nat) (acc s : Str) (ep : Nat) (h : acc.length + s.length ≤ 1048576) : run_bwstr T e [.one (.bl T e 0 0), .one (Cell.str (bs s))] (bH acc ep) = some ([.one (Cell.int s.length), .one (.sc .nilIface)], bH (acc ++ s) (ep + 1)) := by
  have e1 : bldText (bH acc ep) 0 0 = some acc := by simp [bldText, entry?, bH, bs]
  have e2 : bldPut (bH acc ep) 0 (acc ++ (bs s).data.toList) = some (bH (acc ++ s) (ep + 1)) := by
    rw [bs_data]
    rfl
  simp only [run_bwstr]
  rw [if_pos ⟨trivial, trivial⟩, e1]
  simp only [Option.bind_some, bs_size, e2, Option.map_some]
  rw [if_pos (by omega)]
theorem br_run (T e : Nat) (acc : Str) (ep : Nat) : ∃ H', run_bstr T e [.one (.bl T e 0 0)] (bH acc ep) = some ([.one (Cell.str (bs acc))], H') := by
  have e1 : bldText (bH acc ep) 0 0 = some acc := by simp [bldText, entry?, bH, bs]
  refine ⟨[Entry.mk 1 [] 1 false, Entry.mk 1 [] ep false], ?_⟩
  simp only [run_bstr]
  rw [if_pos ⟨trivial, trivial⟩, e1]
  rfl
theorem c_impl_LockText (l : List MPick) (hl : bdL 1048576 (MPick.Bd 1048576) l) : out run_impl_LockText [.one (encL 5 MPick.enc l)] = some [.one (Cell.str (bs (m_LockText l)))] := by
  have hM := maxLen_eq
  by_cases h12 : l.length ≤ 12
  · have loop : ∀ (r : List MPick) (i n ep : Nat) (acc : Str), l.drop i = r → r.length < n → i + r.length = l.length → acc.length ≤ 220 * i → ∀ k m, ∃ H', impl_LockText_l0 k m n (encL 5 MPick.enc l) (encL 5 MPick.enc l) l.length i (bH acc ep) = some ([.one (Cell.str (bs (if lockGo (prevOf l i) r then acc ++ r.flatMap lockRow else [])))], H') := by
      intro r
      induction r with
      | nil =>
        intro i n ep acc hd hn hi ha k m
        obtain ⟨n, rfl⟩ : ∃ j, n = j + 1 := ⟨n - 1, by omega⟩
        have := drop_nil hd
        obtain ⟨H', e⟩ : ∃ H', run_strings_Builder_String _ (bH acc ep) = some ([.one (Cell.str (bs acc))], H') := br_run _ _ acc ep
        refine ⟨H', ?_⟩
        simp only [impl_LockText_l0]
        rw [decide_eq_false (by omega), cond_false]
        simp only [e, callS_canon, callL_canon, Option.map_some, Option.bind_some, shape_one, shape_agg, shape_nil, cellsAt_0, cellsAt_1, cellsAt_2, cellsAt_3, cells_one, cells_agg, cB_zero, cI_zero, cS_zero, cC_zero, cB_cons, cI_cons, cS_cons, cC_cons, cond_true, cond_false, List.length_cons, List.length_nil, beq_self_eq_true, Bool.and_true, Bool.true_and, lenC_encL, lenC_lst, deref_ref, emptyK_nil, bs_size, bs_toList, lockGo, if_true, List.flatMap_nil, List.append_nil]
      | cons p r ih =>
        intro i n ep acc hd hn hi ha k m
        obtain ⟨n, rfl⟩ : ∃ j, n = j + 1 := ⟨n - 1, by omega⟩
        obtain ⟨hlt, hg, hd'⟩ := drop_cons hd
        simp only [List.length_cons] at hn hi
        have hmem := List.mem_of_getElem? hg
        have hb := hl.2 p hmem
        have hnm : p.Name.length ≤ 1073741824 := Nat.le_trans hb.1 (by omega)
        have e2 : prevOf l (i + 1) = some p.Name := by simp [prevOf, hg]
        simp only [impl_LockText_l0]
        rw [decide_eq_true (by omega), cond_true]
        simp only [idxA_encL, hg, MPick.enc, Nat.zero_add, c_impl_NameOk p.Name hnm, c_impl_VerOk _ _ _ _ hb.2.2.2.2, c_impl_VerText _ _ _ _ hb.2.2.2.2, callS_canon, callL_canon, Option.map_some, Option.bind_some, shape_one, shape_agg, shape_nil, cellsAt_0, cellsAt_1, cellsAt_2, cellsAt_3, cells_one, cells_agg, cB_zero, cI_zero, cS_zero, cC_zero, cB_cons, cI_cons, cS_cons, cC_cons, cond_true, cond_false, List.length_cons, List.length_nil, beq_self_eq_true, Bool.and_true, Bool.true_and, lenC_encL, lenC_lst, deref_ref, emptyK_nil, bs_size, bs_toList, lockGo]
        rcases Bool.eq_false_or_eq_true (nameOk p.Name) with hname | hname
        rotate_left
        · exact ⟨bH acc ep, by simp only [hname]; rfl⟩
        · rcases Bool.eq_false_or_eq_true (verOkM p.V.A p.V.B p.V.C p.V.Pre) with hver | hver
          rotate_left
          · exact ⟨bH acc ep, by simp only [hname, hver]; rfl⟩
          ·
            have hr := lockRow_le hname
            have hr' := hr
            simp only [lockRow, List.length_append, List.length_singleton] at hr'
            have k2 : catS (bs p.Name) (bs [64]) = some (bs (p.Name ++ [64])) := catS_bs (by simp; omega)
            have k3 : catS (bs (p.Name ++ [64])) (bs (verTextM p.V.A p.V.B p.V.C p.V.Pre)) = some (bs (p.Name ++ [64] ++ verTextM p.V.A p.V.B p.V.C p.V.Pre)) := catS_bs (by simp; omega)
            have k4 : catS (bs (p.Name ++ [64] ++ verTextM p.V.A p.V.B p.V.C p.V.Pre)) (bs [10]) = some (bs (lockRow p)) := by
              rw [catS_bs (by simp; omega)]
              rfl
            have kw : run_strings_Builder_WriteString [.one (.bl _ _ 0 0), .one (Cell.str (bs (lockRow p)))] (bH acc ep) = some ([.one (Cell.int (lockRow p).length), .one (.sc .nilIface)], bH (acc ++ lockRow p) (ep + 1)) := bw_run _ _ acc (lockRow p) ep (by omega)
            obtain ⟨H', z⟩ := ih (i + 1) n (ep + 1) (acc ++ lockRow p) hd' (by omega) (by omega) (by rw [List.length_append]; omega) k m
            rw [e2] at z
            have hfl : acc ++ (p :: r).flatMap lockRow = acc ++ lockRow p ++ r.flatMap lockRow := by simp
            rw [hfl]
            cases i with
            | zero =>
              refine ⟨H', ?_⟩
              simp only [hname, hver, Bool.not_true, cond_false, prevOf, Bool.true_and]
              rw [decide_eq_false (by omega), cond_false]
              simp only [k2, k3, k4, kw, callS_canon, callL_canon, Option.map_some, Option.bind_some, shape_one, shape_agg, shape_nil, cellsAt_0, cellsAt_1, cellsAt_2, cellsAt_3, cells_one, cells_agg, cB_zero, cI_zero, cS_zero, cC_zero, cB_cons, cI_cons, cS_cons, cC_cons, cond_true, cond_false, List.length_cons, List.length_nil, beq_self_eq_true, Bool.and_true, Bool.true_and, lenC_encL, lenC_lst, deref_ref, emptyK_nil, bs_size, bs_toList]
              rw [wrap_succ (by omega)]
              exact z
            | succ j =>
              obtain ⟨q, hq⟩ : ∃ q, l[j]? = some q := ⟨l[j], List.getElem?_eq_getElem (by omega)⟩
              have hw : IntKind.i64.wrap (((j + 1 : Nat) : Int) - 1) = (j : Int) := by rw [wrap_small (by omega) (by omega)]; omega
              have hlt2 : (Op.bytesLess p.Name q.Name || p.Name == q.Name) = !lt q.Name p.Name := by rw [bl_eq, lt_not]
              simp only [hname, hver, Bool.not_true, cond_false, hw, idxA_encL, hq, MPick.enc, fldA_ref, Nat.zero_add, callS_canon, callL_canon, Option.map_some, Option.bind_some, shape_one, shape_agg, shape_nil, cellsAt_0, cellsAt_1, cellsAt_2, cellsAt_3, cells_one, cells_agg, cB_zero, cI_zero, cS_zero, cC_zero, cB_cons, cI_cons, cS_cons, cC_cons, cond_true, cond_false, List.length_cons, List.length_nil, beq_self_eq_true, Bool.and_true, Bool.true_and, lenC_encL, lenC_lst, deref_ref, emptyK_nil, bs_size, bs_toList, hlt2, prevOf, Option.map_some, Bool.true_and]
              rw [decide_eq_true (by omega), cond_true]
              rcases Bool.eq_false_or_eq_true (lt q.Name p.Name) with hlq | hlq
              rotate_left
              · exact ⟨bH acc ep, by simp only [hlq]; rfl⟩
              · refine ⟨H', ?_⟩
                simp only [hlq, Bool.not_true, cond_false, k2, k3, k4, kw, callS_canon, callL_canon, Option.map_some, Option.bind_some, shape_one, shape_agg, shape_nil, cellsAt_0, cellsAt_1, cellsAt_2, cellsAt_3, cells_one, cells_agg, cB_zero, cI_zero, cS_zero, cC_zero, cB_cons, cI_cons, cS_cons, cC_cons, cond_true, cond_false, List.length_cons, List.length_nil, beq_self_eq_true, Bool.and_true, Bool.true_and, lenC_encL, lenC_lst, deref_ref, emptyK_nil, bs_size, bs_toList, Bool.true_and]
                rw [wrap_succ (by omega)]
                exact z
    obtain ⟨H', z⟩ := loop l 0 (l.length + 1 + 1) 0 [] rfl (by omega) (by omega) (by simp) (l.length + 1 + 1) (l.length + 1 + 1)
    refine out_of (H := H') (run_impl_LockText_of (l.length + 1) ?_)
    simp only [impl_LockText, callS_canon, callL_canon, Option.map_some, Option.bind_some, shape_one, shape_agg, shape_nil, cellsAt_0, cellsAt_1, cellsAt_2, cellsAt_3, cells_one, cells_agg, cB_zero, cI_zero, cS_zero, cC_zero, cB_cons, cI_cons, cS_cons, cC_cons, cond_true, cond_false, List.length_cons, List.length_nil, beq_self_eq_true, Bool.and_true, Bool.true_and, lenC_encL, lenC_lst, deref_ref, emptyK_nil, bs_size, bs_toList]
    rw [decide_eq_false (by omega), cond_false]
    have e : m_LockText l = if lockGo none l then [] ++ l.flatMap lockRow else [] := by
      rw [m_LockText, decide_eq_true h12, Bool.and_true, List.nil_append]
    rw [e]
    exact z
  · refine out_of (H := []) (run_impl_LockText_of 0 ?_)
    simp only [impl_LockText, callS_canon, callL_canon, Option.map_some, Option.bind_some, shape_one, shape_agg, shape_nil, cellsAt_0, cellsAt_1, cellsAt_2, cellsAt_3, cells_one, cells_agg, cB_zero, cI_zero, cS_zero, cC_zero, cB_cons, cI_cons, cS_cons, cC_cons, cond_true, cond_false, List.length_cons, List.length_nil, beq_self_eq_true, Bool.and_true, Bool.true_and, lenC_encL, lenC_lst, deref_ref, emptyK_nil, bs_size, bs_toList]
    rw [decide_eq_true (by omega), cond_true, m_LockText, decide_eq_false h12, Bool.and_false]
    rfl
theorem c_laws_FnExactLockText (xs : List MPick) (hx : bdL maxLen (MPick.Bd maxLen) xs) : out run_laws_FnExactLockText [.one (encL 5 MPick.enc xs)] = some [.one (Cell.bool true)] := by
  refine out_of (H := []) (run_laws_FnExactLockText_of 0 ?_)
  simp only [laws_FnExactLockText, callS_canon, callL_canon, Option.map_some, Option.bind_some, shape_one, shape_agg, shape_nil, cellsAt_0, cellsAt_1, cellsAt_2, cellsAt_3, cells_one, cells_agg, cB_zero, cI_zero, cS_zero, cC_zero, cB_cons, cI_cons, cS_cons, cC_cons, cond_true, cond_false, List.length_cons, List.length_nil, beq_self_eq_true, Bool.and_true, Bool.true_and, lenC_encL, lenC_lst, deref_ref, emptyK_nil, bs_size, bs_toList]
  rw [c_laws_szPickS _ _ hx (by omega) (by omega)]
  simp only [callS_canon, callL_canon, Option.map_some, Option.bind_some, shape_one, shape_agg, shape_nil, cellsAt_0, cellsAt_1, cellsAt_2, cellsAt_3, cells_one, cells_agg, cB_zero, cI_zero, cS_zero, cC_zero, cB_cons, cI_cons, cS_cons, cC_cons, cond_true, cond_false, List.length_cons, List.length_nil, beq_self_eq_true, Bool.and_true, Bool.true_and, lenC_encL, lenC_lst, deref_ref, emptyK_nil, bs_size, bs_toList, condSz]
  by_cases g : ((wtL MPick.wt xs : Nat) : Int) ≤ 1048576
  · rw [if_pos g]
    have bx : bdL 1048576 (MPick.Bd 1048576) xs := bdL_wt hx (by omega) fun y h hw => MPick.bd_wt h hw
    simp only [c_laws_toPickS _ bx, c_spec_LockText _ bx, c_impl_LockText _ bx, c_laws_eqPickS _ _ bx bx, callS_canon, callL_canon, Option.map_some, Option.bind_some, shape_one, shape_agg, shape_nil, cellsAt_0, cellsAt_1, cellsAt_2, cellsAt_3, cells_one, cells_agg, cB_zero, cI_zero, cS_zero, cC_zero, cB_cons, cI_cons, cS_cons, cC_cons, cond_true, cond_false, List.length_cons, List.length_nil, beq_self_eq_true, Bool.and_true, Bool.true_and, lenC_encL, lenC_lst, deref_ref, emptyK_nil, bs_size, bs_toList]
    simp [c_laws_eqPickS _ _ bx bx, cB, shapeOk, cellsAt, AV.cells]
  · rw [if_neg g]
end Go.Ev
