/- What the functions come to. Conditions: none. -/
import Derived.Test.YtohfdpklicamkaaEvCon
set_option linter.unusedSimpArgs false
set_option linter.unusedVariables false
namespace Go.Ev
open Go
/-! names -/
def inR (x a b : Int) : Bool := decide (a ≤ x) && decide (x ≤ b)
def isSmall (b : UInt8) : Bool := inR b.toNat 97 122
def isFigure (b : UInt8) : Bool := inR b.toNat 48 57
def nameGo (first : Bool) : Str → Bool
  | [] => true
  | b :: r => (isSmall b || (!first && (isFigure b || b == 45))) && nameGo false r
def nameOk (s : Str) : Bool := nameGo true s && inR s.length 1 10
theorem u8_eq (b : UInt8) (n : Nat) (h : n < 256) : ((b.toNat : Int) == (n : Int)) = (b == UInt8.ofNat n) := by
  rw [Bool.eq_iff_iff]
  simp only [beq_iff_eq]
  constructor
  · intro e
    apply UInt8.toNat_inj.1
    have : (UInt8.ofNat n).toNat = n := by simp; omega
    omega
  · intro e
    have : (UInt8.ofNat n).toNat = n := by simp; omega
    rw [e, this]
theorem u8_ne (b : UInt8) (n : Nat) (h : n < 256) : ((b.toNat : Int) != (n : Int)) = (b != UInt8.ofNat n) := by
  simp only [bne, u8_eq b n h]
theorem u8_lt (b : UInt8) : (b.toNat : Int) < 256 := by have := b.toNat_lt; omega
/-! parts of a text -/
/-- The parts between which a byte stands; cur: what stands ahead already. -/
def splitGo (c : UInt8) (cur : Str) : Str → List Str
  | [] => [cur]
  | b :: r => if b = c then cur :: splitGo c [] r else splitGo c (cur ++ [b]) r
def split (c : UInt8) (s : Str) : List Str := splitGo c [] s
/-- What stands ahead of the first such byte, and behind it. -/
def ahead (c : UInt8) (s : Str) : Str := s.takeWhile (· != c)
def behind (c : UInt8) (s : Str) : Str := (s.dropWhile (· != c)).drop 1

theorem splitGo_length (c : UInt8) : ∀ (s cur : Str), (splitGo c cur s).length ≤ s.length + 1 ∧ ∀ x ∈ splitGo c cur s, x.length ≤ cur.length + s.length := by
  intro s
  induction s with
  | nil => intro cur; simp [splitGo]
  | cons b r ih =>
    intro cur
    simp only [splitGo]
    split
    · obtain ⟨h1, h2⟩ := ih []
      refine ⟨by simp; omega, fun x hx => ?_⟩
      rcases List.mem_cons.1 hx with rfl | hx
      · simp
      · have := h2 x hx; simp at this; simp; omega
    · obtain ⟨h1, h2⟩ := ih (cur ++ [b])
      refine ⟨by simp; omega, fun x hx => ?_⟩
      have := h2 x hx; simp at this; simp; omega

theorem splitGo_not {c : UInt8} : ∀ {s : Str} (cur : Str), c ∉ s → splitGo c cur s = [cur ++ s] := by
  intro s
  induction s with
  | nil => intro cur _; simp [splitGo]
  | cons b r ih =>
    intro cur h
    simp only [List.mem_cons, not_or] at h
    simp only [splitGo]
    rw [if_neg fun e => h.1 e.symm, ih _ h.2]
    simp

theorem splitGo_cut {c : UInt8} : ∀ {s : Str} (cur : Str), c ∈ s → splitGo c cur s = (cur ++ ahead c s) :: splitGo c [] (behind c s) := by
  intro s
  induction s with
  | nil => intro cur h; simp at h
  | cons b r ih =>
    intro cur h
    simp only [splitGo]
    by_cases e : b = c
    · subst e
      simp [ahead, behind]
    · rw [if_neg e, ih _ (by simpa [Ne.symm e] using h)]
      simp [ahead, behind, e]

theorem split_not {c : UInt8} {s : Str} (h : c ∉ s) : split c s = [s] := splitGo_not [] h
theorem split_cut {c : UInt8} {s : Str} (h : c ∈ s) : split c s = ahead c s :: split c (behind c s) := splitGo_cut [] h
theorem splitGo_ne {c : UInt8} : ∀ (s cur : Str), splitGo c cur s ≠ [] := by
  intro s
  induction s with
  | nil => intro cur; simp [splitGo]
  | cons b r ih => intro cur; simp only [splitGo]; split <;> simp [ih]
theorem ahead_le (c : UInt8) (s : Str) : (ahead c s).length ≤ s.length := by
  have := (List.takeWhile_prefix (fun x => x != c) (l := s)).length_le
  exact this
theorem behind_le (c : UInt8) (s : Str) : (behind c s).length ≤ s.length := by
  have := (List.dropWhile_suffix (fun x => x != c) (l := s)).length_le
  simp only [behind, List.length_drop]
  omega
theorem ahead_not {c : UInt8} (s : Str) : c ∉ ahead c s := by
  induction s with
  | nil => simp [ahead]
  | cons b r ih =>
    unfold ahead
    rw [List.takeWhile_cons]
    split
    · rename_i h
      intro hm
      rcases List.mem_cons.1 hm with e | e
      · rw [← e] at h; simp at h
      · exact ih e
    · simp

theorem nameGo_mem : ∀ {s : Str} {f : Bool}, nameGo f s = true → ∀ b ∈ s, isSmall b = true ∨ isFigure b = true ∨ b = 45 := by
  intro s
  induction s with
  | nil => intro f _ b hb; simp at hb
  | cons c r ih =>
    intro f h b hb
    simp only [nameGo, Bool.and_eq_true, Bool.or_eq_true, beq_iff_eq] at h
    rcases List.mem_cons.1 hb with rfl | hb
    · rcases h.1 with h1 | h1
      · exact .inl h1
      · rcases h1.2 with h2 | h2
        · exact .inr (.inl h2)
        · exact .inr (.inr h2)
    · exact ih h.2 b hb
theorem nameOk_not {s : Str} (h : nameOk s = true) : (35 : UInt8) ∉ s ∧ (94 : UInt8) ∉ s := by
  simp only [nameOk, Bool.and_eq_true] at h
  constructor <;> intro hb <;> rcases nameGo_mem h.1 _ hb with h | h | h <;> revert h <;> decide
theorem nameOk_nil : nameOk [] = false := rfl
theorem ahead_all {c : UInt8} {s : Str} (h : c ∉ s) : ahead c s = s := by
  induction s with
  | nil => rfl
  | cons b r ih =>
    simp only [List.mem_cons, not_or] at h
    have : ahead c (b :: r) = b :: ahead c r := by simp [ahead, Ne.symm h.1]
    rw [this, ih h.2]
theorem behind_none {c : UInt8} {s : Str} (h : c ∉ s) : behind c s = [] := by
  induction s with
  | nil => rfl
  | cons b r ih =>
    simp only [List.mem_cons, not_or] at h
    have : behind c (b :: r) = behind c r := by simp [behind, Ne.symm h.1]
    rw [this, ih h.2]
/-! tasks -/
def parseTask (s : Str) : Str × Str × Bool := if nameOk (ahead 35 s) && nameOk (behind 35 s) then (ahead 35 s, behind 35 s, true) else ([], [], false)
def parseTaskV (s : Str) : List AV := [.one (Cell.str (bs (parseTask s).1)), .one (Cell.str (bs (parseTask s).2.1)), .one (Cell.bool (parseTask s).2.2)]
theorem not_mem_behind {c : UInt8} {s : Str} (h : c ∉ s) (d : UInt8) : d ∉ behind c s := by
  rw [behind_none h]
  simp
/-- A text without what stands ahead of it. -/
def trimP (p s : Str) : Str := if p.isPrefixOf s then s.drop p.length else s
def onOk (s : Str) : Bool := if 35 ∈ s then nameOk (ahead 35 s) && nameOk (behind 35 s) else nameOk (trimP [94] s)
theorem bytS_head (b : UInt8) (r : Str) : bytS (bs (b :: r)) 0 = some (b.toNat : Int) := by
  have := bytS_bs (b :: r) 0
  simpa using this
/-! the order of texts -/
def lt (a b : Str) : Bool := Op.bytesLess a b
theorem lt_self (a : Str) : lt a a = false := by
  unfold lt
  induction a with
  | nil => rfl
  | cons x a ih => simp [Op.bytesLess, ih]
theorem lt_not : ∀ (a b : Str), (lt a b || a == b) = !lt b a := by
  unfold lt
  intro a
  induction a with
  | nil => intro b; cases b <;> rfl
  | cons x a ih =>
    intro b
    cases b with
    | nil => rfl
    | cons y b =>
      have h := ih b
      simp only [Op.bytesLess]
      have e : ((x :: a) == (y :: b)) = (x == y && a == b) := rfl
      rw [e]
      rcases Nat.lt_trichotomy x.toNat y.toNat with h1 | h1 | h1
      · have e1 : decide (x < y) = true := by simpa [UInt8.lt_iff_toNat_lt] using h1
        have e2 : decide (y < x) = false := by simp [UInt8.lt_iff_toNat_lt]; omega
        have e3 : (y == x) = false := by simp; intro e; rw [e] at h1; omega
        simp [e1, e2, e3]
      · have e0 := UInt8.toNat_inj.1 h1
        subst e0
        have e1 : decide (x < x) = false := by simp
        simp only [e1, Bool.false_or, beq_self_eq_true, Bool.true_and, h]
      · have e1 : decide (y < x) = true := by simpa [UInt8.lt_iff_toNat_lt] using h1
        have e2 : decide (x < y) = false := by simp [UInt8.lt_iff_toNat_lt]; omega
        have e3 : (x == y) = false := by simp; intro e; rw [e] at h1; omega
        simp [e1, e2, e3]
theorem bl_eq (a b : Str) : Op.bytesLess a b = lt a b := rfl
/-- Ascending, each text once. -/
def asc : List Str → Bool
  | [] => true
  | [_] => true
  | a :: b :: r => lt a b && asc (b :: r)
theorem wrap_pred {i : Nat} (h : i < Go.maxLen) : IntKind.i64.wrap (((i + 1 : Nat) : Int) - 1) = (i : Int) := by
  have := maxLen_eq
  rw [wrap_small (by omega) (by omega)]
  omega
theorem c_spec_l1Has (xs : List Str) (s : Str) (hx : xs.length ≤ 1073741824) : out run_spec_l1Has [.one (strsC xs), .one (Cell.str (bs s))] = some [.one (Cell.bool (xs.contains s))] := by
  have hM := maxLen_eq
  have loop : ∀ (r : List Str) (i n : Nat), xs.drop i = r → r.length < n → ∀ k m, spec_l1Has_l0 k m n (strsC xs) (bs s) i = some ([.one (Cell.bool (r.contains s))], []) := by
    intro r
    induction r with
    | nil =>
      intro i n hd hn k m
      obtain ⟨n, rfl⟩ : ∃ j, n = j + 1 := ⟨n - 1, by omega⟩
      have := drop_nil hd
      simp only [spec_l1Has_l0, lenC_encL, Option.bind_some]
      rw [decide_eq_false (by omega), cond_false]
      rfl
    | cons b r ih =>
      intro i n hd hn k m
      obtain ⟨n, rfl⟩ : ∃ j, n = j + 1 := ⟨n - 1, by omega⟩
      obtain ⟨hlt, hg, hd'⟩ := drop_cons hd
      simp only [List.length_cons] at hn
      simp only [spec_l1Has_l0, idxA_encL, hg, eStr, callS_canon, callL_canon, Option.map_some, Option.bind_some, shape_one, shape_agg, shape_nil, cellsAt_0, cellsAt_1, cellsAt_2, cellsAt_3, cells_one, cells_agg, cB_zero, cI_zero, cS_zero, cC_zero, cB_cons, cI_cons, cS_cons, cC_cons, cond_true, cond_false, List.length_cons, List.length_nil, beq_self_eq_true, Bool.and_true, Bool.true_and, lenC_encL, lenC_lst, deref_ref, emptyK_nil, bs_size, bs_toList]
      rw [decide_eq_true (by omega), cond_true, wrap_succ (by omega), ih (i + 1) n hd' (by omega), List.contains_cons]
      have : (b == s) = (s == b) := by rw [Bool.eq_iff_iff]; simp only [beq_iff_eq]; exact eq_comm
      rw [this]
      cases (s == b) <;> rfl
  refine out_of (H := []) (run_spec_l1Has_of (xs.length + 1) ?_)
  have := loop xs 0 (xs.length + 1 + 1) rfl (by omega) (xs.length + 1 + 1) (xs.length + 1 + 1)
  simpa [spec_l1Has] using this
/-- The place of a text in a list. -/
def idxS (s : Str) : List Str → Nat → Int
  | [], _ => -1
  | b :: r, i => if s = b then (i : Int) else idxS s r (i + 1)
theorem idxS_ge (s : Str) : ∀ (l : List Str) (i : Nat), (decide (idxS s l i ≥ 0)) = l.contains s := by
  intro l
  induction l with
  | nil => intro i; rfl
  | cons b r ih =>
    intro i
    rw [List.contains_cons]
    by_cases e : s = b
    · have e1 : idxS s (b :: r) i = (i : Int) := if_pos e
      rw [e1, show (s == b) = true by simpa using e, decide_eq_true (by omega)]; rfl
    · have e1 : idxS s (b :: r) i = idxS s r (i + 1) := if_neg e
      rw [e1, ih, show (s == b) = false by simpa using e]; rfl
theorem c_slices_Index_string (xs : List Str) (s : Str) (hx : xs.length ≤ 1073741824) : out run_slices_Index_string [.one (strsC xs), .one (Cell.str (bs s))] = some [.one (Cell.int (idxS s xs 0))] := by
  have hM := maxLen_eq
  have loop : ∀ (r : List Str) (i n : Nat), xs.drop i = r → r.length < n → ∀ k m, slices_Index_string_l0 k m n (strsC xs) (bs s) xs.length i = some ([.one (Cell.int (idxS s r i))], []) := by
    intro r
    induction r with
    | nil =>
      intro i n hd hn k m
      obtain ⟨n, rfl⟩ : ∃ j, n = j + 1 := ⟨n - 1, by omega⟩
      have := drop_nil hd
      simp only [slices_Index_string_l0]
      rw [decide_eq_false (by omega), cond_false]
      rfl
    | cons b r ih =>
      intro i n hd hn k m
      obtain ⟨n, rfl⟩ : ∃ j, n = j + 1 := ⟨n - 1, by omega⟩
      obtain ⟨hlt, hg, hd'⟩ := drop_cons hd
      simp only [List.length_cons] at hn
      simp only [slices_Index_string_l0, idxA_encL, hg, eStr, callS_canon, callL_canon, Option.map_some, Option.bind_some, shape_one, shape_agg, shape_nil, cellsAt_0, cellsAt_1, cellsAt_2, cellsAt_3, cells_one, cells_agg, cB_zero, cI_zero, cS_zero, cC_zero, cB_cons, cI_cons, cS_cons, cC_cons, cond_true, cond_false, List.length_cons, List.length_nil, beq_self_eq_true, Bool.and_true, Bool.true_and, lenC_encL, lenC_lst, deref_ref, emptyK_nil, bs_size, bs_toList]
      rw [decide_eq_true (by omega), cond_true, wrap_succ (by omega), ih (i + 1) n hd' (by omega)]
      simp only [idxS]
      by_cases e : s = b
      · rw [show (s == b) = true by simpa using e, if_pos e]; rfl
      · rw [show (s == b) = false by simpa using e, if_neg e]; rfl
  refine out_of (H := []) (run_slices_Index_string_of (xs.length + 1) ?_)
  have := loop xs 0 (xs.length + 1 + 1) rfl (by omega) (xs.length + 1 + 1) (xs.length + 1 + 1)
  simpa [slices_Index_string] using this
theorem c_slices_Contains_string (xs : List Str) (s : Str) (hx : xs.length ≤ 1073741824) : out run_slices_Contains_string [.one (strsC xs), .one (Cell.str (bs s))] = some [.one (Cell.bool (xs.contains s))] := by
  refine out_of (H := []) (run_slices_Contains_string_of 0 ?_)
  simp only [slices_Contains_string, c_slices_Index_string xs s hx, callS_canon, callL_canon, Option.map_some, Option.bind_some, shape_one, shape_agg, shape_nil, cellsAt_0, cellsAt_1, cellsAt_2, cellsAt_3, cells_one, cells_agg, cB_zero, cI_zero, cS_zero, cC_zero, cB_cons, cI_cons, cS_cons, cC_cons, cond_true, cond_false, List.length_cons, List.length_nil, beq_self_eq_true, Bool.and_true, Bool.true_and, lenC_encL, lenC_lst, deref_ref, emptyK_nil, bs_size, bs_toList, idxS_ge]
theorem idxS_nat (s : Str) : ∀ (l : List Str) (i : Nat), (idxS s l i = -1 ∧ s ∉ l) ∨ ∃ j x, idxS s l i = ((i + j : Nat) : Int) ∧ l[j]? = some x := by
  intro l
  induction l with
  | nil => intro i; exact .inl ⟨rfl, by simp⟩
  | cons b r ih =>
    intro i
    by_cases e : s = b
    · exact .inr ⟨0, b, by simp [idxS, e], rfl⟩
    · rcases ih (i + 1) with ⟨h1, h2⟩ | ⟨j, x, h1, h2⟩
      · exact .inl ⟨by simp [idxS, e, h1], by simp [e, h2]⟩
      · exact .inr ⟨j + 1, x, by simp only [idxS, if_neg e, h1]; congr 1; omega, by simpa using h2⟩
/-- What a name leans on. -/
def nextOf (names : List Str) (next : List (List Str)) (s : Str) : List Str := if idxS s names 0 < 0 then [] else (next[(idxS s names 0).toNat]?).getD []
theorem idxS_take (s : Str) (n : Nat) : ∀ (l : List Str) (i : Nat), (idxS s (l.take n) i = idxS s l i ∧ idxS s l i < ((i + n : Nat) : Int)) ∨ (idxS s (l.take n) i = -1 ∧ ((i + n : Nat) : Int) ≤ idxS s l i) := by
  induction n with
  | zero =>
    intro l i
    rcases idxS_nat s l i with ⟨h1, _⟩ | ⟨j, x, h1, _⟩
    · exact .inl ⟨by rw [h1]; rfl, by rw [h1]; omega⟩
    · exact .inr ⟨rfl, by rw [h1]; omega⟩
  | succ n ih =>
    intro l i
    cases l with
    | nil => exact .inl ⟨rfl, by simp only [idxS]; omega⟩
    | cons b r =>
      by_cases e : s = b
      · exact .inl ⟨by simp [idxS, e], by simp only [idxS, if_pos e]; omega⟩
      · simp only [List.take_succ_cons, idxS, if_neg e]
        have := ih r (i + 1)
        rw [show i + 1 + n = i + (n + 1) by omega] at this
        exact this
/-- What names lean on is not asked behind the shorter of both. -/
theorem nextOf_take (names : List Str) (next : List (List Str)) (s : Str) : nextOf (names.take (min names.length next.length)) (next.take (min names.length next.length)) s = nextOf names next s := by
  unfold nextOf
  rcases idxS_take s (min names.length next.length) names 0 with ⟨h1, h2⟩ | ⟨h1, h2⟩
  · rw [h1]
    split
    · rfl
    · rw [List.getElem?_take, if_pos (by omega)]
  · rw [h1, if_pos (by omega), if_neg (by omega)]
    rcases idxS_nat s names 0 with ⟨h3, _⟩ | ⟨j, x, h3, h4⟩
    · rw [h3] at h2; omega
    · have hj := (List.getElem?_eq_some_iff.1 h4).1
      rw [h3] at h2 ⊢
      rw [List.getElem?_eq_none (by omega)]
      rfl
theorem c_spec_l11At (xs : List Str) (c : Cell) [Canon c] (s : Str) (hx : xs.length ≤ 1073741824) : out run_spec_l11At [.agg [strsC xs, c], .one (Cell.str (bs s))] = some [.one (Cell.int (idxS s xs 0))] := by
  have hM := maxLen_eq
  have loop : ∀ (r : List Str) (i n : Nat), xs.drop i = r → r.length < n → ∀ k m, spec_l11At_l0 k m n (bs s) i (strsC xs) c = some ([.one (Cell.int (idxS s r i))], []) := by
    intro r
    induction r with
    | nil =>
      intro i n hd hn k m
      obtain ⟨n, rfl⟩ : ∃ j, n = j + 1 := ⟨n - 1, by omega⟩
      have := drop_nil hd
      simp only [spec_l11At_l0, lenC_encL, Option.bind_some]
      rw [decide_eq_false (by omega), cond_false]
      rfl
    | cons b r ih =>
      intro i n hd hn k m
      obtain ⟨n, rfl⟩ : ∃ j, n = j + 1 := ⟨n - 1, by omega⟩
      obtain ⟨hlt, hg, hd'⟩ := drop_cons hd
      simp only [List.length_cons] at hn
      simp only [spec_l11At_l0, idxA_encL, hg, eStr, callS_canon, callL_canon, Option.map_some, Option.bind_some, shape_one, shape_agg, shape_nil, cellsAt_0, cellsAt_1, cellsAt_2, cellsAt_3, cells_one, cells_agg, cB_zero, cI_zero, cS_zero, cC_zero, cB_cons, cI_cons, cS_cons, cC_cons, cond_true, cond_false, List.length_cons, List.length_nil, beq_self_eq_true, Bool.and_true, Bool.true_and, lenC_encL, lenC_lst, deref_ref, emptyK_nil, bs_size, bs_toList]
      rw [decide_eq_true (by omega), cond_true, wrap_succ (by omega), ih (i + 1) n hd' (by omega)]
      simp only [idxS]
      by_cases e : s = b
      · rw [show (b == s) = true by simpa using e.symm, if_pos e]; rfl
      · rw [show (b == s) = false by simpa using Ne.symm e, if_neg e]; rfl
  refine out_of (H := []) (run_spec_l11At_of (xs.length + 1) ?_)
  have := loop xs 0 (xs.length + 1 + 1) rfl (by omega) (xs.length + 1 + 1) (xs.length + 1 + 1)
  simpa [spec_l11At] using this
theorem c_spec_l11Next (xs : List Str) (ds : List (List Str)) (s : Str) (hx : xs.length ≤ 1073741824) (hl : xs.length = ds.length) : outL run_spec_l11Next [.agg [strsC xs, encL 1 eStrs ds], .one (Cell.str (bs s))] = some [.one (strsC (nextOf xs ds s))] := by
  rcases idxS_nat s xs 0 with ⟨h1, _⟩ | ⟨j, x, h1, h2⟩
  · refine outL_of (H := []) (xs := [.one (.lst true 1 [])]) (run_spec_l11Next_of 0 ?_) ?_
    · simp only [spec_l11Next, c_spec_l11At xs _ s hx, callS_canon, callL_canon, Option.map_some, Option.bind_some, shape_one, shape_agg, shape_nil, cellsAt_0, cellsAt_1, cellsAt_2, cellsAt_3, cells_one, cells_agg, cB_zero, cI_zero, cS_zero, cC_zero, cB_cons, cI_cons, cS_cons, cC_cons, cond_true, cond_false, List.length_cons, List.length_nil, beq_self_eq_true, Bool.and_true, Bool.true_and, lenC_encL, lenC_lst, deref_ref, emptyK_nil, bs_size, bs_toList, h1]
      rfl
    · rw [nextOf, h1, if_pos (by omega)]
      rfl
  · have hj := (List.getElem?_eq_some_iff.1 h2).1
    obtain ⟨d, hd⟩ : ∃ d, ds[j]? = some d := ⟨ds[j], List.getElem?_eq_getElem (by omega)⟩
    have e : nextOf xs ds s = d := by
      rw [nextOf, h1, if_neg (by omega)]
      simp [hd]
    rw [e]
    refine outL_canon (H := []) (run_spec_l11Next_of 0 ?_)
    simp only [spec_l11Next, c_spec_l11At xs _ s hx, callS_canon, callL_canon, Option.map_some, Option.bind_some, shape_one, shape_agg, shape_nil, cellsAt_0, cellsAt_1, cellsAt_2, cellsAt_3, cells_one, cells_agg, cB_zero, cI_zero, cS_zero, cC_zero, cB_cons, cI_cons, cS_cons, cC_cons, cond_true, cond_false, List.length_cons, List.length_nil, beq_self_eq_true, Bool.and_true, Bool.true_and, lenC_encL, lenC_lst, deref_ref, emptyK_nil, bs_size, bs_toList, h1]
    rw [decide_eq_false (by omega), cond_false, Nat.zero_add]
    simp only [idxA_encL, hd, eStrs, callS_canon, callL_canon, Option.map_some, Option.bind_some, shape_one, shape_agg, shape_nil, cellsAt_0, cellsAt_1, cellsAt_2, cellsAt_3, cells_one, cells_agg, cB_zero, cI_zero, cS_zero, cC_zero, cB_cons, cI_cons, cS_cons, cC_cons, cond_true, cond_false, List.length_cons, List.length_nil, beq_self_eq_true, Bool.and_true, Bool.true_and, lenC_encL, lenC_lst, deref_ref, emptyK_nil, bs_size, bs_toList]
theorem strs_rep (xs : List Str) (H : List Entry) (w q : Bool) : ∀ x ∈ xs, ∀ H', Sp (Rep H' true true 1) [] (eStr x) (trStr x) := fun x _ H' => Sp.leaf1 _
theorem f_slices_Clone_string (xs : List Str) (hx : xs.length ≤ 1073741824) : Fresh run_slices_Clone_string true 2 [.one (strsC xs)] [.one (trL 1 trStr xs)] := by
  obtain ⟨p, h1, h2⟩ := (Grow.nil 1).app (by' := 16) (xs.map eStr) (by unfold bound; simp; omega) (by unfold bound; simp; omega)
  rw [List.nil_append] at h2
  obtain ⟨ids, h3, h4, h5⟩ := h2.rep (tr := trStr) (fun _ _ => rfl) (fun x _ H' => Sp.leaf1 _)
  refine Fresh.one (c := p.1) (H := p.2) (run_slices_Clone_string_of 0 ?_) h3 h4
  have hs : srcRows [] 1 (strsC xs) = some (xs.map eStr) := by simp [srcRows, rowsOf, encL]
  simp only [slices_Clone_string, hs, h1, callS_canon, callL_canon, Option.map_some, Option.bind_some, shape_one, shape_agg, shape_nil, cellsAt_0, cellsAt_1, cellsAt_2, cellsAt_3, cells_one, cells_agg, cB_zero, cI_zero, cS_zero, cC_zero, cB_cons, cI_cons, cS_cons, cC_cons, cond_true, cond_false, List.length_cons, List.length_nil, beq_self_eq_true, Bool.and_true, Bool.true_and, lenC_encL, lenC_lst, deref_ref, emptyK_nil, bs_size, bs_toList]
  cases xs with
  | nil =>
    simp only [List.map_nil, app, List.isEmpty_nil, if_true, Option.some.injEq] at h1
    subst h1
    simp [nilC, encL, both]
  | cons x xs => simp [nilC, encL]
theorem c_spec_l13Graph (p : MPlan) (hp : p.Bd 1048576) : outL run_spec_l13Graph [.agg [strsC p.Tasks, encL 1 eStrs p.Deps]] = some [.agg [strsC (p.Tasks.take (min p.Tasks.length p.Deps.length)), encL 1 eStrs (p.Deps.take (min p.Tasks.length p.Deps.length))]] := by
  obtain ⟨b1, b2⟩ := hp
  have hM := maxLen_eq
  have hl1 := b1.1
  have hl2 := b2.1
  have loop : ∀ (d i n : Nat) (c6 c7 : Cell) (H : List Entry) (i6 i7 : List Nat), d = min p.Tasks.length p.Deps.length - i → i ≤ min p.Tasks.length p.Deps.length → d < n →
      Rep H true true 2 i6 c6 (trL 1 trStr (p.Tasks.take i)) → Rep H true true 3 i7 c7 (trL 1 (trLs 1 trStr) (p.Deps.take i)) → notLent c6 → notLent c7 → i6.Nodup → i7.Nodup → (∀ j ∈ i6, j ∉ i7) →
      ∀ k m, ∃ c6' c7' H' j6 j7, spec_l13Graph_l0 k m n i (strsC p.Tasks) (encL 1 eStrs p.Deps) c6 c7 H = some ([.agg [c6', c7']], H') ∧
        Rep H' true true 2 j6 c6' (trL 1 trStr (p.Tasks.take (min p.Tasks.length p.Deps.length))) ∧ Rep H' true true 3 j7 c7' (trL 1 (trLs 1 trStr) (p.Deps.take (min p.Tasks.length p.Deps.length))) := by
    intro d
    induction d with
    | zero =>
      intro i n c6 c7 H i6 i7 hd hi hn r6 r7 f6 f7 n6 n7 dj k m
      obtain ⟨n, rfl⟩ : ∃ j, n = j + 1 := ⟨n - 1, by omega⟩
      obtain rfl : i = min p.Tasks.length p.Deps.length := by omega
      refine ⟨c6, c7, H, i6, i7, ?_, r6, r7⟩
      simp only [spec_l13Graph_l0, lenC_encL, Option.bind_some]
      by_cases h : p.Tasks.length ≤ p.Deps.length
      · rw [decide_eq_false (p := ((min p.Tasks.length p.Deps.length : Nat) : Int) < (p.Tasks.length : Int)) (by omega), cond_false]
      · rw [decide_eq_true (p := ((min p.Tasks.length p.Deps.length : Nat) : Int) < (p.Tasks.length : Int)) (by omega), cond_true, decide_eq_false (by omega), cond_false]
    | succ d ih =>
      intro i n c6 c7 H i6 i7 hd hi hn r6 r7 f6 f7 n6 n7 dj k m
      obtain ⟨n, rfl⟩ : ∃ j, n = j + 1 := ⟨n - 1, by omega⟩
      have hi1 : i < p.Tasks.length := by omega
      have hi2 : i < p.Deps.length := by omega
      obtain ⟨t, ht⟩ : ∃ t, p.Tasks[i]? = some t := ⟨_, List.getElem?_eq_getElem hi1⟩
      obtain ⟨e, he⟩ : ∃ e, p.Deps[i]? = some e := ⟨_, List.getElem?_eq_getElem hi2⟩
      have hel := (b2.2 e (List.mem_of_getElem? he)).1
      -- the name
      have q6 := r6.app [Entry.mk 1 [[Cell.str (bs t)]] 0 false]
      have q7 := r7.app [Entry.mk 1 [[Cell.str (bs t)]] 0 false]
      obtain ⟨c6', H1, j6, a1, r6', f6', n6', g6, l6, k6, _⟩ := q6.append (by' := 16) (ys := [[Cell.str (bs t)]]) (tys := [trStr t]) (js := []) f6 n6 (.cons (i := []) (is := []) (Sp.leaf1 _) .nil) (by simp) (by simp) (by simp) (by simp [bound]; omega) (by simp [bound]; omega)
      have s1 : srcRows (H ++ [Entry.mk 1 [[Cell.str (bs t)]] 0 false]) 1 (.vs H.length 1 0 1 0) = some [[Cell.str (bs t)]] := by simp [srcRows, rowsOf, entry?]
      have q7' : Rep H1 true true 3 i7 c7 (trL 1 (trLs 1 trStr) (p.Deps.take i)) := q7.frame fun j hj => k6 j (q7.lt j hj) fun h => dj j h hj
      -- the list of its own
      have q6' := r6'.app [Entry.mk 1 [] 0 false]
      have q7'' := q7'.app [Entry.mk 1 [] 0 false]
      have rn : Rep (H1 ++ [Entry.mk 1 [] 0 false]) true true 2 [H1.length] (.vs H1.length 1 0 0 0) (.list 1 []) := .inr ⟨H1.length, 0, 0, [], false, [], rfl, rfl, by simp, fun _ => rfl, fun _ => ⟨rfl, rfl⟩, by simp, by simp, .nil⟩
      obtain ⟨c8, H2, j8, a2, r8, f8, n8, g8, l8, k8, _⟩ := rn.append (by' := 16) (ys := e.map eStr) (tys := e.map trStr) (js := []) (notLent_vs _ _ _ _ _) (by simp)
        (by
          have : ∀ (l : List Str) (G : List Entry), Sp (Sp (Rep G true true 1)) [] (l.map eStr) (l.map trStr) := by
            intro l G
            induction l with
            | nil => exact .nil
            | cons x l ih => exact .cons (i := []) (is := []) (Sp.leaf1 _) ih
          exact this e _) (by intro r hr; obtain ⟨x, _, rfl⟩ := List.mem_map.1 hr; rfl) (by simp) (by simp) (by simp [bound]; omega) (by simp [bound]; omega)
      have s2 : srcRows (H1 ++ [Entry.mk 1 [] 0 false]) 1 (strsC e) = some (e.map eStr) := by simp [srcRows, rowsOf, encL]
      have d8 : ∀ j ∈ j8, H1.length ≤ j := by
        intro j hj
        rcases g8 j hj with h | h | h
        · simp at h; omega
        · simp at h
        · simp at h; omega
      have p6 : Rep H2 true true 2 j6 c6' (.list 1 ((p.Tasks.take i).map trStr ++ [trStr t])) := q6'.frame fun j hj => k8 j (q6'.lt j hj) fun h => by have := r6'.lt j hj; simp at h; omega
      have p7 : Rep H2 true true 3 i7 c7 (trL 1 (trLs 1 trStr) (p.Deps.take i)) := q7''.frame fun j hj => k8 j (q7''.lt j hj) fun h => by have := q7'.lt j hj; simp at h; omega
      -- put behind the others
      have p6' := p6.app [Entry.mk 1 [[c8]] 0 false]
      have p7' := p7.app [Entry.mk 1 [[c8]] 0 false]
      have p8' := r8.app [Entry.mk 1 [[c8]] 0 false]
      obtain ⟨c9, H3, j9, a3, r9, f9, n9, g9, l9, k9, _⟩ := p7'.append (by' := 24) (ys := [[c8]]) (tys := [trLs 1 trStr e]) (js := j8 ++ []) f7 n7 (by
          have := Sp.cons (Sp.one1 p8') (Sp.nil (P := Sp (Rep (H2 ++ [Entry.mk 1 [[c8]] 0 false]) true true 2)))
          exact this) (by simp) (by simpa using n8) (by
          intro j hj h
          simp at h
          have := d8 j h
          have := q7'.lt j hj
          omega) (by simp [bound]; omega) (by simp [bound]; omega)
      have s3 : srcRows (H2 ++ [Entry.mk 1 [[c8]] 0 false]) 1 (.vs H2.length 1 0 1 0) = some [[c8]] := by simp [srcRows, rowsOf, entry?]
      have hd6 : ∀ j ∈ j6, j < (H ++ [Entry.mk 1 [[Cell.str (bs t)]] 0 false]).length + 1 := by
        intro j hj
        rcases g6 j hj with h | h | h
        · have := r6.lt j h; simp; omega
        · simp at h
        · omega
      have p6'' : Rep H3 true true 2 j6 c6' (trL 1 trStr (p.Tasks.take (i + 1))) := by
        have : (p.Tasks.take (i + 1)).map trStr = (p.Tasks.take i).map trStr ++ [trStr t] := by rw [List.take_add_one, ht]; simp
        rw [trL, this]
        refine p6'.frame fun j hj => k9 j (p6'.lt j hj) fun h => ?_
        rcases g6 j hj with h' | h' | h'
        · exact dj j h' h
        · simp at h'
        · have := r7.lt j h
          simp at h'
          omega
      have p7'' : Rep H3 true true 3 j9 c9 (trL 1 (trLs 1 trStr) (p.Deps.take (i + 1))) := by
        have : (p.Deps.take (i + 1)).map (trLs 1 trStr) = (p.Deps.take i).map (trLs 1 trStr) ++ [trLs 1 trStr e] := by rw [List.take_add_one, he]; simp
        rw [trL, this]
        exact r9
      obtain ⟨x6, x7, H', y6, y7, z1, z2, z3⟩ := ih (i + 1) n c6' c9 H3 j6 j9 (by omega) (by omega) (by omega) p6'' p7'' f6' f9 n6' n9 (by
        intro j hj h
        rcases g9 j h with h' | h' | h'
        · rcases g6 j hj with h2 | h2 | h2
          · exact dj j h2 h'
          · simp at h2
          · have := r7.lt j h'
            simp at h2
            omega
        · simp at h'
          have := d8 j h'
          have := r6'.lt j hj
          omega
        · have := r6'.lt j hj
          simp at h'
          simp at l8
          omega) k m
      refine ⟨x6, x7, H', y6, y7, ?_, z2, z3⟩
      simp only [spec_l13Graph_l0, lenC_encL, Option.bind_some]
      rw [decide_eq_true (by omega), cond_true, decide_eq_true (by omega), cond_true]
      simp only [idxA_encL, ht, he, eStr, eStrs, s1, a1, s2, a2, s3, a3, callS_canon, callL_canon, Option.map_some, Option.bind_some, shape_one, shape_agg, shape_nil, cellsAt_0, cellsAt_1, cellsAt_2, cellsAt_3, cells_one, cells_agg, cB_zero, cI_zero, cS_zero, cC_zero, cB_cons, cI_cons, cS_cons, cC_cons, cond_true, cond_false, List.length_cons, List.length_nil, beq_self_eq_true, Bool.and_true, Bool.true_and, lenC_encL, lenC_lst, deref_ref, emptyK_nil, bs_size, bs_toList]
      rw [wrap_succ (by omega)]
      exact z1
  obtain ⟨c6, c7, H, j6, j7, h1, h2, h3⟩ := loop (min p.Tasks.length p.Deps.length) 0 (p.Tasks.length + 1 + 1) (.lst true 1 []) (.lst true 1 []) [] [] [] (by omega) (by omega) (by omega) (.inl ⟨rfl, rfl, true, rfl⟩) (.inl ⟨rfl, rfl, true, rfl⟩) (notLent_nil _) (notLent_nil _) (by simp) (by simp) (by simp) (p.Tasks.length + 1 + 1) (p.Tasks.length + 1 + 1)
  refine outL_of (H := H) (xs := [.agg [c6, c7]]) (run_spec_l13Graph_of (p.Tasks.length + 1) ?_) ?_
  · simp only [spec_l13Graph]
    exact h1
  · have := mapO_c (reify_agg (Sp.cons (h2.more (m := 3) (by omega)) (Sp.cons h3 .nil)) (by omega)) (mapO_nil' (reifyAV false H))
    simpa only [List.map_cons, List.map_nil, trL_cell] using this
def onRow (D : List (List Str)) (i : Nat) : List Cell := match D[i]? with | some d => [strsC d] | none => [.lst true 1 []]
abbrev gE0 (p : MPlan) : Entry := Entry.mk 2 [[strsC p.Tasks, encL 1 eStrs p.Deps]] 0 false
abbrev gE1 (p : MPlan) (c : Cell) : Entry := Entry.mk 2 [[strsC p.Tasks, c]] 0 false
theorem g_impl_Plan_graph (p : MPlan) (hp : p.Bd 1048576) : ∃ c T, GrowAt 2 1 c T ((List.range p.Tasks.length).map (onRow p.Deps)) ∧ run_impl_Plan_graph [.one (.ptr 0 2 0 0 0)] [gE0 p] = some ([.one (.ptr 1 2 0 0 0)], [gE0 p, gE1 p c] ++ T) := by
  have hM := maxLen_eq
  have hl1 := hp.1.1
  have hl2 := hp.2.1
  have loop : ∀ (d i n : Nat) (c : Cell) (T : List Entry), d = p.Tasks.length - i → i ≤ p.Tasks.length → d < n → GrowAt 2 1 c T ((List.range i).map (onRow p.Deps)) → ∀ k m,
      ∃ c' T', GrowAt 2 1 c' T' ((List.range p.Tasks.length).map (onRow p.Deps)) ∧ impl_Plan_graph_l0 k m n (.ptr 0 2 0 0 0) (.ptr 1 2 0 0 0) p.Tasks.length i ([gE0 p, gE1 p c] ++ T) = some ([.one (.ptr 1 2 0 0 0)], [gE0 p, gE1 p c'] ++ T') := by
    intro d
    induction d with
    | zero =>
      intro i n c T hd hi hn hg k m
      obtain ⟨n, rfl⟩ : ∃ j, n = j + 1 := ⟨n - 1, by omega⟩
      obtain rfl : i = p.Tasks.length := by omega
      refine ⟨c, T, hg, ?_⟩
      simp only [impl_Plan_graph_l0]
      rw [decide_eq_false (by omega), cond_false]
    | succ d ih =>
      intro i n c T hd hi hn hg k m
      obtain ⟨n, rfl⟩ : ∃ j, n = j + 1 := ⟨n - 1, by omega⟩
      obtain ⟨c1, T1, a1, g1⟩ := app_at (A := [gE0 p, gE1 p c]) (by' := 24) hg (onRow p.Deps i) (by simp [bound]; omega) (by simp [bound]; omega)
      have hr : (List.range i).map (onRow p.Deps) ++ [onRow p.Deps i] = (List.range (i + 1)).map (onRow p.Deps) := by rw [List.range_succ, List.map_append]; rfl
      rw [hr] at g1
      obtain ⟨c2, T2, g2, e2⟩ := ih (i + 1) n c1 T1 (by omega) (by omega) (by omega) g1 k m
      refine ⟨c2, T2, g2, ?_⟩
      rw [← e2]
      have hst : hStore ([gE0 p, gE1 p c] ++ T1) (.ptr 1 2 0 1 0) [c1] = some ([gE0 p, gE1 p c1] ++ T1) := by simp [hStore, entry?, splice]
      simp only [impl_Plan_graph_l0]
      rw [decide_eq_true (by omega), cond_true]
      have d0 : deref ([gE0 p, gE1 p c] ++ T) (.ptr 0 2 0 1 0) = some ([strsC p.Tasks, encL 1 eStrs p.Deps], 1) := rfl
      have d1 : deref ([gE0 p, gE1 p c] ++ T) (.ptr 1 2 0 1 0) = some ([strsC p.Tasks, c], 1) := rfl
      simp only [ptrC, fldA_ptr, Nat.zero_add, Option.bind_some, d0, d1, cC_cons, cC_zero, lenC_encL]
      cases hD : p.Deps[i]? with
      | none =>
        have : p.Deps.length ≤ i := List.getElem?_eq_none_iff.1 hD
        rw [decide_eq_false (by omega), cond_false]
        have ho : onRow p.Deps i = [.lst true 1 []] := by simp [onRow, hD]
        rw [ho] at a1
        simp only [a1, hst, Option.bind_some]
        rw [wrap_succ (by omega)]
      | some e =>
        have : i < p.Deps.length := (List.getElem?_eq_some_iff.1 hD).1
        rw [decide_eq_true (by omega), cond_true]
        have ho : onRow p.Deps i = [strsC e] := by simp [onRow, hD]
        rw [ho] at a1
        have hrk : ∀ (f : List Cell → Option Res), restK [strsC e] f = f [strsC e] := fun f => by simp [restK, mapO, pureC, encL]
        have hsr : srcRows ([gE0 p, gE1 p c] ++ T) 1 (.lst true 1 (chunks 1 1 [strsC e])) = some [[strsC e]] := by simp [srcRows, rowsOf, chunks]
        simp only [idxA_encL, hD, Option.map_some, Option.bind_some, deref_ref, eStrs, cC_zero, hrk, hsr, a1, hst]
        rw [wrap_succ (by omega)]
  obtain ⟨c, T, hg, he⟩ := loop p.Tasks.length 0 (p.Tasks.length + 1 + 1) (.lst true 1 []) [] (by omega) (by omega) (by omega) (.inl ⟨rfl, rfl, rfl⟩) (p.Tasks.length + 1 + 1) (p.Tasks.length + 1 + 1)
  refine ⟨c, T, hg, run_impl_Plan_graph_of (p.Tasks.length + 1) ?_⟩
  have d0 : deref [gE0 p] (.ptr 0 2 0 0 0) = some ([strsC p.Tasks, encL 1 eStrs p.Deps], 0) := rfl
  have d1 : deref ([gE0 p] ++ [gE1 p (.lst true 1 [])]) (.ptr 0 2 0 0 0) = some ([strsC p.Tasks, encL 1 eStrs p.Deps], 0) := rfl
  simp only [impl_Plan_graph, ptrC, fldA_ptr, Nat.zero_add, Option.bind_some, d0, cC_zero, d1, lenC_encL]
  simpa using he
/-- The place of the first element that answers. -/
def idxF {α : Type} (p : α → Bool) : List α → Nat → Int
  | [], _ => -1
  | x :: r, i => cond (p x) (i : Int) (idxF p r (i + 1))
theorem idxF_find {α : Type} (p : α → Bool) : ∀ (l : List α) (i : Nat), (idxF p l i = -1 ∧ l.find? p = none) ∨ ∃ (j : Nat) (x : α), idxF p l i = ((i + j : Nat) : Int) ∧ l[j]? = some x ∧ l.find? p = some x := by
  intro l
  induction l with
  | nil => intro i; exact .inl ⟨rfl, rfl⟩
  | cons b r ih =>
    intro i
    by_cases e : p b = true
    · exact .inr ⟨0, b, by simp [idxF, e], rfl, by simp [e]⟩
    · rcases ih (i + 1) with ⟨h1, h2⟩ | ⟨j, x, h1, h2, h3⟩
      · exact .inl ⟨by simp [idxF, e, h1], by simp [e, h2]⟩
      · exact .inr ⟨j + 1, x, by simp only [idxF, Bool.eq_false_iff.2 e, cond_false, h1]; congr 1; omega, by simpa using h2, by simp [e, h3]⟩
/-- What a name leans on is in order already, or is no name. -/
def readyB (names : List Str) (next : List (List Str)) (s : Str) (done : List Str) : Bool := (nextOf names next s).all fun x => !(names.contains x && !done.contains x)
def freeB (names : List Str) (next : List (List Str)) (done : List Str) (s : Str) : Bool := !done.contains s && readyB names next s done
def orderGo (names : List Str) (next : List (List Str)) : Nat → List Str → List Str × Bool
  | 0, o => (o, true)
  | d + 1, o => match names.find? (freeB names next o) with
    | some s => orderGo names next d (o ++ [s])
    | none => ([], false)
def orderOf (names : List Str) (next : List (List Str)) : List Str × Bool := orderGo names next names.length []
theorem orderGo_le (names : List Str) (next : List (List Str)) : ∀ (d : Nat) (o : List Str), (orderGo names next d o).1.length ≤ d + o.length ∧ ∀ x ∈ (orderGo names next d o).1, x ∈ o ∨ x ∈ names := by
  intro d
  induction d with
  | zero => intro o; exact ⟨by simp [orderGo], fun x hx => .inl hx⟩
  | succ d ih =>
    intro o
    simp only [orderGo]
    split
    · rename_i s hs
      obtain ⟨h1, h2⟩ := ih (o ++ [s])
      refine ⟨by simp at h1; omega, fun x hx => ?_⟩
      rcases h2 x hx with h | h
      · rcases List.mem_append.1 h with h | h
        · exact .inl h
        · simp only [List.mem_singleton] at h
          subst h
          exact .inr (List.mem_of_find?_eq_some hs)
      · exact .inr h
    · exact ⟨by simp, by simp⟩
theorem orderOf_le (names : List Str) (next : List (List Str)) : (orderOf names next).1.length ≤ names.length ∧ ∀ x ∈ (orderOf names next).1, x ∈ names := by
  obtain ⟨h1, h2⟩ := orderGo_le names next names.length []
  exact ⟨by simpa [orderOf] using h1, fun x hx => (h2 x hx).resolve_left (by simp)⟩
theorem nextOf_le {names : List Str} {next : List (List Str)} (h : ∀ d ∈ next, d.length ≤ 1073741824) (s : Str) : (nextOf names next s).length ≤ 1073741824 := by
  unfold nextOf
  split
  · simp
  · cases hd : next[(idxS s names 0).toNat]? with
    | none => simp
    | some d => exact h d (List.mem_of_getElem? hd)
theorem gm_onOf {H : List Entry} {ids : List Nat} {g : Nat} {names : List Str} {next : List (List Str)} (h : GraphM H ids g names next) (h1 : names.length ≤ 1073741824) (s : Str) :
    ∃ d, run_impl_graph_onOf [.one (.ptr g 2 0 0 0), .one (Cell.str (bs s))] H = some ([.one d], H) ∧ ListM H ids d (nextOf names next s) := by
  obtain ⟨_, _, hlen, cn, co, fr, he, hn, ho⟩ := h
  have d0 : deref H (.ptr g 2 0 0 0) = some ([cn, co], 0) := by simp [deref, entry?, he]
  have d1 : deref H (.ptr g 2 0 1 0) = some ([cn, co], 1) := by simp [deref, entry?, he]
  have q1 : callS run_slices_Index_string [.one cn, .one (Cell.str (bs s))] H = some [.one (Cell.int (idxS s names 0))] := by
    rw [callS_of (mapO_c hn.read (mapO_c (reifyAV_canon _ _ _) (mapO_nil' _)))]
    exact c_slices_Index_string names s h1
  rcases idxS_nat s names 0 with ⟨e1, _⟩ | ⟨j, x, e1, e2⟩
  · refine ⟨.lst true 1 [], run_impl_graph_onOf_of 0 ?_, ?_⟩
    · simp only [impl_graph_onOf, ptrC, fldA_ptr, Nat.zero_add, d0, q1, e1, callS_canon, callL_canon, Option.map_some, Option.bind_some, shape_one, shape_agg, shape_nil, cellsAt_0, cellsAt_1, cellsAt_2, cellsAt_3, cells_one, cells_agg, cB_zero, cI_zero, cS_zero, cC_zero, cB_cons, cI_cons, cS_cons, cC_cons, cond_true, cond_false, List.length_cons, List.length_nil, beq_self_eq_true, Bool.and_true, Bool.true_and, lenC_encL, lenC_lst, deref_ref, emptyK_nil, bs_size, bs_toList]
      rfl
    · rw [nextOf, e1, if_pos (by omega)]
      exact .nil _ _
  · have hj := (List.getElem?_eq_some_iff.1 e2).1
    obtain ⟨d, hd⟩ : ∃ d, next[j]? = some d := ⟨next[j], List.getElem?_eq_getElem (by omega)⟩
    have e : nextOf names next s = d := by
      rw [nextOf, e1, if_neg (by omega)]
      simp [hd]
    rw [e]
    obtain ⟨a, dc, i1, i2, i3⟩ := ho.at hd
    refine ⟨dc, run_impl_graph_onOf_of 0 ?_, i3⟩
    simp only [impl_graph_onOf, ptrC, fldA_ptr, Nat.zero_add, d0, q1, e1, callS_canon, callL_canon, Option.map_some, Option.bind_some, shape_one, shape_agg, shape_nil, cellsAt_0, cellsAt_1, cellsAt_2, cellsAt_3, cells_one, cells_agg, cB_zero, cI_zero, cS_zero, cC_zero, cB_cons, cI_cons, cS_cons, cC_cons, cond_true, cond_false, List.length_cons, List.length_nil, beq_self_eq_true, Bool.and_true, Bool.true_and, lenC_encL, lenC_lst, deref_ref, emptyK_nil, bs_size, bs_toList]
    rw [decide_eq_false (by omega), cond_false]
    simp only [d1, cC_cons, cC_zero, i1, i2, Option.bind_some]
/-! texts in their order, each once -/
theorem lt_iff : ∀ (a b : Str), lt a b = true ↔ a < b := by
  intro a
  unfold lt
  induction a with
  | nil => intro b; cases b <;> simp [Op.bytesLess]
  | cons x a ih =>
    intro b
    cases b with
    | nil => simp [Op.bytesLess]
    | cons y b => rw [List.cons_lt_cons_iff, ← ih b]; simp [Op.bytesLess]
theorem strict_unique : ∀ {a b : List Str}, a.Pairwise (· < ·) → b.Pairwise (· < ·) → (∀ x, x ∈ a ↔ x ∈ b) → a = b := by
  intro a
  induction a with
  | nil =>
    intro b _ _ h
    cases b with
    | nil => rfl
    | cons y b => exact absurd ((h y).2 List.mem_cons_self) (by simp)
  | cons x a ih =>
    intro b ha hb h
    cases b with
    | nil => exact absurd ((h x).1 List.mem_cons_self) (by simp)
    | cons y b =>
      obtain ⟨a1, a2⟩ := List.pairwise_cons.1 ha
      obtain ⟨b1, b2⟩ := List.pairwise_cons.1 hb
      have hxy : x = y := by
        rcases List.mem_cons.1 ((h x).1 List.mem_cons_self) with e | e
        · exact e
        · rcases List.mem_cons.1 ((h y).2 List.mem_cons_self) with e' | e'
          · exact e'.symm
          · exact absurd (List.lt_trans (b1 x e) (a1 y e')) (List.lt_irrefl _)
      subst hxy
      congr 1
      refine ih a2 b2 fun z => ⟨fun hz => ?_, fun hz => ?_⟩
      · rcases List.mem_cons.1 ((h z).1 (List.mem_cons_of_mem _ hz)) with rfl | e
        · exact absurd (a1 z hz) (List.lt_irrefl _)
        · exact e
      · rcases List.mem_cons.1 ((h z).2 (List.mem_cons_of_mem _ hz)) with rfl | e
        · exact absurd (b1 z hz) (List.lt_irrefl _)
        · exact e
def sortedU (xs : List Str) : List Str := Lib.compact (sortS xs)
theorem sortedU_spec (xs : List Str) : (sortedU xs).Pairwise (· < ·) ∧ ∀ x, x ∈ sortedU xs ↔ x ∈ xs := by
  have hp : (sortS xs).Pairwise (fun a b => a ≤ b) := by
    have := List.pairwise_mergeSort (le := fun x y : Str => decide (x ≤ y)) (fun a b c h1 h2 => by simp only [decide_eq_true_eq] at *; exact List.le_trans h1 h2) (fun a b => by simpa using List.le_total a b) xs
    simpa [sortS] using this
  have hm : ∀ x, x ∈ sortS xs ↔ x ∈ xs := fun x => List.mem_mergeSort
  generalize hs : sortS xs = s at hp hm
  have key : ∀ m, m < s.length → ∃ C, Lib.compactUpTo s.toArray (m + 1) = C ++ [s[m]!] ∧ (C ++ [s[m]!]).Pairwise (· < ·) ∧ ∀ x, x ∈ C ++ [s[m]!] ↔ x ∈ s.take (m + 1) := by
    intro m
    induction m with
    | zero =>
      intro h
      obtain ⟨x, r, rfl⟩ : ∃ x r, s = x :: r := by cases s with | nil => simp at h | cons x r => exact ⟨x, r, rfl⟩
      exact ⟨[], by rw [Lib.compactUpTo_succ]; simp [Lib.compactUpTo, Lib.keeps], by simp, by simp⟩
    | succ m ih =>
      intro h
      obtain ⟨C, h1, h2, h3⟩ := ih (by omega)
      have e0 : s[m]! = s[m] := by simp [show m < s.length by omega]
      have e1 : s[m + 1]! = s[m + 1] := by simp [h]
      have ht : s.take (m + 1 + 1) = s.take (m + 1) ++ [s[m + 1]] := by rw [List.take_add_one, List.getElem?_eq_getElem h]; rfl
      have hle : s[m] ≤ s[m + 1] := List.pairwise_iff_getElem.1 hp m (m + 1) (by omega) h (by omega)
      rw [Lib.compactUpTo_succ, h1]
      have hk : Lib.keeps s.toArray (m + 1) = decide (s[m + 1] ≠ s[m]) := by
        simp [Lib.keeps, h, show m < s.length by omega]
      rw [hk, e1, ht]
      by_cases he : s[m + 1] = s[m]
      · refine ⟨C, by simp [he, e0], by rw [he, ← e0]; exact h2, fun x => ?_⟩
        have h4 := h3 x
        rw [e0] at h4
        rw [he]
        constructor
        · exact fun h => List.mem_append_left _ (h4.1 h)
        · intro h
          rcases List.mem_append.1 h with h | h
          · exact h4.2 h
          · exact List.mem_append_right _ h
      · refine ⟨C ++ [s[m]!], by simp [he, h], ?_, fun x => ?_⟩
        · refine List.pairwise_append.2 ⟨h2, by simp, fun a ha b hb => ?_⟩
          simp only [List.mem_singleton] at hb
          subst hb
          have hlt : s[m] < s[m + 1] := by
            rcases Classical.em (s[m] < s[m + 1]) with h | h
            · exact h
            · exact absurd (List.le_antisymm (List.not_lt.1 h) hle) he
          rcases List.mem_append.1 ha with ha | ha
          · have := (List.pairwise_append.1 h2).2.2 a ha s[m]! (by simp)
            rw [e0] at this
            exact List.lt_trans this hlt
          · simp only [List.mem_singleton] at ha
            rw [ha, e0]
            exact hlt
        · rw [List.mem_append, h3 x, List.mem_append]
  unfold sortedU
  rw [hs]
  cases hl : s.length with
  | zero =>
    have : s = [] := List.eq_nil_of_length_eq_zero hl
    subst this
    exact ⟨by simp [Lib.compact, Lib.compactUpTo], fun x => by rw [← hm x]; simp [Lib.compact, Lib.compactUpTo]⟩
  | succ m =>
    obtain ⟨C, h1, h2, h3⟩ := key m (by omega)
    have he : Lib.compact s = C ++ [s[m]!] := by rw [Lib.compact, hl, h1]
    rw [he]
    refine ⟨h2, fun x => ?_⟩
    rw [h3 x, ← hm x, List.take_of_length_le (by omega)]
theorem sortedU_unique {o xs : List Str} (h1 : o.Pairwise (· < ·)) (h2 : ∀ x, x ∈ o ↔ x ∈ xs) : o = sortedU xs :=
  strict_unique h1 (sortedU_spec xs).1 fun x => (h2 x).trans ((sortedU_spec xs).2 x).symm
theorem sortedU_le (xs : List Str) : (sortedU xs).length ≤ xs.length := Nat.le_trans (compact_le _) (Nat.le_of_eq (List.length_mergeSort xs))
theorem c_spec_Sorted (xs : List Str) (hx : xs.length ≤ 1073741824) : outL run_spec_Sorted [.one (strsC xs)] = some [.one (strsC (sortedU xs))] := by
  have hM := maxLen_eq
  have inner : ∀ (o : List Str) (x : Str) (i : Nat) (ep : Nat), xs[i]? = some x → o.length < 1073741824 → x ∉ o → o.Pairwise (· < ·) → ∀ (k : Nat) (z : Str) (n : Nat), k ≤ o.length → k < n → (∀ y ∈ o.drop k, x < y) → ∀ (b : Cell → Cell → Int → List Entry → Option Res) kk m,
      ∃ k', k' ≤ o.length ∧ (∀ y ∈ o.drop k', x < y) ∧ (∀ y ∈ o.take k', y < x) ∧
        spec_Sorted_l1 kk m b n (strsC xs) (.vs 0 1 0 (o.length + 1) ep) i k [Entry.mk 1 ((o.take k ++ z :: o.drop k).map eStr) ep false] = b (strsC xs) (.vs 0 1 0 (o.length + 1) ep) ((i + 1 : Nat) : Int) [Entry.mk 1 ((o.take k' ++ x :: o.drop k').map eStr) ep false] := by
    intro o x i ep hxi hol hxo hp k
    have hi : i < xs.length := (List.getElem?_eq_some_iff.1 hxi).1
    have hput : ∀ (k : Nat) (z y : Str), k ≤ o.length → hStore [Entry.mk 1 ((o.take k ++ z :: o.drop k).map eStr) ep false] (.ptr 0 1 k 0 ep) [Cell.str (bs y)] = some [Entry.mk 1 ((o.take k ++ y :: o.drop k).map eStr) ep false] := by
      intro k z y hk
      have hr : ((o.take k ++ z :: o.drop k).map eStr)[k]? = some (eStr z) := by
        rw [List.getElem?_map, List.getElem?_append_right (by simp; omega)]
        simp [Nat.min_eq_left hk]
      simp only [hStore, entry?, List.getElem?_cons_zero, if_true, hr]
      rw [if_pos ⟨trivial, by simp, trivial⟩]
      simp [splice, eStr, List.set_append, Nat.min_eq_left hk]
    have hix : ∀ (k : Nat), k < o.length + 1 → idxA 1 (.vs 0 1 0 (o.length + 1) ep) ((k : Nat) : Int) = some (.ptr 0 1 k 0 ep) := fun k hk => idxA_vs _ _ _ _ _ hk
    induction k with
    | zero =>
      intro z n hk hn hd b kk m
      obtain ⟨n, rfl⟩ : ∃ j, n = j + 1 := ⟨n - 1, by omega⟩
      refine ⟨0, by omega, hd, by simp, ?_⟩
      simp only [spec_Sorted_l1]
      rw [decide_eq_false (by omega), cond_false]
      simp only [idxA_encL, hxi, eStr, hix 0 (by omega), hput 0 z x (by omega), callS_canon, callL_canon, Option.map_some, Option.bind_some, shape_one, shape_agg, shape_nil, cellsAt_0, cellsAt_1, cellsAt_2, cellsAt_3, cells_one, cells_agg, cB_zero, cI_zero, cS_zero, cC_zero, cB_cons, cI_cons, cS_cons, cC_cons, cond_true, cond_false, List.length_cons, List.length_nil, beq_self_eq_true, Bool.and_true, Bool.true_and, lenC_encL, lenC_lst, deref_ref, emptyK_nil, bs_size, bs_toList]
      rw [wrap_succ (by omega)]
    | succ k ih =>
      intro z n hk hn hd b kk m
      obtain ⟨n, rfl⟩ : ∃ j, n = j + 1 := ⟨n - 1, by omega⟩
      obtain ⟨y, hy⟩ : ∃ y, o[k]? = some y := ⟨o[k], List.getElem?_eq_getElem (by omega)⟩
      have hyo : y ∈ o := List.mem_of_getElem? hy
      have hwp : IntKind.i64.wrap (((k + 1 : Nat) : Int) - 1) = (k : Int) := wrap_pred (by omega)
      have hdr : deref [Entry.mk 1 ((o.take (k + 1) ++ z :: o.drop (k + 1)).map eStr) ep false] (.ptr 0 1 k 0 ep) = some (eStr y, 0) := by
        have hr : ((o.take (k + 1) ++ z :: o.drop (k + 1)).map eStr)[k]? = some (eStr y) := by
          rw [List.getElem?_map, List.getElem?_append_left (by simp; omega), List.getElem?_take_of_lt (by omega), hy]
          rfl
        simp only [deref, entry?, List.getElem?_cons_zero, if_true, hr]
      have hdrop : o.drop k = y :: o.drop (k + 1) := by
        rw [List.drop_eq_getElem_cons (by omega)]
        congr 1
        rw [List.getElem?_eq_getElem (by omega)] at hy
        simpa using hy
      simp only [spec_Sorted_l1]
      rw [decide_eq_true (by omega), cond_true]
      have hbl : (!(Op.bytesLess y x || y == x)) = lt x y := by rw [bl_eq, lt_not, Bool.not_not]
      simp only [hwp, idxA_encL, hxi, hix k (by omega), hdr, eStr, hbl, callS_canon, callL_canon, Option.map_some, Option.bind_some, shape_one, shape_agg, shape_nil, cellsAt_0, cellsAt_1, cellsAt_2, cellsAt_3, cells_one, cells_agg, cB_zero, cI_zero, cS_zero, cC_zero, cB_cons, cI_cons, cS_cons, cC_cons, cond_true, cond_false, List.length_cons, List.length_nil, beq_self_eq_true, Bool.and_true, Bool.true_and, lenC_encL, lenC_lst, deref_ref, emptyK_nil, bs_size, bs_toList]
      by_cases hlt : x < y
      · rw [(lt_iff x y).2 hlt, cond_true]
        simp only [hix (k + 1) (by omega), hdr, eStr, callS_canon, callL_canon, Option.map_some, Option.bind_some, shape_one, shape_agg, shape_nil, cellsAt_0, cellsAt_1, cellsAt_2, cellsAt_3, cells_one, cells_agg, cB_zero, cI_zero, cS_zero, cC_zero, cB_cons, cI_cons, cS_cons, cC_cons, cond_true, cond_false, List.length_cons, List.length_nil, beq_self_eq_true, Bool.and_true, Bool.true_and, lenC_encL, lenC_lst, deref_ref, emptyK_nil, bs_size, bs_toList]
        have hst := hput (k + 1) z y hk
        have hrows : o.take (k + 1) ++ y :: o.drop (k + 1) = o.take k ++ y :: o.drop k := by
          rw [List.take_add_one, hy, hdrop]
          simp
        rw [hrows] at hst
        simp only [hst, Option.bind_some]
        have := ih y n (by omega) (by omega) (fun w hw => by
          rw [hdrop] at hw
          rcases List.mem_cons.1 hw with rfl | hw
          · exact hlt
          · exact hd w hw) b kk m
        exact this
      · have hf : lt x y = false := Bool.eq_false_iff.2 fun h => hlt ((lt_iff x y).1 h)
        rw [hf, cond_false]
        refine ⟨k + 1, hk, hd, fun w hw => ?_, ?_⟩
        · have hyx : y < x := by
            rcases Classical.em (y < x) with h | h
            · exact h
            · exact absurd (List.le_antisymm (List.not_lt.1 h) (List.not_lt.1 hlt)) fun e => hxo (e ▸ hyo)
          rw [List.take_add_one, hy] at hw
          rcases List.mem_append.1 hw with hw | hw
          · have h1 : o = o.take k ++ y :: o.drop (k + 1) := by rw [← hdrop, List.take_append_drop]
            rw [h1] at hp
            exact List.lt_trans ((List.pairwise_append.1 hp).2.2 w hw y List.mem_cons_self) hyx
          · simp only [Option.toList_some, List.mem_singleton] at hw
            rw [hw]
            exact hyx
        · have hst := hput (k + 1) z x hk
          simp only [hix (k + 1) (by omega), hst, callS_canon, callL_canon, Option.map_some, Option.bind_some, shape_one, shape_agg, shape_nil, cellsAt_0, cellsAt_1, cellsAt_2, cellsAt_3, cells_one, cells_agg, cB_zero, cI_zero, cS_zero, cC_zero, cB_cons, cI_cons, cS_cons, cC_cons, cond_true, cond_false, List.length_cons, List.length_nil, beq_self_eq_true, Bool.and_true, Bool.true_and, lenC_encL, lenC_lst, deref_ref, emptyK_nil, bs_size, bs_toList]
          rw [wrap_succ (by omega)]
  have loop : ∀ (r : List Str) (i n : Nat) (o : List Str) (c : Cell) (H : List Entry), xs.drop i = r → i + r.length = xs.length → r.length < n → Grow 1 c H (o.map eStr) → o.length ≤ i → o.Pairwise (· < ·) → (∀ x, x ∈ o ↔ x ∈ xs.take i) → ∀ k m, xs.length < m →
      ∃ (c' : Cell) (H' : List Entry) (o' : List Str), spec_Sorted_l0 k m n (strsC xs) c i H = some ([.one c'], H') ∧ Grow 1 c' H' (o'.map eStr) ∧ o'.Pairwise (· < ·) ∧ ∀ x, x ∈ o' ↔ x ∈ xs := by
    intro r
    induction r with
    | nil =>
      intro i n o c H hd hi hn hg hol hp hm k m hm'
      obtain ⟨n, rfl⟩ : ∃ j, n = j + 1 := ⟨n - 1, by omega⟩
      have h1 := drop_nil hd
      rw [List.take_of_length_le h1] at hm
      refine ⟨c, H, o, ?_, hg, hp, hm⟩
      simp only [spec_Sorted_l0, lenC_encL, Option.bind_some]
      rw [decide_eq_false (by omega), cond_false]
    | cons x r ih =>
      intro i n o c H hd hi hn hg hol hp hm k m hm'
      obtain ⟨n, rfl⟩ : ∃ j, n = j + 1 := ⟨n - 1, by omega⟩
      obtain ⟨hlt, hxi, hd'⟩ := drop_cons hd
      simp only [List.length_cons] at hn hi
      have htake : xs.take (i + 1) = xs.take i ++ [x] := by rw [List.take_add_one, hxi]; rfl
      have hrd : reifyAV false H (.one c) = some (.one (strsC o)) := by
        have := hg.read
        simp only [mapO] at this
        cases h : reifyAV false H (.one c) with
        | none => rw [h] at this; simp at this
        | some y => rw [h] at this; simpa using this
      have q1 : callS run_spec_l1Has [.one c, .one (Cell.str (bs x))] H = some [.one (Cell.bool (o.contains x))] := by
        rw [callS_of (mapO_c hrd (mapO_c (reifyAV_canon _ _ _) (mapO_nil' _)))]
        exact c_spec_l1Has o x (by omega)
      simp only [spec_Sorted_l0, lenC_encL, Option.bind_some]
      rw [decide_eq_true (by omega), cond_true]
      simp only [idxA_encL, hxi, eStr, q1, wrap_succ (show i < maxLen by omega), callS_canon, callL_canon, Option.map_some, Option.bind_some, shape_one, shape_agg, shape_nil, cellsAt_0, cellsAt_1, cellsAt_2, cellsAt_3, cells_one, cells_agg, cB_zero, cI_zero, cS_zero, cC_zero, cB_cons, cI_cons, cS_cons, cC_cons, cond_true, cond_false, List.length_cons, List.length_nil, beq_self_eq_true, Bool.and_true, Bool.true_and, lenC_encL, lenC_lst, deref_ref, emptyK_nil, bs_size, bs_toList]
      by_cases hc : x ∈ o
      · rw [show o.contains x = true by simpa using hc, cond_true]
        exact ih (i + 1) n o c H hd' (by omega) (by omega) hg (by omega) hp (fun w => by
          rw [htake, List.mem_append, ← hm w]
          refine ⟨.inl, fun h => h.elim id fun h => ?_⟩
          simp only [List.mem_singleton] at h
          subst h
          exact hc) k m hm'
      · rw [show o.contains x = false by simpa using hc, cond_false]
        obtain ⟨q, e1, e2⟩ := hg.app (by' := 16) [[Cell.str (bs x)]] (by unfold bound; simp; omega) (by unfold bound; simp; omega)
        have hrows : o.map eStr ++ [[Cell.str (bs x)]] = (o ++ [x]).map eStr := by simp [eStr]
        rw [hrows] at e2
        rcases e2 with ⟨h, _, _⟩ | ⟨ep, h1, h2⟩
        · simp at h
        obtain ⟨qc, qH⟩ := q
        simp only at h1 h2
        subst h1 h2
        have hlen : ((o ++ [x]).map eStr).length = o.length + 1 := by simp
        obtain ⟨k', z1, z2, z3, z4⟩ := inner o x i ep hxi (by omega) hc hp o.length x m (Nat.le_refl _) (by omega) (by simp) (spec_Sorted_l0 k m n) k m
        rw [hlen] at e1
        simp only [e1, Option.bind_some, lenC_vs]
        rw [show IntKind.i64.wrap (((o.length + 1 : Nat) : Int) - 1) = (o.length : Int) from wrap_pred (by omega)]
        simp only [List.take_length, List.drop_length] at z4
        rw [z4]
        have hl2 : (o.take k' ++ x :: o.drop k').length = o.length + 1 := by simp; omega
        have hmem : ∀ w, w ∈ o.take k' ++ x :: o.drop k' ↔ w ∈ o ∨ w = x := by
          intro w
          conv => rhs; rw [← List.take_append_drop k' o]
          simp only [List.mem_append, List.mem_cons]
          constructor
          · rintro (h | h | h)
            · exact .inl (.inl h)
            · exact .inr h
            · exact .inl (.inr h)
          · rintro ((h | h) | h)
            · exact .inl h
            · exact .inr (.inr h)
            · exact .inr (.inl h)
        refine ih (i + 1) n (o.take k' ++ x :: o.drop k') (.vs 0 1 0 (o.length + 1) ep) [Entry.mk 1 ((o.take k' ++ x :: o.drop k').map eStr) ep false] hd' (by omega) (by omega) (.inr ⟨ep, by rw [List.length_map, hl2], rfl⟩) (by rw [hl2]; omega) ?_ ?_ k m hm'
        · have h0 := hp
          rw [← List.take_append_drop k' o] at h0
          obtain ⟨p1, p2, p3⟩ := List.pairwise_append.1 h0
          refine List.pairwise_append.2 ⟨p1, List.pairwise_cons.2 ⟨z2, p2⟩, fun a ha b hb => ?_⟩
          rcases List.mem_cons.1 hb with rfl | hb
          · exact z3 a ha
          · exact p3 a ha b hb
        · intro w
          rw [hmem w, hm w, htake]
          simp
  obtain ⟨c', H', o', h1, h2, h3, h4⟩ := loop xs 0 (xs.length + 1 + 1) [] (.lst true 1 []) [] rfl (by omega) (by omega) (Grow.nil 1) (by simp) (by simp) (by simp) (xs.length + 1 + 1) (xs.length + 1 + 1) (by omega)
  rw [sortedU_unique h3 h4] at h2
  refine outL_of (H := H') (run_spec_Sorted_of (xs.length + 1) ?_) h2.read
  simpa [spec_Sorted] using h1
theorem f_impl_Sorted (xs : List Str) (hx : xs.length ≤ 1073741824) : Fresh run_impl_Sorted true 2 [.one (strsC xs)] [.one (trL 1 trStr (sortedU xs))] := by
  obtain ⟨c1, E1, i1, e1, r1, w1, g1⟩ := freshO (f_slices_Clone_string xs hx) ([] : List Entry) (mapO_canon [.one (strsC xs)] _ _)
  rw [List.nil_append] at e1 r1
  rcases r1 with ⟨h1, _, f, rfl⟩ | ⟨id, off, ep, e, fr, is, rfl, rfl, he, hq, hwh, hl, hr, hs⟩
  · simp only [List.map_eq_nil_iff] at h1
    subst h1
    have hnil : sortedU [] = [] := by simp [sortedU, sortS, Lib.compact, Lib.compactUpTo]
    have h2 : run_slices_Sort_string [.one (.lst f 1 [])] E1 = some ([], E1) := rfl
    have h3 : run_slices_Compact_string [.one (.lst f 1 [])] E1 = some ([.one (.lst f 1 [])], E1) := rfl
    have h4 : run_slices_Clip_string [.one (.lst f 1 [])] E1 = some ([.one (.lst true 1 [])], E1) := run_slices_Clip_string_of 0 (by simp [slices_Clip_string, slcC, fullOf])
    refine Fresh.one (c := .lst true 1 []) (H := E1) (ids := []) (run_impl_Sorted_of 0 ?_) (.inl ⟨by rw [hnil]; rfl, rfl, true, rfl⟩) (by simp)
    simp only [impl_Sorted, e1, h2, h3, h4, callS_canon, callL_canon, Option.map_some, Option.bind_some, shape_one, shape_agg, shape_nil, cellsAt_0, cellsAt_1, cellsAt_2, cellsAt_3, cells_one, cells_agg, cB_zero, cI_zero, cS_zero, cC_zero, cB_cons, cI_cons, cS_cons, cC_cons, cond_true, cond_false, List.length_cons, List.length_nil, beq_self_eq_true, Bool.and_true, Bool.true_and, lenC_encL, lenC_lst, deref_ref, emptyK_nil, bs_size, bs_toList]
  · obtain ⟨rfl, hle⟩ := hwh rfl
    obtain rfl := hq rfl
    rw [List.drop_zero, hle, List.take_of_length_le (Nat.le_refl _)] at hs
    have hrows : e = xs.map eStr := by
      have key : ∀ {is : List Nat} {e : List (List Cell)} {xs : List Str}, Sp (Sp (Rep E1 true true 1)) is e (xs.map trStr) → (∀ r ∈ e, r.length = 1) → e = xs.map eStr := by
        intro is e xs
        induction xs generalizing is e with
        | nil => intro h _; obtain ⟨_, rfl⟩ := h.nil_inv; rfl
        | cons x xs ih =>
          intro h hl
          obtain ⟨i, i', a, as', rfl, rfl, h1, h2⟩ := h.cons_inv
          obtain ⟨r', rfl, h3⟩ := h1.leaf_inv
          have := hl _ List.mem_cons_self
          have : r' = [] := List.eq_nil_of_length_eq_zero (by simpa using this)
          subst this
          rw [ih h2 fun r hr => hl r (List.mem_cons_of_mem _ hr)]
          rfl
      exact key hs hr
    subst hrows
    simp only [List.length_map] at hle
    have hv : vecS E1 id 1 0 (xs.map trStr).length ep = some xs := by
      simp [vecS, entry?, he, strRows_eStr]
      omega
    have h2 : run_slices_Sort_string [.one (.vs id 1 0 (xs.map trStr).length ep)] E1 = some ([], E1.set id ⟨1, (sortS xs).map eStr, ep, false⟩) := by
      show run_sort _ _ = _
      simp only [run_sort, hv]
    have hid : id < E1.length := (List.getElem?_eq_some_iff.1 he).1
    have hv2 : vecS (E1.set id ⟨1, (sortS xs).map eStr, ep, false⟩) id 1 0 (xs.map trStr).length ep = some (sortS xs) := by
      have : (sortS xs).length = xs.length := List.length_mergeSort xs
      simp [vecS, entry?, hid, strRows_eStr, this]
      omega
    have h3 : run_slices_Compact_string [.one (.vs id 1 0 (xs.map trStr).length ep)] (E1.set id ⟨1, (sortS xs).map eStr, ep, false⟩) = some ([.one (.vs id 1 0 (sortedU xs).length ep)], (E1.set id ⟨1, (sortS xs).map eStr, ep, false⟩).set id ⟨1, (sortedU xs).map eStr, ep, false⟩) := by
      show run_compact _ _ = _
      simp only [run_compact, hv2]
      rfl
    rw [List.set_set] at h3
    have h4 : run_slices_Clip_string [.one (.vs id 1 0 (sortedU xs).length ep)] (E1.set id ⟨1, (sortedU xs).map eStr, ep, false⟩) = some ([.one (.vs id 1 0 (sortedU xs).length ep)], E1.set id ⟨1, (sortedU xs).map eStr, ep, false⟩) := run_slices_Clip_string_of 0 (by simp [slices_Clip_string, slcC])
    refine Fresh.one (c := .vs id 1 0 (sortedU xs).length ep) (H := E1.set id ⟨1, (sortedU xs).map eStr, ep, false⟩) (ids := [id]) (run_impl_Sorted_of 0 ?_) (.inr ⟨id, 0, ep, (sortedU xs).map eStr, false, [], by simp, rfl, by simp [hid], fun _ => rfl, fun _ => ⟨rfl, by simp⟩, by simp, ?_, ?_⟩) (by simp)
    · simp only [impl_Sorted, e1, h2, h3, h4, callS_canon, callL_canon, Option.map_some, Option.bind_some, shape_one, shape_agg, shape_nil, cellsAt_0, cellsAt_1, cellsAt_2, cellsAt_3, cells_one, cells_agg, cB_zero, cI_zero, cS_zero, cC_zero, cB_cons, cI_cons, cS_cons, cC_cons, cond_true, cond_false, List.length_cons, List.length_nil, beq_self_eq_true, Bool.and_true, Bool.true_and, lenC_encL, lenC_lst, deref_ref, emptyK_nil, bs_size, bs_toList]
    · intro r hr
      obtain ⟨x, _, rfl⟩ := List.mem_map.1 hr
      rfl
    · rw [List.drop_zero, List.take_of_length_le (by simp)]
      have : ∀ (l : List Str) (G : List Entry), Sp (Sp (Rep G true true 1)) [] (l.map eStr) (l.map trStr) := by
        intro l G
        induction l with
        | nil => exact .nil
        | cons x l ih => exact .cons (i := []) (is := []) (Sp.leaf1 _) ih
      exact this _ _
open Classical in
/-- What is reached from a text, in order. -/
noncomputable def reachS (nx : Str → List Str) (a : Str) : List Str := if h : ∃ o : List Str, ∀ x, x ∈ o ↔ Reach nx a x then sortedU h.choose else []
theorem reachS_eq {nx : Str → List Str} {a : Str} {o : List Str} (h : ∀ x, x ∈ o ↔ Reach nx a x) : reachS nx a = sortedU o := by
  have hh : ∃ o : List Str, ∀ x, x ∈ o ↔ Reach nx a x := ⟨o, h⟩
  unfold reachS
  rw [dif_pos hh]
  refine strict_unique (sortedU_spec _).1 (sortedU_spec _).1 fun x => ?_
  rw [(sortedU_spec _).2 x, (sortedU_spec _).2 x, h x, hh.choose_spec x]
theorem reach_congr {nx ny : Str → List Str} (h : ∀ x y, y ∈ nx x ↔ y ∈ ny x) {a x : Str} (hr : Reach nx a x) : Reach ny a x := by
  induction hr with
  | one hb => exact .one ((h _ _).1 hb)
  | step _ k ih => exact .step ih ((h _ _).1 k)
theorem reachS_congr {nx ny : Str → List Str} (h : ∀ x y, y ∈ nx x ↔ y ∈ ny x) {a : Str} {o : List Str} (ho : ∀ x, x ∈ o ↔ Reach nx a x) : reachS ny a = reachS nx a := by
  rw [reachS_eq ho]
  refine reachS_eq fun x => (ho x).trans ⟨reach_congr h, reach_congr fun a b => (h a b).symm⟩
theorem c_spec_l11Reach (names : List Str) (next : List (List Str)) (s : Str) (U : List Str) (h1 : names.length ≤ 1073741824) (h2 : names.length = next.length) (h3 : ∀ d ∈ next, d.length ≤ 1048576) (hU : U.length ≤ 1048576) (hm : ∀ x, ∀ y ∈ nextOf names next x, y ∈ U) :
    outL run_spec_l11Reach [.agg [strsC names, encL 1 eStrs next], .one (Cell.str (bs s))] = some [.one (strsC (reachS (nextOf names next) s))] ∧ ∃ o : List Str, ∀ x, x ∈ o ↔ Reach (nextOf names next) s x := by
  have hM := maxLen_eq
  have hnl : ∀ x, (nextOf names next x).length ≤ 1048576 := fun x => by
    unfold nextOf
    split
    · simp
    · cases hd : next[(idxS x names 0).toNat]? with
      | none => simp
      | some d => exact h3 d (List.mem_of_getElem? hd)
  have hreach : ∀ x, Reach (nextOf names next) s x → x ∈ U := fun x h => by
    cases h with
    | one h => exact hm _ _ h
    | step _ k => exact hm _ _ k
  have loop : ∀ (d : Nat) (o left : List Str) (c9 c10 : Cell) (H : List Entry) (i1 i2 : List Nat) (n : Nat), Seen (nextOf names next) s o left → RM 0 H i1 i2 c9 c10 o left → left.length + (U.length - o.length) * 1048576 ≤ d → left.length ≤ (o.length + 1) * 1048576 → d < n → ∀ k m,
      ∃ xs H', spec_l11Reach_l0 k m n c9 c10 (strsC names) (encL 1 eStrs next) H = some (xs, H') ∧ mapO (reifyAV false H') xs = some [.one (strsC (reachS (nextOf names next) s))] ∧ ∃ o : List Str, ∀ x, x ∈ o ↔ Reach (nextOf names next) s x := by
    intro d
    induction d with
    | zero =>
      intro o left c9 c10 H i1 i2 n hs hr hd hll hn k m
      obtain ⟨n, rfl⟩ : ∃ j, n = j + 1 := ⟨n - 1, by omega⟩
      have : left = [] := List.eq_nil_of_length_eq_zero (by omega)
      subst this
      have ho : o.length ≤ U.length := nodup_le hs.nd fun x hx => hreach x (hs.ro x hx)
      obtain ⟨r1, r2, _⟩ := hr
      obtain ⟨H1, _, e1⟩ := callL_reps (run := run_spec_Sorted) (n := 2) (by omega) (Sp.cons (a := AV.one c9) (b := AT.one (trL 1 trStr o)) r1 .nil)
      have e2 : callL run_spec_Sorted [.one c9] H = some ([.one (strsC (reachS (nextOf names next) s))], H1) := by
        rw [e1]
        simp only [List.map_cons, List.map_nil, AT.av, trL_cell]
        rw [c_spec_Sorted _ (by omega), reachS_eq hs.done]
        rfl
      refine ⟨[.one (strsC (reachS (nextOf names next) s))], H1, ?_, mapO_canon _ _ _, o, hs.done⟩
      simp only [spec_l11Reach_l0, (ListM.of (n := 2) r2).len, List.length_nil, Option.bind_some]
      rw [decide_eq_false (by omega), cond_false]
      simp only [e2, callS_canon, callL_canon, Option.map_some, Option.bind_some, shape_one, shape_agg, shape_nil, cellsAt_0, cellsAt_1, cellsAt_2, cellsAt_3, cells_one, cells_agg, cB_zero, cI_zero, cS_zero, cC_zero, cB_cons, cI_cons, cS_cons, cC_cons, cond_true, cond_false, List.length_cons, List.length_nil, beq_self_eq_true, Bool.and_true, Bool.true_and, lenC_encL, lenC_lst, deref_ref, emptyK_nil, bs_size, bs_toList]
    | succ d ih =>
      intro o left c9 c10 H i1 i2 n hs hr hd hll hn k m
      obtain ⟨n, rfl⟩ : ∃ j, n = j + 1 := ⟨n - 1, by omega⟩
      have ho : o.length ≤ U.length := nodup_le hs.nd fun x hx => hreach x (hs.ro x hx)
      cases left with
      | nil =>
        obtain ⟨r1, r2, _⟩ := hr
        obtain ⟨H1, _, e1⟩ := callL_reps (run := run_spec_Sorted) (n := 2) (by omega) (Sp.cons (a := AV.one c9) (b := AT.one (trL 1 trStr o)) r1 .nil)
        have e2 : callL run_spec_Sorted [.one c9] H = some ([.one (strsC (reachS (nextOf names next) s))], H1) := by
          rw [e1]
          simp only [List.map_cons, List.map_nil, AT.av, trL_cell]
          rw [c_spec_Sorted _ (by omega), reachS_eq hs.done]
          rfl
        refine ⟨[.one (strsC (reachS (nextOf names next) s))], H1, ?_, mapO_canon _ _ _, o, hs.done⟩
        simp only [spec_l11Reach_l0, (ListM.of (n := 2) r2).len, List.length_nil, Option.bind_some]
        rw [decide_eq_false (by omega), cond_false]
        simp only [e2, callS_canon, callL_canon, Option.map_some, Option.bind_some, shape_one, shape_agg, shape_nil, cellsAt_0, cellsAt_1, cellsAt_2, cellsAt_3, cells_one, cells_agg, cB_zero, cI_zero, cS_zero, cC_zero, cB_cons, cI_cons, cS_cons, cC_cons, cond_true, cond_false, List.length_cons, List.length_nil, beq_self_eq_true, Bool.and_true, Bool.true_and, lenC_encL, lenC_lst, deref_ref, emptyK_nil, bs_size, bs_toList]
      | cons x left =>
        simp only [List.length_cons] at hd hll
        obtain ⟨a, row', off, c', p, j2, t1, t2, t3, t4, t5, t6, hr', t8, t9⟩ := hr.pop (Nat.zero_le _) (by unfold bound; omega)
        have q1 : callS run_spec_l1Has [.one c9, .one (Cell.str (bs x))] p.2 = some [.one (Cell.bool (o.contains x))] := by
          rw [callS_of (mapO_c (ListM.of (n := 2) hr'.1).read (mapO_c (reifyAV_canon _ _ _) (mapO_nil' _)))]
          exact c_spec_l1Has o x (by omega)
        simp only [spec_l11Reach_l0, t9, Option.bind_some]
        rw [decide_eq_true (by omega), cond_true]
        simp only [t1, t2, t3, t4, t5, t6, q1, callS_canon, callL_canon, Option.map_some, Option.bind_some, shape_one, shape_agg, shape_nil, cellsAt_0, cellsAt_1, cellsAt_2, cellsAt_3, cells_one, cells_agg, cB_zero, cI_zero, cS_zero, cC_zero, cB_cons, cI_cons, cS_cons, cC_cons, cond_true, cond_false, List.length_cons, List.length_nil, beq_self_eq_true, Bool.and_true, Bool.true_and, lenC_encL, lenC_lst, deref_ref, emptyK_nil, bs_size, bs_toList]
        cases hc : o.contains x with
        | true =>
          have hx : x ∈ o := by simpa using hc
          simp only [Bool.not_true, cond_false]
          exact ih o left c9 p.1 p.2 i1 j2 n (hs.old hx) hr' (by omega) (by omega) (by omega) k m
        | false =>
          have hx : x ∉ o := by simpa using hc
          have hs' := hs.new hx
          have ho' : (o ++ [x]).length ≤ U.length := nodup_le hs'.nd fun y hy => hreach y (hs'.ro y hy)
          rw [List.length_append, List.length_singleton] at ho'
          have hnx := hnl x
          obtain ⟨q, k1, a1, hr2, m1, _, _⟩ := hr'.app1 (Nat.zero_le _) [x] (by unfold bound; simp; omega)
          obtain ⟨r, k2, a2, hr3, m2, _, _⟩ := hr2.swap.app1 (Nat.zero_le _) (nextOf names next x) (by unfold bound; omega)
          simp only [List.map_cons, List.map_nil, eStr] at a1
          have e3 : srcRows q.2 1 (strsC (nextOf names next x)) = some ((nextOf names next x).map eStr) := src_strs _ _
          simp only [Bool.not_false, cond_true, a1, c_spec_l11Next names next x h1 h2, callS_canon, callL_canon, Option.map_some, Option.bind_some, shape_one, shape_agg, shape_nil, cellsAt_0, cellsAt_1, cellsAt_2, cellsAt_3, cells_one, cells_agg, cB_zero, cI_zero, cS_zero, cC_zero, cB_cons, cI_cons, cS_cons, cC_cons, cond_true, cond_false, List.length_cons, List.length_nil, beq_self_eq_true, Bool.and_true, Bool.true_and, lenC_encL, lenC_lst, deref_ref, emptyK_nil, bs_size, bs_toList]
          simp only [e3, a2, Option.bind_some]
          refine ih (o ++ [x]) (left ++ nextOf names next x) q.1 r.1 r.2 k1 k2 n hs' hr3.swap ?_ ?_ (by omega) k m
          · rw [List.length_append, List.length_append, List.length_singleton]
            have : (U.length - o.length) = (U.length - (o.length + 1)) + 1 := by omega
            rw [this] at hd
            omega
          · rw [List.length_append, List.length_append, List.length_singleton]
            omega
  have hfirst := hnl s
  obtain ⟨r, k2, a2, hr3, m2, _, _⟩ := (RM.nil 0 []).swap.app1 (Nat.zero_le _) (nextOf names next s) (by unfold bound; simp; omega)
  rw [List.nil_append] at hr3
  have e3 : srcRows [] 1 (strsC (nextOf names next s)) = some ((nextOf names next s).map eStr) := src_strs _ _
  obtain ⟨xs, H', z1, z2, z3⟩ := loop ((nextOf names next s).length + U.length * 1048576) [] (nextOf names next s) (.lst true 1 []) r.1 r.2 [] k2 ((nextOf names next s).length + U.length * 1048576 + 1 + 1) (Seen.start _ _) hr3.swap (by simp) (by simp; omega) (by omega) ((nextOf names next s).length + U.length * 1048576 + 1 + 1) ((nextOf names next s).length + U.length * 1048576 + 1 + 1)
  refine ⟨outL_of (H := H') (run_spec_l11Reach_of ((nextOf names next s).length + U.length * 1048576 + 1) ?_) z2, z3⟩
  simp only [spec_l11Reach, c_spec_l11Next names next s h1 h2, callS_canon, callL_canon, Option.map_some, Option.bind_some, shape_one, shape_agg, shape_nil, cellsAt_0, cellsAt_1, cellsAt_2, cellsAt_3, cells_one, cells_agg, cB_zero, cI_zero, cS_zero, cC_zero, cB_cons, cI_cons, cS_cons, cC_cons, cond_true, cond_false, List.length_cons, List.length_nil, beq_self_eq_true, Bool.and_true, Bool.true_and, lenC_encL, lenC_lst, deref_ref, emptyK_nil, bs_size, bs_toList]
  simp only [e3, a2, Option.bind_some]
  exact z1
theorem gm_impl_deep_impl_graph_onOf {H0 : List Entry} {ids : List Nat} {g : Nat} {names : List Str} {next : List (List Str)} (hG : GraphM H0 ids g names next) (nx : Str → List Str) (U : List Str) (hU : U.length ≤ 1048576) (hm : ∀ x, ∀ y ∈ nx x, y ∈ U) (hl : ∀ x, (nx x).length ≤ 1048576)
    (hnext : ∀ (H : List Entry) (x : Str), GraphM H ids g names next → ∃ d H' ds, run_impl_graph_onOf [.one (.ptr g 2 0 0 0), .one (Cell.str (bs x))] H = some ([.one d], H') ∧ ListM H' ds d (nx x) ∧ H.length ≤ H'.length ∧ (∀ j, j < H.length → H'[j]? = H[j]?) ∧ (∀ j ∈ ds, j < H'.length ∧ (j < H0.length ∨ H.length ≤ j))) (s : Str) :
    ∃ c H' is, run_impl_deep [.one (Cell.str (bs s)), .one (.fn fid_impl_graph_onOf [.ptr g 2 0 0 0] [])] H0 = some ([.one c], H') ∧ Rep H' true true 2 is c (trL 1 trStr (reachS nx s)) ∧ is.Nodup ∧ H0.length ≤ H'.length ∧ ∀ j, j < H0.length → H'[j]? = H0[j]? := by
  have hM := maxLen_eq
  have hreach : ∀ x, Reach nx s x → x ∈ U := fun x h => by
    cases h with
    | one h => exact hm _ _ h
    | step _ k => exact hm _ _ k
  -- the innermost loop
  have L2 : ∀ (ys : List Str), ys.length ≤ 1048576 → ∀ (r : List Str) (i n : Nat) (H : List Entry) (i1 i2 ds : List Nat) (cr cm cy cf : Cell) (row more : List Str) (a b : Int), ys.drop i = r → r.length < n → RM H0.length H i1 i2 cr cm row more → H0.length ≤ H.length →
      ListM H ds cy ys → (∀ j ∈ ds, j < H.length ∧ j ∉ i1 ∧ j ∉ i2) → (row ++ freshL row r).length ≤ 1048576 → more.length ≤ row.length → ∀ (b0 : Cell → Cell → Cell → List Entry → Option Res) (b1 : Cell → Cell → Cell → Cell → Int → Int → List Entry → Option Res) k m,
      ∃ cr' cm' H' j1 j2, impl_deep_impl_graph_onOf_l2 k m b0 b1 n (.ptr g 2 0 0 0) cr cm cf a b cy ys.length i H = b1 (.ptr g 2 0 0 0) cr' cm' cf a (IntKind.i64.wrap (b + 1)) H' ∧ RM H0.length H' j1 j2 cr' cm' (row ++ freshL row r) (more ++ freshL row r) ∧ H.length ≤ H'.length ∧
        (∀ j, j < H.length → j ∉ i1 → j ∉ i2 → H'[j]? = H[j]?) ∧ (∀ j ∈ j1, j ∈ i1 ∨ H.length ≤ j) ∧ ∀ j ∈ j2, j ∈ i2 ∨ H.length ≤ j := by
    intro ys hys r
    induction r with
    | nil =>
      intro i n H i1 i2 ds cr cm cy cf row more a b hd hn hr hN hy hds hb hmr b0 b1 k m
      obtain ⟨n, rfl⟩ : ∃ j, n = j + 1 := ⟨n - 1, by omega⟩
      have := drop_nil hd
      refine ⟨cr, cm, H, i1, i2, ?_, by simpa [freshL] using hr, Nat.le_refl _, fun _ _ _ _ => rfl, fun j h => .inl h, fun j h => .inl h⟩
      simp only [impl_deep_impl_graph_onOf_l2]
      rw [decide_eq_false (by omega), cond_false]
    | cons y r ih =>
      intro i n H i1 i2 ds cr cm cy cf row more a b hd hn hr hN hy hds hb hmr b0 b1 k m
      obtain ⟨n, rfl⟩ : ∃ j, n = j + 1 := ⟨n - 1, by omega⟩
      obtain ⟨hlt, hx, hd'⟩ := drop_cons hd
      simp only [List.length_cons] at hn
      obtain ⟨a1, rw1, off, t1, t2, t3⟩ := hy.at hx
      have hrl : row.length ≤ 1048576 := by simp at hb; omega
      have q1 : callS run_slices_Contains_string [.one cr, .one (Cell.str (bs y))] H = some [.one (Cell.bool (row.contains y))] := by
        rw [callS_of (mapO_c (ListM.of (n := 2) hr.1).read (mapO_c (reifyAV_canon _ _ _) (mapO_nil' _)))]
        exact c_slices_Contains_string row y (by omega)
      simp only [impl_deep_impl_graph_onOf_l2]
      rw [decide_eq_true (by omega), cond_true]
      simp only [t1, t2, t3, q1, wrap_succ (show i < maxLen by omega), callS_canon, callL_canon, Option.map_some, Option.bind_some, shape_one, shape_agg, shape_nil, cellsAt_0, cellsAt_1, cellsAt_2, cellsAt_3, cells_one, cells_agg, cB_zero, cI_zero, cS_zero, cC_zero, cB_cons, cI_cons, cS_cons, cC_cons, cond_true, cond_false, List.length_cons, List.length_nil, beq_self_eq_true, Bool.and_true, Bool.true_and, lenC_encL, lenC_lst, deref_ref, emptyK_nil, bs_size, bs_toList]
      unfold freshL at hb ⊢
      cases hc : row.contains y with
      | true =>
        rw [hc, cond_true] at hb
        simp only [Bool.not_true, cond_false, cond_true]
        exact ih (i + 1) n H i1 i2 ds cr cm cy cf row more a b hd' (by omega) hr hN hy hds hb hmr b0 b1 k m
      | false =>
        rw [hc, cond_false, List.append_cons] at hb
        obtain ⟨p, q, j1, j2, e1, e2, hr', m1, k1, g1, g2⟩ := hr.push hN y (by omega) (by omega)
        simp only [Bool.not_false, cond_true, cond_false, e1, e2, Option.bind_some]
        obtain ⟨cr', cm', H', l1, l2, z1, z2, z3, z4, z5, z6⟩ := ih (i + 1) n q.2 j1 j2 ds p.1 q.1 cy cf (row ++ [y]) (more ++ [y]) a b hd' (by omega) hr' (by omega) (hy.frame fun j hj => by
          obtain ⟨d1, d2, d3⟩ := hds j hj
          exact k1 j d1 d2 d3) (fun j hj => by
          obtain ⟨d1, d2, d3⟩ := hds j hj
          refine ⟨by omega, fun h => ?_, fun h => ?_⟩
          · rcases g1 j h with h | h
            · exact d2 h
            · omega
          · rcases g2 j h with h | h
            · exact d3 h
            · omega) hb (by simp; omega) b0 b1 k m
        refine ⟨cr', cm', H', l1, l2, z1, by rw [List.append_cons, List.append_cons more]; exact z2, by omega, fun j hj n1 n2 => ?_, fun j hj => ?_, fun j hj => ?_⟩
        · rw [z4 j (by omega) (fun h => ?_) fun h => ?_, k1 j hj n1 n2]
          · rcases g1 j h with h | h
            · exact n1 h
            · omega
          · rcases g2 j h with h | h
            · exact n2 h
            · omega
        · rcases z5 j hj with h | h
          · exact g1 j h
          · exact .inr (by omega)
        · rcases z6 j hj with h | h
          · exact g2 j h
          · exact .inr (by omega)
  -- the names of a round
  have L1 : ∀ (fr : List Str), fr.length ≤ 1048577 → ∀ (r : List Str) (i n : Nat) (H : List Entry) (i1 i2 fs : List Nat) (cr cm cf : Cell) (row more : List Str), fr.drop i = r → r.length < n → RM H0.length H i1 i2 cr cm row more → H0.length ≤ H.length → (∀ j, j < H0.length → H[j]? = H0[j]?) →
      ListM H fs cf fr → (∀ j ∈ fs, j < H.length ∧ j ∉ i1 ∧ j ∉ i2) → Found nx s row (r ++ more) → more.length ≤ row.length → ∀ (b0 : Cell → Cell → Cell → List Entry → Option Res) k m, 1048576 < m →
      ∃ cr' cm' H' j1 j2 row' more', impl_deep_impl_graph_onOf_l1 k m b0 n (.ptr g 2 0 0 0) cr cm cf fr.length i H = b0 (.ptr g 2 0 0 0) cr' cm' H' ∧ RM H0.length H' j1 j2 cr' cm' row' more' ∧ H0.length ≤ H'.length ∧ (∀ j, j < H0.length → H'[j]? = H0[j]?) ∧ Found nx s row' more' ∧ more'.length ≤ row'.length ∧ row.length + more'.length ≤ row'.length + more.length := by
    intro fr hfr r
    induction r with
    | nil =>
      intro i n H i1 i2 fs cr cm cf row more hd hn hr hN h0 hf hfs hF hmr b0 k m hm'
      obtain ⟨n, rfl⟩ : ∃ j, n = j + 1 := ⟨n - 1, by omega⟩
      have := drop_nil hd
      refine ⟨cr, cm, H, i1, i2, row, more, ?_, hr, hN, h0, hF, hmr, by omega⟩
      simp only [impl_deep_impl_graph_onOf_l1]
      rw [decide_eq_false (by omega), cond_false]
    | cons x r ih =>
      intro i n H i1 i2 fs cr cm cf row more hd hn hr hN h0 hf hfs hF hmr b0 k m hm'
      obtain ⟨n, rfl⟩ : ∃ j, n = j + 1 := ⟨n - 1, by omega⟩
      obtain ⟨hlt, hx, hd'⟩ := drop_cons hd
      simp only [List.length_cons] at hn
      obtain ⟨a1, rw1, off, t1, t2, t3⟩ := hf.at hx
      have hGH : GraphM H ids g names next := hG.app (fun j hj => h0 j (hG.lt j hj)) hN
      obtain ⟨d, H1, ds, u1, u2, u3, u4, u5⟩ := hnext H x hGH
      have hr1 := hr.frame u4
      have hF' := hF.next
      have hrow' : (row ++ freshL row (nx x)).length ≤ U.length := nodup_le hF'.nd fun y hy => hreach y (hF'.ro y hy)
      have hb : ∀ j, (j ∈ i1 ∨ j ∈ i2) → H0.length ≤ j ∧ j < H.length := fun j hj => by
        obtain ⟨p1, p2, _, _, _, _, _, p3, p4⟩ := hr
        rcases hj with hj | hj
        · exact ⟨p3 j hj, p1.lt j hj⟩
        · exact ⟨p4 j hj, p2.lt j hj⟩
      obtain ⟨cr', cm', H', j1, j2, z1, z2, z3, z4, z5, z6⟩ := L2 (nx x) (hl x) (nx x) 0 m H1 i1 i2 ds cr cm d cf row more fr.length i rfl (by have := hl x; omega) hr1 (by omega) u2 (fun j hj => by
        obtain ⟨d1, d2⟩ := u5 j hj
        refine ⟨d1, fun h => ?_, fun h => ?_⟩
        · have := hb j (.inl h); omega
        · have := hb j (.inr h); omega) (by omega) hmr b0 (impl_deep_impl_graph_onOf_l1 k m b0 n) k m
      have hfs' : ∀ j ∈ fs, j < H'.length ∧ j ∉ j1 ∧ j ∉ j2 := fun j hj => by
        obtain ⟨d1, d2, d3⟩ := hfs j hj
        refine ⟨by omega, fun h => ?_, fun h => ?_⟩
        · rcases z5 j h with h | h
          · exact d2 h
          · omega
        · rcases z6 j h with h | h
          · exact d3 h
          · omega
      obtain ⟨cr2, cm2, H2, l1, l2, row2, more2, y1, y2, y3, y4, y5, y6, y7⟩ := ih (i + 1) n H' j1 j2 fs cr' cm' cf (row ++ freshL row (nx x)) (more ++ freshL row (nx x)) hd' (by omega) z2 (by omega) (fun j hj => by
        rw [z4 j (by omega) (fun h => by have := hb j (.inl h); omega) fun h => by have := hb j (.inr h); omega, u4 j (by omega), h0 j hj]) (hf.frame fun j hj => by
        obtain ⟨d1, d2, d3⟩ := hfs j hj
        rw [z4 j (by omega) d2 d3, u4 j d1]) hfs' (by rw [← List.append_assoc]; exact hF') (by simp; omega) b0 k m hm'
      refine ⟨cr2, cm2, H2, l1, l2, row2, more2, ?_, y2, y3, y4, y5, y6, by simp at y7; omega⟩
      simp only [impl_deep_impl_graph_onOf_l1]
      rw [decide_eq_true (by omega), cond_true]
      simp only [t1, t2, t3, u1, u2.len, callS_canon, callL_canon, Option.map_some, Option.bind_some, shape_one, shape_agg, shape_nil, cellsAt_0, cellsAt_1, cellsAt_2, cellsAt_3, cells_one, cells_agg, cB_zero, cI_zero, cS_zero, cC_zero, cB_cons, cI_cons, cS_cons, cC_cons, cond_true, cond_false, List.length_cons, List.length_nil, beq_self_eq_true, Bool.and_true, Bool.true_and, lenC_encL, lenC_lst, deref_ref, emptyK_nil, bs_size, bs_toList]
      rw [show (0 : Int) = ((0 : Nat) : Int) from rfl, z1, wrap_succ (by omega)]
      exact y1
  -- the rounds
  have L0 : ∀ (d : Nat) (H : List Entry) (i1 fs : List Nat) (cr cf : Cell) (row fr : List Str) (n : Nat), RM H0.length H i1 [] cr (.lst true 1 []) row [] → H0.length ≤ H.length → (∀ j, j < H0.length → H[j]? = H0[j]?) → ListM H fs cf fr → (∀ j ∈ fs, j < H.length ∧ j ∉ i1) → Found nx s row fr → fr.length ≤ row.length + 1 →
      2 * (U.length - row.length) + (if fr = [] then 0 else 1) ≤ d → d < n → ∀ k m, 1048577 < m → ∃ c H' is, impl_deep_impl_graph_onOf_l0 k m n (.ptr g 2 0 0 0) cr cf H = some ([.one c], H') ∧ Rep H' true true 2 is c (trL 1 trStr (reachS nx s)) ∧ is.Nodup ∧ H0.length ≤ H'.length ∧ ∀ j, j < H0.length → H'[j]? = H0[j]? := by
    intro d
    induction d with
    | zero =>
      intro H i1 fs cr cf row fr n hr hN h0 hf hfs hF hfl hd hn k m hm'
      obtain ⟨n, rfl⟩ : ∃ j, n = j + 1 := ⟨n - 1, by omega⟩
      have hfr : fr = [] := by
        rcases Classical.em (fr = []) with h | h
        · exact h
        · rw [if_neg h] at hd; omega
      subst hfr
      have hrl : row.length ≤ U.length := nodup_le hF.nd fun y hy => hreach y (hF.ro y hy)
      obtain ⟨c', E, is, e1, r1, w1, _⟩ := freshO (f_impl_Sorted row (by omega)) H (mapO_c (ListM.of (n := 2) hr.1).read (mapO_nil' _))
      refine ⟨c', H ++ E, is, ?_, by rw [reachS_eq hF.done]; exact r1, w1.nd, by simp; omega, fun j hj => by rw [List.getElem?_append_left (by omega)]; exact h0 j hj⟩
      simp only [impl_deep_impl_graph_onOf_l0, hf.len, List.length_nil, Option.bind_some]
      rw [decide_eq_false (by omega), cond_false]
      simp only [e1, callS_canon, callL_canon, Option.map_some, Option.bind_some, shape_one, shape_agg, shape_nil, cellsAt_0, cellsAt_1, cellsAt_2, cellsAt_3, cells_one, cells_agg, cB_zero, cI_zero, cS_zero, cC_zero, cB_cons, cI_cons, cS_cons, cC_cons, cond_true, cond_false, List.length_cons, List.length_nil, beq_self_eq_true, Bool.and_true, Bool.true_and, lenC_encL, lenC_lst, deref_ref, emptyK_nil, bs_size, bs_toList]
    | succ d ih =>
      intro H i1 fs cr cf row fr n hr hN h0 hf hfs hF hfl hd hn k m hm'
      obtain ⟨n, rfl⟩ : ∃ j, n = j + 1 := ⟨n - 1, by omega⟩
      have hrl : row.length ≤ U.length := nodup_le hF.nd fun y hy => hreach y (hF.ro y hy)
      cases fr with
      | nil =>
        obtain ⟨c', E, is, e1, r1, w1, _⟩ := freshO (f_impl_Sorted row (by omega)) H (mapO_c (ListM.of (n := 2) hr.1).read (mapO_nil' _))
        refine ⟨c', H ++ E, is, ?_, by rw [reachS_eq hF.done]; exact r1, w1.nd, by simp; omega, fun j hj => by rw [List.getElem?_append_left (by omega)]; exact h0 j hj⟩
        simp only [impl_deep_impl_graph_onOf_l0, hf.len, List.length_nil, Option.bind_some]
        rw [decide_eq_false (by omega), cond_false]
        simp only [e1, callS_canon, callL_canon, Option.map_some, Option.bind_some, shape_one, shape_agg, shape_nil, cellsAt_0, cellsAt_1, cellsAt_2, cellsAt_3, cells_one, cells_agg, cB_zero, cI_zero, cS_zero, cC_zero, cB_cons, cI_cons, cS_cons, cC_cons, cond_true, cond_false, List.length_cons, List.length_nil, beq_self_eq_true, Bool.and_true, Bool.true_and, lenC_encL, lenC_lst, deref_ref, emptyK_nil, bs_size, bs_toList]
      | cons x fr =>
        rw [if_neg (by simp)] at hd
        obtain ⟨cr', cm', H', j1, j2, row', more', z1, z2, z3, z4, z5, z6, z7⟩ := L1 (x :: fr) (by omega) (x :: fr) 0 m H i1 [] fs cr (.lst true 1 []) cf row [] rfl (by omega) hr hN h0 hf (fun j hj => ⟨(hfs j hj).1, (hfs j hj).2, by simp⟩) (by simpa using hF) (by simp) (impl_deep_impl_graph_onOf_l0 k m n) k m (by omega)
        have hrl' : row'.length ≤ U.length := nodup_le z5.nd fun y hy => hreach y (z5.ro y hy)
        simp only [List.length_nil] at z7
        obtain ⟨c, H2, is, y1, y2, y3⟩ := ih H' j1 j2 cr' cm' row' more' n z2.anew z3 z4 (ListM.of (n := 2) z2.2.1) (fun j hj => ⟨z2.2.1.lt j hj, fun h => z2.2.2.2.2.2.2.1 j h hj⟩) z5 (by omega) (by
          by_cases hm0 : more' = []
          · rw [if_pos hm0]; omega
          · rw [if_neg hm0]
            have := List.length_pos_iff.2 hm0
            omega) (by omega) k m hm'
        refine ⟨c, H2, is, ?_, y2, y3⟩
        simp only [impl_deep_impl_graph_onOf_l0, hf.len, Option.bind_some]
        rw [decide_eq_true (by simp), cond_true, show (0 : Int) = ((0 : Nat) : Int) from rfl, z1]
        exact y1
  obtain ⟨c, H', is, z1, z2, z3⟩ := L0 (2 * U.length + 1) H0 [] [] (.lst true 1 []) (.lst true 1 ([s].map eStr)) [] [s] (2 * U.length + 1048577 + 1) (RM.nil _ _).anew (Nat.le_refl _) (fun _ _ => rfl) (.inl ⟨true, rfl⟩) (by simp) (Found.start nx s) (by simp) (by simp) (by omega) (2 * U.length + 1048577 + 1) (2 * U.length + 1048577 + 1) (by omega)
  exact ⟨c, H', is, run_impl_deep_impl_graph_onOf_of (2 * U.length + 1048577) (by simpa [impl_deep_impl_graph_onOf, eStr] using z1), z2, z3⟩
theorem reach_fin {nx : Str → List Str} {s : Str} {U : List Str} (hm : ∀ x, ∀ y ∈ nx x, y ∈ U) : ∃ o : List Str, ∀ x, x ∈ o ↔ Reach nx s x := by
  classical
  refine ⟨U.filter fun x => decide (Reach nx s x), fun x => ?_⟩
  rw [List.mem_filter, decide_eq_true_eq]
  refine ⟨fun h => h.2, fun h => ⟨?_, h⟩⟩
  cases h with
  | one h => exact hm _ _ h
  | step _ k => exact hm _ _ k
theorem pairwise_nodup {l : List Str} (h : l.Pairwise (· < ·)) : l.Nodup := h.imp fun h e => by subst e; exact List.lt_irrefl _ h
theorem reachS_bd {nx : Str → List Str} {s : Str} {U : List Str} (hm : ∀ x, ∀ y ∈ nx x, y ∈ U) : (reachS nx s).length ≤ U.length ∧ ∀ x ∈ reachS nx s, x ∈ U := by
  obtain ⟨o, ho⟩ := reach_fin (s := s) hm
  rw [reachS_eq ho]
  obtain ⟨h1, h2⟩ := sortedU_spec o
  have h3 : ∀ x ∈ sortedU o, x ∈ U := fun x hx => by
    cases (ho x).1 ((h2 x).1 hx) with
    | one h => exact hm _ _ h
    | step _ k => exact hm _ _ k
  exact ⟨nodup_le (pairwise_nodup h1) h3, h3⟩
theorem nextOf_mem {names : List Str} {next : List (List Str)} {x y : Str} (h : y ∈ nextOf names next x) : ∃ d ∈ next, y ∈ d := by
  unfold nextOf at h
  split at h
  · simp at h
  · cases hd : next[(idxS x names 0).toNat]? with
    | none => rw [hd] at h; simp at h
    | some d => rw [hd] at h; exact ⟨d, List.mem_of_getElem? hd, h⟩
/-- A walk of so many steps to a goal. -/
def Wk (nx : Str → List Str) (g : Str) : Nat → Str → Prop
  | 0, x => x = g
  | k + 1, x => ∃ y, y ∈ nx x ∧ Wk nx g k y
theorem least_of {p : Nat → Prop} {k : Nat} (h : p k) : ∃ j, j ≤ k ∧ p j ∧ ∀ i, i < j → ¬ p i := by
  induction k using Nat.strongRecOn with
  | ind k ih =>
    by_cases q : ∃ i, i < k ∧ p i
    · obtain ⟨i, h1, h2⟩ := q
      obtain ⟨j, h3, h4⟩ := ih i h1 h2
      exact ⟨j, by omega, h4⟩
    · exact ⟨k, Nat.le_refl _, h, fun i hi hp => q ⟨i, hi, hp⟩⟩
open Classical in
/-- The least number of steps to a goal, one or more; 0: there is no way. -/
noncomputable def dst (nx : Str → List Str) (g x : Str) : Nat := if h : ∃ j, Wk nx g (j + 1) x ∧ ∀ i, i < j → ¬ Wk nx g (i + 1) x then h.choose + 1 else 0
theorem dst_of {nx : Str → List Str} {g x : Str} {j : Nat} (h1 : Wk nx g (j + 1) x) (h2 : ∀ i, i < j → ¬ Wk nx g (i + 1) x) : dst nx g x = j + 1 := by
  have h : ∃ j, Wk nx g (j + 1) x ∧ ∀ i, i < j → ¬ Wk nx g (i + 1) x := ⟨j, h1, h2⟩
  unfold dst
  rw [dif_pos h]
  obtain ⟨k1, k2⟩ := h.choose_spec
  have a : ¬ h.choose < j := fun hh => h2 _ hh k1
  have b : ¬ j < h.choose := fun hh => k2 _ hh h1
  omega
theorem dst_le {nx : Str → List Str} {g x : Str} {k : Nat} (h : Wk nx g (k + 1) x) : 0 < dst nx g x ∧ dst nx g x ≤ k + 1 := by
  obtain ⟨j, h1, h2, h3⟩ := least_of (p := fun k => Wk nx g (k + 1) x) h
  rw [dst_of h2 h3]
  omega
theorem dst_get {nx : Str → List Str} {g x : Str} {k : Nat} (h : dst nx g x = k + 1) : Wk nx g (k + 1) x ∧ ∀ i, i < k → ¬ Wk nx g (i + 1) x := by
  by_cases q : ∃ j, Wk nx g (j + 1) x ∧ ∀ i, i < j → ¬ Wk nx g (i + 1) x
  · obtain ⟨j, h1, h2⟩ := q
    have := dst_of h1 h2
    obtain rfl : j = k := by omega
    exact ⟨h1, h2⟩
  · unfold dst at h
    rw [dif_neg q] at h
    omega
theorem dst_step {nx : Str → List Str} {g x : Str} {k : Nat} (h : dst nx g x = k + 2) : ∃ y, y ∈ nx x ∧ dst nx g y = k + 1 := by
  obtain ⟨⟨y, h1, h2⟩, h3⟩ := dst_get h
  exact ⟨y, h1, dst_of h2 fun i hi hw => h3 (i + 1) (by omega) ⟨y, h1, hw⟩⟩
theorem dst_up {nx : Str → List Str} {g x y : Str} {k : Nat} (hy : y ∈ nx x) (h : dst nx g y = k + 1) : 0 < dst nx g x ∧ dst nx g x ≤ k + 2 := dst_le ⟨y, hy, (dst_get h).1⟩
theorem dst_one {nx : Str → List Str} {g x : Str} : dst nx g x = 1 ↔ g ∈ nx x := by
  constructor
  · intro h
    obtain ⟨⟨y, h1, h2⟩, _⟩ := dst_get (k := 0) h
    rw [show y = g from h2] at h1
    exact h1
  · exact fun h => dst_of (j := 0) ⟨g, h, rfl⟩ (by omega)
theorem wk_snoc {nx : Str → List Str} {b c : Str} (hc : c ∈ nx b) : ∀ {k : Nat} {x : Str}, Wk nx b k x → Wk nx c (k + 1) x
  | 0, x, h => ⟨c, by rw [show x = b from h]; exact hc, rfl⟩
  | k + 1, x, ⟨y, h1, h2⟩ => ⟨y, h1, wk_snoc hc h2⟩
theorem reach_cons {nx : Str → List Str} {x y g : Str} (hy : y ∈ nx x) (h : Reach nx y g) : Reach nx x g := by
  induction h with
  | one hb => exact .step (.one hy) hb
  | step _ k ih => exact .step ih k
theorem reach_dst {nx : Str → List Str} {x g : Str} : Reach nx x g ↔ 0 < dst nx g x := by
  constructor
  · intro h
    have : ∃ k, Wk nx g (k + 1) x := by
      induction h with
      | one hb => exact ⟨0, _, hb, rfl⟩
      | step _ k ih =>
        obtain ⟨j, hj⟩ := ih
        exact ⟨j + 1, wk_snoc k hj⟩
    obtain ⟨k, hk⟩ := this
    exact (dst_le hk).1
  · intro h
    obtain ⟨k, hk⟩ : ∃ k, dst nx g x = k + 1 := ⟨dst nx g x - 1, by omega⟩
    have := (dst_get hk).1
    clear h hk
    induction k generalizing x with
    | zero =>
      obtain ⟨y, h1, h2⟩ := this
      rw [show y = g from h2] at h1
      exact .one h1
    | succ k ih =>
      obtain ⟨y, h1, h2⟩ := this
      exact reach_cons h1 (ih h2)
theorem dst_chain {nx : Str → List Str} {g : Str} {names : List Str} (hn : ∀ x y, y ∈ nx x → x ∈ names) : ∀ (d : Nat) (x : Str), dst nx g x = d → ∃ l : List Str, l.length = d ∧ l.Nodup ∧ ∀ y ∈ l, y ∈ names ∧ dst nx g y ≤ d := by
  intro d
  induction d with
  | zero => exact fun x _ => ⟨[], rfl, .nil, by simp⟩
  | succ d ih =>
    intro x hx
    have hxn : x ∈ names := by
      obtain ⟨⟨y, h1, _⟩, _⟩ := dst_get hx
      exact hn x y h1
    cases d with
    | zero => exact ⟨[x], rfl, by simp, by simp [hxn, hx]⟩
    | succ d =>
      obtain ⟨y, _, h2⟩ := dst_step hx
      obtain ⟨l, h3, h4, h5⟩ := ih y h2
      refine ⟨x :: l, by simp [h3], List.nodup_cons.2 ⟨fun h => ?_, h4⟩, fun z hz => ?_⟩
      · have := (h5 x h).2
        omega
      · rcases List.mem_cons.1 hz with rfl | hz
        · exact ⟨hxn, by omega⟩
        · exact ⟨(h5 z hz).1, by have := (h5 z hz).2; omega⟩
theorem dst_bd {nx : Str → List Str} {names : List Str} (hn : ∀ x y, y ∈ nx x → x ∈ names) (g x : Str) : dst nx g x ≤ names.length := by
  obtain ⟨l, h1, h2, h3⟩ := dst_chain (g := g) hn _ x rfl
  rw [← h1]
  exact nodup_le h2 fun y hy => (h3 y hy).1
/-- A search by breadth: what it has found, and how far it was asked. -/
structure Bf (nx : Str → List Str) (g : Str) (row : List Str) (i : Nat) : Prop where
  nd : row.Nodup
  pos : ∀ x ∈ row, 0 < dst nx g x
  srt : ∀ (p q : Nat) x y, row[p]? = some x → row[q]? = some y → p ≤ q → dst nx g x ≤ dst nx g y
  one : ∀ x, dst nx g x = 1 → x ∈ row
  done : ∀ (p : Nat) x y, row[p]? = some x → p < i → x ∈ nx y → y ∈ row
  near : ∀ x y, row[i]? = some x → y ∈ row → dst nx g y ≤ dst nx g x + 1
theorem Bf.low {nx : Str → List Str} {g : Str} {row : List Str} {i : Nat} (h : Bf nx g row i) {f : Nat} (hi : ∀ (p : Nat) x, row[p]? = some x → dst nx g x < f → p < i) : ∀ (k : Nat) (z : Str), dst nx g z = k + 1 → k + 1 < f → z ∈ row := by
  intro k
  induction k with
  | zero => exact fun z hz _ => h.one z hz
  | succ k ih =>
    intro z hz hf
    obtain ⟨u, h1, h2⟩ := dst_step hz
    have hu := ih u h2 (by omega)
    obtain ⟨p, hp⟩ := List.getElem?_of_mem hu
    exact h.done p u z hp (hi p u hp (by omega)) h1
theorem Bf.far {nx : Str → List Str} {g : Str} {row : List Str} {i : Nat} (h : Bf nx g row i) {x y : Str} (hx : row[i]? = some x) (hxy : x ∈ nx y) (hy : y ∉ row) : dst nx g y = dst nx g x + 1 := by
  have hxp := h.pos x (List.mem_of_getElem? hx)
  obtain ⟨k, hk⟩ : ∃ k, dst nx g x = k + 1 := ⟨dst nx g x - 1, by omega⟩
  obtain ⟨u1, u2⟩ := dst_up hxy hk
  have hlow : ∀ (p : Nat) z, row[p]? = some z → dst nx g z < dst nx g x → p < i := fun p z hz hlt => by
    apply Classical.byContradiction
    intro hp
    have := h.srt i p x z hx hz (by omega)
    omega
  by_cases e : dst nx g y = dst nx g x + 1
  · exact e
  · exfalso
    obtain ⟨j, hj⟩ : ∃ j, dst nx g y = j + 1 := ⟨dst nx g y - 1, by omega⟩
    cases j with
    | zero => exact hy (h.one y hj)
    | succ j =>
      obtain ⟨z, z1, z2⟩ := dst_step hj
      have hz := h.low hlow j z z2 (by omega)
      obtain ⟨p, hp⟩ := List.getElem?_of_mem hz
      exact hy (h.done p z y hp (hlow p z hp (by omega)) z1)
theorem snoc_get {α : Type} {row : List α} {y z : α} {p : Nat} (h : (row ++ [y])[p]? = some z) : row[p]? = some z ∨ (p = row.length ∧ z = y) := by
  rcases Nat.lt_or_ge p row.length with hp | hp
  · rw [List.getElem?_append_left hp] at h
    exact .inl h
  · rw [List.getElem?_append_right hp] at h
    cases hq : p - row.length with
    | zero => rw [hq] at h; simp at h; exact .inr ⟨by omega, h.symm⟩
    | succ q => rw [hq] at h; simp at h
theorem Bf.push {nx : Str → List Str} {g : Str} {row : List Str} {i : Nat} (h : Bf nx g row i) {x y : Str} (hx : row[i]? = some x) (hxy : x ∈ nx y) (hy : y ∉ row) : Bf nx g (row ++ [y]) i := by
  have hd := h.far hx hxy hy
  have hil := (List.getElem?_eq_some_iff.1 hx).1
  have hx' : (row ++ [y])[i]? = some x := by rw [List.getElem?_append_left hil]; exact hx
  refine ⟨?_, ?_, ?_, fun z hz => List.mem_append_left _ (h.one z hz), ?_, ?_⟩
  · rw [List.nodup_append]
    refine ⟨h.nd, by simp, fun a ha b hb e => ?_⟩
    simp only [List.mem_singleton] at hb
    rw [e, hb] at ha
    exact hy ha
  · intro z hz
    rcases List.mem_append.1 hz with hz | hz
    · exact h.pos z hz
    · simp only [List.mem_singleton] at hz
      rw [hz]
      omega
  · intro p q a b ha hb hpq
    rcases snoc_get ha with ha' | ⟨hp1, hp2⟩ <;> rcases snoc_get hb with hb' | ⟨hq1, hq2⟩
    · exact h.srt p q a b ha' hb' hpq
    · have := h.near x a hx (List.mem_of_getElem? ha')
      rw [hq2]
      omega
    · have := (List.getElem?_eq_some_iff.1 hb').1
      omega
    · rw [hp2, hq2]
      exact Nat.le_refl _
  · intro p a b ha hp hab
    rcases snoc_get ha with ha | ⟨rfl, _⟩
    · exact List.mem_append_left _ (h.done p a b ha hp hab)
    · omega
  · intro a b ha hb
    rw [hx'] at ha
    simp only [Option.some.injEq] at ha
    subst ha
    rcases List.mem_append.1 hb with hb | hb
    · exact h.near _ b hx hb
    · simp only [List.mem_singleton] at hb
      rw [hb]
      omega
theorem Bf.next {nx : Str → List Str} {g : Str} {row : List Str} {i : Nat} (h : Bf nx g row i) {x : Str} (hx : row[i]? = some x) (ha : ∀ y, x ∈ nx y → y ∈ row) : Bf nx g row (i + 1) := by
  refine ⟨h.nd, h.pos, h.srt, h.one, fun p a b hp hlt hab => ?_, fun a b hp hb => ?_⟩
  · by_cases e : p = i
    · subst e
      rw [hx] at hp
      simp only [Option.some.injEq] at hp
      subst hp
      exact ha b hab
    · exact h.done p a b hp (by omega) hab
  · have h1 := h.near x b hx hb
    have h2 := h.srt i (i + 1) x a hx hp (by omega)
    omega
theorem Bf.all {nx : Str → List Str} {g : Str} {row : List Str} {i : Nat} (h : Bf nx g row i) (hi : row.length ≤ i) {x : Str} (hx : 0 < dst nx g x) : x ∈ row := by
  obtain ⟨k, hk⟩ : ∃ k, dst nx g x = k + 1 := ⟨dst nx g x - 1, by omega⟩
  refine h.low (f := k + 2) (fun p z hz _ => ?_) k x hk (by omega)
  have := (List.getElem?_eq_some_iff.1 hz).1
  omega
theorem Bf.start {nx : Str → List Str} {g : Str} {row : List Str} (h1 : row.Nodup) (h2 : ∀ x ∈ row, dst nx g x = 1) (h3 : ∀ x, g ∈ nx x → x ∈ row) : Bf nx g row 0 := by
  refine ⟨h1, fun x hx => by rw [h2 x hx]; omega, fun p q a b ha hb _ => ?_, fun x hx => h3 x (dst_one.1 hx), fun p _ _ _ hp => by omega, fun a b ha hb => ?_⟩
  · rw [h2 a (List.mem_of_getElem? ha), h2 b (List.mem_of_getElem? hb)]
    exact Nat.le_refl _
  · rw [h2 a (List.mem_of_getElem? ha), h2 b hb]
    omega
/-- The way on, always by the first that is nearer. -/
noncomputable def wayL (nx : Str → List Str) (g : Str) : Nat → Str → List Str
  | 0, _ => []
  | k + 1, x => match (nx x).find? fun y => dst nx g y == k + 1 with
    | some y => y :: wayL nx g k y
    | none => []
noncomputable def wayOf (nx : Str → List Str) (g : Str) : List Str := g :: wayL nx g (dst nx g g - 1) g
open Classical in
noncomputable def ringOf (names : List Str) (nx : Str → List Str) : List Str := match names.find? fun x => decide (0 < dst nx x x) with
  | some x => wayOf nx x
  | none => []
theorem find_some {nx : Str → List Str} {g x : Str} {k : Nat} (h : dst nx g x = k + 2) : ∃ y, ((nx x).find? fun y => dst nx g y == k + 1) = some y ∧ dst nx g y = k + 1 ∧ y ∈ nx x := by
  obtain ⟨z, h1, h2⟩ := dst_step h
  cases hf : (nx x).find? fun y => dst nx g y == k + 1 with
  | none =>
    rw [List.find?_eq_none] at hf
    have := hf z h1
    simp [h2] at this
  | some y => exact ⟨y, rfl, by simpa using List.find?_some hf, List.mem_of_find?_eq_some hf⟩
theorem wayL_len (nx : Str → List Str) (g : Str) : ∀ (k : Nat) (x : Str), (wayL nx g k x).length ≤ k ∧ ∀ y ∈ wayL nx g k x, ∃ z, y ∈ nx z := by
  intro k
  induction k with
  | zero => simp [wayL]
  | succ k ih =>
    intro x
    simp only [wayL]
    split
    · rename_i y hy
      obtain ⟨h1, h2⟩ := ih y
      refine ⟨by simp; omega, fun z hz => ?_⟩
      rcases List.mem_cons.1 hz with rfl | hz
      · exact ⟨x, List.mem_of_find?_eq_some hy⟩
      · exact h2 z hz
    · simp
theorem ringOf_bd {names : List Str} {nx : Str → List Str} (hn : ∀ x y, y ∈ nx x → x ∈ names) : (ringOf names nx).length ≤ names.length ∧ ∀ y ∈ ringOf names nx, y ∈ names ∨ ∃ z, y ∈ nx z := by
  unfold ringOf
  split
  · rename_i x hx
    have hp : 0 < dst nx x x := by simpa using List.find?_some hx
    have hb := dst_bd hn x x
    obtain ⟨h1, h2⟩ := wayL_len nx x (dst nx x x - 1) x
    refine ⟨by simp only [wayOf, List.length_cons]; omega, fun y hy => ?_⟩
    rcases List.mem_cons.1 hy with rfl | hy
    · exact .inl (List.mem_of_find?_eq_some hx)
    · exact .inr (h2 y hy)
  · simp
/-! the map of how far each is -/
def mapRows (f : Str → Nat) (row : List Str) : List (List Cell) := row.map fun x => [Cell.str (bs x), Cell.int (f x : Nat)]
theorem mapGet_rows (f : Str → Nat) (s : Str) : ∀ row : List Str, mapGet (mapRows f row) (bs s) = some (if s ∈ row then ((f s : Nat) : Int) else 0)
  | [] => by simp [mapRows, mapGet]
  | x :: row => by
    have ih := mapGet_rows f s row
    simp only [mapRows, List.map_cons, mapGet] at ih ⊢
    by_cases e : x = s
    · subst e
      rw [(Go.MapKept.bytes_beq _ _).2 rfl]
      simp
    · have hb : (bs x == bs s) = false := by
        cases h : (bs x == bs s)
        · rfl
        · exact absurd (bs_inj.1 ((Go.MapKept.bytes_beq _ _).1 h)) e
      rw [hb, cond_false, ih]
      have : (s ∈ x :: row) ↔ s ∈ row := by
        rw [List.mem_cons]
        exact ⟨fun h => h.resolve_left fun h => e h.symm, .inr⟩
      simp only [this]
theorem mapSet_rows (f : Str → Nat) (y : Str) : ∀ row : List Str, y ∉ row → mapSet (mapRows f row) (bs y) (f y : Nat) = some (mapRows f (row ++ [y]))
  | [], _ => by simp [mapRows, mapSet]
  | x :: row, h => by
    have ih := mapSet_rows f y row fun h' => h (List.mem_cons_of_mem _ h')
    have e : x ≠ y := fun e => h (by rw [e]; exact List.mem_cons_self ..)
    have hb : (bs x == bs y) = false := by
      cases h : (bs x == bs y)
      · rfl
      · exact absurd (bs_inj.1 ((Go.MapKept.bytes_beq _ _).1 h)) e
    simp only [mapRows, List.map_cons, mapSet, List.cons_append] at ih ⊢
    rw [hb, cond_false, ih]
    rfl
/-- The heap of a way's search: what stood, then the map. -/
structure WayM (H0 H : List Entry) (f : Str → Nat) (row : List Str) : Prop where
  len : H0.length < H.length
  old : ∀ j, j < H0.length → H[j]? = H0[j]?
  mp : H[H0.length]? = some ⟨2, mapRows f row, 0, false⟩
theorem WayM.get {H0 H : List Entry} {f : Str → Nat} {row : List Str} (h : WayM H0 H f row) (s : Str) : mapAtC H (.mp H0.length 0) (bs s) = some (if s ∈ row then ((f s : Nat) : Int) else 0) := by
  simp only [mapAtC, mapAt, entry?, h.mp, if_true, Option.bind_some]
  exact mapGet_rows f s row
theorem WayM.put {H0 H : List Entry} {f : Str → Nat} {row : List Str} (h : WayM H0 H f row) {y : Str} (hy : y ∉ row) :
    ∃ H', mapPutC H (.mp H0.length 0) (bs y) (f y : Nat) = some H' ∧ WayM H0 H' f (row ++ [y]) ∧ H'.length = H.length ∧ ∀ j, j ≠ H0.length → H'[j]? = H[j]? := by
  refine ⟨H.set H0.length ⟨2, mapRows f (row ++ [y]), 0, false⟩, ?_, ⟨by simpa using h.len, fun j hj => ?_, by rw [List.getElem?_set_self h.len]⟩, by simp, fun j hj => List.getElem?_set_ne (Ne.symm hj)⟩
  · simp only [mapPutC, mapPut, entry?, h.mp, if_true, Option.bind_some, mapSet_rows f y row hy, Option.map_some]
  · rw [List.getElem?_set_ne (by omega)]
    exact h.old j hj
theorem WayM.frame {H0 H H' : List Entry} {f : Str → Nat} {row : List Str} (h : WayM H0 H f row) (hl : H.length ≤ H'.length) (k : ∀ j, j ≤ H0.length → H'[j]? = H[j]?) : WayM H0 H' f row :=
  ⟨Nat.lt_of_lt_of_le h.len hl, fun j hj => (k j (by omega)).trans (h.old j hj), (k _ (Nat.le_refl _)).trans h.mp⟩
theorem src_own (H : List Entry) (c : Cell) : srcRows (H ++ [Entry.mk 1 [[c]] 0 false]) 1 (.vs H.length 1 0 1 0) = some [[c]] := by
  simp [srcRows, rowsOf, entry?]
theorem RM.at {N : Nat} {H H' : List Entry} {i1 i2 : List Nat} {cr cm : Cell} {row more : List Str} (h : RM N H i1 i2 cr cm row more) (k : ∀ j, N ≤ j → j < H.length → H'[j]? = H[j]?) : RM N H' i1 i2 cr cm row more := by
  obtain ⟨r1, r2, f1, f2, n1, n2, dj, b1, b2⟩ := h
  exact ⟨r1.frame fun j hj => k j (b1 j hj) (r1.lt j hj), r2.frame fun j hj => k j (b2 j hj) (r2.lt j hj), f1, f2, n1, n2, dj, b1, b2⟩
/-- A text goes behind a list, by way of a list of it alone. -/
theorem RM.own1 {N : Nat} {H : List Entry} {i1 : List Nat} {cr : Cell} {row : List Str} (h : RM N H i1 [] cr (.lst true 1 []) row []) (hN : N ≤ H.length) (y : Str) (l1 : row.length < 1073741824) :
    ∃ p j1, app (H ++ [Entry.mk 1 [[Cell.str (bs y)]] 0 false]) 1 16 cr [[Cell.str (bs y)]] = some p ∧ RM N p.2 j1 [] p.1 (.lst true 1 []) (row ++ [y]) [] ∧ H.length ≤ p.2.length ∧ (∀ j, j < H.length → j ∉ i1 → p.2[j]? = H[j]?) ∧ ∀ j ∈ j1, j ∈ i1 ∨ H.length ≤ j := by
  have h' : RM N (H ++ [Entry.mk 1 [[Cell.str (bs y)]] 0 false]) i1 [] cr (.lst true 1 []) row [] := h.frame fun j hj => List.getElem?_append_left hj
  obtain ⟨p, j1, a1, r1, m1, k1, g1⟩ := h'.app1 (by simp; omega) [y] (by simp [bound]; omega)
  refine ⟨p, j1, a1, r1, by simp at m1; omega, fun j hj hn => ?_, fun j hj => ?_⟩
  · rw [k1 j (by simp; omega) hn, List.getElem?_append_left hj]
  · rcases g1 j hj with h | h
    · exact .inl h
    · simp at h
      exact .inr (by omega)
theorem RM.lo {N : Nat} {H : List Entry} {i1 i2 : List Nat} {cr cm : Cell} {row more : List Str} (h : RM N H i1 i2 cr cm row more) : (∀ j ∈ i1, N ≤ j ∧ j < H.length) := fun j hj => ⟨h.2.2.2.2.2.2.2.1 j hj, h.1.lt j hj⟩
def ahOf (names : List Str) (nx : Str → List Str) (s : Str) : List Str := names.filter fun x => (nx x).contains s
theorem ahOf_mem {names : List Str} {nx : Str → List Str} (hn : ∀ x y, y ∈ nx x → x ∈ names) {s x : Str} : x ∈ ahOf names nx s ↔ s ∈ nx x := by
  simp only [ahOf, List.mem_filter, List.contains_iff_mem]
  exact ⟨fun h => h.2, fun h => ⟨hn x s h, h⟩⟩
theorem gm_ahead {H : List Entry} {ids : List Nat} {g : Nat} {names : List Str} {next : List (List Str)} (h : GraphM H ids g names next) (h1 : names.length ≤ 1048576) (h3 : ∀ d ∈ next, d.length ≤ 1073741824) (s : Str) :
    ∃ c T, run_impl_graph_ahead [.one (.ptr g 2 0 0 0), .one (Cell.str (bs s))] H = some ([.one c], H ++ T) ∧ GrowAt H.length 1 c T ((ahOf names (nextOf names next) s).map eStr) := by
  have hM := maxLen_eq
  have hG : ∀ T, GraphM (H ++ T) ids g names next := fun T => h.app (fun j hj => by rw [List.getElem?_append_left (h.lt j hj)]) (by simp)
  obtain ⟨_, hlt, hlen, cn, co, fr, he, hn, ho⟩ := h
  have d1 : deref H (.ptr g 2 0 0 0) = some ([cn, co], 0) := by simp [deref, entry?, he]
  have fr' : ∀ (T : List Entry), ∀ j ∈ ids, (H ++ T)[j]? = H[j]? := fun T j hj => List.getElem?_append_left (hlt j hj)
  have loop : ∀ (r : List Str) (i n : Nat) (acc : List Str) (c : Cell) (T : List Entry), names.drop i = r → r.length < n → acc.length ≤ i → GrowAt H.length 1 c T (acc.map eStr) → ∀ k m,
      ∃ c' T', impl_graph_ahead_l0 k m n (.ptr g 2 0 0 0) (bs s) c cn names.length i (H ++ T) = some ([.one c'], H ++ T') ∧ GrowAt H.length 1 c' T' ((acc ++ r.filter fun x => (nextOf names next x).contains s).map eStr) := by
    intro r
    induction r with
    | nil =>
      intro i n acc c T hd hn' ha hg k m
      obtain ⟨n, rfl⟩ : ∃ j, n = j + 1 := ⟨n - 1, by omega⟩
      have := drop_nil hd
      refine ⟨c, T, ?_, by simpa using hg⟩
      simp only [impl_graph_ahead_l0]
      rw [decide_eq_false (by omega), cond_false]
    | cons x r ih =>
      intro i n acc c T hd hn' ha hg k m
      obtain ⟨n, rfl⟩ : ∃ j, n = j + 1 := ⟨n - 1, by omega⟩
      obtain ⟨hlt', hx, hd'⟩ := drop_cons hd
      simp only [List.length_cons] at hn'
      obtain ⟨a2, row, off, j1, j2, j3⟩ := (hn.frame (fr' T)).at hx
      obtain ⟨d, o1, o2⟩ := gm_onOf (hG T) (by omega) x
      have q1 : callS run_slices_Contains_string [.one d, .one (Cell.str (bs s))] (H ++ T) = some [.one (Cell.bool ((nextOf names next x).contains s))] := by
        rw [callS_of (mapO_c o2.read (mapO_c (reifyAV_canon _ _ _) (mapO_nil' _)))]
        exact c_slices_Contains_string _ s (nextOf_le h3 x)
      simp only [impl_graph_ahead_l0]
      rw [decide_eq_true (by omega), cond_true]
      simp only [j1, j2, j3, o1, q1, wrap_succ (show i < maxLen by omega), callS_canon, callL_canon, Option.map_some, Option.bind_some, shape_one, shape_agg, shape_nil, cellsAt_0, cellsAt_1, cellsAt_2, cellsAt_3, cells_one, cells_agg, cB_zero, cI_zero, cS_zero, cC_zero, cB_cons, cI_cons, cS_cons, cC_cons, cond_true, cond_false, List.length_cons, List.length_nil, beq_self_eq_true, Bool.and_true, Bool.true_and, lenC_encL, lenC_lst, deref_ref, emptyK_nil, bs_size, bs_toList]
      cases hc : (nextOf names next x).contains s with
      | false =>
        rw [cond_false]
        obtain ⟨c', T', z1, z2⟩ := ih (i + 1) n acc c T hd' (by omega) (by omega) hg k m
        have hf : (x :: r).filter (fun x => (nextOf names next x).contains s) = r.filter fun x => (nextOf names next x).contains s := by simp only [List.filter_cons, hc]; rfl
        exact ⟨c', T', z1, by rw [hf]; exact z2⟩
      | true =>
        rw [cond_true]
        obtain ⟨c1, T1, a1, g1⟩ := app_at (A := H) (by' := 16) hg (eStr x) (by simp [bound]; omega) (by simp [bound]; omega)
        have hrow : acc.map eStr ++ [eStr x] = (acc ++ [x]).map eStr := by simp
        rw [hrow] at g1
        obtain ⟨c', T', z1, z2⟩ := ih (i + 1) n (acc ++ [x]) c1 T1 hd' (by omega) (by simp; omega) g1 k m
        have hf : (x :: r).filter (fun x => (nextOf names next x).contains s) = x :: r.filter fun x => (nextOf names next x).contains s := by simp only [List.filter_cons, hc]; rfl
        refine ⟨c', T', ?_, by rw [hf, List.append_cons]; exact z2⟩
        simp only [eStr] at a1
        simp only [a1, Option.bind_some]
        exact z1
  obtain ⟨c, T, z1, z2⟩ := loop names 0 (names.length + 1 + 1) [] (.lst true 1 []) [] rfl (by omega) (by simp) (.inl ⟨rfl, rfl, rfl⟩) (names.length + 1 + 1) (names.length + 1 + 1)
  refine ⟨c, T, run_impl_graph_ahead_of (names.length + 1) ?_, z2⟩
  rw [List.append_nil] at z1
  simp only [impl_graph_ahead, ptrC, fldA_ptr, d1, cC_zero, hn.len, Option.bind_some]
  exact z1
theorem gm_way {H0 : List Entry} {ids : List Nat} {g : Nat} {names : List Str} {next : List (List Str)} (hG : GraphM H0 ids g names next) (h1 : names.length ≤ 1048576) (h3 : ∀ d ∈ next, d.length ≤ 1073741824)
    (hnm : ∀ x y, y ∈ nextOf names next x → x ∈ names) (s : Str) (hs : 0 < dst (nextOf names next) s s) :
    ∃ c H' is, run_impl_graph_way [.one (.ptr g 2 0 0 0), .one (Cell.str (bs s)), .one (Cell.str (bs s))] H0 = some ([.one c], H') ∧ Rep H' true true 2 is c (trL 1 trStr (wayOf (nextOf names next) s)) ∧ is.Nodup := by
  have hM := maxLen_eq
  generalize hnx : nextOf names next = nx at hs hnm
  have hdb : ∀ x, dst nx s x ≤ 1048576 := fun x => Nat.le_trans (dst_bd hnm s x) h1
  have hGH : ∀ {H row}, WayM H0 H (dst nx s) row → GraphM H ids g names next := fun h => hG.app (fun j hj => h.old j (hG.lt j hj)) (Nat.le_of_lt h.len)
  have hnl : ∀ x, (nx x).length ≤ 1073741824 := fun x => by rw [← hnx]; exact nextOf_le h3 x
  have hin : ∀ {row : List Str}, row.Nodup → (∀ x ∈ row, 0 < dst nx s x) → row.length ≤ 1048576 := fun {row} hnd hp => Nat.le_trans (nodup_le hnd fun x hx => by
    have := hp x hx
    obtain ⟨k, hk⟩ : ∃ k, dst nx s x = k + 1 := ⟨dst nx s x - 1, by omega⟩
    obtain ⟨⟨y, hy, _⟩, _⟩ := dst_get hk
    exact hnm x y hy) h1
  -- a text that is found
  have found : ∀ {H : List Entry} {i1 : List Nat} {cr : Cell} {row : List Str} {y : Str}, WayM H0 H (dst nx s) row → RM (H0.length + 1) H i1 [] cr (.lst true 1 []) row [] → y ∉ row → row.length ≤ 1048576 →
      ∃ H1 p j1, mapPutC H (.mp H0.length 0) (bs y) (dst nx s y : Nat) = some H1 ∧ app (H1 ++ [Entry.mk 1 [[Cell.str (bs y)]] 0 false]) 1 16 cr [[Cell.str (bs y)]] = some p ∧ WayM H0 p.2 (dst nx s) (row ++ [y]) ∧
        RM (H0.length + 1) p.2 j1 [] p.1 (.lst true 1 []) (row ++ [y]) [] ∧ H.length ≤ p.2.length ∧ (∀ j, j < H.length → j ≠ H0.length → j ∉ i1 → p.2[j]? = H[j]?) ∧ ∀ j ∈ j1, j ∈ i1 ∨ H.length ≤ j := by
    intro H i1 cr row y hw hr hy hl
    obtain ⟨H1, u1, u2, u3, u4⟩ := hw.put hy
    have hr1 : RM (H0.length + 1) H1 i1 [] cr (.lst true 1 []) row [] := hr.at fun j hj _ => u4 j (by omega)
    have hlen := u2.len
    obtain ⟨p, j1, a1, r1, m1, k1, g1⟩ := hr1.own1 (by omega) y (by omega)
    have hlo := hr.lo
    refine ⟨H1, p, j1, u1, a1, u2.frame m1 fun j hj => k1 j (by omega) fun h => ?_, r1, by omega, fun j hj hne hni => ?_, fun j hj => ?_⟩
    · have := (hlo j h).1
      omega
    · rw [k1 j (by omega) hni, u4 j hne]
    · rcases g1 j hj with h | h
      · exact .inl h
      · exact .inr (by omega)
  -- the way on
  have L4 : ∀ (x : Str) (j : Nat), dst nx s x = j + 2 → ∀ (y : Str) (r : List Str) (i n : Nat) (H : List Entry) (i2 ds : List Nat) (c cy : Cell) (row out : List Str), (nx x).drop i = r → r.length < n → (r.find? fun y => dst nx s y == j + 1) = some y →
      WayM H0 H (dst nx s) row → (∀ z, 0 < dst nx s z → z ∈ row) → RM (H0.length + 1) H i2 [] c (.lst true 1 []) out [] → ListM H ds cy (nx x) → out.length ≤ 1048576 → ∀ (b : Cell → ByteArray → Cell → Cell → List Entry → Option Res) k m,
      ∃ c' H' j2, impl_graph_way_l4 k m b n (.ptr g 2 0 0 0) (bs x) (.mp H0.length 0) c cy (nx x).length i H = b (.ptr g 2 0 0 0) (bs y) (.mp H0.length 0) c' H' ∧ WayM H0 H' (dst nx s) row ∧ RM (H0.length + 1) H' j2 [] c' (.lst true 1 []) (out ++ [y]) [] := by
    intro x j hxj y r
    induction r with
    | nil =>
      intro i n H i2 ds c cy row out hd hn hf
      simp at hf
    | cons z r ih =>
      intro i n H i2 ds c cy row out hd hn hf hw hall hr hcy hol b k m
      obtain ⟨n, rfl⟩ : ∃ j, n = j + 1 := ⟨n - 1, by omega⟩
      obtain ⟨hlt, hx, hd'⟩ := drop_cons hd
      simp only [List.length_cons] at hn
      obtain ⟨a1, rw1, off, t1, t2, t3⟩ := hcy.at hx
      have hnlx := hnl x
      have get : ∀ z, mapAtC H (.mp H0.length 0) (bs z) = some ((dst nx s z : Nat) : Int) := fun z => by
        rw [hw.get z]
        by_cases hz : z ∈ row
        · rw [if_pos hz]
        · rw [if_neg hz]
          have : dst nx s z = 0 := by
            apply Classical.byContradiction
            intro h0
            exact hz (hall z (by omega))
          rw [this]
          rfl
      have hwr : IntKind.i64.wrap (((dst nx s x : Nat) : Int) - 1) = ((j + 1 : Nat) : Int) := by
        rw [hxj, wrap_small (by omega) (by have := hdb x; omega)]
        omega
      simp only [impl_graph_way_l4]
      rw [decide_eq_true (by omega), cond_true]
      simp only [t1, t2, t3, get, hwr, Option.bind_some]
      rw [List.find?_cons] at hf
      by_cases hz : dst nx s z = j + 1
      · rw [show (dst nx s z == j + 1) = true by simpa using hz] at hf
        simp only [Option.some.injEq] at hf
        subst hf
        have hlen := hw.len
        obtain ⟨p, j1, a1, r1, m1, k1, g1⟩ := hr.own1 (by omega) z (by omega)
        have hlo := hr.lo
        refine ⟨p.1, p.2, j1, ?_, hw.frame m1 fun q hq => k1 q (by omega) fun h => by have := (hlo q h).1; omega, r1⟩
        rw [decide_eq_true (by omega), cond_true, hz]
        rw [show (((j + 1 : Nat) : Int) == ((j + 1 : Nat) : Int)) = true by simp, cond_true]
        simp only [src_own, a1, Option.bind_some]
      · rw [show (dst nx s z == j + 1) = false by simpa using hz] at hf
        obtain ⟨c', H', j2, z1, z2, z3⟩ := ih (i + 1) n H i2 ds c cy row out hd' (by omega) hf hw hall hr hcy hol b k m
        refine ⟨c', H', j2, ?_, z2, z3⟩
        rw [wrap_succ (by omega)]
        by_cases h0 : dst nx s z = 0
        · rw [h0, decide_eq_false (by omega), cond_false]
          exact z1
        · rw [decide_eq_true (by omega), cond_true]
          rw [show (((dst nx s z : Nat) : Int) == ((j + 1 : Nat) : Int)) = false by rw [beq_eq_false_iff_ne]; omega, cond_false]
          exact z1
  have L3 : ∀ (j : Nat) (x : Str) (n : Nat) (H : List Entry) (i2 : List Nat) (c : Cell) (row out : List Str), dst nx s x = j + 1 → j < n → WayM H0 H (dst nx s) row → (∀ z, 0 < dst nx s z → z ∈ row) → RM (H0.length + 1) H i2 [] c (.lst true 1 []) out [] → out.length + j ≤ 1048576 →
      ∀ k m, 1073741824 < m → ∃ c' H' is, impl_graph_way_l3 k m n (.ptr g 2 0 0 0) (bs x) (.mp H0.length 0) c H = some ([.one c'], H') ∧ Rep H' true true 2 is c' (trL 1 trStr (out ++ wayL nx s j x)) ∧ is.Nodup := by
    intro j
    induction j with
    | zero =>
      intro x n H i2 c row out hx hn hw hall hr hol k m hm
      obtain ⟨n, rfl⟩ : ∃ j, n = j + 1 := ⟨n - 1, by omega⟩
      refine ⟨c, H, i2, ?_, by simpa [wayL] using hr.1, hr.2.2.2.2.1⟩
      simp only [impl_graph_way_l3, hw.get x, Option.bind_some]
      rw [if_pos (hall x (by omega)), hx, decide_eq_false (by omega), cond_false]
    | succ j ih =>
      intro x n H i2 c row out hx hn hw hall hr hol k m hm
      obtain ⟨n, rfl⟩ : ∃ j, n = j + 1 := ⟨n - 1, by omega⟩
      obtain ⟨d, o1, o2⟩ := gm_onOf (hGH hw) (by omega) x
      rw [hnx] at o2
      obtain ⟨y, f1, f2, f3⟩ := find_some hx
      have hnlx := hnl x
      obtain ⟨c', H', j2, z1, z2, z3⟩ := L4 x j hx y (nx x) 0 m H i2 ids c d row out rfl (by omega) f1 hw hall hr o2 (by omega) (impl_graph_way_l3 k m n) k m
      obtain ⟨c2, H2, is, y1, y2, y3⟩ := ih y n H' j2 c' row (out ++ [y]) f2 (by omega) z2 hall z3 (by simp; omega) k m hm
      refine ⟨c2, H2, is, ?_, ?_, y3⟩
      · simp only [impl_graph_way_l3, hw.get x, Option.bind_some]
        rw [if_pos (hall x (by omega)), hx, decide_eq_true (by omega), cond_true]
        simp only [o1, o2.len, callS_canon, callL_canon, Option.map_some, Option.bind_some, shape_one, shape_agg, shape_nil, cellsAt_0, cellsAt_1, cellsAt_2, cellsAt_3, cells_one, cells_agg, cB_zero, cI_zero, cS_zero, cC_zero, cB_cons, cI_cons, cS_cons, cC_cons, cond_true, cond_false, List.length_cons, List.length_nil, beq_self_eq_true, Bool.and_true, Bool.true_and, lenC_encL, lenC_lst, deref_ref, emptyK_nil, bs_size, bs_toList]
        rw [show (0 : Int) = ((0 : Nat) : Int) from rfl, z1]
        exact y1
      · simp only [wayL, f1]
        rw [List.append_cons]
        exact y2
  -- the search
  have L2 : ∀ (x : Str) (a : Nat) (ys : List Str), ys.length ≤ 1048576 → (∀ y ∈ ys, x ∈ nx y) → ∀ (r : List Str) (i n : Nat) (H : List Entry) (i1 ds : List Nat) (cr cy : Cell) (row : List Str), ys.drop i = r → r.length < n → WayM H0 H (dst nx s) row → RM (H0.length + 1) H i1 [] cr (.lst true 1 []) row [] →
      ListM H ds cy ys → (∀ j ∈ ds, j < H.length ∧ H0.length < j ∧ j ∉ i1) → Bf nx s row a → row[a]? = some x → ∀ (b : Cell → ByteArray → Cell → Cell → Int → List Entry → Option Res) k m,
      ∃ cr' H' j1 row', impl_graph_way_l2 k m b n (.ptr g 2 0 0 0) (bs s) (.mp H0.length 0) cr a cy ys.length i H = b (.ptr g 2 0 0 0) (bs s) (.mp H0.length 0) cr' (IntKind.i64.wrap ((a : Int) + 1)) H' ∧ WayM H0 H' (dst nx s) row' ∧
        RM (H0.length + 1) H' j1 [] cr' (.lst true 1 []) row' [] ∧ Bf nx s row' a ∧ row'[a]? = some x ∧ (∀ y ∈ row, y ∈ row') ∧ ∀ y ∈ r, y ∈ row' := by
    intro x a ys hys hyx r
    induction r with
    | nil =>
      intro i n H i1 ds cr cy row hd hn hw hr hcy hds hb hxa b k m
      obtain ⟨n, rfl⟩ : ∃ j, n = j + 1 := ⟨n - 1, by omega⟩
      have := drop_nil hd
      refine ⟨cr, H, i1, row, ?_, hw, hr, hb, hxa, fun _ h => h, by simp⟩
      simp only [impl_graph_way_l2]
      rw [decide_eq_false (by omega), cond_false]
    | cons y r ih =>
      intro i n H i1 ds cr cy row hd hn hw hr hcy hds hb hxa b k m
      obtain ⟨n, rfl⟩ : ∃ j, n = j + 1 := ⟨n - 1, by omega⟩
      obtain ⟨hlt, hx, hd'⟩ := drop_cons hd
      simp only [List.length_cons] at hn
      obtain ⟨a1, rw1, off, t1, t2, t3⟩ := hcy.at hx
      have hrl := hin hb.nd hb.pos
      have hxr := List.mem_of_getElem? hxa
      simp only [impl_graph_way_l2]
      rw [decide_eq_true (by omega), cond_true]
      simp only [t1, t2, t3, hw.get y, wrap_succ (show i < maxLen by omega), Option.bind_some]
      by_cases hyr : y ∈ row
      · have hp := hb.pos y hyr
        rw [if_pos hyr, show (((dst nx s y : Nat) : Int) == 0) = false by rw [beq_eq_false_iff_ne]; omega, cond_false]
        obtain ⟨cr', H', j1, row', z1, z2, z3, z4, z5, z6, z7⟩ := ih (i + 1) n H i1 ds cr cy row hd' (by omega) hw hr hcy hds hb hxa b k m
        refine ⟨cr', H', j1, row', z1, z2, z3, z4, z5, z6, fun q hq => ?_⟩
        rcases List.mem_cons.1 hq with rfl | hq
        · exact z6 _ hyr
        · exact z7 q hq
      · have hxy := hyx y (List.mem_of_getElem? hx)
        have hfar := hb.far hxa hxy hyr
        rw [if_neg hyr, show ((0 : Int) == 0) = true from rfl, cond_true]
        obtain ⟨a2, rw2, off2, s1, s2, s3⟩ := (ListM.of (n := 2) hr.1).at hxa
        have hwr : IntKind.i64.wrap (((dst nx s x : Nat) : Int) + 1) = ((dst nx s y : Nat) : Int) := by
          rw [hfar, wrap_succ (by have := hdb x; omega)]
        obtain ⟨H1, p, j1, u1, u2, u3, u4, u5, u6, u7⟩ := found hw hr hyr hrl
        simp only [s1, s2, s3, hw.get x, if_pos hxr, hwr, u1, src_own, u2, Option.bind_some]
        have hxa' : (row ++ [y])[a]? = some x := by rw [List.getElem?_append_left (List.getElem?_eq_some_iff.1 hxa).1]; exact hxa
        obtain ⟨cr', H', j2, row', z1, z2, z3, z4, z5, z6, z7⟩ := ih (i + 1) n p.2 j1 ds p.1 cy (row ++ [y]) hd' (by omega) u3 u4 (hcy.frame fun j hj => by
          obtain ⟨d1, d2, d3⟩ := hds j hj
          exact u6 j d1 (by omega) d3) (fun j hj => by
          obtain ⟨d1, d2, d3⟩ := hds j hj
          refine ⟨by omega, d2, fun h => ?_⟩
          rcases u7 j h with h | h
          · exact d3 h
          · omega) (hb.push hxa hxy hyr) hxa' b k m
        refine ⟨cr', H', j2, row', z1, z2, z3, z4, z5, fun q hq => z6 q (List.mem_append_left _ hq), fun q hq => ?_⟩
        rcases List.mem_cons.1 hq with rfl | hq
        · exact z6 _ (List.mem_append_right _ (by simp))
        · exact z7 q hq
  have L1 : ∀ (d i n : Nat) (H : List Entry) (i1 : List Nat) (cr : Cell) (row : List Str), names.length ≤ i + d → d < n → WayM H0 H (dst nx s) row → RM (H0.length + 1) H i1 [] cr (.lst true 1 []) row [] → Bf nx s row i → ∀ k m, 1073741824 < m →
      ∃ c H' is, impl_graph_way_l1 k m n (.ptr g 2 0 0 0) (bs s) (.mp H0.length 0) cr i H = some ([.one c], H') ∧ Rep H' true true 2 is c (trL 1 trStr (wayOf nx s)) ∧ is.Nodup := by
    intro d
    induction d with
    | zero =>
      intro i n H i1 cr row hd hn hw hr hb k m hm
      obtain ⟨n, rfl⟩ : ∃ j, n = j + 1 := ⟨n - 1, by omega⟩
      have hrn : row.length ≤ names.length := nodup_le hb.nd fun x hx => by
        have := hb.pos x hx
        obtain ⟨k, hk⟩ : ∃ k, dst nx s x = k + 1 := ⟨dst nx s x - 1, by omega⟩
        obtain ⟨⟨y, hy, _⟩, _⟩ := dst_get hk
        exact hnm x y hy
      have hlen := hw.len
      obtain ⟨j, hj⟩ : ∃ j, dst nx s s = j + 1 := ⟨dst nx s s - 1, by omega⟩
      have hjb := hdb s
      have hw' : WayM H0 (H ++ [Entry.mk 1 [[Cell.str (bs s)]] 0 false]) (dst nx s) row := hw.frame (by simp) fun q hq => List.getElem?_append_left (by omega)
      have hr' : RM (H0.length + 1) (H ++ [Entry.mk 1 [[Cell.str (bs s)]] 0 false]) [H.length] [] (.vs H.length 1 0 1 0) (.lst true 1 []) [s] [] := by
        refine ⟨.inr ⟨H.length, 0, 0, [[Cell.str (bs s)]], false, [], rfl, by simp [trL], by simp, fun _ => rfl, fun _ => ⟨rfl, by simp [trL]⟩, by simp [trL], by simp, ?_⟩, .inl ⟨rfl, rfl, true, rfl⟩, notLent_vs _ _ _ _ _, notLent_nil _, by simp, by simp, by simp, by simp; omega, by simp⟩
        exact strs_sp [s] _
      obtain ⟨c, H', is, z1, z2, z3⟩ := L3 j s m _ [H.length] _ row [s] hj (by omega) hw' (fun z hz => hb.all (by omega) hz) hr' (by simp; omega) k m hm
      refine ⟨c, H', is, ?_, by rw [wayOf, hj]; exact z2, z3⟩
      simp only [impl_graph_way_l1, (ListM.of (n := 2) hr.1).len, Option.bind_some]
      rw [decide_eq_false (by omega), cond_false]
      exact z1
    | succ d ih =>
      intro i n H i1 cr row hd hn hw hr hb k m hm
      obtain ⟨n, rfl⟩ : ∃ j, n = j + 1 := ⟨n - 1, by omega⟩
      by_cases hi : i < row.length
      · have hrl := hin hb.nd hb.pos
        have hx : row[i]? = some row[i] := List.getElem?_eq_getElem hi
        generalize row[i] = x at hx
        obtain ⟨a1, rw1, off, t1, t2, t3⟩ := (ListM.of (n := 2) hr.1).at hx
        obtain ⟨cy, T, e1, g1⟩ := gm_ahead (hGH hw) h1 h3 x
        rw [hnx] at g1
        have hahl : (ahOf names nx x).length ≤ 1048576 := Nat.le_trans (List.length_filter_le _ _) h1
        obtain ⟨ds, p1, p2, p3⟩ := g1.list
        have hlen := hw.len
        have hlo := hr.lo
        have hw' : WayM H0 (H ++ T) (dst nx s) row := hw.frame (by simp) fun q hq => List.getElem?_append_left (by omega)
        obtain ⟨cr', H', j1, row', z1, z2, z3, z4, z5, z6, z7⟩ := L2 x i (ahOf names nx x) hahl (fun y hy => (ahOf_mem hnm).1 hy) (ahOf names nx x) 0 m (H ++ T) i1 ds cr cy row rfl (by omega) hw' (hr.frame fun q hq => List.getElem?_append_left hq) (ListM.of (n := 2) p1) (fun j hj => by
          have h5 := p1.lt j hj
          have h6 := p3 j hj
          refine ⟨h5, by omega, fun h => ?_⟩
          have := (hlo j h).2
          omega) hb hx (impl_graph_way_l1 k m n) k m
        obtain ⟨c, H2, is, y1, y2, y3⟩ := ih (i + 1) n H' j1 cr' row' (by omega) (by omega) z2 z3 (z4.next z5 fun y hy => z7 y ((ahOf_mem hnm).2 hy)) k m hm
        refine ⟨c, H2, is, ?_, y2, y3⟩
        simp only [impl_graph_way_l1, (ListM.of (n := 2) hr.1).len, Option.bind_some]
        rw [decide_eq_true (by omega), cond_true]
        simp only [t1, t2, t3, e1, (ListM.of (n := 2) p1).len, callS_canon, callL_canon, Option.map_some, Option.bind_some, shape_one, shape_agg, shape_nil, cellsAt_0, cellsAt_1, cellsAt_2, cellsAt_3, cells_one, cells_agg, cB_zero, cI_zero, cS_zero, cC_zero, cB_cons, cI_cons, cS_cons, cC_cons, cond_true, cond_false, List.length_cons, List.length_nil, beq_self_eq_true, Bool.and_true, Bool.true_and, lenC_encL, lenC_lst, deref_ref, emptyK_nil, bs_size, bs_toList]
        rw [show (0 : Int) = ((0 : Nat) : Int) from rfl, z1, wrap_succ (by omega)]
        exact y1
      · have hlen := hw.len
        obtain ⟨j, hj⟩ : ∃ j, dst nx s s = j + 1 := ⟨dst nx s s - 1, by omega⟩
        have hjb := hdb s
        have hw' : WayM H0 (H ++ [Entry.mk 1 [[Cell.str (bs s)]] 0 false]) (dst nx s) row := hw.frame (by simp) fun q hq => List.getElem?_append_left (by omega)
        have hr' : RM (H0.length + 1) (H ++ [Entry.mk 1 [[Cell.str (bs s)]] 0 false]) [H.length] [] (.vs H.length 1 0 1 0) (.lst true 1 []) [s] [] := by
          refine ⟨.inr ⟨H.length, 0, 0, [[Cell.str (bs s)]], false, [], rfl, by simp [trL], by simp, fun _ => rfl, fun _ => ⟨rfl, by simp [trL]⟩, by simp [trL], by simp, ?_⟩, .inl ⟨rfl, rfl, true, rfl⟩, notLent_vs _ _ _ _ _, notLent_nil _, by simp, by simp, by simp, by simp; omega, by simp⟩
          exact strs_sp [s] _
        obtain ⟨c, H', is, z1, z2, z3⟩ := L3 j s m _ [H.length] _ row [s] hj (by omega) hw' (fun z hz => hb.all (by omega) hz) hr' (by simp; omega) k m hm
        refine ⟨c, H', is, ?_, by rw [wayOf, hj]; exact z2, z3⟩
        simp only [impl_graph_way_l1, (ListM.of (n := 2) hr.1).len, Option.bind_some]
        rw [decide_eq_false (by omega), cond_false]
        exact z1
  have L0 : ∀ (ys : List Str), ys.length ≤ 1048576 → (∀ y, s ∈ nx y → y ∈ ys) → (∀ y ∈ ys, s ∈ nx y) → ∀ (r : List Str) (i n : Nat) (H : List Entry) (i1 ds : List Nat) (cr cy : Cell) (row : List Str), ys.drop i = r → r.length < n → WayM H0 H (dst nx s) row → RM (H0.length + 1) H i1 [] cr (.lst true 1 []) row [] →
      ListM H ds cy ys → (∀ j ∈ ds, j < H.length ∧ H0.length < j ∧ j ∉ i1) → row.Nodup → (∀ x ∈ row, dst nx s x = 1) → (∀ y ∈ ys, y ∈ row ∨ y ∈ r) → ∀ k m, 1073741824 < m →
      ∃ c H' is, impl_graph_way_l0 k m n (.ptr g 2 0 0 0) (bs s) (.mp H0.length 0) cr cy ys.length i H = some ([.one c], H') ∧ Rep H' true true 2 is c (trL 1 trStr (wayOf nx s)) ∧ is.Nodup := by
    intro ys hys hys1 hys2 r
    induction r with
    | nil =>
      intro i n H i1 ds cr cy row hd hn hw hr hcy hds hnd hone hin2 k m hm
      obtain ⟨n, rfl⟩ : ∃ j, n = j + 1 := ⟨n - 1, by omega⟩
      have := drop_nil hd
      obtain ⟨c, H', is, z1, z2⟩ := L1 names.length 0 m H i1 cr row (by omega) (by omega) hw hr (Bf.start hnd hone fun x hx => by
        rcases hin2 x (hys1 x hx) with h | h
        · exact h
        · simp at h) k m hm
      refine ⟨c, H', is, ?_, z2⟩
      simp only [impl_graph_way_l0]
      rw [decide_eq_false (by omega), cond_false]
      exact z1
    | cons y r ih =>
      intro i n H i1 ds cr cy row hd hn hw hr hcy hds hnd hone hin2 k m hm
      obtain ⟨n, rfl⟩ : ∃ j, n = j + 1 := ⟨n - 1, by omega⟩
      obtain ⟨hlt, hx, hd'⟩ := drop_cons hd
      simp only [List.length_cons] at hn
      obtain ⟨a1, rw1, off, t1, t2, t3⟩ := hcy.at hx
      have hrl := hin hnd fun x hx => by rw [hone x hx]; omega
      simp only [impl_graph_way_l0]
      rw [decide_eq_true (by omega), cond_true]
      simp only [t1, t2, t3, hw.get y, wrap_succ (show i < maxLen by omega), Option.bind_some]
      by_cases hyr : y ∈ row
      · rw [if_pos hyr, hone y hyr, show (((1 : Nat) : Int) == 0) = false from rfl, cond_false]
        exact ih (i + 1) n H i1 ds cr cy row hd' (by omega) hw hr hcy hds hnd hone (fun q hq => by
          rcases hin2 q hq with h | h
          · exact .inl h
          · rcases List.mem_cons.1 h with rfl | h
            · exact .inl hyr
            · exact .inr h) k m hm
      · have hd1 : dst nx s y = 1 := dst_one.2 (hys2 y (List.mem_of_getElem? hx))
        rw [if_neg hyr, show ((0 : Int) == 0) = true from rfl, cond_true]
        obtain ⟨H1, p, j1, u1, u2, u3, u4, u5, u6, u7⟩ := found hw hr hyr hrl
        rw [hd1] at u1
        simp only [show ((1 : Nat) : Int) = 1 from rfl] at u1
        simp only [u1, src_own, u2, Option.bind_some]
        refine ih (i + 1) n p.2 j1 ds p.1 cy (row ++ [y]) hd' (by omega) u3 u4 (hcy.frame fun j hj => by
          obtain ⟨d1, d2, d3⟩ := hds j hj
          exact u6 j d1 (by omega) d3) (fun j hj => by
          obtain ⟨d1, d2, d3⟩ := hds j hj
          refine ⟨by omega, d2, fun h => ?_⟩
          rcases u7 j h with h | h
          · exact d3 h
          · omega) ?_ (fun x hx => ?_) (fun q hq => ?_) k m hm
        · rw [List.nodup_append]
          refine ⟨hnd, by simp, fun a ha b hb e => ?_⟩
          simp only [List.mem_singleton] at hb
          rw [e, hb] at ha
          exact hyr ha
        · rcases List.mem_append.1 hx with h | h
          · exact hone x h
          · simp only [List.mem_singleton] at h
            rw [h]
            exact hd1
        · rcases hin2 q hq with h | h
          · exact .inl (List.mem_append_left _ h)
          · rcases List.mem_cons.1 h with rfl | h
            · exact .inl (List.mem_append_right _ (by simp))
            · exact .inr h
  -- the whole
  have hw0 : WayM H0 (H0 ++ [Entry.mk 2 [] 0 false] ++ [Entry.mk 1 [] 0 false]) (dst nx s) [] := ⟨by simp, fun j hj => by rw [List.getElem?_append_left (by simp; omega), List.getElem?_append_left hj], by simp [mapRows]⟩
  have hr0 : RM (H0.length + 1) (H0 ++ [Entry.mk 2 [] 0 false] ++ [Entry.mk 1 [] 0 false]) [H0.length + 1] [] (.vs (H0.length + 1) 1 0 0 0) (.lst true 1 []) [] [] :=
    ⟨.inr ⟨H0.length + 1, 0, 0, [], false, [], rfl, by simp [trL], by simp, fun _ => rfl, fun _ => ⟨rfl, by simp [trL]⟩, by simp [trL], by simp, .nil⟩, .inl ⟨rfl, rfl, true, rfl⟩, notLent_vs _ _ _ _ _, notLent_nil _, by simp, by simp, by simp, by simp, by simp⟩
  obtain ⟨cy, T, e1, g1⟩ := gm_ahead (hGH hw0) h1 h3 s
  rw [hnx] at g1
  have hahl : (ahOf names nx s).length ≤ 1048576 := Nat.le_trans (List.length_filter_le _ _) h1
  obtain ⟨ds, p1, p2, p3⟩ := g1.list
  have hw1 : WayM H0 (H0 ++ [Entry.mk 2 [] 0 false] ++ [Entry.mk 1 [] 0 false] ++ T) (dst nx s) [] := hw0.frame (by simp) fun q hq => List.getElem?_append_left (by simp; omega)
  obtain ⟨c, H', is, z1, z2⟩ := L0 (ahOf names nx s) hahl (fun y hy => (ahOf_mem hnm).2 hy) (fun y hy => (ahOf_mem hnm).1 hy) (ahOf names nx s) 0 (1073741824 + 1 + 1) (H0 ++ [Entry.mk 2 [] 0 false] ++ [Entry.mk 1 [] 0 false] ++ T) [H0.length + 1] ds (.vs (H0.length + 1) 1 0 0 0) cy [] rfl (by omega) hw1 (hr0.frame fun q hq => List.getElem?_append_left hq) (ListM.of (n := 2) p1) (fun j hj => by
    have h5 := p1.lt j hj
    have h6 := p3 j hj
    simp only [List.length_append, List.length_singleton] at h6
    exact ⟨h5, by omega, by simp; omega⟩) (by simp) (by simp) (fun q hq => .inr hq) (1073741824 + 1 + 1) (1073741824 + 1 + 1) (by omega)
  refine ⟨c, H', is, run_impl_graph_way_of (1073741824 + 1) ?_, z2⟩
  have hl2 : (H0 ++ [Entry.mk 2 [] 0 false]).length = H0.length + 1 := by simp
  simp only [impl_graph_way, e1, hl2, (ListM.of (n := 2) p1).len, callS_canon, callL_canon, Option.map_some, Option.bind_some, shape_one, shape_agg, shape_nil, cellsAt_0, cellsAt_1, cellsAt_2, cellsAt_3, cells_one, cells_agg, cB_zero, cI_zero, cS_zero, cC_zero, cB_cons, cI_cons, cS_cons, cC_cons, cond_true, cond_false, List.length_cons, List.length_nil, beq_self_eq_true, Bool.and_true, Bool.true_and, lenC_encL, lenC_lst, deref_ref, emptyK_nil, bs_size, bs_toList]
  exact z1
theorem reachS_has {nx : Str → List Str} {U : List Str} (hm : ∀ x, ∀ y ∈ nx x, y ∈ U) (s t : Str) : (reachS nx s).contains t = decide (0 < dst nx t s) := by
  obtain ⟨o, ho⟩ := reach_fin (s := s) hm
  rw [reachS_eq ho]
  have : t ∈ sortedU o ↔ 0 < dst nx t s := ((sortedU_spec o).2 t).trans ((ho t).trans reach_dst)
  by_cases h : 0 < dst nx t s
  · rw [decide_eq_true h]
    exact List.contains_iff_mem.2 (this.2 h)
  · rw [decide_eq_false h]
    cases hc : (sortedU o).contains t with
    | false => rfl
    | true => exact absurd (this.1 (List.contains_iff_mem.1 hc)) h
theorem gm_ring {H0 : List Entry} {ids : List Nat} {g : Nat} {names : List Str} {next : List (List Str)} (hG : GraphM H0 ids g names next) (h1 : names.length ≤ 1048576) (h3 : ∀ d ∈ next, d.length ≤ 1048576)
    (U : List Str) (hU : U.length ≤ 1048576) (hm : ∀ x, ∀ y ∈ nextOf names next x, y ∈ U) (hnm : ∀ x y, y ∈ nextOf names next x → x ∈ names) :
    ∃ c H' is, run_impl_graph_ring [.one (.ptr g 2 0 0 0)] H0 = some ([.one c], H') ∧ Rep H' true true 2 is c (trL 1 trStr (ringOf names (nextOf names next))) ∧ is.Nodup := by
  have hM := maxLen_eq
  have h3' : ∀ d ∈ next, d.length ≤ 1073741824 := fun d hd => Nat.le_trans (h3 d hd) (by omega)
  have hnl : ∀ x, (nextOf names next x).length ≤ 1048576 := fun x => by
    unfold nextOf
    split
    · simp
    · cases hd : next[(idxS x names 0).toNat]? with
      | none => simp
      | some d => exact h3 d (List.mem_of_getElem? hd)
  obtain ⟨_, hlt, hlen, cn, co, fr, he, hn, ho⟩ := id hG
  have d0 : deref H0 (.ptr g 2 0 0 0) = some ([cn, co], 0) := by simp [deref, entry?, he]
  have loop : ∀ (r : List Str) (i n : Nat) (H : List Entry), names.drop i = r → r.length < n → H0.length ≤ H.length → (∀ j, j < H0.length → H[j]? = H0[j]?) → ∀ k m,
      ∃ c H' is, impl_graph_ring_l0 k m n (.ptr g 2 0 0 0) cn names.length i H = some ([.one c], H') ∧ Rep H' true true 2 is c (trL 1 trStr (match r.find? fun x => decide (0 < dst (nextOf names next) x x) with
        | some x => wayOf (nextOf names next) x
        | none => [])) ∧ is.Nodup := by
    intro r
    induction r with
    | nil =>
      intro i n H hd hn' hl h0 k m
      obtain ⟨n, rfl⟩ : ∃ j, n = j + 1 := ⟨n - 1, by omega⟩
      have := drop_nil hd
      refine ⟨.lst true 1 [], H, [], ?_, .inl ⟨rfl, rfl, true, rfl⟩, by simp⟩
      simp only [impl_graph_ring_l0]
      rw [decide_eq_false (by omega), cond_false]
    | cons x r ih =>
      intro i n H hd hn' hl h0 k m
      obtain ⟨n, rfl⟩ : ∃ j, n = j + 1 := ⟨n - 1, by omega⟩
      obtain ⟨hlt', hx, hd'⟩ := drop_cons hd
      simp only [List.length_cons] at hn'
      have hGH : GraphM H ids g names next := hG.app (fun j hj => h0 j (hG.lt j hj)) hl
      obtain ⟨a1, rw1, off, t1, t2, t3⟩ := (hn.frame fun j hj => h0 j (hlt j hj)).at hx
      obtain ⟨c, H1, is, e1, r1, r2, r3, r4⟩ := gm_impl_deep_impl_graph_onOf hGH (nextOf names next) U hU hm hnl (fun H1 x hG1 => by
        obtain ⟨d, q1, q2⟩ := gm_onOf hG1 (by omega) x
        exact ⟨d, H1, ids, q1, q2, Nat.le_refl _, fun _ _ => rfl, fun j hj => ⟨hG1.lt j hj, .inl (hGH.lt j hj)⟩⟩) x
      have hrl : (reachS (nextOf names next) x).length ≤ 1048576 := Nat.le_trans (reachS_bd (s := x) hm).1 hU
      have q1 : callS run_slices_Contains_string [.one c, .one (Cell.str (bs x))] H1 = some [.one (Cell.bool (decide (0 < dst (nextOf names next) x x)))] := by
        rw [callS_of (mapO_c (ListM.of (n := 2) r1).read (mapO_c (reifyAV_canon _ _ _) (mapO_nil' _))), ← reachS_has hm]
        exact c_slices_Contains_string _ x (by omega)
      have h01 : ∀ j, j < H0.length → H1[j]? = H0[j]? := fun j hj => (r4 j (by omega)).trans (h0 j hj)
      simp only [impl_graph_ring_l0]
      rw [decide_eq_true (by omega), cond_true]
      simp only [t1, t2, t3, e1, q1, wrap_succ (show i < maxLen by omega), callS_canon, callL_canon, Option.map_some, Option.bind_some, shape_one, shape_agg, shape_nil, cellsAt_0, cellsAt_1, cellsAt_2, cellsAt_3, cells_one, cells_agg, cB_zero, cI_zero, cS_zero, cC_zero, cB_cons, cI_cons, cS_cons, cC_cons, cond_true, cond_false, List.length_cons, List.length_nil, beq_self_eq_true, Bool.and_true, Bool.true_and, lenC_encL, lenC_lst, deref_ref, emptyK_nil, bs_size, bs_toList, List.find?_cons]
      by_cases hp : 0 < dst (nextOf names next) x x
      · rw [decide_eq_true hp, cond_true]
        obtain ⟨c2, H2, is2, y1, y2, y3⟩ := gm_way (hG.app (fun j hj => h01 j (hG.lt j hj)) (by omega)) h1 h3' hnm x hp
        refine ⟨c2, H2, is2, ?_, y2, y3⟩
        simp only [y1, callS_canon, callL_canon, Option.map_some, Option.bind_some, shape_one, shape_agg, shape_nil, cellsAt_0, cellsAt_1, cellsAt_2, cellsAt_3, cells_one, cells_agg, cB_zero, cI_zero, cS_zero, cC_zero, cB_cons, cI_cons, cS_cons, cC_cons, cond_true, cond_false, List.length_cons, List.length_nil, beq_self_eq_true, Bool.and_true, Bool.true_and, lenC_encL, lenC_lst, deref_ref, emptyK_nil, bs_size, bs_toList]
      · rw [decide_eq_false hp, cond_false]
        exact ih (i + 1) n H1 hd' (by omega) (by omega) h01 k m
  obtain ⟨c, H', is, z1, z2⟩ := loop names 0 (names.length + 1 + 1) H0 rfl (by omega) (Nat.le_refl _) (fun _ _ => rfl) (names.length + 1 + 1) (names.length + 1 + 1)
  refine ⟨c, H', is, run_impl_graph_ring_of (names.length + 1) ?_, z2⟩
  simp only [impl_graph_ring, ptrC, fldA_ptr, d0, cC_zero, hn.len, Option.bind_some]
  exact z1
theorem idxS_at (s : Str) : ∀ (l : List Str) (i j : Nat), idxS s l i = ((i + j : Nat) : Int) → l[j]? = some s
  | [], i, j, h => by
    simp only [idxS] at h
    omega
  | b :: r, i, j, h => by
    unfold idxS at h
    split at h
    · rename_i e
      obtain rfl : j = 0 := by omega
      simp [e]
    · cases j with
      | zero => rcases idxS_nat s r (i + 1) with ⟨e, _⟩ | ⟨j, x, e, _⟩ <;> omega
      | succ j =>
        have := idxS_at s r (i + 1) j (by rw [h]; congr 1; omega)
        simpa using this
/-- The names that lead to one of these, by the rows that count. -/
def backGo (names l : List Str) : List (Str × List Str) → Nat → List Str
  | [], _ => []
  | x :: r, i => (if idxS x.1 names 0 = (i : Int) ∧ x.2.any l.contains = true then [x.1] else []) ++ backGo names l r (i + 1)
def backL (names : List Str) (next : List (List Str)) (l : List Str) : List Str := backGo names l (names.zip next) 0
theorem backGo_len (names l : List Str) : ∀ (r : List (Str × List Str)) (i : Nat), (backGo names l r i).length ≤ r.length
  | [], _ => by simp [backGo]
  | x :: r, i => by
    have := backGo_len names l r (i + 1)
    simp only [backGo, List.length_append, List.length_cons]
    split <;> simp <;> omega
theorem backGo_mem {names : List Str} {next : List (List Str)} {l : List Str} {x : Str} : ∀ (r : List (Str × List Str)) (i : Nat), (names.zip next).drop i = r →
    (x ∈ backGo names l r i ↔ ∃ j : Nat, i ≤ j ∧ idxS x names 0 = (j : Int) ∧ ∃ d, next[j]? = some d ∧ ∃ y, y ∈ d ∧ y ∈ l) := by
  intro r
  induction r with
  | nil =>
    intro i hd
    have := drop_nil hd
    simp only [List.length_zip] at this
    refine ⟨fun h => by simp [backGo] at h, fun ⟨j, h1, h2, d, h3, _⟩ => ?_⟩
    have a := (List.getElem?_eq_some_iff.1 (idxS_at x names 0 j (by rw [h2]; congr 1; omega))).1
    have b := (List.getElem?_eq_some_iff.1 h3).1
    omega
  | cons p r ih =>
    intro i hd
    obtain ⟨hlt, hx, hd'⟩ := drop_cons hd
    obtain ⟨a, d⟩ := p
    obtain ⟨hxn, hxd⟩ : names[i]? = some a ∧ next[i]? = some d := by
      rw [List.getElem?_zip_eq_some] at hx
      exact hx
    simp only [backGo, List.mem_append]
    rw [ih (i + 1) hd']
    constructor
    · rintro (h | ⟨j, h1, h2⟩)
      · split at h
        · rename_i hc
          simp only [List.mem_singleton] at h
          subst h
          obtain ⟨y, hy, hyl⟩ := List.any_eq_true.1 hc.2
          exact ⟨i, Nat.le_refl _, hc.1, d, hxd, y, hy, List.contains_iff_mem.1 hyl⟩
        · simp at h
      · exact ⟨j, by omega, h2⟩
    · rintro ⟨j, h1, h2, d', h3, y, hy, hyl⟩
      by_cases e : j = i
      · subst e
        left
        have hh := idxS_at x names 0 j (by rw [h2]; congr 1; omega)
        rw [hxn] at hh
        rw [hxd] at h3
        simp only [Option.some.injEq] at hh h3
        subst hh
        subst h3
        rw [if_pos ⟨h2, List.any_eq_true.2 ⟨y, hy, List.contains_iff_mem.2 hyl⟩⟩]
        simp
      · exact .inr ⟨j, by omega, h2, d', h3, y, hy, hyl⟩
theorem backL_mem {names : List Str} {next : List (List Str)} {l : List Str} {x : Str} : x ∈ backL names next l ↔ ∃ y, y ∈ nextOf names next x ∧ y ∈ l := by
  unfold backL
  rw [backGo_mem (next := next) (names.zip next) 0 (by simp)]
  constructor
  · rintro ⟨j, _, h2, d, h3, y, hy, hyl⟩
    refine ⟨y, ?_, hyl⟩
    rw [nextOf, h2, if_neg (by omega)]
    simpa [h3] using hy
  · rintro ⟨y, hy, hyl⟩
    unfold nextOf at hy
    split at hy
    · simp at hy
    · rename_i hn
      obtain ⟨j, hj⟩ : ∃ j : Nat, idxS x names 0 = (j : Int) := ⟨(idxS x names 0).toNat, by omega⟩
      rw [hj, Int.toNat_natCast] at hy
      cases hd : next[j]? with
      | none => rw [hd] at hy; simp at hy
      | some d =>
        rw [hd] at hy
        exact ⟨j, by omega, hj, d, hd, y, hy, hyl⟩
theorem c_spec_l11Back (names : List Str) (next : List (List Str)) (l : List Str) (h1 : names.length ≤ 1048576) (h2 : names.length = next.length) (h3 : ∀ d ∈ next, d.length ≤ 1073741824) (hl : l.length ≤ 1073741824) :
    outL run_spec_l11Back [.agg [strsC names, encL 1 eStrs next], .one (strsC l)] = some [.one (strsC (backL names next l))] := by
  have hM := maxLen_eq
  have L1 : ∀ (i : Nat) (x : Str) (d : List Str), names[i]? = some x → next[i]? = some d → ∀ (r : List Str) (q n : Nat) (acc : List Str) (c : Cell) (H : List Entry), d.drop q = r → r.length < n → acc.length ≤ i → Grow 1 c H (acc.map eStr) → ∀ (b : Cell → Cell → Int → Cell → Cell → List Entry → Option Res) k m,
      ∃ c' H', spec_l11Back_l1 k m b n (strsC l) c i q (strsC names) (encL 1 eStrs next) H = b (strsC l) c' ((i + 1 : Nat) : Int) (strsC names) (encL 1 eStrs next) H' ∧ Grow 1 c' H' ((acc ++ if idxS x names 0 = (i : Int) ∧ r.any l.contains = true then [x] else []).map eStr) := by
    intro i x d hx hd r
    have hil := (List.getElem?_eq_some_iff.1 hx).1
    have hdl := h3 d (List.mem_of_getElem? hd)
    have q2 : out run_spec_l11At [.agg [strsC names, encL 1 eStrs next], .one (Cell.str (bs x))] = some [.one (Cell.int (idxS x names 0))] := c_spec_l11At names _ x (by omega)
    induction r with
    | nil =>
      intro q n acc c H hdr hn ha hg b k m
      obtain ⟨n, rfl⟩ : ∃ j, n = j + 1 := ⟨n - 1, by omega⟩
      have := drop_nil hdr
      refine ⟨c, H, ?_, by simpa using hg⟩
      simp only [spec_l11Back_l1, idxA_encL, hd, eStrs, callS_canon, callL_canon, Option.map_some, Option.bind_some, shape_one, shape_agg, shape_nil, cellsAt_0, cellsAt_1, cellsAt_2, cellsAt_3, cells_one, cells_agg, cB_zero, cI_zero, cS_zero, cC_zero, cB_cons, cI_cons, cS_cons, cC_cons, cond_true, cond_false, List.length_cons, List.length_nil, beq_self_eq_true, Bool.and_true, Bool.true_and, lenC_encL, lenC_lst, deref_ref, emptyK_nil, bs_size, bs_toList]
      rw [decide_eq_false (by omega), cond_false, wrap_succ (by omega)]
    | cons y r ih =>
      intro q n acc c H hdr hn ha hg b k m
      obtain ⟨n, rfl⟩ : ∃ j, n = j + 1 := ⟨n - 1, by omega⟩
      obtain ⟨hlt, hy, hdr'⟩ := drop_cons hdr
      simp only [List.length_cons] at hn
      have q1 : out run_spec_l1Has [.one (strsC l), .one (Cell.str (bs y))] = some [.one (Cell.bool (l.contains y))] := c_spec_l1Has l y hl
      simp only [spec_l11Back_l1, idxA_encL, hd, hx, eStrs, callS_canon, callL_canon, Option.map_some, Option.bind_some, shape_one, shape_agg, shape_nil, cellsAt_0, cellsAt_1, cellsAt_2, cellsAt_3, cells_one, cells_agg, cB_zero, cI_zero, cS_zero, cC_zero, cB_cons, cI_cons, cS_cons, cC_cons, cond_true, cond_false, List.length_cons, List.length_nil, beq_self_eq_true, Bool.and_true, Bool.true_and, lenC_encL, lenC_lst, deref_ref, emptyK_nil, bs_size, bs_toList]
      rw [decide_eq_true (by omega), cond_true]
      simp only [eStr, q2, callS_canon, callL_canon, Option.map_some, Option.bind_some, shape_one, shape_agg, shape_nil, cellsAt_0, cellsAt_1, cellsAt_2, cellsAt_3, cells_one, cells_agg, cB_zero, cI_zero, cS_zero, cC_zero, cB_cons, cI_cons, cS_cons, cC_cons, cond_true, cond_false, List.length_cons, List.length_nil, beq_self_eq_true, Bool.and_true, Bool.true_and, lenC_encL, lenC_lst, deref_ref, emptyK_nil, bs_size, bs_toList]
      by_cases hi : idxS x names 0 = (i : Int)
      · rw [hi]
        simp only [hy, eStr, q1, callS_canon, callL_canon, Option.map_some, Option.bind_some, shape_one, shape_agg, shape_nil, cellsAt_0, cellsAt_1, cellsAt_2, cellsAt_3, cells_one, cells_agg, cB_zero, cI_zero, cS_zero, cC_zero, cB_cons, cI_cons, cS_cons, cC_cons, cond_true, cond_false, List.length_cons, List.length_nil, beq_self_eq_true, Bool.and_true, Bool.true_and, lenC_encL, lenC_lst, deref_ref, emptyK_nil, bs_size, bs_toList]
        cases hc : l.contains y with
        | true =>
          obtain ⟨p, e1, e2⟩ := hg.app (by' := 16) [[Cell.str (bs x)]] (by unfold bound; simp; omega) (by unfold bound; simp; omega)
          refine ⟨p.1, p.2, ?_, ?_⟩
          · simp only [cond_true, e1, Option.bind_some]
            rw [wrap_succ (by omega)]
          · rw [if_pos ⟨trivial, List.any_eq_true.2 ⟨y, by simp, hc⟩⟩]
            simpa [eStr] using e2
        | false =>
          obtain ⟨c', H', z1, z2⟩ := ih (q + 1) n acc c H hdr' (by omega) ha hg b k m
          refine ⟨c', H', ?_, ?_⟩
          · simp only [cond_false]
            rw [wrap_succ (by omega)]
            exact z1
          · have e : (y :: r).any l.contains = r.any l.contains := by rw [List.any_cons, hc, Bool.false_or]
            rw [e]
            simp only [hi] at z2
            exact z2
      · refine ⟨c, H, ?_, ?_⟩
        · rw [show (idxS x names 0 == (i : Int)) = false by rw [beq_eq_false_iff_ne]; exact hi, cond_false, wrap_succ (by omega)]
        · rw [if_neg fun h => hi h.1]
          simpa using hg
  have L0 : ∀ (r : List (Str × List Str)) (i n : Nat) (acc : List Str) (c : Cell) (H : List Entry), (names.zip next).drop i = r → r.length < n → acc.length ≤ i → Grow 1 c H (acc.map eStr) → ∀ k m, 1073741824 < m →
      ∃ c' H', spec_l11Back_l0 k m n (strsC l) c i (strsC names) (encL 1 eStrs next) H = some ([.one c'], H') ∧ Grow 1 c' H' ((acc ++ backGo names l r i).map eStr) := by
    intro r
    induction r with
    | nil =>
      intro i n acc c H hd hn ha hg k m hm
      obtain ⟨n, rfl⟩ : ∃ j, n = j + 1 := ⟨n - 1, by omega⟩
      have := drop_nil hd
      simp only [List.length_zip] at this
      refine ⟨c, H, ?_, by simpa [backGo] using hg⟩
      simp only [spec_l11Back_l0, callS_canon, callL_canon, Option.map_some, Option.bind_some, shape_one, shape_agg, shape_nil, cellsAt_0, cellsAt_1, cellsAt_2, cellsAt_3, cells_one, cells_agg, cB_zero, cI_zero, cS_zero, cC_zero, cB_cons, cI_cons, cS_cons, cC_cons, cond_true, cond_false, List.length_cons, List.length_nil, beq_self_eq_true, Bool.and_true, Bool.true_and, lenC_encL, lenC_lst, deref_ref, emptyK_nil, bs_size, bs_toList]
      rw [decide_eq_false (by omega), cond_false]
    | cons p r ih =>
      intro i n acc c H hd hn ha hg k m hm
      obtain ⟨n, rfl⟩ : ∃ j, n = j + 1 := ⟨n - 1, by omega⟩
      obtain ⟨hlt, hx, hd'⟩ := drop_cons hd
      simp only [List.length_cons] at hn
      simp only [List.length_zip] at hlt
      obtain ⟨a, d⟩ := p
      obtain ⟨hxn, hxd⟩ : names[i]? = some a ∧ next[i]? = some d := by
        rw [List.getElem?_zip_eq_some] at hx
        exact hx
      have hdl := h3 d (List.mem_of_getElem? hxd)
      obtain ⟨c', H', z1, z2⟩ := L1 i a d hxn hxd d 0 m acc c H rfl (by omega) ha hg (spec_l11Back_l0 k m n) k m
      obtain ⟨c2, H2, y1, y2⟩ := ih (i + 1) n _ c' H' hd' (by omega) (by
        rw [List.length_append]
        split <;> simp <;> omega) z2 k m hm
      refine ⟨c2, H2, ?_, by simp only [backGo]; rw [← List.append_assoc]; exact y2⟩
      simp only [spec_l11Back_l0, callS_canon, callL_canon, Option.map_some, Option.bind_some, shape_one, shape_agg, shape_nil, cellsAt_0, cellsAt_1, cellsAt_2, cellsAt_3, cells_one, cells_agg, cB_zero, cI_zero, cS_zero, cC_zero, cB_cons, cI_cons, cS_cons, cC_cons, cond_true, cond_false, List.length_cons, List.length_nil, beq_self_eq_true, Bool.and_true, Bool.true_and, lenC_encL, lenC_lst, deref_ref, emptyK_nil, bs_size, bs_toList]
      rw [decide_eq_true (by omega), cond_true, show (0 : Int) = ((0 : Nat) : Int) from rfl, z1]
      exact y1
  obtain ⟨c, H, z1, z2⟩ := L0 (names.zip next) 0 (1073741824 + 1 + 1) [] (.lst true 1 []) [] rfl (by simp; omega) (by simp) (Grow.nil 1) (1073741824 + 1 + 1) (1073741824 + 1 + 1) (by omega)
  exact outL_of (H := H) (run_spec_l11Back_of (1073741824 + 1) z1) (Grow.read (e := eStr) z2)
/-- A list that is a literal still, or lies in one entry from N on. -/
def VecM (N : Nat) (H : List Entry) (c : Cell) (rows : List (List Cell)) : Prop := c = .lst true 1 rows ∨ ∃ id ep, N ≤ id ∧ c = .vs id 1 0 rows.length ep ∧ H[id]? = some (Entry.mk 1 rows ep false)
theorem VecM.len {N : Nat} {H : List Entry} {c : Cell} {rows : List (List Cell)} (h : VecM N H c rows) : lenC c = some rows.length := by
  rcases h with rfl | ⟨id, ep, _, rfl, _⟩ <;> simp
theorem VecM.at {N : Nat} {H : List Entry} {c : Cell} {rows : List (List Cell)} (h : VecM N H c rows) {i : Nat} {row : List Cell} (hr : rows[i]? = some row) : ∃ a, idxA 1 c (i : Int) = some a ∧ deref H a = some (row, 0) := by
  have hlt := (List.getElem?_eq_some_iff.1 hr).1
  rcases h with rfl | ⟨id, ep, _, rfl, he⟩
  · exact ⟨.ref row 0, by rw [idxA_lst, hr]; rfl, rfl⟩
  · refine ⟨.ptr id 1 i 0 ep, idxA_vs _ _ _ _ _ hlt, ?_⟩
    simp [deref, entry?, he, hr]
theorem VecM.app {N by' : Nat} {H : List Entry} {c : Cell} {rows : List (List Cell)} (h : VecM N H c rows) (hN : N ≤ H.length) (row : List Cell) (h1 : (rows.length + 1) * by' ≤ bound) (h2 : rows.length + 1 ≤ bound) :
    ∃ p, Ev.app H 1 by' c [row] = some p ∧ VecM N p.2 p.1 (rows ++ [row]) ∧ H.length ≤ p.2.length ∧ ∀ j, j < N → p.2[j]? = H[j]? := by
  rcases h with rfl | ⟨id, ep, hid, rfl, he⟩
  · refine ⟨(.vs H.length 1 0 (rows.length + 1) 0, H ++ [⟨1, rows ++ [row], 0, false⟩]), ?_, .inr ⟨H.length, 0, hN, by simp, by simp⟩, by simp, fun j hj => List.getElem?_append_left (by omega)⟩
    simp only [Ev.app, List.isEmpty_cons, List.length_singleton]
    rw [if_neg (by simp), if_pos ⟨trivial, .inl trivial, h1, h2⟩]
  · have hlt := (List.getElem?_eq_some_iff.1 he).1
    refine ⟨(.vs id 1 0 (rows.length + 1) (ep + 1), H.set id ⟨1, rows ++ [row], ep + 1, false⟩), ?_, .inr ⟨id, ep + 1, hid, by simp, by simp [hlt]⟩, by simp, fun j hj => List.getElem?_set_ne (by omega)⟩
    simp only [Ev.app, entry?, he, if_true, List.length_singleton, Nat.zero_add]
    rw [if_pos ⟨trivial, Nat.le_refl _, .inl trivial, h1, h2⟩]
    simp
theorem VecM.keep {N M : Nat} {H H' : List Entry} {c : Cell} {rows : List (List Cell)} (h : VecM N H c rows) (k : ∀ j, j < H.length → H'[j]? = H[j]?) (hM : M ≤ N) : VecM M H' c rows := by
  rcases h with h | ⟨id, ep, hid, h1, he⟩
  · exact .inl h
  · exact .inr ⟨id, ep, by omega, h1, by rw [k id (List.getElem?_eq_some_iff.1 he).1]; exact he⟩
theorem VecM.list {N : Nat} {H : List Entry} {c : Cell} {xs : List Str} (h : VecM N H c (xs.map eStr)) : ∃ ids, ListM H ids c xs := by
  rcases h with rfl | ⟨id, ep, hid, rfl, he⟩
  · exact ⟨[], .inl ⟨true, rfl⟩⟩
  · refine ⟨[id], .inr ⟨[id], .inr ⟨id, 0, ep, xs.map eStr, false, [], by simp, rfl, he, fun _ => rfl, fun _ => ⟨rfl, by simp⟩, by simp, by simp [eStr], ?_⟩, fun j h => h⟩⟩
    have := strs_sp xs H
    rw [List.drop_zero, List.length_map, List.take_of_length_le (by simp)]
    exact this.mono fun _ _ _ _ h => h.mono fun _ _ _ _ h => h.weak (fun h => by simp at h) fun h => by simp at h
theorem reify_rowsT (f : Bool) (xs : List Str) (H : List Entry) : reifyAV true H (.one (.lst f 1 (xs.map eStr))) = some (.one (strsC xs)) := by
  have h := (inferInstance : Canon (strsC xs)).nrm
  have e : norm (.lst f 1 (xs.map eStr)) = norm (strsC xs) := by simp only [encL, norm]
  show ((some (norm (.lst f 1 (xs.map eStr)))).map AV.one) = _
  rw [e, h]
  rfl
theorem callL_lst (p : Run) (x : AV) [CanonA x] (f : Bool) (xs : List Str) (H : List Entry) : callL p [x, .one (.lst f 1 (xs.map eStr))] H = (outL p [x, .one (strsC xs)]).map fun ys => (ys, H) := by
  have hf : freezeAV H (.one (.lst f 1 (xs.map eStr))) = H := rfl
  rw [callL_eq]
  simp only [List.foldl_cons, List.foldl_nil, freezeAV_canon, hf]
  rw [mapO_c (reifyAV_canon _ _ _) (mapO_c (reify_rowsT f xs H) (mapO_nil' _))]
  rfl
/-- Those from whom so many steps lead to a goal. -/
def lev (names : List Str) (next : List (List Str)) (g : Str) : Nat → List Str
  | 0 => [g]
  | k + 1 => backL names next (lev names next g k)
theorem lev_mem {names : List Str} {next : List (List Str)} {g : Str} : ∀ {k : Nat} {x : Str}, x ∈ lev names next g k ↔ Wk (nextOf names next) g k x
  | 0, x => by simp [lev, Wk]
  | k + 1, x => by
    simp only [lev, Wk, backL_mem]
    exact ⟨fun ⟨y, h1, h2⟩ => ⟨y, h1, lev_mem.1 h2⟩, fun ⟨y, h1, h2⟩ => ⟨y, h1, lev_mem.2 h2⟩⟩
theorem lev_len (names : List Str) (next : List (List Str)) (g : Str) (hn : 1 ≤ names.length) : ∀ k, (lev names next g k).length ≤ names.length
  | 0 => by simpa [lev] using hn
  | k + 1 => by
    have := backGo_len names (lev names next g k) (names.zip next) 0
    simp only [List.length_zip] at this
    simp only [lev, backL]
    omega
def levRow (names : List Str) (next : List (List Str)) (g : Str) : Nat → List Cell
  | 0 => [.lst true 1 ([g].map eStr)]
  | k + 1 => [strsC (lev names next g (k + 1))]
theorem levRow_lst (names : List Str) (next : List (List Str)) (g : Str) : ∀ k, ∃ f, levRow names next g k = [.lst f 1 ((lev names next g k).map eStr)]
  | 0 => ⟨true, rfl⟩
  | k + 1 => ⟨false, rfl⟩
theorem lev_near {names : List Str} {next : List (List Str)} {g x y : Str} {k : Nat} (hx : dst (nextOf names next) g x = k + 2) (hy : y ∈ nextOf names next x) : (lev names next g (k + 1)).contains y = (dst (nextOf names next) g y == k + 1) := by
  have key : y ∈ lev names next g (k + 1) ↔ dst (nextOf names next) g y = k + 1 := by
    rw [lev_mem]
    constructor
    · intro h
      obtain ⟨h1, h2⟩ := dst_le h
      obtain ⟨j, hj⟩ : ∃ j, dst (nextOf names next) g y = j + 1 := ⟨dst (nextOf names next) g y - 1, by omega⟩
      have := (dst_up hy hj).2
      omega
    · exact fun h => (dst_get h).1
  by_cases h : dst (nextOf names next) g y = k + 1
  · rw [h, beq_self_eq_true]
    exact List.contains_iff_mem.2 (key.2 h)
  · rw [show (dst (nextOf names next) g y == k + 1) = false by simpa using h]
    cases hc : (lev names next g (k + 1)).contains y with
    | false => rfl
    | true => exact absurd (key.1 (List.contains_iff_mem.1 hc)) h
theorem c_spec_l11Way (names : List Str) (next : List (List Str)) (g : Str) (h1 : names.length ≤ 1048576) (h2 : names.length = next.length) (h3 : ∀ d ∈ next, d.length ≤ 1073741824) (hnm : ∀ x y, y ∈ nextOf names next x → x ∈ names) (hg : 0 < dst (nextOf names next) g g) :
    outL run_spec_l11Way [.agg [strsC names, encL 1 eStrs next], .one (Cell.str (bs g))] = some [.one (strsC (wayOf (nextOf names next) g))] := by
  have hM := maxLen_eq
  have hnl : ∀ x, (nextOf names next x).length ≤ 1073741824 := fun x => nextOf_le h3 x
  have hdb : ∀ x, dst (nextOf names next) g x ≤ 1048576 := fun x => Nat.le_trans (dst_bd hnm g x) h1
  have hn1 : 1 ≤ names.length := by
    have := dst_bd hnm g g
    omega
  have hll : ∀ k, (lev names next g k).length ≤ 1048576 := fun k => Nat.le_trans (lev_len names next g hn1 k) h1
  have hrows : ∀ (D k : Nat), k < D → ((List.range D).map (levRow names next g))[k]? = some (levRow names next g k) := fun D k h => by
    rw [List.getElem?_map, List.getElem?_range h]
    rfl
  -- one step of the way
  have L2 : ∀ (D : Nat) (x : Str) (j : Nat), dst (nextOf names next) g x = j + 2 → j + 1 < D → ∀ (y : Str) (r : List Str) (i n N : Nat) (H : List Entry) (cl c : Cell) (out : List Str), (nextOf names next x).drop i = r → r.length < n → (r.find? fun y => dst (nextOf names next) g y == j + 1) = some y →
      VecM 0 H cl ((List.range D).map (levRow names next g)) → VecM N H c (out.map eStr) → N ≤ H.length → out.length ≤ 1048576 → ∀ (b : Cell → Cell → Int → Cell → Cell → List Entry → Option Res) k m,
      ∃ p : Cell × List Entry, spec_l11Way_l2 k m b n cl c ((j + 1 : Nat) : Int) (strsC (nextOf names next x)) i (strsC names) (encL 1 eStrs next) H = b cl p.1 (j : Int) (strsC names) (encL 1 eStrs next) p.2 ∧ VecM N p.2 p.1 ((out ++ [y]).map eStr) ∧ H.length ≤ p.2.length ∧ ∀ q, q < N → p.2[q]? = H[q]? := by
    intro D x j hx hjD y r
    induction r with
    | nil =>
      intro i n N H cl c out hd hn hf
      simp at hf
    | cons z r ih =>
      intro i n N H cl c out hd hn hf hcl hc hN hol b k m
      obtain ⟨n, rfl⟩ : ∃ j, n = j + 1 := ⟨n - 1, by omega⟩
      obtain ⟨hlt, hz, hd'⟩ := drop_cons hd
      simp only [List.length_cons] at hn
      have hnlx := hnl x
      obtain ⟨a1, t1, t2⟩ := hcl.at (hrows D (j + 1) hjD)
      obtain ⟨f, hf2⟩ := levRow_lst names next g (j + 1)
      rw [hf2] at t2
      have q1 : callS run_spec_l1Has [.one (.lst f 1 ((lev names next g (j + 1)).map eStr)), .one (Cell.str (bs z))] H = some [.one (Cell.bool (dst (nextOf names next) g z == j + 1))] := by
        rw [callS_of (mapO_c (reify_rows _ _ _) (mapO_c (reifyAV_canon _ _ _) (mapO_nil' _))), ← lev_near hx (List.mem_of_getElem? hz)]
        exact c_spec_l1Has _ z (Nat.le_trans (hll _) (by omega))
      simp only [spec_l11Way_l2, callS_canon, callL_canon, Option.map_some, Option.bind_some, shape_one, shape_agg, shape_nil, cellsAt_0, cellsAt_1, cellsAt_2, cellsAt_3, cells_one, cells_agg, cB_zero, cI_zero, cS_zero, cC_zero, cB_cons, cI_cons, cS_cons, cC_cons, cond_true, cond_false, List.length_cons, List.length_nil, beq_self_eq_true, Bool.and_true, Bool.true_and, lenC_encL, lenC_lst, deref_ref, emptyK_nil, bs_size, bs_toList]
      rw [decide_eq_true (by omega), cond_true]
      simp only [t1, t2, idxA_encL, hz, eStr, q1, callS_canon, callL_canon, Option.map_some, Option.bind_some, shape_one, shape_agg, shape_nil, cellsAt_0, cellsAt_1, cellsAt_2, cellsAt_3, cells_one, cells_agg, cB_zero, cI_zero, cS_zero, cC_zero, cB_cons, cI_cons, cS_cons, cC_cons, cond_true, cond_false, List.length_cons, List.length_nil, beq_self_eq_true, Bool.and_true, Bool.true_and, lenC_encL, lenC_lst, deref_ref, emptyK_nil, bs_size, bs_toList]
      rw [List.find?_cons] at hf
      cases hb : (dst (nextOf names next) g z == j + 1) with
      | true =>
        rw [hb] at hf
        simp only [Option.some.injEq] at hf
        subst hf
        obtain ⟨p, a1, v1, m1, k1⟩ := hc.app (by' := 16) hN (eStr z) (by simp [bound]; omega) (by simp [bound]; omega)
        refine ⟨p, ?_, by simpa using v1, m1, k1⟩
        simp only [eStr] at a1
        simp only [Bool.not_true, cond_false]
        rw [show ((i : Int) == ((nextOf names next x).length : Int)) = false by rw [beq_eq_false_iff_ne]; omega, cond_false]
        simp only [a1, Option.bind_some]
        rw [wrap_small (by omega) (by have := hdb x; omega), show (((j + 1 : Nat) : Int) - 1) = (j : Int) by omega]
      | false =>
        rw [hb] at hf
        obtain ⟨p, z1, z2⟩ := ih (i + 1) n N H cl c out hd' (by omega) hf hcl hc hN hol b k m
        refine ⟨p, ?_, z2⟩
        simp only [Bool.not_false, cond_true]
        rw [wrap_succ (by omega)]
        exact z1
  have L1 : ∀ (D : Nat) (j : Nat) (x : Str) (n N : Nat) (H : List Entry) (cl c : Cell) (o : List Str), dst (nextOf names next) g x = j + 1 → j < D → j < n → VecM 0 H cl ((List.range D).map (levRow names next g)) → VecM N H c ((o ++ [x]).map eStr) → (∀ H' : List Entry, (∀ q, q < N → H'[q]? = H[q]?) → VecM 0 H' cl ((List.range D).map (levRow names next g))) → N ≤ H.length → o.length + j ≤ 1048576 → ∀ k m, 1073741824 < m →
      ∃ c' H' ids, spec_l11Way_l1 k m n cl c (j : Int) (strsC names) (encL 1 eStrs next) H = some ([.one c'], H') ∧ ListM H' ids c' (o ++ [x] ++ wayL (nextOf names next) g j x) := by
    intro D j
    induction j with
    | zero =>
      intro x n N H cl c o hx hD hn hcl hc hk hN ho k m hm
      obtain ⟨n, rfl⟩ : ∃ j, n = j + 1 := ⟨n - 1, by omega⟩
      obtain ⟨ids, hl⟩ := hc.list
      refine ⟨c, H, ids, ?_, by simpa [wayL] using hl⟩
      simp only [spec_l11Way_l1]
      rw [decide_eq_false (by omega), cond_false]
    | succ j ih =>
      intro x n N H cl c o hx hD hn hcl hc hk hN ho k m hm
      obtain ⟨n, rfl⟩ : ∃ j, n = j + 1 := ⟨n - 1, by omega⟩
      obtain ⟨y, f1, f2, f3⟩ := find_some hx
      have hnlx := hnl x
      obtain ⟨a1, t1, t2⟩ := hc.at (i := o.length) (row := eStr x) (by simp)
      obtain ⟨p, z1, z2, z3, z4⟩ := L2 D x j hx hD y (nextOf names next x) 0 m N H cl c (o ++ [x]) rfl (by omega) f1 hcl hc hN (by simp; omega) (spec_l11Way_l1 k m n) k m
      obtain ⟨c', H', ids, y1, y2⟩ := ih y n N p.2 cl p.1 (o ++ [x]) f2 (by omega) (by omega) (hk p.2 z4) z2 (fun H' hq => hk H' fun q hqN => (hq q hqN).trans (z4 q hqN)) (by omega) (by simp; omega) k m hm
      refine ⟨c', H', ids, ?_, ?_⟩
      · simp only [spec_l11Way_l1, hc.len, List.length_map, List.length_append, List.length_cons, List.length_nil, Option.bind_some]
        rw [decide_eq_true (by omega), cond_true, wrap_small (by omega) (by omega), show (((o.length + (0 + 1) : Nat) : Int) - 1) = (o.length : Int) by omega]
        simp only [t1, t2, eStr, c_spec_l11Next names next x (by omega) h2, callS_canon, callL_canon, Option.map_some, Option.bind_some, shape_one, shape_agg, shape_nil, cellsAt_0, cellsAt_1, cellsAt_2, cellsAt_3, cells_one, cells_agg, cB_zero, cI_zero, cS_zero, cC_zero, cB_cons, cI_cons, cS_cons, cC_cons, cond_true, cond_false, List.length_cons, List.length_nil, beq_self_eq_true, Bool.and_true, Bool.true_and, lenC_encL, lenC_lst, deref_ref, emptyK_nil, bs_size, bs_toList]
        rw [show (0 : Int) = ((0 : Nat) : Int) from rfl, z1]
        exact y1
      · simp only [wayL, f1]
        rw [List.append_cons]
        exact y2
  -- the levels
  have L0 : ∀ (e j n : Nat) (H : List Entry) (cl : Cell), j + e = dst (nextOf names next) g g → e < n → VecM 0 H cl ((List.range (j + 1)).map (levRow names next g)) → ∀ k m, 1073741824 < m →
      ∃ c' H' ids, spec_l11Way_l0 k m n (bs g) cl (strsC names) (encL 1 eStrs next) H = some ([.one c'], H') ∧ ListM H' ids c' (wayOf (nextOf names next) g) := by
    intro e
    induction e with
    | zero =>
      intro j n H cl hj hn hcl k m hm
      obtain ⟨n, rfl⟩ : ∃ j, n = j + 1 := ⟨n - 1, by omega⟩
      have hjb := hdb g
      obtain ⟨i, rfl⟩ : ∃ i, j = i + 1 := ⟨j - 1, by omega⟩
      obtain ⟨a1, t1, t2⟩ := hcl.at (hrows (i + 1 + 1) (i + 1) (by omega))
      obtain ⟨f, hf2⟩ := levRow_lst names next g (i + 1)
      rw [hf2] at t2
      have hd : dst (nextOf names next) g g = i + 1 := by omega
      have hin : (lev names next g (i + 1)).contains g = true := List.contains_iff_mem.2 (lev_mem.2 (dst_get hd).1)
      have q1 : callS run_spec_l1Has [.one (.lst f 1 ((lev names next g (i + 1)).map eStr)), .one (Cell.str (bs g))] H = some [.one (Cell.bool true)] := by
        rw [callS_of (mapO_c (reify_rows _ _ _) (mapO_c (reifyAV_canon _ _ _) (mapO_nil' _))), ← hin]
        exact c_spec_l1Has _ g (Nat.le_trans (hll _) (by omega))
      obtain ⟨c', H', ids, y1, y2⟩ := L1 (i + 1 + 1) i g m H.length H cl (.lst true 1 ([g].map eStr)) [] hd (by omega) (by omega) hcl (.inl rfl) (fun H' hq => hcl.keep hq (Nat.le_refl _)) (Nat.le_refl _) (by simp; omega) k m hm
      refine ⟨c', H', ids, ?_, by simpa [wayOf, hd] using y2⟩
      simp only [spec_l11Way_l0, hcl.len, List.length_map, List.length_range, Option.bind_some]
      rw [show (((i + 1 + 1 : Nat) : Int) == 1) = false by rw [beq_eq_false_iff_ne]; omega, cond_false, wrap_small (by omega) (by omega), show (((i + 1 + 1 : Nat) : Int) - 1) = ((i + 1 : Nat) : Int) by omega]
      simp only [t1, t2, q1, callS_canon, callL_canon, Option.map_some, Option.bind_some, shape_one, shape_agg, shape_nil, cellsAt_0, cellsAt_1, cellsAt_2, cellsAt_3, cells_one, cells_agg, cB_zero, cI_zero, cS_zero, cC_zero, cB_cons, cI_cons, cS_cons, cC_cons, cond_true, cond_false, List.length_cons, List.length_nil, beq_self_eq_true, Bool.and_true, Bool.true_and, lenC_encL, lenC_lst, deref_ref, emptyK_nil, bs_size, bs_toList, Bool.not_true]
      rw [wrap_small (by omega) (by omega), show (((i + 1 + 1 : Nat) : Int) - 2) = (i : Int) by omega]
      exact y1
    | succ e ih =>
      intro j n H cl hj hn hcl k m hm
      obtain ⟨n, rfl⟩ : ∃ j, n = j + 1 := ⟨n - 1, by omega⟩
      have hjb := hdb g
      obtain ⟨a1, t1, t2⟩ := hcl.at (hrows (j + 1) j (by omega))
      obtain ⟨f, hf2⟩ := levRow_lst names next g j
      rw [hf2] at t2
      have e2 : callL run_spec_l11Back [.agg [strsC names, encL 1 eStrs next], .one (.lst f 1 ((lev names next g j).map eStr))] H = some ([.one (strsC (lev names next g (j + 1)))], H) := by
        rw [callL_lst, c_spec_l11Back names next _ h1 h2 h3 (Nat.le_trans (hll _) (by omega))]
        rfl
      have e3 : ∀ (d : Cell) (G : List Entry), srcRows G 1 (.lst true 1 (chunks 1 1 [d])) = some [[d]] := fun d G => by simp [srcRows, rowsOf, chunks]
      have e4 : ∀ {β : Type} (xs : List Str) (κ : List Cell → Option β), restK [strsC xs] κ = κ [strsC xs] := fun xs κ => rfl
      obtain ⟨p, a2, v1, m1, _⟩ := hcl.app (by' := 24) (Nat.zero_le _) [strsC (lev names next g (j + 1))] (by simp [bound]; omega) (by simp [bound]; omega)
      have hv : (List.range (j + 1)).map (levRow names next g) ++ [[strsC (lev names next g (j + 1))]] = (List.range (j + 1 + 1)).map (levRow names next g) := by
        rw [List.range_succ (n := j + 1), List.map_append]
        rfl
      rw [hv] at v1
      obtain ⟨c', H', ids, y1, y2⟩ := ih (j + 1) n p.2 p.1 (by omega) (by omega) v1 k m hm
      refine ⟨c', H', ids, ?_, y2⟩
      simp only [spec_l11Way_l0, hcl.len, List.length_map, List.length_range, Option.bind_some]
      rw [wrap_small (by omega) (by omega), show (((j + 1 : Nat) : Int) - 1) = (j : Int) by omega]
      cases j with
      | zero =>
        rw [show (((0 + 1 : Nat) : Int) == 1) = true from rfl, cond_true]
        simp only [t1, t2, e2, e3, e4, a2, callS_canon, callL_canon, Option.map_some, Option.bind_some, shape_one, shape_agg, shape_nil, cellsAt_0, cellsAt_1, cellsAt_2, cellsAt_3, cells_one, cells_agg, cB_zero, cI_zero, cS_zero, cC_zero, cB_cons, cI_cons, cS_cons, cC_cons, cond_true, cond_false, List.length_cons, List.length_nil, beq_self_eq_true, Bool.and_true, Bool.true_and, lenC_encL, lenC_lst, deref_ref, emptyK_nil, bs_size, bs_toList]
        exact y1
      | succ i =>
        have hin : (lev names next g (i + 1)).contains g = false := by
          cases hc : (lev names next g (i + 1)).contains g with
          | false => rfl
          | true =>
            have := (dst_le (lev_mem.1 (List.contains_iff_mem.1 hc))).2
            omega
        have q1 : callS run_spec_l1Has [.one (.lst f 1 ((lev names next g (i + 1)).map eStr)), .one (Cell.str (bs g))] H = some [.one (Cell.bool false)] := by
          rw [callS_of (mapO_c (reify_rows _ _ _) (mapO_c (reifyAV_canon _ _ _) (mapO_nil' _))), ← hin]
          exact c_spec_l1Has _ g (Nat.le_trans (hll _) (by omega))
        rw [show (((i + 1 + 1 : Nat) : Int) == 1) = false by rw [beq_eq_false_iff_ne]; omega, cond_false]
        simp only [t1, t2, q1, e2, e3, e4, a2, callS_canon, callL_canon, Option.map_some, Option.bind_some, shape_one, shape_agg, shape_nil, cellsAt_0, cellsAt_1, cellsAt_2, cellsAt_3, cells_one, cells_agg, cB_zero, cI_zero, cS_zero, cC_zero, cB_cons, cI_cons, cS_cons, cC_cons, cond_true, cond_false, List.length_cons, List.length_nil, beq_self_eq_true, Bool.and_true, Bool.true_and, lenC_encL, lenC_lst, deref_ref, emptyK_nil, bs_size, bs_toList, Bool.not_false]
        exact y1
  have hgb := hdb g
  obtain ⟨c', H', ids, z1, z2⟩ := L0 (dst (nextOf names next) g g) 0 (1073741824 + 1 + 1) [] (.lst true 1 [levRow names next g 0]) (by omega) (by omega) (.inl rfl) (1073741824 + 1 + 1) (1073741824 + 1 + 1) (by omega)
  refine outL_of (H := H') (run_spec_l11Way_of (1073741824 + 1) z1) (mapO_c z2.read (mapO_nil' _))
theorem c_spec_l11Ring (names : List Str) (next : List (List Str)) (U : List Str) (h1 : names.length ≤ 1048576) (h2 : names.length = next.length) (h3 : ∀ d ∈ next, d.length ≤ 1048576) (hU : U.length ≤ 1048576) (hm : ∀ x, ∀ y ∈ nextOf names next x, y ∈ U)
    (hnm : ∀ x y, y ∈ nextOf names next x → x ∈ names) : outL run_spec_l11Ring [.agg [strsC names, encL 1 eStrs next]] = some [.one (strsC (ringOf names (nextOf names next)))] := by
  have hM := maxLen_eq
  have h3' : ∀ d ∈ next, d.length ≤ 1073741824 := fun d hd => Nat.le_trans (h3 d hd) (by omega)
  have loop : ∀ (r : List Str) (i n : Nat), names.drop i = r → r.length < n → ∀ k m, ∃ xs, spec_l11Ring_l0 k m n i (strsC names) (encL 1 eStrs next) = some (xs, []) ∧ mapO (reifyAV false []) xs = some [.one (strsC (match r.find? fun x => decide (0 < dst (nextOf names next) x x) with
        | some x => wayOf (nextOf names next) x
        | none => []))] := by
    intro r
    induction r with
    | nil =>
      intro i n hd hn k m
      obtain ⟨n, rfl⟩ : ∃ j, n = j + 1 := ⟨n - 1, by omega⟩
      have := drop_nil hd
      refine ⟨[.one (.lst true 1 [])], ?_, mapO_c (reify_rows true [] []) (mapO_nil' _)⟩
      simp only [spec_l11Ring_l0, callS_canon, callL_canon, Option.map_some, Option.bind_some, shape_one, shape_agg, shape_nil, cellsAt_0, cellsAt_1, cellsAt_2, cellsAt_3, cells_one, cells_agg, cB_zero, cI_zero, cS_zero, cC_zero, cB_cons, cI_cons, cS_cons, cC_cons, cond_true, cond_false, List.length_cons, List.length_nil, beq_self_eq_true, Bool.and_true, Bool.true_and, lenC_encL, lenC_lst, deref_ref, emptyK_nil, bs_size, bs_toList]
      rw [decide_eq_false (by omega), cond_false]
    | cons x r ih =>
      intro i n hd hn k m
      obtain ⟨n, rfl⟩ : ∃ j, n = j + 1 := ⟨n - 1, by omega⟩
      obtain ⟨hlt, hx, hd'⟩ := drop_cons hd
      simp only [List.length_cons] at hn
      have hrl : (reachS (nextOf names next) x).length ≤ 1048576 := Nat.le_trans (reachS_bd (s := x) hm).1 hU
      have q0 := (c_spec_l11Reach names next x U (by omega) h2 h3 hU hm).1
      have q1 : out run_spec_l1Has [.one (strsC (reachS (nextOf names next) x)), .one (Cell.str (bs x))] = some [.one (Cell.bool (decide (0 < dst (nextOf names next) x x)))] := by
        rw [← reachS_has hm]
        exact c_spec_l1Has _ x (by omega)
      simp only [spec_l11Ring_l0, callS_canon, callL_canon, Option.map_some, Option.bind_some, shape_one, shape_agg, shape_nil, cellsAt_0, cellsAt_1, cellsAt_2, cellsAt_3, cells_one, cells_agg, cB_zero, cI_zero, cS_zero, cC_zero, cB_cons, cI_cons, cS_cons, cC_cons, cond_true, cond_false, List.length_cons, List.length_nil, beq_self_eq_true, Bool.and_true, Bool.true_and, lenC_encL, lenC_lst, deref_ref, emptyK_nil, bs_size, bs_toList]
      rw [decide_eq_true (by omega), cond_true]
      simp only [idxA_encL, hx, eStr, q0, q1, callS_canon, callL_canon, Option.map_some, Option.bind_some, shape_one, shape_agg, shape_nil, cellsAt_0, cellsAt_1, cellsAt_2, cellsAt_3, cells_one, cells_agg, cB_zero, cI_zero, cS_zero, cC_zero, cB_cons, cI_cons, cS_cons, cC_cons, cond_true, cond_false, List.length_cons, List.length_nil, beq_self_eq_true, Bool.and_true, Bool.true_and, lenC_encL, lenC_lst, deref_ref, emptyK_nil, bs_size, bs_toList, List.find?_cons]
      by_cases hp : 0 < dst (nextOf names next) x x
      · rw [decide_eq_true hp, cond_true]
        refine ⟨[.one (strsC (wayOf (nextOf names next) x))], ?_, mapO_canon _ _ _⟩
        simp only [c_spec_l11Way names next x h1 h2 h3' hnm hp, callS_canon, callL_canon, Option.map_some, Option.bind_some, shape_one, shape_agg, shape_nil, cellsAt_0, cellsAt_1, cellsAt_2, cellsAt_3, cells_one, cells_agg, cB_zero, cI_zero, cS_zero, cC_zero, cB_cons, cI_cons, cS_cons, cC_cons, cond_true, cond_false, List.length_cons, List.length_nil, beq_self_eq_true, Bool.and_true, Bool.true_and, lenC_encL, lenC_lst, deref_ref, emptyK_nil, bs_size, bs_toList]
      · rw [decide_eq_false hp, cond_false, wrap_succ (by omega)]
        exact ih (i + 1) n hd' (by omega) k m
  obtain ⟨xs, z1, z2⟩ := loop names 0 (names.length + 1 + 1) rfl (by omega) (names.length + 1 + 1) (names.length + 1 + 1)
  exact outL_of (H := []) (run_spec_l11Ring_of (names.length + 1) z1) z2
theorem nextOf_name {names : List Str} {next : List (List Str)} {x y : Str} (h : y ∈ nextOf names next x) : x ∈ names := by
  unfold nextOf at h
  split at h
  · simp at h
  · rename_i hn
    have := idxS_at x names 0 (idxS x names 0).toNat (by omega)
    exact List.mem_of_getElem? this
def nextT (p : MPlan) : List (List Str) := (List.range p.Tasks.length).map fun i => (p.Deps[i]?).getD []
theorem nextT_eq (p : MPlan) (s : Str) : nextOf p.Tasks (nextT p) s = nextOf p.Tasks p.Deps s := by
  unfold nextOf
  split
  · rfl
  · have h1 := (List.getElem?_eq_some_iff.1 (idxS_at s p.Tasks 0 (idxS s p.Tasks 0).toNat (by omega))).1
    rw [nextT, List.getElem?_map, List.getElem?_range h1]
    rfl
theorem ringOf_take {names : List Str} {nx : Str → List Str} {n : Nat} (hn : ∀ x y, y ∈ nx x → x ∈ names.take n) : ringOf (names.take n) nx = ringOf names nx := by
  have e : (names.take n).find? (fun x => decide (0 < dst nx x x)) = names.find? fun x => decide (0 < dst nx x x) := by
    conv => rhs; rw [← List.take_append_drop n names]
    rw [List.find?_append]
    cases h : (names.take n).find? fun x => decide (0 < dst nx x x) with
    | some x => rfl
    | none =>
      cases h2 : (names.drop n).find? fun x => decide (0 < dst nx x x) with
      | none => rfl
      | some x =>
        exfalso
        have hp : 0 < dst nx x x := by simpa using List.find?_some h2
        obtain ⟨k, hk⟩ : ∃ k, dst nx x x = k + 1 := ⟨dst nx x x - 1, by omega⟩
        obtain ⟨⟨y, hy, _⟩, _⟩ := dst_get hk
        rw [List.find?_eq_none] at h
        exact h x (hn x y hy) (by simpa using hp)
  unfold ringOf
  rw [e]
noncomputable def m_TaskRing (p : MPlan) : List Str := ringOf p.Tasks (nextOf p.Tasks p.Deps)
theorem deps_len (p : MPlan) : p.Deps.flatten.length ≤ p.wt := by
  have key : ∀ l : List (List Str), l.flatten.length ≤ wtL (wtL wtS) l := by
    intro l
    induction l with
    | nil => simp
    | cons x l ih =>
      simp only [wtL, List.flatten_cons, List.length_append, List.length_cons, List.map_cons, List.sum_cons] at ih ⊢
      omega
  have := key p.Deps
  simp only [MPlan.wt]
  omega
theorem deps_mem {p : MPlan} {x y : Str} (h : y ∈ nextOf p.Tasks p.Deps x) : y ∈ p.Deps.flatten := by
  obtain ⟨d, hd, hy⟩ := nextOf_mem h
  exact List.mem_flatten.2 ⟨d, hd, hy⟩
theorem b_TaskRing (p : MPlan) (hp : p.Bd 1048576) (hw : p.wt ≤ 1048576) : bdL 1048576 (bdS 1048576) (m_TaskRing p) := by
  obtain ⟨h1, h2⟩ := ringOf_bd (names := p.Tasks) (nx := nextOf p.Tasks p.Deps) fun x y h => nextOf_name h
  refine ⟨Nat.le_trans h1 hp.1.1, fun y hy => ?_⟩
  rcases h2 y hy with h | ⟨z, h⟩
  · exact hp.1.2 y h
  · obtain ⟨d, hd, hx⟩ := nextOf_mem h
    exact (hp.2.2 d hd).2 y hx
theorem cnt_TaskRing (p : MPlan) (hp : p.Bd 1048576) (hw : p.wt ≤ 1048576) : cntL one1 (m_TaskRing p) ≤ 1099511627776 := by
  rw [cntL_one1]
  have := (b_TaskRing p hp hw).1
  omega
theorem c_spec_TaskRing (p : MPlan) (hp : p.Bd 1048576) (hw : p.wt ≤ 1048576) : outL run_spec_TaskRing [.agg [strsC p.Tasks, encL 1 eStrs p.Deps]] = some [.one (strsC (m_TaskRing p))] := by
  have h1 := hp.1.1
  have ht : ∀ x, nextOf (p.Tasks.take (min p.Tasks.length p.Deps.length)) (p.Deps.take (min p.Tasks.length p.Deps.length)) x = nextOf p.Tasks p.Deps x := nextOf_take p.Tasks p.Deps
  have hf := funext ht
  have hnm : ∀ x y, y ∈ nextOf (p.Tasks.take (min p.Tasks.length p.Deps.length)) (p.Deps.take (min p.Tasks.length p.Deps.length)) x → x ∈ p.Tasks.take (min p.Tasks.length p.Deps.length) := fun x y h => nextOf_name h
  have e := c_spec_l11Ring (p.Tasks.take (min p.Tasks.length p.Deps.length)) (p.Deps.take (min p.Tasks.length p.Deps.length)) p.Deps.flatten (by simp; omega) (by simp) (fun d hd => (hp.2.2 d (List.mem_of_mem_take hd)).1) (Nat.le_trans (deps_len p) hw) (fun x y h => deps_mem (by rw [← ht]; exact h)) hnm
  have e2 : ringOf (p.Tasks.take (min p.Tasks.length p.Deps.length)) (nextOf (p.Tasks.take (min p.Tasks.length p.Deps.length)) (p.Deps.take (min p.Tasks.length p.Deps.length))) = m_TaskRing p := by
    rw [ringOf_take hnm, hf]
    rfl
  rw [e2] at e
  refine outL_canon (H := []) (run_spec_TaskRing_of 0 ?_)
  simp only [spec_TaskRing, c_spec_l13Graph p hp, e, callS_canon, callL_canon, Option.map_some, Option.bind_some, shape_one, shape_agg, shape_nil, cellsAt_0, cellsAt_1, cellsAt_2, cellsAt_3, cells_one, cells_agg, cB_zero, cI_zero, cS_zero, cC_zero, cB_cons, cI_cons, cS_cons, cC_cons, cond_true, cond_false, List.length_cons, List.length_nil, beq_self_eq_true, Bool.and_true, Bool.true_and, lenC_encL, lenC_lst, deref_ref, emptyK_nil, bs_size, bs_toList]
theorem plan_graphT (p : MPlan) (c : Cell) (T : List Entry) (h : GrowAt 2 1 c T ((List.range p.Tasks.length).map (onRow p.Deps))) : ∃ ids, GraphM ([gE0 p, gE1 p c] ++ T) ids 1 p.Tasks (nextT p) := by
  rcases h with ⟨h1, rfl, rfl⟩ | ⟨ep, rfl, rfl⟩
  · simp only [List.map_eq_nil_iff, List.range_eq_nil] at h1
    exact ⟨[1], by simp, by simp, by simp [nextT], strsC p.Tasks, .lst true 1 [], false, rfl, (ListM.canon _ _).mono (by simp), .inl ⟨rfl, by simp [nextT, h1]⟩⟩
  · refine ⟨[1, 2], by simp, by simp, by simp [nextT], strsC p.Tasks, _, false, rfl, (ListM.canon _ _).mono (by simp), .inr ⟨2, ep, false, _, by simp [nextT], by simp, rfl, by simp [nextT], fun j xs hj => ?_⟩⟩
    rw [nextT, List.getElem?_map, Option.map_eq_some_iff] at hj
    obtain ⟨i, hi, hj⟩ := hj
    have hlt : j < p.Tasks.length := by
      have := (List.getElem?_eq_some_iff.1 hi).1
      simpa using this
    rw [List.getElem?_range hlt] at hi
    simp only [Option.some.injEq] at hi
    subst hi
    subst hj
    cases hd : p.Deps[j]? with
    | none => exact ⟨.lst true 1 [], by rw [List.getElem?_map, List.getElem?_range hlt]; simp [onRow, hd], .inl ⟨true, rfl⟩⟩
    | some d => exact ⟨strsC d, by rw [List.getElem?_map, List.getElem?_range hlt]; simp [onRow, hd], (ListM.canon _ _).mono (by simp)⟩
theorem f_impl_TaskRing (p : MPlan) (hp : p.Bd 1048576) (hw : p.wt ≤ 1048576) : Fresh run_impl_TaskRing true 2 [.agg [strsC p.Tasks, encL 1 eStrs p.Deps]] [.one (trL 1 trStr (m_TaskRing p))] := by
  have h1 := hp.1.1
  obtain ⟨c, T, hg, e1⟩ := g_impl_Plan_graph p hp
  obtain ⟨ids, hG⟩ := plan_graphT p c T hg
  have hf : nextOf p.Tasks (nextT p) = nextOf p.Tasks p.Deps := funext (nextT_eq p)
  obtain ⟨c', H', is, e2, r1, r2⟩ := gm_ring hG h1 (fun d hd => by
    obtain ⟨i, _, rfl⟩ := List.mem_map.1 hd
    cases hi : p.Deps[i]? with
    | none => simp
    | some d => exact (hp.2.2 d (List.mem_of_getElem? hi)).1) p.Deps.flatten (Nat.le_trans (deps_len p) hw) (fun x y h => deps_mem (by rw [← hf]; exact h)) (fun x y h => nextOf_name h)
  rw [hf] at r1
  refine Fresh.one (run_impl_TaskRing_of 0 ?_) r1 r2
  have e1' : run_impl_Plan_graph [.one (.ptr 0 2 0 0 0)] [Entry.mk 2 [[strsC p.Tasks, encL 1 eStrs p.Deps]] 0 false] = some ([AV.one (Cell.ptr 1 2 0 0 0)], [gE0 p, gE1 p c] ++ T) := e1
  simp only [impl_TaskRing, e1', e2, callS_canon, callL_canon, Option.map_some, Option.bind_some, shape_one, shape_agg, shape_nil, cellsAt_0, cellsAt_1, cellsAt_2, cellsAt_3, cells_one, cells_agg, cB_zero, cI_zero, cS_zero, cC_zero, cB_cons, cI_cons, cS_cons, cC_cons, cond_true, cond_false, List.length_cons, List.length_nil, beq_self_eq_true, Bool.and_true, Bool.true_and, lenC_encL, lenC_lst, deref_ref, emptyK_nil, bs_size, bs_toList]
def taskName (p t : Str) : Str := p ++ [35] ++ t
def isPath (b : UInt8) : Bool := isSmall b || (isFigure b || (b == 46 || (b == 45 || b == 95)))
def fileOk (s : Str) : Bool := s.all isPath && (inR s.length 1 12 && (!(s == [46]) && !(s == [46, 46])))
theorem last_at {W : List Str} (h : 0 < W.length) (k : Nat) (hk : k < W.length) : ∃ x, W[k]? = some x := ⟨W[k], List.getElem?_eq_getElem hk⟩
theorem wrap_sub {n k : Nat} (h : k ≤ n) (hn : n ≤ 1073741824 + 1) : IntKind.i64.wrap ((n : Int) - (k : Int)) = ((n - k : Nat) : Int) := by
  rw [wrap_small (by omega) (by omega)]
  omega
def hasNil (W : List Str) : Bool := W.contains []
theorem hasNil_mem (W : List Str) : hasNil W = true ↔ [] ∈ W := by unfold hasNil; simp
theorem hasNil_cons (w : Str) (W : List Str) : hasNil (w :: W) = ((w == []) || hasNil W) := by
  unfold hasNil
  rw [List.contains_cons]
  cases w <;> rfl
def actKind (w : Str) (n : Nat) (into : Bool) : Bool :=
  bif w == [112, 117, 116] then decide (2 ≤ n) && into
  else bif w == [99, 97, 116] then inR n 2 4 && into
  else bif w == [101, 110, 118] then decide (n = 2) && into
  else bif w == [117, 115, 101] then decide (n = 3) && into
  else bif w == [108, 111, 103] then decide (2 ≤ n) && !into
  else bif w == [102, 97, 105, 108] then decide (n = 1) && !into
  else false
def actW (W : List Str) : Bool := !hasNil W && bif decide (3 ≤ W.length) && (W[W.length - 2]? == some [62]) then fileOk ((W[W.length - 1]?).getD []) && actKind ((W[0]?).getD []) (W.length - 2) true else actKind ((W[0]?).getD []) W.length false
def actOk (s : Str) : Bool := actW (split 32 s)
theorem n_ge (n k : Nat) : decide ((n : Int) ≥ (k : Int)) = decide (k ≤ n) := by rw [decide_eq_decide]; omega
theorem n_gt (n k : Nat) : decide ((n : Int) > (k : Int)) = decide (k < n) := by rw [decide_eq_decide]; omega
theorem n_eq (n k : Nat) : ((n : Int) == (k : Int)) = decide (n = k) := by rw [Bool.eq_iff_iff]; simp; omega
def kindS (w : Str) (n : Nat) (to lg : Bool) : Bool :=
  bif w == [112, 117, 116] then decide (2 ≤ n) && to
  else bif w == [99, 97, 116] then inR n 2 4 && to
  else bif w == [101, 110, 118] then decide (n = 2) && to
  else bif w == [117, 115, 101] then decide (n = 3) && to
  else bif w == [108, 111, 103] then decide (2 ≤ n) && lg
  else bif w == [102, 97, 105, 108] then decide (n = 1) && lg
  else false
theorem kindS_true (w : Str) (n : Nat) : kindS w n true false = actKind w n true := by
  unfold kindS actKind
  rfl
theorem kindS_false (w : Str) (n : Nat) : kindS w n false true = actKind w n false := by
  unfold kindS actKind
  rfl
theorem kindS_none (w : Str) (n : Nat) : kindS w n false false = false := by
  unfold kindS
  simp
def specB : List Str → Str → Bool → Bool
  | [], _, _ => false
  | w :: l, y, b => !hasNil (w :: l) && kindS w (l.length + 1) (fileOk y) (y == [] && !b)
def pathOk (s : Str) : Bool := (split 47 s).all fileOk && decide ((split 47 s).length ≤ 4)
theorem n_le (n k : Nat) : decide ((n : Int) ≤ (k : Int)) = decide (n ≤ k) := by rw [decide_eq_decide]; omega
def isAl (b : UInt8) : Bool := isSmall b || isFigure b
/-- Behind a bracket: how many bytes up to the closing one. -/
def clsGo : Str → Nat → Option Nat
  | [], _ => none
  | b :: r, c => bif isAl b then (clsGo r (c + 1)).map (· + 1) else bif inR c 1 5 && b == 93 then some 1 else none
theorem clsGo_cons (b : UInt8) (r : Str) (c : Nat) : clsGo (b :: r) c = bif isAl b then (clsGo r (c + 1)).map (· + 1) else bif inR c 1 5 && b == 93 then some 1 else none := rfl
def unitN : Str → Nat
  | [] => 0
  | b :: t => bif b == 91 then (match t with
      | [] => 0
      | d :: t' => bif d == 33 then (match clsGo t' 0 with | some n => n + 2 | none => 0) else (match clsGo (d :: t') 0 with | some n => n + 1 | none => 0))
    else bif isPath b || (b == 63 || b == 42) then 1 else 0
def pieceGo : Nat → Str → Nat → Bool
  | _, [], c => inR c 1 12
  | 0, _ :: _, _ => false
  | n + 1, b :: t, c => bif unitN (b :: t) == 0 then false else pieceGo n ((b :: t).drop (unitN (b :: t))) (c + 1)
def pieceOk (s : Str) : Bool := pieceGo s.length s 0
def globOk (s : Str) : Bool := (split 47 s).all pieceOk && decide ((split 47 s).length ≤ 4)
theorem clsGo_le : ∀ (r : Str) (c n : Nat), clsGo r c = some n → 1 ≤ n ∧ n ≤ r.length := by
  intro r
  induction r with
  | nil => intro c n h; simp [clsGo] at h
  | cons b r ih =>
    intro c n h
    unfold clsGo at h
    cases hb : isAl b with
    | true =>
      rw [hb, cond_true, Option.map_eq_some_iff] at h
      obtain ⟨j, h1, rfl⟩ := h
      obtain ⟨h2, h3⟩ := ih _ _ h1
      simp
      omega
    | false =>
      rw [hb, cond_false] at h
      cases hc : inR (c : Int) 1 5 && b == 93 with
      | true => rw [hc, cond_true] at h; simp only [Option.some.injEq] at h; simp; omega
      | false => rw [hc, cond_false] at h; simp at h
theorem unitN_le (s : Str) : unitN s ≤ s.length := by
  cases s with
  | nil => simp [unitN]
  | cons b t =>
    cases hb : b == 91 with
    | true =>
      cases t with
      | nil => simp only [unitN, hb, cond_true]; omega
      | cons d t' =>
        cases hd : d == 33 with
        | true =>
          simp only [unitN, hb, hd, cond_true]
          split
          · rename_i n h
            have := (clsGo_le _ _ _ h).2
            simp
            omega
          · omega
        | false =>
          simp only [unitN, hb, hd, cond_true, cond_false]
          split
          · rename_i n h
            have := (clsGo_le _ _ _ h).2
            simp at this ⊢
            omega
          · omega
    | false =>
      simp only [unitN, hb, cond_false]
      cases isPath b || (b == 63 || b == 42) <;> simp
theorem u8_int (b : UInt8) (n : Nat) (h : n < 256) : ((b.toNat : Int) == (n : Int)) = (b == UInt8.ofNat n) := u8_eq b n h
def insOk (s : Str) : Bool := globOk s && decide (s.length ≤ 60)
def ruleOk (r : MRule) : Bool := r.On.all onOk && (r.Ins.all insOk && (nameOk r.Task && (decide (r.On.length ≤ 4) && (decide (r.Ins.length ≤ 4) && (decide (r.Envs.length ≤ 3) && r.Envs.all nameOk)))))
/-- A rule may stand at its place. -/
def ruleI (l : List MRule) (i : Nat) : Bool :=
  match l[i]? with
  | some f => ruleOk f && (decide (i = 0) || (match l[i - 1]? with
    | some g => lt g.Task f.Task
    | none => true))
  | none => true
def rulesOk (l : List MRule) : Bool := (List.range l.length).all (ruleI l) && decide (l.length ≤ 5)
theorem ruleI_zero {l : List MRule} {f : MRule} (h : l[0]? = some f) : ruleI l 0 = ruleOk f := by
  unfold ruleI
  rw [h]
  simp
theorem ruleI_succ {l : List MRule} {i : Nat} {f g : MRule} (h : l[i + 1]? = some f) (hg : l[i]? = some g) : ruleI l (i + 1) = (ruleOk f && lt g.Task f.Task) := by
  unfold ruleI
  rw [h]
  simp [hg]
def sinceS : Str := [91, 115, 105, 110, 99, 101, 93]
def dotS : Str := [46, 46, 46]
def sufB (p s : Str) : Bool := decide (p.length ≤ s.length) && (s.drop (s.length - p.length) == p)
/-- A filter that is neither turned nor widened: may it stand? -/
def plainF (s : Str) : Bool := s == sinceS || (pieceOk s && decide (s.length ≤ 20))
def oneGo : Nat → Str → Bool
  | 0, s => plainF s
  | d + 1, s => bif List.isPrefixOf [33] s then oneGo d (s.drop 1) else bif List.isPrefixOf dotS s then oneGo d (s.drop 3) else bif sufB dotS s then oneGo d (s.take (s.length - 3)) else plainF s
def oneOk (s : Str) : Bool := oneGo s.length s
def filterOk (s : Str) : Bool := (split 32 s).all oneOk && decide ((split 32 s).length ≤ 4)
theorem oneGo_ge : ∀ (d e : Nat) (s : Str), s.length ≤ d → s.length ≤ e → oneGo d s = oneGo e s := by
  intro d
  induction d with
  | zero =>
    intro e s h1 h2
    have : s = [] := List.eq_nil_of_length_eq_zero (by omega)
    subst this
    cases e <;> rfl
  | succ d ih =>
    intro e s h1 h2
    cases e with
    | zero =>
      have : s = [] := List.eq_nil_of_length_eq_zero (by omega)
      subst this
      rfl
    | succ e =>
      unfold oneGo
      cases h3 : List.isPrefixOf [33] s with
      | true => 
        have := (List.isPrefixOf_iff_prefix.1 h3).length_le
        simp only [List.length_cons, List.length_nil] at this
        simp only [cond_true]
        exact ih e _ (by simp; omega) (by simp; omega)
      | false =>
        cases h4 : List.isPrefixOf dotS s with
        | true =>
          have := (List.isPrefixOf_iff_prefix.1 h4).length_le
          simp only [dotS, List.length_cons, List.length_nil] at this
          simp only [cond_true, cond_false]
          exact ih e _ (by simp; omega) (by simp; omega)
        | false =>
          cases h5 : sufB dotS s with
          | true =>
            have : 3 ≤ s.length := by simp [sufB, dotS] at h5; omega
            simp only [cond_true, cond_false]
            exact ih e _ (by simp; omega) (by simp; omega)
          | false => rfl
theorem clsGo_no : ∀ (r : Str) (c n : Nat), clsGo r c = some n → 47 ∉ r.take n := by
  intro r
  induction r with
  | nil => intro c n h; simp [clsGo] at h
  | cons b r ih =>
    intro c n h
    rw [clsGo_cons] at h
    cases hb : isAl b with
    | true =>
      rw [hb, cond_true, Option.map_eq_some_iff] at h
      obtain ⟨j, h1, rfl⟩ := h
      rw [List.take_succ_cons, List.mem_cons, not_or]
      refine ⟨?_, ih _ _ h1⟩
      rintro rfl
      exact absurd hb (by decide)
    | false =>
      rw [hb, cond_false] at h
      cases hc : inR (c : Int) 1 5 && b == 93 with
      | true =>
        rw [hc, cond_true] at h
        simp only [Option.some.injEq] at h
        subst h
        simp only [Bool.and_eq_true, beq_iff_eq] at hc
        rw [hc.2]
        simp
      | false => rw [hc, cond_false] at h; simp at h
theorem unitN_no (s : Str) : 47 ∉ s.take (unitN s) := by
  cases s with
  | nil => simp
  | cons b t =>
    cases hb : b == 91 with
    | true =>
      have hb' : b = 91 := by simpa using hb
      cases t with
      | nil => simp [unitN, hb']
      | cons d t' =>
        cases hd : d == 33 with
        | true =>
          have hd' : d = 33 := by simpa using hd
          simp only [unitN, hb, hd, cond_true]
          split
          · rename_i n h
            have := clsGo_no _ _ _ h
            rw [List.take_succ_cons, List.take_succ_cons, hb', hd']
            simpa using this
          · simp
        | false =>
          simp only [unitN, hb, hd, cond_true, cond_false]
          split
          · rename_i n h
            have := clsGo_no _ _ _ h
            rw [List.take_succ_cons, hb', List.mem_cons, not_or]
            exact ⟨by decide, this⟩
          · simp
    | false =>
      simp only [unitN, hb, cond_false]
      cases h : isPath b || (b == 63 || b == 42) with
      | true =>
        simp only [cond_true, List.take_succ_cons, List.take_zero, List.mem_singleton]
        rintro rfl
        exact absurd h (by decide)
      | false => simp
theorem pieceGo_no : ∀ (d : Nat) (s : Str) (c : Nat), pieceGo d s c = true → 47 ∉ s := by
  intro d
  induction d with
  | zero =>
    intro s c h
    cases s with
    | nil => simp
    | cons b t => simp [pieceGo] at h
  | succ d ih =>
    intro s c h
    cases s with
    | nil => simp
    | cons b t =>
      unfold pieceGo at h
      cases hu : unitN (b :: t) == 0 with
      | true => rw [hu] at h; simp at h
      | false =>
        rw [hu, cond_false] at h
        have h1 := ih _ _ h
        have h2 := unitN_no (b :: t)
        rw [← List.take_append_drop (unitN (b :: t)) (b :: t), List.mem_append, not_or]
        exact ⟨h2, h1⟩
/-- As the program asks it. -/
theorem plainF_eq (s : Str) (h : (s == sinceS) = false) : plainF s = (decide (s.length ≤ 20) && (!decide (47 ∈ s) && globOk s)) := by
  unfold plainF
  rw [h, Bool.false_or]
  by_cases h1 : 47 ∈ s
  · rw [decide_eq_true h1]
    cases hp : pieceOk s with
    | true => exact absurd h1 (pieceGo_no _ _ _ hp)
    | false => simp
  · rw [decide_eq_false h1]
    unfold globOk
    rw [split_not h1]
    simp [Bool.and_comm]
end Go.Ev
