/- What the functions come to. Conditions: none. -/
import Derived.Test.YtaigckobkcihgaaEvCon
set_option linter.unusedSimpArgs false
set_option linter.unusedVariables false
namespace Go.Ev
open Go
/-! names -/
def inR (x a b : Int) : Bool := decide (a ≤ x) && decide (x ≤ b)
def isSmall (b : UInt8) : Bool := inR b.toNat 97 122
def isFigure (b : UInt8) : Bool := inR b.toNat 48 57
def nameGo (first : Bool) : Str → Bool
  | [] => true
  | b :: r => (isSmall b || (!first && (isFigure b || b == 45))) && nameGo false r
def nameOk (s : Str) : Bool := nameGo true s && inR s.length 1 10
theorem u8_eq (b : UInt8) (n : Nat) (h : n < 256) : ((b.toNat : Int) == (n : Int)) = (b == UInt8.ofNat n) := by
  rw [Bool.eq_iff_iff]
  simp only [beq_iff_eq]
  constructor
  · intro e
    apply UInt8.toNat_inj.1
    have : (UInt8.ofNat n).toNat = n := by simp; omega
    omega
  · intro e
    have : (UInt8.ofNat n).toNat = n := by simp; omega
    rw [e, this]
theorem u8_ne (b : UInt8) (n : Nat) (h : n < 256) : ((b.toNat : Int) != (n : Int)) = (b != UInt8.ofNat n) := by
  simp only [bne, u8_eq b n h]
theorem u8_lt (b : UInt8) : (b.toNat : Int) < 256 := by have := b.toNat_lt; omega
/-! parts of a text -/
/-- The parts between which a byte stands; cur: what stands ahead already. -/
def splitGo (c : UInt8) (cur : Str) : Str → List Str
  | [] => [cur]
  | b :: r => if b = c then cur :: splitGo c [] r else splitGo c (cur ++ [b]) r
def split (c : UInt8) (s : Str) : List Str := splitGo c [] s
/-- What stands ahead of the first such byte, and behind it. -/
def ahead (c : UInt8) (s : Str) : Str := s.takeWhile (· != c)
def behind (c : UInt8) (s : Str) : Str := (s.dropWhile (· != c)).drop 1

theorem splitGo_length (c : UInt8) : ∀ (s cur : Str), (splitGo c cur s).length ≤ s.length + 1 ∧ ∀ x ∈ splitGo c cur s, x.length ≤ cur.length + s.length := by
  intro s
  induction s with
  | nil => intro cur; simp [splitGo]
  | cons b r ih =>
    intro cur
    simp only [splitGo]
    split
    · obtain ⟨h1, h2⟩ := ih []
      refine ⟨by simp; omega, fun x hx => ?_⟩
      rcases List.mem_cons.1 hx with rfl | hx
      · simp
      · have := h2 x hx; simp at this; simp; omega
    · obtain ⟨h1, h2⟩ := ih (cur ++ [b])
      refine ⟨by simp; omega, fun x hx => ?_⟩
      have := h2 x hx; simp at this; simp; omega

theorem splitGo_not {c : UInt8} : ∀ {s : Str} (cur : Str), c ∉ s → splitGo c cur s = [cur ++ s] := by
  intro s
  induction s with
  | nil => intro cur _; simp [splitGo]
  | cons b r ih =>
    intro cur h
    simp only [List.mem_cons, not_or] at h
    simp only [splitGo]
    rw [if_neg fun e => h.1 e.symm, ih _ h.2]
    simp

theorem splitGo_cut {c : UInt8} : ∀ {s : Str} (cur : Str), c ∈ s → splitGo c cur s = (cur ++ ahead c s) :: splitGo c [] (behind c s) := by
  intro s
  induction s with
  | nil => intro cur h; simp at h
  | cons b r ih =>
    intro cur h
    simp only [splitGo]
    by_cases e : b = c
    · subst e
      simp [ahead, behind]
    · rw [if_neg e, ih _ (by simpa [Ne.symm e] using h)]
      simp [ahead, behind, e]

theorem split_not {c : UInt8} {s : Str} (h : c ∉ s) : split c s = [s] := splitGo_not [] h
theorem split_cut {c : UInt8} {s : Str} (h : c ∈ s) : split c s = ahead c s :: split c (behind c s) := splitGo_cut [] h
theorem splitGo_ne {c : UInt8} : ∀ (s cur : Str), splitGo c cur s ≠ [] := by
  intro s
  induction s with
  | nil => intro cur; simp [splitGo]
  | cons b r ih => intro cur; simp only [splitGo]; split <;> simp [ih]
theorem ahead_le (c : UInt8) (s : Str) : (ahead c s).length ≤ s.length := by
  have := (List.takeWhile_prefix (fun x => x != c) (l := s)).length_le
  exact this
theorem behind_le (c : UInt8) (s : Str) : (behind c s).length ≤ s.length := by
  have := (List.dropWhile_suffix (fun x => x != c) (l := s)).length_le
  simp only [behind, List.length_drop]
  omega
theorem ahead_not {c : UInt8} (s : Str) : c ∉ ahead c s := by
  induction s with
  | nil => simp [ahead]
  | cons b r ih =>
    unfold ahead
    rw [List.takeWhile_cons]
    split
    · rename_i h
      intro hm
      rcases List.mem_cons.1 hm with e | e
      · rw [← e] at h; simp at h
      · exact ih e
    · simp

theorem nameGo_mem : ∀ {s : Str} {f : Bool}, nameGo f s = true → ∀ b ∈ s, isSmall b = true ∨ isFigure b = true ∨ b = 45 := by
  intro s
  induction s with
  | nil => intro f _ b hb; simp at hb
  | cons c r ih =>
    intro f h b hb
    simp only [nameGo, Bool.and_eq_true, Bool.or_eq_true, beq_iff_eq] at h
    rcases List.mem_cons.1 hb with rfl | hb
    · rcases h.1 with h1 | h1
      · exact .inl h1
      · rcases h1.2 with h2 | h2
        · exact .inr (.inl h2)
        · exact .inr (.inr h2)
    · exact ih h.2 b hb
theorem nameOk_not {s : Str} (h : nameOk s = true) : (35 : UInt8) ∉ s ∧ (94 : UInt8) ∉ s := by
  simp only [nameOk, Bool.and_eq_true] at h
  constructor <;> intro hb <;> rcases nameGo_mem h.1 _ hb with h | h | h <;> revert h <;> decide
theorem nameOk_nil : nameOk [] = false := rfl
theorem ahead_all {c : UInt8} {s : Str} (h : c ∉ s) : ahead c s = s := by
  induction s with
  | nil => rfl
  | cons b r ih =>
    simp only [List.mem_cons, not_or] at h
    have : ahead c (b :: r) = b :: ahead c r := by simp [ahead, Ne.symm h.1]
    rw [this, ih h.2]
theorem behind_none {c : UInt8} {s : Str} (h : c ∉ s) : behind c s = [] := by
  induction s with
  | nil => rfl
  | cons b r ih =>
    simp only [List.mem_cons, not_or] at h
    have : behind c (b :: r) = behind c r := by simp [behind, Ne.symm h.1]
    rw [this, ih h.2]
/-! tasks -/
def parseTask (s : Str) : Str × Str × Bool := if nameOk (ahead 35 s) && nameOk (behind 35 s) then (ahead 35 s, behind 35 s, true) else ([], [], false)
def parseTaskV (s : Str) : List AV := [.one (Cell.str (bs (parseTask s).1)), .one (Cell.str (bs (parseTask s).2.1)), .one (Cell.bool (parseTask s).2.2)]
theorem not_mem_behind {c : UInt8} {s : Str} (h : c ∉ s) (d : UInt8) : d ∉ behind c s := by
  rw [behind_none h]
  simp
/-- A text without what stands ahead of it. -/
def trimP (p s : Str) : Str := if p.isPrefixOf s then s.drop p.length else s
def onOk (s : Str) : Bool := if 35 ∈ s then nameOk (ahead 35 s) && nameOk (behind 35 s) else nameOk (trimP [94] s)
/-! the order of texts -/
def lt (a b : Str) : Bool := Op.bytesLess a b
theorem lt_self (a : Str) : lt a a = false := by
  unfold lt
  induction a with
  | nil => rfl
  | cons x a ih => simp [Op.bytesLess, ih]
theorem lt_not : ∀ (a b : Str), (lt a b || a == b) = !lt b a := by
  unfold lt
  intro a
  induction a with
  | nil => intro b; cases b <;> rfl
  | cons x a ih =>
    intro b
    cases b with
    | nil => rfl
    | cons y b =>
      have h := ih b
      simp only [Op.bytesLess]
      have e : ((x :: a) == (y :: b)) = (x == y && a == b) := rfl
      rw [e]
      rcases Nat.lt_trichotomy x.toNat y.toNat with h1 | h1 | h1
      · have e1 : decide (x < y) = true := by simpa [UInt8.lt_iff_toNat_lt] using h1
        have e2 : decide (y < x) = false := by simp [UInt8.lt_iff_toNat_lt]; omega
        have e3 : (y == x) = false := by simp; intro e; rw [e] at h1; omega
        simp [e1, e2, e3]
      · have e0 := UInt8.toNat_inj.1 h1
        subst e0
        have e1 : decide (x < x) = false := by simp
        simp only [e1, Bool.false_or, beq_self_eq_true, Bool.true_and, h]
      · have e1 : decide (y < x) = true := by simpa [UInt8.lt_iff_toNat_lt] using h1
        have e2 : decide (x < y) = false := by simp [UInt8.lt_iff_toNat_lt]; omega
        have e3 : (x == y) = false := by simp; intro e; rw [e] at h1; omega
        simp [e1, e2, e3]
theorem bl_eq (a b : Str) : Op.bytesLess a b = lt a b := rfl
/-- Ascending, each text once. -/
def asc : List Str → Bool
  | [] => true
  | [_] => true
  | a :: b :: r => lt a b && asc (b :: r)
theorem wrap_pred {i : Nat} (h : i < Go.maxLen) : IntKind.i64.wrap (((i + 1 : Nat) : Int) - 1) = (i : Int) := by
  have := maxLen_eq
  rw [wrap_small (by omega) (by omega)]
  omega
theorem c_spec_l1Has (xs : List Str) (s : Str) (hx : xs.length ≤ 1073741824) : out run_spec_l1Has [.one (strsC xs), .one (Cell.str (bs s))] = some [.one (Cell.bool (xs.contains s))] := by
  have hM := maxLen_eq
  have loop : ∀ (r : List Str) (i n : Nat), xs.drop i = r → r.length < n → ∀ k m, spec_l1Has_l0 k m n (strsC xs) (bs s) i = some ([.one (Cell.bool (r.contains s))], []) := by
    intro r
    induction r with
    | nil =>
      intro i n hd hn k m
      obtain ⟨n, rfl⟩ : ∃ j, n = j + 1 := ⟨n - 1, by omega⟩
      have := drop_nil hd
      simp only [spec_l1Has_l0, lenC_encL, Option.bind_some]
      rw [decide_eq_false (by omega), cond_false]
      rfl
    | cons b r ih =>
      intro i n hd hn k m
      obtain ⟨n, rfl⟩ : ∃ j, n = j + 1 := ⟨n - 1, by omega⟩
      obtain ⟨hlt, hg, hd'⟩ := drop_cons hd
      simp only [List.length_cons] at hn
      simp only [spec_l1Has_l0, idxA_encL, hg, eStr, callS_canon, callL_canon, Option.map_some, Option.bind_some, shape_one, shape_agg, shape_nil, cellsAt_0, cellsAt_1, cellsAt_2, cellsAt_3, cells_one, cells_agg, cB_zero, cI_zero, cS_zero, cC_zero, cB_cons, cI_cons, cS_cons, cC_cons, cond_true, cond_false, List.length_cons, List.length_nil, beq_self_eq_true, Bool.and_true, Bool.true_and, lenC_encL, lenC_lst, deref_ref, emptyK_nil, bs_size, bs_toList]
      rw [decide_eq_true (by omega), cond_true, wrap_succ (by omega), ih (i + 1) n hd' (by omega), List.contains_cons]
      have : (b == s) = (s == b) := by rw [Bool.eq_iff_iff]; simp only [beq_iff_eq]; exact eq_comm
      rw [this]
      cases (s == b) <;> rfl
  refine out_of (H := []) (run_spec_l1Has_of (xs.length + 1) ?_)
  have := loop xs 0 (xs.length + 1 + 1) rfl (by omega) (xs.length + 1 + 1) (xs.length + 1 + 1)
  simpa [spec_l1Has] using this
/-- The place of a text in a list. -/
def idxS (s : Str) : List Str → Nat → Int
  | [], _ => -1
  | b :: r, i => if s = b then (i : Int) else idxS s r (i + 1)
theorem idxS_ge (s : Str) : ∀ (l : List Str) (i : Nat), (decide (idxS s l i ≥ 0)) = l.contains s := by
  intro l
  induction l with
  | nil => intro i; rfl
  | cons b r ih =>
    intro i
    rw [List.contains_cons]
    by_cases e : s = b
    · have e1 : idxS s (b :: r) i = (i : Int) := if_pos e
      rw [e1, show (s == b) = true by simpa using e, decide_eq_true (by omega)]; rfl
    · have e1 : idxS s (b :: r) i = idxS s r (i + 1) := if_neg e
      rw [e1, ih, show (s == b) = false by simpa using e]; rfl
theorem c_slices_Index_string (xs : List Str) (s : Str) (hx : xs.length ≤ 1073741824) : out run_slices_Index_string [.one (strsC xs), .one (Cell.str (bs s))] = some [.one (Cell.int (idxS s xs 0))] := by
  have hM := maxLen_eq
  have loop : ∀ (r : List Str) (i n : Nat), xs.drop i = r → r.length < n → ∀ k m, slices_Index_string_l0 k m n (strsC xs) (bs s) xs.length i = some ([.one (Cell.int (idxS s r i))], []) := by
    intro r
    induction r with
    | nil =>
      intro i n hd hn k m
      obtain ⟨n, rfl⟩ : ∃ j, n = j + 1 := ⟨n - 1, by omega⟩
      have := drop_nil hd
      simp only [slices_Index_string_l0]
      rw [decide_eq_false (by omega), cond_false]
      rfl
    | cons b r ih =>
      intro i n hd hn k m
      obtain ⟨n, rfl⟩ : ∃ j, n = j + 1 := ⟨n - 1, by omega⟩
      obtain ⟨hlt, hg, hd'⟩ := drop_cons hd
      simp only [List.length_cons] at hn
      simp only [slices_Index_string_l0, idxA_encL, hg, eStr, callS_canon, callL_canon, Option.map_some, Option.bind_some, shape_one, shape_agg, shape_nil, cellsAt_0, cellsAt_1, cellsAt_2, cellsAt_3, cells_one, cells_agg, cB_zero, cI_zero, cS_zero, cC_zero, cB_cons, cI_cons, cS_cons, cC_cons, cond_true, cond_false, List.length_cons, List.length_nil, beq_self_eq_true, Bool.and_true, Bool.true_and, lenC_encL, lenC_lst, deref_ref, emptyK_nil, bs_size, bs_toList]
      rw [decide_eq_true (by omega), cond_true, wrap_succ (by omega), ih (i + 1) n hd' (by omega)]
      simp only [idxS]
      by_cases e : s = b
      · rw [show (s == b) = true by simpa using e, if_pos e]; rfl
      · rw [show (s == b) = false by simpa using e, if_neg e]; rfl
  refine out_of (H := []) (run_slices_Index_string_of (xs.length + 1) ?_)
  have := loop xs 0 (xs.length + 1 + 1) rfl (by omega) (xs.length + 1 + 1) (xs.length + 1 + 1)
  simpa [slices_Index_string] using this
theorem c_slices_Contains_string (xs : List Str) (s : Str) (hx : xs.length ≤ 1073741824) : out run_slices_Contains_string [.one (strsC xs), .one (Cell.str (bs s))] = some [.one (Cell.bool (xs.contains s))] := by
  refine out_of (H := []) (run_slices_Contains_string_of 0 ?_)
  simp only [slices_Contains_string, c_slices_Index_string xs s hx, callS_canon, callL_canon, Option.map_some, Option.bind_some, shape_one, shape_agg, shape_nil, cellsAt_0, cellsAt_1, cellsAt_2, cellsAt_3, cells_one, cells_agg, cB_zero, cI_zero, cS_zero, cC_zero, cB_cons, cI_cons, cS_cons, cC_cons, cond_true, cond_false, List.length_cons, List.length_nil, beq_self_eq_true, Bool.and_true, Bool.true_and, lenC_encL, lenC_lst, deref_ref, emptyK_nil, bs_size, bs_toList, idxS_ge]
theorem idxS_nat (s : Str) : ∀ (l : List Str) (i : Nat), (idxS s l i = -1 ∧ s ∉ l) ∨ ∃ j x, idxS s l i = ((i + j : Nat) : Int) ∧ l[j]? = some x := by
  intro l
  induction l with
  | nil => intro i; exact .inl ⟨rfl, by simp⟩
  | cons b r ih =>
    intro i
    by_cases e : s = b
    · exact .inr ⟨0, b, by simp [idxS, e], rfl⟩
    · rcases ih (i + 1) with ⟨h1, h2⟩ | ⟨j, x, h1, h2⟩
      · exact .inl ⟨by simp [idxS, e, h1], by simp [e, h2]⟩
      · exact .inr ⟨j + 1, x, by simp only [idxS, if_neg e, h1]; congr 1; omega, by simpa using h2⟩
/-- What a name leans on. -/
def nextOf (names : List Str) (next : List (List Str)) (s : Str) : List Str := if idxS s names 0 < 0 then [] else (next[(idxS s names 0).toNat]?).getD []
theorem idxS_take (s : Str) (n : Nat) : ∀ (l : List Str) (i : Nat), (idxS s (l.take n) i = idxS s l i ∧ idxS s l i < ((i + n : Nat) : Int)) ∨ (idxS s (l.take n) i = -1 ∧ ((i + n : Nat) : Int) ≤ idxS s l i) := by
  induction n with
  | zero =>
    intro l i
    rcases idxS_nat s l i with ⟨h1, _⟩ | ⟨j, x, h1, _⟩
    · exact .inl ⟨by rw [h1]; rfl, by rw [h1]; omega⟩
    · exact .inr ⟨rfl, by rw [h1]; omega⟩
  | succ n ih =>
    intro l i
    cases l with
    | nil => exact .inl ⟨rfl, by simp only [idxS]; omega⟩
    | cons b r =>
      by_cases e : s = b
      · exact .inl ⟨by simp [idxS, e], by simp only [idxS, if_pos e]; omega⟩
      · simp only [List.take_succ_cons, idxS, if_neg e]
        have := ih r (i + 1)
        rw [show i + 1 + n = i + (n + 1) by omega] at this
        exact this
/-- What names lean on is not asked behind the shorter of both. -/
theorem nextOf_take (names : List Str) (next : List (List Str)) (s : Str) : nextOf (names.take (min names.length next.length)) (next.take (min names.length next.length)) s = nextOf names next s := by
  unfold nextOf
  rcases idxS_take s (min names.length next.length) names 0 with ⟨h1, h2⟩ | ⟨h1, h2⟩
  · rw [h1]
    split
    · rfl
    · rw [List.getElem?_take, if_pos (by omega)]
  · rw [h1, if_pos (by omega), if_neg (by omega)]
    rcases idxS_nat s names 0 with ⟨h3, _⟩ | ⟨j, x, h3, h4⟩
    · rw [h3] at h2; omega
    · have hj := (List.getElem?_eq_some_iff.1 h4).1
      rw [h3] at h2 ⊢
      rw [List.getElem?_eq_none (by omega)]
      rfl
theorem c_spec_l11At (xs : List Str) (c : Cell) [Canon c] (s : Str) (hx : xs.length ≤ 1073741824) : out run_spec_l11At [.agg [strsC xs, c], .one (Cell.str (bs s))] = some [.one (Cell.int (idxS s xs 0))] := by
  have hM := maxLen_eq
  have loop : ∀ (r : List Str) (i n : Nat), xs.drop i = r → r.length < n → ∀ k m, spec_l11At_l0 k m n (bs s) i (strsC xs) c = some ([.one (Cell.int (idxS s r i))], []) := by
    intro r
    induction r with
    | nil =>
      intro i n hd hn k m
      obtain ⟨n, rfl⟩ : ∃ j, n = j + 1 := ⟨n - 1, by omega⟩
      have := drop_nil hd
      simp only [spec_l11At_l0, lenC_encL, Option.bind_some]
      rw [decide_eq_false (by omega), cond_false]
      rfl
    | cons b r ih =>
      intro i n hd hn k m
      obtain ⟨n, rfl⟩ : ∃ j, n = j + 1 := ⟨n - 1, by omega⟩
      obtain ⟨hlt, hg, hd'⟩ := drop_cons hd
      simp only [List.length_cons] at hn
      simp only [spec_l11At_l0, idxA_encL, hg, eStr, callS_canon, callL_canon, Option.map_some, Option.bind_some, shape_one, shape_agg, shape_nil, cellsAt_0, cellsAt_1, cellsAt_2, cellsAt_3, cells_one, cells_agg, cB_zero, cI_zero, cS_zero, cC_zero, cB_cons, cI_cons, cS_cons, cC_cons, cond_true, cond_false, List.length_cons, List.length_nil, beq_self_eq_true, Bool.and_true, Bool.true_and, lenC_encL, lenC_lst, deref_ref, emptyK_nil, bs_size, bs_toList]
      rw [decide_eq_true (by omega), cond_true, wrap_succ (by omega), ih (i + 1) n hd' (by omega)]
      simp only [idxS]
      by_cases e : s = b
      · rw [show (b == s) = true by simpa using e.symm, if_pos e]; rfl
      · rw [show (b == s) = false by simpa using Ne.symm e, if_neg e]; rfl
  refine out_of (H := []) (run_spec_l11At_of (xs.length + 1) ?_)
  have := loop xs 0 (xs.length + 1 + 1) rfl (by omega) (xs.length + 1 + 1) (xs.length + 1 + 1)
  simpa [spec_l11At] using this
theorem c_spec_l11Next (xs : List Str) (ds : List (List Str)) (s : Str) (hx : xs.length ≤ 1073741824) (hl : xs.length = ds.length) : outL run_spec_l11Next [.agg [strsC xs, encL 1 eStrs ds], .one (Cell.str (bs s))] = some [.one (strsC (nextOf xs ds s))] := by
  rcases idxS_nat s xs 0 with ⟨h1, _⟩ | ⟨j, x, h1, h2⟩
  · refine outL_of (H := []) (xs := [.one (.lst true 1 [])]) (run_spec_l11Next_of 0 ?_) ?_
    · simp only [spec_l11Next, c_spec_l11At xs _ s hx, callS_canon, callL_canon, Option.map_some, Option.bind_some, shape_one, shape_agg, shape_nil, cellsAt_0, cellsAt_1, cellsAt_2, cellsAt_3, cells_one, cells_agg, cB_zero, cI_zero, cS_zero, cC_zero, cB_cons, cI_cons, cS_cons, cC_cons, cond_true, cond_false, List.length_cons, List.length_nil, beq_self_eq_true, Bool.and_true, Bool.true_and, lenC_encL, lenC_lst, deref_ref, emptyK_nil, bs_size, bs_toList, h1]
      rfl
    · rw [nextOf, h1, if_pos (by omega)]
      rfl
  · have hj := (List.getElem?_eq_some_iff.1 h2).1
    obtain ⟨d, hd⟩ : ∃ d, ds[j]? = some d := ⟨ds[j], List.getElem?_eq_getElem (by omega)⟩
    have e : nextOf xs ds s = d := by
      rw [nextOf, h1, if_neg (by omega)]
      simp [hd]
    rw [e]
    refine outL_canon (H := []) (run_spec_l11Next_of 0 ?_)
    simp only [spec_l11Next, c_spec_l11At xs _ s hx, callS_canon, callL_canon, Option.map_some, Option.bind_some, shape_one, shape_agg, shape_nil, cellsAt_0, cellsAt_1, cellsAt_2, cellsAt_3, cells_one, cells_agg, cB_zero, cI_zero, cS_zero, cC_zero, cB_cons, cI_cons, cS_cons, cC_cons, cond_true, cond_false, List.length_cons, List.length_nil, beq_self_eq_true, Bool.and_true, Bool.true_and, lenC_encL, lenC_lst, deref_ref, emptyK_nil, bs_size, bs_toList, h1]
    rw [decide_eq_false (by omega), cond_false, Nat.zero_add]
    simp only [idxA_encL, hd, eStrs, callS_canon, callL_canon, Option.map_some, Option.bind_some, shape_one, shape_agg, shape_nil, cellsAt_0, cellsAt_1, cellsAt_2, cellsAt_3, cells_one, cells_agg, cB_zero, cI_zero, cS_zero, cC_zero, cB_cons, cI_cons, cS_cons, cC_cons, cond_true, cond_false, List.length_cons, List.length_nil, beq_self_eq_true, Bool.and_true, Bool.true_and, lenC_encL, lenC_lst, deref_ref, emptyK_nil, bs_size, bs_toList]
theorem strs_rep (xs : List Str) (H : List Entry) (w q : Bool) : ∀ x ∈ xs, ∀ H', Sp (Rep H' true true 1) [] (eStr x) (trStr x) := fun x _ H' => Sp.leaf1 _
theorem f_slices_Clone_string (xs : List Str) (hx : xs.length ≤ 1073741824) : Fresh run_slices_Clone_string true 2 [.one (strsC xs)] [.one (trL 1 trStr xs)] := by
  obtain ⟨p, h1, h2⟩ := (Grow.nil 1).app (by' := 16) (xs.map eStr) (by unfold bound; simp; omega) (by unfold bound; simp; omega)
  rw [List.nil_append] at h2
  obtain ⟨ids, h3, h4, h5⟩ := h2.rep (tr := trStr) (fun _ _ => rfl) (fun x _ H' => Sp.leaf1 _)
  refine Fresh.one (c := p.1) (H := p.2) (run_slices_Clone_string_of 0 ?_) h3 h4
  have hs : srcRows [] 1 (strsC xs) = some (xs.map eStr) := by simp [srcRows, rowsOf, encL]
  simp only [slices_Clone_string, hs, h1, callS_canon, callL_canon, Option.map_some, Option.bind_some, shape_one, shape_agg, shape_nil, cellsAt_0, cellsAt_1, cellsAt_2, cellsAt_3, cells_one, cells_agg, cB_zero, cI_zero, cS_zero, cC_zero, cB_cons, cI_cons, cS_cons, cC_cons, cond_true, cond_false, List.length_cons, List.length_nil, beq_self_eq_true, Bool.and_true, Bool.true_and, lenC_encL, lenC_lst, deref_ref, emptyK_nil, bs_size, bs_toList]
  cases xs with
  | nil =>
    simp only [List.map_nil, app, List.isEmpty_nil, if_true, Option.some.injEq] at h1
    subst h1
    simp [nilC, encL, both]
  | cons x xs => simp [nilC, encL]
/-- The place of the first element that answers. -/
def idxF {α : Type} (p : α → Bool) : List α → Nat → Int
  | [], _ => -1
  | x :: r, i => cond (p x) (i : Int) (idxF p r (i + 1))
theorem idxF_find {α : Type} (p : α → Bool) : ∀ (l : List α) (i : Nat), (idxF p l i = -1 ∧ l.find? p = none) ∨ ∃ (j : Nat) (x : α), idxF p l i = ((i + j : Nat) : Int) ∧ l[j]? = some x ∧ l.find? p = some x := by
  intro l
  induction l with
  | nil => intro i; exact .inl ⟨rfl, rfl⟩
  | cons b r ih =>
    intro i
    by_cases e : p b = true
    · exact .inr ⟨0, b, by simp [idxF, e], rfl, by simp [e]⟩
    · rcases ih (i + 1) with ⟨h1, h2⟩ | ⟨j, x, h1, h2, h3⟩
      · exact .inl ⟨by simp [idxF, e, h1], by simp [e, h2]⟩
      · exact .inr ⟨j + 1, x, by simp only [idxF, Bool.eq_false_iff.2 e, cond_false, h1]; congr 1; omega, by simpa using h2, by simp [e, h3]⟩
/-- What a name leans on is in order already, or is no name. -/
def readyB (names : List Str) (next : List (List Str)) (s : Str) (done : List Str) : Bool := (nextOf names next s).all fun x => !(names.contains x && !done.contains x)
def freeB (names : List Str) (next : List (List Str)) (done : List Str) (s : Str) : Bool := !done.contains s && readyB names next s done
def orderGo (names : List Str) (next : List (List Str)) : Nat → List Str → List Str × Bool
  | 0, o => (o, true)
  | d + 1, o => match names.find? (freeB names next o) with
    | some s => orderGo names next d (o ++ [s])
    | none => ([], false)
def orderOf (names : List Str) (next : List (List Str)) : List Str × Bool := orderGo names next names.length []
theorem orderGo_le (names : List Str) (next : List (List Str)) : ∀ (d : Nat) (o : List Str), (orderGo names next d o).1.length ≤ d + o.length ∧ ∀ x ∈ (orderGo names next d o).1, x ∈ o ∨ x ∈ names := by
  intro d
  induction d with
  | zero => intro o; exact ⟨by simp [orderGo], fun x hx => .inl hx⟩
  | succ d ih =>
    intro o
    simp only [orderGo]
    split
    · rename_i s hs
      obtain ⟨h1, h2⟩ := ih (o ++ [s])
      refine ⟨by simp at h1; omega, fun x hx => ?_⟩
      rcases h2 x hx with h | h
      · rcases List.mem_append.1 h with h | h
        · exact .inl h
        · simp only [List.mem_singleton] at h
          subst h
          exact .inr (List.mem_of_find?_eq_some hs)
      · exact .inr h
    · exact ⟨by simp, by simp⟩
theorem orderOf_le (names : List Str) (next : List (List Str)) : (orderOf names next).1.length ≤ names.length ∧ ∀ x ∈ (orderOf names next).1, x ∈ names := by
  obtain ⟨h1, h2⟩ := orderGo_le names next names.length []
  exact ⟨by simpa [orderOf] using h1, fun x hx => (h2 x hx).resolve_left (by simp)⟩
theorem nextOf_le {names : List Str} {next : List (List Str)} (h : ∀ d ∈ next, d.length ≤ 1073741824) (s : Str) : (nextOf names next s).length ≤ 1073741824 := by
  unfold nextOf
  split
  · simp
  · cases hd : next[(idxS s names 0).toNat]? with
    | none => simp
    | some d => exact h d (List.mem_of_getElem? hd)
theorem gm_onOf {H : List Entry} {ids : List Nat} {g : Nat} {names : List Str} {next : List (List Str)} (h : GraphM H ids g names next) (h1 : names.length ≤ 1073741824) (s : Str) :
    ∃ d, run_impl_graph_onOf [.one (.ptr g 2 0 0 0), .one (Cell.str (bs s))] H = some ([.one d], H) ∧ ListM H ids d (nextOf names next s) := by
  obtain ⟨_, _, hlen, cn, co, fr, he, hn, ho⟩ := h
  have d0 : deref H (.ptr g 2 0 0 0) = some ([cn, co], 0) := by simp [deref, entry?, he]
  have d1 : deref H (.ptr g 2 0 1 0) = some ([cn, co], 1) := by simp [deref, entry?, he]
  have q1 : callS run_slices_Index_string [.one cn, .one (Cell.str (bs s))] H = some [.one (Cell.int (idxS s names 0))] := by
    rw [callS_of (mapO_c hn.read (mapO_c (reifyAV_canon _ _ _) (mapO_nil' _)))]
    exact c_slices_Index_string names s h1
  rcases idxS_nat s names 0 with ⟨e1, _⟩ | ⟨j, x, e1, e2⟩
  · refine ⟨.lst true 1 [], run_impl_graph_onOf_of 0 ?_, ?_⟩
    · simp only [impl_graph_onOf, ptrC, fldA_ptr, Nat.zero_add, d0, q1, e1, callS_canon, callL_canon, Option.map_some, Option.bind_some, shape_one, shape_agg, shape_nil, cellsAt_0, cellsAt_1, cellsAt_2, cellsAt_3, cells_one, cells_agg, cB_zero, cI_zero, cS_zero, cC_zero, cB_cons, cI_cons, cS_cons, cC_cons, cond_true, cond_false, List.length_cons, List.length_nil, beq_self_eq_true, Bool.and_true, Bool.true_and, lenC_encL, lenC_lst, deref_ref, emptyK_nil, bs_size, bs_toList]
      rfl
    · rw [nextOf, e1, if_pos (by omega)]
      exact .nil _ _
  · have hj := (List.getElem?_eq_some_iff.1 e2).1
    obtain ⟨d, hd⟩ : ∃ d, next[j]? = some d := ⟨next[j], List.getElem?_eq_getElem (by omega)⟩
    have e : nextOf names next s = d := by
      rw [nextOf, e1, if_neg (by omega)]
      simp [hd]
    rw [e]
    obtain ⟨a, dc, i1, i2, i3⟩ := ho.at hd
    refine ⟨dc, run_impl_graph_onOf_of 0 ?_, i3⟩
    simp only [impl_graph_onOf, ptrC, fldA_ptr, Nat.zero_add, d0, q1, e1, callS_canon, callL_canon, Option.map_some, Option.bind_some, shape_one, shape_agg, shape_nil, cellsAt_0, cellsAt_1, cellsAt_2, cellsAt_3, cells_one, cells_agg, cB_zero, cI_zero, cS_zero, cC_zero, cB_cons, cI_cons, cS_cons, cC_cons, cond_true, cond_false, List.length_cons, List.length_nil, beq_self_eq_true, Bool.and_true, Bool.true_and, lenC_encL, lenC_lst, deref_ref, emptyK_nil, bs_size, bs_toList]
    rw [decide_eq_false (by omega), cond_false]
    simp only [d1, cC_cons, cC_zero, i1, i2, Option.bind_some]
theorem c_spec_l11Packs (l : List MPack) (hl : bdL 1048576 (MPack.Bd 1048576) l) : outL run_spec_l11Packs [.one (encL 4 MPack.enc l)] = some [.agg [strsC (l.map (·.Name)), encL 1 eStrs (l.map (·.Uses))]] := by
  have hM := maxLen_eq
  have hxl := hl.1
  have loop : ∀ (r : List MPack) (i n : Nat) (c6 c7 : Cell) (H : List Entry), l.drop i = r → i + r.length = l.length → r.length < n → Two H c6 c7 ((l.take i).map (·.Name)) ((l.take i).map (·.Uses)) → ∀ k m,
      ∃ c6' c7' H', spec_l11Packs_l0 k m n (encL 4 MPack.enc l) i c6 c7 H = some ([.agg [c6', c7']], H') ∧ Two H' c6' c7' (l.map (·.Name)) (l.map (·.Uses)) := by
    intro r
    induction r with
    | nil =>
      intro i n c6 c7 H hd hi hn ht k m
      obtain ⟨n, rfl⟩ : ∃ j, n = j + 1 := ⟨n - 1, by omega⟩
      have h1 := drop_nil hd
      rw [List.take_of_length_le h1] at ht
      refine ⟨c6, c7, H, ?_, ht⟩
      simp only [spec_l11Packs_l0, lenC_encL, Option.bind_some]
      rw [decide_eq_false (by omega), cond_false]
    | cons x r ih =>
      intro i n c6 c7 H hd hi hn ht k m
      obtain ⟨n, rfl⟩ : ∃ j, n = j + 1 := ⟨n - 1, by omega⟩
      obtain ⟨hlt, hx, hd'⟩ := drop_cons hd
      simp only [List.length_cons] at hn hi
      have hb := hl.2 x (List.mem_of_getElem? hx)
      have e1 : ∀ {β : Type} (f : MPack → β), (l.take i).map f ++ [f x] = (l.take (i + 1)).map f := fun f => by rw [List.take_add_one, hx]; simp
      obtain ⟨p, q, s, a1, a2, a3, ht'⟩ := ht.step x.Name x.Uses (by simp; omega) (by simp; omega) hb.2.1.1
      rw [e1, e1] at ht'
      obtain ⟨c6', c7', H', z1, z2⟩ := ih (i + 1) n p.1 s.1 s.2 hd' (by omega) (by omega) ht' k m
      refine ⟨c6', c7', H', ?_, z2⟩
      simp only [spec_l11Packs_l0, lenC_encL, Option.bind_some]
      rw [decide_eq_true (by omega), cond_true]
      simp only [idxA_encL, hx, MPack.enc, fldA_ref, Nat.zero_add, src_one, a1, a2, a3, callS_canon, callL_canon, Option.map_some, Option.bind_some, shape_one, shape_agg, shape_nil, cellsAt_0, cellsAt_1, cellsAt_2, cellsAt_3, cells_one, cells_agg, cB_zero, cI_zero, cS_zero, cC_zero, cB_cons, cI_cons, cS_cons, cC_cons, cond_true, cond_false, List.length_cons, List.length_nil, beq_self_eq_true, Bool.and_true, Bool.true_and, lenC_encL, lenC_lst, deref_ref, emptyK_nil, bs_size, bs_toList]
      have hs : srcRows (p.2 ++ [Entry.mk 1 [] 0 false]) 1 (encL 1 eStr x.Uses) = some (x.Uses.map eStr) := src_strs _ _
      simp only [hs, a2, a3, src_one, Option.bind_some]
      rw [wrap_succ (by omega)]
      exact z1
  obtain ⟨c6, c7, H, h1, h2⟩ := loop l 0 (l.length + 1 + 1) (.lst true 1 []) (.lst true 1 []) [] rfl (by omega) (by omega) Two.nil (l.length + 1 + 1) (l.length + 1 + 1)
  exact outL_of (H := H) (run_spec_l11Packs_of (l.length + 1) h1) h2.read
/-- The heap of a graph of packs. -/
def gHeap (ns : List Str) (us : List (List Str)) (H : List Entry) : Prop :=
  (ns = [] ∧ us = [] ∧ H = [Entry.mk 2 [[.lst true 1 [], .lst true 1 []]] 0 false]) ∨
    ∃ e1 e2, H = [Entry.mk 2 [[.vs 1 1 0 ns.length e1, .vs 2 1 0 us.length e2]] 0 false, Entry.mk 1 (ns.map eStr) e1 false, Entry.mk 1 (us.map eStrs) e2 false]
theorem gHeap.step {ns : List Str} {us : List (List Str)} {H : List Entry} (h : gHeap ns us H) (t : Str) (e : List Str) (h1 : ns.length < 1048576) (h2 : us.length < 1048576) :
    ∃ c0 p H1 c1 q H2, (deref H (.ptr 0 2 0 0 0)).bind (fun p => cC p.1 p.2) = some c0 ∧ app H 1 16 c0 [[Cell.str (bs t)]] = some p ∧ hStore p.2 (.ptr 0 2 0 0 0) [p.1] = some H1 ∧
      (deref H1 (.ptr 0 2 0 1 0)).bind (fun p => cC p.1 p.2) = some c1 ∧ app H1 1 24 c1 [[strsC e]] = some q ∧ hStore q.2 (.ptr 0 2 0 1 0) [q.1] = some H2 ∧ gHeap (ns ++ [t]) (us ++ [e]) H2 := by
  rcases h with ⟨rfl, rfl, rfl⟩ | ⟨e1, e2, rfl⟩
  · refine ⟨.lst true 1 [], (.vs 1 1 0 1 0, _), _, .lst true 1 [], (.vs 2 1 0 1 0, _), _, rfl, rfl, rfl, rfl, rfl, rfl, .inr ⟨0, 0, rfl⟩⟩
  · refine ⟨.vs 1 1 0 ns.length e1, (.vs 1 1 0 (ns.length + 1) (e1 + 1), [Entry.mk 2 [[.vs 1 1 0 ns.length e1, .vs 2 1 0 us.length e2]] 0 false, Entry.mk 1 (ns.map eStr ++ [eStr t]) (e1 + 1) false, Entry.mk 1 (us.map eStrs) e2 false]), _, .vs 2 1 0 us.length e2,
      (.vs 2 1 0 (us.length + 1) (e2 + 1), [Entry.mk 2 [[.vs 1 1 0 (ns.length + 1) (e1 + 1), .vs 2 1 0 us.length e2]] 0 false, Entry.mk 1 (ns.map eStr ++ [eStr t]) (e1 + 1) false, Entry.mk 1 (us.map eStrs ++ [eStrs e]) (e2 + 1) false]), _, rfl, ?_, rfl, rfl, ?_, rfl, .inr ⟨e1 + 1, e2 + 1, ?_⟩⟩
    · simp only [app, entry?, List.getElem?_cons_succ, List.getElem?_cons_zero, if_true, List.length_map, Nat.zero_add, List.length_singleton]
      rw [if_pos ⟨trivial, Nat.le_refl _, .inl trivial, by unfold bound; omega, by unfold bound; omega⟩]
      simp [eStr, List.take_of_length_le]
    · simp only [app, entry?, List.set_cons_succ, List.set_cons_zero, List.getElem?_cons_succ, List.getElem?_cons_zero, if_true, List.length_map, Nat.zero_add, List.length_singleton]
      rw [if_pos ⟨trivial, Nat.le_refl _, .inl trivial, by unfold bound; omega, by unfold bound; omega⟩]
      simp [eStrs, List.take_of_length_le, splice]
    · simp [splice]
theorem g_impl_graphOf (l : List MPack) (hl : bdL 1048576 (MPack.Bd 1048576) l) : ∃ H, gHeap (l.map (·.Name)) (l.map (·.Uses)) H ∧ run_impl_graphOf [.one (encL 4 MPack.enc l)] [] = some ([.one (.ptr 0 2 0 0 0)], H) := by
  have hM := maxLen_eq
  have hxl := hl.1
  have loop : ∀ (r : List MPack) (i n : Nat) (H : List Entry), l.drop i = r → i + r.length = l.length → r.length < n → gHeap ((l.take i).map (·.Name)) ((l.take i).map (·.Uses)) H → ∀ k m,
      ∃ H', impl_graphOf_l0 k m n (.ptr 0 2 0 0 0) (encL 4 MPack.enc l) l.length i H = some ([.one (.ptr 0 2 0 0 0)], H') ∧ gHeap (l.map (·.Name)) (l.map (·.Uses)) H' := by
    intro r
    induction r with
    | nil =>
      intro i n H hd hi hn ht k m
      obtain ⟨n, rfl⟩ : ∃ j, n = j + 1 := ⟨n - 1, by omega⟩
      have h1 := drop_nil hd
      rw [List.take_of_length_le h1] at ht
      refine ⟨H, ?_, ht⟩
      simp only [impl_graphOf_l0]
      rw [decide_eq_false (by omega), cond_false]
    | cons x r ih =>
      intro i n H hd hi hn ht k m
      obtain ⟨n, rfl⟩ : ∃ j, n = j + 1 := ⟨n - 1, by omega⟩
      obtain ⟨hlt, hx, hd'⟩ := drop_cons hd
      simp only [List.length_cons] at hn hi
      have e1 : ∀ {β : Type} (f : MPack → β), (l.take i).map f ++ [f x] = (l.take (i + 1)).map f := fun f => by rw [List.take_add_one, hx]; simp
      obtain ⟨c0, p, H1, c1, q, H2, a1, a2, a3, a4, a5, a6, ht'⟩ := ht.step x.Name x.Uses (by simp; omega) (by simp; omega)
      rw [e1, e1] at ht'
      obtain ⟨H', z1, z2⟩ := ih (i + 1) n H2 hd' (by omega) (by omega) ht' k m
      refine ⟨H', ?_, z2⟩
      have hrk : ∀ (f : List Cell → Option Res), restK [encL 1 eStr x.Uses] f = f [strsC x.Uses] := fun f => by simp [restK, mapO, pureC, encL]
      have hsr : ∀ G, srcRows G 1 (.lst true 1 (chunks 1 1 [strsC x.Uses])) = some [[strsC x.Uses]] := fun G => by simp [srcRows, rowsOf, chunks]
      obtain ⟨d1, b1, b2⟩ := Option.bind_eq_some_iff.1 a1
      obtain ⟨d4, b4, b5⟩ := Option.bind_eq_some_iff.1 a4
      simp only [impl_graphOf_l0]
      rw [decide_eq_true (by omega), cond_true]
      simp only [idxA_encL, hx, MPack.enc, callS_canon, callL_canon, Option.map_some, Option.bind_some, shape_one, shape_agg, shape_nil, cellsAt_0, cellsAt_1, cellsAt_2, cellsAt_3, cells_one, cells_agg, cB_zero, cI_zero, cS_zero, cC_zero, cB_cons, cI_cons, cS_cons, cC_cons, cond_true, cond_false, List.length_cons, List.length_nil, beq_self_eq_true, Bool.and_true, Bool.true_and, lenC_encL, lenC_lst, deref_ref, emptyK_nil, bs_size, bs_toList]
      simp only [ptrC, fldA_ptr, Nat.zero_add, Option.bind_some, b1, b2, a2, a3, b4, b5, hrk, hsr, a5, a6]
      rw [wrap_succ (by omega)]
      exact z1
  obtain ⟨H, h1, h2⟩ := loop l 0 (l.length + 1 + 1) [Entry.mk 2 [[.lst true 1 [], .lst true 1 []]] 0 false] rfl (by omega) (by omega) (.inl ⟨rfl, rfl, rfl⟩) (l.length + 1 + 1) (l.length + 1 + 1)
  refine ⟨H, h2, run_impl_graphOf_of (l.length + 1) ?_⟩
  simpa [impl_graphOf] using h1
theorem gHeap.graph {ns : List Str} {us : List (List Str)} {H : List Entry} (h : gHeap ns us H) (hl : ns.length = us.length) : ∃ ids, GraphM H ids 0 ns us := by
  rcases h with ⟨rfl, rfl, rfl⟩ | ⟨e1, e2, rfl⟩
  · exact ⟨[0], by simp, by simp, rfl, .lst true 1 [], .lst true 1 [], false, rfl, .nil _ _, .inl ⟨rfl, rfl⟩⟩
  · refine ⟨[0, 1, 2], by simp, by simp, hl, _, _, false, rfl, ?_, .inr ⟨2, e2, false, us.map eStrs, rfl, by simp, rfl, by simp, fun j xs hj => ⟨strsC xs, by rw [List.getElem?_map, hj]; rfl, (ListM.canon _ _).mono (by simp)⟩⟩⟩
    have := (GrowAt.list (A := [Entry.mk 2 [[.vs 1 1 0 ns.length e1, .vs 2 1 0 us.length e2]] 0 false]) (T := [Entry.mk 1 (ns.map eStr) e1 false]) (c := .vs 1 1 0 ns.length e1) (xs := ns) (.inr ⟨e1, by simp, rfl⟩))
    obtain ⟨is, r1, r2, r3⟩ := this
    refine ((ListM.of (n := 2) (r1.app [Entry.mk 1 (us.map eStrs) e2 false])).mono fun j hj => ?_ :)
    have := r3 j hj
    simp at this
    simp [this]
theorem packs_next {l : List MPack} (hl : bdL 1048576 (MPack.Bd 1048576) l) : ∀ d ∈ l.map (·.Uses), d.length ≤ 1073741824 := fun d hd => by
  obtain ⟨p, hp, rfl⟩ := List.mem_map.1 hd
  exact Nat.le_trans (hl.2 p hp).2.1.1 (by omega)
/-! texts in their order, each once -/
theorem lt_iff : ∀ (a b : Str), lt a b = true ↔ a < b := by
  intro a
  unfold lt
  induction a with
  | nil => intro b; cases b <;> simp [Op.bytesLess]
  | cons x a ih =>
    intro b
    cases b with
    | nil => simp [Op.bytesLess]
    | cons y b => rw [List.cons_lt_cons_iff, ← ih b]; simp [Op.bytesLess]
theorem strict_unique : ∀ {a b : List Str}, a.Pairwise (· < ·) → b.Pairwise (· < ·) → (∀ x, x ∈ a ↔ x ∈ b) → a = b := by
  intro a
  induction a with
  | nil =>
    intro b _ _ h
    cases b with
    | nil => rfl
    | cons y b => exact absurd ((h y).2 List.mem_cons_self) (by simp)
  | cons x a ih =>
    intro b ha hb h
    cases b with
    | nil => exact absurd ((h x).1 List.mem_cons_self) (by simp)
    | cons y b =>
      obtain ⟨a1, a2⟩ := List.pairwise_cons.1 ha
      obtain ⟨b1, b2⟩ := List.pairwise_cons.1 hb
      have hxy : x = y := by
        rcases List.mem_cons.1 ((h x).1 List.mem_cons_self) with e | e
        · exact e
        · rcases List.mem_cons.1 ((h y).2 List.mem_cons_self) with e' | e'
          · exact e'.symm
          · exact absurd (List.lt_trans (b1 x e) (a1 y e')) (List.lt_irrefl _)
      subst hxy
      congr 1
      refine ih a2 b2 fun z => ⟨fun hz => ?_, fun hz => ?_⟩
      · rcases List.mem_cons.1 ((h z).1 (List.mem_cons_of_mem _ hz)) with rfl | e
        · exact absurd (a1 z hz) (List.lt_irrefl _)
        · exact e
      · rcases List.mem_cons.1 ((h z).2 (List.mem_cons_of_mem _ hz)) with rfl | e
        · exact absurd (b1 z hz) (List.lt_irrefl _)
        · exact e
def sortedU (xs : List Str) : List Str := Lib.compact (sortS xs)
theorem sortedU_spec (xs : List Str) : (sortedU xs).Pairwise (· < ·) ∧ ∀ x, x ∈ sortedU xs ↔ x ∈ xs := by
  have hp : (sortS xs).Pairwise (fun a b => a ≤ b) := by
    have := List.pairwise_mergeSort (le := fun x y : Str => decide (x ≤ y)) (fun a b c h1 h2 => by simp only [decide_eq_true_eq] at *; exact List.le_trans h1 h2) (fun a b => by simpa using List.le_total a b) xs
    simpa [sortS] using this
  have hm : ∀ x, x ∈ sortS xs ↔ x ∈ xs := fun x => List.mem_mergeSort
  generalize hs : sortS xs = s at hp hm
  have key : ∀ m, m < s.length → ∃ C, Lib.compactUpTo s.toArray (m + 1) = C ++ [s[m]!] ∧ (C ++ [s[m]!]).Pairwise (· < ·) ∧ ∀ x, x ∈ C ++ [s[m]!] ↔ x ∈ s.take (m + 1) := by
    intro m
    induction m with
    | zero =>
      intro h
      obtain ⟨x, r, rfl⟩ : ∃ x r, s = x :: r := by cases s with | nil => simp at h | cons x r => exact ⟨x, r, rfl⟩
      exact ⟨[], by rw [Lib.compactUpTo_succ]; simp [Lib.compactUpTo, Lib.keeps], by simp, by simp⟩
    | succ m ih =>
      intro h
      obtain ⟨C, h1, h2, h3⟩ := ih (by omega)
      have e0 : s[m]! = s[m] := by simp [show m < s.length by omega]
      have e1 : s[m + 1]! = s[m + 1] := by simp [h]
      have ht : s.take (m + 1 + 1) = s.take (m + 1) ++ [s[m + 1]] := by rw [List.take_add_one, List.getElem?_eq_getElem h]; rfl
      have hle : s[m] ≤ s[m + 1] := List.pairwise_iff_getElem.1 hp m (m + 1) (by omega) h (by omega)
      rw [Lib.compactUpTo_succ, h1]
      have hk : Lib.keeps s.toArray (m + 1) = decide (s[m + 1] ≠ s[m]) := by
        simp [Lib.keeps, h, show m < s.length by omega]
      rw [hk, e1, ht]
      by_cases he : s[m + 1] = s[m]
      · refine ⟨C, by simp [he, e0], by rw [he, ← e0]; exact h2, fun x => ?_⟩
        have h4 := h3 x
        rw [e0] at h4
        rw [he]
        constructor
        · exact fun h => List.mem_append_left _ (h4.1 h)
        · intro h
          rcases List.mem_append.1 h with h | h
          · exact h4.2 h
          · exact List.mem_append_right _ h
      · refine ⟨C ++ [s[m]!], by simp [he, h], ?_, fun x => ?_⟩
        · refine List.pairwise_append.2 ⟨h2, by simp, fun a ha b hb => ?_⟩
          simp only [List.mem_singleton] at hb
          subst hb
          have hlt : s[m] < s[m + 1] := by
            rcases Classical.em (s[m] < s[m + 1]) with h | h
            · exact h
            · exact absurd (List.le_antisymm (List.not_lt.1 h) hle) he
          rcases List.mem_append.1 ha with ha | ha
          · have := (List.pairwise_append.1 h2).2.2 a ha s[m]! (by simp)
            rw [e0] at this
            exact List.lt_trans this hlt
          · simp only [List.mem_singleton] at ha
            rw [ha, e0]
            exact hlt
        · rw [List.mem_append, h3 x, List.mem_append]
  unfold sortedU
  rw [hs]
  cases hl : s.length with
  | zero =>
    have : s = [] := List.eq_nil_of_length_eq_zero hl
    subst this
    exact ⟨by simp [Lib.compact, Lib.compactUpTo], fun x => by rw [← hm x]; simp [Lib.compact, Lib.compactUpTo]⟩
  | succ m =>
    obtain ⟨C, h1, h2, h3⟩ := key m (by omega)
    have he : Lib.compact s = C ++ [s[m]!] := by rw [Lib.compact, hl, h1]
    rw [he]
    refine ⟨h2, fun x => ?_⟩
    rw [h3 x, ← hm x, List.take_of_length_le (by omega)]
theorem sortedU_unique {o xs : List Str} (h1 : o.Pairwise (· < ·)) (h2 : ∀ x, x ∈ o ↔ x ∈ xs) : o = sortedU xs :=
  strict_unique h1 (sortedU_spec xs).1 fun x => (h2 x).trans ((sortedU_spec xs).2 x).symm
theorem sortedU_le (xs : List Str) : (sortedU xs).length ≤ xs.length := Nat.le_trans (compact_le _) (Nat.le_of_eq (List.length_mergeSort xs))
theorem c_spec_Sorted (xs : List Str) (hx : xs.length ≤ 1073741824) : outL run_spec_Sorted [.one (strsC xs)] = some [.one (strsC (sortedU xs))] := by
  have hM := maxLen_eq
  have inner : ∀ (o : List Str) (x : Str) (i : Nat) (ep : Nat), xs[i]? = some x → o.length < 1073741824 → x ∉ o → o.Pairwise (· < ·) → ∀ (k : Nat) (z : Str) (n : Nat), k ≤ o.length → k < n → (∀ y ∈ o.drop k, x < y) → ∀ (b : Cell → Cell → Int → List Entry → Option Res) kk m,
      ∃ k', k' ≤ o.length ∧ (∀ y ∈ o.drop k', x < y) ∧ (∀ y ∈ o.take k', y < x) ∧
        spec_Sorted_l1 kk m b n (strsC xs) (.vs 0 1 0 (o.length + 1) ep) i k [Entry.mk 1 ((o.take k ++ z :: o.drop k).map eStr) ep false] = b (strsC xs) (.vs 0 1 0 (o.length + 1) ep) ((i + 1 : Nat) : Int) [Entry.mk 1 ((o.take k' ++ x :: o.drop k').map eStr) ep false] := by
    intro o x i ep hxi hol hxo hp k
    have hi : i < xs.length := (List.getElem?_eq_some_iff.1 hxi).1
    have hput : ∀ (k : Nat) (z y : Str), k ≤ o.length → hStore [Entry.mk 1 ((o.take k ++ z :: o.drop k).map eStr) ep false] (.ptr 0 1 k 0 ep) [Cell.str (bs y)] = some [Entry.mk 1 ((o.take k ++ y :: o.drop k).map eStr) ep false] := by
      intro k z y hk
      have hr : ((o.take k ++ z :: o.drop k).map eStr)[k]? = some (eStr z) := by
        rw [List.getElem?_map, List.getElem?_append_right (by simp; omega)]
        simp [Nat.min_eq_left hk]
      simp only [hStore, entry?, List.getElem?_cons_zero, if_true, hr]
      rw [if_pos ⟨trivial, by simp, trivial⟩]
      simp [splice, eStr, List.set_append, Nat.min_eq_left hk]
    have hix : ∀ (k : Nat), k < o.length + 1 → idxA 1 (.vs 0 1 0 (o.length + 1) ep) ((k : Nat) : Int) = some (.ptr 0 1 k 0 ep) := fun k hk => idxA_vs _ _ _ _ _ hk
    induction k with
    | zero =>
      intro z n hk hn hd b kk m
      obtain ⟨n, rfl⟩ : ∃ j, n = j + 1 := ⟨n - 1, by omega⟩
      refine ⟨0, by omega, hd, by simp, ?_⟩
      simp only [spec_Sorted_l1]
      rw [decide_eq_false (by omega), cond_false]
      simp only [idxA_encL, hxi, eStr, hix 0 (by omega), hput 0 z x (by omega), callS_canon, callL_canon, Option.map_some, Option.bind_some, shape_one, shape_agg, shape_nil, cellsAt_0, cellsAt_1, cellsAt_2, cellsAt_3, cells_one, cells_agg, cB_zero, cI_zero, cS_zero, cC_zero, cB_cons, cI_cons, cS_cons, cC_cons, cond_true, cond_false, List.length_cons, List.length_nil, beq_self_eq_true, Bool.and_true, Bool.true_and, lenC_encL, lenC_lst, deref_ref, emptyK_nil, bs_size, bs_toList]
      rw [wrap_succ (by omega)]
    | succ k ih =>
      intro z n hk hn hd b kk m
      obtain ⟨n, rfl⟩ : ∃ j, n = j + 1 := ⟨n - 1, by omega⟩
      obtain ⟨y, hy⟩ : ∃ y, o[k]? = some y := ⟨o[k], List.getElem?_eq_getElem (by omega)⟩
      have hyo : y ∈ o := List.mem_of_getElem? hy
      have hwp : IntKind.i64.wrap (((k + 1 : Nat) : Int) - 1) = (k : Int) := wrap_pred (by omega)
      have hdr : deref [Entry.mk 1 ((o.take (k + 1) ++ z :: o.drop (k + 1)).map eStr) ep false] (.ptr 0 1 k 0 ep) = some (eStr y, 0) := by
        have hr : ((o.take (k + 1) ++ z :: o.drop (k + 1)).map eStr)[k]? = some (eStr y) := by
          rw [List.getElem?_map, List.getElem?_append_left (by simp; omega), List.getElem?_take_of_lt (by omega), hy]
          rfl
        simp only [deref, entry?, List.getElem?_cons_zero, if_true, hr]
      have hdrop : o.drop k = y :: o.drop (k + 1) := by
        rw [List.drop_eq_getElem_cons (by omega)]
        congr 1
        rw [List.getElem?_eq_getElem (by omega)] at hy
        simpa using hy
      simp only [spec_Sorted_l1]
      rw [decide_eq_true (by omega), cond_true]
      have hbl : (!(Op.bytesLess y x || y == x)) = lt x y := by rw [bl_eq, lt_not, Bool.not_not]
      simp only [hwp, idxA_encL, hxi, hix k (by omega), hdr, eStr, hbl, callS_canon, callL_canon, Option.map_some, Option.bind_some, shape_one, shape_agg, shape_nil, cellsAt_0, cellsAt_1, cellsAt_2, cellsAt_3, cells_one, cells_agg, cB_zero, cI_zero, cS_zero, cC_zero, cB_cons, cI_cons, cS_cons, cC_cons, cond_true, cond_false, List.length_cons, List.length_nil, beq_self_eq_true, Bool.and_true, Bool.true_and, lenC_encL, lenC_lst, deref_ref, emptyK_nil, bs_size, bs_toList]
      by_cases hlt : x < y
      · rw [(lt_iff x y).2 hlt, cond_true]
        simp only [hix (k + 1) (by omega), hdr, eStr, callS_canon, callL_canon, Option.map_some, Option.bind_some, shape_one, shape_agg, shape_nil, cellsAt_0, cellsAt_1, cellsAt_2, cellsAt_3, cells_one, cells_agg, cB_zero, cI_zero, cS_zero, cC_zero, cB_cons, cI_cons, cS_cons, cC_cons, cond_true, cond_false, List.length_cons, List.length_nil, beq_self_eq_true, Bool.and_true, Bool.true_and, lenC_encL, lenC_lst, deref_ref, emptyK_nil, bs_size, bs_toList]
        have hst := hput (k + 1) z y hk
        have hrows : o.take (k + 1) ++ y :: o.drop (k + 1) = o.take k ++ y :: o.drop k := by
          rw [List.take_add_one, hy, hdrop]
          simp
        rw [hrows] at hst
        simp only [hst, Option.bind_some]
        have := ih y n (by omega) (by omega) (fun w hw => by
          rw [hdrop] at hw
          rcases List.mem_cons.1 hw with rfl | hw
          · exact hlt
          · exact hd w hw) b kk m
        exact this
      · have hf : lt x y = false := Bool.eq_false_iff.2 fun h => hlt ((lt_iff x y).1 h)
        rw [hf, cond_false]
        refine ⟨k + 1, hk, hd, fun w hw => ?_, ?_⟩
        · have hyx : y < x := by
            rcases Classical.em (y < x) with h | h
            · exact h
            · exact absurd (List.le_antisymm (List.not_lt.1 h) (List.not_lt.1 hlt)) fun e => hxo (e ▸ hyo)
          rw [List.take_add_one, hy] at hw
          rcases List.mem_append.1 hw with hw | hw
          · have h1 : o = o.take k ++ y :: o.drop (k + 1) := by rw [← hdrop, List.take_append_drop]
            rw [h1] at hp
            exact List.lt_trans ((List.pairwise_append.1 hp).2.2 w hw y List.mem_cons_self) hyx
          · simp only [Option.toList_some, List.mem_singleton] at hw
            rw [hw]
            exact hyx
        · have hst := hput (k + 1) z x hk
          simp only [hix (k + 1) (by omega), hst, callS_canon, callL_canon, Option.map_some, Option.bind_some, shape_one, shape_agg, shape_nil, cellsAt_0, cellsAt_1, cellsAt_2, cellsAt_3, cells_one, cells_agg, cB_zero, cI_zero, cS_zero, cC_zero, cB_cons, cI_cons, cS_cons, cC_cons, cond_true, cond_false, List.length_cons, List.length_nil, beq_self_eq_true, Bool.and_true, Bool.true_and, lenC_encL, lenC_lst, deref_ref, emptyK_nil, bs_size, bs_toList]
          rw [wrap_succ (by omega)]
  have loop : ∀ (r : List Str) (i n : Nat) (o : List Str) (c : Cell) (H : List Entry), xs.drop i = r → i + r.length = xs.length → r.length < n → Grow 1 c H (o.map eStr) → o.length ≤ i → o.Pairwise (· < ·) → (∀ x, x ∈ o ↔ x ∈ xs.take i) → ∀ k m, xs.length < m →
      ∃ (c' : Cell) (H' : List Entry) (o' : List Str), spec_Sorted_l0 k m n (strsC xs) c i H = some ([.one c'], H') ∧ Grow 1 c' H' (o'.map eStr) ∧ o'.Pairwise (· < ·) ∧ ∀ x, x ∈ o' ↔ x ∈ xs := by
    intro r
    induction r with
    | nil =>
      intro i n o c H hd hi hn hg hol hp hm k m hm'
      obtain ⟨n, rfl⟩ : ∃ j, n = j + 1 := ⟨n - 1, by omega⟩
      have h1 := drop_nil hd
      rw [List.take_of_length_le h1] at hm
      refine ⟨c, H, o, ?_, hg, hp, hm⟩
      simp only [spec_Sorted_l0, lenC_encL, Option.bind_some]
      rw [decide_eq_false (by omega), cond_false]
    | cons x r ih =>
      intro i n o c H hd hi hn hg hol hp hm k m hm'
      obtain ⟨n, rfl⟩ : ∃ j, n = j + 1 := ⟨n - 1, by omega⟩
      obtain ⟨hlt, hxi, hd'⟩ := drop_cons hd
      simp only [List.length_cons] at hn hi
      have htake : xs.take (i + 1) = xs.take i ++ [x] := by rw [List.take_add_one, hxi]; rfl
      have hrd : reifyAV false H (.one c) = some (.one (strsC o)) := by
        have := hg.read
        simp only [mapO] at this
        cases h : reifyAV false H (.one c) with
        | none => rw [h] at this; simp at this
        | some y => rw [h] at this; simpa using this
      have q1 : callS run_spec_l1Has [.one c, .one (Cell.str (bs x))] H = some [.one (Cell.bool (o.contains x))] := by
        rw [callS_of (mapO_c hrd (mapO_c (reifyAV_canon _ _ _) (mapO_nil' _)))]
        exact c_spec_l1Has o x (by omega)
      simp only [spec_Sorted_l0, lenC_encL, Option.bind_some]
      rw [decide_eq_true (by omega), cond_true]
      simp only [idxA_encL, hxi, eStr, q1, wrap_succ (show i < maxLen by omega), callS_canon, callL_canon, Option.map_some, Option.bind_some, shape_one, shape_agg, shape_nil, cellsAt_0, cellsAt_1, cellsAt_2, cellsAt_3, cells_one, cells_agg, cB_zero, cI_zero, cS_zero, cC_zero, cB_cons, cI_cons, cS_cons, cC_cons, cond_true, cond_false, List.length_cons, List.length_nil, beq_self_eq_true, Bool.and_true, Bool.true_and, lenC_encL, lenC_lst, deref_ref, emptyK_nil, bs_size, bs_toList]
      by_cases hc : x ∈ o
      · rw [show o.contains x = true by simpa using hc, cond_true]
        exact ih (i + 1) n o c H hd' (by omega) (by omega) hg (by omega) hp (fun w => by
          rw [htake, List.mem_append, ← hm w]
          refine ⟨.inl, fun h => h.elim id fun h => ?_⟩
          simp only [List.mem_singleton] at h
          subst h
          exact hc) k m hm'
      · rw [show o.contains x = false by simpa using hc, cond_false]
        obtain ⟨q, e1, e2⟩ := hg.app (by' := 16) [[Cell.str (bs x)]] (by unfold bound; simp; omega) (by unfold bound; simp; omega)
        have hrows : o.map eStr ++ [[Cell.str (bs x)]] = (o ++ [x]).map eStr := by simp [eStr]
        rw [hrows] at e2
        rcases e2 with ⟨h, _, _⟩ | ⟨ep, h1, h2⟩
        · simp at h
        obtain ⟨qc, qH⟩ := q
        simp only at h1 h2
        subst h1 h2
        have hlen : ((o ++ [x]).map eStr).length = o.length + 1 := by simp
        obtain ⟨k', z1, z2, z3, z4⟩ := inner o x i ep hxi (by omega) hc hp o.length x m (Nat.le_refl _) (by omega) (by simp) (spec_Sorted_l0 k m n) k m
        rw [hlen] at e1
        simp only [e1, Option.bind_some, lenC_vs]
        rw [show IntKind.i64.wrap (((o.length + 1 : Nat) : Int) - 1) = (o.length : Int) from wrap_pred (by omega)]
        simp only [List.take_length, List.drop_length] at z4
        rw [z4]
        have hl2 : (o.take k' ++ x :: o.drop k').length = o.length + 1 := by simp; omega
        have hmem : ∀ w, w ∈ o.take k' ++ x :: o.drop k' ↔ w ∈ o ∨ w = x := by
          intro w
          conv => rhs; rw [← List.take_append_drop k' o]
          simp only [List.mem_append, List.mem_cons]
          constructor
          · rintro (h | h | h)
            · exact .inl (.inl h)
            · exact .inr h
            · exact .inl (.inr h)
          · rintro ((h | h) | h)
            · exact .inl h
            · exact .inr (.inr h)
            · exact .inr (.inl h)
        refine ih (i + 1) n (o.take k' ++ x :: o.drop k') (.vs 0 1 0 (o.length + 1) ep) [Entry.mk 1 ((o.take k' ++ x :: o.drop k').map eStr) ep false] hd' (by omega) (by omega) (.inr ⟨ep, by rw [List.length_map, hl2], rfl⟩) (by rw [hl2]; omega) ?_ ?_ k m hm'
        · have h0 := hp
          rw [← List.take_append_drop k' o] at h0
          obtain ⟨p1, p2, p3⟩ := List.pairwise_append.1 h0
          refine List.pairwise_append.2 ⟨p1, List.pairwise_cons.2 ⟨z2, p2⟩, fun a ha b hb => ?_⟩
          rcases List.mem_cons.1 hb with rfl | hb
          · exact z3 a ha
          · exact p3 a ha b hb
        · intro w
          rw [hmem w, hm w, htake]
          simp
  obtain ⟨c', H', o', h1, h2, h3, h4⟩ := loop xs 0 (xs.length + 1 + 1) [] (.lst true 1 []) [] rfl (by omega) (by omega) (Grow.nil 1) (by simp) (by simp) (by simp) (xs.length + 1 + 1) (xs.length + 1 + 1) (by omega)
  rw [sortedU_unique h3 h4] at h2
  refine outL_of (H := H') (run_spec_Sorted_of (xs.length + 1) ?_) h2.read
  simpa [spec_Sorted] using h1
theorem f_impl_Sorted (xs : List Str) (hx : xs.length ≤ 1073741824) : Fresh run_impl_Sorted true 2 [.one (strsC xs)] [.one (trL 1 trStr (sortedU xs))] := by
  obtain ⟨c1, E1, i1, e1, r1, w1, g1⟩ := freshO (f_slices_Clone_string xs hx) ([] : List Entry) (mapO_canon [.one (strsC xs)] _ _)
  rw [List.nil_append] at e1 r1
  rcases r1 with ⟨h1, _, f, rfl⟩ | ⟨id, off, ep, e, fr, is, rfl, rfl, he, hq, hwh, hl, hr, hs⟩
  · simp only [List.map_eq_nil_iff] at h1
    subst h1
    have hnil : sortedU [] = [] := by simp [sortedU, sortS, Lib.compact, Lib.compactUpTo]
    have h2 : run_slices_Sort_string [.one (.lst f 1 [])] E1 = some ([], E1) := rfl
    have h3 : run_slices_Compact_string [.one (.lst f 1 [])] E1 = some ([.one (.lst f 1 [])], E1) := rfl
    have h4 : run_slices_Clip_string [.one (.lst f 1 [])] E1 = some ([.one (.lst true 1 [])], E1) := run_slices_Clip_string_of 0 (by simp [slices_Clip_string, slcC, fullOf])
    refine Fresh.one (c := .lst true 1 []) (H := E1) (ids := []) (run_impl_Sorted_of 0 ?_) (.inl ⟨by rw [hnil]; rfl, rfl, true, rfl⟩) (by simp)
    simp only [impl_Sorted, e1, h2, h3, h4, callS_canon, callL_canon, Option.map_some, Option.bind_some, shape_one, shape_agg, shape_nil, cellsAt_0, cellsAt_1, cellsAt_2, cellsAt_3, cells_one, cells_agg, cB_zero, cI_zero, cS_zero, cC_zero, cB_cons, cI_cons, cS_cons, cC_cons, cond_true, cond_false, List.length_cons, List.length_nil, beq_self_eq_true, Bool.and_true, Bool.true_and, lenC_encL, lenC_lst, deref_ref, emptyK_nil, bs_size, bs_toList]
  · obtain ⟨rfl, hle⟩ := hwh rfl
    obtain rfl := hq rfl
    rw [List.drop_zero, hle, List.take_of_length_le (Nat.le_refl _)] at hs
    have hrows : e = xs.map eStr := by
      have key : ∀ {is : List Nat} {e : List (List Cell)} {xs : List Str}, Sp (Sp (Rep E1 true true 1)) is e (xs.map trStr) → (∀ r ∈ e, r.length = 1) → e = xs.map eStr := by
        intro is e xs
        induction xs generalizing is e with
        | nil => intro h _; obtain ⟨_, rfl⟩ := h.nil_inv; rfl
        | cons x xs ih =>
          intro h hl
          obtain ⟨i, i', a, as', rfl, rfl, h1, h2⟩ := h.cons_inv
          obtain ⟨r', rfl, h3⟩ := h1.leaf_inv
          have := hl _ List.mem_cons_self
          have : r' = [] := List.eq_nil_of_length_eq_zero (by simpa using this)
          subst this
          rw [ih h2 fun r hr => hl r (List.mem_cons_of_mem _ hr)]
          rfl
      exact key hs hr
    subst hrows
    simp only [List.length_map] at hle
    have hv : vecS E1 id 1 0 (xs.map trStr).length ep = some xs := by
      simp [vecS, entry?, he, strRows_eStr]
      omega
    have h2 : run_slices_Sort_string [.one (.vs id 1 0 (xs.map trStr).length ep)] E1 = some ([], E1.set id ⟨1, (sortS xs).map eStr, ep, false⟩) := by
      show run_sort _ _ = _
      simp only [run_sort, hv]
    have hid : id < E1.length := (List.getElem?_eq_some_iff.1 he).1
    have hv2 : vecS (E1.set id ⟨1, (sortS xs).map eStr, ep, false⟩) id 1 0 (xs.map trStr).length ep = some (sortS xs) := by
      have : (sortS xs).length = xs.length := List.length_mergeSort xs
      simp [vecS, entry?, hid, strRows_eStr, this]
      omega
    have h3 : run_slices_Compact_string [.one (.vs id 1 0 (xs.map trStr).length ep)] (E1.set id ⟨1, (sortS xs).map eStr, ep, false⟩) = some ([.one (.vs id 1 0 (sortedU xs).length ep)], (E1.set id ⟨1, (sortS xs).map eStr, ep, false⟩).set id ⟨1, (sortedU xs).map eStr, ep, false⟩) := by
      show run_compact _ _ = _
      simp only [run_compact, hv2]
      rfl
    rw [List.set_set] at h3
    have h4 : run_slices_Clip_string [.one (.vs id 1 0 (sortedU xs).length ep)] (E1.set id ⟨1, (sortedU xs).map eStr, ep, false⟩) = some ([.one (.vs id 1 0 (sortedU xs).length ep)], E1.set id ⟨1, (sortedU xs).map eStr, ep, false⟩) := run_slices_Clip_string_of 0 (by simp [slices_Clip_string, slcC])
    refine Fresh.one (c := .vs id 1 0 (sortedU xs).length ep) (H := E1.set id ⟨1, (sortedU xs).map eStr, ep, false⟩) (ids := [id]) (run_impl_Sorted_of 0 ?_) (.inr ⟨id, 0, ep, (sortedU xs).map eStr, false, [], by simp, rfl, by simp [hid], fun _ => rfl, fun _ => ⟨rfl, by simp⟩, by simp, ?_, ?_⟩) (by simp)
    · simp only [impl_Sorted, e1, h2, h3, h4, callS_canon, callL_canon, Option.map_some, Option.bind_some, shape_one, shape_agg, shape_nil, cellsAt_0, cellsAt_1, cellsAt_2, cellsAt_3, cells_one, cells_agg, cB_zero, cI_zero, cS_zero, cC_zero, cB_cons, cI_cons, cS_cons, cC_cons, cond_true, cond_false, List.length_cons, List.length_nil, beq_self_eq_true, Bool.and_true, Bool.true_and, lenC_encL, lenC_lst, deref_ref, emptyK_nil, bs_size, bs_toList]
    · intro r hr
      obtain ⟨x, _, rfl⟩ := List.mem_map.1 hr
      rfl
    · rw [List.drop_zero, List.take_of_length_le (by simp)]
      have : ∀ (l : List Str) (G : List Entry), Sp (Sp (Rep G true true 1)) [] (l.map eStr) (l.map trStr) := by
        intro l G
        induction l with
        | nil => exact .nil
        | cons x l ih => exact .cons (i := []) (is := []) (Sp.leaf1 _) ih
      exact this _ _
open Classical in
/-- What is reached from a text, in order. -/
noncomputable def reachS (nx : Str → List Str) (a : Str) : List Str := if h : ∃ o : List Str, ∀ x, x ∈ o ↔ Reach nx a x then sortedU h.choose else []
theorem reachS_eq {nx : Str → List Str} {a : Str} {o : List Str} (h : ∀ x, x ∈ o ↔ Reach nx a x) : reachS nx a = sortedU o := by
  have hh : ∃ o : List Str, ∀ x, x ∈ o ↔ Reach nx a x := ⟨o, h⟩
  unfold reachS
  rw [dif_pos hh]
  refine strict_unique (sortedU_spec _).1 (sortedU_spec _).1 fun x => ?_
  rw [(sortedU_spec _).2 x, (sortedU_spec _).2 x, h x, hh.choose_spec x]
theorem reach_congr {nx ny : Str → List Str} (h : ∀ x y, y ∈ nx x ↔ y ∈ ny x) {a x : Str} (hr : Reach nx a x) : Reach ny a x := by
  induction hr with
  | one hb => exact .one ((h _ _).1 hb)
  | step _ k ih => exact .step ih ((h _ _).1 k)
theorem reachS_congr {nx ny : Str → List Str} (h : ∀ x y, y ∈ nx x ↔ y ∈ ny x) {a : Str} {o : List Str} (ho : ∀ x, x ∈ o ↔ Reach nx a x) : reachS ny a = reachS nx a := by
  rw [reachS_eq ho]
  refine reachS_eq fun x => (ho x).trans ⟨reach_congr h, reach_congr fun a b => (h a b).symm⟩
theorem c_spec_l11Reach (names : List Str) (next : List (List Str)) (s : Str) (U : List Str) (h1 : names.length ≤ 1073741824) (h2 : names.length = next.length) (h3 : ∀ d ∈ next, d.length ≤ 1048576) (hU : U.length ≤ 1048576) (hm : ∀ x, ∀ y ∈ nextOf names next x, y ∈ U) :
    outL run_spec_l11Reach [.agg [strsC names, encL 1 eStrs next], .one (Cell.str (bs s))] = some [.one (strsC (reachS (nextOf names next) s))] ∧ ∃ o : List Str, ∀ x, x ∈ o ↔ Reach (nextOf names next) s x := by
  have hM := maxLen_eq
  have hnl : ∀ x, (nextOf names next x).length ≤ 1048576 := fun x => by
    unfold nextOf
    split
    · simp
    · cases hd : next[(idxS x names 0).toNat]? with
      | none => simp
      | some d => exact h3 d (List.mem_of_getElem? hd)
  have hreach : ∀ x, Reach (nextOf names next) s x → x ∈ U := fun x h => by
    cases h with
    | one h => exact hm _ _ h
    | step _ k => exact hm _ _ k
  have loop : ∀ (d : Nat) (o left : List Str) (c9 c10 : Cell) (H : List Entry) (i1 i2 : List Nat) (n : Nat), Seen (nextOf names next) s o left → RM 0 H i1 i2 c9 c10 o left → left.length + (U.length - o.length) * 1048576 ≤ d → left.length ≤ (o.length + 1) * 1048576 → d < n → ∀ k m,
      ∃ xs H', spec_l11Reach_l0 k m n c9 c10 (strsC names) (encL 1 eStrs next) H = some (xs, H') ∧ mapO (reifyAV false H') xs = some [.one (strsC (reachS (nextOf names next) s))] ∧ ∃ o : List Str, ∀ x, x ∈ o ↔ Reach (nextOf names next) s x := by
    intro d
    induction d with
    | zero =>
      intro o left c9 c10 H i1 i2 n hs hr hd hll hn k m
      obtain ⟨n, rfl⟩ : ∃ j, n = j + 1 := ⟨n - 1, by omega⟩
      have : left = [] := List.eq_nil_of_length_eq_zero (by omega)
      subst this
      have ho : o.length ≤ U.length := nodup_le hs.nd fun x hx => hreach x (hs.ro x hx)
      obtain ⟨r1, r2, _⟩ := hr
      obtain ⟨H1, _, e1⟩ := callL_reps (run := run_spec_Sorted) (n := 2) (by omega) (Sp.cons (a := AV.one c9) (b := AT.one (trL 1 trStr o)) r1 .nil)
      have e2 : callL run_spec_Sorted [.one c9] H = some ([.one (strsC (reachS (nextOf names next) s))], H1) := by
        rw [e1]
        simp only [List.map_cons, List.map_nil, AT.av, trL_cell]
        rw [c_spec_Sorted _ (by omega), reachS_eq hs.done]
        rfl
      refine ⟨[.one (strsC (reachS (nextOf names next) s))], H1, ?_, mapO_canon _ _ _, o, hs.done⟩
      simp only [spec_l11Reach_l0, (ListM.of (n := 2) r2).len, List.length_nil, Option.bind_some]
      rw [decide_eq_false (by omega), cond_false]
      simp only [e2, callS_canon, callL_canon, Option.map_some, Option.bind_some, shape_one, shape_agg, shape_nil, cellsAt_0, cellsAt_1, cellsAt_2, cellsAt_3, cells_one, cells_agg, cB_zero, cI_zero, cS_zero, cC_zero, cB_cons, cI_cons, cS_cons, cC_cons, cond_true, cond_false, List.length_cons, List.length_nil, beq_self_eq_true, Bool.and_true, Bool.true_and, lenC_encL, lenC_lst, deref_ref, emptyK_nil, bs_size, bs_toList]
    | succ d ih =>
      intro o left c9 c10 H i1 i2 n hs hr hd hll hn k m
      obtain ⟨n, rfl⟩ : ∃ j, n = j + 1 := ⟨n - 1, by omega⟩
      have ho : o.length ≤ U.length := nodup_le hs.nd fun x hx => hreach x (hs.ro x hx)
      cases left with
      | nil =>
        obtain ⟨r1, r2, _⟩ := hr
        obtain ⟨H1, _, e1⟩ := callL_reps (run := run_spec_Sorted) (n := 2) (by omega) (Sp.cons (a := AV.one c9) (b := AT.one (trL 1 trStr o)) r1 .nil)
        have e2 : callL run_spec_Sorted [.one c9] H = some ([.one (strsC (reachS (nextOf names next) s))], H1) := by
          rw [e1]
          simp only [List.map_cons, List.map_nil, AT.av, trL_cell]
          rw [c_spec_Sorted _ (by omega), reachS_eq hs.done]
          rfl
        refine ⟨[.one (strsC (reachS (nextOf names next) s))], H1, ?_, mapO_canon _ _ _, o, hs.done⟩
        simp only [spec_l11Reach_l0, (ListM.of (n := 2) r2).len, List.length_nil, Option.bind_some]
        rw [decide_eq_false (by omega), cond_false]
        simp only [e2, callS_canon, callL_canon, Option.map_some, Option.bind_some, shape_one, shape_agg, shape_nil, cellsAt_0, cellsAt_1, cellsAt_2, cellsAt_3, cells_one, cells_agg, cB_zero, cI_zero, cS_zero, cC_zero, cB_cons, cI_cons, cS_cons, cC_cons, cond_true, cond_false, List.length_cons, List.length_nil, beq_self_eq_true, Bool.and_true, Bool.true_and, lenC_encL, lenC_lst, deref_ref, emptyK_nil, bs_size, bs_toList]
      | cons x left =>
        simp only [List.length_cons] at hd hll
        obtain ⟨a, row', off, c', p, j2, t1, t2, t3, t4, t5, t6, hr', t8, t9⟩ := hr.pop (Nat.zero_le _) (by unfold bound; omega)
        have q1 : callS run_spec_l1Has [.one c9, .one (Cell.str (bs x))] p.2 = some [.one (Cell.bool (o.contains x))] := by
          rw [callS_of (mapO_c (ListM.of (n := 2) hr'.1).read (mapO_c (reifyAV_canon _ _ _) (mapO_nil' _)))]
          exact c_spec_l1Has o x (by omega)
        simp only [spec_l11Reach_l0, t9, Option.bind_some]
        rw [decide_eq_true (by omega), cond_true]
        simp only [t1, t2, t3, t4, t5, t6, q1, callS_canon, callL_canon, Option.map_some, Option.bind_some, shape_one, shape_agg, shape_nil, cellsAt_0, cellsAt_1, cellsAt_2, cellsAt_3, cells_one, cells_agg, cB_zero, cI_zero, cS_zero, cC_zero, cB_cons, cI_cons, cS_cons, cC_cons, cond_true, cond_false, List.length_cons, List.length_nil, beq_self_eq_true, Bool.and_true, Bool.true_and, lenC_encL, lenC_lst, deref_ref, emptyK_nil, bs_size, bs_toList]
        cases hc : o.contains x with
        | true =>
          have hx : x ∈ o := by simpa using hc
          simp only [Bool.not_true, cond_false]
          exact ih o left c9 p.1 p.2 i1 j2 n (hs.old hx) hr' (by omega) (by omega) (by omega) k m
        | false =>
          have hx : x ∉ o := by simpa using hc
          have hs' := hs.new hx
          have ho' : (o ++ [x]).length ≤ U.length := nodup_le hs'.nd fun y hy => hreach y (hs'.ro y hy)
          rw [List.length_append, List.length_singleton] at ho'
          have hnx := hnl x
          obtain ⟨q, k1, a1, hr2, m1, _, _⟩ := hr'.app1 (Nat.zero_le _) [x] (by unfold bound; simp; omega)
          obtain ⟨r, k2, a2, hr3, m2, _, _⟩ := hr2.swap.app1 (Nat.zero_le _) (nextOf names next x) (by unfold bound; omega)
          simp only [List.map_cons, List.map_nil, eStr] at a1
          have e3 : srcRows q.2 1 (strsC (nextOf names next x)) = some ((nextOf names next x).map eStr) := src_strs _ _
          simp only [Bool.not_false, cond_true, a1, c_spec_l11Next names next x h1 h2, callS_canon, callL_canon, Option.map_some, Option.bind_some, shape_one, shape_agg, shape_nil, cellsAt_0, cellsAt_1, cellsAt_2, cellsAt_3, cells_one, cells_agg, cB_zero, cI_zero, cS_zero, cC_zero, cB_cons, cI_cons, cS_cons, cC_cons, cond_true, cond_false, List.length_cons, List.length_nil, beq_self_eq_true, Bool.and_true, Bool.true_and, lenC_encL, lenC_lst, deref_ref, emptyK_nil, bs_size, bs_toList]
          simp only [e3, a2, Option.bind_some]
          refine ih (o ++ [x]) (left ++ nextOf names next x) q.1 r.1 r.2 k1 k2 n hs' hr3.swap ?_ ?_ (by omega) k m
          · rw [List.length_append, List.length_append, List.length_singleton]
            have : (U.length - o.length) = (U.length - (o.length + 1)) + 1 := by omega
            rw [this] at hd
            omega
          · rw [List.length_append, List.length_append, List.length_singleton]
            omega
  have hfirst := hnl s
  obtain ⟨r, k2, a2, hr3, m2, _, _⟩ := (RM.nil 0 []).swap.app1 (Nat.zero_le _) (nextOf names next s) (by unfold bound; simp; omega)
  rw [List.nil_append] at hr3
  have e3 : srcRows [] 1 (strsC (nextOf names next s)) = some ((nextOf names next s).map eStr) := src_strs _ _
  obtain ⟨xs, H', z1, z2, z3⟩ := loop ((nextOf names next s).length + U.length * 1048576) [] (nextOf names next s) (.lst true 1 []) r.1 r.2 [] k2 ((nextOf names next s).length + U.length * 1048576 + 1 + 1) (Seen.start _ _) hr3.swap (by simp) (by simp; omega) (by omega) ((nextOf names next s).length + U.length * 1048576 + 1 + 1) ((nextOf names next s).length + U.length * 1048576 + 1 + 1)
  refine ⟨outL_of (H := H') (run_spec_l11Reach_of ((nextOf names next s).length + U.length * 1048576 + 1) ?_) z2, z3⟩
  simp only [spec_l11Reach, c_spec_l11Next names next s h1 h2, callS_canon, callL_canon, Option.map_some, Option.bind_some, shape_one, shape_agg, shape_nil, cellsAt_0, cellsAt_1, cellsAt_2, cellsAt_3, cells_one, cells_agg, cB_zero, cI_zero, cS_zero, cC_zero, cB_cons, cI_cons, cS_cons, cC_cons, cond_true, cond_false, List.length_cons, List.length_nil, beq_self_eq_true, Bool.and_true, Bool.true_and, lenC_encL, lenC_lst, deref_ref, emptyK_nil, bs_size, bs_toList]
  simp only [e3, a2, Option.bind_some]
  exact z1
theorem gm_impl_deep_impl_graph_onOf {H0 : List Entry} {ids : List Nat} {g : Nat} {names : List Str} {next : List (List Str)} (hG : GraphM H0 ids g names next) (nx : Str → List Str) (U : List Str) (hU : U.length ≤ 1048576) (hm : ∀ x, ∀ y ∈ nx x, y ∈ U) (hl : ∀ x, (nx x).length ≤ 1048576)
    (hnext : ∀ (H : List Entry) (x : Str), GraphM H ids g names next → ∃ d H' ds, run_impl_graph_onOf [.one (.ptr g 2 0 0 0), .one (Cell.str (bs x))] H = some ([.one d], H') ∧ ListM H' ds d (nx x) ∧ H.length ≤ H'.length ∧ (∀ j, j < H.length → H'[j]? = H[j]?) ∧ (∀ j ∈ ds, j < H'.length ∧ (j < H0.length ∨ H.length ≤ j))) (s : Str) :
    ∃ c H' is, run_impl_deep [.one (Cell.str (bs s)), .one (.fn fid_impl_graph_onOf [.ptr g 2 0 0 0] [])] H0 = some ([.one c], H') ∧ Rep H' true true 2 is c (trL 1 trStr (reachS nx s)) ∧ is.Nodup := by
  have hM := maxLen_eq
  have hreach : ∀ x, Reach nx s x → x ∈ U := fun x h => by
    cases h with
    | one h => exact hm _ _ h
    | step _ k => exact hm _ _ k
  -- the innermost loop
  have L2 : ∀ (ys : List Str), ys.length ≤ 1048576 → ∀ (r : List Str) (i n : Nat) (H : List Entry) (i1 i2 ds : List Nat) (cr cm cy cf : Cell) (row more : List Str) (a b : Int), ys.drop i = r → r.length < n → RM H0.length H i1 i2 cr cm row more → H0.length ≤ H.length →
      ListM H ds cy ys → (∀ j ∈ ds, j < H.length ∧ j ∉ i1 ∧ j ∉ i2) → (row ++ freshL row r).length ≤ 1048576 → more.length ≤ row.length → ∀ (b0 : Cell → Cell → Cell → List Entry → Option Res) (b1 : Cell → Cell → Cell → Cell → Int → Int → List Entry → Option Res) k m,
      ∃ cr' cm' H' j1 j2, impl_deep_impl_graph_onOf_l2 k m b0 b1 n (.ptr g 2 0 0 0) cr cm cf a b cy ys.length i H = b1 (.ptr g 2 0 0 0) cr' cm' cf a (IntKind.i64.wrap (b + 1)) H' ∧ RM H0.length H' j1 j2 cr' cm' (row ++ freshL row r) (more ++ freshL row r) ∧ H.length ≤ H'.length ∧
        (∀ j, j < H.length → j ∉ i1 → j ∉ i2 → H'[j]? = H[j]?) ∧ (∀ j ∈ j1, j ∈ i1 ∨ H.length ≤ j) ∧ ∀ j ∈ j2, j ∈ i2 ∨ H.length ≤ j := by
    intro ys hys r
    induction r with
    | nil =>
      intro i n H i1 i2 ds cr cm cy cf row more a b hd hn hr hN hy hds hb hmr b0 b1 k m
      obtain ⟨n, rfl⟩ : ∃ j, n = j + 1 := ⟨n - 1, by omega⟩
      have := drop_nil hd
      refine ⟨cr, cm, H, i1, i2, ?_, by simpa [freshL] using hr, Nat.le_refl _, fun _ _ _ _ => rfl, fun j h => .inl h, fun j h => .inl h⟩
      simp only [impl_deep_impl_graph_onOf_l2]
      rw [decide_eq_false (by omega), cond_false]
    | cons y r ih =>
      intro i n H i1 i2 ds cr cm cy cf row more a b hd hn hr hN hy hds hb hmr b0 b1 k m
      obtain ⟨n, rfl⟩ : ∃ j, n = j + 1 := ⟨n - 1, by omega⟩
      obtain ⟨hlt, hx, hd'⟩ := drop_cons hd
      simp only [List.length_cons] at hn
      obtain ⟨a1, rw1, off, t1, t2, t3⟩ := hy.at hx
      have hrl : row.length ≤ 1048576 := by simp at hb; omega
      have q1 : callS run_slices_Contains_string [.one cr, .one (Cell.str (bs y))] H = some [.one (Cell.bool (row.contains y))] := by
        rw [callS_of (mapO_c (ListM.of (n := 2) hr.1).read (mapO_c (reifyAV_canon _ _ _) (mapO_nil' _)))]
        exact c_slices_Contains_string row y (by omega)
      simp only [impl_deep_impl_graph_onOf_l2]
      rw [decide_eq_true (by omega), cond_true]
      simp only [t1, t2, t3, q1, wrap_succ (show i < maxLen by omega), callS_canon, callL_canon, Option.map_some, Option.bind_some, shape_one, shape_agg, shape_nil, cellsAt_0, cellsAt_1, cellsAt_2, cellsAt_3, cells_one, cells_agg, cB_zero, cI_zero, cS_zero, cC_zero, cB_cons, cI_cons, cS_cons, cC_cons, cond_true, cond_false, List.length_cons, List.length_nil, beq_self_eq_true, Bool.and_true, Bool.true_and, lenC_encL, lenC_lst, deref_ref, emptyK_nil, bs_size, bs_toList]
      unfold freshL at hb ⊢
      cases hc : row.contains y with
      | true =>
        rw [hc, cond_true] at hb
        simp only [Bool.not_true, cond_false, cond_true]
        exact ih (i + 1) n H i1 i2 ds cr cm cy cf row more a b hd' (by omega) hr hN hy hds hb hmr b0 b1 k m
      | false =>
        rw [hc, cond_false, List.append_cons] at hb
        obtain ⟨p, q, j1, j2, e1, e2, hr', m1, k1, g1, g2⟩ := hr.push hN y (by omega) (by omega)
        simp only [Bool.not_false, cond_true, cond_false, e1, e2, Option.bind_some]
        obtain ⟨cr', cm', H', l1, l2, z1, z2, z3, z4, z5, z6⟩ := ih (i + 1) n q.2 j1 j2 ds p.1 q.1 cy cf (row ++ [y]) (more ++ [y]) a b hd' (by omega) hr' (by omega) (hy.frame fun j hj => by
          obtain ⟨d1, d2, d3⟩ := hds j hj
          exact k1 j d1 d2 d3) (fun j hj => by
          obtain ⟨d1, d2, d3⟩ := hds j hj
          refine ⟨by omega, fun h => ?_, fun h => ?_⟩
          · rcases g1 j h with h | h
            · exact d2 h
            · omega
          · rcases g2 j h with h | h
            · exact d3 h
            · omega) hb (by simp; omega) b0 b1 k m
        refine ⟨cr', cm', H', l1, l2, z1, by rw [List.append_cons, List.append_cons more]; exact z2, by omega, fun j hj n1 n2 => ?_, fun j hj => ?_, fun j hj => ?_⟩
        · rw [z4 j (by omega) (fun h => ?_) fun h => ?_, k1 j hj n1 n2]
          · rcases g1 j h with h | h
            · exact n1 h
            · omega
          · rcases g2 j h with h | h
            · exact n2 h
            · omega
        · rcases z5 j hj with h | h
          · exact g1 j h
          · exact .inr (by omega)
        · rcases z6 j hj with h | h
          · exact g2 j h
          · exact .inr (by omega)
  -- the names of a round
  have L1 : ∀ (fr : List Str), fr.length ≤ 1048577 → ∀ (r : List Str) (i n : Nat) (H : List Entry) (i1 i2 fs : List Nat) (cr cm cf : Cell) (row more : List Str), fr.drop i = r → r.length < n → RM H0.length H i1 i2 cr cm row more → H0.length ≤ H.length → (∀ j, j < H0.length → H[j]? = H0[j]?) →
      ListM H fs cf fr → (∀ j ∈ fs, j < H.length ∧ j ∉ i1 ∧ j ∉ i2) → Found nx s row (r ++ more) → more.length ≤ row.length → ∀ (b0 : Cell → Cell → Cell → List Entry → Option Res) k m, 1048576 < m →
      ∃ cr' cm' H' j1 j2 row' more', impl_deep_impl_graph_onOf_l1 k m b0 n (.ptr g 2 0 0 0) cr cm cf fr.length i H = b0 (.ptr g 2 0 0 0) cr' cm' H' ∧ RM H0.length H' j1 j2 cr' cm' row' more' ∧ H0.length ≤ H'.length ∧ (∀ j, j < H0.length → H'[j]? = H0[j]?) ∧ Found nx s row' more' ∧ more'.length ≤ row'.length ∧ row.length + more'.length ≤ row'.length + more.length := by
    intro fr hfr r
    induction r with
    | nil =>
      intro i n H i1 i2 fs cr cm cf row more hd hn hr hN h0 hf hfs hF hmr b0 k m hm'
      obtain ⟨n, rfl⟩ : ∃ j, n = j + 1 := ⟨n - 1, by omega⟩
      have := drop_nil hd
      refine ⟨cr, cm, H, i1, i2, row, more, ?_, hr, hN, h0, hF, hmr, by omega⟩
      simp only [impl_deep_impl_graph_onOf_l1]
      rw [decide_eq_false (by omega), cond_false]
    | cons x r ih =>
      intro i n H i1 i2 fs cr cm cf row more hd hn hr hN h0 hf hfs hF hmr b0 k m hm'
      obtain ⟨n, rfl⟩ : ∃ j, n = j + 1 := ⟨n - 1, by omega⟩
      obtain ⟨hlt, hx, hd'⟩ := drop_cons hd
      simp only [List.length_cons] at hn
      obtain ⟨a1, rw1, off, t1, t2, t3⟩ := hf.at hx
      have hGH : GraphM H ids g names next := hG.app (fun j hj => h0 j (hG.lt j hj)) hN
      obtain ⟨d, H1, ds, u1, u2, u3, u4, u5⟩ := hnext H x hGH
      have hr1 := hr.frame u4
      have hF' := hF.next
      have hrow' : (row ++ freshL row (nx x)).length ≤ U.length := nodup_le hF'.nd fun y hy => hreach y (hF'.ro y hy)
      have hb : ∀ j, (j ∈ i1 ∨ j ∈ i2) → H0.length ≤ j ∧ j < H.length := fun j hj => by
        obtain ⟨p1, p2, _, _, _, _, _, p3, p4⟩ := hr
        rcases hj with hj | hj
        · exact ⟨p3 j hj, p1.lt j hj⟩
        · exact ⟨p4 j hj, p2.lt j hj⟩
      obtain ⟨cr', cm', H', j1, j2, z1, z2, z3, z4, z5, z6⟩ := L2 (nx x) (hl x) (nx x) 0 m H1 i1 i2 ds cr cm d cf row more fr.length i rfl (by have := hl x; omega) hr1 (by omega) u2 (fun j hj => by
        obtain ⟨d1, d2⟩ := u5 j hj
        refine ⟨d1, fun h => ?_, fun h => ?_⟩
        · have := hb j (.inl h); omega
        · have := hb j (.inr h); omega) (by omega) hmr b0 (impl_deep_impl_graph_onOf_l1 k m b0 n) k m
      have hfs' : ∀ j ∈ fs, j < H'.length ∧ j ∉ j1 ∧ j ∉ j2 := fun j hj => by
        obtain ⟨d1, d2, d3⟩ := hfs j hj
        refine ⟨by omega, fun h => ?_, fun h => ?_⟩
        · rcases z5 j h with h | h
          · exact d2 h
          · omega
        · rcases z6 j h with h | h
          · exact d3 h
          · omega
      obtain ⟨cr2, cm2, H2, l1, l2, row2, more2, y1, y2, y3, y4, y5, y6, y7⟩ := ih (i + 1) n H' j1 j2 fs cr' cm' cf (row ++ freshL row (nx x)) (more ++ freshL row (nx x)) hd' (by omega) z2 (by omega) (fun j hj => by
        rw [z4 j (by omega) (fun h => by have := hb j (.inl h); omega) fun h => by have := hb j (.inr h); omega, u4 j (by omega), h0 j hj]) (hf.frame fun j hj => by
        obtain ⟨d1, d2, d3⟩ := hfs j hj
        rw [z4 j (by omega) d2 d3, u4 j d1]) hfs' (by rw [← List.append_assoc]; exact hF') (by simp; omega) b0 k m hm'
      refine ⟨cr2, cm2, H2, l1, l2, row2, more2, ?_, y2, y3, y4, y5, y6, by simp at y7; omega⟩
      simp only [impl_deep_impl_graph_onOf_l1]
      rw [decide_eq_true (by omega), cond_true]
      simp only [t1, t2, t3, u1, u2.len, callS_canon, callL_canon, Option.map_some, Option.bind_some, shape_one, shape_agg, shape_nil, cellsAt_0, cellsAt_1, cellsAt_2, cellsAt_3, cells_one, cells_agg, cB_zero, cI_zero, cS_zero, cC_zero, cB_cons, cI_cons, cS_cons, cC_cons, cond_true, cond_false, List.length_cons, List.length_nil, beq_self_eq_true, Bool.and_true, Bool.true_and, lenC_encL, lenC_lst, deref_ref, emptyK_nil, bs_size, bs_toList]
      rw [show (0 : Int) = ((0 : Nat) : Int) from rfl, z1, wrap_succ (by omega)]
      exact y1
  -- the rounds
  have L0 : ∀ (d : Nat) (H : List Entry) (i1 fs : List Nat) (cr cf : Cell) (row fr : List Str) (n : Nat), RM H0.length H i1 [] cr (.lst true 1 []) row [] → H0.length ≤ H.length → (∀ j, j < H0.length → H[j]? = H0[j]?) → ListM H fs cf fr → (∀ j ∈ fs, j < H.length ∧ j ∉ i1) → Found nx s row fr → fr.length ≤ row.length + 1 →
      2 * (U.length - row.length) + (if fr = [] then 0 else 1) ≤ d → d < n → ∀ k m, 1048577 < m → ∃ c H' is, impl_deep_impl_graph_onOf_l0 k m n (.ptr g 2 0 0 0) cr cf H = some ([.one c], H') ∧ Rep H' true true 2 is c (trL 1 trStr (reachS nx s)) ∧ is.Nodup := by
    intro d
    induction d with
    | zero =>
      intro H i1 fs cr cf row fr n hr hN h0 hf hfs hF hfl hd hn k m hm'
      obtain ⟨n, rfl⟩ : ∃ j, n = j + 1 := ⟨n - 1, by omega⟩
      have hfr : fr = [] := by
        rcases Classical.em (fr = []) with h | h
        · exact h
        · rw [if_neg h] at hd; omega
      subst hfr
      have hrl : row.length ≤ U.length := nodup_le hF.nd fun y hy => hreach y (hF.ro y hy)
      obtain ⟨c', E, is, e1, r1, w1, _⟩ := freshO (f_impl_Sorted row (by omega)) H (mapO_c (ListM.of (n := 2) hr.1).read (mapO_nil' _))
      refine ⟨c', H ++ E, is, ?_, by rw [reachS_eq hF.done]; exact r1, w1.nd⟩
      simp only [impl_deep_impl_graph_onOf_l0, hf.len, List.length_nil, Option.bind_some]
      rw [decide_eq_false (by omega), cond_false]
      simp only [e1, callS_canon, callL_canon, Option.map_some, Option.bind_some, shape_one, shape_agg, shape_nil, cellsAt_0, cellsAt_1, cellsAt_2, cellsAt_3, cells_one, cells_agg, cB_zero, cI_zero, cS_zero, cC_zero, cB_cons, cI_cons, cS_cons, cC_cons, cond_true, cond_false, List.length_cons, List.length_nil, beq_self_eq_true, Bool.and_true, Bool.true_and, lenC_encL, lenC_lst, deref_ref, emptyK_nil, bs_size, bs_toList]
    | succ d ih =>
      intro H i1 fs cr cf row fr n hr hN h0 hf hfs hF hfl hd hn k m hm'
      obtain ⟨n, rfl⟩ : ∃ j, n = j + 1 := ⟨n - 1, by omega⟩
      have hrl : row.length ≤ U.length := nodup_le hF.nd fun y hy => hreach y (hF.ro y hy)
      cases fr with
      | nil =>
        obtain ⟨c', E, is, e1, r1, w1, _⟩ := freshO (f_impl_Sorted row (by omega)) H (mapO_c (ListM.of (n := 2) hr.1).read (mapO_nil' _))
        refine ⟨c', H ++ E, is, ?_, by rw [reachS_eq hF.done]; exact r1, w1.nd⟩
        simp only [impl_deep_impl_graph_onOf_l0, hf.len, List.length_nil, Option.bind_some]
        rw [decide_eq_false (by omega), cond_false]
        simp only [e1, callS_canon, callL_canon, Option.map_some, Option.bind_some, shape_one, shape_agg, shape_nil, cellsAt_0, cellsAt_1, cellsAt_2, cellsAt_3, cells_one, cells_agg, cB_zero, cI_zero, cS_zero, cC_zero, cB_cons, cI_cons, cS_cons, cC_cons, cond_true, cond_false, List.length_cons, List.length_nil, beq_self_eq_true, Bool.and_true, Bool.true_and, lenC_encL, lenC_lst, deref_ref, emptyK_nil, bs_size, bs_toList]
      | cons x fr =>
        rw [if_neg (by simp)] at hd
        obtain ⟨cr', cm', H', j1, j2, row', more', z1, z2, z3, z4, z5, z6, z7⟩ := L1 (x :: fr) (by omega) (x :: fr) 0 m H i1 [] fs cr (.lst true 1 []) cf row [] rfl (by omega) hr hN h0 hf (fun j hj => ⟨(hfs j hj).1, (hfs j hj).2, by simp⟩) (by simpa using hF) (by simp) (impl_deep_impl_graph_onOf_l0 k m n) k m (by omega)
        have hrl' : row'.length ≤ U.length := nodup_le z5.nd fun y hy => hreach y (z5.ro y hy)
        simp only [List.length_nil] at z7
        obtain ⟨c, H2, is, y1, y2, y3⟩ := ih H' j1 j2 cr' cm' row' more' n z2.anew z3 z4 (ListM.of (n := 2) z2.2.1) (fun j hj => ⟨z2.2.1.lt j hj, fun h => z2.2.2.2.2.2.2.1 j h hj⟩) z5 (by omega) (by
          by_cases hm0 : more' = []
          · rw [if_pos hm0]; omega
          · rw [if_neg hm0]
            have := List.length_pos_iff.2 hm0
            omega) (by omega) k m hm'
        refine ⟨c, H2, is, ?_, y2, y3⟩
        simp only [impl_deep_impl_graph_onOf_l0, hf.len, Option.bind_some]
        rw [decide_eq_true (by simp), cond_true, show (0 : Int) = ((0 : Nat) : Int) from rfl, z1]
        exact y1
  obtain ⟨c, H', is, z1, z2, z3⟩ := L0 (2 * U.length + 1) H0 [] [] (.lst true 1 []) (.lst true 1 ([s].map eStr)) [] [s] (2 * U.length + 1048577 + 1) (RM.nil _ _).anew (Nat.le_refl _) (fun _ _ => rfl) (.inl ⟨true, rfl⟩) (by simp) (Found.start nx s) (by simp) (by simp) (by omega) (2 * U.length + 1048577 + 1) (2 * U.length + 1048577 + 1) (by omega)
  exact ⟨c, H', is, run_impl_deep_impl_graph_onOf_of (2 * U.length + 1048577) (by simpa [impl_deep_impl_graph_onOf, eStr] using z1), z2, z3⟩
theorem reach_fin {nx : Str → List Str} {s : Str} {U : List Str} (hm : ∀ x, ∀ y ∈ nx x, y ∈ U) : ∃ o : List Str, ∀ x, x ∈ o ↔ Reach nx s x := by
  classical
  refine ⟨U.filter fun x => decide (Reach nx s x), fun x => ?_⟩
  rw [List.mem_filter, decide_eq_true_eq]
  refine ⟨fun h => h.2, fun h => ⟨?_, h⟩⟩
  cases h with
  | one h => exact hm _ _ h
  | step _ k => exact hm _ _ k
theorem pairwise_nodup {l : List Str} (h : l.Pairwise (· < ·)) : l.Nodup := h.imp fun h e => by subst e; exact List.lt_irrefl _ h
theorem reachS_bd {nx : Str → List Str} {s : Str} {U : List Str} (hm : ∀ x, ∀ y ∈ nx x, y ∈ U) : (reachS nx s).length ≤ U.length ∧ ∀ x ∈ reachS nx s, x ∈ U := by
  obtain ⟨o, ho⟩ := reach_fin (s := s) hm
  rw [reachS_eq ho]
  obtain ⟨h1, h2⟩ := sortedU_spec o
  have h3 : ∀ x ∈ sortedU o, x ∈ U := fun x hx => by
    cases (ho x).1 ((h2 x).1 hx) with
    | one h => exact hm _ _ h
    | step _ k => exact hm _ _ k
  exact ⟨nodup_le (pairwise_nodup h1) h3, h3⟩
theorem nextOf_mem {names : List Str} {next : List (List Str)} {x y : Str} (h : y ∈ nextOf names next x) : ∃ d ∈ next, y ∈ d := by
  unfold nextOf at h
  split at h
  · simp at h
  · cases hd : next[(idxS x names 0).toNat]? with
    | none => rw [hd] at h; simp at h
    | some d => rw [hd] at h; exact ⟨d, List.mem_of_getElem? hd, h⟩
def allUses (l : List MPack) : List Str := l.flatMap (·.Uses)
theorem allUses_len (l : List MPack) : (allUses l).length ≤ wtL MPack.wt l := by
  induction l with
  | nil => simp [allUses]
  | cons x l ih =>
    simp only [allUses, wtL, List.flatMap_cons, List.length_append, List.length_cons, List.map_cons, List.sum_cons] at ih ⊢
    have : x.Uses.length ≤ MPack.wt x := by simp only [MPack.wt, wtL]; omega
    omega
def usesOf (l : List MPack) : Str → List Str := nextOf (l.map (·.Name)) (l.map (·.Uses))
theorem usesOf_mem {l : List MPack} {x y : Str} (h : y ∈ usesOf l x) : y ∈ allUses l := by
  obtain ⟨d, hd, hy⟩ := nextOf_mem h
  obtain ⟨p, hp, rfl⟩ := List.mem_map.1 hd
  exact List.mem_flatMap.2 ⟨p, hp, hy⟩
theorem usesOf_len {l : List MPack} (hl : bdL 1048576 (MPack.Bd 1048576) l) (x : Str) : (usesOf l x).length ≤ 1048576 := by
  unfold usesOf nextOf
  split
  · simp
  · cases hd : (l.map (·.Uses))[(idxS x (l.map (·.Name)) 0).toNat]? with
    | none => simp
    | some d =>
      obtain ⟨p, hp, rfl⟩ := List.mem_map.1 (List.mem_of_getElem? hd)
      exact (hl.2 p hp).2.1.1
noncomputable def m_DeepUses (l : List MPack) (s : Str) : List Str := reachS (usesOf l) s
theorem b_DeepUses (l : List MPack) (hl : bdL 1048576 (MPack.Bd 1048576) l) (hw : wtL MPack.wt l ≤ 1048576) (s : Str) (hs : bdS 1048576 s) (hs' : bdS 1048576 s) : bdL 1048576 (bdS 1048576) (m_DeepUses l s) := by
  obtain ⟨h1, h2⟩ := reachS_bd (s := s) (U := allUses l) fun x y h => usesOf_mem h
  refine ⟨Nat.le_trans h1 (Nat.le_trans (allUses_len l) hw), fun x hx => ?_⟩
  obtain ⟨p, hp, hx⟩ := List.mem_flatMap.1 (h2 x hx)
  exact (hl.2 p hp).2.1.2 x hx
theorem cnt_DeepUses (l : List MPack) (hl : bdL 1048576 (MPack.Bd 1048576) l) (hw : wtL MPack.wt l ≤ 1048576) (s : Str) (hs : bdS 1048576 s) (hs' : bdS 1048576 s) : cntL one1 (m_DeepUses l s) ≤ 1099511627776 := by
  rw [cntL_one1]
  have := (b_DeepUses l hl hw s hs hs').1
  omega
theorem c_spec_DeepUses (l : List MPack) (hl : bdL 1048576 (MPack.Bd 1048576) l) (hw : wtL MPack.wt l ≤ 1048576) (s : Str) (hs : bdS 1048576 s) (hs' : bdS 1048576 s) : outL run_spec_DeepUses [.one (encL 4 MPack.enc l), .one (Cell.str (bs s))] = some [.one (strsC (m_DeepUses l s))] := by
  have h1 := hl.1
  have hmm : ∀ x, ∀ y ∈ nextOf (l.map (·.Name)) (l.map (·.Uses)) x, y ∈ allUses l := fun x y h => usesOf_mem (l := l) (x := x) h
  have e := (c_spec_l11Reach (l.map (·.Name)) (l.map (·.Uses)) s (allUses l) (by simp; omega) (by simp) (fun d hd => by
    obtain ⟨p, hp, rfl⟩ := List.mem_map.1 hd
    exact (hl.2 p hp).2.1.1) (Nat.le_trans (allUses_len l) hw) hmm).1
  refine outL_canon (H := []) (run_spec_DeepUses_of 0 ?_)
  simp only [spec_DeepUses, c_spec_l11Packs l hl, e, callS_canon, callL_canon, Option.map_some, Option.bind_some, shape_one, shape_agg, shape_nil, cellsAt_0, cellsAt_1, cellsAt_2, cellsAt_3, cells_one, cells_agg, cB_zero, cI_zero, cS_zero, cC_zero, cB_cons, cI_cons, cS_cons, cC_cons, cond_true, cond_false, List.length_cons, List.length_nil, beq_self_eq_true, Bool.and_true, Bool.true_and, lenC_encL, lenC_lst, deref_ref, emptyK_nil, bs_size, bs_toList]
  rfl
theorem f_impl_DeepUses (l : List MPack) (hl : bdL 1048576 (MPack.Bd 1048576) l) (hw : wtL MPack.wt l ≤ 1048576) (s : Str) (hs : bdS 1048576 s) (hs' : bdS 1048576 s) : Fresh run_impl_DeepUses true 2 [.one (encL 4 MPack.enc l), .one (Cell.str (bs s))] [.one (trL 1 trStr (m_DeepUses l s))] := by
  have h1 := hl.1
  obtain ⟨H, g1, e1⟩ := g_impl_graphOf l hl
  obtain ⟨ids, hG⟩ := g1.graph (by simp)
  obtain ⟨c, H', is, e2, r1, r2⟩ := gm_impl_deep_impl_graph_onOf hG (usesOf l) (allUses l) (Nat.le_trans (allUses_len l) hw) (fun x y h => usesOf_mem h) (usesOf_len hl) (fun H1 x hG1 => by
    obtain ⟨d, q1, q2⟩ := gm_onOf hG1 (by simp; omega) x
    exact ⟨d, H1, ids, q1, q2, Nat.le_refl _, fun _ _ => rfl, fun j hj => ⟨hG1.lt j hj, .inl (hG.lt j hj)⟩⟩) s
  refine Fresh.one (run_impl_DeepUses_of 0 ?_) r1 r2
  simp only [impl_DeepUses, e1, e2, callS_canon, callL_canon, Option.map_some, Option.bind_some, shape_one, shape_agg, shape_nil, cellsAt_0, cellsAt_1, cellsAt_2, cellsAt_3, cells_one, cells_agg, cB_zero, cI_zero, cS_zero, cC_zero, cB_cons, cI_cons, cS_cons, cC_cons, cond_true, cond_false, List.length_cons, List.length_nil, beq_self_eq_true, Bool.and_true, Bool.true_and, lenC_encL, lenC_lst, deref_ref, emptyK_nil, bs_size, bs_toList]
def taskName (p t : Str) : Str := p ++ [35] ++ t
def isPath (b : UInt8) : Bool := isSmall b || (isFigure b || (b == 46 || (b == 45 || b == 95)))
def fileOk (s : Str) : Bool := s.all isPath && (inR s.length 1 12 && (!(s == [46]) && !(s == [46, 46])))
def hasNil (W : List Str) : Bool := W.contains []
theorem hasNil_mem (W : List Str) : hasNil W = true ↔ [] ∈ W := by unfold hasNil; simp
theorem hasNil_cons (w : Str) (W : List Str) : hasNil (w :: W) = ((w == []) || hasNil W) := by
  unfold hasNil
  rw [List.contains_cons]
  cases w <;> rfl
def actKind (w : Str) (n : Nat) (into : Bool) : Bool :=
  bif w == [112, 117, 116] then decide (2 ≤ n) && into
  else bif w == [99, 97, 116] then inR n 2 4 && into
  else bif w == [101, 110, 118] then decide (n = 2) && into
  else bif w == [117, 115, 101] then decide (n = 3) && into
  else bif w == [108, 111, 103] then decide (2 ≤ n) && !into
  else bif w == [102, 97, 105, 108] then decide (n = 1) && !into
  else false
def actW (W : List Str) : Bool := !hasNil W && bif decide (3 ≤ W.length) && (W[W.length - 2]? == some [62]) then fileOk ((W[W.length - 1]?).getD []) && actKind ((W[0]?).getD []) (W.length - 2) true else actKind ((W[0]?).getD []) W.length false
def actOk (s : Str) : Bool := actW (split 32 s)
theorem n_ge (n k : Nat) : decide ((n : Int) ≥ (k : Int)) = decide (k ≤ n) := by rw [decide_eq_decide]; omega
theorem n_gt (n k : Nat) : decide ((n : Int) > (k : Int)) = decide (k < n) := by rw [decide_eq_decide]; omega
theorem n_eq (n k : Nat) : ((n : Int) == (k : Int)) = decide (n = k) := by rw [Bool.eq_iff_iff]; simp; omega
def kindS (w : Str) (n : Nat) (to lg : Bool) : Bool :=
  bif w == [112, 117, 116] then decide (2 ≤ n) && to
  else bif w == [99, 97, 116] then inR n 2 4 && to
  else bif w == [101, 110, 118] then decide (n = 2) && to
  else bif w == [117, 115, 101] then decide (n = 3) && to
  else bif w == [108, 111, 103] then decide (2 ≤ n) && lg
  else bif w == [102, 97, 105, 108] then decide (n = 1) && lg
  else false
theorem kindS_true (w : Str) (n : Nat) : kindS w n true false = actKind w n true := by
  unfold kindS actKind
  rfl
theorem kindS_false (w : Str) (n : Nat) : kindS w n false true = actKind w n false := by
  unfold kindS actKind
  rfl
theorem kindS_none (w : Str) (n : Nat) : kindS w n false false = false := by
  unfold kindS
  simp
def specB : List Str → Str → Bool → Bool
  | [], _, _ => false
  | w :: l, y, b => !hasNil (w :: l) && kindS w (l.length + 1) (fileOk y) (y == [] && !b)
def pathOk (s : Str) : Bool := (split 47 s).all fileOk && decide ((split 47 s).length ≤ 4)
theorem n_le (n k : Nat) : decide ((n : Int) ≤ (k : Int)) = decide (n ≤ k) := by rw [decide_eq_decide]; omega
end Go.Ev
