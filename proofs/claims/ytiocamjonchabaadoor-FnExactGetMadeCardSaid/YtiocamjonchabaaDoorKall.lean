/- What the functions come to. Conditions: none. -/
import Derived.Test.YtiocamjonchabaaDoorEvCon
set_option linter.unusedSimpArgs false
set_option linter.unusedVariables false
namespace Go.Ev
open Go
/-! names -/
def inR (x a b : Int) : Bool := decide (a ≤ x) && decide (x ≤ b)
def isSmall (b : UInt8) : Bool := inR b.toNat 97 122
def isFigure (b : UInt8) : Bool := inR b.toNat 48 57
def nameGo (first : Bool) : Str → Bool
  | [] => true
  | b :: r => (isSmall b || (!first && (isFigure b || b == 45))) && nameGo false r
def nameOk (s : Str) : Bool := nameGo true s && inR s.length 1 10
theorem u8_eq (b : UInt8) (n : Nat) (h : n < 256) : ((b.toNat : Int) == (n : Int)) = (b == UInt8.ofNat n) := by
  rw [Bool.eq_iff_iff]
  simp only [beq_iff_eq]
  constructor
  · intro e
    apply UInt8.toNat_inj.1
    have : (UInt8.ofNat n).toNat = n := by simp; omega
    omega
  · intro e
    have : (UInt8.ofNat n).toNat = n := by simp; omega
    rw [e, this]
theorem u8_ne (b : UInt8) (n : Nat) (h : n < 256) : ((b.toNat : Int) != (n : Int)) = (b != UInt8.ofNat n) := by
  simp only [bne, u8_eq b n h]
theorem u8_lt (b : UInt8) : (b.toNat : Int) < 256 := by have := b.toNat_lt; omega
theorem c_spec_l1In (x a b : Int) : out run_spec_l1In [.one (Cell.int x), .one (Cell.int a), .one (Cell.int b)] = some [.one (Cell.bool (inR x a b))] := by
  refine out_of (H := []) (run_spec_l1In_of 0 ?_)
  simp only [spec_l1In, inR]
  by_cases h : a ≤ x
  · rw [decide_eq_true (by omega : x ≥ a), cond_true, Bool.true_and]
  · rw [decide_eq_false (by omega : ¬ x ≥ a), cond_false, Bool.false_and]
theorem c_impl_inRange (x a b : Int) : out run_impl_inRange [.one (Cell.int x), .one (Cell.int a), .one (Cell.int b)] = some [.one (Cell.bool (inR x a b))] := by
  refine out_of (H := []) (run_impl_inRange_of 0 ?_)
  simp only [impl_inRange, inR]
  by_cases h : a ≤ x
  · rw [decide_eq_true (by omega : x ≥ a), cond_true, Bool.true_and]
  · rw [decide_eq_false (by omega : ¬ x ≥ a), cond_false, Bool.false_and]
theorem c_spec_l1Digit (b : UInt8) : out run_spec_l1Digit [.one (.sc (.int .u8 (b.toNat : Int)))] = some [.one (Cell.bool (isFigure b))] := by
  have := u8_lt b
  refine out_of (H := []) (run_spec_l1Digit_of 0 ?_)
  simp only [spec_l1Digit, wrap_small (n := (b.toNat : Int)) (by omega) (by omega), c_spec_l1In, callS_canon, callL_canon, Option.map_some, Option.bind_some, shape_one, shape_agg, shape_nil, cellsAt_0, cellsAt_1, cellsAt_2, cellsAt_3, cells_one, cells_agg, cB_zero, cI_zero, cS_zero, cC_zero, cB_cons, cI_cons, cS_cons, cC_cons, cond_true, cond_false, List.length_cons, List.length_nil, beq_self_eq_true, Bool.and_true, Bool.true_and, lenC_encL, lenC_lst, deref_ref, emptyK_nil, bs_size, bs_toList, isFigure]
theorem c_impl_isFigure (b : UInt8) : out run_impl_isFigure [.one (.sc (.int .u8 (b.toNat : Int)))] = some [.one (Cell.bool (isFigure b))] := by
  refine out_of (H := []) (run_impl_isFigure_of 0 ?_)
  simp only [impl_isFigure, isFigure, inR]
  by_cases h : (48 : Int) ≤ b.toNat
  · rw [decide_eq_true (by omega : (b.toNat : Int) ≥ 48), cond_true, Bool.true_and]
  · rw [decide_eq_false (by omega : ¬ (b.toNat : Int) ≥ 48), cond_false, Bool.false_and]
/-! parts of a text -/
/-- The parts between which a byte stands; cur: what stands ahead already. -/
def splitGo (c : UInt8) (cur : Str) : Str → List Str
  | [] => [cur]
  | b :: r => if b = c then cur :: splitGo c [] r else splitGo c (cur ++ [b]) r
def split (c : UInt8) (s : Str) : List Str := splitGo c [] s
/-- What stands ahead of the first such byte, and behind it. -/
def ahead (c : UInt8) (s : Str) : Str := s.takeWhile (· != c)
def behind (c : UInt8) (s : Str) : Str := (s.dropWhile (· != c)).drop 1

theorem splitGo_length (c : UInt8) : ∀ (s cur : Str), (splitGo c cur s).length ≤ s.length + 1 ∧ ∀ x ∈ splitGo c cur s, x.length ≤ cur.length + s.length := by
  intro s
  induction s with
  | nil => intro cur; simp [splitGo]
  | cons b r ih =>
    intro cur
    simp only [splitGo]
    split
    · obtain ⟨h1, h2⟩ := ih []
      refine ⟨by simp; omega, fun x hx => ?_⟩
      rcases List.mem_cons.1 hx with rfl | hx
      · simp
      · have := h2 x hx; simp at this; simp; omega
    · obtain ⟨h1, h2⟩ := ih (cur ++ [b])
      refine ⟨by simp; omega, fun x hx => ?_⟩
      have := h2 x hx; simp at this; simp; omega

theorem splitGo_not {c : UInt8} : ∀ {s : Str} (cur : Str), c ∉ s → splitGo c cur s = [cur ++ s] := by
  intro s
  induction s with
  | nil => intro cur _; simp [splitGo]
  | cons b r ih =>
    intro cur h
    simp only [List.mem_cons, not_or] at h
    simp only [splitGo]
    rw [if_neg fun e => h.1 e.symm, ih _ h.2]
    simp

theorem splitGo_cut {c : UInt8} : ∀ {s : Str} (cur : Str), c ∈ s → splitGo c cur s = (cur ++ ahead c s) :: splitGo c [] (behind c s) := by
  intro s
  induction s with
  | nil => intro cur h; simp at h
  | cons b r ih =>
    intro cur h
    simp only [splitGo]
    by_cases e : b = c
    · subst e
      simp [ahead, behind]
    · rw [if_neg e, ih _ (by simpa [Ne.symm e] using h)]
      simp [ahead, behind, e]

theorem split_not {c : UInt8} {s : Str} (h : c ∉ s) : split c s = [s] := splitGo_not [] h
theorem split_cut {c : UInt8} {s : Str} (h : c ∈ s) : split c s = ahead c s :: split c (behind c s) := splitGo_cut [] h
theorem splitGo_ne {c : UInt8} : ∀ (s cur : Str), splitGo c cur s ≠ [] := by
  intro s
  induction s with
  | nil => intro cur; simp [splitGo]
  | cons b r ih => intro cur; simp only [splitGo]; split <;> simp [ih]
theorem ahead_le (c : UInt8) (s : Str) : (ahead c s).length ≤ s.length := by
  have := (List.takeWhile_prefix (fun x => x != c) (l := s)).length_le
  exact this
theorem behind_le (c : UInt8) (s : Str) : (behind c s).length ≤ s.length := by
  have := (List.dropWhile_suffix (fun x => x != c) (l := s)).length_le
  simp only [behind, List.length_drop]
  omega
theorem ahead_not {c : UInt8} (s : Str) : c ∉ ahead c s := by
  induction s with
  | nil => simp [ahead]
  | cons b r ih =>
    unfold ahead
    rw [List.takeWhile_cons]
    split
    · rename_i h
      intro hm
      rcases List.mem_cons.1 hm with e | e
      · rw [← e] at h; simp at h
      · exact ih e
    · simp

theorem nameGo_mem : ∀ {s : Str} {f : Bool}, nameGo f s = true → ∀ b ∈ s, isSmall b = true ∨ isFigure b = true ∨ b = 45 := by
  intro s
  induction s with
  | nil => intro f _ b hb; simp at hb
  | cons c r ih =>
    intro f h b hb
    simp only [nameGo, Bool.and_eq_true, Bool.or_eq_true, beq_iff_eq] at h
    rcases List.mem_cons.1 hb with rfl | hb
    · rcases h.1 with h1 | h1
      · exact .inl h1
      · rcases h1.2 with h2 | h2
        · exact .inr (.inl h2)
        · exact .inr (.inr h2)
    · exact ih h.2 b hb
theorem nameOk_not {s : Str} (h : nameOk s = true) : (35 : UInt8) ∉ s ∧ (94 : UInt8) ∉ s := by
  simp only [nameOk, Bool.and_eq_true] at h
  constructor <;> intro hb <;> rcases nameGo_mem h.1 _ hb with h | h | h <;> revert h <;> decide
theorem nameOk_nil : nameOk [] = false := rfl
theorem ahead_all {c : UInt8} {s : Str} (h : c ∉ s) : ahead c s = s := by
  induction s with
  | nil => rfl
  | cons b r ih =>
    simp only [List.mem_cons, not_or] at h
    have : ahead c (b :: r) = b :: ahead c r := by simp [ahead, Ne.symm h.1]
    rw [this, ih h.2]
theorem behind_none {c : UInt8} {s : Str} (h : c ∉ s) : behind c s = [] := by
  induction s with
  | nil => rfl
  | cons b r ih =>
    simp only [List.mem_cons, not_or] at h
    have : behind c (b :: r) = behind c r := by simp [behind, Ne.symm h.1]
    rw [this, ih h.2]
/-! tasks -/
def parseTask (s : Str) : Str × Str × Bool := if nameOk (ahead 35 s) && nameOk (behind 35 s) then (ahead 35 s, behind 35 s, true) else ([], [], false)
def parseTaskV (s : Str) : List AV := [.one (Cell.str (bs (parseTask s).1)), .one (Cell.str (bs (parseTask s).2.1)), .one (Cell.bool (parseTask s).2.2)]
theorem not_mem_behind {c : UInt8} {s : Str} (h : c ∉ s) (d : UInt8) : d ∉ behind c s := by
  rw [behind_none h]
  simp
/-- A text without what stands ahead of it. -/
def trimP (p s : Str) : Str := if p.isPrefixOf s then s.drop p.length else s
def onOk (s : Str) : Bool := if 35 ∈ s then nameOk (ahead 35 s) && nameOk (behind 35 s) else nameOk (trimP [94] s)
theorem bytS_head (b : UInt8) (r : Str) : bytS (bs (b :: r)) 0 = some (b.toNat : Int) := by
  have := bytS_bs (b :: r) 0
  simpa using this
/-! the order of texts -/
def lt (a b : Str) : Bool := Op.bytesLess a b
theorem lt_self (a : Str) : lt a a = false := by
  unfold lt
  induction a with
  | nil => rfl
  | cons x a ih => simp [Op.bytesLess, ih]
theorem lt_not : ∀ (a b : Str), (lt a b || a == b) = !lt b a := by
  unfold lt
  intro a
  induction a with
  | nil => intro b; cases b <;> rfl
  | cons x a ih =>
    intro b
    cases b with
    | nil => rfl
    | cons y b =>
      have h := ih b
      simp only [Op.bytesLess]
      have e : ((x :: a) == (y :: b)) = (x == y && a == b) := rfl
      rw [e]
      rcases Nat.lt_trichotomy x.toNat y.toNat with h1 | h1 | h1
      · have e1 : decide (x < y) = true := by simpa [UInt8.lt_iff_toNat_lt] using h1
        have e2 : decide (y < x) = false := by simp [UInt8.lt_iff_toNat_lt]; omega
        have e3 : (y == x) = false := by simp; intro e; rw [e] at h1; omega
        simp [e1, e2, e3]
      · have e0 := UInt8.toNat_inj.1 h1
        subst e0
        have e1 : decide (x < x) = false := by simp
        simp only [e1, Bool.false_or, beq_self_eq_true, Bool.true_and, h]
      · have e1 : decide (y < x) = true := by simpa [UInt8.lt_iff_toNat_lt] using h1
        have e2 : decide (x < y) = false := by simp [UInt8.lt_iff_toNat_lt]; omega
        have e3 : (x == y) = false := by simp; intro e; rw [e] at h1; omega
        simp [e1, e2, e3]
theorem bl_eq (a b : Str) : Op.bytesLess a b = lt a b := rfl
/-- Ascending, each text once. -/
def asc : List Str → Bool
  | [] => true
  | [_] => true
  | a :: b :: r => lt a b && asc (b :: r)
theorem wrap_pred {i : Nat} (h : i < Go.maxLen) : IntKind.i64.wrap (((i + 1 : Nat) : Int) - 1) = (i : Int) := by
  have := maxLen_eq
  rw [wrap_small (by omega) (by omega)]
  omega
/-- The place of a text in a list. -/
def idxS (s : Str) : List Str → Nat → Int
  | [], _ => -1
  | b :: r, i => if s = b then (i : Int) else idxS s r (i + 1)
theorem idxS_ge (s : Str) : ∀ (l : List Str) (i : Nat), (decide (idxS s l i ≥ 0)) = l.contains s := by
  intro l
  induction l with
  | nil => intro i; rfl
  | cons b r ih =>
    intro i
    rw [List.contains_cons]
    by_cases e : s = b
    · have e1 : idxS s (b :: r) i = (i : Int) := if_pos e
      rw [e1, show (s == b) = true by simpa using e, decide_eq_true (by omega)]; rfl
    · have e1 : idxS s (b :: r) i = idxS s r (i + 1) := if_neg e
      rw [e1, ih, show (s == b) = false by simpa using e]; rfl
theorem idxS_nat (s : Str) : ∀ (l : List Str) (i : Nat), (idxS s l i = -1 ∧ s ∉ l) ∨ ∃ j x, idxS s l i = ((i + j : Nat) : Int) ∧ l[j]? = some x := by
  intro l
  induction l with
  | nil => intro i; exact .inl ⟨rfl, by simp⟩
  | cons b r ih =>
    intro i
    by_cases e : s = b
    · exact .inr ⟨0, b, by simp [idxS, e], rfl⟩
    · rcases ih (i + 1) with ⟨h1, h2⟩ | ⟨j, x, h1, h2⟩
      · exact .inl ⟨by simp [idxS, e, h1], by simp [e, h2]⟩
      · exact .inr ⟨j + 1, x, by simp only [idxS, if_neg e, h1]; congr 1; omega, by simpa using h2⟩
/-- What a name leans on. -/
def nextOf (names : List Str) (next : List (List Str)) (s : Str) : List Str := if idxS s names 0 < 0 then [] else (next[(idxS s names 0).toNat]?).getD []
theorem idxS_take (s : Str) (n : Nat) : ∀ (l : List Str) (i : Nat), (idxS s (l.take n) i = idxS s l i ∧ idxS s l i < ((i + n : Nat) : Int)) ∨ (idxS s (l.take n) i = -1 ∧ ((i + n : Nat) : Int) ≤ idxS s l i) := by
  induction n with
  | zero =>
    intro l i
    rcases idxS_nat s l i with ⟨h1, _⟩ | ⟨j, x, h1, _⟩
    · exact .inl ⟨by rw [h1]; rfl, by rw [h1]; omega⟩
    · exact .inr ⟨rfl, by rw [h1]; omega⟩
  | succ n ih =>
    intro l i
    cases l with
    | nil => exact .inl ⟨rfl, by simp only [idxS]; omega⟩
    | cons b r =>
      by_cases e : s = b
      · exact .inl ⟨by simp [idxS, e], by simp only [idxS, if_pos e]; omega⟩
      · simp only [List.take_succ_cons, idxS, if_neg e]
        have := ih r (i + 1)
        rw [show i + 1 + n = i + (n + 1) by omega] at this
        exact this
/-- What names lean on is not asked behind the shorter of both. -/
theorem nextOf_take (names : List Str) (next : List (List Str)) (s : Str) : nextOf (names.take (min names.length next.length)) (next.take (min names.length next.length)) s = nextOf names next s := by
  unfold nextOf
  rcases idxS_take s (min names.length next.length) names 0 with ⟨h1, h2⟩ | ⟨h1, h2⟩
  · rw [h1]
    split
    · rfl
    · rw [List.getElem?_take, if_pos (by omega)]
  · rw [h1, if_pos (by omega), if_neg (by omega)]
    rcases idxS_nat s names 0 with ⟨h3, _⟩ | ⟨j, x, h3, h4⟩
    · rw [h3] at h2; omega
    · have hj := (List.getElem?_eq_some_iff.1 h4).1
      rw [h3] at h2 ⊢
      rw [List.getElem?_eq_none (by omega)]
      rfl
/-- The place of the first element that answers. -/
def idxF {α : Type} (p : α → Bool) : List α → Nat → Int
  | [], _ => -1
  | x :: r, i => cond (p x) (i : Int) (idxF p r (i + 1))
theorem idxF_find {α : Type} (p : α → Bool) : ∀ (l : List α) (i : Nat), (idxF p l i = -1 ∧ l.find? p = none) ∨ ∃ (j : Nat) (x : α), idxF p l i = ((i + j : Nat) : Int) ∧ l[j]? = some x ∧ l.find? p = some x := by
  intro l
  induction l with
  | nil => intro i; exact .inl ⟨rfl, rfl⟩
  | cons b r ih =>
    intro i
    by_cases e : p b = true
    · exact .inr ⟨0, b, by simp [idxF, e], rfl, by simp [e]⟩
    · rcases ih (i + 1) with ⟨h1, h2⟩ | ⟨j, x, h1, h2, h3⟩
      · exact .inl ⟨by simp [idxF, e, h1], by simp [e, h2]⟩
      · exact .inr ⟨j + 1, x, by simp only [idxF, Bool.eq_false_iff.2 e, cond_false, h1]; congr 1; omega, by simpa using h2, by simp [e, h3]⟩
/-- What a name leans on is in order already, or is no name. -/
def readyB (names : List Str) (next : List (List Str)) (s : Str) (done : List Str) : Bool := (nextOf names next s).all fun x => !(names.contains x && !done.contains x)
def freeB (names : List Str) (next : List (List Str)) (done : List Str) (s : Str) : Bool := !done.contains s && readyB names next s done
def orderGo (names : List Str) (next : List (List Str)) : Nat → List Str → List Str × Bool
  | 0, o => (o, true)
  | d + 1, o => match names.find? (freeB names next o) with
    | some s => orderGo names next d (o ++ [s])
    | none => ([], false)
def orderOf (names : List Str) (next : List (List Str)) : List Str × Bool := orderGo names next names.length []
theorem orderGo_le (names : List Str) (next : List (List Str)) : ∀ (d : Nat) (o : List Str), (orderGo names next d o).1.length ≤ d + o.length ∧ ∀ x ∈ (orderGo names next d o).1, x ∈ o ∨ x ∈ names := by
  intro d
  induction d with
  | zero => intro o; exact ⟨by simp [orderGo], fun x hx => .inl hx⟩
  | succ d ih =>
    intro o
    simp only [orderGo]
    split
    · rename_i s hs
      obtain ⟨h1, h2⟩ := ih (o ++ [s])
      refine ⟨by simp at h1; omega, fun x hx => ?_⟩
      rcases h2 x hx with h | h
      · rcases List.mem_append.1 h with h | h
        · exact .inl h
        · simp only [List.mem_singleton] at h
          subst h
          exact .inr (List.mem_of_find?_eq_some hs)
      · exact .inr h
    · exact ⟨by simp, by simp⟩
theorem orderOf_le (names : List Str) (next : List (List Str)) : (orderOf names next).1.length ≤ names.length ∧ ∀ x ∈ (orderOf names next).1, x ∈ names := by
  obtain ⟨h1, h2⟩ := orderGo_le names next names.length []
  exact ⟨by simpa [orderOf] using h1, fun x hx => (h2 x hx).resolve_left (by simp)⟩
theorem nextOf_le {names : List Str} {next : List (List Str)} (h : ∀ d ∈ next, d.length ≤ 1073741824) (s : Str) : (nextOf names next s).length ≤ 1073741824 := by
  unfold nextOf
  split
  · simp
  · cases hd : next[(idxS s names 0).toNat]? with
    | none => simp
    | some d => exact h d (List.mem_of_getElem? hd)
/-! texts in their order, each once -/
theorem lt_iff : ∀ (a b : Str), lt a b = true ↔ a < b := by
  intro a
  unfold lt
  induction a with
  | nil => intro b; cases b <;> simp [Op.bytesLess]
  | cons x a ih =>
    intro b
    cases b with
    | nil => simp [Op.bytesLess]
    | cons y b => rw [List.cons_lt_cons_iff, ← ih b]; simp [Op.bytesLess]
theorem strict_unique : ∀ {a b : List Str}, a.Pairwise (· < ·) → b.Pairwise (· < ·) → (∀ x, x ∈ a ↔ x ∈ b) → a = b := by
  intro a
  induction a with
  | nil =>
    intro b _ _ h
    cases b with
    | nil => rfl
    | cons y b => exact absurd ((h y).2 List.mem_cons_self) (by simp)
  | cons x a ih =>
    intro b ha hb h
    cases b with
    | nil => exact absurd ((h x).1 List.mem_cons_self) (by simp)
    | cons y b =>
      obtain ⟨a1, a2⟩ := List.pairwise_cons.1 ha
      obtain ⟨b1, b2⟩ := List.pairwise_cons.1 hb
      have hxy : x = y := by
        rcases List.mem_cons.1 ((h x).1 List.mem_cons_self) with e | e
        · exact e
        · rcases List.mem_cons.1 ((h y).2 List.mem_cons_self) with e' | e'
          · exact e'.symm
          · exact absurd (List.lt_trans (b1 x e) (a1 y e')) (List.lt_irrefl _)
      subst hxy
      congr 1
      refine ih a2 b2 fun z => ⟨fun hz => ?_, fun hz => ?_⟩
      · rcases List.mem_cons.1 ((h z).1 (List.mem_cons_of_mem _ hz)) with rfl | e
        · exact absurd (a1 z hz) (List.lt_irrefl _)
        · exact e
      · rcases List.mem_cons.1 ((h z).2 (List.mem_cons_of_mem _ hz)) with rfl | e
        · exact absurd (b1 z hz) (List.lt_irrefl _)
        · exact e
def sortedU (xs : List Str) : List Str := Lib.compact (sortS xs)
theorem sortedU_spec (xs : List Str) : (sortedU xs).Pairwise (· < ·) ∧ ∀ x, x ∈ sortedU xs ↔ x ∈ xs := by
  have hp : (sortS xs).Pairwise (fun a b => a ≤ b) := by
    have := List.pairwise_mergeSort (le := fun x y : Str => decide (x ≤ y)) (fun a b c h1 h2 => by simp only [decide_eq_true_eq] at *; exact List.le_trans h1 h2) (fun a b => by simpa using List.le_total a b) xs
    simpa [sortS] using this
  have hm : ∀ x, x ∈ sortS xs ↔ x ∈ xs := fun x => List.mem_mergeSort
  generalize hs : sortS xs = s at hp hm
  have key : ∀ m, m < s.length → ∃ C, Lib.compactUpTo s.toArray (m + 1) = C ++ [s[m]!] ∧ (C ++ [s[m]!]).Pairwise (· < ·) ∧ ∀ x, x ∈ C ++ [s[m]!] ↔ x ∈ s.take (m + 1) := by
    intro m
    induction m with
    | zero =>
      intro h
      obtain ⟨x, r, rfl⟩ : ∃ x r, s = x :: r := by cases s with | nil => simp at h | cons x r => exact ⟨x, r, rfl⟩
      exact ⟨[], by rw [Lib.compactUpTo_succ]; simp [Lib.compactUpTo, Lib.keeps], by simp, by simp⟩
    | succ m ih =>
      intro h
      obtain ⟨C, h1, h2, h3⟩ := ih (by omega)
      have e0 : s[m]! = s[m] := by simp [show m < s.length by omega]
      have e1 : s[m + 1]! = s[m + 1] := by simp [h]
      have ht : s.take (m + 1 + 1) = s.take (m + 1) ++ [s[m + 1]] := by rw [List.take_add_one, List.getElem?_eq_getElem h]; rfl
      have hle : s[m] ≤ s[m + 1] := List.pairwise_iff_getElem.1 hp m (m + 1) (by omega) h (by omega)
      rw [Lib.compactUpTo_succ, h1]
      have hk : Lib.keeps s.toArray (m + 1) = decide (s[m + 1] ≠ s[m]) := by
        simp [Lib.keeps, h, show m < s.length by omega]
      rw [hk, e1, ht]
      by_cases he : s[m + 1] = s[m]
      · refine ⟨C, by simp [he, e0], by rw [he, ← e0]; exact h2, fun x => ?_⟩
        have h4 := h3 x
        rw [e0] at h4
        rw [he]
        constructor
        · exact fun h => List.mem_append_left _ (h4.1 h)
        · intro h
          rcases List.mem_append.1 h with h | h
          · exact h4.2 h
          · exact List.mem_append_right _ h
      · refine ⟨C ++ [s[m]!], by simp [he, h], ?_, fun x => ?_⟩
        · refine List.pairwise_append.2 ⟨h2, by simp, fun a ha b hb => ?_⟩
          simp only [List.mem_singleton] at hb
          subst hb
          have hlt : s[m] < s[m + 1] := by
            rcases Classical.em (s[m] < s[m + 1]) with h | h
            · exact h
            · exact absurd (List.le_antisymm (List.not_lt.1 h) hle) he
          rcases List.mem_append.1 ha with ha | ha
          · have := (List.pairwise_append.1 h2).2.2 a ha s[m]! (by simp)
            rw [e0] at this
            exact List.lt_trans this hlt
          · simp only [List.mem_singleton] at ha
            rw [ha, e0]
            exact hlt
        · rw [List.mem_append, h3 x, List.mem_append]
  unfold sortedU
  rw [hs]
  cases hl : s.length with
  | zero =>
    have : s = [] := List.eq_nil_of_length_eq_zero hl
    subst this
    exact ⟨by simp [Lib.compact, Lib.compactUpTo], fun x => by rw [← hm x]; simp [Lib.compact, Lib.compactUpTo]⟩
  | succ m =>
    obtain ⟨C, h1, h2, h3⟩ := key m (by omega)
    have he : Lib.compact s = C ++ [s[m]!] := by rw [Lib.compact, hl, h1]
    rw [he]
    refine ⟨h2, fun x => ?_⟩
    rw [h3 x, ← hm x, List.take_of_length_le (by omega)]
theorem sortedU_unique {o xs : List Str} (h1 : o.Pairwise (· < ·)) (h2 : ∀ x, x ∈ o ↔ x ∈ xs) : o = sortedU xs :=
  strict_unique h1 (sortedU_spec xs).1 fun x => (h2 x).trans ((sortedU_spec xs).2 x).symm
theorem sortedU_le (xs : List Str) : (sortedU xs).length ≤ xs.length := Nat.le_trans (compact_le _) (Nat.le_of_eq (List.length_mergeSort xs))
open Classical in
/-- What is reached from a text, in order. -/
noncomputable def reachS (nx : Str → List Str) (a : Str) : List Str := if h : ∃ o : List Str, ∀ x, x ∈ o ↔ Reach nx a x then sortedU h.choose else []
theorem reachS_eq {nx : Str → List Str} {a : Str} {o : List Str} (h : ∀ x, x ∈ o ↔ Reach nx a x) : reachS nx a = sortedU o := by
  have hh : ∃ o : List Str, ∀ x, x ∈ o ↔ Reach nx a x := ⟨o, h⟩
  unfold reachS
  rw [dif_pos hh]
  refine strict_unique (sortedU_spec _).1 (sortedU_spec _).1 fun x => ?_
  rw [(sortedU_spec _).2 x, (sortedU_spec _).2 x, h x, hh.choose_spec x]
theorem reach_congr {nx ny : Str → List Str} (h : ∀ x y, y ∈ nx x ↔ y ∈ ny x) {a x : Str} (hr : Reach nx a x) : Reach ny a x := by
  induction hr with
  | one hb => exact .one ((h _ _).1 hb)
  | step _ k ih => exact .step ih ((h _ _).1 k)
theorem reachS_congr {nx ny : Str → List Str} (h : ∀ x y, y ∈ nx x ↔ y ∈ ny x) {a : Str} {o : List Str} (ho : ∀ x, x ∈ o ↔ Reach nx a x) : reachS ny a = reachS nx a := by
  rw [reachS_eq ho]
  refine reachS_eq fun x => (ho x).trans ⟨reach_congr h, reach_congr fun a b => (h a b).symm⟩
theorem reach_fin {nx : Str → List Str} {s : Str} {U : List Str} (hm : ∀ x, ∀ y ∈ nx x, y ∈ U) : ∃ o : List Str, ∀ x, x ∈ o ↔ Reach nx s x := by
  classical
  refine ⟨U.filter fun x => decide (Reach nx s x), fun x => ?_⟩
  rw [List.mem_filter, decide_eq_true_eq]
  refine ⟨fun h => h.2, fun h => ⟨?_, h⟩⟩
  cases h with
  | one h => exact hm _ _ h
  | step _ k => exact hm _ _ k
theorem pairwise_nodup {l : List Str} (h : l.Pairwise (· < ·)) : l.Nodup := h.imp fun h e => by subst e; exact List.lt_irrefl _ h
theorem reachS_bd {nx : Str → List Str} {s : Str} {U : List Str} (hm : ∀ x, ∀ y ∈ nx x, y ∈ U) : (reachS nx s).length ≤ U.length ∧ ∀ x ∈ reachS nx s, x ∈ U := by
  obtain ⟨o, ho⟩ := reach_fin (s := s) hm
  rw [reachS_eq ho]
  obtain ⟨h1, h2⟩ := sortedU_spec o
  have h3 : ∀ x ∈ sortedU o, x ∈ U := fun x hx => by
    cases (ho x).1 ((h2 x).1 hx) with
    | one h => exact hm _ _ h
    | step _ k => exact hm _ _ k
  exact ⟨nodup_le (pairwise_nodup h1) h3, h3⟩
theorem nextOf_mem {names : List Str} {next : List (List Str)} {x y : Str} (h : y ∈ nextOf names next x) : ∃ d ∈ next, y ∈ d := by
  unfold nextOf at h
  split at h
  · simp at h
  · cases hd : next[(idxS x names 0).toNat]? with
    | none => rw [hd] at h; simp at h
    | some d => rw [hd] at h; exact ⟨d, List.mem_of_getElem? hd, h⟩
def taskName (p t : Str) : Str := p ++ [35] ++ t
def isPath (b : UInt8) : Bool := isSmall b || (isFigure b || (b == 46 || (b == 45 || b == 95)))
def fileOk (s : Str) : Bool := s.all isPath && (inR s.length 1 12 && (!(s == [46]) && !(s == [46, 46])))
theorem last_at {W : List Str} (h : 0 < W.length) (k : Nat) (hk : k < W.length) : ∃ x, W[k]? = some x := ⟨W[k], List.getElem?_eq_getElem hk⟩
theorem wrap_sub {n k : Nat} (h : k ≤ n) (hn : n ≤ 1073741824 + 1) : IntKind.i64.wrap ((n : Int) - (k : Int)) = ((n - k : Nat) : Int) := by
  rw [wrap_small (by omega) (by omega)]
  omega
def hasNil (W : List Str) : Bool := W.contains []
theorem hasNil_mem (W : List Str) : hasNil W = true ↔ [] ∈ W := by unfold hasNil; simp
theorem hasNil_cons (w : Str) (W : List Str) : hasNil (w :: W) = ((w == []) || hasNil W) := by
  unfold hasNil
  rw [List.contains_cons]
  cases w <;> rfl
def actKind (w : Str) (n : Nat) (into : Bool) : Bool :=
  bif w == [112, 117, 116] then decide (2 ≤ n) && into
  else bif w == [99, 97, 116] then inR n 2 4 && into
  else bif w == [101, 110, 118] then decide (n = 2) && into
  else bif w == [117, 115, 101] then decide (n = 3) && into
  else bif w == [108, 111, 103] then decide (2 ≤ n) && !into
  else bif w == [102, 97, 105, 108] then decide (n = 1) && !into
  else false
def actW (W : List Str) : Bool := !hasNil W && bif decide (3 ≤ W.length) && (W[W.length - 2]? == some [62]) then fileOk ((W[W.length - 1]?).getD []) && actKind ((W[0]?).getD []) (W.length - 2) true else actKind ((W[0]?).getD []) W.length false
def actOk (s : Str) : Bool := actW (split 32 s)
theorem n_ge (n k : Nat) : decide ((n : Int) ≥ (k : Int)) = decide (k ≤ n) := by rw [decide_eq_decide]; omega
theorem n_gt (n k : Nat) : decide ((n : Int) > (k : Int)) = decide (k < n) := by rw [decide_eq_decide]; omega
theorem n_eq (n k : Nat) : ((n : Int) == (k : Int)) = decide (n = k) := by rw [Bool.eq_iff_iff]; simp; omega
def kindS (w : Str) (n : Nat) (to lg : Bool) : Bool :=
  bif w == [112, 117, 116] then decide (2 ≤ n) && to
  else bif w == [99, 97, 116] then inR n 2 4 && to
  else bif w == [101, 110, 118] then decide (n = 2) && to
  else bif w == [117, 115, 101] then decide (n = 3) && to
  else bif w == [108, 111, 103] then decide (2 ≤ n) && lg
  else bif w == [102, 97, 105, 108] then decide (n = 1) && lg
  else false
theorem kindS_true (w : Str) (n : Nat) : kindS w n true false = actKind w n true := by
  unfold kindS actKind
  rfl
theorem kindS_false (w : Str) (n : Nat) : kindS w n false true = actKind w n false := by
  unfold kindS actKind
  rfl
theorem kindS_none (w : Str) (n : Nat) : kindS w n false false = false := by
  unfold kindS
  simp
def specB : List Str → Str → Bool → Bool
  | [], _, _ => false
  | w :: l, y, b => !hasNil (w :: l) && kindS w (l.length + 1) (fileOk y) (y == [] && !b)
def pathOk (s : Str) : Bool := (split 47 s).all fileOk && decide ((split 47 s).length ≤ 4)
theorem n_le (n k : Nat) : decide ((n : Int) ≤ (k : Int)) = decide (n ≤ k) := by rw [decide_eq_decide]; omega
def isAl (b : UInt8) : Bool := isSmall b || isFigure b
/-- Behind a bracket: how many bytes up to the closing one. -/
def clsGo : Str → Nat → Option Nat
  | [], _ => none
  | b :: r, c => bif isAl b then (clsGo r (c + 1)).map (· + 1) else bif inR c 1 5 && b == 93 then some 1 else none
theorem clsGo_cons (b : UInt8) (r : Str) (c : Nat) : clsGo (b :: r) c = bif isAl b then (clsGo r (c + 1)).map (· + 1) else bif inR c 1 5 && b == 93 then some 1 else none := rfl
def unitN : Str → Nat
  | [] => 0
  | b :: t => bif b == 91 then (match t with
      | [] => 0
      | d :: t' => bif d == 33 then (match clsGo t' 0 with | some n => n + 2 | none => 0) else (match clsGo (d :: t') 0 with | some n => n + 1 | none => 0))
    else bif isPath b || (b == 63 || b == 42) then 1 else 0
def pieceGo : Nat → Str → Nat → Bool
  | _, [], c => inR c 1 12
  | 0, _ :: _, _ => false
  | n + 1, b :: t, c => bif unitN (b :: t) == 0 then false else pieceGo n ((b :: t).drop (unitN (b :: t))) (c + 1)
def pieceOk (s : Str) : Bool := pieceGo s.length s 0
def globOk (s : Str) : Bool := (split 47 s).all pieceOk && decide ((split 47 s).length ≤ 4)
theorem clsGo_le : ∀ (r : Str) (c n : Nat), clsGo r c = some n → 1 ≤ n ∧ n ≤ r.length := by
  intro r
  induction r with
  | nil => intro c n h; simp [clsGo] at h
  | cons b r ih =>
    intro c n h
    unfold clsGo at h
    cases hb : isAl b with
    | true =>
      rw [hb, cond_true, Option.map_eq_some_iff] at h
      obtain ⟨j, h1, rfl⟩ := h
      obtain ⟨h2, h3⟩ := ih _ _ h1
      simp
      omega
    | false =>
      rw [hb, cond_false] at h
      cases hc : inR (c : Int) 1 5 && b == 93 with
      | true => rw [hc, cond_true] at h; simp only [Option.some.injEq] at h; simp; omega
      | false => rw [hc, cond_false] at h; simp at h
theorem unitN_le (s : Str) : unitN s ≤ s.length := by
  cases s with
  | nil => simp [unitN]
  | cons b t =>
    cases hb : b == 91 with
    | true =>
      cases t with
      | nil => simp only [unitN, hb, cond_true]; omega
      | cons d t' =>
        cases hd : d == 33 with
        | true =>
          simp only [unitN, hb, hd, cond_true]
          split
          · rename_i n h
            have := (clsGo_le _ _ _ h).2
            simp
            omega
          · omega
        | false =>
          simp only [unitN, hb, hd, cond_true, cond_false]
          split
          · rename_i n h
            have := (clsGo_le _ _ _ h).2
            simp at this ⊢
            omega
          · omega
    | false =>
      simp only [unitN, hb, cond_false]
      cases isPath b || (b == 63 || b == 42) <;> simp
theorem u8_int (b : UInt8) (n : Nat) (h : n < 256) : ((b.toNat : Int) == (n : Int)) = (b == UInt8.ofNat n) := u8_eq b n h
def sinceS : Str := [91, 115, 105, 110, 99, 101, 93]
def dotS : Str := [46, 46, 46]
def sufB (p s : Str) : Bool := decide (p.length ≤ s.length) && (s.drop (s.length - p.length) == p)
/-- A filter that is neither turned nor widened: may it stand? -/
def plainF (s : Str) : Bool := s == sinceS || (pieceOk s && decide (s.length ≤ 20))
def oneGo : Nat → Str → Bool
  | 0, s => plainF s
  | d + 1, s => bif List.isPrefixOf [33] s then oneGo d (s.drop 1) else bif List.isPrefixOf dotS s then oneGo d (s.drop 3) else bif sufB dotS s then oneGo d (s.take (s.length - 3)) else plainF s
def oneOk (s : Str) : Bool := oneGo s.length s
def filterOk (s : Str) : Bool := (split 32 s).all oneOk && decide ((split 32 s).length ≤ 4)
theorem oneGo_ge : ∀ (d e : Nat) (s : Str), s.length ≤ d → s.length ≤ e → oneGo d s = oneGo e s := by
  intro d
  induction d with
  | zero =>
    intro e s h1 h2
    have : s = [] := List.eq_nil_of_length_eq_zero (by omega)
    subst this
    cases e <;> rfl
  | succ d ih =>
    intro e s h1 h2
    cases e with
    | zero =>
      have : s = [] := List.eq_nil_of_length_eq_zero (by omega)
      subst this
      rfl
    | succ e =>
      unfold oneGo
      cases h3 : List.isPrefixOf [33] s with
      | true => 
        have := (List.isPrefixOf_iff_prefix.1 h3).length_le
        simp only [List.length_cons, List.length_nil] at this
        simp only [cond_true]
        exact ih e _ (by simp; omega) (by simp; omega)
      | false =>
        cases h4 : List.isPrefixOf dotS s with
        | true =>
          have := (List.isPrefixOf_iff_prefix.1 h4).length_le
          simp only [dotS, List.length_cons, List.length_nil] at this
          simp only [cond_true, cond_false]
          exact ih e _ (by simp; omega) (by simp; omega)
        | false =>
          cases h5 : sufB dotS s with
          | true =>
            have : 3 ≤ s.length := by simp [sufB, dotS] at h5; omega
            simp only [cond_true, cond_false]
            exact ih e _ (by simp; omega) (by simp; omega)
          | false => rfl
theorem clsGo_no : ∀ (r : Str) (c n : Nat), clsGo r c = some n → 47 ∉ r.take n := by
  intro r
  induction r with
  | nil => intro c n h; simp [clsGo] at h
  | cons b r ih =>
    intro c n h
    rw [clsGo_cons] at h
    cases hb : isAl b with
    | true =>
      rw [hb, cond_true, Option.map_eq_some_iff] at h
      obtain ⟨j, h1, rfl⟩ := h
      rw [List.take_succ_cons, List.mem_cons, not_or]
      refine ⟨?_, ih _ _ h1⟩
      rintro rfl
      exact absurd hb (by decide)
    | false =>
      rw [hb, cond_false] at h
      cases hc : inR (c : Int) 1 5 && b == 93 with
      | true =>
        rw [hc, cond_true] at h
        simp only [Option.some.injEq] at h
        subst h
        simp only [Bool.and_eq_true, beq_iff_eq] at hc
        rw [hc.2]
        simp
      | false => rw [hc, cond_false] at h; simp at h
theorem unitN_no (s : Str) : 47 ∉ s.take (unitN s) := by
  cases s with
  | nil => simp
  | cons b t =>
    cases hb : b == 91 with
    | true =>
      have hb' : b = 91 := by simpa using hb
      cases t with
      | nil => simp [unitN, hb']
      | cons d t' =>
        cases hd : d == 33 with
        | true =>
          have hd' : d = 33 := by simpa using hd
          simp only [unitN, hb, hd, cond_true]
          split
          · rename_i n h
            have := clsGo_no _ _ _ h
            rw [List.take_succ_cons, List.take_succ_cons, hb', hd']
            simpa using this
          · simp
        | false =>
          simp only [unitN, hb, hd, cond_true, cond_false]
          split
          · rename_i n h
            have := clsGo_no _ _ _ h
            rw [List.take_succ_cons, hb', List.mem_cons, not_or]
            exact ⟨by decide, this⟩
          · simp
    | false =>
      simp only [unitN, hb, cond_false]
      cases h : isPath b || (b == 63 || b == 42) with
      | true =>
        simp only [cond_true, List.take_succ_cons, List.take_zero, List.mem_singleton]
        rintro rfl
        exact absurd h (by decide)
      | false => simp
theorem pieceGo_no : ∀ (d : Nat) (s : Str) (c : Nat), pieceGo d s c = true → 47 ∉ s := by
  intro d
  induction d with
  | zero =>
    intro s c h
    cases s with
    | nil => simp
    | cons b t => simp [pieceGo] at h
  | succ d ih =>
    intro s c h
    cases s with
    | nil => simp
    | cons b t =>
      unfold pieceGo at h
      cases hu : unitN (b :: t) == 0 with
      | true => rw [hu] at h; simp at h
      | false =>
        rw [hu, cond_false] at h
        have h1 := ih _ _ h
        have h2 := unitN_no (b :: t)
        rw [← List.take_append_drop (unitN (b :: t)) (b :: t), List.mem_append, not_or]
        exact ⟨h2, h1⟩
/-- As the program asks it. -/
theorem plainF_eq (s : Str) (h : (s == sinceS) = false) : plainF s = (decide (s.length ≤ 20) && (!decide (47 ∈ s) && globOk s)) := by
  unfold plainF
  rw [h, Bool.false_or]
  by_cases h1 : 47 ∈ s
  · rw [decide_eq_true h1]
    cases hp : pieceOk s with
    | true => exact absurd h1 (pieceGo_no _ _ _ hp)
    | false => simp
  · rw [decide_eq_false h1]
    unfold globOk
    rw [split_not h1]
    simp [Bool.and_comm]
def b16 (n : Nat) : Str := [UInt8.ofNat (n / 256), UInt8.ofNat n]
/-- A text among bytes. -/
def encT (s : Str) : Str := if 60000 < s.length then [] else b16 s.length ++ s
def numT (n : Nat) : Str := Lib.decDigits n
theorem decDigits_lt {u : Nat} (h : u < 10) : Lib.decDigits u = [UInt8.ofNat (48 + u)] := by
  unfold Lib.decDigits
  rw [dif_pos h]
theorem decDigits_ge {u : Nat} (h : ¬ u < 10) : Lib.decDigits u = Lib.decDigits (u / 10) ++ [UInt8.ofNat (48 + u % 10)] := by
  rw [Lib.decDigits, dif_neg h]
theorem encT_le (s : Str) : (encT s).length ≤ 60002 ∧ (encT s).length ≤ s.length + 2 := by
  unfold encT b16
  split
  · simp
  · simp; omega
theorem numT_le (n : Nat) (h : n ≤ 1099511627776) : (numT n).length ≤ 21 := by
  have := Lib.itoa_length_le (n : Int) (by omega) (by omega)
  have e : Lib.itoa (n : Int) = numT n := by unfold Lib.itoa numT; rw [if_neg (by omega)]; simp
  rwa [e] at this
theorem numT_30 (n : Nat) (h : n ≤ 1099511627776) : (numT n).length ≤ 1073741824 := Nat.le_trans (numT_le n h) (by omega)
theorem hi_u8 (n : Nat) : IntKind.u8.wrap (shrI .i64 (n : Int) 8) = ((UInt8.ofNat (n / 256)).toNat : Int) := by
  rw [← wrap_u8]
  congr 1
  unfold shrI
  rw [show (2 : Int) ^ (min (8 : Int).toNat IntKind.i64.bits) = 256 from rfl, Int.fdiv_eq_ediv_of_nonneg _ (by omega)]
  omega
theorem b16_rows (n : Nat) : [[Cell.sc (.int .u8 (IntKind.u8.wrap (shrI .i64 (n : Int) 8)))], [Cell.sc (.int .u8 (IntKind.u8.wrap (n : Int)))]] = (b16 n).map eByte := by
  rw [hi_u8, wrap_u8]
  rfl
theorem byteRows_bs (s : Str) : byteRows (bs s) = s.map eByte := by
  unfold byteRows
  rw [show (bs s).data.toList = s from by simp [bs]]
  rfl
theorem src_bytes (H : List Entry) (e : Str) : srcRows H 1 (bytesC e) = some (e.map eByte) := by simp [srcRows, rowsOf, encL]
/-- Bytes of one's own. -/
def BytM (H : List Entry) (c : Cell) (b : Str) : Prop := ∃ ids, Rep H true true 2 ids c (trL 1 trByte b) ∧ ids.Nodup
theorem BytM.nil (H : List Entry) : BytM H (.lst true 1 []) [] := ⟨[], .inl ⟨rfl, rfl, true, rfl⟩, by simp⟩
theorem BytM.read {H : List Entry} {c : Cell} {b : Str} (h : BytM H c b) : reifyAV false H (.one c) = some (.one (bytesC b)) := by
  obtain ⟨ids, h, _⟩ := h
  have := reify_one h (by omega)
  rwa [trL_cell] at this
theorem BytM.of {H E : List Entry} {c : Cell} {b : Str} {is : List Nat} {lo hi : Nat} (h : Rep (H ++ E) true true 2 is c (trL 1 trByte b)) (w : Mine lo hi is) : BytM (H ++ E) c b := ⟨is, h, w.nd⟩
theorem rep_bytes {H : List Entry} {ids : List Nat} {c : Cell} {xs : Str} (h : Rep H true true 2 ids c (trL 1 trByte xs)) : (xs = [] ∧ ids = [] ∧ ∃ f, c = .lst f 1 []) ∨ ∃ id ep, c = .vs id 1 0 xs.length ep ∧ ids = [id] ∧ H[id]? = some ⟨1, xs.map eByte, ep, false⟩ := by
  rcases h with ⟨h1, h2, h3⟩ | ⟨id, off, ep, e, fr, is, rfl, rfl, he, hq, hwh, hl, hr, hs⟩
  · exact .inl ⟨List.map_eq_nil_iff.1 h1, h2, h3⟩
  · obtain ⟨rfl, hle⟩ := hwh rfl
    obtain rfl := hq rfl
    rw [List.drop_zero, hle, List.take_of_length_le (Nat.le_refl _)] at hs
    have key : ∀ {is : List Nat} {e : List (List Cell)} {xs : Str}, Sp (Sp (Rep H true true 1)) is e (xs.map trByte) → (∀ r ∈ e, r.length = 1) → e = xs.map eByte ∧ is = [] := by
      intro is e xs
      induction xs generalizing is e with
      | nil => intro h _; obtain ⟨rfl, rfl⟩ := h.nil_inv; exact ⟨rfl, rfl⟩
      | cons x xs ih =>
        intro h hl
        obtain ⟨i, i', a, as', rfl, rfl, h1, h2⟩ := h.cons_inv
        obtain ⟨h3, h4⟩ := ih h2 fun r hr => hl r (List.mem_cons_of_mem _ hr)
        obtain ⟨k, k', a0, r', rfl, rfl, h5, h6⟩ := h1.cons_inv
        obtain ⟨rfl, rfl⟩ := h6.nil_inv
        obtain ⟨rfl, rfl⟩ := h5
        subst h3 h4
        exact ⟨rfl, rfl⟩
    obtain ⟨h1, h2⟩ := key hs hr
    subst h1 h2
    exact .inr ⟨id, ep, by simp, rfl, he⟩
theorem Grow.bytes {c : Cell} {H : List Entry} {b : Str} (h : Grow 1 c H (b.map eByte)) : ∃ ids, Rep H true true 2 ids c (trL 1 trByte b) ∧ ids.Nodup := by
  obtain ⟨ids, h1, h2, _⟩ := h.rep (tr := trByte) (fun _ _ => rfl) (fun x _ H' => Sp.leaf1 _)
  exact ⟨ids, h1, h2⟩
theorem c_impl_NumText (n : Nat) (hn : n ≤ 1099511627776) : out run_impl_NumText [.one (Cell.int n)] = some [.one (Cell.str (bs (numT n)))] := by
  have e : out run_strconv_Itoa [.one (Cell.int n)] = some [.one (Cell.str (bs (numT n)))] := by
    refine out_of (H := []) ?_
    show run_itoa _ _ = _
    simp only [run_itoa]
    rw [if_pos ⟨by omega, by omega⟩]
    have : Lib.itoa (n : Int) = numT n := by unfold Lib.itoa numT; rw [if_neg (by omega)]; simp
    rw [this]
    rfl
  refine out_of (H := []) (run_impl_NumText_of 0 ?_)
  simp only [impl_NumText]
  rw [if_neg (by omega)]
  simp only [e, callS_canon, callL_canon, Option.map_some, Option.bind_some, shape_one, shape_agg, shape_nil, cellsAt_0, cellsAt_1, cellsAt_2, cellsAt_3, cells_one, cells_agg, cB_zero, cI_zero, cS_zero, cC_zero, cB_cons, cI_cons, cS_cons, cC_cons, cond_true, cond_false, List.length_cons, List.length_nil, beq_self_eq_true, Bool.and_true, Bool.true_and, lenC_encL, lenC_lst, deref_ref, emptyK_nil, bs_size, bs_toList]
theorem g_impl_putText {c : Cell} {H : List Entry} {b : Str} (h : Grow 1 c H (b.map eByte)) (s : Str) (hb : b.length ≤ 8796093022208) (hs : s.length ≤ 1073741824) : ∃ p : Cell × List Entry, run_impl_putText [.one c, .one (Cell.str (bs s))] H = some ([.one p.1], p.2) ∧ Grow 1 p.1 p.2 ((b ++ encT s).map eByte) := by
  by_cases h2 : 60000 < s.length
  · have e : encT s = [] := if_pos h2
    rw [e, List.append_nil]
    refine ⟨(c, H), run_impl_putText_of 0 ?_, h⟩
    simp only [impl_putText, bs_size]
    rw [decide_eq_true (by omega), cond_true]
  · have e : encT s = b16 s.length ++ s := if_neg h2
    obtain ⟨p2, a2, g2⟩ := h.app (by' := 1) ((b16 s.length).map eByte) (by unfold bound b16; simp; omega) (by unfold bound b16; simp; omega)
    rw [← List.map_append] at g2
    obtain ⟨p3, a3, g3⟩ := g2.app (by' := 1) (s.map eByte) (by unfold bound b16; simp; omega) (by unfold bound b16; simp; omega)
    rw [← List.map_append, List.append_assoc, ← e] at g3
    refine ⟨p3, run_impl_putText_of 0 ?_, g3⟩
    simp only [impl_putText, bs_size]
    rw [decide_eq_false (by omega), cond_false]
    simp only [b16_rows, byteRows_bs, a2, a3, Option.bind_some]
def encFs (l : List MFile) : Str := l.flatMap fun f => encT f.Path ++ encT f.Text
def encFiles (l : List MFile) : Str := encT (numT l.length) ++ encFs l
theorem encFs_le (l : List MFile) : (encFs l).length ≤ 120004 * l.length := by
  induction l with
  | nil => simp [encFs]
  | cons f l ih =>
    have h1 := (encT_le f.Path).1
    have h2 := (encT_le f.Text).1
    simp only [encFs, List.flatMap_cons, List.length_append, List.length_cons] at ih ⊢
    omega
theorem encFiles_le (l : List MFile) : (encFiles l).length ≤ 60002 + 120004 * l.length := by
  have h1 := (encT_le (numT l.length)).1
  have h2 := encFs_le l
  simp only [encFiles, List.length_append]
  omega
theorem encFs_snoc (l : List MFile) (f : MFile) : encFs (l ++ [f]) = encFs l ++ (encT f.Path ++ encT f.Text) := by simp [encFs]
theorem g_impl_putFiles {c : Cell} {H : List Entry} {b : Str} (h : Grow 1 c H (b.map eByte)) (l : List MFile) (hb : b.length ≤ 4398046511104) (hl : bdL 1048576 (MFile.Bd 1048576) l) :
    ∃ p : Cell × List Entry, run_impl_putFiles [.one c, .one (encL 2 MFile.enc l)] H = some ([.one p.1], p.2) ∧ Grow 1 p.1 p.2 ((b ++ encFiles l).map eByte) := by
  have hM := maxLen_eq
  have hxl := hl.1
  have loop : ∀ (r : List MFile) (i n : Nat) (b : Str) (c : Cell) (H : List Entry), Grow 1 c H (b.map eByte) → l.drop i = r → r.length < n → b.length + 120004 * r.length ≤ 8796093022208 → ∀ k m,
      ∃ p : Cell × List Entry, impl_putFiles_l0 k m n c (encL 2 MFile.enc l) l.length i H = some ([.one p.1], p.2) ∧ Grow 1 p.1 p.2 ((b ++ encFs r).map eByte) := by
    intro r
    induction r with
    | nil =>
      intro i n b c H h hd hn hc k m
      obtain ⟨n, rfl⟩ : ∃ j, n = j + 1 := ⟨n - 1, by omega⟩
      have := drop_nil hd
      refine ⟨(c, H), ?_, by simpa [encFs] using h⟩
      simp only [impl_putFiles_l0]
      rw [decide_eq_false (by omega), cond_false]
    | cons f r ih =>
      intro i n b c H h hd hn hc k m
      obtain ⟨n, rfl⟩ : ∃ j, n = j + 1 := ⟨n - 1, by omega⟩
      obtain ⟨hlt, hx, hd'⟩ := drop_cons hd
      simp only [List.length_cons] at hn hc
      have hf := hl.2 f (List.mem_of_getElem? hx)
      have h1 := (encT_le f.Path).1
      have h2 := (encT_le f.Text).1
      have k1 : f.Path.length ≤ 1048576 := hf.1
      have k2 : f.Text.length ≤ 1048576 := hf.2
      obtain ⟨p, e1, g1⟩ := g_impl_putText h f.Path (by omega) (by omega)
      obtain ⟨q, e2, g2⟩ := g_impl_putText g1 f.Text (by simp; omega) (by omega)
      obtain ⟨z, e3, g3⟩ := ih (i + 1) n _ q.1 q.2 g2 hd' (by omega) (by simp; omega) k m
      refine ⟨z, ?_, by simpa [encFs] using g3⟩
      simp only [impl_putFiles_l0, idxA_encL, hx, MFile.enc, e1, e2, callS_canon, callL_canon, Option.map_some, Option.bind_some, shape_one, shape_agg, shape_nil, cellsAt_0, cellsAt_1, cellsAt_2, cellsAt_3, cells_one, cells_agg, cB_zero, cI_zero, cS_zero, cC_zero, cB_cons, cI_cons, cS_cons, cC_cons, cond_true, cond_false, List.length_cons, List.length_nil, beq_self_eq_true, Bool.and_true, Bool.true_and, lenC_encL, lenC_lst, deref_ref, emptyK_nil, bs_size, bs_toList]
      rw [decide_eq_true (by omega), cond_true, wrap_succ (by omega)]
      exact e3
  have h3 := (encT_le (numT l.length)).1
  obtain ⟨p, e1, g1⟩ := g_impl_putText h (numT l.length) (by omega) (by have := numT_le l.length (by omega); omega)
  obtain ⟨q, e2, g2⟩ := loop l 0 (l.length + 1 + 1) _ p.1 p.2 g1 rfl (by omega) (by simp; omega) (l.length + 1 + 1) (l.length + 1 + 1)
  refine ⟨q, run_impl_putFiles_of (l.length + 1) ?_, by simpa [encFiles] using g2⟩
  rw [show ((0 : Nat) : Int) = 0 from rfl] at e2
  simp only [impl_putFiles, lenC_encL, c_impl_NumText l.length (by omega), e1, e2, callS_canon, callL_canon, Option.map_some, Option.bind_some, shape_one, shape_agg, shape_nil, cellsAt_0, cellsAt_1, cellsAt_2, cellsAt_3, cells_one, cells_agg, cB_zero, cI_zero, cS_zero, cC_zero, cB_cons, cI_cons, cS_cons, cC_cons, cond_true, cond_false, List.length_cons, List.length_nil, beq_self_eq_true, Bool.and_true, Bool.true_and, lenC_encL, lenC_lst, deref_ref, emptyK_nil, bs_size, bs_toList]
theorem Grow.at {sz : Nat} {c : Cell} {H : List Entry} {rows : List (List Cell)} {i : Nat} {row : List Cell} (h : Grow sz c H rows) (hr : rows[i]? = some row) : ∃ a, idxA sz c (i : Int) = some a ∧ deref H a = some (row, 0) := by
  have hlt := (List.getElem?_eq_some_iff.1 hr).1
  rcases h with ⟨rfl, _, _⟩ | ⟨ep, rfl, rfl⟩
  · simp at hr
  · exact ⟨.ptr 0 sz i 0 ep, idxA_vs _ _ _ _ _ hlt, by simp [deref, entry?, hr]⟩
theorem Grow.len {sz : Nat} {c : Cell} {H : List Entry} {rows : List (List Cell)} (h : Grow sz c H rows) : lenC c = some rows.length := by
  rcases h with ⟨rfl, rfl, _⟩ | ⟨ep, rfl, rfl⟩ <;> rfl
def sumB (b : Str) : Nat := (b.map UInt8.toNat).sum
theorem sumB_le (b : Str) : sumB b ≤ 255 * b.length := by
  induction b with
  | nil => simp [sumB]
  | cons x b ih =>
    have := x.toNat_lt
    simp only [sumB, List.map_cons, List.sum_cons, List.length_cons] at ih ⊢
    omega
theorem b16_mod (n : Nat) : b16 (n % 65536) = b16 n := by
  unfold b16
  have h1 : UInt8.ofNat (n % 65536 / 256) = UInt8.ofNat (n / 256) := by
    apply UInt8.toNat_inj.1
    simp only [UInt8.toNat_ofNat']
    omega
  have h2 : UInt8.ofNat (n % 65536) = UInt8.ofNat n := by
    apply UInt8.toNat_inj.1
    simp only [UInt8.toNat_ofNat']
    omega
  rw [h1, h2]
theorem c_spec_l17Sum (b : Str) (hb : b.length ≤ 8796093022208) : out run_spec_l17Sum [.one (bytesC b)] = some [.one (Cell.int ((sumB b % 65536 : Nat) : Int))] := by
  have hM := maxLen_eq
  have loop : ∀ (r : Str) (i n a : Nat), b.drop i = r → r.length < n → a < 65536 → ∀ k m, spec_l17Sum_l0 k m n (bytesC b) a i = some ([.one (Cell.int (((a + sumB r) % 65536 : Nat) : Int))], []) := by
    intro r
    induction r with
    | nil =>
      intro i n a hd hn ha k m
      obtain ⟨n, rfl⟩ : ∃ j, n = j + 1 := ⟨n - 1, by omega⟩
      have := drop_nil hd
      simp only [spec_l17Sum_l0, lenC_encL, Option.bind_some]
      rw [decide_eq_false (by omega), cond_false, show (a + sumB []) % 65536 = a by simp [sumB]; omega]
    | cons x r ih =>
      intro i n a hd hn ha k m
      obtain ⟨n, rfl⟩ : ∃ j, n = j + 1 := ⟨n - 1, by omega⟩
      obtain ⟨hlt, hx, hd'⟩ := drop_cons hd
      simp only [List.length_cons] at hn
      have hx8 := x.toNat_lt
      simp only [spec_l17Sum_l0, lenC_encL, idxA_encL, hx, eByte, callS_canon, callL_canon, Option.map_some, Option.bind_some, shape_one, shape_agg, shape_nil, cellsAt_0, cellsAt_1, cellsAt_2, cellsAt_3, cells_one, cells_agg, cB_zero, cI_zero, cS_zero, cC_zero, cB_cons, cI_cons, cS_cons, cC_cons, cond_true, cond_false, List.length_cons, List.length_nil, beq_self_eq_true, Bool.and_true, Bool.true_and, lenC_encL, lenC_lst, deref_ref, emptyK_nil, bs_size, bs_toList]
      rw [decide_eq_true (by omega), cond_true, wrap_succ (by omega), wrap_small (n := (x.toNat : Int)) (by omega) (by omega), wrap_small (by omega) (by omega), Int.tmod_eq_emod_of_nonneg (by omega),
        show ((a : Int) + (x.toNat : Int)) % 65536 = (((a + x.toNat) % 65536 : Nat) : Int) by omega, ih (i + 1) n ((a + x.toNat) % 65536) hd' (by omega) (by omega) k m]
      congr 5
      simp only [sumB, List.map_cons, List.sum_cons]
      omega
  refine out_of (H := []) (run_spec_l17Sum_of (b.length + 1) ?_)
  have := loop b 0 (b.length + 1 + 1) 0 rfl (by omega) (by omega) (b.length + 1 + 1) (b.length + 1 + 1)
  simpa [spec_l17Sum] using this
def madeB (m : MMade) : Str := encT m.Task ++ encT m.Log ++ encFiles m.Outs
def m_PutMade (m : MMade) : Str := madeB m ++ b16 (sumB (madeB m))
theorem madeB_le (m : MMade) (hm : m.Bd 1048576) : (madeB m).length ≤ 137438953472 := by
  have h1 := (encT_le m.Task).1
  have h2 := (encT_le m.Log).1
  have h3 := encFiles_le m.Outs
  have h4 := hm.2.1.1
  simp only [madeB, List.length_append]
  omega
theorem b_PutMade (m : MMade) (hm : m.Bd 1048576) : bdS 1099511627776 (m_PutMade m) := by
  have := madeB_le m hm
  unfold bdS m_PutMade b16
  simp
  omega
theorem cnt_PutMade (m : MMade) (hm : m.Bd 1048576) : cntL one1 (m_PutMade m) ≤ 1099511627776 := by
  rw [cntL_one1]
  exact b_PutMade m hm
theorem f_impl_PutMade (m : MMade) (hm : m.Bd 1048576) : Fresh run_impl_PutMade true 2 [.agg [Cell.str (bs m.Task), encL 2 MFile.enc m.Outs, Cell.str (bs m.Log)]] [.one (trL 1 trByte (m_PutMade m))] := by
  have hM := maxLen_eq
  have hle := madeB_le m hm
  obtain ⟨b0, b1, b2⟩ := hm
  have k0 : m.Task.length ≤ 1048576 := b0
  have k2 : m.Log.length ≤ 1048576 := b2
  have h1 := (encT_le m.Task).1
  have h2 := (encT_le m.Log).1
  obtain ⟨p1, e1, g1⟩ := g_impl_putText (b := []) (Grow.nil 1) m.Task (by simp) (by omega)
  obtain ⟨p2, e2, g2⟩ := g_impl_putText g1 m.Log (by simp; omega) (by omega)
  obtain ⟨p3, e3, g3⟩ := g_impl_putFiles g2 m.Outs (by simp; omega) b1
  rw [show [] ++ encT m.Task ++ encT m.Log ++ encFiles m.Outs = madeB m from rfl] at g3
  obtain ⟨p4, a4, g4⟩ := g3.app (by' := 1) ((b16 (sumB (madeB m))).map eByte) (by unfold bound b16; simp; omega) (by unfold bound b16; simp; omega)
  rw [← List.map_append] at g4
  have loop : ∀ (r : Str) (i n a : Nat), (madeB m).drop i = r → r.length < n → a + sumB r = sumB (madeB m) → ∀ k q, impl_PutMade_l0 k q n p3.1 a p3.1 (madeB m).length i p3.2 = some ([.one p4.1], p4.2) := by
    intro r
    induction r with
    | nil =>
      intro i n a hd hn ha k q
      obtain ⟨n, rfl⟩ : ∃ j, n = j + 1 := ⟨n - 1, by omega⟩
      have := drop_nil hd
      have ha' : a = sumB (madeB m) := by simpa [sumB] using ha
      subst ha'
      simp only [impl_PutMade_l0]
      rw [decide_eq_false (by omega), cond_false]
      rw [← b16_rows] at a4
      simp only [a4, Option.bind_some]
    | cons x r ih =>
      intro i n a hd hn ha k q
      obtain ⟨n, rfl⟩ : ∃ j, n = j + 1 := ⟨n - 1, by omega⟩
      obtain ⟨hlt, hx, hd'⟩ := drop_cons hd
      simp only [List.length_cons] at hn
      have hx8 := x.toNat_lt
      have hs := sumB_le (madeB m)
      have ha' : a + (x.toNat + sumB r) = sumB (madeB m) := by simpa [sumB] using ha
      obtain ⟨ad, q1, q2⟩ := g3.at (i := i) (row := eByte x) (by rw [List.getElem?_map, hx]; rfl)
      simp only [impl_PutMade_l0, q1, q2, eByte, callS_canon, callL_canon, Option.map_some, Option.bind_some, shape_one, shape_agg, shape_nil, cellsAt_0, cellsAt_1, cellsAt_2, cellsAt_3, cells_one, cells_agg, cB_zero, cI_zero, cS_zero, cC_zero, cB_cons, cI_cons, cS_cons, cC_cons, cond_true, cond_false, List.length_cons, List.length_nil, beq_self_eq_true, Bool.and_true, Bool.true_and, lenC_encL, lenC_lst, deref_ref, emptyK_nil, bs_size, bs_toList]
      rw [decide_eq_true (by omega), cond_true, wrap_succ (by omega), wrap_small (n := (x.toNat : Int)) (by omega) (by omega), wrap_small (by omega) (by omega), show (a : Int) + (x.toNat : Int) = ((a + x.toNat : Nat) : Int) by omega]
      exact ih (i + 1) n (a + x.toNat) hd' (by omega) (by omega) k q
  obtain ⟨ids, r1, r2⟩ := g4.bytes
  refine Fresh.one (run_impl_PutMade_of (madeB m).length ?_) r1 r2
  have hlen := g3.len
  rw [List.length_map] at hlen
  simp only [impl_PutMade, e1, e2, e3, hlen, callS_canon, callL_canon, Option.map_some, Option.bind_some, shape_one, shape_agg, shape_nil, cellsAt_0, cellsAt_1, cellsAt_2, cellsAt_3, cells_one, cells_agg, cB_zero, cI_zero, cS_zero, cC_zero, cB_cons, cI_cons, cS_cons, cC_cons, cond_true, cond_false, List.length_cons, List.length_nil, beq_self_eq_true, Bool.and_true, Bool.true_and, lenC_encL, lenC_lst, deref_ref, emptyK_nil, bs_size, bs_toList]
  exact loop (madeB m) 0 _ 0 rfl (by omega) (by simp) _ _
/-- A text off the head of bytes, and the rest. -/
def tk : Str → Option (Str × Str)
  | x :: y :: r => if x.toNat * 256 + y.toNat ≤ 60000 ∧ x.toNat * 256 + y.toNat ≤ r.length then some (r.take (x.toNat * 256 + y.toNat), r.drop (x.toNat * 256 + y.toNat)) else none
  | _ => none
def digits : Str → Nat → Nat
  | [], n => n
  | b :: r, n => digits r (n * 10 + (b.toNat - 48))
def parseNum (s : Str) (most : Nat) : Option Nat :=
  if s.all isFigure = true ∧ 1 ≤ s.length ∧ s.length ≤ 7 ∧ (s.length = 1 ∨ s.head? ≠ some 48) ∧ digits s 0 ≤ most then some (digits s 0) else none
theorem b16_num (n : Nat) (h : n < 65536) : (UInt8.ofNat (n / 256)).toNat * 256 + (UInt8.ofNat n).toNat = n := by
  simp only [UInt8.toNat_ofNat']
  omega
theorem b16_of (x y : UInt8) : b16 (x.toNat * 256 + y.toNat) = [x, y] := by
  have hx := x.toNat_lt
  have hy := y.toNat_lt
  unfold b16
  have h1 : UInt8.ofNat ((x.toNat * 256 + y.toNat) / 256) = x := by
    apply UInt8.toNat_inj.1
    simp only [UInt8.toNat_ofNat']
    omega
  have h2 : UInt8.ofNat (x.toNat * 256 + y.toNat) = y := by
    apply UInt8.toNat_inj.1
    simp only [UInt8.toNat_ofNat']
    omega
  rw [h1, h2]
theorem tk_enc (s r : Str) (h : s.length ≤ 60000) : tk (encT s ++ r) = some (s, r) := by
  unfold encT
  rw [if_neg (by omega)]
  show tk (UInt8.ofNat (s.length / 256) :: UInt8.ofNat s.length :: (s ++ r)) = _
  simp only [tk, b16_num s.length (by omega)]
  rw [if_pos ⟨h, by simp⟩]
  simp
theorem tk_sound {r s z : Str} (h : tk r = some (s, z)) : r = encT s ++ z ∧ s.length ≤ 60000 := by
  cases r with
  | nil => simp [tk] at h
  | cons x r =>
    cases r with
    | nil => simp [tk] at h
    | cons y r =>
      simp only [tk] at h
      split at h
      · rename_i hn
        simp only [Option.some.injEq, Prod.mk.injEq] at h
        obtain ⟨rfl, rfl⟩ := h
        have hl : (r.take (x.toNat * 256 + y.toNat)).length = x.toNat * 256 + y.toNat := by rw [List.length_take]; omega
        refine ⟨?_, by omega⟩
        unfold encT
        rw [hl, if_neg (by omega), b16_of]
        simp
      · simp at h
theorem tk_len {r s z : Str} (h : tk r = some (s, z)) : z.length + 2 + s.length = r.length := by
  obtain ⟨e, h2⟩ := tk_sound h
  rw [e]
  unfold encT b16
  rw [if_neg (by omega)]
  simp
  omega
/-! figures -/
theorem figure_num {b : UInt8} (h : isFigure b = true) : 48 ≤ b.toNat ∧ b.toNat ≤ 57 := by
  unfold isFigure inR at h
  simp only [Bool.and_eq_true, decide_eq_true_eq] at h
  omega
theorem digits_app : ∀ (s t : Str) (n : Nat), digits (s ++ t) n = digits t (digits s n) := by
  intro s
  induction s with
  | nil => intro t n; rfl
  | cons b r ih => intro t n; exact ih t _
theorem digits_le : ∀ (s : Str) (n N : Nat), (∀ b ∈ s, isFigure b = true) → n < 10 ^ N → digits s n < 10 ^ (N + s.length) := by
  intro s
  induction s with
  | nil => intro n N _ h; exact h
  | cons b r ih =>
    intro n N h hn
    have h2 := figure_num (h b List.mem_cons_self)
    have h1 := ih (n * 10 + (b.toNat - 48)) (N + 1) (fun x hx => h x (List.mem_cons_of_mem _ hx)) (by rw [Nat.pow_succ]; omega)
    simp only [digits, List.length_cons]
    rw [show N + (r.length + 1) = N + 1 + r.length by omega]
    exact h1
theorem figure_of {n : Nat} (h : n < 10) : isFigure (UInt8.ofNat (48 + n)) = true := by
  unfold isFigure inR
  simp only [Bool.and_eq_true, decide_eq_true_eq, UInt8.toNat_ofNat']
  omega
theorem numT_shape : ∀ n : Nat, (numT n).all isFigure = true ∧ 1 ≤ (numT n).length ∧ ((numT n).length = 1 ∨ (numT n).head? ≠ some 48) ∧ digits (numT n) 0 = n ∧ (0 < n → (numT n).head? ≠ some 48) := by
  intro n
  induction n using Nat.strongRecOn with
  | _ n ih =>
    unfold numT at ih ⊢
    by_cases h : n < 10
    · rw [decDigits_lt h]
      refine ⟨by rw [List.all_cons, figure_of h, List.all_nil]; rfl, by simp, .inl rfl, ?_, ?_⟩
      · simp only [digits, UInt8.toNat_ofNat']
        omega
      · intro h0 e
        simp only [List.head?_cons, Option.some.injEq] at e
        have := congrArg UInt8.toNat e
        simp only [UInt8.toNat_ofNat'] at this
        have h48 : (48 : UInt8).toNat = 48 := rfl
        omega
    · rw [decDigits_ge h]
      obtain ⟨i1, i2, i3, i4, i5⟩ := ih (n / 10) (by omega)
      have hh : (Lib.decDigits (n / 10) ++ [UInt8.ofNat (48 + n % 10)]).head? = (Lib.decDigits (n / 10)).head? := by
        cases hd : Lib.decDigits (n / 10) with
        | nil => rw [hd] at i2; simp at i2
        | cons x r => rfl
      have i6 := i5 (by omega)
      refine ⟨?_, by simp, .inr ?_, ?_, fun _ => ?_⟩
      · rw [List.all_append, i1]
        rw [List.all_cons, figure_of (show n % 10 < 10 by omega), List.all_nil]
        rfl
      · rw [hh]; exact i6
      · rw [digits_app, i4]
        simp only [digits, UInt8.toNat_ofNat']
        omega
      · rw [hh]; exact i6
theorem numT_digits : ∀ (k : Nat) (s : Str), s.length = k → (∀ b ∈ s, isFigure b = true) → 1 ≤ s.length → (s.length = 1 ∨ s.head? ≠ some 48) → numT (digits s 0) = s := by
  intro k
  induction k with
  | zero => intro s h1 _ h2 _; omega
  | succ k ih =>
    intro s h1 h2 h3 h4
    have hne : s ≠ [] := by intro h; subst h; simp at h3
    obtain ⟨t, d, rfl⟩ : ∃ t d, s = t ++ [d] := ⟨s.dropLast, s.getLast hne, (List.dropLast_concat_getLast hne).symm⟩
    have hd := figure_num (h2 d (by simp))
    simp only [List.length_append, List.length_cons, List.length_nil] at h1 h4
    have hdd : UInt8.ofNat (48 + (d.toNat - 48)) = d := by
      apply UInt8.toNat_inj.1
      simp only [UInt8.toNat_ofNat']
      have := d.toNat_lt
      omega
    by_cases ht : t = []
    · subst ht
      simp only [List.nil_append, digits]
      unfold numT
      rw [decDigits_lt (by omega), show 0 * 10 + (d.toNat - 48) = d.toNat - 48 by omega, hdd]
    · have htl := List.length_pos_iff.2 ht
      have hhead : t.head? ≠ some 48 := by
        rcases h4 with h4 | h4
        · omega
        · cases t with
          | nil => exact absurd rfl ht
          | cons x r => exact h4
      have i1 := ih t (by omega) (fun b hb => h2 b (List.mem_append_left _ hb)) htl (.inr hhead)
      have hpos : 1 ≤ digits t 0 := by
        rcases Nat.eq_zero_or_pos (digits t 0) with h | h
        · rw [h] at i1
          have : numT 0 = [48] := by unfold numT; rw [decDigits_lt (by omega)]; rfl
          rw [this] at i1
          rw [← i1] at hhead
          exact absurd rfl hhead
        · exact h
      rw [digits_app]
      simp only [digits]
      unfold numT at i1 ⊢
      rw [decDigits_ge (by omega), show (digits t 0 * 10 + (d.toNat - 48)) / 10 = digits t 0 by omega, i1, show (digits t 0 * 10 + (d.toNat - 48)) % 10 = d.toNat - 48 by omega, hdd]
theorem parseNum_numT {k most : Nat} (h : k ≤ most) (hm : k < 10000000) : parseNum (numT k) most = some k := by
  obtain ⟨h1, h2, h3, h4, h5⟩ := numT_shape k
  have h6 : (numT k).length ≤ 7 := by
    have := List.all_eq_true.1 h1
    rcases Nat.lt_or_ge 7 (numT k).length with h7 | h7
    · exfalso
      have hx : k ≥ 10000000 := by
        -- a numeral of more than seven figures
        have key : ∀ n : Nat, n < 10000000 → (numT n).length ≤ 7 := by
          intro n hn
          unfold numT
          have s1 : ∀ u : Nat, u < 10 → (Lib.decDigits u).length = 1 := fun u hu => by rw [decDigits_lt hu]; rfl
          have st : ∀ (c u : Nat), (∀ v : Nat, v < 10 ^ c → (Lib.decDigits v).length ≤ c) → 1 ≤ c → u < 10 ^ (c + 1) → (Lib.decDigits u).length ≤ c + 1 := by
            intro c u hc h1c hu
            by_cases h : u < 10
            · rw [s1 u h]; omega
            · rw [decDigits_ge h, List.length_append]
              have := hc (u / 10) (by rw [Nat.pow_succ] at hu; omega)
              simp
              omega
          have t1 : ∀ v : Nat, v < 10 ^ 1 → (Lib.decDigits v).length ≤ 1 := fun v hv => by rw [s1 v (by simpa using hv)]; exact Nat.le_refl _
          have t2 := fun v hv => st 1 v t1 (by omega) hv
          have t3 := fun v hv => st 2 v t2 (by omega) hv
          have t4 := fun v hv => st 3 v t3 (by omega) hv
          have t5 := fun v hv => st 4 v t4 (by omega) hv
          have t6 := fun v hv => st 5 v t5 (by omega) hv
          exact st 6 n t6 (by omega) (by simpa using hn)
        rcases Nat.lt_or_ge k 10000000 with h8 | h8
        · have := key k h8; omega
        · exact h8
      omega
    · exact h7
  unfold parseNum
  rw [if_pos ⟨h1, h2, h6, h3, by rw [h4]; exact h⟩, h4]
theorem parseNum_sound {s : Str} {k most : Nat} (h : parseNum s most = some k) : s = numT k ∧ k ≤ most ∧ s.length ≤ 7 := by
  unfold parseNum at h
  split at h
  · rename_i hc
    obtain ⟨h1, h2, h3, h4, h5⟩ := hc
    simp only [Option.some.injEq] at h
    subst h
    exact ⟨(numT_digits _ s rfl (List.all_eq_true.1 h1) h2 h4).symm, h5, h3⟩
  · simp at h
theorem or_bytes (x y : UInt8) : orI .i64 (shlI .i64 (IntKind.i64.wrap (x.toNat : Int)) 8) (IntKind.i64.wrap (y.toNat : Int)) = ((x.toNat * 256 + y.toNat : Nat) : Int) := by
  have hx := x.toNat_lt
  have hy := y.toNat_lt
  rw [wrap_small (n := (x.toNat : Int)) (by omega) (by omega), wrap_small (n := (y.toNat : Int)) (by omega) (by omega)]
  have e1 : shlI .i64 (x.toNat : Int) 8 = ((x.toNat * 256 : Nat) : Int) := by
    unfold shlI
    rw [show (2 : Int) ^ (min (8 : Int).toNat IntKind.i64.bits) = 256 from rfl, wrap_small (by omega) (by omega)]
    omega
  rw [e1]
  show IntKind.i64.wrap (((BitVec.ofInt 64 ((x.toNat * 256 : Nat) : Int) ||| BitVec.ofInt 64 (y.toNat : Int)).toNat : Nat) : Int) = _
  have e2 : ∀ n : Nat, n < 65536 → (BitVec.ofInt 64 (n : Int)) = BitVec.ofNat 64 n := fun n hn => by
    apply BitVec.eq_of_toNat_eq
    rw [BitVec.toNat_ofInt, BitVec.toNat_ofNat]
    omega
  rw [e2 _ (by omega), e2 _ (by omega), BitVec.toNat_or, BitVec.toNat_ofNat, BitVec.toNat_ofNat, Nat.mod_eq_of_lt (by omega), Nat.mod_eq_of_lt (by omega)]
  have e3 : x.toNat * 256 ||| y.toNat = x.toNat * 256 + y.toNat := by
    rw [Nat.mul_comm, show (256 : Nat) = 2 ^ 8 from rfl]
    exact (Nat.two_pow_add_eq_or_of_lt (by omega) _).symm
  rw [e3]
  exact wrap_small (by omega) (by omega)
def textV (b : Str) (at' : Nat) : List AV := match tk (b.drop at') with
  | some (s, r) => [.one (Cell.str (bs s)), .one (Cell.int ((b.length - r.length : Nat) : Int)), .one (Cell.bool true)]
  | none => [.one (Cell.str (bs [])), .one (Cell.int 0), .one (Cell.bool false)]
theorem slc_bytes (b : Str) (lo hi : Nat) (h1 : lo ≤ hi) (h2 : hi ≤ b.length) : slcC 1 (bytesC b) (lo : Int) (some (hi : Int)) none = some (bytesC ((b.drop lo).take (hi - lo))) := by
  simp only [slcC, encL, List.length_map, Option.getD_some, Option.getD_none]
  rw [if_pos (.inl trivial), if_pos ⟨by omega, by omega, by omega, by omega⟩]
  simp [fullOf, List.map_take, List.map_drop]
theorem bytesOf_bytes (H : List Entry) (s : Str) : bytesOf H (bytesC s) = some (bs s) := by
  have e : ∀ s : Str, mapO byteC (s.map eByte) = some (s.map fun x => (x.toNat : Int)) := by
    intro s
    induction s with
    | nil => rfl
    | cons x s ih =>
      rw [List.map_cons, List.map_cons, mapO, ih]
      simp [byteC, eByte]
  simp only [bytesOf, rowsOf, encL, if_true, true_or, Option.bind_some, e, Option.map_some]
  simp only [ofBytes, List.map_map]
  rw [show ((fun n : Int => UInt8.ofNat n.toNat) ∘ fun x : UInt8 => (x.toNat : Int)) = id from funext fun x => by simp, List.map_id]
  rfl
theorem c_spec_GetText (b : Str) (i : Nat) (hb : b.length ≤ 1048576) (hi : i ≤ b.length) : out run_spec_GetText [.one (bytesC b), .one (Cell.int i)] = some (textV b i) := by
  have hM := maxLen_eq
  refine out_of (H := []) (run_spec_GetText_of 0 ?_)
  unfold textV
  simp only [spec_GetText, lenC_encL, c_spec_l1In, callS_canon, callL_canon, Option.map_some, Option.bind_some, shape_one, shape_agg, shape_nil, cellsAt_0, cellsAt_1, cellsAt_2, cellsAt_3, cells_one, cells_agg, cB_zero, cI_zero, cS_zero, cC_zero, cB_cons, cI_cons, cS_cons, cC_cons, cond_true, cond_false, List.length_cons, List.length_nil, beq_self_eq_true, Bool.and_true, Bool.true_and, lenC_encL, lenC_lst, deref_ref, emptyK_nil, bs_size, bs_toList]
  cases hd : b.drop i with
  | nil =>
    have := drop_nil hd
    rw [show inR (i : Int) 0 (IntKind.i64.wrap ((b.length : Int) - 2)) = false by
      rw [wrap_small (by omega) (by omega)]
      unfold inR
      rw [decide_eq_false (p := (i : Int) ≤ (b.length : Int) - 2) (by omega), Bool.and_false]]
    rfl
  | cons x r =>
    obtain ⟨hlt, hx, hd'⟩ := drop_cons hd
    cases r with
    | nil =>
      have := drop_nil hd'
      rw [show inR (i : Int) 0 (IntKind.i64.wrap ((b.length : Int) - 2)) = false by
        rw [wrap_small (by omega) (by omega)]
        unfold inR
        rw [decide_eq_false (p := (i : Int) ≤ (b.length : Int) - 2) (by omega), Bool.and_false]]
      rfl
    | cons y r =>
      obtain ⟨hlt2, hy, hd2⟩ := drop_cons hd'
      have hrl : r.length = b.length - (i + 2) := by rw [← hd2]; simp
      have hx8 := x.toNat_lt
      have hy8 := y.toNat_lt
      rw [show inR (i : Int) 0 (IntKind.i64.wrap ((b.length : Int) - 2)) = true by
        rw [wrap_small (by omega) (by omega)]
        unfold inR
        rw [decide_eq_true (p := (i : Int) ≤ (b.length : Int) - 2) (by omega), decide_eq_true (by omega)]
        rfl]
      simp only [Bool.not_true, cond_false, wrap_succ (show i < maxLen by omega), idxA_encL, hx, hy, eByte, callS_canon, callL_canon, Option.map_some, Option.bind_some, shape_one, shape_agg, shape_nil, cellsAt_0, cellsAt_1, cellsAt_2, cellsAt_3, cells_one, cells_agg, cB_zero, cI_zero, cS_zero, cC_zero, cB_cons, cI_cons, cS_cons, cC_cons, cond_true, cond_false, List.length_cons, List.length_nil, beq_self_eq_true, Bool.and_true, Bool.true_and, lenC_encL, lenC_lst, deref_ref, emptyK_nil, bs_size, bs_toList, or_bytes]
      rw [wrap_small (n := (b.length : Int) - (i : Int)) (by omega) (by omega), wrap_small (n := (b.length : Int) - (i : Int) - 2) (by omega) (by omega)]
      simp only [tk]
      by_cases h1 : x.toNat * 256 + y.toNat ≤ r.length
      · rw [decide_eq_false (by omega), cond_false]
        by_cases h2 : x.toNat * 256 + y.toNat ≤ 60000
        · rw [decide_eq_false (by omega), cond_false, if_pos ⟨h2, h1⟩]
          rw [wrap_small (n := (i : Int) + 2) (by omega) (by omega), wrap_small (by omega) (by omega), show (i : Int) + 2 = ((i + 2 : Nat) : Int) by omega, show ((i + 2 : Nat) : Int) + ((x.toNat * 256 + y.toNat : Nat) : Int) = ((i + 2 + (x.toNat * 256 + y.toNat) : Nat) : Int) by omega,
            slc_bytes b (i + 2) (i + 2 + (x.toNat * 256 + y.toNat)) (by omega) (by omega)]
          simp only [Option.bind_some, bytesOf_bytes]
          rw [show b.drop (i + 2) = r from hd2, show i + 2 + (x.toNat * 256 + y.toNat) - (i + 2) = x.toNat * 256 + y.toNat by omega]
          have : b.length - (r.drop (x.toNat * 256 + y.toNat)).length = i + 2 + (x.toNat * 256 + y.toNat) := by rw [List.length_drop]; omega
          rw [this]
        · rw [decide_eq_true (by omega), cond_true, if_neg fun h => h2 h.1]
      · rw [decide_eq_true (by omega), cond_true, if_neg fun h => h1 h.2]
theorem c_impl_GetText (b : Str) (i : Nat) (hb : b.length ≤ 1048576) (hi : i ≤ b.length) : out run_impl_GetText [.one (bytesC b), .one (Cell.int i)] = some (textV b i) := by
  have hM := maxLen_eq
  refine out_of (H := []) (run_impl_GetText_of 0 ?_)
  unfold textV
  simp only [impl_GetText, lenC_encL, callS_canon, callL_canon, Option.map_some, Option.bind_some, shape_one, shape_agg, shape_nil, cellsAt_0, cellsAt_1, cellsAt_2, cellsAt_3, cells_one, cells_agg, cB_zero, cI_zero, cS_zero, cC_zero, cB_cons, cI_cons, cS_cons, cC_cons, cond_true, cond_false, List.length_cons, List.length_nil, beq_self_eq_true, Bool.and_true, Bool.true_and, lenC_encL, lenC_lst, deref_ref, emptyK_nil, bs_size, bs_toList]
  rw [decide_eq_false (p := (i : Int) < 0) (by omega), cond_false, wrap_small (n := (b.length : Int) - 2) (by omega) (by omega)]
  cases hd : b.drop i with
  | nil =>
    have := drop_nil hd
    rw [decide_eq_true (by omega), cond_true]
    rfl
  | cons x r =>
    obtain ⟨hlt, hx, hd'⟩ := drop_cons hd
    cases r with
    | nil =>
      have := drop_nil hd'
      rw [decide_eq_true (by omega), cond_true]
      rfl
    | cons y r =>
      obtain ⟨hlt2, hy, hd2⟩ := drop_cons hd'
      have hrl : r.length = b.length - (i + 2) := by rw [← hd2]; simp
      have hx8 := x.toNat_lt
      have hy8 := y.toNat_lt
      rw [decide_eq_false (by omega), cond_false]
      simp only [wrap_succ (show i < maxLen by omega), idxA_encL, hx, hy, eByte, callS_canon, callL_canon, Option.map_some, Option.bind_some, shape_one, shape_agg, shape_nil, cellsAt_0, cellsAt_1, cellsAt_2, cellsAt_3, cells_one, cells_agg, cB_zero, cI_zero, cS_zero, cC_zero, cB_cons, cI_cons, cS_cons, cC_cons, cond_true, cond_false, List.length_cons, List.length_nil, beq_self_eq_true, Bool.and_true, Bool.true_and, lenC_encL, lenC_lst, deref_ref, emptyK_nil, bs_size, bs_toList, or_bytes]
      rw [wrap_small (n := (i : Int) + 2) (by omega) (by omega), wrap_small (n := (b.length : Int) - ((i : Int) + 2)) (by omega) (by omega)]
      simp only [tk]
      by_cases h2 : x.toNat * 256 + y.toNat ≤ 60000
      · rw [decide_eq_false (by omega), cond_false]
        by_cases h1 : x.toNat * 256 + y.toNat ≤ r.length
        · rw [decide_eq_false (by omega), cond_false, if_pos ⟨h2, h1⟩]
          rw [wrap_small (by omega) (by omega), show (i : Int) + 2 = ((i + 2 : Nat) : Int) by omega, show ((i + 2 : Nat) : Int) + ((x.toNat * 256 + y.toNat : Nat) : Int) = ((i + 2 + (x.toNat * 256 + y.toNat) : Nat) : Int) by omega,
            slc_bytes b (i + 2) (i + 2 + (x.toNat * 256 + y.toNat)) (by omega) (by omega)]
          simp only [Option.bind_some, bytesOf_bytes]
          rw [show b.drop (i + 2) = r from hd2, show i + 2 + (x.toNat * 256 + y.toNat) - (i + 2) = x.toNat * 256 + y.toNat by omega]
          have : b.length - (r.drop (x.toNat * 256 + y.toNat)).length = i + 2 + (x.toNat * 256 + y.toNat) := by rw [List.length_drop]; omega
          rw [this]
        · rw [decide_eq_true (by omega), cond_true, if_neg fun h => h1 h.2]
      · rw [decide_eq_true (by omega), cond_true, if_neg fun h => h2 h.1]
def numV (o : Option Nat) : List AV := match o with
  | some k => [.one (Cell.int (k : Int)), .one (Cell.bool true)]
  | none => [.one (Cell.int 0), .one (Cell.bool false)]
theorem fig_sub {x : UInt8} (h : isFigure x = true) : IntKind.i64.wrap (IntKind.u8.wrap ((x.toNat : Int) - 48)) = ((x.toNat - 48 : Nat) : Int) := by
  have h1 := figure_num h
  have e : ((x.toNat : Int) - 48) = ((x.toNat - 48 : Nat) : Int) := by omega
  rw [e, wrap_u8]
  have : (UInt8.ofNat (x.toNat - 48)).toNat = x.toNat - 48 := by simp only [UInt8.toNat_ofNat']; omega
  rw [this]
  exact wrap_small (by omega) (by omega)
theorem c_spec_ParseNum (s : Str) (most : Nat) (hs : s.length ≤ 1073741824) (hm : most ≤ 1073741824) : out run_spec_ParseNum [.one (Cell.str (bs s)), .one (Cell.int most)] = some (numV (parseNum s most)) := by
  have hM := maxLen_eq
  -- behind the loop
  have fin : ∀ (v : Nat), s.length ≤ 7 → s.all isFigure = true → v = digits s 0 → ((callS run_spec_l1In [.one (Cell.int (s.length : Int)), .one (Cell.int 1), .one (Cell.int 7)] []).bind fun r14 =>
    cond (shapeOk rk_spec_l1In r14)
    ((cB (cellsAt r14 0) 0).bind fun b15 =>
    cond (!b15)
    (some ([AV.one (Cell.int 0), AV.one (Cell.bool false)], []))
    (cond (decide ((s.length : Int) > 1))
    ((bytS (bs s) 0).bind fun i16 =>
    cond (i16 == 48)
    (some ([AV.one (Cell.int 0), AV.one (Cell.bool false)], []))
    (cond (decide ((v : Int) > (most : Int)))
    (some ([AV.one (Cell.int 0), AV.one (Cell.bool false)], []))
    (some ([AV.one (Cell.int (v : Int)), AV.one (Cell.bool true)], ([] : List Entry)))))
    (cond (decide ((v : Int) > (most : Int)))
    (some ([AV.one (Cell.int 0), AV.one (Cell.bool false)], []))
    (some ([AV.one (Cell.int (v : Int)), AV.one (Cell.bool true)], [])))))
    none) = some (numV (parseNum s most), []) := by
    intro v h7 ha hv
    simp only [c_spec_l1In, callS_canon, callL_canon, Option.map_some, Option.bind_some, shape_one, shape_agg, shape_nil, cellsAt_0, cellsAt_1, cellsAt_2, cellsAt_3, cells_one, cells_agg, cB_zero, cI_zero, cS_zero, cC_zero, cB_cons, cI_cons, cS_cons, cC_cons, cond_true, cond_false, List.length_cons, List.length_nil, beq_self_eq_true, Bool.and_true, Bool.true_and, lenC_encL, lenC_lst, deref_ref, emptyK_nil, bs_size, bs_toList]
    unfold parseNum
    cases s with
    | nil => rfl
    | cons x r =>
      rw [show inR (((x :: r : Str).length : Nat) : Int) 1 7 = true by
        unfold inR
        rw [decide_eq_true (by simp only [List.length_cons]; omega), decide_eq_true (by omega)]
        rfl, Bool.not_true, cond_false]
      by_cases h1 : r = []
      · subst h1
        rw [decide_eq_false (by simp), cond_false]
        by_cases hm : v ≤ most
        · rw [decide_eq_false (by omega), cond_false, if_pos ⟨ha, by simp, by simp, .inl rfl, by omega⟩, hv]
          rfl
        · rw [decide_eq_true (by omega), cond_true, if_neg fun h => hm (by omega)]
          rfl
      · have hr := List.length_pos_iff.2 h1
        rw [decide_eq_true (by simp; omega), cond_true, bytS_head]
        simp only [Option.bind_some]
        rw [show ((x.toNat : Int) == 48) = (x == 48) from u8_eq x 48 (by omega)]
        cases hx : x == 48 with
        | true =>
          have : x = 48 := by simpa using hx
          rw [cond_true, if_neg]
          · rfl
          · rintro ⟨_, _, _, h, _⟩
            rcases h with h | h
            · simp only [List.length_cons] at h; omega
            · rw [this] at h; exact h rfl
        | false =>
          have : x ≠ 48 := by simpa using hx
          rw [cond_false]
          by_cases hm : v ≤ most
          · rw [decide_eq_false (by omega), cond_false, if_pos ⟨ha, by simp, h7, .inr (by simpa using this), by omega⟩, hv]
            rfl
          · rw [decide_eq_true (by omega), cond_true, if_neg fun h => hm (by omega)]
            rfl
  have loop : ∀ (r : Str) (i n a : Nat), s.drop i = r → i ≤ 8 → r.length < n → (s.take i).all isFigure = true → a = digits (s.take i) 0 → ∀ k m, spec_ParseNum_l0 k m n (bs s) most a i = some (numV (parseNum s most), []) := by
    intro r
    induction r with
    | nil =>
      intro i n a hd hi hn ht ha k m
      obtain ⟨n, rfl⟩ : ∃ j, n = j + 1 := ⟨n - 1, by omega⟩
      have h1 := drop_nil hd
      rw [List.take_of_length_le h1] at ht ha
      simp only [spec_ParseNum_l0, bs_size]
      rw [decide_eq_false (by omega), cond_false]
      by_cases h7 : s.length ≤ 7
      · exact fin a h7 ht ha
      · simp only [c_spec_l1In, callS_canon, callL_canon, Option.map_some, Option.bind_some, shape_one, shape_agg, shape_nil, cellsAt_0, cellsAt_1, cellsAt_2, cellsAt_3, cells_one, cells_agg, cB_zero, cI_zero, cS_zero, cC_zero, cB_cons, cI_cons, cS_cons, cC_cons, cond_true, cond_false, List.length_cons, List.length_nil, beq_self_eq_true, Bool.and_true, Bool.true_and, lenC_encL, lenC_lst, deref_ref, emptyK_nil, bs_size, bs_toList]
        rw [show inR (s.length : Int) 1 7 = false by
          unfold inR
          rw [decide_eq_false (p := (s.length : Int) ≤ 7) (by omega), Bool.and_false]]
        unfold parseNum
        rw [if_neg fun h => h7 h.2.2.1]
        rfl
    | cons x r ih =>
      intro i n a hd hi hn ht ha k m
      obtain ⟨n, rfl⟩ : ∃ j, n = j + 1 := ⟨n - 1, by omega⟩
      obtain ⟨hlt, hx, hd'⟩ := drop_cons hd
      simp only [List.length_cons] at hn
      simp only [spec_ParseNum_l0, bs_size]
      rw [decide_eq_true (by omega), cond_true]
      by_cases h8 : i < 8
      · rw [decide_eq_true (by omega), cond_true]
        simp only [bytS_bs, hx, Option.map_some, c_spec_l1Digit, callS_canon, callL_canon, Option.map_some, Option.bind_some, shape_one, shape_agg, shape_nil, cellsAt_0, cellsAt_1, cellsAt_2, cellsAt_3, cells_one, cells_agg, cB_zero, cI_zero, cS_zero, cC_zero, cB_cons, cI_cons, cS_cons, cC_cons, cond_true, cond_false, List.length_cons, List.length_nil, beq_self_eq_true, Bool.and_true, Bool.true_and, lenC_encL, lenC_lst, deref_ref, emptyK_nil, bs_size, bs_toList]
        cases hf : isFigure x with
        | false =>
          simp only [Bool.not_false, cond_true]
          unfold parseNum
          rw [if_neg]
          · rfl
          · rintro ⟨h, _⟩
            have := List.all_eq_true.1 h x (List.mem_of_getElem? hx)
            rw [hf] at this
            simp at this
        | true =>
          have hsn : s.take (i + 1) = s.take i ++ [x] := by rw [List.take_add_one, hx]; rfl
          have hal : a < 10 ^ 8 := by
            rw [ha]
            refine Nat.lt_of_lt_of_le (digits_le (s.take i) 0 0 (List.all_eq_true.1 ht) (by simp)) ?_
            rw [Nat.zero_add]
            refine Nat.pow_le_pow_right (by omega) ?_
            rw [List.length_take]
            omega
          have hf2 := figure_num hf
          simp only [Bool.not_true, cond_false]
          rw [fig_sub hf, wrap_small (n := (a : Int) * 10) (by omega) (by omega), wrap_small (by omega) (by omega), wrap_succ (by omega), show (a : Int) * 10 + ((x.toNat - 48 : Nat) : Int) = ((a * 10 + (x.toNat - 48) : Nat) : Int) by omega]
          refine ih (i + 1) n _ hd' (by omega) (by omega) ?_ ?_ k m
          · rw [hsn, List.all_append, ht, List.all_cons, hf, List.all_nil]
            rfl
          · rw [hsn, digits_app, ← ha]
            rfl
      · rw [decide_eq_false (by omega), cond_false]
        simp only [c_spec_l1In, callS_canon, callL_canon, Option.map_some, Option.bind_some, shape_one, shape_agg, shape_nil, cellsAt_0, cellsAt_1, cellsAt_2, cellsAt_3, cells_one, cells_agg, cB_zero, cI_zero, cS_zero, cC_zero, cB_cons, cI_cons, cS_cons, cC_cons, cond_true, cond_false, List.length_cons, List.length_nil, beq_self_eq_true, Bool.and_true, Bool.true_and, lenC_encL, lenC_lst, deref_ref, emptyK_nil, bs_size, bs_toList]
        rw [show inR (s.length : Int) 1 7 = false by
          unfold inR
          rw [decide_eq_false (p := (s.length : Int) ≤ 7) (by omega), Bool.and_false]]
        unfold parseNum
        rw [if_neg fun h => by have := h.2.2.1; omega]
        rfl
  refine out_of (H := []) (run_spec_ParseNum_of (s.length + 1) ?_)
  have := loop s 0 (s.length + 1 + 1) 0 rfl (by omega) (by omega) (by simp) (by simp [digits]) (s.length + 1 + 1) (s.length + 1 + 1)
  simpa [spec_ParseNum] using this
theorem c_impl_ParseNum (s : Str) (most : Nat) (hs : s.length ≤ 1073741824) (hm : most ≤ 1073741824) : out run_impl_ParseNum [.one (Cell.str (bs s)), .one (Cell.int most)] = some (numV (parseNum s most)) := by
  have hM := maxLen_eq
  by_cases h17 : 1 ≤ s.length ∧ s.length ≤ 7
  · obtain ⟨h1, h7⟩ := h17
    have loop : ∀ (r : Str) (i n a : Nat), s.drop i = r → r.length < n → (s.take i).all isFigure = true → a = digits (s.take i) 0 → ∀ k m, impl_ParseNum_l0 k m n (bs s) most a i = some (numV (parseNum s most), []) := by
      intro r
      induction r with
      | nil =>
        intro i n a hd hn ht ha k m
        obtain ⟨n, rfl⟩ : ∃ j, n = j + 1 := ⟨n - 1, by omega⟩
        have h2 := drop_nil hd
        rw [List.take_of_length_le h2] at ht ha
        have hal : a < 10 ^ 7 := by
          rw [ha]
          refine Nat.lt_of_lt_of_le (digits_le s 0 0 (List.all_eq_true.1 ht) (by simp)) ?_
          rw [Nat.zero_add]
          exact Nat.pow_le_pow_right (by omega) h7
        simp only [impl_ParseNum_l0, bs_size]
        rw [decide_eq_false (by omega), cond_false]
        simp only [c_impl_NumText a (by omega), callS_canon, callL_canon, Option.map_some, Option.bind_some, shape_one, shape_agg, shape_nil, cellsAt_0, cellsAt_1, cellsAt_2, cellsAt_3, cells_one, cells_agg, cB_zero, cI_zero, cS_zero, cC_zero, cB_cons, cI_cons, cS_cons, cC_cons, cond_true, cond_false, List.length_cons, List.length_nil, beq_self_eq_true, Bool.and_true, Bool.true_and, lenC_encL, lenC_lst, deref_ref, emptyK_nil, bs_size, bs_toList]
        by_cases hc : s.length = 1 ∨ s.head? ≠ some 48
        · have e := numT_digits _ s rfl (List.all_eq_true.1 ht) h1 hc
          rw [ha, e, show (s == s) = true by simp, Bool.not_true, cond_false]
          unfold parseNum
          by_cases hm : digits s 0 ≤ most
          · rw [decide_eq_false (by omega), cond_false, if_pos ⟨ht, h1, h7, hc, hm⟩]
            rfl
          · rw [decide_eq_true (by omega), cond_true, if_neg fun h => hm h.2.2.2.2]
            rfl
        · have hne : (numT a == s) = false := by
            rw [beq_eq_false_iff_ne]
            intro e
            have := (numT_shape a).2.2.1
            rw [e] at this
            exact hc this
          rw [hne, Bool.not_false, cond_true]
          unfold parseNum
          rw [if_neg fun h => hc h.2.2.2.1]
          rfl
      | cons x r ih =>
        intro i n a hd hn ht ha k m
        obtain ⟨n, rfl⟩ : ∃ j, n = j + 1 := ⟨n - 1, by omega⟩
        obtain ⟨hlt, hx, hd'⟩ := drop_cons hd
        simp only [List.length_cons] at hn
        simp only [impl_ParseNum_l0, bs_size]
        rw [decide_eq_true (by omega), cond_true]
        simp only [bytS_bs, hx, Option.map_some, c_impl_isFigure, callS_canon, callL_canon, Option.map_some, Option.bind_some, shape_one, shape_agg, shape_nil, cellsAt_0, cellsAt_1, cellsAt_2, cellsAt_3, cells_one, cells_agg, cB_zero, cI_zero, cS_zero, cC_zero, cB_cons, cI_cons, cS_cons, cC_cons, cond_true, cond_false, List.length_cons, List.length_nil, beq_self_eq_true, Bool.and_true, Bool.true_and, lenC_encL, lenC_lst, deref_ref, emptyK_nil, bs_size, bs_toList]
        cases hf : isFigure x with
        | false =>
          simp only [Bool.not_false, cond_true]
          unfold parseNum
          rw [if_neg]
          · rfl
          · rintro ⟨h, _⟩
            have := List.all_eq_true.1 h x (List.mem_of_getElem? hx)
            rw [hf] at this
            simp at this
        | true =>
          have hsn : s.take (i + 1) = s.take i ++ [x] := by rw [List.take_add_one, hx]; rfl
          have hal : a < 10 ^ 8 := by
            rw [ha]
            refine Nat.lt_of_lt_of_le (digits_le (s.take i) 0 0 (List.all_eq_true.1 ht) (by simp)) ?_
            rw [Nat.zero_add]
            refine Nat.pow_le_pow_right (by omega) ?_
            rw [List.length_take]
            omega
          have hf2 := figure_num hf
          simp only [Bool.not_true, cond_false]
          rw [fig_sub hf, wrap_small (n := (a : Int) * 10) (by omega) (by omega), wrap_small (by omega) (by omega), wrap_succ (by omega), show (a : Int) * 10 + ((x.toNat - 48 : Nat) : Int) = ((a * 10 + (x.toNat - 48) : Nat) : Int) by omega]
          refine ih (i + 1) n _ hd' (by omega) ?_ ?_ k m
          · rw [hsn, List.all_append, ht, List.all_cons, hf, List.all_nil]
            rfl
          · rw [hsn, digits_app, ← ha]
            rfl
    refine out_of (H := []) (run_impl_ParseNum_of (s.length + 1) ?_)
    have z := loop s 0 (s.length + 1 + 1) 0 rfl (by omega) (by simp) (by simp [digits]) (s.length + 1 + 1) (s.length + 1 + 1)
    simp only [impl_ParseNum, bs_size, c_impl_inRange, callS_canon, callL_canon, Option.map_some, Option.bind_some, shape_one, shape_agg, shape_nil, cellsAt_0, cellsAt_1, cellsAt_2, cellsAt_3, cells_one, cells_agg, cB_zero, cI_zero, cS_zero, cC_zero, cB_cons, cI_cons, cS_cons, cC_cons, cond_true, cond_false, List.length_cons, List.length_nil, beq_self_eq_true, Bool.and_true, Bool.true_and, lenC_encL, lenC_lst, deref_ref, emptyK_nil, bs_size, bs_toList]
    rw [show inR (s.length : Int) 1 7 = true by
      unfold inR
      rw [decide_eq_true (by omega), decide_eq_true (by omega)]
      rfl, Bool.not_true, cond_false]
    exact z
  · refine out_of (H := []) (run_impl_ParseNum_of 0 ?_)
    simp only [impl_ParseNum, bs_size, c_impl_inRange, callS_canon, callL_canon, Option.map_some, Option.bind_some, shape_one, shape_agg, shape_nil, cellsAt_0, cellsAt_1, cellsAt_2, cellsAt_3, cells_one, cells_agg, cB_zero, cI_zero, cS_zero, cC_zero, cB_cons, cI_cons, cS_cons, cC_cons, cond_true, cond_false, List.length_cons, List.length_nil, beq_self_eq_true, Bool.and_true, Bool.true_and, lenC_encL, lenC_lst, deref_ref, emptyK_nil, bs_size, bs_toList]
    rw [show inR (s.length : Int) 1 7 = false by
      unfold inR
      rcases Nat.lt_or_ge s.length 1 with h | h
      · rw [decide_eq_false (by omega), Bool.false_and]
      · rw [decide_eq_false (p := (s.length : Int) ≤ 7) (by omega), Bool.and_false]]
    unfold parseNum
    rw [if_neg fun h => h17 ⟨h.2.1, h.2.2.1⟩]
    rfl
/-! the plain law -/
def decF : Nat → Str → Option (List MFile × Str)
  | 0, r => some ([], r)
  | k + 1, r => (tk r).bind fun p => (tk p.2).bind fun q => (decF k q.2).map fun z => (⟨p.1, q.1⟩ :: z.1, z.2)
def decM (r : Str) : Option (MMade × Str) :=
  (tk r).bind fun t => (tk t.2).bind fun l => (tk l.2).bind fun c => (parseNum c.1 1000).bind fun k => (decF k c.2).map fun z => (⟨t.1, z.1, l.1⟩, z.2)
def wfF (l : List MFile) : Prop := ∀ f ∈ l, f.Path.length ≤ 60000 ∧ f.Text.length ≤ 60000
def wfM (m : MMade) : Prop := m.Task.length ≤ 60000 ∧ m.Log.length ≤ 60000 ∧ m.Outs.length ≤ 1000 ∧ wfF m.Outs
theorem decF_sound : ∀ (k : Nat) (r z : Str) (l : List MFile), decF k r = some (l, z) → r = encFs l ++ z ∧ l.length = k ∧ wfF l := by
  intro k
  induction k with
  | zero =>
    intro r z l h
    simp only [decF, Option.some.injEq, Prod.mk.injEq] at h
    obtain ⟨rfl, rfl⟩ := h
    exact ⟨rfl, rfl, fun f hf => by simp at hf⟩
  | succ k ih =>
    intro r z l h
    simp only [decF, Option.bind_eq_some_iff, Option.map_eq_some_iff] at h
    obtain ⟨⟨p, r1⟩, h1, ⟨q, r2⟩, h2, ⟨fs, z'⟩, h3, h4⟩ := h
    simp only [Prod.mk.injEq] at h4
    obtain ⟨rfl, rfl⟩ := h4
    obtain ⟨e1, k1⟩ := tk_sound h1
    obtain ⟨e2, k2⟩ := tk_sound h2
    obtain ⟨e3, k3, k4⟩ := ih _ _ _ h3
    dsimp only at e1 e2 e3
    refine ⟨?_, by simp [k3], fun f hf => ?_⟩
    · rw [e1, e2, e3]
      simp [encFs]
    · rcases List.mem_cons.1 hf with rfl | hf
      · exact ⟨k1, k2⟩
      · exact k4 f hf
theorem decF_enc : ∀ (l : List MFile) (z : Str), wfF l → decF l.length (encFs l ++ z) = some (l, z) := by
  intro l
  induction l with
  | nil => intro z _; rfl
  | cons f l ih =>
    intro z h
    have hf := h f List.mem_cons_self
    have e : encFs (f :: l) ++ z = encT f.Path ++ (encT f.Text ++ (encFs l ++ z)) := by simp [encFs]
    rw [e]
    simp only [List.length_cons, decF, tk_enc _ _ hf.1, tk_enc _ _ hf.2, Option.bind_some, ih z fun g hg => h g (List.mem_cons_of_mem _ hg), Option.map_some]
theorem decM_sound {r z : Str} {m : MMade} (h : decM r = some (m, z)) : r = madeB m ++ z ∧ wfM m := by
  simp only [decM, Option.bind_eq_some_iff, Option.map_eq_some_iff] at h
  obtain ⟨⟨t, r1⟩, h1, ⟨l, r2⟩, h2, ⟨c, r3⟩, h3, k, h4, ⟨fs, z'⟩, h5, h6⟩ := h
  simp only [Prod.mk.injEq] at h6
  obtain ⟨rfl, rfl⟩ := h6
  obtain ⟨e1, k1⟩ := tk_sound h1
  obtain ⟨e2, k2⟩ := tk_sound h2
  obtain ⟨e3, k3⟩ := tk_sound h3
  obtain ⟨e4, k4, _⟩ := parseNum_sound h4
  obtain ⟨e5, k5, k6⟩ := decF_sound _ _ _ _ h5
  dsimp only at e1 e2 e3 e4 e5
  refine ⟨?_, k1, k2, by rw [k5]; exact k4, k6⟩
  rw [e1, e2, e3, e5, e4]
  simp [madeB, encFiles, k5]
theorem decM_enc (m : MMade) (z : Str) (h : wfM m) : decM (madeB m ++ z) = some (m, z) := by
  obtain ⟨k1, k2, k3, k4⟩ := h
  have e : madeB m ++ z = encT m.Task ++ (encT m.Log ++ (encT (numT m.Outs.length) ++ (encFs m.Outs ++ z))) := by simp [madeB, encFiles]
  have k5 := (parseNum_sound (parseNum_numT k3 (by omega))).2.2
  rw [e]
  simp only [decM, tk_enc _ _ k1, tk_enc _ _ k2, tk_enc _ _ (show (numT m.Outs.length).length ≤ 60000 by omega), Option.bind_some, parseNum_numT k3 (by omega), decF_enc m.Outs z k4, Option.map_some]
/-- What comes back of bytes. -/
def getMade (b : Str) : Option MMade := match decM b with
  | some (m, _) => if m_PutMade m = b then some m else none
  | none => none
theorem madeB_len (m : MMade) : m_PutMade m = madeB m ++ b16 (sumB (madeB m)) := rfl
theorem getMade_eq (b : Str) (x y : UInt8) (r : Str) (hb : b = r ++ [x, y]) : getMade b = (if sumB r % 65536 = x.toNat * 256 + y.toNat then (match decM r with
    | some (m, z) => if z = [] then some m else none
    | none => none) else none) := by
  have hx := x.toNat_lt
  have hy := y.toNat_lt
  have hbx : b16 (sumB r) = [x, y] ↔ sumB r % 65536 = x.toNat * 256 + y.toNat := by
    rw [← b16_mod, ← b16_of x y]
    constructor
    · intro h
      have h1 := congrArg (fun l : Str => match l with | [p, q] => p.toNat * 256 + q.toNat | _ => 0) h
      simp only [b16] at h1
      rw [b16_num _ (Nat.mod_lt _ (by omega)), b16_num _ (by omega)] at h1
      exact h1
    · intro h; rw [h]
  unfold getMade
  cases hd : decM b with
  | none =>
    simp only
    split
    · cases hr : decM r with
      | none => rfl
      | some p =>
        obtain ⟨m, z⟩ := p
        simp only
        split
        · rename_i hz
          subst hz
          obtain ⟨e1, k1⟩ := decM_sound hr
          rw [List.append_nil] at e1
          rw [hb, e1, decM_enc m [x, y] k1] at hd
          simp at hd
        · rfl
    · rfl
  | some p =>
    obtain ⟨m, z⟩ := p
    obtain ⟨e1, k1⟩ := decM_sound hd
    simp only
    by_cases hp : m_PutMade m = b
    · rw [if_pos hp]
      rw [hb, madeB_len] at hp
      have h2 : madeB m = r ∧ b16 (sumB (madeB m)) = [x, y] := List.append_inj' hp rfl
      obtain ⟨h3, h4⟩ := h2
      rw [h3] at h4
      rw [if_pos (hbx.1 h4)]
      have := decM_enc m [] k1
      rw [List.append_nil, h3] at this
      rw [this]
      simp
    · rw [if_neg hp]
      split
      · rename_i hs
        cases hr : decM r with
        | none => rfl
        | some q =>
          obtain ⟨m', z'⟩ := q
          simp only
          split
          · rename_i hz
            subst hz
            exfalso
            obtain ⟨e2, k2⟩ := decM_sound hr
            rw [List.append_nil] at e2
            have e3 := decM_enc m' [x, y] k2
            rw [← e2, ← hb, hd] at e3
            simp only [Option.some.injEq, Prod.mk.injEq] at e3
            obtain ⟨rfl, rfl⟩ := e3
            exact hp (by rw [madeB_len, ← e2, hbx.2 hs, hb])
          · rfl
      · rfl
theorem getMade_short {b : Str} (h : b.length < 2) : getMade b = none := by
  unfold getMade
  cases hd : decM b with
  | none => rfl
  | some p =>
    obtain ⟨m, z⟩ := p
    simp only
    rw [if_neg]
    intro e
    have := congrArg List.length e
    rw [madeB_len, List.length_append] at this
    simp only [b16, List.length_cons, List.length_nil] at this
    omega
/-! a reader's state: where it stands, and whether it is bad -/
def nxS (b : Str) (st : Nat × Bool) : Str × (Nat × Bool) := match tk (b.drop st.1) with
  | some (s, r) => if st.2 then ([], (st.1, true)) else (s, (b.length - r.length, false))
  | none => ([], (st.1, true))
def filesS (b : Str) : Nat → Nat × Bool → List MFile × (Nat × Bool)
  | 0, st => ([], st)
  | k + 1, st => let p := nxS b st; let q := nxS b p.2; let z := filesS b k q.2; (⟨p.1, q.1⟩ :: z.1, z.2)
theorem nxS_at {b : Str} {st : Nat × Bool} (h : st.1 ≤ b.length) : (nxS b st).2.1 ≤ b.length := by
  unfold nxS
  split
  · split
    · exact h
    · exact Nat.sub_le _ _
  · exact h
theorem nxS_some {b s r : Str} {i : Nat} (h : tk (b.drop i) = some (s, r)) : nxS b (i, false) = (s, (b.length - r.length, false)) ∧ b.drop (b.length - r.length) = r := by
  refine ⟨by simp [nxS, h], ?_⟩
  obtain ⟨e, _⟩ := tk_sound h
  have hl : b = b.take i ++ (encT s ++ r) := by rw [← e, List.take_append_drop]
  have : b.length - r.length = (b.take i ++ encT s).length := by
    have := congrArg List.length hl
    simp only [List.length_append] at this ⊢
    omega
  rw [this]
  have h3 := List.drop_left (l₁ := b.take i ++ encT s) (l₂ := r)
  rw [List.append_assoc, ← hl] at h3
  exact h3
theorem nxS_none {b : Str} {i : Nat} (h : tk (b.drop i) = none) : nxS b (i, false) = ([], (i, true)) := by simp [nxS, h]
theorem nxS_bad (b : Str) (i : Nat) : nxS b (i, true) = ([], (i, true)) := by
  unfold nxS
  split <;> rfl
theorem filesS_bad (b : Str) : ∀ (k i : Nat), (filesS b k (i, true)).2 = (i, true) := by
  intro k
  induction k with
  | zero => intro i; rfl
  | succ k ih => intro i; simp only [filesS, nxS_bad, ih]
theorem filesS_dec (b : Str) : ∀ (k i : Nat), (match decF k (b.drop i) with
    | some (fs, r) => filesS b k (i, false) = (fs, ((filesS b k (i, false)).2.1, false)) ∧ b.drop (filesS b k (i, false)).2.1 = r
    | none => (filesS b k (i, false)).2.2 = true) := by
  intro k
  induction k with
  | zero => intro i; exact ⟨rfl, rfl⟩
  | succ k ih =>
    intro i
    cases h1 : tk (b.drop i) with
    | none => simp only [decF, h1, Option.bind_none, filesS, nxS_none h1, nxS_bad, filesS_bad]
    | some p =>
      obtain ⟨s, r⟩ := p
      obtain ⟨e1, e2⟩ := nxS_some h1
      cases h2 : tk r with
      | none =>
        have h2' : tk (b.drop (b.length - r.length)) = none := by rw [e2]; exact h2
        simp only [decF, h1, h2, Option.bind_some, Option.bind_none, filesS, e1, nxS_none h2', filesS_bad]
      | some q =>
        obtain ⟨t, r2⟩ := q
        have h2' : tk (b.drop (b.length - r.length)) = some (t, r2) := by rw [e2]; exact h2
        obtain ⟨e3, e4⟩ := nxS_some h2'
        have i1 := ih (b.length - r2.length)
        rw [e4] at i1
        simp only [decF, h1, h2, Option.bind_some, filesS, e1, e3]
        cases h3 : decF k r2 with
        | none => rw [h3] at i1; exact i1
        | some z =>
          obtain ⟨fs, r3⟩ := z
          rw [h3] at i1
          simp only [Option.map_some]
          obtain ⟨j1, j2⟩ := i1
          refine ⟨?_, j2⟩
          rw [j1]
theorem nxS_len (b : Str) (st : Nat × Bool) : (nxS b st).1.length ≤ 60000 := by
  unfold nxS
  split
  · rename_i h
    split
    · simp
    · exact (tk_sound h).2
  · simp
theorem filesS_at {b : Str} : ∀ (k : Nat) (st : Nat × Bool), st.1 ≤ b.length → (filesS b k st).2.1 ≤ b.length := by
  intro k
  induction k with
  | zero => intro st h; exact h
  | succ k ih => intro st h; exact ih _ (nxS_at (nxS_at h))
theorem filesS_len (b : Str) : ∀ (k : Nat) (st : Nat × Bool), (filesS b k st).1.length = k ∧ wfF (filesS b k st).1 := by
  intro k
  induction k with
  | zero => intro st; exact ⟨rfl, fun f hf => by simp [filesS] at hf⟩
  | succ k ih =>
    intro st
    obtain ⟨i1, i2⟩ := ih (nxS b (nxS b st).2).2
    refine ⟨by simp only [filesS, List.length_cons, i1], fun f hf => ?_⟩
    simp only [filesS] at hf
    rcases List.mem_cons.1 hf with rfl | hf
    · exact ⟨nxS_len _ _, nxS_len _ _⟩
    · exact i2 f hf
/-- What the reader's walk has to do with the law. -/
theorem mach (b : Str) : (match parseNum (nxS b (nxS b (nxS b (0, false)).2).2).1 1000 with
    | none => decM b = none
    | some k => if (filesS b k (nxS b (nxS b (nxS b (0, false)).2).2).2).2.2 = true then decM b = none
      else decM b = some (⟨(nxS b (0, false)).1, (filesS b k (nxS b (nxS b (nxS b (0, false)).2).2).2).1, (nxS b (nxS b (0, false)).2).1⟩, b.drop (filesS b k (nxS b (nxS b (nxS b (0, false)).2).2).2).2.1)) := by
  have h0 : ∀ m, parseNum [] m = none := fun m => by
    unfold parseNum
    rw [if_neg]
    rintro ⟨_, h, _⟩
    simp at h
  cases h1 : tk (b.drop 0) with
  | none =>
    rw [nxS_none h1, nxS_bad, nxS_bad, h0]
    simp only
    rw [List.drop_zero] at h1
    simp [decM, h1]
  | some p =>
    obtain ⟨t, r1⟩ := p
    obtain ⟨e1, f1⟩ := nxS_some h1
    rw [List.drop_zero] at h1
    rw [e1]
    cases h2 : tk (b.drop (b.length - r1.length)) with
    | none =>
      rw [nxS_none h2, nxS_bad, h0]
      simp only
      rw [f1] at h2
      simp [decM, h1, h2]
    | some p =>
      obtain ⟨l, r2⟩ := p
      obtain ⟨e2, f2⟩ := nxS_some h2
      rw [f1] at h2
      rw [e2]
      cases h3 : tk (b.drop (b.length - r2.length)) with
      | none =>
        rw [nxS_none h3, h0]
        simp only
        rw [f2] at h3
        simp [decM, h1, h2, h3]
      | some p =>
        obtain ⟨c, r3⟩ := p
        obtain ⟨e3, f3⟩ := nxS_some h3
        rw [f2] at h3
        rw [e3]
        simp only
        cases h4 : parseNum c 1000 with
        | none => simp [decM, h1, h2, h3, h4]
        | some k =>
          simp only
          have hf := filesS_dec b k (b.length - r3.length)
          rw [f3] at hf
          cases h5 : decF k r3 with
          | none =>
            rw [h5] at hf
            simp only at hf
            rw [if_pos hf]
            simp [decM, h1, h2, h3, h4, h5]
          | some z =>
            obtain ⟨fs, r4⟩ := z
            rw [h5] at hf
            simp only at hf
            obtain ⟨j1, j2⟩ := hf
            rw [if_neg (by rw [j1]; simp)]
            rw [j2, j1]
            simp [decM, h1, h2, h3, h4, h5]
def m_GetMade (b : Str) : MMade × Bool := match getMade b with
  | some m => (m, true)
  | none => (⟨[], [], []⟩, false)
theorem getMade_wf {b : Str} {m : MMade} (h : getMade b = some m) : wfM m := by
  unfold getMade at h
  split at h
  · rename_i m' z hd
    split at h
    · simp only [Option.some.injEq] at h
      subst h
      exact (decM_sound hd).2
    · simp at h
  · simp at h
theorem wfM_bd {m : MMade} (h : wfM m) : m.Bd 1048576 := by
  obtain ⟨h1, h2, h3, h4⟩ := h
  exact ⟨Nat.le_trans h1 (by omega), ⟨Nat.le_trans h3 (by omega), fun f hf => ⟨Nat.le_trans (h4 f hf).1 (by omega), Nat.le_trans (h4 f hf).2 (by omega)⟩⟩, Nat.le_trans h2 (by omega)⟩
theorem b_GetMade (b : Str) (hb : bdS 1048576 b) : (m_GetMade b).1.Bd 1048576 := by
  unfold m_GetMade
  cases h : getMade b with
  | none => exact ⟨Nat.zero_le _, ⟨Nat.zero_le _, fun f hf => by simp at hf⟩, Nat.zero_le _⟩
  | some m => exact wfM_bd (getMade_wf h)
theorem cnt_GetMade (b : Str) (hb : bdS 1048576 b) : (m_GetMade b).1.cntA ≤ 1099511627776 := by
  have h := (b_GetMade b hb).2.1.1
  have : ∀ l : List MFile, cntL MFile.cntR l ≤ 2 * l.length := by
    intro l
    induction l with
    | nil => simp [cntL]
    | cons f l ih =>
      rw [cntL_cons]
      have : MFile.cntR f ≤ 2 := by unfold MFile.cntR; omega
      simp only [List.length_cons]
      omega
  have := this (m_GetMade b).1.Outs
  unfold MMade.cntA
  omega
/-- A reader in memory. -/
abbrev rdE (b : Str) (st : Nat × Bool) : Entry := Entry.mk 3 [[bytesC b, Cell.int st.1, Cell.bool st.2]] 0 false
theorem n_spec_l17Text (b : Str) (hb : b.length ≤ 1048576) (st : Nat × Bool) (hst : st.1 ≤ b.length) (T : List Entry) : run_spec_l17Text [.one (.ptr 0 3 0 0 0)] (rdE b st :: T) = some ([.one (Cell.str (bs (nxS b st).1))], rdE b (nxS b st).2 :: T) := by
  refine run_spec_l17Text_of 0 ?_
  have d : ∀ j, deref (rdE b st :: T) (.ptr 0 3 0 j 0) = some ([bytesC b, Cell.int st.1, Cell.bool st.2], j) := fun j => by simp [deref, entry?]
  obtain ⟨i, bad⟩ := st
  dsimp only at hst
  simp only [spec_l17Text, ptrC, fldA_ptr, Nat.zero_add, d, c_spec_GetText b i hb hst, textV, callS_canon, callL_canon, Option.map_some, Option.bind_some, shape_one, shape_agg, shape_nil, cellsAt_0, cellsAt_1, cellsAt_2, cellsAt_3, cells_one, cells_agg, cB_zero, cI_zero, cS_zero, cC_zero, cB_cons, cI_cons, cS_cons, cC_cons, cond_true, cond_false, List.length_cons, List.length_nil, beq_self_eq_true, Bool.and_true, Bool.true_and, lenC_encL, lenC_lst, deref_ref, emptyK_nil, bs_size, bs_toList]
  unfold nxS
  cases ht : tk (b.drop i) with
  | none =>
    simp only [callS_canon, callL_canon, Option.map_some, Option.bind_some, shape_one, shape_agg, shape_nil, cellsAt_0, cellsAt_1, cellsAt_2, cellsAt_3, cells_one, cells_agg, cB_zero, cI_zero, cS_zero, cC_zero, cB_cons, cI_cons, cS_cons, cC_cons, cond_true, cond_false, List.length_cons, List.length_nil, beq_self_eq_true, Bool.and_true, Bool.true_and, lenC_encL, lenC_lst, deref_ref, emptyK_nil, bs_size, bs_toList]
    cases bad <;> rfl
  | some p =>
    obtain ⟨s, r⟩ := p
    simp only [callS_canon, callL_canon, Option.map_some, Option.bind_some, shape_one, shape_agg, shape_nil, cellsAt_0, cellsAt_1, cellsAt_2, cellsAt_3, cells_one, cells_agg, cB_zero, cI_zero, cS_zero, cC_zero, cB_cons, cI_cons, cS_cons, cC_cons, cond_true, cond_false, List.length_cons, List.length_nil, beq_self_eq_true, Bool.and_true, Bool.true_and, lenC_encL, lenC_lst, deref_ref, emptyK_nil, bs_size, bs_toList]
    cases bad <;> rfl
theorem n_impl_textReader_next (b : Str) (hb : b.length ≤ 1048576) (st : Nat × Bool) (hst : st.1 ≤ b.length) (T : List Entry) : run_impl_textReader_next [.one (.ptr 0 3 0 0 0)] (rdE b st :: T) = some ([.one (Cell.str (bs (nxS b st).1))], rdE b (nxS b st).2 :: T) := by
  refine run_impl_textReader_next_of 0 ?_
  have d : ∀ j, deref (rdE b st :: T) (.ptr 0 3 0 j 0) = some ([bytesC b, Cell.int st.1, Cell.bool st.2], j) := fun j => by simp [deref, entry?]
  obtain ⟨i, bad⟩ := st
  dsimp only at hst
  simp only [impl_textReader_next, ptrC, fldA_ptr, Nat.zero_add, d, c_impl_GetText b i hb hst, textV, callS_canon, callL_canon, Option.map_some, Option.bind_some, shape_one, shape_agg, shape_nil, cellsAt_0, cellsAt_1, cellsAt_2, cellsAt_3, cells_one, cells_agg, cB_zero, cI_zero, cS_zero, cC_zero, cB_cons, cI_cons, cS_cons, cC_cons, cond_true, cond_false, List.length_cons, List.length_nil, beq_self_eq_true, Bool.and_true, Bool.true_and, lenC_encL, lenC_lst, deref_ref, emptyK_nil, bs_size, bs_toList]
  unfold nxS
  cases ht : tk (b.drop i) with
  | none =>
    simp only [callS_canon, callL_canon, Option.map_some, Option.bind_some, shape_one, shape_agg, shape_nil, cellsAt_0, cellsAt_1, cellsAt_2, cellsAt_3, cells_one, cells_agg, cB_zero, cI_zero, cS_zero, cC_zero, cB_cons, cI_cons, cS_cons, cC_cons, cond_true, cond_false, List.length_cons, List.length_nil, beq_self_eq_true, Bool.and_true, Bool.true_and, lenC_encL, lenC_lst, deref_ref, emptyK_nil, bs_size, bs_toList]
    cases bad <;> rfl
  | some p =>
    obtain ⟨s, r⟩ := p
    simp only [callS_canon, callL_canon, Option.map_some, Option.bind_some, shape_one, shape_agg, shape_nil, cellsAt_0, cellsAt_1, cellsAt_2, cellsAt_3, cells_one, cells_agg, cB_zero, cI_zero, cS_zero, cC_zero, cB_cons, cI_cons, cS_cons, cC_cons, cond_true, cond_false, List.length_cons, List.length_nil, beq_self_eq_true, Bool.and_true, Bool.true_and, lenC_encL, lenC_lst, deref_ref, emptyK_nil, bs_size, bs_toList]
    cases bad <;> rfl
theorem c_spec_GetMade (b : Str) (hb0 : bdS 1048576 b) : outL run_spec_GetMade [.one (bytesC b)] = some [.agg [Cell.str (bs (m_GetMade b).1.Task), encL 2 MFile.enc (m_GetMade b).1.Outs, Cell.str (bs (m_GetMade b).1.Log)], .one (Cell.bool (m_GetMade b).2)] := by
  have hM := maxLen_eq
  have hb : b.length ≤ 1048576 := hb0
  have failR : ∀ H : List Entry, mapO (reifyAV false H) [.agg [Cell.str (bs []), .lst true 2 [], Cell.str (bs [])], .one (Cell.bool false)] = some [.agg [Cell.str (bs []), encL 2 MFile.enc [], Cell.str (bs [])], .one (Cell.bool false)] := fun H => by
    simp [mapO, reifyAV, depth, reify, lendC, pureC, norm, normRows, encL]
  by_cases h2 : b.length < 2
  · have : m_GetMade b = (⟨[], [], []⟩, false) := by unfold m_GetMade; rw [getMade_short h2]
    rw [this]
    refine outL_of (H := []) (run_spec_GetMade_of 0 ?_) (failR [])
    simp only [spec_GetMade, lenC_encL, Option.bind_some]
    rw [wrap_small (by omega) (by omega), decide_eq_true (by omega), cond_true]
  obtain ⟨r, x, y, hbr⟩ : ∃ r x y, b = r ++ [x, y] := by
    refine ⟨b.take (b.length - 2), b[b.length - 2]'(by omega), b[b.length - 1]'(by omega), ?_⟩
    have e := (List.take_append_drop (b.length - 2) b).symm
    rw [List.drop_eq_getElem_cons (by omega), List.drop_eq_getElem_cons (by omega), List.drop_eq_nil_of_le (by omega)] at e
    have e2 : b.length - 2 + 1 = b.length - 1 := by omega
    simpa only [e2] using e
  have hlen : b.length = r.length + 2 := by rw [hbr]; simp
  have hg1 : b[r.length]? = some x := by rw [hbr]; simp
  have hg2 : b[r.length + 1]? = some y := by rw [hbr, List.getElem?_append_right (by omega)]; simp
  have htake : (b.drop 0).take (r.length - 0) = r := by rw [hbr]; simp
  have hx := x.toNat_lt
  have hy := y.toNat_lt
  have hge := getMade_eq b x y r hbr
  -- the walk
  have n1 := fun (st : Nat × Bool) hst T => n_spec_l17Text r (by omega) st hst T
  have loop : ∀ (d i n : Nat) (st : Nat × Bool) (c : Cell) (T : List Entry) (xs : List MFile) (K : Nat), i + d = K → d < n → st.1 ≤ r.length → K ≤ 1000 → xs.length = i → GrowAt 1 2 c T (xs.map MFile.enc) → ∀ (t l : Str) k m,
      ∃ av H', spec_GetMade_l0 k m n r.length K true i (bs t) c (bs l) (rdE r st :: T) = some (av, H') ∧ mapO (reifyAV false H') av = some (if (filesS r d st).2.2 = true ∨ (filesS r d st).2.1 ≠ r.length then [.agg [Cell.str (bs []), encL 2 MFile.enc [], Cell.str (bs [])], .one (Cell.bool false)]
        else [.agg [Cell.str (bs t), encL 2 MFile.enc (xs ++ (filesS r d st).1), Cell.str (bs l)], .one (Cell.bool true)]) := by
    intro d
    induction d with
    | zero =>
      intro i n st c T xs K hi hn hst hK hxs hG t l k m
      obtain ⟨n, rfl⟩ : ∃ q, n = q + 1 := ⟨n - 1, by omega⟩
      obtain ⟨at', bad⟩ := st
      have d1 : deref (rdE r (at', bad) :: T) (.ptr 0 3 0 1 0) = some ([bytesC r, Cell.int at', Cell.bool bad], 1) := by simp [deref, entry?]
      have d2 : deref (rdE r (at', bad) :: T) (.ptr 0 3 0 2 0) = some ([bytesC r, Cell.int at', Cell.bool bad], 2) := by simp [deref, entry?]
      simp only [spec_GetMade_l0, d1, d2, callS_canon, callL_canon, Option.map_some, Option.bind_some, shape_one, shape_agg, shape_nil, cellsAt_0, cellsAt_1, cellsAt_2, cellsAt_3, cells_one, cells_agg, cB_zero, cI_zero, cS_zero, cC_zero, cB_cons, cI_cons, cS_cons, cC_cons, cond_true, cond_false, List.length_cons, List.length_nil, beq_self_eq_true, Bool.and_true, Bool.true_and, lenC_encL, lenC_lst, deref_ref, emptyK_nil, bs_size, bs_toList, filesS, List.append_nil]
      rw [decide_eq_false (by omega), cond_false]
      cases bad with
      | true => exact ⟨_, _, rfl, by rw [if_pos (.inl rfl)]; exact failR _⟩
      | false =>
        simp only [Bool.not_true, cond_false]
        by_cases ha : at' = r.length
        · rw [show ((at' : Int) != (r.length : Int)) = false by simp [ha], cond_false]
          refine ⟨_, _, rfl, ?_⟩
          rw [if_neg (by simp [ha])]
          obtain ⟨ids, r1, _⟩ := hG.rep (A := [rdE r (at', false)]) (tr := MFile.tr) (fun _ _ => rfl) (fun f _ H' => .cons (i := []) (is := []) ⟨rfl, rfl⟩ (.cons (i := []) (is := []) ⟨rfl, rfl⟩ .nil))
          have := reify_agg (cs := [Cell.str (bs t), c, Cell.str (bs l)]) (ts := [.leaf (.string (bs t)), trL 2 MFile.tr xs, .leaf (.string (bs l))]) (n := 2) (.cons (i := []) (is := ids ++ []) ⟨rfl, rfl⟩ (.cons (i := ids) (is := []) r1 (.cons (i := []) (is := []) ⟨rfl, rfl⟩ .nil))) (by omega)
          refine mapO_c (this.trans ?_) (mapO_canon [.one (Cell.bool true)] _ _)
          rw [List.map_cons, List.map_cons, List.map_cons, List.map_nil, leaf_cell, leaf_cell, trL_cell]
        · rw [show ((at' : Int) != (r.length : Int)) = true by simp only [bne_iff_ne, ne_eq]; omega, cond_true]
          exact ⟨_, _, rfl, by rw [if_pos (.inr ha)]; exact failR _⟩
    | succ d ih =>
      intro i n st c T xs K hi hn hst hK hxs hG t l k m
      obtain ⟨n, rfl⟩ : ∃ q, n = q + 1 := ⟨n - 1, by omega⟩
      obtain ⟨at', bad⟩ := st
      have d2 : deref (rdE r (at', bad) :: T) (.ptr 0 3 0 2 0) = some ([bytesC r, Cell.int at', Cell.bool bad], 2) := by simp [deref, entry?]
      simp only [spec_GetMade_l0, d2, callS_canon, callL_canon, Option.map_some, Option.bind_some, shape_one, shape_agg, shape_nil, cellsAt_0, cellsAt_1, cellsAt_2, cellsAt_3, cells_one, cells_agg, cB_zero, cI_zero, cS_zero, cC_zero, cB_cons, cI_cons, cS_cons, cC_cons, cond_true, cond_false, List.length_cons, List.length_nil, beq_self_eq_true, Bool.and_true, Bool.true_and, lenC_encL, lenC_lst, deref_ref, emptyK_nil, bs_size, bs_toList]
      rw [decide_eq_true (by omega), cond_true]
      cases bad with
      | true =>
        simp only [Bool.not_true, cond_false, cond_true]
        refine ⟨_, _, rfl, ?_⟩
        rw [if_pos (.inl (by rw [filesS_bad]))]
        exact failR _
      | false =>
        have s1 := nxS_at hst
        have s2 := nxS_at s1
        obtain ⟨d', T', a1, g1⟩ := app_at (A := [rdE r (nxS r (nxS r (at', false)).2).2]) (by' := 32) hG (MFile.enc ⟨(nxS r (at', false)).1, (nxS r (nxS r (at', false)).2).1⟩) (by simp only [List.length_map, bound]; omega) (by simp only [List.length_map, bound]; omega)
        replace g1 : GrowAt 1 2 d' T' ((xs ++ [(⟨(nxS r (at', false)).1, (nxS r (nxS r (at', false)).2).1⟩ : MFile)]).map MFile.enc) := by rw [List.map_append]; exact g1
        obtain ⟨av, H', e1, e2⟩ := ih (i + 1) n (nxS r (nxS r (at', false)).2).2 d' T' (xs ++ [⟨(nxS r (at', false)).1, (nxS r (nxS r (at', false)).2).1⟩]) K (by omega) (by omega) s2 hK (by simp [hxs]) g1 t l k m
        refine ⟨av, H', ?_, ?_⟩
        · simp only [Bool.not_false, cond_true, n1 (at', false) hst T, n1 _ s1 T, callS_canon, callL_canon, Option.map_some, Option.bind_some, shape_one, shape_agg, shape_nil, cellsAt_0, cellsAt_1, cellsAt_2, cellsAt_3, cells_one, cells_agg, cB_zero, cI_zero, cS_zero, cC_zero, cB_cons, cI_cons, cS_cons, cC_cons, cond_true, cond_false, List.length_cons, List.length_nil, beq_self_eq_true, Bool.and_true, Bool.true_and, lenC_encL, lenC_lst, deref_ref, emptyK_nil, bs_size, bs_toList]
          rw [show app (rdE r (nxS r (nxS r (at', false)).2).2 :: T) 2 32 c [[Cell.str (bs (nxS r (at', false)).1), Cell.str (bs (nxS r (nxS r (at', false)).2).1)]] = some (d', rdE r (nxS r (nxS r (at', false)).2).2 :: T') from a1]
          simp only [Option.bind_some]
          rw [wrap_succ (by omega)]
          exact e1
        · rw [e2]
          simp only [filesS, List.append_assoc, List.singleton_append]
          rfl
  have fails : ∀ (K : Nat) (ok : Bool) (st : Nat × Bool) (c : Cell) (T : List Entry) (t l : Str) k m n, st.2 = true ∨ ok = false → K = 0 ∨ ok = true → spec_GetMade_l0 k m (n + 1) r.length K ok ((0 : Nat) : Int) (bs t) c (bs l) (rdE r st :: T) = some ([.agg [Cell.str (bs []), .lst true 2 [], Cell.str (bs [])], .one (Cell.bool false)], rdE r st :: T) := by
    intro K ok st c T t l k m n h hk
    obtain ⟨at', bad⟩ := st
    have d1 : deref (rdE r (at', bad) :: T) (.ptr 0 3 0 1 0) = some ([bytesC r, Cell.int at', Cell.bool bad], 1) := by simp [deref, entry?]
    have d2 : deref (rdE r (at', bad) :: T) (.ptr 0 3 0 2 0) = some ([bytesC r, Cell.int at', Cell.bool bad], 2) := by simp [deref, entry?]
    simp only [spec_GetMade_l0, d1, d2, callS_canon, callL_canon, Option.map_some, Option.bind_some, shape_one, shape_agg, shape_nil, cellsAt_0, cellsAt_1, cellsAt_2, cellsAt_3, cells_one, cells_agg, cB_zero, cI_zero, cS_zero, cC_zero, cB_cons, cI_cons, cS_cons, cC_cons, cond_true, cond_false, List.length_cons, List.length_nil, beq_self_eq_true, Bool.and_true, Bool.true_and, lenC_encL, lenC_lst, deref_ref, emptyK_nil, bs_size, bs_toList]
    cases decide (((0 : Nat) : Int) < (K : Int)) <;> cases ok <;> cases bad <;> simp at h hk ⊢
  -- from the start
  have key : ∀ (bad0 : Bool), ∃ av H', ((run_spec_l17Text [.one (.ptr 0 3 0 0 0)] [rdE r (0, bad0)]).bind fun r13 =>
  cond (shapeOk rk_spec_l17Text r13.1)
  ((cS (cellsAt r13.1 0) 0).bind fun s14 =>
  (run_spec_l17Text [.one (.ptr 0 3 0 0 0)] r13.2).bind fun r15 =>
  cond (shapeOk rk_spec_l17Text r15.1)
  ((cS (cellsAt r15.1 0) 0).bind fun s16 =>
  (run_spec_l17Text [.one (.ptr 0 3 0 0 0)] r15.2).bind fun r17 =>
  cond (shapeOk rk_spec_l17Text r17.1)
  ((cS (cellsAt r17.1 0) 0).bind fun s18 =>
  (out run_spec_ParseNum [.one (Cell.str s18), .one (Cell.int 1000)]).bind fun r19 =>
  cond (shapeOk rk_spec_ParseNum r19)
  ((cI .i64 (cellsAt r19 0) 0).bind fun i20 =>
  (cB (cellsAt r19 1) 0).bind fun b21 =>
  spec_GetMade_l0 1002 1002 1002 r.length i20 b21 0 s14 (.lst true 2 []) s16 r17.2)
  none)
  none)
  none)
  none) = some (av, H') ∧ mapO (reifyAV false H') av = some (match (if bad0 = true then none else (match decM r with
    | some (m, z) => if z = [] then some m else none
    | none => none)) with
    | some m => [.agg [Cell.str (bs m.Task), encL 2 MFile.enc m.Outs, Cell.str (bs m.Log)], .one (Cell.bool true)]
    | none => [.agg [Cell.str (bs []), encL 2 MFile.enc [], Cell.str (bs [])], .one (Cell.bool false)]) := by
    intro bad0
    have s0 : (0, bad0).1 ≤ r.length := Nat.zero_le _
    have s1 := nxS_at (b := r) (st := (0, bad0)) s0
    have s2 := nxS_at s1
    have s3 := nxS_at s2
    have hp : out run_spec_ParseNum [.one (Cell.str (bs (nxS r (nxS r (nxS r (0, bad0)).2).2).1)), .one (Cell.int 1000)] = some (numV (parseNum (nxS r (nxS r (nxS r (0, bad0)).2).2).1 1000)) := c_spec_ParseNum _ 1000 (Nat.le_trans (nxS_len _ _) (by omega)) (by omega)
    simp only [n1 (0, bad0) s0 [], n1 _ s1 [], n1 _ s2 [], hp, callS_canon, callL_canon, Option.map_some, Option.bind_some, shape_one, shape_agg, shape_nil, cellsAt_0, cellsAt_1, cellsAt_2, cellsAt_3, cells_one, cells_agg, cB_zero, cI_zero, cS_zero, cC_zero, cB_cons, cI_cons, cS_cons, cC_cons, cond_true, cond_false, List.length_cons, List.length_nil, beq_self_eq_true, Bool.and_true, Bool.true_and, lenC_encL, lenC_lst, deref_ref, emptyK_nil, bs_size, bs_toList]
    cases bad0 with
    | true =>
      rw [if_pos rfl]
      simp only
      rw [nxS_bad, nxS_bad, nxS_bad] at *
      have h0 : parseNum [] 1000 = none := by
        unfold parseNum
        rw [if_neg]
        rintro ⟨_, h, _⟩
        simp at h
      simp only [h0, numV, callS_canon, callL_canon, Option.map_some, Option.bind_some, shape_one, shape_agg, shape_nil, cellsAt_0, cellsAt_1, cellsAt_2, cellsAt_3, cells_one, cells_agg, cB_zero, cI_zero, cS_zero, cC_zero, cB_cons, cI_cons, cS_cons, cC_cons, cond_true, cond_false, List.length_cons, List.length_nil, beq_self_eq_true, Bool.and_true, Bool.true_and, lenC_encL, lenC_lst, deref_ref, emptyK_nil, bs_size, bs_toList]
      exact ⟨_, _, fails 0 false (0, true) _ _ _ _ _ _ _ (.inl rfl) (.inl rfl), failR _⟩
    | false =>
      rw [if_neg (by simp)]
      have hm := mach r
      cases hk : parseNum (nxS r (nxS r (nxS r (0, false)).2).2).1 1000 with
      | none =>
        rw [hk] at hm
        simp only at hm
        rw [hm]
        simp only [numV, callS_canon, callL_canon, Option.map_some, Option.bind_some, shape_one, shape_agg, shape_nil, cellsAt_0, cellsAt_1, cellsAt_2, cellsAt_3, cells_one, cells_agg, cB_zero, cI_zero, cS_zero, cC_zero, cB_cons, cI_cons, cS_cons, cC_cons, cond_true, cond_false, List.length_cons, List.length_nil, beq_self_eq_true, Bool.and_true, Bool.true_and, lenC_encL, lenC_lst, deref_ref, emptyK_nil, bs_size, bs_toList]
        exact ⟨_, _, fails 0 false _ _ _ _ _ _ _ _ (.inr rfl) (.inl rfl), failR _⟩
      | some K =>
        rw [hk] at hm
        simp only at hm
        have hK := (parseNum_sound hk).2.1
        obtain ⟨av, H', e1, e2⟩ := loop K 0 1002 (nxS r (nxS r (nxS r (0, false)).2).2).2 (.lst true 2 []) [] [] K (by omega) (by omega) s3 hK rfl (.inl ⟨rfl, rfl, rfl⟩) (nxS r (0, false)).1 (nxS r (nxS r (0, false)).2).1 1002 1002
        refine ⟨av, H', ?_, ?_⟩
        · simp only [numV, callS_canon, callL_canon, Option.map_some, Option.bind_some, shape_one, shape_agg, shape_nil, cellsAt_0, cellsAt_1, cellsAt_2, cellsAt_3, cells_one, cells_agg, cB_zero, cI_zero, cS_zero, cC_zero, cB_cons, cI_cons, cS_cons, cC_cons, cond_true, cond_false, List.length_cons, List.length_nil, beq_self_eq_true, Bool.and_true, Bool.true_and, lenC_encL, lenC_lst, deref_ref, emptyK_nil, bs_size, bs_toList]
          exact e1
        · rw [e2]
          congr 1
          by_cases hbad : (filesS r K (nxS r (nxS r (nxS r (0, false)).2).2).2).2.2 = true
          · rw [if_pos hbad] at hm
            rw [if_pos (.inl hbad), hm]
          · rw [if_neg hbad] at hm
            rw [hm]
            simp only
            have hat := filesS_at K _ s3
            by_cases hn : (filesS r K (nxS r (nxS r (nxS r (0, false)).2).2).2).2.1 = r.length
            · rw [if_neg (by rintro (h | h); exact hbad h; exact h hn), if_pos (by rw [hn]; simp)]
              simp
            · rw [if_pos (.inr hn), if_neg]
              intro h
              have := congrArg List.length h
              simp only [List.length_drop, List.length_nil] at this
              omega
  obtain ⟨av, H', k1, k2⟩ := key (((sumB r % 65536 : Nat) : Int) != ((x.toNat * 256 + y.toNat : Nat) : Int))
  have hfin : some (match (if (((sumB r % 65536 : Nat) : Int) != ((x.toNat * 256 + y.toNat : Nat) : Int)) = true then none else (match decM r with
    | some (m, z) => if z = [] then some m else none
    | none => none)) with
    | some m => [AV.agg [Cell.str (bs m.Task), encL 2 MFile.enc m.Outs, Cell.str (bs m.Log)], AV.one (Cell.bool true)]
    | none => [AV.agg [Cell.str (bs []), encL 2 MFile.enc ([] : List MFile), Cell.str (bs [])], AV.one (Cell.bool false)]) = some [.agg [Cell.str (bs (m_GetMade b).1.Task), encL 2 MFile.enc (m_GetMade b).1.Outs, Cell.str (bs (m_GetMade b).1.Log)], .one (Cell.bool (m_GetMade b).2)] := by
    unfold m_GetMade
    rw [hge]
    by_cases hs : sumB r % 65536 = x.toNat * 256 + y.toNat
    · rw [if_neg (by simp [hs]), if_pos hs]
      cases (match decM r with
        | some (m, z) => if z = [] then some m else none
        | none => none) <;> rfl
    · rw [if_pos (by simp only [bne_iff_ne, ne_eq]; omega), if_neg hs]
  refine outL_of (run_spec_GetMade_of 1001 ?_) (k2.trans hfin)
  have hwr : IntKind.i64.wrap ((b.length : Int) - 2) = (r.length : Int) := by rw [wrap_small (by omega) (by omega)]; omega
  have hs := slc_bytes b 0 r.length (by omega) (by omega)
  rw [htake] at hs
  simp only [spec_GetMade, lenC_encL, Option.bind_some, hwr]
  rw [decide_eq_false (by omega), cond_false, show ((0 : Int)) = ((0 : Nat) : Int) from rfl, hs]
  simp only [c_spec_l17Sum r (by omega), idxA_encL, hg1, wrap_succ (show r.length < maxLen by omega), hg2, eByte, or_bytes, callS_canon, callL_canon, Option.map_some, Option.bind_some, shape_one, shape_agg, shape_nil, cellsAt_0, cellsAt_1, cellsAt_2, cellsAt_3, cells_one, cells_agg, cB_zero, cI_zero, cS_zero, cC_zero, cB_cons, cI_cons, cS_cons, cC_cons, cond_true, cond_false, List.length_cons, List.length_nil, beq_self_eq_true, Bool.and_true, Bool.true_and, lenC_encL, lenC_lst, deref_ref, emptyK_nil, bs_size, bs_toList]
  exact k1
theorem c_bytes_Equal (x y : Str) : out run_bytes_Equal [.one (bytesC x), .one (bytesC y)] = some [.one (Cell.bool (x == y))] := by
  refine out_of (H := []) (run_bytes_Equal_of 0 ?_)
  simp only [bytes_Equal, bytesOf_bytes, callS_canon, callL_canon, Option.map_some, Option.bind_some, shape_one, shape_agg, shape_nil, cellsAt_0, cellsAt_1, cellsAt_2, cellsAt_3, cells_one, cells_agg, cB_zero, cI_zero, cS_zero, cC_zero, cB_cons, cI_cons, cS_cons, cC_cons, cond_true, cond_false, List.length_cons, List.length_nil, beq_self_eq_true, Bool.and_true, Bool.true_and, lenC_encL, lenC_lst, deref_ref, emptyK_nil, bs_size, bs_toList]
theorem f_impl_GetMade (b : Str) (hb0 : bdS 1048576 b) : Fresh run_impl_GetMade true 2 [.one (bytesC b)] [.agg (m_GetMade b).1.tr, .one (.leaf (.bool (m_GetMade b).2))] := by
  have hM := maxLen_eq
  have hb : b.length ≤ 1048576 := hb0
  have n1 := fun (st : Nat × Bool) hst T => n_impl_textReader_next b hb st hst T
  have s0 : ((0, false) : Nat × Bool).1 ≤ b.length := Nat.zero_le _
  have s1 := nxS_at (b := b) (st := (0, false)) s0
  have s2 := nxS_at s1
  have s3 := nxS_at s2
  have loop : ∀ (d i n : Nat) (st : Nat × Bool) (c : Cell) (T : List Entry) (xs : List MFile) (K : Nat), i + d = K → d < n → st.1 ≤ b.length → K ≤ 1000 → xs.length = i → GrowAt 1 2 c T (xs.map MFile.enc) → ∀ (ok : Bool) (t l : ByteArray) k m,
      ∃ c' T' n', impl_GetMade_l0 k m n (bytesC b) ok K i t c l (rdE b st :: T) = impl_GetMade_l0 k m (n' + 1) (bytesC b) ok K K t c' l (rdE b (filesS b d st).2 :: T') ∧ GrowAt 1 2 c' T' ((xs ++ (filesS b d st).1).map MFile.enc) := by
    intro d
    induction d with
    | zero =>
      intro i n st c T xs K hi hn hst hK hxs hG ok t l k m
      obtain ⟨n, rfl⟩ : ∃ q, n = q + 1 := ⟨n - 1, by omega⟩
      refine ⟨c, T, n, ?_, by simpa [filesS] using hG⟩
      rw [show i = K by omega]
      rfl
    | succ d ih =>
      intro i n st c T xs K hi hn hst hK hxs hG ok t l k m
      obtain ⟨n, rfl⟩ : ∃ q, n = q + 1 := ⟨n - 1, by omega⟩
      have t1 := nxS_at hst
      have t2 := nxS_at t1
      obtain ⟨d', T', a1, g1⟩ := app_at (A := [rdE b (nxS b (nxS b st).2).2]) (by' := 32) hG (MFile.enc ⟨(nxS b st).1, (nxS b (nxS b st).2).1⟩) (by simp only [List.length_map, bound]; omega) (by simp only [List.length_map, bound]; omega)
      replace g1 : GrowAt 1 2 d' T' ((xs ++ [(⟨(nxS b st).1, (nxS b (nxS b st).2).1⟩ : MFile)]).map MFile.enc) := by rw [List.map_append]; exact g1
      obtain ⟨c', T'', n', e1, e2⟩ := ih (i + 1) n (nxS b (nxS b st).2).2 d' T' (xs ++ [⟨(nxS b st).1, (nxS b (nxS b st).2).1⟩]) K (by omega) (by omega) t2 hK (by simp [hxs]) g1 ok t l k m
      refine ⟨c', T'', n', ?_, by simpa [filesS] using e2⟩
      simp only [impl_GetMade_l0]
      rw [decide_eq_true (by omega), cond_true]
      simp only [n1 st hst T, n1 _ t1 T, callS_canon, callL_canon, Option.map_some, Option.bind_some, shape_one, shape_agg, shape_nil, cellsAt_0, cellsAt_1, cellsAt_2, cellsAt_3, cells_one, cells_agg, cB_zero, cI_zero, cS_zero, cC_zero, cB_cons, cI_cons, cS_cons, cC_cons, cond_true, cond_false, List.length_cons, List.length_nil, beq_self_eq_true, Bool.and_true, Bool.true_and, lenC_encL, lenC_lst, deref_ref, emptyK_nil, bs_size, bs_toList]
      rw [show app (rdE b (nxS b (nxS b st).2).2 :: T) 2 32 c [[Cell.str (bs (nxS b st).1), Cell.str (bs (nxS b (nxS b st).2).1)]] = some (d', rdE b (nxS b (nxS b st).2).2 :: T') from a1]
      simp only [Option.bind_some]
      rw [wrap_succ (by omega)]
      exact e1
  have hp : out run_impl_ParseNum [.one (Cell.str (bs (nxS b (nxS b (nxS b (0, false)).2).2).1)), .one (Cell.int 1000)] = some (numV (parseNum (nxS b (nxS b (nxS b (0, false)).2).2).1 1000)) := c_impl_ParseNum _ 1000 (Nat.le_trans (nxS_len _ _) (by omega)) (by omega)
  have hm := mach b
  have e0 : run_impl_textReader_next [.one (.ptr 0 3 0 0 0)] [Entry.mk 3 [[bytesC b, Cell.int 0, Cell.bool false]] 0 false] = some ([.one (Cell.str (bs (nxS b (0, false)).1))], [rdE b (nxS b (0, false)).2]) := n1 (0, false) s0 []
  have failF : ∀ H, run_impl_GetMade [.one (bytesC b)] [] = some ([.agg [Cell.str (bs []), .lst true 2 [], Cell.str (bs [])], .one (Cell.bool false)], H) → getMade b = none → Fresh run_impl_GetMade true 2 [.one (bytesC b)] [.agg (m_GetMade b).1.tr, .one (.leaf (.bool (m_GetMade b).2))] := by
    intro H h hn
    have : m_GetMade b = (⟨[], [], []⟩, false) := by unfold m_GetMade; rw [hn]
    rw [this]
    exact Fresh.agg1 (n := 1) (ids := []) h (.cons (i := []) (is := []) ⟨rfl, rfl⟩ (.cons (i := []) (is := []) (.inl ⟨rfl, rfl, true, rfl⟩) (.cons (i := []) (is := []) ⟨rfl, rfl⟩ .nil))) (by simp)
  cases hk : parseNum (nxS b (nxS b (nxS b (0, false)).2).2).1 1000 with
  | none =>
    rw [hk] at hm hp
    simp only at hm
    refine failF (rdE b (nxS b (nxS b (nxS b (0, false)).2).2).2 :: []) (run_impl_GetMade_of 0 ?_) (by unfold getMade; rw [hm])
    simp only [impl_GetMade, e0, n1 _ s1 [], n1 _ s2 [], hp, numV, callS_canon, callL_canon, Option.map_some, Option.bind_some, shape_one, shape_agg, shape_nil, cellsAt_0, cellsAt_1, cellsAt_2, cellsAt_3, cells_one, cells_agg, cB_zero, cI_zero, cS_zero, cC_zero, cB_cons, cI_cons, cS_cons, cC_cons, cond_true, cond_false, List.length_cons, List.length_nil, beq_self_eq_true, Bool.and_true, Bool.true_and, lenC_encL, lenC_lst, deref_ref, emptyK_nil, bs_size, bs_toList]
    simp [impl_GetMade_l0]
  | some K =>
    rw [hk] at hm hp
    simp only at hm
    have hK := (parseNum_sound hk).2.1
    obtain ⟨c', T', n', e1, g1⟩ := loop K 0 1002 _ (.lst true 2 []) [] [] K (by omega) (by omega) s3 hK rfl (.inl ⟨rfl, rfl, rfl⟩) true (bs (nxS b (0, false)).1) (bs (nxS b (nxS b (0, false)).2).1) 1002 1002
    rw [List.nil_append] at g1
    generalize hz : filesS b K (nxS b (nxS b (nxS b (0, false)).2).2).2 = z at *
    obtain ⟨fs, at', bad⟩ := z
    dsimp only at e1 g1 hm
    have d2 : deref (rdE b (at', bad) :: T') (.ptr 0 3 0 2 0) = some ([bytesC b, Cell.int at', Cell.bool bad], 2) := by simp [deref, entry?]
    cases bad with
    | true =>
      rw [if_pos rfl] at hm
      refine failF (rdE b (at', true) :: T') (run_impl_GetMade_of 1001 ?_) (by unfold getMade; rw [hm])
      simp only [impl_GetMade, e0, n1 _ s1 [], n1 _ s2 [], hp, numV, callS_canon, callL_canon, Option.map_some, Option.bind_some, shape_one, shape_agg, shape_nil, cellsAt_0, cellsAt_1, cellsAt_2, cellsAt_3, cells_one, cells_agg, cB_zero, cI_zero, cS_zero, cC_zero, cB_cons, cI_cons, cS_cons, cC_cons, cond_true, cond_false, List.length_cons, List.length_nil, beq_self_eq_true, Bool.and_true, Bool.true_and, lenC_encL, lenC_lst, deref_ref, emptyK_nil, bs_size, bs_toList]
      refine e1.trans ?_
      simp only [impl_GetMade_l0, d2, callS_canon, callL_canon, Option.map_some, Option.bind_some, shape_one, shape_agg, shape_nil, cellsAt_0, cellsAt_1, cellsAt_2, cellsAt_3, cells_one, cells_agg, cB_zero, cI_zero, cS_zero, cC_zero, cB_cons, cI_cons, cS_cons, cC_cons, cond_true, cond_false, List.length_cons, List.length_nil, beq_self_eq_true, Bool.and_true, Bool.true_and, lenC_encL, lenC_lst, deref_ref, emptyK_nil, bs_size, bs_toList]
      rw [decide_eq_false (by omega), cond_false]
      rfl
    | false =>
      rw [if_neg (by simp)] at hm
      obtain ⟨ids, r1, r2, _⟩ := g1.rep (A := [rdE b (at', false)]) (tr := MFile.tr) (fun _ _ => rfl) (fun f _ H' => .cons (i := []) (is := []) ⟨rfl, rfl⟩ (.cons (i := []) (is := []) ⟨rfl, rfl⟩ .nil))
      have hfl : fs.length = K ∧ wfF fs := by
        have := filesS_len b K (nxS b (nxS b (nxS b (0, false)).2).2).2
        rw [hz] at this
        exact this
      have hwf : wfM ⟨(nxS b (0, false)).1, fs, (nxS b (nxS b (0, false)).2).1⟩ := ⟨nxS_len _ _, nxS_len _ _, by rw [hfl.1]; exact hK, hfl.2⟩
      have hrd : reifyAV false ([rdE b (at', false)] ++ T') (.agg [Cell.str (bs (nxS b (0, false)).1), c', Cell.str (bs (nxS b (nxS b (0, false)).2).1)]) = some (.agg [Cell.str (bs (nxS b (0, false)).1), encL 2 MFile.enc fs, Cell.str (bs (nxS b (nxS b (0, false)).2).1)]) := by
        have := reify_agg (cs := [Cell.str (bs (nxS b (0, false)).1), c', Cell.str (bs (nxS b (nxS b (0, false)).2).1)]) (ts := [.leaf (.string (bs (nxS b (0, false)).1)), trL 2 MFile.tr fs, .leaf (.string (bs (nxS b (nxS b (0, false)).2).1))]) (n := 2) (.cons (i := []) (is := ids ++ []) ⟨rfl, rfl⟩ (.cons (i := ids) (is := []) r1 (.cons (i := []) (is := []) ⟨rfl, rfl⟩ .nil))) (by omega)
        rw [List.map_cons, List.map_cons, List.map_cons, List.map_nil, leaf_cell, leaf_cell, trL_cell] at this
        exact this
      obtain ⟨c2, E, is, e2, q1, w1, _⟩ := freshO (f_impl_PutMade ⟨(nxS b (0, false)).1, fs, (nxS b (nxS b (0, false)).2).1⟩ (wfM_bd hwf)) ([rdE b (at', false)] ++ T') (mapO_c hrd (mapO_nil' _))
      have hq : BytM ([rdE b (at', false)] ++ T' ++ E) c2 (m_PutMade ⟨(nxS b (0, false)).1, fs, (nxS b (nxS b (0, false)).2).1⟩) := ⟨is, q1, w1.nd⟩
      have e3 : callS run_bytes_Equal [.one c2, .one (bytesC b)] ([rdE b (at', false)] ++ T' ++ E) = some [.one (Cell.bool (m_PutMade ⟨(nxS b (0, false)).1, fs, (nxS b (nxS b (0, false)).2).1⟩ == b))] := by
        rw [callS_of (mapO_c hq.read (mapO_canon [.one (bytesC b)] _ _)), c_bytes_Equal]
      have fin : run_impl_GetMade [.one (bytesC b)] [] = cond (m_PutMade ⟨(nxS b (0, false)).1, fs, (nxS b (nxS b (0, false)).2).1⟩ == b) (some ([.agg [Cell.str (bs (nxS b (0, false)).1), c', Cell.str (bs (nxS b (nxS b (0, false)).2).1)], .one (Cell.bool true)], [rdE b (at', false)] ++ T' ++ E)) (some ([.agg [Cell.str (bs []), .lst true 2 [], Cell.str (bs [])], .one (Cell.bool false)], [rdE b (at', false)] ++ T' ++ E)) := by
        have hstep : impl_GetMade 1002 1002 (bytesC b) = cond (m_PutMade ⟨(nxS b (0, false)).1, fs, (nxS b (nxS b (0, false)).2).1⟩ == b) (some ([.agg [Cell.str (bs (nxS b (0, false)).1), c', Cell.str (bs (nxS b (nxS b (0, false)).2).1)], .one (Cell.bool true)], [rdE b (at', false)] ++ T' ++ E)) (some ([.agg [Cell.str (bs []), .lst true 2 [], Cell.str (bs [])], .one (Cell.bool false)], [rdE b (at', false)] ++ T' ++ E)) := by
          simp only [impl_GetMade, e0, n1 _ s1 [], n1 _ s2 [], hp, numV, callS_canon, callL_canon, Option.map_some, Option.bind_some, shape_one, shape_agg, shape_nil, cellsAt_0, cellsAt_1, cellsAt_2, cellsAt_3, cells_one, cells_agg, cB_zero, cI_zero, cS_zero, cC_zero, cB_cons, cI_cons, cS_cons, cC_cons, cond_true, cond_false, List.length_cons, List.length_nil, beq_self_eq_true, Bool.and_true, Bool.true_and, lenC_encL, lenC_lst, deref_ref, emptyK_nil, bs_size, bs_toList]
          refine e1.trans ?_
          simp only [impl_GetMade_l0, d2, callS_canon, callL_canon, Option.map_some, Option.bind_some, shape_one, shape_agg, shape_nil, cellsAt_0, cellsAt_1, cellsAt_2, cellsAt_3, cells_one, cells_agg, cB_zero, cI_zero, cS_zero, cC_zero, cB_cons, cI_cons, cS_cons, cC_cons, cond_true, cond_false, List.length_cons, List.length_nil, beq_self_eq_true, Bool.and_true, Bool.true_and, lenC_encL, lenC_lst, deref_ref, emptyK_nil, bs_size, bs_toList]
          rw [decide_eq_false (by omega), cond_false]
          rw [show callF run_impl_PutMade [.agg [Cell.str (bs (nxS b (0, false)).1), c', Cell.str (bs (nxS b (nxS b (0, false)).2).1)]] (rdE b (at', false) :: T') = some ([.one c2], [rdE b (at', false)] ++ T' ++ E) from e2]
          simp only [e3, callS_canon, callL_canon, Option.map_some, Option.bind_some, shape_one, shape_agg, shape_nil, cellsAt_0, cellsAt_1, cellsAt_2, cellsAt_3, cells_one, cells_agg, cB_zero, cI_zero, cS_zero, cC_zero, cB_cons, cI_cons, cS_cons, cC_cons, cond_true, cond_false, List.length_cons, List.length_nil, beq_self_eq_true, Bool.and_true, Bool.true_and, lenC_encL, lenC_lst, deref_ref, emptyK_nil, bs_size, bs_toList]
          cases (m_PutMade ⟨(nxS b (0, false)).1, fs, (nxS b (nxS b (0, false)).2).1⟩ == b) <;> rfl
        cases h : (m_PutMade ⟨(nxS b (0, false)).1, fs, (nxS b (nxS b (0, false)).2).1⟩ == b) with
        | true => rw [h] at hstep; exact run_impl_GetMade_of 1001 hstep
        | false => rw [h] at hstep; exact run_impl_GetMade_of 1001 hstep
      by_cases hpm : m_PutMade ⟨(nxS b (0, false)).1, fs, (nxS b (nxS b (0, false)).2).1⟩ = b
      · have hg : getMade b = some ⟨(nxS b (0, false)).1, fs, (nxS b (nxS b (0, false)).2).1⟩ := by unfold getMade; rw [hm]; exact if_pos hpm
        have hmm : m_GetMade b = (⟨(nxS b (0, false)).1, fs, (nxS b (nxS b (0, false)).2).1⟩, true) := by unfold m_GetMade; rw [hg]
        rw [hmm]
        rw [show (m_PutMade ⟨(nxS b (0, false)).1, fs, (nxS b (nxS b (0, false)).2).1⟩ == b) = true by simpa using hpm, cond_true] at fin
        refine Fresh.agg1 (n := 1) (ids := [] ++ (ids ++ ([] ++ []))) fin (.cons (i := []) (is := ids ++ ([] ++ [])) ⟨rfl, rfl⟩ (.cons (i := ids) (is := [] ++ []) ?_ (.cons (i := []) (is := []) ⟨rfl, rfl⟩ .nil))) (by simpa using r2)
        exact (r1.app E).weak (fun h => h) fun h => h
      · have hg : getMade b = none := by unfold getMade; rw [hm]; exact if_neg hpm
        rw [show (m_PutMade ⟨(nxS b (0, false)).1, fs, (nxS b (nxS b (0, false)).2).1⟩ == b) = false by simpa using hpm, cond_false] at fin
        exact failF _ fin hg
end Go.Ev
