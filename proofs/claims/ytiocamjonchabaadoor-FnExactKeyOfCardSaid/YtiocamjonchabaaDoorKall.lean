/- What the functions come to. Conditions: none. -/
import Derived.Test.YtiocamjonchabaaDoorEvCon
set_option linter.unusedSimpArgs false
set_option linter.unusedVariables false
namespace Go.Ev
open Go
/-! names -/
def inR (x a b : Int) : Bool := decide (a ≤ x) && decide (x ≤ b)
def isSmall (b : UInt8) : Bool := inR b.toNat 97 122
def isFigure (b : UInt8) : Bool := inR b.toNat 48 57
def nameGo (first : Bool) : Str → Bool
  | [] => true
  | b :: r => (isSmall b || (!first && (isFigure b || b == 45))) && nameGo false r
def nameOk (s : Str) : Bool := nameGo true s && inR s.length 1 10
theorem u8_eq (b : UInt8) (n : Nat) (h : n < 256) : ((b.toNat : Int) == (n : Int)) = (b == UInt8.ofNat n) := by
  rw [Bool.eq_iff_iff]
  simp only [beq_iff_eq]
  constructor
  · intro e
    apply UInt8.toNat_inj.1
    have : (UInt8.ofNat n).toNat = n := by simp; omega
    omega
  · intro e
    have : (UInt8.ofNat n).toNat = n := by simp; omega
    rw [e, this]
theorem u8_ne (b : UInt8) (n : Nat) (h : n < 256) : ((b.toNat : Int) != (n : Int)) = (b != UInt8.ofNat n) := by
  simp only [bne, u8_eq b n h]
theorem u8_lt (b : UInt8) : (b.toNat : Int) < 256 := by have := b.toNat_lt; omega
/-! parts of a text -/
/-- The parts between which a byte stands; cur: what stands ahead already. -/
def splitGo (c : UInt8) (cur : Str) : Str → List Str
  | [] => [cur]
  | b :: r => if b = c then cur :: splitGo c [] r else splitGo c (cur ++ [b]) r
def split (c : UInt8) (s : Str) : List Str := splitGo c [] s
/-- What stands ahead of the first such byte, and behind it. -/
def ahead (c : UInt8) (s : Str) : Str := s.takeWhile (· != c)
def behind (c : UInt8) (s : Str) : Str := (s.dropWhile (· != c)).drop 1

theorem splitGo_length (c : UInt8) : ∀ (s cur : Str), (splitGo c cur s).length ≤ s.length + 1 ∧ ∀ x ∈ splitGo c cur s, x.length ≤ cur.length + s.length := by
  intro s
  induction s with
  | nil => intro cur; simp [splitGo]
  | cons b r ih =>
    intro cur
    simp only [splitGo]
    split
    · obtain ⟨h1, h2⟩ := ih []
      refine ⟨by simp; omega, fun x hx => ?_⟩
      rcases List.mem_cons.1 hx with rfl | hx
      · simp
      · have := h2 x hx; simp at this; simp; omega
    · obtain ⟨h1, h2⟩ := ih (cur ++ [b])
      refine ⟨by simp; omega, fun x hx => ?_⟩
      have := h2 x hx; simp at this; simp; omega

theorem splitGo_not {c : UInt8} : ∀ {s : Str} (cur : Str), c ∉ s → splitGo c cur s = [cur ++ s] := by
  intro s
  induction s with
  | nil => intro cur _; simp [splitGo]
  | cons b r ih =>
    intro cur h
    simp only [List.mem_cons, not_or] at h
    simp only [splitGo]
    rw [if_neg fun e => h.1 e.symm, ih _ h.2]
    simp

theorem splitGo_cut {c : UInt8} : ∀ {s : Str} (cur : Str), c ∈ s → splitGo c cur s = (cur ++ ahead c s) :: splitGo c [] (behind c s) := by
  intro s
  induction s with
  | nil => intro cur h; simp at h
  | cons b r ih =>
    intro cur h
    simp only [splitGo]
    by_cases e : b = c
    · subst e
      simp [ahead, behind]
    · rw [if_neg e, ih _ (by simpa [Ne.symm e] using h)]
      simp [ahead, behind, e]

theorem split_not {c : UInt8} {s : Str} (h : c ∉ s) : split c s = [s] := splitGo_not [] h
theorem split_cut {c : UInt8} {s : Str} (h : c ∈ s) : split c s = ahead c s :: split c (behind c s) := splitGo_cut [] h
theorem splitGo_ne {c : UInt8} : ∀ (s cur : Str), splitGo c cur s ≠ [] := by
  intro s
  induction s with
  | nil => intro cur; simp [splitGo]
  | cons b r ih => intro cur; simp only [splitGo]; split <;> simp [ih]
theorem ahead_le (c : UInt8) (s : Str) : (ahead c s).length ≤ s.length := by
  have := (List.takeWhile_prefix (fun x => x != c) (l := s)).length_le
  exact this
theorem behind_le (c : UInt8) (s : Str) : (behind c s).length ≤ s.length := by
  have := (List.dropWhile_suffix (fun x => x != c) (l := s)).length_le
  simp only [behind, List.length_drop]
  omega
theorem ahead_not {c : UInt8} (s : Str) : c ∉ ahead c s := by
  induction s with
  | nil => simp [ahead]
  | cons b r ih =>
    unfold ahead
    rw [List.takeWhile_cons]
    split
    · rename_i h
      intro hm
      rcases List.mem_cons.1 hm with e | e
      · rw [← e] at h; simp at h
      · exact ih e
    · simp

theorem nameGo_mem : ∀ {s : Str} {f : Bool}, nameGo f s = true → ∀ b ∈ s, isSmall b = true ∨ isFigure b = true ∨ b = 45 := by
  intro s
  induction s with
  | nil => intro f _ b hb; simp at hb
  | cons c r ih =>
    intro f h b hb
    simp only [nameGo, Bool.and_eq_true, Bool.or_eq_true, beq_iff_eq] at h
    rcases List.mem_cons.1 hb with rfl | hb
    · rcases h.1 with h1 | h1
      · exact .inl h1
      · rcases h1.2 with h2 | h2
        · exact .inr (.inl h2)
        · exact .inr (.inr h2)
    · exact ih h.2 b hb
theorem nameOk_not {s : Str} (h : nameOk s = true) : (35 : UInt8) ∉ s ∧ (94 : UInt8) ∉ s := by
  simp only [nameOk, Bool.and_eq_true] at h
  constructor <;> intro hb <;> rcases nameGo_mem h.1 _ hb with h | h | h <;> revert h <;> decide
theorem nameOk_nil : nameOk [] = false := rfl
theorem ahead_all {c : UInt8} {s : Str} (h : c ∉ s) : ahead c s = s := by
  induction s with
  | nil => rfl
  | cons b r ih =>
    simp only [List.mem_cons, not_or] at h
    have : ahead c (b :: r) = b :: ahead c r := by simp [ahead, Ne.symm h.1]
    rw [this, ih h.2]
theorem behind_none {c : UInt8} {s : Str} (h : c ∉ s) : behind c s = [] := by
  induction s with
  | nil => rfl
  | cons b r ih =>
    simp only [List.mem_cons, not_or] at h
    have : behind c (b :: r) = behind c r := by simp [behind, Ne.symm h.1]
    rw [this, ih h.2]
/-! tasks -/
def parseTask (s : Str) : Str × Str × Bool := if nameOk (ahead 35 s) && nameOk (behind 35 s) then (ahead 35 s, behind 35 s, true) else ([], [], false)
def parseTaskV (s : Str) : List AV := [.one (Cell.str (bs (parseTask s).1)), .one (Cell.str (bs (parseTask s).2.1)), .one (Cell.bool (parseTask s).2.2)]
theorem not_mem_behind {c : UInt8} {s : Str} (h : c ∉ s) (d : UInt8) : d ∉ behind c s := by
  rw [behind_none h]
  simp
/-- A text without what stands ahead of it. -/
def trimP (p s : Str) : Str := if p.isPrefixOf s then s.drop p.length else s
def onOk (s : Str) : Bool := if 35 ∈ s then nameOk (ahead 35 s) && nameOk (behind 35 s) else nameOk (trimP [94] s)
/-! the order of texts -/
def lt (a b : Str) : Bool := Op.bytesLess a b
theorem lt_self (a : Str) : lt a a = false := by
  unfold lt
  induction a with
  | nil => rfl
  | cons x a ih => simp [Op.bytesLess, ih]
theorem lt_not : ∀ (a b : Str), (lt a b || a == b) = !lt b a := by
  unfold lt
  intro a
  induction a with
  | nil => intro b; cases b <;> rfl
  | cons x a ih =>
    intro b
    cases b with
    | nil => rfl
    | cons y b =>
      have h := ih b
      simp only [Op.bytesLess]
      have e : ((x :: a) == (y :: b)) = (x == y && a == b) := rfl
      rw [e]
      rcases Nat.lt_trichotomy x.toNat y.toNat with h1 | h1 | h1
      · have e1 : decide (x < y) = true := by simpa [UInt8.lt_iff_toNat_lt] using h1
        have e2 : decide (y < x) = false := by simp [UInt8.lt_iff_toNat_lt]; omega
        have e3 : (y == x) = false := by simp; intro e; rw [e] at h1; omega
        simp [e1, e2, e3]
      · have e0 := UInt8.toNat_inj.1 h1
        subst e0
        have e1 : decide (x < x) = false := by simp
        simp only [e1, Bool.false_or, beq_self_eq_true, Bool.true_and, h]
      · have e1 : decide (y < x) = true := by simpa [UInt8.lt_iff_toNat_lt] using h1
        have e2 : decide (x < y) = false := by simp [UInt8.lt_iff_toNat_lt]; omega
        have e3 : (x == y) = false := by simp; intro e; rw [e] at h1; omega
        simp [e1, e2, e3]
theorem bl_eq (a b : Str) : Op.bytesLess a b = lt a b := rfl
/-- Ascending, each text once. -/
def asc : List Str → Bool
  | [] => true
  | [_] => true
  | a :: b :: r => lt a b && asc (b :: r)
theorem wrap_pred {i : Nat} (h : i < Go.maxLen) : IntKind.i64.wrap (((i + 1 : Nat) : Int) - 1) = (i : Int) := by
  have := maxLen_eq
  rw [wrap_small (by omega) (by omega)]
  omega
/-- The place of a text in a list. -/
def idxS (s : Str) : List Str → Nat → Int
  | [], _ => -1
  | b :: r, i => if s = b then (i : Int) else idxS s r (i + 1)
theorem idxS_ge (s : Str) : ∀ (l : List Str) (i : Nat), (decide (idxS s l i ≥ 0)) = l.contains s := by
  intro l
  induction l with
  | nil => intro i; rfl
  | cons b r ih =>
    intro i
    rw [List.contains_cons]
    by_cases e : s = b
    · have e1 : idxS s (b :: r) i = (i : Int) := if_pos e
      rw [e1, show (s == b) = true by simpa using e, decide_eq_true (by omega)]; rfl
    · have e1 : idxS s (b :: r) i = idxS s r (i + 1) := if_neg e
      rw [e1, ih, show (s == b) = false by simpa using e]; rfl
theorem idxS_nat (s : Str) : ∀ (l : List Str) (i : Nat), (idxS s l i = -1 ∧ s ∉ l) ∨ ∃ j x, idxS s l i = ((i + j : Nat) : Int) ∧ l[j]? = some x := by
  intro l
  induction l with
  | nil => intro i; exact .inl ⟨rfl, by simp⟩
  | cons b r ih =>
    intro i
    by_cases e : s = b
    · exact .inr ⟨0, b, by simp [idxS, e], rfl⟩
    · rcases ih (i + 1) with ⟨h1, h2⟩ | ⟨j, x, h1, h2⟩
      · exact .inl ⟨by simp [idxS, e, h1], by simp [e, h2]⟩
      · exact .inr ⟨j + 1, x, by simp only [idxS, if_neg e, h1]; congr 1; omega, by simpa using h2⟩
/-- What a name leans on. -/
def nextOf (names : List Str) (next : List (List Str)) (s : Str) : List Str := if idxS s names 0 < 0 then [] else (next[(idxS s names 0).toNat]?).getD []
theorem idxS_take (s : Str) (n : Nat) : ∀ (l : List Str) (i : Nat), (idxS s (l.take n) i = idxS s l i ∧ idxS s l i < ((i + n : Nat) : Int)) ∨ (idxS s (l.take n) i = -1 ∧ ((i + n : Nat) : Int) ≤ idxS s l i) := by
  induction n with
  | zero =>
    intro l i
    rcases idxS_nat s l i with ⟨h1, _⟩ | ⟨j, x, h1, _⟩
    · exact .inl ⟨by rw [h1]; rfl, by rw [h1]; omega⟩
    · exact .inr ⟨rfl, by rw [h1]; omega⟩
  | succ n ih =>
    intro l i
    cases l with
    | nil => exact .inl ⟨rfl, by simp only [idxS]; omega⟩
    | cons b r =>
      by_cases e : s = b
      · exact .inl ⟨by simp [idxS, e], by simp only [idxS, if_pos e]; omega⟩
      · simp only [List.take_succ_cons, idxS, if_neg e]
        have := ih r (i + 1)
        rw [show i + 1 + n = i + (n + 1) by omega] at this
        exact this
/-- What names lean on is not asked behind the shorter of both. -/
theorem nextOf_take (names : List Str) (next : List (List Str)) (s : Str) : nextOf (names.take (min names.length next.length)) (next.take (min names.length next.length)) s = nextOf names next s := by
  unfold nextOf
  rcases idxS_take s (min names.length next.length) names 0 with ⟨h1, h2⟩ | ⟨h1, h2⟩
  · rw [h1]
    split
    · rfl
    · rw [List.getElem?_take, if_pos (by omega)]
  · rw [h1, if_pos (by omega), if_neg (by omega)]
    rcases idxS_nat s names 0 with ⟨h3, _⟩ | ⟨j, x, h3, h4⟩
    · rw [h3] at h2; omega
    · have hj := (List.getElem?_eq_some_iff.1 h4).1
      rw [h3] at h2 ⊢
      rw [List.getElem?_eq_none (by omega)]
      rfl
/-- The place of the first element that answers. -/
def idxF {α : Type} (p : α → Bool) : List α → Nat → Int
  | [], _ => -1
  | x :: r, i => cond (p x) (i : Int) (idxF p r (i + 1))
theorem idxF_find {α : Type} (p : α → Bool) : ∀ (l : List α) (i : Nat), (idxF p l i = -1 ∧ l.find? p = none) ∨ ∃ (j : Nat) (x : α), idxF p l i = ((i + j : Nat) : Int) ∧ l[j]? = some x ∧ l.find? p = some x := by
  intro l
  induction l with
  | nil => intro i; exact .inl ⟨rfl, rfl⟩
  | cons b r ih =>
    intro i
    by_cases e : p b = true
    · exact .inr ⟨0, b, by simp [idxF, e], rfl, by simp [e]⟩
    · rcases ih (i + 1) with ⟨h1, h2⟩ | ⟨j, x, h1, h2, h3⟩
      · exact .inl ⟨by simp [idxF, e, h1], by simp [e, h2]⟩
      · exact .inr ⟨j + 1, x, by simp only [idxF, Bool.eq_false_iff.2 e, cond_false, h1]; congr 1; omega, by simpa using h2, by simp [e, h3]⟩
/-- What a name leans on is in order already, or is no name. -/
def readyB (names : List Str) (next : List (List Str)) (s : Str) (done : List Str) : Bool := (nextOf names next s).all fun x => !(names.contains x && !done.contains x)
def freeB (names : List Str) (next : List (List Str)) (done : List Str) (s : Str) : Bool := !done.contains s && readyB names next s done
def orderGo (names : List Str) (next : List (List Str)) : Nat → List Str → List Str × Bool
  | 0, o => (o, true)
  | d + 1, o => match names.find? (freeB names next o) with
    | some s => orderGo names next d (o ++ [s])
    | none => ([], false)
def orderOf (names : List Str) (next : List (List Str)) : List Str × Bool := orderGo names next names.length []
theorem orderGo_le (names : List Str) (next : List (List Str)) : ∀ (d : Nat) (o : List Str), (orderGo names next d o).1.length ≤ d + o.length ∧ ∀ x ∈ (orderGo names next d o).1, x ∈ o ∨ x ∈ names := by
  intro d
  induction d with
  | zero => intro o; exact ⟨by simp [orderGo], fun x hx => .inl hx⟩
  | succ d ih =>
    intro o
    simp only [orderGo]
    split
    · rename_i s hs
      obtain ⟨h1, h2⟩ := ih (o ++ [s])
      refine ⟨by simp at h1; omega, fun x hx => ?_⟩
      rcases h2 x hx with h | h
      · rcases List.mem_append.1 h with h | h
        · exact .inl h
        · simp only [List.mem_singleton] at h
          subst h
          exact .inr (List.mem_of_find?_eq_some hs)
      · exact .inr h
    · exact ⟨by simp, by simp⟩
theorem orderOf_le (names : List Str) (next : List (List Str)) : (orderOf names next).1.length ≤ names.length ∧ ∀ x ∈ (orderOf names next).1, x ∈ names := by
  obtain ⟨h1, h2⟩ := orderGo_le names next names.length []
  exact ⟨by simpa [orderOf] using h1, fun x hx => (h2 x hx).resolve_left (by simp)⟩
theorem nextOf_le {names : List Str} {next : List (List Str)} (h : ∀ d ∈ next, d.length ≤ 1073741824) (s : Str) : (nextOf names next s).length ≤ 1073741824 := by
  unfold nextOf
  split
  · simp
  · cases hd : next[(idxS s names 0).toNat]? with
    | none => simp
    | some d => exact h d (List.mem_of_getElem? hd)
/-! texts in their order, each once -/
theorem lt_iff : ∀ (a b : Str), lt a b = true ↔ a < b := by
  intro a
  unfold lt
  induction a with
  | nil => intro b; cases b <;> simp [Op.bytesLess]
  | cons x a ih =>
    intro b
    cases b with
    | nil => simp [Op.bytesLess]
    | cons y b => rw [List.cons_lt_cons_iff, ← ih b]; simp [Op.bytesLess]
theorem strict_unique : ∀ {a b : List Str}, a.Pairwise (· < ·) → b.Pairwise (· < ·) → (∀ x, x ∈ a ↔ x ∈ b) → a = b := by
  intro a
  induction a with
  | nil =>
    intro b _ _ h
    cases b with
    | nil => rfl
    | cons y b => exact absurd ((h y).2 List.mem_cons_self) (by simp)
  | cons x a ih =>
    intro b ha hb h
    cases b with
    | nil => exact absurd ((h x).1 List.mem_cons_self) (by simp)
    | cons y b =>
      obtain ⟨a1, a2⟩ := List.pairwise_cons.1 ha
      obtain ⟨b1, b2⟩ := List.pairwise_cons.1 hb
      have hxy : x = y := by
        rcases List.mem_cons.1 ((h x).1 List.mem_cons_self) with e | e
        · exact e
        · rcases List.mem_cons.1 ((h y).2 List.mem_cons_self) with e' | e'
          · exact e'.symm
          · exact absurd (List.lt_trans (b1 x e) (a1 y e')) (List.lt_irrefl _)
      subst hxy
      congr 1
      refine ih a2 b2 fun z => ⟨fun hz => ?_, fun hz => ?_⟩
      · rcases List.mem_cons.1 ((h z).1 (List.mem_cons_of_mem _ hz)) with rfl | e
        · exact absurd (a1 z hz) (List.lt_irrefl _)
        · exact e
      · rcases List.mem_cons.1 ((h z).2 (List.mem_cons_of_mem _ hz)) with rfl | e
        · exact absurd (b1 z hz) (List.lt_irrefl _)
        · exact e
def sortedU (xs : List Str) : List Str := Lib.compact (sortS xs)
theorem sortedU_spec (xs : List Str) : (sortedU xs).Pairwise (· < ·) ∧ ∀ x, x ∈ sortedU xs ↔ x ∈ xs := by
  have hp : (sortS xs).Pairwise (fun a b => a ≤ b) := by
    have := List.pairwise_mergeSort (le := fun x y : Str => decide (x ≤ y)) (fun a b c h1 h2 => by simp only [decide_eq_true_eq] at *; exact List.le_trans h1 h2) (fun a b => by simpa using List.le_total a b) xs
    simpa [sortS] using this
  have hm : ∀ x, x ∈ sortS xs ↔ x ∈ xs := fun x => List.mem_mergeSort
  generalize hs : sortS xs = s at hp hm
  have key : ∀ m, m < s.length → ∃ C, Lib.compactUpTo s.toArray (m + 1) = C ++ [s[m]!] ∧ (C ++ [s[m]!]).Pairwise (· < ·) ∧ ∀ x, x ∈ C ++ [s[m]!] ↔ x ∈ s.take (m + 1) := by
    intro m
    induction m with
    | zero =>
      intro h
      obtain ⟨x, r, rfl⟩ : ∃ x r, s = x :: r := by cases s with | nil => simp at h | cons x r => exact ⟨x, r, rfl⟩
      exact ⟨[], by rw [Lib.compactUpTo_succ]; simp [Lib.compactUpTo, Lib.keeps], by simp, by simp⟩
    | succ m ih =>
      intro h
      obtain ⟨C, h1, h2, h3⟩ := ih (by omega)
      have e0 : s[m]! = s[m] := by simp [show m < s.length by omega]
      have e1 : s[m + 1]! = s[m + 1] := by simp [h]
      have ht : s.take (m + 1 + 1) = s.take (m + 1) ++ [s[m + 1]] := by rw [List.take_add_one, List.getElem?_eq_getElem h]; rfl
      have hle : s[m] ≤ s[m + 1] := List.pairwise_iff_getElem.1 hp m (m + 1) (by omega) h (by omega)
      rw [Lib.compactUpTo_succ, h1]
      have hk : Lib.keeps s.toArray (m + 1) = decide (s[m + 1] ≠ s[m]) := by
        simp [Lib.keeps, h, show m < s.length by omega]
      rw [hk, e1, ht]
      by_cases he : s[m + 1] = s[m]
      · refine ⟨C, by simp [he, e0], by rw [he, ← e0]; exact h2, fun x => ?_⟩
        have h4 := h3 x
        rw [e0] at h4
        rw [he]
        constructor
        · exact fun h => List.mem_append_left _ (h4.1 h)
        · intro h
          rcases List.mem_append.1 h with h | h
          · exact h4.2 h
          · exact List.mem_append_right _ h
      · refine ⟨C ++ [s[m]!], by simp [he, h], ?_, fun x => ?_⟩
        · refine List.pairwise_append.2 ⟨h2, by simp, fun a ha b hb => ?_⟩
          simp only [List.mem_singleton] at hb
          subst hb
          have hlt : s[m] < s[m + 1] := by
            rcases Classical.em (s[m] < s[m + 1]) with h | h
            · exact h
            · exact absurd (List.le_antisymm (List.not_lt.1 h) hle) he
          rcases List.mem_append.1 ha with ha | ha
          · have := (List.pairwise_append.1 h2).2.2 a ha s[m]! (by simp)
            rw [e0] at this
            exact List.lt_trans this hlt
          · simp only [List.mem_singleton] at ha
            rw [ha, e0]
            exact hlt
        · rw [List.mem_append, h3 x, List.mem_append]
  unfold sortedU
  rw [hs]
  cases hl : s.length with
  | zero =>
    have : s = [] := List.eq_nil_of_length_eq_zero hl
    subst this
    exact ⟨by simp [Lib.compact, Lib.compactUpTo], fun x => by rw [← hm x]; simp [Lib.compact, Lib.compactUpTo]⟩
  | succ m =>
    obtain ⟨C, h1, h2, h3⟩ := key m (by omega)
    have he : Lib.compact s = C ++ [s[m]!] := by rw [Lib.compact, hl, h1]
    rw [he]
    refine ⟨h2, fun x => ?_⟩
    rw [h3 x, ← hm x, List.take_of_length_le (by omega)]
theorem sortedU_unique {o xs : List Str} (h1 : o.Pairwise (· < ·)) (h2 : ∀ x, x ∈ o ↔ x ∈ xs) : o = sortedU xs :=
  strict_unique h1 (sortedU_spec xs).1 fun x => (h2 x).trans ((sortedU_spec xs).2 x).symm
theorem sortedU_le (xs : List Str) : (sortedU xs).length ≤ xs.length := Nat.le_trans (compact_le _) (Nat.le_of_eq (List.length_mergeSort xs))
open Classical in
/-- What is reached from a text, in order. -/
noncomputable def reachS (nx : Str → List Str) (a : Str) : List Str := if h : ∃ o : List Str, ∀ x, x ∈ o ↔ Reach nx a x then sortedU h.choose else []
theorem reachS_eq {nx : Str → List Str} {a : Str} {o : List Str} (h : ∀ x, x ∈ o ↔ Reach nx a x) : reachS nx a = sortedU o := by
  have hh : ∃ o : List Str, ∀ x, x ∈ o ↔ Reach nx a x := ⟨o, h⟩
  unfold reachS
  rw [dif_pos hh]
  refine strict_unique (sortedU_spec _).1 (sortedU_spec _).1 fun x => ?_
  rw [(sortedU_spec _).2 x, (sortedU_spec _).2 x, h x, hh.choose_spec x]
theorem reach_congr {nx ny : Str → List Str} (h : ∀ x y, y ∈ nx x ↔ y ∈ ny x) {a x : Str} (hr : Reach nx a x) : Reach ny a x := by
  induction hr with
  | one hb => exact .one ((h _ _).1 hb)
  | step _ k ih => exact .step ih ((h _ _).1 k)
theorem reachS_congr {nx ny : Str → List Str} (h : ∀ x y, y ∈ nx x ↔ y ∈ ny x) {a : Str} {o : List Str} (ho : ∀ x, x ∈ o ↔ Reach nx a x) : reachS ny a = reachS nx a := by
  rw [reachS_eq ho]
  refine reachS_eq fun x => (ho x).trans ⟨reach_congr h, reach_congr fun a b => (h a b).symm⟩
theorem reach_fin {nx : Str → List Str} {s : Str} {U : List Str} (hm : ∀ x, ∀ y ∈ nx x, y ∈ U) : ∃ o : List Str, ∀ x, x ∈ o ↔ Reach nx s x := by
  classical
  refine ⟨U.filter fun x => decide (Reach nx s x), fun x => ?_⟩
  rw [List.mem_filter, decide_eq_true_eq]
  refine ⟨fun h => h.2, fun h => ⟨?_, h⟩⟩
  cases h with
  | one h => exact hm _ _ h
  | step _ k => exact hm _ _ k
theorem pairwise_nodup {l : List Str} (h : l.Pairwise (· < ·)) : l.Nodup := h.imp fun h e => by subst e; exact List.lt_irrefl _ h
theorem reachS_bd {nx : Str → List Str} {s : Str} {U : List Str} (hm : ∀ x, ∀ y ∈ nx x, y ∈ U) : (reachS nx s).length ≤ U.length ∧ ∀ x ∈ reachS nx s, x ∈ U := by
  obtain ⟨o, ho⟩ := reach_fin (s := s) hm
  rw [reachS_eq ho]
  obtain ⟨h1, h2⟩ := sortedU_spec o
  have h3 : ∀ x ∈ sortedU o, x ∈ U := fun x hx => by
    cases (ho x).1 ((h2 x).1 hx) with
    | one h => exact hm _ _ h
    | step _ k => exact hm _ _ k
  exact ⟨nodup_le (pairwise_nodup h1) h3, h3⟩
theorem nextOf_mem {names : List Str} {next : List (List Str)} {x y : Str} (h : y ∈ nextOf names next x) : ∃ d ∈ next, y ∈ d := by
  unfold nextOf at h
  split at h
  · simp at h
  · cases hd : next[(idxS x names 0).toNat]? with
    | none => rw [hd] at h; simp at h
    | some d => rw [hd] at h; exact ⟨d, List.mem_of_getElem? hd, h⟩
def taskName (p t : Str) : Str := p ++ [35] ++ t
def isPath (b : UInt8) : Bool := isSmall b || (isFigure b || (b == 46 || (b == 45 || b == 95)))
def fileOk (s : Str) : Bool := s.all isPath && (inR s.length 1 12 && (!(s == [46]) && !(s == [46, 46])))
theorem last_at {W : List Str} (h : 0 < W.length) (k : Nat) (hk : k < W.length) : ∃ x, W[k]? = some x := ⟨W[k], List.getElem?_eq_getElem hk⟩
theorem wrap_sub {n k : Nat} (h : k ≤ n) (hn : n ≤ 1073741824 + 1) : IntKind.i64.wrap ((n : Int) - (k : Int)) = ((n - k : Nat) : Int) := by
  rw [wrap_small (by omega) (by omega)]
  omega
def hasNil (W : List Str) : Bool := W.contains []
theorem hasNil_mem (W : List Str) : hasNil W = true ↔ [] ∈ W := by unfold hasNil; simp
theorem hasNil_cons (w : Str) (W : List Str) : hasNil (w :: W) = ((w == []) || hasNil W) := by
  unfold hasNil
  rw [List.contains_cons]
  cases w <;> rfl
def actKind (w : Str) (n : Nat) (into : Bool) : Bool :=
  bif w == [112, 117, 116] then decide (2 ≤ n) && into
  else bif w == [99, 97, 116] then inR n 2 4 && into
  else bif w == [101, 110, 118] then decide (n = 2) && into
  else bif w == [117, 115, 101] then decide (n = 3) && into
  else bif w == [108, 111, 103] then decide (2 ≤ n) && !into
  else bif w == [102, 97, 105, 108] then decide (n = 1) && !into
  else false
def actW (W : List Str) : Bool := !hasNil W && bif decide (3 ≤ W.length) && (W[W.length - 2]? == some [62]) then fileOk ((W[W.length - 1]?).getD []) && actKind ((W[0]?).getD []) (W.length - 2) true else actKind ((W[0]?).getD []) W.length false
def actOk (s : Str) : Bool := actW (split 32 s)
theorem n_ge (n k : Nat) : decide ((n : Int) ≥ (k : Int)) = decide (k ≤ n) := by rw [decide_eq_decide]; omega
theorem n_gt (n k : Nat) : decide ((n : Int) > (k : Int)) = decide (k < n) := by rw [decide_eq_decide]; omega
theorem n_eq (n k : Nat) : ((n : Int) == (k : Int)) = decide (n = k) := by rw [Bool.eq_iff_iff]; simp; omega
def kindS (w : Str) (n : Nat) (to lg : Bool) : Bool :=
  bif w == [112, 117, 116] then decide (2 ≤ n) && to
  else bif w == [99, 97, 116] then inR n 2 4 && to
  else bif w == [101, 110, 118] then decide (n = 2) && to
  else bif w == [117, 115, 101] then decide (n = 3) && to
  else bif w == [108, 111, 103] then decide (2 ≤ n) && lg
  else bif w == [102, 97, 105, 108] then decide (n = 1) && lg
  else false
theorem kindS_true (w : Str) (n : Nat) : kindS w n true false = actKind w n true := by
  unfold kindS actKind
  rfl
theorem kindS_false (w : Str) (n : Nat) : kindS w n false true = actKind w n false := by
  unfold kindS actKind
  rfl
theorem kindS_none (w : Str) (n : Nat) : kindS w n false false = false := by
  unfold kindS
  simp
def specB : List Str → Str → Bool → Bool
  | [], _, _ => false
  | w :: l, y, b => !hasNil (w :: l) && kindS w (l.length + 1) (fileOk y) (y == [] && !b)
def pathOk (s : Str) : Bool := (split 47 s).all fileOk && decide ((split 47 s).length ≤ 4)
theorem n_le (n k : Nat) : decide ((n : Int) ≤ (k : Int)) = decide (n ≤ k) := by rw [decide_eq_decide]; omega
/-- A file may stand at its place. -/
def fileI (l : List MFile) (i : Nat) : Bool :=
  match l[i]? with
  | some f => pathOk f.Path && (decide (f.Text.length ≤ 60) && (decide (i = 0) || (match l[i - 1]? with
    | some g => lt g.Path f.Path
    | none => true)))
  | none => true
def filesOk (l : List MFile) : Bool := (List.range l.length).all (fileI l) && decide (l.length ≤ 30)
theorem fileI_zero {l : List MFile} {f : MFile} (h : l[0]? = some f) : fileI l 0 = (pathOk f.Path && decide (f.Text.length ≤ 60)) := by
  unfold fileI
  rw [h]
  simp
theorem fileI_succ {l : List MFile} {i : Nat} {f g : MFile} (h : l[i + 1]? = some f) (hg : l[i]? = some g) : fileI l (i + 1) = (pathOk f.Path && (decide (f.Text.length ≤ 60) && lt g.Path f.Path)) := by
  unfold fileI
  rw [h]
  simp [hg]
def outsOk (l : List MFile) : Bool := (l.all fun f => fileOk f.Path) && (decide (l.length ≤ 6) && filesOk l)
def madeOk (m : MMade) : Bool := (parseTask m.Task).2.2 && (outsOk m.Outs && decide (m.Log.length ≤ 200))
def isAl (b : UInt8) : Bool := isSmall b || isFigure b
/-- Behind a bracket: how many bytes up to the closing one. -/
def clsGo : Str → Nat → Option Nat
  | [], _ => none
  | b :: r, c => bif isAl b then (clsGo r (c + 1)).map (· + 1) else bif inR c 1 5 && b == 93 then some 1 else none
theorem clsGo_cons (b : UInt8) (r : Str) (c : Nat) : clsGo (b :: r) c = bif isAl b then (clsGo r (c + 1)).map (· + 1) else bif inR c 1 5 && b == 93 then some 1 else none := rfl
def unitN : Str → Nat
  | [] => 0
  | b :: t => bif b == 91 then (match t with
      | [] => 0
      | d :: t' => bif d == 33 then (match clsGo t' 0 with | some n => n + 2 | none => 0) else (match clsGo (d :: t') 0 with | some n => n + 1 | none => 0))
    else bif isPath b || (b == 63 || b == 42) then 1 else 0
def pieceGo : Nat → Str → Nat → Bool
  | _, [], c => inR c 1 12
  | 0, _ :: _, _ => false
  | n + 1, b :: t, c => bif unitN (b :: t) == 0 then false else pieceGo n ((b :: t).drop (unitN (b :: t))) (c + 1)
def pieceOk (s : Str) : Bool := pieceGo s.length s 0
def globOk (s : Str) : Bool := (split 47 s).all pieceOk && decide ((split 47 s).length ≤ 4)
theorem clsGo_le : ∀ (r : Str) (c n : Nat), clsGo r c = some n → 1 ≤ n ∧ n ≤ r.length := by
  intro r
  induction r with
  | nil => intro c n h; simp [clsGo] at h
  | cons b r ih =>
    intro c n h
    unfold clsGo at h
    cases hb : isAl b with
    | true =>
      rw [hb, cond_true, Option.map_eq_some_iff] at h
      obtain ⟨j, h1, rfl⟩ := h
      obtain ⟨h2, h3⟩ := ih _ _ h1
      simp
      omega
    | false =>
      rw [hb, cond_false] at h
      cases hc : inR (c : Int) 1 5 && b == 93 with
      | true => rw [hc, cond_true] at h; simp only [Option.some.injEq] at h; simp; omega
      | false => rw [hc, cond_false] at h; simp at h
theorem unitN_le (s : Str) : unitN s ≤ s.length := by
  cases s with
  | nil => simp [unitN]
  | cons b t =>
    cases hb : b == 91 with
    | true =>
      cases t with
      | nil => simp only [unitN, hb, cond_true]; omega
      | cons d t' =>
        cases hd : d == 33 with
        | true =>
          simp only [unitN, hb, hd, cond_true]
          split
          · rename_i n h
            have := (clsGo_le _ _ _ h).2
            simp
            omega
          · omega
        | false =>
          simp only [unitN, hb, hd, cond_true, cond_false]
          split
          · rename_i n h
            have := (clsGo_le _ _ _ h).2
            simp at this ⊢
            omega
          · omega
    | false =>
      simp only [unitN, hb, cond_false]
      cases isPath b || (b == 63 || b == 42) <;> simp
theorem u8_int (b : UInt8) (n : Nat) (h : n < 256) : ((b.toNat : Int) == (n : Int)) = (b == UInt8.ofNat n) := u8_eq b n h
def sinceS : Str := [91, 115, 105, 110, 99, 101, 93]
def dotS : Str := [46, 46, 46]
def sufB (p s : Str) : Bool := decide (p.length ≤ s.length) && (s.drop (s.length - p.length) == p)
/-- A filter that is neither turned nor widened: may it stand? -/
def plainF (s : Str) : Bool := s == sinceS || (pieceOk s && decide (s.length ≤ 20))
def oneGo : Nat → Str → Bool
  | 0, s => plainF s
  | d + 1, s => bif List.isPrefixOf [33] s then oneGo d (s.drop 1) else bif List.isPrefixOf dotS s then oneGo d (s.drop 3) else bif sufB dotS s then oneGo d (s.take (s.length - 3)) else plainF s
def oneOk (s : Str) : Bool := oneGo s.length s
def filterOk (s : Str) : Bool := (split 32 s).all oneOk && decide ((split 32 s).length ≤ 4)
theorem oneGo_ge : ∀ (d e : Nat) (s : Str), s.length ≤ d → s.length ≤ e → oneGo d s = oneGo e s := by
  intro d
  induction d with
  | zero =>
    intro e s h1 h2
    have : s = [] := List.eq_nil_of_length_eq_zero (by omega)
    subst this
    cases e <;> rfl
  | succ d ih =>
    intro e s h1 h2
    cases e with
    | zero =>
      have : s = [] := List.eq_nil_of_length_eq_zero (by omega)
      subst this
      rfl
    | succ e =>
      unfold oneGo
      cases h3 : List.isPrefixOf [33] s with
      | true => 
        have := (List.isPrefixOf_iff_prefix.1 h3).length_le
        simp only [List.length_cons, List.length_nil] at this
        simp only [cond_true]
        exact ih e _ (by simp; omega) (by simp; omega)
      | false =>
        cases h4 : List.isPrefixOf dotS s with
        | true =>
          have := (List.isPrefixOf_iff_prefix.1 h4).length_le
          simp only [dotS, List.length_cons, List.length_nil] at this
          simp only [cond_true, cond_false]
          exact ih e _ (by simp; omega) (by simp; omega)
        | false =>
          cases h5 : sufB dotS s with
          | true =>
            have : 3 ≤ s.length := by simp [sufB, dotS] at h5; omega
            simp only [cond_true, cond_false]
            exact ih e _ (by simp; omega) (by simp; omega)
          | false => rfl
theorem clsGo_no : ∀ (r : Str) (c n : Nat), clsGo r c = some n → 47 ∉ r.take n := by
  intro r
  induction r with
  | nil => intro c n h; simp [clsGo] at h
  | cons b r ih =>
    intro c n h
    rw [clsGo_cons] at h
    cases hb : isAl b with
    | true =>
      rw [hb, cond_true, Option.map_eq_some_iff] at h
      obtain ⟨j, h1, rfl⟩ := h
      rw [List.take_succ_cons, List.mem_cons, not_or]
      refine ⟨?_, ih _ _ h1⟩
      rintro rfl
      exact absurd hb (by decide)
    | false =>
      rw [hb, cond_false] at h
      cases hc : inR (c : Int) 1 5 && b == 93 with
      | true =>
        rw [hc, cond_true] at h
        simp only [Option.some.injEq] at h
        subst h
        simp only [Bool.and_eq_true, beq_iff_eq] at hc
        rw [hc.2]
        simp
      | false => rw [hc, cond_false] at h; simp at h
theorem unitN_no (s : Str) : 47 ∉ s.take (unitN s) := by
  cases s with
  | nil => simp
  | cons b t =>
    cases hb : b == 91 with
    | true =>
      have hb' : b = 91 := by simpa using hb
      cases t with
      | nil => simp [unitN, hb']
      | cons d t' =>
        cases hd : d == 33 with
        | true =>
          have hd' : d = 33 := by simpa using hd
          simp only [unitN, hb, hd, cond_true]
          split
          · rename_i n h
            have := clsGo_no _ _ _ h
            rw [List.take_succ_cons, List.take_succ_cons, hb', hd']
            simpa using this
          · simp
        | false =>
          simp only [unitN, hb, hd, cond_true, cond_false]
          split
          · rename_i n h
            have := clsGo_no _ _ _ h
            rw [List.take_succ_cons, hb', List.mem_cons, not_or]
            exact ⟨by decide, this⟩
          · simp
    | false =>
      simp only [unitN, hb, cond_false]
      cases h : isPath b || (b == 63 || b == 42) with
      | true =>
        simp only [cond_true, List.take_succ_cons, List.take_zero, List.mem_singleton]
        rintro rfl
        exact absurd h (by decide)
      | false => simp
theorem pieceGo_no : ∀ (d : Nat) (s : Str) (c : Nat), pieceGo d s c = true → 47 ∉ s := by
  intro d
  induction d with
  | zero =>
    intro s c h
    cases s with
    | nil => simp
    | cons b t => simp [pieceGo] at h
  | succ d ih =>
    intro s c h
    cases s with
    | nil => simp
    | cons b t =>
      unfold pieceGo at h
      cases hu : unitN (b :: t) == 0 with
      | true => rw [hu] at h; simp at h
      | false =>
        rw [hu, cond_false] at h
        have h1 := ih _ _ h
        have h2 := unitN_no (b :: t)
        rw [← List.take_append_drop (unitN (b :: t)) (b :: t), List.mem_append, not_or]
        exact ⟨h2, h1⟩
/-- As the program asks it. -/
theorem plainF_eq (s : Str) (h : (s == sinceS) = false) : plainF s = (decide (s.length ≤ 20) && (!decide (47 ∈ s) && globOk s)) := by
  unfold plainF
  rw [h, Bool.false_or]
  by_cases h1 : 47 ∈ s
  · rw [decide_eq_true h1]
    cases hp : pieceOk s with
    | true => exact absurd h1 (pieceGo_no _ _ _ hp)
    | false => simp
  · rw [decide_eq_false h1]
    unfold globOk
    rw [split_not h1]
    simp [Bool.and_comm]
def b16 (n : Nat) : Str := [UInt8.ofNat (n / 256), UInt8.ofNat n]
/-- A text among bytes. -/
def encT (s : Str) : Str := if 60000 < s.length then [] else b16 s.length ++ s
def numT (n : Nat) : Str := Lib.decDigits n
theorem encT_le (s : Str) : (encT s).length ≤ 60002 ∧ (encT s).length ≤ s.length + 2 := by
  unfold encT b16
  split
  · simp
  · simp; omega
theorem numT_le (n : Nat) (h : n ≤ 1099511627776) : (numT n).length ≤ 21 := by
  have := Lib.itoa_length_le (n : Int) (by omega) (by omega)
  have e : Lib.itoa (n : Int) = numT n := by unfold Lib.itoa numT; rw [if_neg (by omega)]; simp
  rwa [e] at this
theorem numT_30 (n : Nat) (h : n ≤ 1099511627776) : (numT n).length ≤ 1073741824 := Nat.le_trans (numT_le n h) (by omega)
theorem hi_u8 (n : Nat) : IntKind.u8.wrap (shrI .i64 (n : Int) 8) = ((UInt8.ofNat (n / 256)).toNat : Int) := by
  rw [← wrap_u8]
  congr 1
  unfold shrI
  rw [show (2 : Int) ^ (min (8 : Int).toNat IntKind.i64.bits) = 256 from rfl, Int.fdiv_eq_ediv_of_nonneg _ (by omega)]
  omega
theorem b16_rows (n : Nat) : [[Cell.sc (.int .u8 (IntKind.u8.wrap (shrI .i64 (n : Int) 8)))], [Cell.sc (.int .u8 (IntKind.u8.wrap (n : Int)))]] = (b16 n).map eByte := by
  rw [hi_u8, wrap_u8]
  rfl
theorem byteRows_bs (s : Str) : byteRows (bs s) = s.map eByte := by
  unfold byteRows
  rw [show (bs s).data.toList = s from by simp [bs]]
  rfl
theorem src_bytes (H : List Entry) (e : Str) : srcRows H 1 (bytesC e) = some (e.map eByte) := by simp [srcRows, rowsOf, encL]
/-- Bytes of one's own. -/
def BytM (H : List Entry) (c : Cell) (b : Str) : Prop := ∃ ids, Rep H true true 2 ids c (trL 1 trByte b) ∧ ids.Nodup
theorem BytM.nil (H : List Entry) : BytM H (.lst true 1 []) [] := ⟨[], .inl ⟨rfl, rfl, true, rfl⟩, by simp⟩
theorem BytM.read {H : List Entry} {c : Cell} {b : Str} (h : BytM H c b) : reifyAV false H (.one c) = some (.one (bytesC b)) := by
  obtain ⟨ids, h, _⟩ := h
  have := reify_one h (by omega)
  rwa [trL_cell] at this
theorem BytM.of {H E : List Entry} {c : Cell} {b : Str} {is : List Nat} {lo hi : Nat} (h : Rep (H ++ E) true true 2 is c (trL 1 trByte b)) (w : Mine lo hi is) : BytM (H ++ E) c b := ⟨is, h, w.nd⟩
theorem rep_bytes {H : List Entry} {ids : List Nat} {c : Cell} {xs : Str} (h : Rep H true true 2 ids c (trL 1 trByte xs)) : (xs = [] ∧ ids = [] ∧ ∃ f, c = .lst f 1 []) ∨ ∃ id ep, c = .vs id 1 0 xs.length ep ∧ ids = [id] ∧ H[id]? = some ⟨1, xs.map eByte, ep, false⟩ := by
  rcases h with ⟨h1, h2, h3⟩ | ⟨id, off, ep, e, fr, is, rfl, rfl, he, hq, hwh, hl, hr, hs⟩
  · exact .inl ⟨List.map_eq_nil_iff.1 h1, h2, h3⟩
  · obtain ⟨rfl, hle⟩ := hwh rfl
    obtain rfl := hq rfl
    rw [List.drop_zero, hle, List.take_of_length_le (Nat.le_refl _)] at hs
    have key : ∀ {is : List Nat} {e : List (List Cell)} {xs : Str}, Sp (Sp (Rep H true true 1)) is e (xs.map trByte) → (∀ r ∈ e, r.length = 1) → e = xs.map eByte ∧ is = [] := by
      intro is e xs
      induction xs generalizing is e with
      | nil => intro h _; obtain ⟨rfl, rfl⟩ := h.nil_inv; exact ⟨rfl, rfl⟩
      | cons x xs ih =>
        intro h hl
        obtain ⟨i, i', a, as', rfl, rfl, h1, h2⟩ := h.cons_inv
        obtain ⟨h3, h4⟩ := ih h2 fun r hr => hl r (List.mem_cons_of_mem _ hr)
        obtain ⟨k, k', a0, r', rfl, rfl, h5, h6⟩ := h1.cons_inv
        obtain ⟨rfl, rfl⟩ := h6.nil_inv
        obtain ⟨rfl, rfl⟩ := h5
        subst h3 h4
        exact ⟨rfl, rfl⟩
    obtain ⟨h1, h2⟩ := key hs hr
    subst h1 h2
    exact .inr ⟨id, ep, by simp, rfl, he⟩
theorem Grow.bytes {c : Cell} {H : List Entry} {b : Str} (h : Grow 1 c H (b.map eByte)) : ∃ ids, Rep H true true 2 ids c (trL 1 trByte b) ∧ ids.Nodup := by
  obtain ⟨ids, h1, h2, _⟩ := h.rep (tr := trByte) (fun _ _ => rfl) (fun x _ H' => Sp.leaf1 _)
  exact ⟨ids, h1, h2⟩
theorem f_spec_PutText (b s : Str) (hb : b.length ≤ 8796093022208) (hs : s.length ≤ 1073741824) : Fresh run_spec_PutText true 2 [.one (bytesC b), .one (Cell.str (bs s))] [.one (trL 1 trByte (b ++ encT s))] := by
  obtain ⟨p1, a1, g1⟩ := (Grow.nil 1).app (by' := 1) (b.map eByte) (by unfold bound; simp; omega) (by unfold bound; simp; omega)
  rw [List.nil_append] at g1
  by_cases h : 60000 < s.length
  · have e : encT s = [] := if_pos h
    rw [e, List.append_nil]
    obtain ⟨ids, r1, r2⟩ := g1.bytes
    refine Fresh.one (run_spec_PutText_of 0 ?_) r1 r2
    simp only [spec_PutText, src_bytes, a1, Option.bind_some, bs_size]
    rw [decide_eq_true (by omega), cond_true]
  · have e : encT s = b16 s.length ++ s := if_neg h
    obtain ⟨p2, a2, g2⟩ := g1.app (by' := 1) ((b16 s.length).map eByte) (by unfold bound b16; simp; omega) (by unfold bound b16; simp; omega)
    rw [← List.map_append] at g2
    obtain ⟨p3, a3, g3⟩ := g2.app (by' := 1) (s.map eByte) (by unfold bound b16; simp; omega) (by unfold bound b16; simp; omega)
    rw [← List.map_append, List.append_assoc, ← e] at g3
    obtain ⟨ids, r1, r2⟩ := g3.bytes
    refine Fresh.one (run_spec_PutText_of 0 ?_) r1 r2
    simp only [spec_PutText, src_bytes, a1, Option.bind_some, bs_size]
    rw [decide_eq_false (by omega), cond_false]
    simp only [b16_rows, byteRows_bs, a2, a3, Option.bind_some]
theorem g_spec_PutText {H : List Entry} {c : Cell} {b : Str} (h : BytM H c b) (s : Str) (hb : b.length ≤ 8796093022208) (hs : s.length ≤ 1073741824) : ∃ d E, callF run_spec_PutText [.one c, .one (Cell.str (bs s))] H = some ([.one d], H ++ E) ∧ BytM (H ++ E) d (b ++ encT s) := by
  obtain ⟨d, E, is, e1, r1, w1, _⟩ := freshO (f_spec_PutText b s hb hs) H (mapO_c h.read (mapO_canon [.one (Cell.str (bs s))] _ _))
  exact ⟨d, E, e1, is, r1, w1.nd⟩
theorem decDigits_lt {u : Nat} (h : u < 10) : Lib.decDigits u = [UInt8.ofNat (48 + u)] := by
  unfold Lib.decDigits
  rw [dif_pos h]
theorem decDigits_ge {u : Nat} (h : ¬ u < 10) : Lib.decDigits u = Lib.decDigits (u / 10) ++ [UInt8.ofNat (48 + u % 10)] := by
  rw [Lib.decDigits, dif_neg h]
theorem digit_of (H : List Entry) (n : Nat) : bytesOf H (.lst true 1 [[.sc (.int .u8 (IntKind.u8.wrap (IntKind.i64.wrap (48 + (((n : Nat) : Int).tmod 10)))))]]) = some (bs [UInt8.ofNat (48 + n % 10)]) := by
  have e : IntKind.i64.wrap (48 + ((n : Int).tmod 10)) = ((48 + n % 10 : Nat) : Int) := by
    rw [Int.tmod_eq_emod_of_nonneg (by omega), wrap_small (by omega) (by omega)]
    omega
  rw [e, wrap_u8]
  generalize UInt8.ofNat (48 + n % 10) = v
  simp [bytesOf, rowsOf, mapO, byteC, ofBytes, bs]
theorem c_spec_NumText (n : Nat) (hn : n ≤ 1099511627776) : out run_spec_NumText [.one (Cell.int n)] = some [.one (Cell.str (bs (numT n)))] := by
  have loop : ∀ (u : Nat) (s : Str) (q : Nat), u ≤ 1099511627776 → u + s.length < 2199023255552 → u < q → ∀ k m, spec_NumText_l1 k m q u (bs s) = some ([.one (Cell.str (bs (if u < 10 then s else Lib.decDigits (u / 10) ++ s)))], []) := by
    intro u
    induction u using Nat.strongRecOn with
    | _ u ih =>
      intro s q hu hs hq k m
      obtain ⟨q, rfl⟩ : ∃ j, q = j + 1 := ⟨q - 1, by omega⟩
      simp only [spec_NumText_l1]
      by_cases h : u < 10
      · rw [decide_eq_false (by omega), cond_false, if_pos h]
      · have e : IntKind.i64.wrap ((u : Int).tdiv 10) = ((u / 10 : Nat) : Int) := by
          rw [Int.tdiv_eq_ediv_of_nonneg (by omega), wrap_small (by omega) (by omega)]
          omega
        rw [decide_eq_true (by omega), cond_true, if_neg h, e, digit_of]
        simp only [Option.bind_some]
        rw [catS_bs (by simp; omega)]
        simp only [Option.bind_some]
        rw [ih (u / 10) (by omega) _ q (by omega) (by simp; omega) (by omega)]
        by_cases h2 : u / 10 < 10
        · rw [if_pos h2, decDigits_lt h2, Nat.mod_eq_of_lt h2]
        · rw [if_neg h2, decDigits_ge h2]
          simp
  refine out_of (H := []) (run_spec_NumText_of n ?_)
  simp only [spec_NumText]
  rw [decide_eq_false (by omega), cond_false, digit_of]
  simp only [Option.bind_some]
  rw [loop n _ (n + 1) hn (by simp; omega) (by omega)]
  unfold numT
  by_cases h : n < 10
  · rw [if_pos h, decDigits_lt h, Nat.mod_eq_of_lt h]
  · rw [if_neg h, decDigits_ge h]
theorem c_impl_NumText (n : Nat) (hn : n ≤ 1099511627776) : out run_impl_NumText [.one (Cell.int n)] = some [.one (Cell.str (bs (numT n)))] := by
  have e : out run_strconv_Itoa [.one (Cell.int n)] = some [.one (Cell.str (bs (numT n)))] := by
    refine out_of (H := []) ?_
    show run_itoa _ _ = _
    simp only [run_itoa]
    rw [if_pos ⟨by omega, by omega⟩]
    have : Lib.itoa (n : Int) = numT n := by unfold Lib.itoa numT; rw [if_neg (by omega)]; simp
    rw [this]
    rfl
  refine out_of (H := []) (run_impl_NumText_of 0 ?_)
  simp only [impl_NumText]
  rw [if_neg (by omega)]
  simp only [e, callS_canon, callL_canon, Option.map_some, Option.bind_some, shape_one, shape_agg, shape_nil, cellsAt_0, cellsAt_1, cellsAt_2, cellsAt_3, cells_one, cells_agg, cB_zero, cI_zero, cS_zero, cC_zero, cB_cons, cI_cons, cS_cons, cC_cons, cond_true, cond_false, List.length_cons, List.length_nil, beq_self_eq_true, Bool.and_true, Bool.true_and, lenC_encL, lenC_lst, deref_ref, emptyK_nil, bs_size, bs_toList]
theorem f_spec_l16Count (b : Str) (n : Nat) (hb : b.length ≤ 8796093022208) (hn : n ≤ 1099511627776) : Fresh run_spec_l16Count true 2 [.one (bytesC b), .one (Cell.int n)] [.one (trL 1 trByte (b ++ encT (numT n)))] := by
  have := numT_le n hn
  refine Fresh.tailO (f_spec_PutText b (numT n) hb (by omega)) [] (mapO_canon [.one (bytesC b), .one (Cell.str (bs (numT n)))] _ _) fun c E h => run_spec_l16Count_of 0 ?_
  simp only [spec_l16Count, c_spec_NumText n hn, h, callS_canon, callL_canon, Option.map_some, Option.bind_some, shape_one, shape_agg, shape_nil, cellsAt_0, cellsAt_1, cellsAt_2, cellsAt_3, cells_one, cells_agg, cB_zero, cI_zero, cS_zero, cC_zero, cB_cons, cI_cons, cS_cons, cC_cons, cond_true, cond_false, List.length_cons, List.length_nil, beq_self_eq_true, Bool.and_true, Bool.true_and, lenC_encL, lenC_lst, deref_ref, emptyK_nil, bs_size, bs_toList]
theorem g_spec_l16Count {H : List Entry} {c : Cell} {b : Str} (h : BytM H c b) (n : Nat) (hb : b.length ≤ 8796093022208) (hn : n ≤ 1099511627776) : ∃ d E, callF run_spec_l16Count [.one c, .one (Cell.int n)] H = some ([.one d], H ++ E) ∧ BytM (H ++ E) d (b ++ encT (numT n)) := by
  obtain ⟨d, E, is, e1, r1, w1, _⟩ := freshO (f_spec_l16Count b n hb hn) H (mapO_c h.read (mapO_canon [.one (Cell.int n)] _ _))
  exact ⟨d, E, e1, is, r1, w1.nd⟩
theorem g_impl_putText {c : Cell} {H : List Entry} {b : Str} (h : Grow 1 c H (b.map eByte)) (s : Str) (hb : b.length ≤ 8796093022208) (hs : s.length ≤ 1073741824) : ∃ p : Cell × List Entry, run_impl_putText [.one c, .one (Cell.str (bs s))] H = some ([.one p.1], p.2) ∧ Grow 1 p.1 p.2 ((b ++ encT s).map eByte) := by
  by_cases h2 : 60000 < s.length
  · have e : encT s = [] := if_pos h2
    rw [e, List.append_nil]
    refine ⟨(c, H), run_impl_putText_of 0 ?_, h⟩
    simp only [impl_putText, bs_size]
    rw [decide_eq_true (by omega), cond_true]
  · have e : encT s = b16 s.length ++ s := if_neg h2
    obtain ⟨p2, a2, g2⟩ := h.app (by' := 1) ((b16 s.length).map eByte) (by unfold bound b16; simp; omega) (by unfold bound b16; simp; omega)
    rw [← List.map_append] at g2
    obtain ⟨p3, a3, g3⟩ := g2.app (by' := 1) (s.map eByte) (by unfold bound b16; simp; omega) (by unfold bound b16; simp; omega)
    rw [← List.map_append, List.append_assoc, ← e] at g3
    refine ⟨p3, run_impl_putText_of 0 ?_, g3⟩
    simp only [impl_putText, bs_size]
    rw [decide_eq_false (by omega), cond_false]
    simp only [b16_rows, byteRows_bs, a2, a3, Option.bind_some]
def encFs (l : List MFile) : Str := l.flatMap fun f => encT f.Path ++ encT f.Text
def encFiles (l : List MFile) : Str := encT (numT l.length) ++ encFs l
theorem encFs_le (l : List MFile) : (encFs l).length ≤ 120004 * l.length := by
  induction l with
  | nil => simp [encFs]
  | cons f l ih =>
    have h1 := (encT_le f.Path).1
    have h2 := (encT_le f.Text).1
    simp only [encFs, List.flatMap_cons, List.length_append, List.length_cons] at ih ⊢
    omega
theorem encFiles_le (l : List MFile) : (encFiles l).length ≤ 60002 + 120004 * l.length := by
  have h1 := (encT_le (numT l.length)).1
  have h2 := encFs_le l
  simp only [encFiles, List.length_append]
  omega
theorem encFs_snoc (l : List MFile) (f : MFile) : encFs (l ++ [f]) = encFs l ++ (encT f.Path ++ encT f.Text) := by simp [encFs]
theorem f_spec_l16Files (b : Str) (l : List MFile) (hb : b.length ≤ 4398046511104) (hl : bdL 1048576 (MFile.Bd 1048576) l) : Fresh run_spec_l16Files true 2 [.one (bytesC b), .one (encL 2 MFile.enc l)] [.one (trL 1 trByte (b ++ encFiles l))] := by
  have hM := maxLen_eq
  have hxl := hl.1
  have loop : ∀ (r : List MFile) (i n : Nat) (b : Str) (c : Cell) (H : List Entry), BytM H c b → l.drop i = r → r.length < n → b.length + 120004 * r.length ≤ 8796093022208 → ∀ k m, ∃ d H', spec_l16Files_l0 k m n c (encL 2 MFile.enc l) i H = some ([.one d], H') ∧ BytM H' d (b ++ encFs r) := by
    intro r
    induction r with
    | nil =>
      intro i n b c H h hd hn hc k m
      obtain ⟨n, rfl⟩ : ∃ j, n = j + 1 := ⟨n - 1, by omega⟩
      have := drop_nil hd
      refine ⟨c, H, ?_, by simpa [encFs] using h⟩
      simp only [spec_l16Files_l0, lenC_encL, Option.bind_some]
      rw [decide_eq_false (by omega), cond_false]
    | cons f r ih =>
      intro i n b c H h hd hn hc k m
      obtain ⟨n, rfl⟩ : ∃ j, n = j + 1 := ⟨n - 1, by omega⟩
      obtain ⟨hlt, hx, hd'⟩ := drop_cons hd
      simp only [List.length_cons] at hn hc
      have hf := hl.2 f (List.mem_of_getElem? hx)
      have h1 := (encT_le f.Path).1
      have h2 := (encT_le f.Text).1
      have k1 : f.Path.length ≤ 1048576 := hf.1
      have k2 : f.Text.length ≤ 1048576 := hf.2
      obtain ⟨c1, E1, e1, g1⟩ := g_spec_PutText h f.Path (by omega) (by omega)
      obtain ⟨c2, E2, e2, g2⟩ := g_spec_PutText g1 f.Text (by simp; omega) (by omega)
      obtain ⟨d, H', e3, g3⟩ := ih (i + 1) n _ c2 _ g2 hd' (by omega) (by simp; omega) k m
      refine ⟨d, H', ?_, by simpa [encFs] using g3⟩
      simp only [spec_l16Files_l0, lenC_encL, idxA_encL, hx, MFile.enc, fldA_ref, Nat.zero_add, e1, e2, callS_canon, callL_canon, Option.map_some, Option.bind_some, shape_one, shape_agg, shape_nil, cellsAt_0, cellsAt_1, cellsAt_2, cellsAt_3, cells_one, cells_agg, cB_zero, cI_zero, cS_zero, cC_zero, cB_cons, cI_cons, cS_cons, cC_cons, cond_true, cond_false, List.length_cons, List.length_nil, beq_self_eq_true, Bool.and_true, Bool.true_and, lenC_encL, lenC_lst, deref_ref, emptyK_nil, bs_size, bs_toList]
      rw [decide_eq_true (by omega), cond_true, wrap_succ (by omega)]
      exact e3
  have h3 := (encT_le (numT l.length)).1
  obtain ⟨c1, E1, i1, e1, q1, w1, _⟩ := freshO (f_spec_l16Count b l.length (by omega) (by omega)) [] (mapO_canon [.one (bytesC b), .one (Cell.int l.length)] _ _)
  obtain ⟨d, H', e2, is, r1, r2⟩ := loop l 0 (l.length + 1 + 1) (b ++ encT (numT l.length)) c1 _ ⟨i1, q1, w1.nd⟩ rfl (by omega) (by simp; omega) (l.length + 1 + 1) (l.length + 1 + 1)
  rw [show (b ++ encT (numT l.length)) ++ encFs l = b ++ encFiles l by simp [encFiles]] at r1
  refine Fresh.one (run_spec_l16Files_of (l.length + 1) ?_) r1 r2
  rw [show ((0 : Nat) : Int) = 0 from rfl] at e2
  simp only [spec_l16Files, lenC_encL, e1, e2, callS_canon, callL_canon, Option.map_some, Option.bind_some, shape_one, shape_agg, shape_nil, cellsAt_0, cellsAt_1, cellsAt_2, cellsAt_3, cells_one, cells_agg, cB_zero, cI_zero, cS_zero, cC_zero, cB_cons, cI_cons, cS_cons, cC_cons, cond_true, cond_false, List.length_cons, List.length_nil, beq_self_eq_true, Bool.and_true, Bool.true_and, lenC_encL, lenC_lst, deref_ref, emptyK_nil, bs_size, bs_toList]
theorem g_spec_l16Files {H : List Entry} {c : Cell} {b : Str} (h : BytM H c b) (l : List MFile) (hb : b.length ≤ 4398046511104) (hl : bdL 1048576 (MFile.Bd 1048576) l) : ∃ d E, callF run_spec_l16Files [.one c, .one (encL 2 MFile.enc l)] H = some ([.one d], H ++ E) ∧ BytM (H ++ E) d (b ++ encFiles l) := by
  obtain ⟨d, E, is, e1, r1, w1, _⟩ := freshO (f_spec_l16Files b l hb hl) H (mapO_c h.read (mapO_canon [.one (encL 2 MFile.enc l)] _ _))
  exact ⟨d, E, e1, is, r1, w1.nd⟩
theorem g_impl_putFiles {c : Cell} {H : List Entry} {b : Str} (h : Grow 1 c H (b.map eByte)) (l : List MFile) (hb : b.length ≤ 4398046511104) (hl : bdL 1048576 (MFile.Bd 1048576) l) :
    ∃ p : Cell × List Entry, run_impl_putFiles [.one c, .one (encL 2 MFile.enc l)] H = some ([.one p.1], p.2) ∧ Grow 1 p.1 p.2 ((b ++ encFiles l).map eByte) := by
  have hM := maxLen_eq
  have hxl := hl.1
  have loop : ∀ (r : List MFile) (i n : Nat) (b : Str) (c : Cell) (H : List Entry), Grow 1 c H (b.map eByte) → l.drop i = r → r.length < n → b.length + 120004 * r.length ≤ 8796093022208 → ∀ k m,
      ∃ p : Cell × List Entry, impl_putFiles_l0 k m n c (encL 2 MFile.enc l) l.length i H = some ([.one p.1], p.2) ∧ Grow 1 p.1 p.2 ((b ++ encFs r).map eByte) := by
    intro r
    induction r with
    | nil =>
      intro i n b c H h hd hn hc k m
      obtain ⟨n, rfl⟩ : ∃ j, n = j + 1 := ⟨n - 1, by omega⟩
      have := drop_nil hd
      refine ⟨(c, H), ?_, by simpa [encFs] using h⟩
      simp only [impl_putFiles_l0]
      rw [decide_eq_false (by omega), cond_false]
    | cons f r ih =>
      intro i n b c H h hd hn hc k m
      obtain ⟨n, rfl⟩ : ∃ j, n = j + 1 := ⟨n - 1, by omega⟩
      obtain ⟨hlt, hx, hd'⟩ := drop_cons hd
      simp only [List.length_cons] at hn hc
      have hf := hl.2 f (List.mem_of_getElem? hx)
      have h1 := (encT_le f.Path).1
      have h2 := (encT_le f.Text).1
      have k1 : f.Path.length ≤ 1048576 := hf.1
      have k2 : f.Text.length ≤ 1048576 := hf.2
      obtain ⟨p, e1, g1⟩ := g_impl_putText h f.Path (by omega) (by omega)
      obtain ⟨q, e2, g2⟩ := g_impl_putText g1 f.Text (by simp; omega) (by omega)
      obtain ⟨z, e3, g3⟩ := ih (i + 1) n _ q.1 q.2 g2 hd' (by omega) (by simp; omega) k m
      refine ⟨z, ?_, by simpa [encFs] using g3⟩
      simp only [impl_putFiles_l0, idxA_encL, hx, MFile.enc, e1, e2, callS_canon, callL_canon, Option.map_some, Option.bind_some, shape_one, shape_agg, shape_nil, cellsAt_0, cellsAt_1, cellsAt_2, cellsAt_3, cells_one, cells_agg, cB_zero, cI_zero, cS_zero, cC_zero, cB_cons, cI_cons, cS_cons, cC_cons, cond_true, cond_false, List.length_cons, List.length_nil, beq_self_eq_true, Bool.and_true, Bool.true_and, lenC_encL, lenC_lst, deref_ref, emptyK_nil, bs_size, bs_toList]
      rw [decide_eq_true (by omega), cond_true, wrap_succ (by omega)]
      exact e3
  have h3 := (encT_le (numT l.length)).1
  obtain ⟨p, e1, g1⟩ := g_impl_putText h (numT l.length) (by omega) (by have := numT_le l.length (by omega); omega)
  obtain ⟨q, e2, g2⟩ := loop l 0 (l.length + 1 + 1) _ p.1 p.2 g1 rfl (by omega) (by simp; omega) (l.length + 1 + 1) (l.length + 1 + 1)
  refine ⟨q, run_impl_putFiles_of (l.length + 1) ?_, by simpa [encFiles] using g2⟩
  rw [show ((0 : Nat) : Int) = 0 from rfl] at e2
  simp only [impl_putFiles, lenC_encL, c_impl_NumText l.length (by omega), e1, e2, callS_canon, callL_canon, Option.map_some, Option.bind_some, shape_one, shape_agg, shape_nil, cellsAt_0, cellsAt_1, cellsAt_2, cellsAt_3, cells_one, cells_agg, cB_zero, cI_zero, cS_zero, cC_zero, cB_cons, cI_cons, cS_cons, cC_cons, cond_true, cond_false, List.length_cons, List.length_nil, beq_self_eq_true, Bool.and_true, Bool.true_and, lenC_encL, lenC_lst, deref_ref, emptyK_nil, bs_size, bs_toList]
theorem Grow.at {sz : Nat} {c : Cell} {H : List Entry} {rows : List (List Cell)} {i : Nat} {row : List Cell} (h : Grow sz c H rows) (hr : rows[i]? = some row) : ∃ a, idxA sz c (i : Int) = some a ∧ deref H a = some (row, 0) := by
  have hlt := (List.getElem?_eq_some_iff.1 hr).1
  rcases h with ⟨rfl, _, _⟩ | ⟨ep, rfl, rfl⟩
  · simp at hr
  · exact ⟨.ptr 0 sz i 0 ep, idxA_vs _ _ _ _ _ hlt, by simp [deref, entry?, hr]⟩
theorem Grow.len {sz : Nat} {c : Cell} {H : List Entry} {rows : List (List Cell)} (h : Grow sz c H rows) : lenC c = some rows.length := by
  rcases h with ⟨rfl, rfl, _⟩ | ⟨ep, rfl, rfl⟩ <;> rfl
def sumB (b : Str) : Nat := (b.map UInt8.toNat).sum
theorem sumB_le (b : Str) : sumB b ≤ 255 * b.length := by
  induction b with
  | nil => simp [sumB]
  | cons x b ih =>
    have := x.toNat_lt
    simp only [sumB, List.map_cons, List.sum_cons, List.length_cons] at ih ⊢
    omega
theorem b16_mod (n : Nat) : b16 (n % 65536) = b16 n := by
  unfold b16
  have h1 : UInt8.ofNat (n % 65536 / 256) = UInt8.ofNat (n / 256) := by
    apply UInt8.toNat_inj.1
    simp only [UInt8.toNat_ofNat']
    omega
  have h2 : UInt8.ofNat (n % 65536) = UInt8.ofNat n := by
    apply UInt8.toNat_inj.1
    simp only [UInt8.toNat_ofNat']
    omega
  rw [h1, h2]
def encActs (l : List Str) : Str := l.flatMap encT
def encEnvs (l : List MEnv) : Str := l.flatMap fun e => encT e.Name ++ encT e.Val
def encDeps (l : List MMade) : Str := l.flatMap fun m => encT m.Task ++ encT m.Log ++ encFiles m.Outs
def m_KeyOf (j : MJob) : Str := encT j.Name ++ encT (numT j.Acts.length) ++ encActs j.Acts ++ encFiles j.Ins ++ encT (numT j.Envs.length) ++ encEnvs j.Envs ++ encT (numT j.Deps.length) ++ encDeps j.Deps
theorem encActs_le (l : List Str) : (encActs l).length ≤ 60002 * l.length := by
  induction l with
  | nil => simp [encActs]
  | cons f l ih =>
    have h1 := (encT_le f).1
    simp only [encActs, List.flatMap_cons, List.length_append, List.length_cons] at ih ⊢
    omega
theorem encEnvs_le (l : List MEnv) : (encEnvs l).length ≤ 120004 * l.length := by
  induction l with
  | nil => simp [encEnvs]
  | cons f l ih =>
    have h1 := (encT_le f.Name).1
    have h2 := (encT_le f.Val).1
    simp only [encEnvs, List.flatMap_cons, List.length_append, List.length_cons] at ih ⊢
    omega
theorem encDeps_le (l : List MMade) : (encDeps l).length ≤ 180006 * wtL MMade.wt l := by
  induction l with
  | nil => simp [encDeps]
  | cons f l ih =>
    have h1 := (encT_le f.Task).1
    have h2 := (encT_le f.Log).1
    have h3 := encFiles_le f.Outs
    have h4 : f.Outs.length ≤ f.wt := by simp only [MMade.wt, wtL]; omega
    simp only [encDeps, List.flatMap_cons, List.length_append, wtL, List.length_cons, List.map_cons, List.sum_cons] at ih ⊢
    omega
theorem m_KeyOf_le (j : MJob) (hj : j.Bd 1048576) (hw : j.wt ≤ 1048576) : (encT j.Name ++ encT (numT j.Acts.length) ++ encActs j.Acts ++ encFiles j.Ins ++ encT (numT j.Envs.length) ++ encEnvs j.Envs ++ encT (numT j.Deps.length)).length ≤ 549755813888 ∧ (encDeps j.Deps).length ≤ 274877906944 := by
  have h1 := (encT_le j.Name).1
  have h2 := (encT_le (numT j.Acts.length)).1
  have h3 := encActs_le j.Acts
  have h4 := encFiles_le j.Ins
  have h5 := (encT_le (numT j.Envs.length)).1
  have h6 := encEnvs_le j.Envs
  have h7 := (encT_le (numT j.Deps.length)).1
  have h8 := encDeps_le j.Deps
  have g1 := hj.2.1.1
  have g2 := hj.2.2.1.1
  have g3 := hj.2.2.2.1.1
  have g4 : wtL MMade.wt j.Deps ≤ j.wt := by simp only [MJob.wt]; omega
  simp only [List.length_append]
  omega
theorem b_KeyOf (j : MJob) (hj : j.Bd 1048576) (hw : j.wt ≤ 1048576) : bdS 1099511627776 (m_KeyOf j) := by
  have := m_KeyOf_le j hj hw
  unfold bdS m_KeyOf
  rw [List.length_append]
  omega
theorem cnt_KeyOf (j : MJob) (hj : j.Bd 1048576) (hw : j.wt ≤ 1048576) : cntL one1 (m_KeyOf j) ≤ 1099511627776 := by
  rw [cntL_one1]
  exact b_KeyOf j hj hw
theorem c_spec_KeyOf (j : MJob) (hj : j.Bd 1048576) (hw : j.wt ≤ 1048576) : outL run_spec_KeyOf [.agg [Cell.str (bs j.Name), strsC j.Acts, encL 2 MFile.enc j.Ins, encL 2 MEnv.enc j.Envs, encL 3 MMade.enc j.Deps]] = some [.one (bytesC (m_KeyOf j))] := by
  have hM := maxLen_eq
  have hle := m_KeyOf_le j hj hw
  obtain ⟨b0, b1, b2, b3, b4⟩ := hj
  have k0 : j.Name.length ≤ 1048576 := b0
  have k1 := b1.1
  have k2 := b2.1
  have k3 := b3.1
  have k4 := b4.1
  simp only [List.length_append] at hle
  let M := j.Acts.length + j.Envs.length + j.Deps.length + 1
  have L2 : ∀ (r : List MMade) (i n : Nat) (b : Str) (c : Cell) (H : List Entry), BytM H c b → j.Deps.drop i = r → r.length < n → b.length + 180006 * wtL MMade.wt r ≤ 1099511627776 → ∀ k m,
      ∃ d H', spec_KeyOf_l2 k m n c i (bs j.Name) (strsC j.Acts) (encL 2 MFile.enc j.Ins) (encL 2 MEnv.enc j.Envs) (encL 3 MMade.enc j.Deps) H = some ([.one d], H') ∧ BytM H' d (b ++ encDeps r) := by
    intro r
    induction r with
    | nil =>
      intro i n b c H h hd hn hc k m
      obtain ⟨n, rfl⟩ : ∃ j, n = j + 1 := ⟨n - 1, by omega⟩
      have := drop_nil hd
      refine ⟨c, H, ?_, by simpa [encDeps] using h⟩
      simp only [spec_KeyOf_l2, lenC_encL, Option.bind_some]
      rw [decide_eq_false (by omega), cond_false]
    | cons f r ih =>
      intro i n b c H h hd hn hc k m
      obtain ⟨n, rfl⟩ : ∃ j, n = j + 1 := ⟨n - 1, by omega⟩
      obtain ⟨hlt, hx, hd'⟩ := drop_cons hd
      simp only [List.length_cons, wtL, List.map_cons, List.sum_cons] at hn hc
      have hf := b4.2 f (List.mem_of_getElem? hx)
      have h1 := (encT_le f.Task).1
      have h2 := (encT_le f.Log).1
      have h3 := encFiles_le f.Outs
      have h4 : f.Outs.length ≤ f.wt := by simp only [MMade.wt, wtL]; omega
      have q1 : f.Task.length ≤ 1048576 := hf.1
      have q2 : f.Log.length ≤ 1048576 := hf.2.2
      obtain ⟨c1, E1, e1, g1⟩ := g_spec_PutText h f.Task (by omega) (by omega)
      obtain ⟨c2, E2, e2, g2⟩ := g_spec_PutText g1 f.Log (by simp; omega) (by omega)
      obtain ⟨c3, E3, e3, g3⟩ := g_spec_l16Files g2 f.Outs (by simp; omega) hf.2.1
      obtain ⟨d, H', e4, g4⟩ := ih (i + 1) n _ c3 _ g3 hd' (by omega) (by simp only [List.length_append, wtL]; omega) k m
      refine ⟨d, H', ?_, by simpa [encDeps] using g4⟩
      simp only [spec_KeyOf_l2, lenC_encL, idxA_encL, hx, MMade.enc, fldA_ref, Nat.zero_add, e1, e2, e3, callS_canon, callL_canon, Option.map_some, Option.bind_some, shape_one, shape_agg, shape_nil, cellsAt_0, cellsAt_1, cellsAt_2, cellsAt_3, cells_one, cells_agg, cB_zero, cI_zero, cS_zero, cC_zero, cB_cons, cI_cons, cS_cons, cC_cons, cond_true, cond_false, List.length_cons, List.length_nil, beq_self_eq_true, Bool.and_true, Bool.true_and, lenC_encL, lenC_lst, deref_ref, emptyK_nil, bs_size, bs_toList]
      rw [decide_eq_true (by omega), cond_true, wrap_succ (by omega)]
      exact e4
  have L1 : ∀ (r : List MEnv) (i n : Nat) (b : Str) (c : Cell) (H : List Entry), BytM H c b → j.Envs.drop i = r → r.length < n → b.length + 120004 * r.length + 60002 + 180006 * wtL MMade.wt j.Deps ≤ 1099511627776 → ∀ k m, j.Deps.length < m →
      ∃ d H', spec_KeyOf_l1 k m n c i (bs j.Name) (strsC j.Acts) (encL 2 MFile.enc j.Ins) (encL 2 MEnv.enc j.Envs) (encL 3 MMade.enc j.Deps) H = some ([.one d], H') ∧ BytM H' d (b ++ (encEnvs r ++ (encT (numT j.Deps.length) ++ encDeps j.Deps))) := by
    intro r
    induction r with
    | nil =>
      intro i n b c H h hd hn hc k m hm
      obtain ⟨n, rfl⟩ : ∃ j, n = j + 1 := ⟨n - 1, by omega⟩
      have := drop_nil hd
      have h1 := (encT_le (numT j.Deps.length)).1
      obtain ⟨c1, E1, e1, g1⟩ := g_spec_l16Count h j.Deps.length (by omega) (by omega)
      obtain ⟨d, H', e2, g2⟩ := L2 j.Deps 0 m _ c1 _ g1 rfl hm (by simp only [List.length_append, List.length_nil] at hc ⊢; omega) k m
      refine ⟨d, H', ?_, by simpa [encEnvs] using g2⟩
      simp only [spec_KeyOf_l1, lenC_encL, e1, callS_canon, callL_canon, Option.map_some, Option.bind_some, shape_one, shape_agg, shape_nil, cellsAt_0, cellsAt_1, cellsAt_2, cellsAt_3, cells_one, cells_agg, cB_zero, cI_zero, cS_zero, cC_zero, cB_cons, cI_cons, cS_cons, cC_cons, cond_true, cond_false, List.length_cons, List.length_nil, beq_self_eq_true, Bool.and_true, Bool.true_and, lenC_encL, lenC_lst, deref_ref, emptyK_nil, bs_size, bs_toList]
      rw [decide_eq_false (by omega), cond_false]
      exact e2
    | cons f r ih =>
      intro i n b c H h hd hn hc k m hm
      obtain ⟨n, rfl⟩ : ∃ j, n = j + 1 := ⟨n - 1, by omega⟩
      obtain ⟨hlt, hx, hd'⟩ := drop_cons hd
      simp only [List.length_cons] at hn hc
      have hf := b3.2 f (List.mem_of_getElem? hx)
      have h1 := (encT_le f.Name).1
      have h2 := (encT_le f.Val).1
      have q1 : f.Name.length ≤ 1048576 := hf.1
      have q2 : f.Val.length ≤ 1048576 := hf.2
      obtain ⟨c1, E1, e1, g1⟩ := g_spec_PutText h f.Name (by omega) (by omega)
      obtain ⟨c2, E2, e2, g2⟩ := g_spec_PutText g1 f.Val (by simp; omega) (by omega)
      obtain ⟨d, H', e4, g4⟩ := ih (i + 1) n _ c2 _ g2 hd' (by omega) (by simp only [List.length_append]; omega) k m hm
      refine ⟨d, H', ?_, by simpa [encEnvs] using g4⟩
      simp only [spec_KeyOf_l1, lenC_encL, idxA_encL, hx, MEnv.enc, fldA_ref, Nat.zero_add, e1, e2, callS_canon, callL_canon, Option.map_some, Option.bind_some, shape_one, shape_agg, shape_nil, cellsAt_0, cellsAt_1, cellsAt_2, cellsAt_3, cells_one, cells_agg, cB_zero, cI_zero, cS_zero, cC_zero, cB_cons, cI_cons, cS_cons, cC_cons, cond_true, cond_false, List.length_cons, List.length_nil, beq_self_eq_true, Bool.and_true, Bool.true_and, lenC_encL, lenC_lst, deref_ref, emptyK_nil, bs_size, bs_toList]
      rw [decide_eq_true (by omega), cond_true, wrap_succ (by omega)]
      exact e4
  have L0 : ∀ (r : List Str) (i n : Nat) (b : Str) (c : Cell) (H : List Entry), BytM H c b → j.Acts.drop i = r → r.length < n → b.length + 60002 * r.length + 120004 * j.Ins.length + 60002 + 60002 + 120004 * j.Envs.length + 60002 + 180006 * wtL MMade.wt j.Deps ≤ 1099511627776 → ∀ k m, j.Envs.length < m → j.Deps.length < m →
      ∃ d H', spec_KeyOf_l0 k m n c i (bs j.Name) (strsC j.Acts) (encL 2 MFile.enc j.Ins) (encL 2 MEnv.enc j.Envs) (encL 3 MMade.enc j.Deps) H = some ([.one d], H') ∧ BytM H' d (b ++ (encActs r ++ (encFiles j.Ins ++ (encT (numT j.Envs.length) ++ (encEnvs j.Envs ++ (encT (numT j.Deps.length) ++ encDeps j.Deps)))))) := by
    intro r
    induction r with
    | nil =>
      intro i n b c H h hd hn hc k m hm hm2
      obtain ⟨n, rfl⟩ : ∃ j, n = j + 1 := ⟨n - 1, by omega⟩
      have := drop_nil hd
      have h1 := (encT_le (numT j.Envs.length)).1
      have h2 := encFiles_le j.Ins
      simp only [List.length_nil] at hc
      obtain ⟨c0, E0, e0, g0⟩ := g_spec_l16Files h j.Ins (by omega) b2
      obtain ⟨c1, E1, e1, g1⟩ := g_spec_l16Count g0 j.Envs.length (by simp only [List.length_append]; omega) (by omega)
      obtain ⟨d, H', e2, g2⟩ := L1 j.Envs 0 m _ c1 _ g1 rfl hm (by simp only [List.length_append]; omega) k m hm2
      refine ⟨d, H', ?_, by simpa [encActs] using g2⟩
      simp only [spec_KeyOf_l0, lenC_encL, e0, e1, callS_canon, callL_canon, Option.map_some, Option.bind_some, shape_one, shape_agg, shape_nil, cellsAt_0, cellsAt_1, cellsAt_2, cellsAt_3, cells_one, cells_agg, cB_zero, cI_zero, cS_zero, cC_zero, cB_cons, cI_cons, cS_cons, cC_cons, cond_true, cond_false, List.length_cons, List.length_nil, beq_self_eq_true, Bool.and_true, Bool.true_and, lenC_encL, lenC_lst, deref_ref, emptyK_nil, bs_size, bs_toList]
      rw [decide_eq_false (by omega), cond_false]
      exact e2
    | cons f r ih =>
      intro i n b c H h hd hn hc k m hm hm2
      obtain ⟨n, rfl⟩ : ∃ j, n = j + 1 := ⟨n - 1, by omega⟩
      obtain ⟨hlt, hx, hd'⟩ := drop_cons hd
      simp only [List.length_cons] at hn hc
      have q1 : f.length ≤ 1048576 := b1.2 f (List.mem_of_getElem? hx)
      have h1 := (encT_le f).1
      obtain ⟨c1, E1, e1, g1⟩ := g_spec_PutText h f (by omega) (by omega)
      obtain ⟨d, H', e4, g4⟩ := ih (i + 1) n _ c1 _ g1 hd' (by omega) (by simp only [List.length_append]; omega) k m hm hm2
      refine ⟨d, H', ?_, by simpa [encActs] using g4⟩
      simp only [spec_KeyOf_l0, lenC_encL, idxA_encL, hx, eStr, e1, callS_canon, callL_canon, Option.map_some, Option.bind_some, shape_one, shape_agg, shape_nil, cellsAt_0, cellsAt_1, cellsAt_2, cellsAt_3, cells_one, cells_agg, cB_zero, cI_zero, cS_zero, cC_zero, cB_cons, cI_cons, cS_cons, cC_cons, cond_true, cond_false, List.length_cons, List.length_nil, beq_self_eq_true, Bool.and_true, Bool.true_and, lenC_encL, lenC_lst, deref_ref, emptyK_nil, bs_size, bs_toList]
      rw [decide_eq_true (by omega), cond_true, wrap_succ (by omega)]
      exact e4
  have g4 : wtL MMade.wt j.Deps ≤ j.wt := by simp only [MJob.wt]; omega
  have h1 := (encT_le j.Name).1
  have h2 := (encT_le (numT j.Acts.length)).1
  obtain ⟨c1, E1, e1, g1⟩ := g_spec_PutText (BytM.nil []) j.Name (by simp) (by omega)
  obtain ⟨c2, E2, e2, g2⟩ := g_spec_l16Count g1 j.Acts.length (by simp; omega) (by omega)
  obtain ⟨d, H', e3, g3⟩ := L0 j.Acts 0 (M + 1) _ c2 _ g2 rfl (by omega) (by simp only [List.nil_append, List.length_append]; omega) (M + 1) (M + 1) (by omega) (by omega)
  rw [show [] ++ encT j.Name ++ encT (numT j.Acts.length) ++ (encActs j.Acts ++ (encFiles j.Ins ++ (encT (numT j.Envs.length) ++ (encEnvs j.Envs ++ (encT (numT j.Deps.length) ++ encDeps j.Deps))))) = m_KeyOf j by simp [m_KeyOf]] at g3
  refine outL_of (run_spec_KeyOf_of M ?_) (mapO_c g3.read (mapO_nil' _))
  rw [show ((0 : Nat) : Int) = 0 from rfl] at e3
  simp only [spec_KeyOf, lenC_encL, e1, e2, callS_canon, callL_canon, Option.map_some, Option.bind_some, shape_one, shape_agg, shape_nil, cellsAt_0, cellsAt_1, cellsAt_2, cellsAt_3, cells_one, cells_agg, cB_zero, cI_zero, cS_zero, cC_zero, cB_cons, cI_cons, cS_cons, cC_cons, cond_true, cond_false, List.length_cons, List.length_nil, beq_self_eq_true, Bool.and_true, Bool.true_and, lenC_encL, lenC_lst, deref_ref, emptyK_nil, bs_size, bs_toList]
  exact e3
theorem f_impl_KeyOf (j : MJob) (hj : j.Bd 1048576) (hw : j.wt ≤ 1048576) : Fresh run_impl_KeyOf true 2 [.agg [Cell.str (bs j.Name), strsC j.Acts, encL 2 MFile.enc j.Ins, encL 2 MEnv.enc j.Envs, encL 3 MMade.enc j.Deps]] [.one (trL 1 trByte (m_KeyOf j))] := by
  have hM := maxLen_eq
  have hle := m_KeyOf_le j hj hw
  obtain ⟨b0, b1, b2, b3, b4⟩ := hj
  have k0 : j.Name.length ≤ 1048576 := b0
  have k1 := b1.1
  have k2 := b2.1
  have k3 := b3.1
  have k4 := b4.1
  simp only [List.length_append] at hle
  let M := j.Acts.length + j.Envs.length + j.Deps.length + 1
  have L2 : ∀ (r : List MMade) (i n : Nat) (b : Str) (c : Cell) (H : List Entry), Grow 1 c H (b.map eByte) → j.Deps.drop i = r → r.length < n → b.length + 180006 * wtL MMade.wt r ≤ 1099511627776 → ∀ k m,
      ∃ p : Cell × List Entry, impl_KeyOf_l2 k m n c (encL 3 MMade.enc j.Deps) j.Deps.length i H = some ([.one p.1], p.2) ∧ Grow 1 p.1 p.2 ((b ++ encDeps r).map eByte) := by
    intro r
    induction r with
    | nil =>
      intro i n b c H h hd hn hc k m
      obtain ⟨n, rfl⟩ : ∃ j, n = j + 1 := ⟨n - 1, by omega⟩
      have := drop_nil hd
      refine ⟨(c, H), ?_, by simpa [encDeps] using h⟩
      simp only [impl_KeyOf_l2, lenC_encL, Option.bind_some]
      rw [decide_eq_false (by omega), cond_false]
    | cons f r ih =>
      intro i n b c H h hd hn hc k m
      obtain ⟨n, rfl⟩ : ∃ j, n = j + 1 := ⟨n - 1, by omega⟩
      obtain ⟨hlt, hx, hd'⟩ := drop_cons hd
      simp only [List.length_cons, wtL, List.map_cons, List.sum_cons] at hn hc
      have hf := b4.2 f (List.mem_of_getElem? hx)
      have h1 := (encT_le f.Task).1
      have h2 := (encT_le f.Log).1
      have h3 := encFiles_le f.Outs
      have h4 : f.Outs.length ≤ f.wt := by simp only [MMade.wt, wtL]; omega
      have q1 : f.Task.length ≤ 1048576 := hf.1
      have q2 : f.Log.length ≤ 1048576 := hf.2.2
      obtain ⟨p1, e1, g1⟩ := g_impl_putText h f.Task (by omega) (by omega)
      obtain ⟨p2, e2, g2⟩ := g_impl_putText g1 f.Log (by simp; omega) (by omega)
      obtain ⟨p3, e3, g3⟩ := g_impl_putFiles g2 f.Outs (by simp; omega) hf.2.1
      obtain ⟨p, e4, g4⟩ := ih (i + 1) n _ p3.1 p3.2 g3 hd' (by omega) (by simp only [List.length_append, wtL]; omega) k m
      refine ⟨p, ?_, by simpa [encDeps] using g4⟩
      simp only [impl_KeyOf_l2, lenC_encL, idxA_encL, hx, MMade.enc, fldA_ref, Nat.zero_add, e1, e2, e3, callS_canon, callL_canon, Option.map_some, Option.bind_some, shape_one, shape_agg, shape_nil, cellsAt_0, cellsAt_1, cellsAt_2, cellsAt_3, cells_one, cells_agg, cB_zero, cI_zero, cS_zero, cC_zero, cB_cons, cI_cons, cS_cons, cC_cons, cond_true, cond_false, List.length_cons, List.length_nil, beq_self_eq_true, Bool.and_true, Bool.true_and, lenC_encL, lenC_lst, deref_ref, emptyK_nil, bs_size, bs_toList]
      rw [decide_eq_true (by omega), cond_true, wrap_succ (by omega)]
      exact e4
  have L1 : ∀ (r : List MEnv) (i n : Nat) (b : Str) (c : Cell) (H : List Entry), Grow 1 c H (b.map eByte) → j.Envs.drop i = r → r.length < n → b.length + 120004 * r.length + 60002 + 180006 * wtL MMade.wt j.Deps ≤ 1099511627776 → ∀ k m, j.Deps.length < m →
      ∃ p : Cell × List Entry, impl_KeyOf_l1 k m n c (encL 2 MEnv.enc j.Envs) j.Envs.length i (bs j.Name) (strsC j.Acts) (encL 2 MFile.enc j.Ins) (encL 2 MEnv.enc j.Envs) (encL 3 MMade.enc j.Deps) H = some ([.one p.1], p.2) ∧ Grow 1 p.1 p.2 ((b ++ (encEnvs r ++ (encT (numT j.Deps.length) ++ encDeps j.Deps))).map eByte) := by
    intro r
    induction r with
    | nil =>
      intro i n b c H h hd hn hc k m hm
      obtain ⟨n, rfl⟩ : ∃ j, n = j + 1 := ⟨n - 1, by omega⟩
      have := drop_nil hd
      have h1 := (encT_le (numT j.Deps.length)).1
      obtain ⟨p1, e1, g1⟩ := g_impl_putText h (numT j.Deps.length) (by omega) (numT_30 _ (by omega))
      obtain ⟨p, e2, g2⟩ := L2 j.Deps 0 m _ p1.1 p1.2 g1 rfl hm (by simp only [List.length_append, List.length_nil] at hc ⊢; omega) k m
      refine ⟨p, ?_, by simpa [encEnvs] using g2⟩
      simp only [impl_KeyOf_l1, lenC_encL, c_impl_NumText j.Deps.length (by omega), e1, callS_canon, callL_canon, Option.map_some, Option.bind_some, shape_one, shape_agg, shape_nil, cellsAt_0, cellsAt_1, cellsAt_2, cellsAt_3, cells_one, cells_agg, cB_zero, cI_zero, cS_zero, cC_zero, cB_cons, cI_cons, cS_cons, cC_cons, cond_true, cond_false, List.length_cons, List.length_nil, beq_self_eq_true, Bool.and_true, Bool.true_and, lenC_encL, lenC_lst, deref_ref, emptyK_nil, bs_size, bs_toList]
      rw [decide_eq_false (by omega), cond_false]
      exact e2
    | cons f r ih =>
      intro i n b c H h hd hn hc k m hm
      obtain ⟨n, rfl⟩ : ∃ j, n = j + 1 := ⟨n - 1, by omega⟩
      obtain ⟨hlt, hx, hd'⟩ := drop_cons hd
      simp only [List.length_cons] at hn hc
      have hf := b3.2 f (List.mem_of_getElem? hx)
      have h1 := (encT_le f.Name).1
      have h2 := (encT_le f.Val).1
      have q1 : f.Name.length ≤ 1048576 := hf.1
      have q2 : f.Val.length ≤ 1048576 := hf.2
      obtain ⟨p1, e1, g1⟩ := g_impl_putText h f.Name (by omega) (by omega)
      obtain ⟨p2, e2, g2⟩ := g_impl_putText g1 f.Val (by simp; omega) (by omega)
      obtain ⟨p, e4, g4⟩ := ih (i + 1) n _ p2.1 p2.2 g2 hd' (by omega) (by simp only [List.length_append]; omega) k m hm
      refine ⟨p, ?_, by simpa [encEnvs] using g4⟩
      simp only [impl_KeyOf_l1, lenC_encL, idxA_encL, hx, MEnv.enc, fldA_ref, Nat.zero_add, e1, e2, callS_canon, callL_canon, Option.map_some, Option.bind_some, shape_one, shape_agg, shape_nil, cellsAt_0, cellsAt_1, cellsAt_2, cellsAt_3, cells_one, cells_agg, cB_zero, cI_zero, cS_zero, cC_zero, cB_cons, cI_cons, cS_cons, cC_cons, cond_true, cond_false, List.length_cons, List.length_nil, beq_self_eq_true, Bool.and_true, Bool.true_and, lenC_encL, lenC_lst, deref_ref, emptyK_nil, bs_size, bs_toList]
      rw [decide_eq_true (by omega), cond_true, wrap_succ (by omega)]
      exact e4
  have L0 : ∀ (r : List Str) (i n : Nat) (b : Str) (c : Cell) (H : List Entry), Grow 1 c H (b.map eByte) → j.Acts.drop i = r → r.length < n → b.length + 60002 * r.length + 120004 * j.Ins.length + 60002 + 60002 + 120004 * j.Envs.length + 60002 + 180006 * wtL MMade.wt j.Deps ≤ 1099511627776 → ∀ k m, j.Envs.length < m → j.Deps.length < m →
      ∃ p : Cell × List Entry, impl_KeyOf_l0 k m n c (strsC j.Acts) j.Acts.length i (bs j.Name) (strsC j.Acts) (encL 2 MFile.enc j.Ins) (encL 2 MEnv.enc j.Envs) (encL 3 MMade.enc j.Deps) H = some ([.one p.1], p.2) ∧ Grow 1 p.1 p.2 ((b ++ (encActs r ++ (encFiles j.Ins ++ (encT (numT j.Envs.length) ++ (encEnvs j.Envs ++ (encT (numT j.Deps.length) ++ encDeps j.Deps)))))).map eByte) := by
    intro r
    induction r with
    | nil =>
      intro i n b c H h hd hn hc k m hm hm2
      obtain ⟨n, rfl⟩ : ∃ j, n = j + 1 := ⟨n - 1, by omega⟩
      have := drop_nil hd
      have h1 := (encT_le (numT j.Envs.length)).1
      have h2 := encFiles_le j.Ins
      simp only [List.length_nil] at hc
      obtain ⟨p0, e0, g0⟩ := g_impl_putFiles h j.Ins (by omega) b2
      obtain ⟨p1, e1, g1⟩ := g_impl_putText g0 (numT j.Envs.length) (by simp only [List.length_append]; omega) (numT_30 _ (by omega))
      obtain ⟨p, e2, g2⟩ := L1 j.Envs 0 m _ p1.1 p1.2 g1 rfl hm (by simp only [List.length_append]; omega) k m hm2
      refine ⟨p, ?_, by simpa [encActs] using g2⟩
      simp only [impl_KeyOf_l0, lenC_encL, c_impl_NumText j.Envs.length (by omega), e0, e1, callS_canon, callL_canon, Option.map_some, Option.bind_some, shape_one, shape_agg, shape_nil, cellsAt_0, cellsAt_1, cellsAt_2, cellsAt_3, cells_one, cells_agg, cB_zero, cI_zero, cS_zero, cC_zero, cB_cons, cI_cons, cS_cons, cC_cons, cond_true, cond_false, List.length_cons, List.length_nil, beq_self_eq_true, Bool.and_true, Bool.true_and, lenC_encL, lenC_lst, deref_ref, emptyK_nil, bs_size, bs_toList]
      rw [decide_eq_false (by omega), cond_false]
      exact e2
    | cons f r ih =>
      intro i n b c H h hd hn hc k m hm hm2
      obtain ⟨n, rfl⟩ : ∃ j, n = j + 1 := ⟨n - 1, by omega⟩
      obtain ⟨hlt, hx, hd'⟩ := drop_cons hd
      simp only [List.length_cons] at hn hc
      have q1 : f.length ≤ 1048576 := b1.2 f (List.mem_of_getElem? hx)
      have h1 := (encT_le f).1
      obtain ⟨p1, e1, g1⟩ := g_impl_putText h f (by omega) (by omega)
      obtain ⟨p, e4, g4⟩ := ih (i + 1) n _ p1.1 p1.2 g1 hd' (by omega) (by simp only [List.length_append]; omega) k m hm hm2
      refine ⟨p, ?_, by simpa [encActs] using g4⟩
      simp only [impl_KeyOf_l0, lenC_encL, idxA_encL, hx, eStr, e1, callS_canon, callL_canon, Option.map_some, Option.bind_some, shape_one, shape_agg, shape_nil, cellsAt_0, cellsAt_1, cellsAt_2, cellsAt_3, cells_one, cells_agg, cB_zero, cI_zero, cS_zero, cC_zero, cB_cons, cI_cons, cS_cons, cC_cons, cond_true, cond_false, List.length_cons, List.length_nil, beq_self_eq_true, Bool.and_true, Bool.true_and, lenC_encL, lenC_lst, deref_ref, emptyK_nil, bs_size, bs_toList]
      rw [decide_eq_true (by omega), cond_true, wrap_succ (by omega)]
      exact e4
  have g4 : wtL MMade.wt j.Deps ≤ j.wt := by simp only [MJob.wt]; omega
  have h1 := (encT_le j.Name).1
  have h2 := (encT_le (numT j.Acts.length)).1
  obtain ⟨p1, e1, g1⟩ := g_impl_putText (b := []) (Grow.nil 1) j.Name (by simp) (by omega)
  obtain ⟨p2, e2, g2⟩ := g_impl_putText g1 (numT j.Acts.length) (by simp; omega) (numT_30 _ (by omega))
  obtain ⟨p, e3, g3⟩ := L0 j.Acts 0 (M + 1) _ p2.1 p2.2 g2 rfl (by omega) (by simp only [List.nil_append, List.length_append]; omega) (M + 1) (M + 1) (by omega) (by omega)
  rw [show [] ++ encT j.Name ++ encT (numT j.Acts.length) ++ (encActs j.Acts ++ (encFiles j.Ins ++ (encT (numT j.Envs.length) ++ (encEnvs j.Envs ++ (encT (numT j.Deps.length) ++ encDeps j.Deps))))) = m_KeyOf j by simp [m_KeyOf]] at g3
  obtain ⟨ids, r1, r2⟩ := g3.bytes
  refine Fresh.one (run_impl_KeyOf_of M ?_) r1 r2
  rw [show ((0 : Nat) : Int) = 0 from rfl] at e3
  simp only [impl_KeyOf, lenC_encL, c_impl_NumText j.Acts.length (by omega), e1, e2, callS_canon, callL_canon, Option.map_some, Option.bind_some, shape_one, shape_agg, shape_nil, cellsAt_0, cellsAt_1, cellsAt_2, cellsAt_3, cells_one, cells_agg, cB_zero, cI_zero, cS_zero, cC_zero, cB_cons, cI_cons, cS_cons, cC_cons, cond_true, cond_false, List.length_cons, List.length_nil, beq_self_eq_true, Bool.and_true, Bool.true_and, lenC_encL, lenC_lst, deref_ref, emptyK_nil, bs_size, bs_toList]
  exact e3
end Go.Ev
