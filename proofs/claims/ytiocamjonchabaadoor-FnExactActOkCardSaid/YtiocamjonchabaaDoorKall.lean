/- What the functions come to. Conditions: none. -/
import Derived.Test.YtiocamjonchabaaDoorEvCon
set_option linter.unusedSimpArgs false
set_option linter.unusedVariables false
namespace Go.Ev
open Go
/-! names -/
def inR (x a b : Int) : Bool := decide (a ≤ x) && decide (x ≤ b)
def isSmall (b : UInt8) : Bool := inR b.toNat 97 122
def isFigure (b : UInt8) : Bool := inR b.toNat 48 57
def nameGo (first : Bool) : Str → Bool
  | [] => true
  | b :: r => (isSmall b || (!first && (isFigure b || b == 45))) && nameGo false r
def nameOk (s : Str) : Bool := nameGo true s && inR s.length 1 10
theorem u8_eq (b : UInt8) (n : Nat) (h : n < 256) : ((b.toNat : Int) == (n : Int)) = (b == UInt8.ofNat n) := by
  rw [Bool.eq_iff_iff]
  simp only [beq_iff_eq]
  constructor
  · intro e
    apply UInt8.toNat_inj.1
    have : (UInt8.ofNat n).toNat = n := by simp; omega
    omega
  · intro e
    have : (UInt8.ofNat n).toNat = n := by simp; omega
    rw [e, this]
theorem u8_ne (b : UInt8) (n : Nat) (h : n < 256) : ((b.toNat : Int) != (n : Int)) = (b != UInt8.ofNat n) := by
  simp only [bne, u8_eq b n h]
theorem u8_lt (b : UInt8) : (b.toNat : Int) < 256 := by have := b.toNat_lt; omega
theorem c_spec_l1In (x a b : Int) : out run_spec_l1In [.one (Cell.int x), .one (Cell.int a), .one (Cell.int b)] = some [.one (Cell.bool (inR x a b))] := by
  refine out_of (H := []) (run_spec_l1In_of 0 ?_)
  simp only [spec_l1In, inR]
  by_cases h : a ≤ x
  · rw [decide_eq_true (by omega : x ≥ a), cond_true, Bool.true_and]
  · rw [decide_eq_false (by omega : ¬ x ≥ a), cond_false, Bool.false_and]
theorem c_impl_inRange (x a b : Int) : out run_impl_inRange [.one (Cell.int x), .one (Cell.int a), .one (Cell.int b)] = some [.one (Cell.bool (inR x a b))] := by
  refine out_of (H := []) (run_impl_inRange_of 0 ?_)
  simp only [impl_inRange, inR]
  by_cases h : a ≤ x
  · rw [decide_eq_true (by omega : x ≥ a), cond_true, Bool.true_and]
  · rw [decide_eq_false (by omega : ¬ x ≥ a), cond_false, Bool.false_and]
theorem c_spec_l1Small (b : UInt8) : out run_spec_l1Small [.one (.sc (.int .u8 (b.toNat : Int)))] = some [.one (Cell.bool (isSmall b))] := by
  have := u8_lt b
  refine out_of (H := []) (run_spec_l1Small_of 0 ?_)
  simp only [spec_l1Small, wrap_small (n := (b.toNat : Int)) (by omega) (by omega), c_spec_l1In, callS_canon, callL_canon, Option.map_some, Option.bind_some, shape_one, shape_agg, shape_nil, cellsAt_0, cellsAt_1, cellsAt_2, cellsAt_3, cells_one, cells_agg, cB_zero, cI_zero, cS_zero, cC_zero, cB_cons, cI_cons, cS_cons, cC_cons, cond_true, cond_false, List.length_cons, List.length_nil, beq_self_eq_true, Bool.and_true, Bool.true_and, lenC_encL, lenC_lst, deref_ref, emptyK_nil, bs_size, bs_toList, isSmall]
theorem c_spec_l1Digit (b : UInt8) : out run_spec_l1Digit [.one (.sc (.int .u8 (b.toNat : Int)))] = some [.one (Cell.bool (isFigure b))] := by
  have := u8_lt b
  refine out_of (H := []) (run_spec_l1Digit_of 0 ?_)
  simp only [spec_l1Digit, wrap_small (n := (b.toNat : Int)) (by omega) (by omega), c_spec_l1In, callS_canon, callL_canon, Option.map_some, Option.bind_some, shape_one, shape_agg, shape_nil, cellsAt_0, cellsAt_1, cellsAt_2, cellsAt_3, cells_one, cells_agg, cB_zero, cI_zero, cS_zero, cC_zero, cB_cons, cI_cons, cS_cons, cC_cons, cond_true, cond_false, List.length_cons, List.length_nil, beq_self_eq_true, Bool.and_true, Bool.true_and, lenC_encL, lenC_lst, deref_ref, emptyK_nil, bs_size, bs_toList, isFigure]
theorem c_impl_isSmall (b : UInt8) : out run_impl_isSmall [.one (.sc (.int .u8 (b.toNat : Int)))] = some [.one (Cell.bool (isSmall b))] := by
  refine out_of (H := []) (run_impl_isSmall_of 0 ?_)
  simp only [impl_isSmall, isSmall, inR]
  by_cases h : (97 : Int) ≤ b.toNat
  · rw [decide_eq_true (by omega : (b.toNat : Int) ≥ 97), cond_true, Bool.true_and]
  · rw [decide_eq_false (by omega : ¬ (b.toNat : Int) ≥ 97), cond_false, Bool.false_and]
theorem c_impl_isFigure (b : UInt8) : out run_impl_isFigure [.one (.sc (.int .u8 (b.toNat : Int)))] = some [.one (Cell.bool (isFigure b))] := by
  refine out_of (H := []) (run_impl_isFigure_of 0 ?_)
  simp only [impl_isFigure, isFigure, inR]
  by_cases h : (48 : Int) ≤ b.toNat
  · rw [decide_eq_true (by omega : (b.toNat : Int) ≥ 48), cond_true, Bool.true_and]
  · rw [decide_eq_false (by omega : ¬ (b.toNat : Int) ≥ 48), cond_false, Bool.false_and]
/-! parts of a text -/
/-- The parts between which a byte stands; cur: what stands ahead already. -/
def splitGo (c : UInt8) (cur : Str) : Str → List Str
  | [] => [cur]
  | b :: r => if b = c then cur :: splitGo c [] r else splitGo c (cur ++ [b]) r
def split (c : UInt8) (s : Str) : List Str := splitGo c [] s
/-- What stands ahead of the first such byte, and behind it. -/
def ahead (c : UInt8) (s : Str) : Str := s.takeWhile (· != c)
def behind (c : UInt8) (s : Str) : Str := (s.dropWhile (· != c)).drop 1

theorem splitGo_length (c : UInt8) : ∀ (s cur : Str), (splitGo c cur s).length ≤ s.length + 1 ∧ ∀ x ∈ splitGo c cur s, x.length ≤ cur.length + s.length := by
  intro s
  induction s with
  | nil => intro cur; simp [splitGo]
  | cons b r ih =>
    intro cur
    simp only [splitGo]
    split
    · obtain ⟨h1, h2⟩ := ih []
      refine ⟨by simp; omega, fun x hx => ?_⟩
      rcases List.mem_cons.1 hx with rfl | hx
      · simp
      · have := h2 x hx; simp at this; simp; omega
    · obtain ⟨h1, h2⟩ := ih (cur ++ [b])
      refine ⟨by simp; omega, fun x hx => ?_⟩
      have := h2 x hx; simp at this; simp; omega

theorem splitGo_not {c : UInt8} : ∀ {s : Str} (cur : Str), c ∉ s → splitGo c cur s = [cur ++ s] := by
  intro s
  induction s with
  | nil => intro cur _; simp [splitGo]
  | cons b r ih =>
    intro cur h
    simp only [List.mem_cons, not_or] at h
    simp only [splitGo]
    rw [if_neg fun e => h.1 e.symm, ih _ h.2]
    simp

theorem splitGo_cut {c : UInt8} : ∀ {s : Str} (cur : Str), c ∈ s → splitGo c cur s = (cur ++ ahead c s) :: splitGo c [] (behind c s) := by
  intro s
  induction s with
  | nil => intro cur h; simp at h
  | cons b r ih =>
    intro cur h
    simp only [splitGo]
    by_cases e : b = c
    · subst e
      simp [ahead, behind]
    · rw [if_neg e, ih _ (by simpa [Ne.symm e] using h)]
      simp [ahead, behind, e]

theorem split_not {c : UInt8} {s : Str} (h : c ∉ s) : split c s = [s] := splitGo_not [] h
theorem split_cut {c : UInt8} {s : Str} (h : c ∈ s) : split c s = ahead c s :: split c (behind c s) := splitGo_cut [] h
theorem splitGo_ne {c : UInt8} : ∀ (s cur : Str), splitGo c cur s ≠ [] := by
  intro s
  induction s with
  | nil => intro cur; simp [splitGo]
  | cons b r ih => intro cur; simp only [splitGo]; split <;> simp [ih]
theorem ahead_le (c : UInt8) (s : Str) : (ahead c s).length ≤ s.length := by
  have := (List.takeWhile_prefix (fun x => x != c) (l := s)).length_le
  exact this
theorem behind_le (c : UInt8) (s : Str) : (behind c s).length ≤ s.length := by
  have := (List.dropWhile_suffix (fun x => x != c) (l := s)).length_le
  simp only [behind, List.length_drop]
  omega
theorem ahead_not {c : UInt8} (s : Str) : c ∉ ahead c s := by
  induction s with
  | nil => simp [ahead]
  | cons b r ih =>
    unfold ahead
    rw [List.takeWhile_cons]
    split
    · rename_i h
      intro hm
      rcases List.mem_cons.1 hm with e | e
      · rw [← e] at h; simp at h
      · exact ih e
    · simp

theorem nameGo_mem : ∀ {s : Str} {f : Bool}, nameGo f s = true → ∀ b ∈ s, isSmall b = true ∨ isFigure b = true ∨ b = 45 := by
  intro s
  induction s with
  | nil => intro f _ b hb; simp at hb
  | cons c r ih =>
    intro f h b hb
    simp only [nameGo, Bool.and_eq_true, Bool.or_eq_true, beq_iff_eq] at h
    rcases List.mem_cons.1 hb with rfl | hb
    · rcases h.1 with h1 | h1
      · exact .inl h1
      · rcases h1.2 with h2 | h2
        · exact .inr (.inl h2)
        · exact .inr (.inr h2)
    · exact ih h.2 b hb
theorem nameOk_not {s : Str} (h : nameOk s = true) : (35 : UInt8) ∉ s ∧ (94 : UInt8) ∉ s := by
  simp only [nameOk, Bool.and_eq_true] at h
  constructor <;> intro hb <;> rcases nameGo_mem h.1 _ hb with h | h | h <;> revert h <;> decide
theorem nameOk_nil : nameOk [] = false := rfl
theorem c_spec_Split (s : Str) (c : UInt8) (hs : s.length ≤ 1073741824) : outL run_spec_Split [.one (Cell.str (bs s)), .one (.sc (.int .u8 (c.toNat : Int)))] = some [.one (strsC (split c s))] := by
  have hM := maxLen_eq
  have loop : ∀ (r : Str) (i from' n : Nat) (cur : Str) (cl : Cell) (H : List Entry) (done : List Str), s.drop i = r → from' ≤ i → i ≤ s.length → (s.take i).drop from' = cur → r.length + 1 < n → Grow 1 cl H (done.map eStr) → done.length ≤ i →
      ∀ k m, ∃ cl' H', spec_Split_l0 k m n (bs s) (c.toNat : Int) cl from' i H = some ([.one cl'], H') ∧ Grow 1 cl' H' ((done ++ splitGo c cur r).map eStr) := by
    intro r
    induction r with
    | nil =>
      intro i from' n cur cl H done hd hf hi hc hn hg hdl k m
      obtain ⟨n, rfl⟩ : ∃ j, n = j + 2 := ⟨n - 2, by omega⟩
      have hlen := drop_nil hd
      have e : i = s.length := by omega
      subst e
      obtain ⟨p, hp, hgp⟩ := hg.app (by' := 16) [eStr cur] (by simp [bound]; omega) (by simp [bound]; omega)
      refine ⟨p.1, p.2, ?_, by simpa [splitGo] using hgp⟩
      simp only [spec_Split_l0, bs_size]
      rw [decide_eq_true (by omega), cond_true, show (((s.length : Nat) : Int) == (s.length : Int)) = true by simp, cond_true, subS_bs _ _ _ hf (Nat.le_refl _), hc]
      simp only [Option.bind_some]
      rw [show [[Cell.str (bs cur)]] = [eStr cur] from rfl, hp]
      simp only [Option.bind_some]
      rw [wrap_succ (by omega), decide_eq_false (by omega), cond_false]
    | cons b r ih =>
      intro i from' n cur cl H done hd hf hi hc hn hg hdl k m
      obtain ⟨n, rfl⟩ : ∃ j, n = j + 1 := ⟨n - 1, by omega⟩
      obtain ⟨hlt, hgx, hd'⟩ := drop_cons hd
      simp only [List.length_cons] at hn
      simp only [spec_Split_l0, bs_size, bytS_bs, hgx, Option.map_some, Option.bind_some]
      rw [decide_eq_true (by omega), cond_true, show (((i : Nat) : Int) == (s.length : Int)) = false by simp; omega, cond_false, wrap_succ (by omega)]
      have hbc : ((b.toNat : Int) == (c.toNat : Int)) = decide (b = c) := by
        rw [Bool.eq_iff_iff]
        simp only [beq_iff_eq, decide_eq_true_eq]
        exact ⟨fun h => UInt8.toNat_inj.1 (by omega), fun h => by rw [h]⟩
      rw [hbc]
      by_cases e : b = c
      · rw [decide_eq_true e, cond_true, subS_bs _ _ _ hf (by omega), hc]
        simp only [Option.bind_some]
        obtain ⟨p, hp, hgp⟩ := hg.app (by' := 16) [eStr cur] (by simp [bound]; omega) (by simp [bound]; omega)
        rw [show [[Cell.str (bs cur)]] = [eStr cur] from rfl, hp]
        simp only [Option.bind_some]
        obtain ⟨cl', H', h1, h2⟩ := ih (i + 1) (i + 1) n [] p.1 p.2 (done ++ [cur]) hd' (Nat.le_refl _) (by omega) (by simp) (by omega) (by simpa using hgp) (by simp; omega) k m
        refine ⟨cl', H', h1, ?_⟩
        simpa [splitGo, e] using h2
      · rw [decide_eq_false e, cond_false]
        obtain ⟨cl', H', h1, h2⟩ := ih (i + 1) from' n (cur ++ [b]) cl H done hd' (by omega) (by omega) (by
          rw [← hc, List.take_add_one, hgx]
          simp only [Option.toList_some]
          rw [List.drop_append_of_le_length (by simp; omega)]) (by omega) hg (by omega) k m
        refine ⟨cl', H', h1, ?_⟩
        simpa [splitGo, e] using h2
  obtain ⟨cl', H', h1, h2⟩ := loop s 0 0 (s.length + 1 + 1) [] (.lst true 1 []) [] [] rfl (by omega) (by omega) rfl (by omega) (.nil 1) (by simp) (s.length + 1 + 1) (s.length + 1 + 1)
  refine outL_of (run_spec_Split_of (s.length + 1) (by simpa [spec_Split] using h1)) ?_
  exact h2.read
theorem ahead_all {c : UInt8} {s : Str} (h : c ∉ s) : ahead c s = s := by
  induction s with
  | nil => rfl
  | cons b r ih =>
    simp only [List.mem_cons, not_or] at h
    have : ahead c (b :: r) = b :: ahead c r := by simp [ahead, Ne.symm h.1]
    rw [this, ih h.2]
theorem behind_none {c : UInt8} {s : Str} (h : c ∉ s) : behind c s = [] := by
  induction s with
  | nil => rfl
  | cons b r ih =>
    simp only [List.mem_cons, not_or] at h
    have : behind c (b :: r) = behind c r := by simp [behind, Ne.symm h.1]
    rw [this, ih h.2]
/-! tasks -/
def parseTask (s : Str) : Str × Str × Bool := if nameOk (ahead 35 s) && nameOk (behind 35 s) then (ahead 35 s, behind 35 s, true) else ([], [], false)
def parseTaskV (s : Str) : List AV := [.one (Cell.str (bs (parseTask s).1)), .one (Cell.str (bs (parseTask s).2.1)), .one (Cell.bool (parseTask s).2.2)]
theorem not_mem_behind {c : UInt8} {s : Str} (h : c ∉ s) (d : UInt8) : d ∉ behind c s := by
  rw [behind_none h]
  simp
/-- A text without what stands ahead of it. -/
def trimP (p s : Str) : Str := if p.isPrefixOf s then s.drop p.length else s
def onOk (s : Str) : Bool := if 35 ∈ s then nameOk (ahead 35 s) && nameOk (behind 35 s) else nameOk (trimP [94] s)
theorem indexByte_eq (c : UInt8) (s : Str) : Lib.indexByte s c = if c ∈ s then ((ahead c s).length : Int) else -1 := by
  induction s with
  | nil => rfl
  | cons b r ih =>
    simp only [Lib.indexByte]
    by_cases e : b = c
    · subst e
      simp [ahead]
    · have e1 : (b == c) = false := by simpa using e
      simp only [e1, Bool.false_eq_true, if_false]
      have e2 : ahead c (b :: r) = b :: ahead c r := by simp [ahead, e]
      by_cases h : c ∈ r
      · rw [if_pos h] at ih
        rw [ih, if_neg (by simp <;> omega), if_pos (List.mem_cons_of_mem _ h), e2]
        simp
      · rw [if_neg h] at ih
        rw [ih, if_pos (by simp), if_neg]
        intro hm
        rcases List.mem_cons.1 hm with q | q
        · exact e q.symm
        · exact h q
theorem take_ahead (c : UInt8) (s : Str) : s.take (ahead c s).length = ahead c s :=
  (List.prefix_iff_eq_take.1 (List.takeWhile_prefix _)).symm
theorem ahead_lt {c : UInt8} {s : Str} (h : c ∈ s) : (ahead c s).length < s.length := by
  have h1 := ahead_le c s
  rcases Nat.lt_or_ge (ahead c s).length s.length with h2 | h2
  · exact h2
  · have h3 := take_ahead c s
    rw [List.take_of_length_le h2] at h3
    rw [h3] at h
    exact absurd h (ahead_not s)
theorem drop_behind (c : UInt8) (s : Str) : s.drop ((ahead c s).length + 1) = behind c s := by
  have h : s = ahead c s ++ s.dropWhile (· != c) := (List.takeWhile_append_dropWhile).symm
  have h2 : s.drop (ahead c s).length = s.dropWhile (· != c) := by
    rw [congrArg (List.drop (ahead c s).length) h, List.drop_left]
  rw [← List.drop_drop, h2]
  rfl
theorem bytS_head (b : UInt8) (r : Str) : bytS (bs (b :: r)) 0 = some (b.toNat : Int) := by
  have := bytS_bs (b :: r) 0
  simpa using this
theorem c_internal_stringslite_IndexByte (s : Str) (c : UInt8) : out run_internal_stringslite_IndexByte [.one (Cell.str (bs s)), .one (.sc (.int .u8 (c.toNat : Int)))] = some [.one (Cell.int (Lib.indexByte s c))] := by
  simp [out, run_internal_stringslite_IndexByte]
theorem c_internal_stringslite_Index (s : Str) (c : UInt8) : out run_internal_stringslite_Index [.one (Cell.str (bs s)), .one (Cell.str (bs [c]))] = some [.one (Cell.int (Lib.indexByte s c))] := by
  refine out_of (H := []) (run_internal_stringslite_Index_of 0 ?_)
  simp only [internal_stringslite_Index, bytS_head, c_internal_stringslite_IndexByte, callS_canon, callL_canon, Option.map_some, Option.bind_some, shape_one, shape_agg, shape_nil, cellsAt_0, cellsAt_1, cellsAt_2, cellsAt_3, cells_one, cells_agg, cB_zero, cI_zero, cS_zero, cC_zero, cB_cons, cI_cons, cS_cons, cC_cons, cond_true, cond_false, List.length_cons, List.length_nil, beq_self_eq_true, Bool.and_true, Bool.true_and, lenC_encL, lenC_lst, deref_ref, emptyK_nil, bs_size, bs_toList]
  rw [show (((0 + 1 : Nat) : Int) == 0) = false from rfl, show (((0 + 1 : Nat) : Int) == 1) = true from rfl, cond_false, cond_true]
  by_cases h : [c] = s
  · rw [← h]
    simp [Lib.indexByte]
  · rw [show ([c] == s) = false by simpa using h, cond_false]
/-! the order of texts -/
def lt (a b : Str) : Bool := Op.bytesLess a b
theorem lt_self (a : Str) : lt a a = false := by
  unfold lt
  induction a with
  | nil => rfl
  | cons x a ih => simp [Op.bytesLess, ih]
theorem lt_not : ∀ (a b : Str), (lt a b || a == b) = !lt b a := by
  unfold lt
  intro a
  induction a with
  | nil => intro b; cases b <;> rfl
  | cons x a ih =>
    intro b
    cases b with
    | nil => rfl
    | cons y b =>
      have h := ih b
      simp only [Op.bytesLess]
      have e : ((x :: a) == (y :: b)) = (x == y && a == b) := rfl
      rw [e]
      rcases Nat.lt_trichotomy x.toNat y.toNat with h1 | h1 | h1
      · have e1 : decide (x < y) = true := by simpa [UInt8.lt_iff_toNat_lt] using h1
        have e2 : decide (y < x) = false := by simp [UInt8.lt_iff_toNat_lt]; omega
        have e3 : (y == x) = false := by simp; intro e; rw [e] at h1; omega
        simp [e1, e2, e3]
      · have e0 := UInt8.toNat_inj.1 h1
        subst e0
        have e1 : decide (x < x) = false := by simp
        simp only [e1, Bool.false_or, beq_self_eq_true, Bool.true_and, h]
      · have e1 : decide (y < x) = true := by simpa [UInt8.lt_iff_toNat_lt] using h1
        have e2 : decide (x < y) = false := by simp [UInt8.lt_iff_toNat_lt]; omega
        have e3 : (x == y) = false := by simp; intro e; rw [e] at h1; omega
        simp [e1, e2, e3]
theorem bl_eq (a b : Str) : Op.bytesLess a b = lt a b := rfl
/-- Ascending, each text once. -/
def asc : List Str → Bool
  | [] => true
  | [_] => true
  | a :: b :: r => lt a b && asc (b :: r)
theorem wrap_pred {i : Nat} (h : i < Go.maxLen) : IntKind.i64.wrap (((i + 1 : Nat) : Int) - 1) = (i : Int) := by
  have := maxLen_eq
  rw [wrap_small (by omega) (by omega)]
  omega
/-- The place of a text in a list. -/
def idxS (s : Str) : List Str → Nat → Int
  | [], _ => -1
  | b :: r, i => if s = b then (i : Int) else idxS s r (i + 1)
theorem idxS_ge (s : Str) : ∀ (l : List Str) (i : Nat), (decide (idxS s l i ≥ 0)) = l.contains s := by
  intro l
  induction l with
  | nil => intro i; rfl
  | cons b r ih =>
    intro i
    rw [List.contains_cons]
    by_cases e : s = b
    · have e1 : idxS s (b :: r) i = (i : Int) := if_pos e
      rw [e1, show (s == b) = true by simpa using e, decide_eq_true (by omega)]; rfl
    · have e1 : idxS s (b :: r) i = idxS s r (i + 1) := if_neg e
      rw [e1, ih, show (s == b) = false by simpa using e]; rfl
theorem c_slices_Index_string (xs : List Str) (s : Str) (hx : xs.length ≤ 1073741824) : out run_slices_Index_string [.one (strsC xs), .one (Cell.str (bs s))] = some [.one (Cell.int (idxS s xs 0))] := by
  have hM := maxLen_eq
  have loop : ∀ (r : List Str) (i n : Nat), xs.drop i = r → r.length < n → ∀ k m, slices_Index_string_l0 k m n (strsC xs) (bs s) xs.length i = some ([.one (Cell.int (idxS s r i))], []) := by
    intro r
    induction r with
    | nil =>
      intro i n hd hn k m
      obtain ⟨n, rfl⟩ : ∃ j, n = j + 1 := ⟨n - 1, by omega⟩
      have := drop_nil hd
      simp only [slices_Index_string_l0]
      rw [decide_eq_false (by omega), cond_false]
      rfl
    | cons b r ih =>
      intro i n hd hn k m
      obtain ⟨n, rfl⟩ : ∃ j, n = j + 1 := ⟨n - 1, by omega⟩
      obtain ⟨hlt, hg, hd'⟩ := drop_cons hd
      simp only [List.length_cons] at hn
      simp only [slices_Index_string_l0, idxA_encL, hg, eStr, callS_canon, callL_canon, Option.map_some, Option.bind_some, shape_one, shape_agg, shape_nil, cellsAt_0, cellsAt_1, cellsAt_2, cellsAt_3, cells_one, cells_agg, cB_zero, cI_zero, cS_zero, cC_zero, cB_cons, cI_cons, cS_cons, cC_cons, cond_true, cond_false, List.length_cons, List.length_nil, beq_self_eq_true, Bool.and_true, Bool.true_and, lenC_encL, lenC_lst, deref_ref, emptyK_nil, bs_size, bs_toList]
      rw [decide_eq_true (by omega), cond_true, wrap_succ (by omega), ih (i + 1) n hd' (by omega)]
      simp only [idxS]
      by_cases e : s = b
      · rw [show (s == b) = true by simpa using e, if_pos e]; rfl
      · rw [show (s == b) = false by simpa using e, if_neg e]; rfl
  refine out_of (H := []) (run_slices_Index_string_of (xs.length + 1) ?_)
  have := loop xs 0 (xs.length + 1 + 1) rfl (by omega) (xs.length + 1 + 1) (xs.length + 1 + 1)
  simpa [slices_Index_string] using this
theorem c_slices_Contains_string (xs : List Str) (s : Str) (hx : xs.length ≤ 1073741824) : out run_slices_Contains_string [.one (strsC xs), .one (Cell.str (bs s))] = some [.one (Cell.bool (xs.contains s))] := by
  refine out_of (H := []) (run_slices_Contains_string_of 0 ?_)
  simp only [slices_Contains_string, c_slices_Index_string xs s hx, callS_canon, callL_canon, Option.map_some, Option.bind_some, shape_one, shape_agg, shape_nil, cellsAt_0, cellsAt_1, cellsAt_2, cellsAt_3, cells_one, cells_agg, cB_zero, cI_zero, cS_zero, cC_zero, cB_cons, cI_cons, cS_cons, cC_cons, cond_true, cond_false, List.length_cons, List.length_nil, beq_self_eq_true, Bool.and_true, Bool.true_and, lenC_encL, lenC_lst, deref_ref, emptyK_nil, bs_size, bs_toList, idxS_ge]
/-- The place of the first element that answers. -/
def idxF {α : Type} (p : α → Bool) : List α → Nat → Int
  | [], _ => -1
  | x :: r, i => cond (p x) (i : Int) (idxF p r (i + 1))
theorem idxF_find {α : Type} (p : α → Bool) : ∀ (l : List α) (i : Nat), (idxF p l i = -1 ∧ l.find? p = none) ∨ ∃ (j : Nat) (x : α), idxF p l i = ((i + j : Nat) : Int) ∧ l[j]? = some x ∧ l.find? p = some x := by
  intro l
  induction l with
  | nil => intro i; exact .inl ⟨rfl, rfl⟩
  | cons b r ih =>
    intro i
    by_cases e : p b = true
    · exact .inr ⟨0, b, by simp [idxF, e], rfl, by simp [e]⟩
    · rcases ih (i + 1) with ⟨h1, h2⟩ | ⟨j, x, h1, h2, h3⟩
      · exact .inl ⟨by simp [idxF, e, h1], by simp [e, h2]⟩
      · exact .inr ⟨j + 1, x, by simp only [idxF, Bool.eq_false_iff.2 e, cond_false, h1]; congr 1; omega, by simpa using h2, by simp [e, h3]⟩
/-! texts in their order, each once -/
theorem lt_iff : ∀ (a b : Str), lt a b = true ↔ a < b := by
  intro a
  unfold lt
  induction a with
  | nil => intro b; cases b <;> simp [Op.bytesLess]
  | cons x a ih =>
    intro b
    cases b with
    | nil => simp [Op.bytesLess]
    | cons y b => rw [List.cons_lt_cons_iff, ← ih b]; simp [Op.bytesLess]
theorem strict_unique : ∀ {a b : List Str}, a.Pairwise (· < ·) → b.Pairwise (· < ·) → (∀ x, x ∈ a ↔ x ∈ b) → a = b := by
  intro a
  induction a with
  | nil =>
    intro b _ _ h
    cases b with
    | nil => rfl
    | cons y b => exact absurd ((h y).2 List.mem_cons_self) (by simp)
  | cons x a ih =>
    intro b ha hb h
    cases b with
    | nil => exact absurd ((h x).1 List.mem_cons_self) (by simp)
    | cons y b =>
      obtain ⟨a1, a2⟩ := List.pairwise_cons.1 ha
      obtain ⟨b1, b2⟩ := List.pairwise_cons.1 hb
      have hxy : x = y := by
        rcases List.mem_cons.1 ((h x).1 List.mem_cons_self) with e | e
        · exact e
        · rcases List.mem_cons.1 ((h y).2 List.mem_cons_self) with e' | e'
          · exact e'.symm
          · exact absurd (List.lt_trans (b1 x e) (a1 y e')) (List.lt_irrefl _)
      subst hxy
      congr 1
      refine ih a2 b2 fun z => ⟨fun hz => ?_, fun hz => ?_⟩
      · rcases List.mem_cons.1 ((h z).1 (List.mem_cons_of_mem _ hz)) with rfl | e
        · exact absurd (a1 z hz) (List.lt_irrefl _)
        · exact e
      · rcases List.mem_cons.1 ((h z).2 (List.mem_cons_of_mem _ hz)) with rfl | e
        · exact absurd (b1 z hz) (List.lt_irrefl _)
        · exact e
def sortedU (xs : List Str) : List Str := Lib.compact (sortS xs)
theorem sortedU_spec (xs : List Str) : (sortedU xs).Pairwise (· < ·) ∧ ∀ x, x ∈ sortedU xs ↔ x ∈ xs := by
  have hp : (sortS xs).Pairwise (fun a b => a ≤ b) := by
    have := List.pairwise_mergeSort (le := fun x y : Str => decide (x ≤ y)) (fun a b c h1 h2 => by simp only [decide_eq_true_eq] at *; exact List.le_trans h1 h2) (fun a b => by simpa using List.le_total a b) xs
    simpa [sortS] using this
  have hm : ∀ x, x ∈ sortS xs ↔ x ∈ xs := fun x => List.mem_mergeSort
  generalize hs : sortS xs = s at hp hm
  have key : ∀ m, m < s.length → ∃ C, Lib.compactUpTo s.toArray (m + 1) = C ++ [s[m]!] ∧ (C ++ [s[m]!]).Pairwise (· < ·) ∧ ∀ x, x ∈ C ++ [s[m]!] ↔ x ∈ s.take (m + 1) := by
    intro m
    induction m with
    | zero =>
      intro h
      obtain ⟨x, r, rfl⟩ : ∃ x r, s = x :: r := by cases s with | nil => simp at h | cons x r => exact ⟨x, r, rfl⟩
      exact ⟨[], by rw [Lib.compactUpTo_succ]; simp [Lib.compactUpTo, Lib.keeps], by simp, by simp⟩
    | succ m ih =>
      intro h
      obtain ⟨C, h1, h2, h3⟩ := ih (by omega)
      have e0 : s[m]! = s[m] := by simp [show m < s.length by omega]
      have e1 : s[m + 1]! = s[m + 1] := by simp [h]
      have ht : s.take (m + 1 + 1) = s.take (m + 1) ++ [s[m + 1]] := by rw [List.take_add_one, List.getElem?_eq_getElem h]; rfl
      have hle : s[m] ≤ s[m + 1] := List.pairwise_iff_getElem.1 hp m (m + 1) (by omega) h (by omega)
      rw [Lib.compactUpTo_succ, h1]
      have hk : Lib.keeps s.toArray (m + 1) = decide (s[m + 1] ≠ s[m]) := by
        simp [Lib.keeps, h, show m < s.length by omega]
      rw [hk, e1, ht]
      by_cases he : s[m + 1] = s[m]
      · refine ⟨C, by simp [he, e0], by rw [he, ← e0]; exact h2, fun x => ?_⟩
        have h4 := h3 x
        rw [e0] at h4
        rw [he]
        constructor
        · exact fun h => List.mem_append_left _ (h4.1 h)
        · intro h
          rcases List.mem_append.1 h with h | h
          · exact h4.2 h
          · exact List.mem_append_right _ h
      · refine ⟨C ++ [s[m]!], by simp [he, h], ?_, fun x => ?_⟩
        · refine List.pairwise_append.2 ⟨h2, by simp, fun a ha b hb => ?_⟩
          simp only [List.mem_singleton] at hb
          subst hb
          have hlt : s[m] < s[m + 1] := by
            rcases Classical.em (s[m] < s[m + 1]) with h | h
            · exact h
            · exact absurd (List.le_antisymm (List.not_lt.1 h) hle) he
          rcases List.mem_append.1 ha with ha | ha
          · have := (List.pairwise_append.1 h2).2.2 a ha s[m]! (by simp)
            rw [e0] at this
            exact List.lt_trans this hlt
          · simp only [List.mem_singleton] at ha
            rw [ha, e0]
            exact hlt
        · rw [List.mem_append, h3 x, List.mem_append]
  unfold sortedU
  rw [hs]
  cases hl : s.length with
  | zero =>
    have : s = [] := List.eq_nil_of_length_eq_zero hl
    subst this
    exact ⟨by simp [Lib.compact, Lib.compactUpTo], fun x => by rw [← hm x]; simp [Lib.compact, Lib.compactUpTo]⟩
  | succ m =>
    obtain ⟨C, h1, h2, h3⟩ := key m (by omega)
    have he : Lib.compact s = C ++ [s[m]!] := by rw [Lib.compact, hl, h1]
    rw [he]
    refine ⟨h2, fun x => ?_⟩
    rw [h3 x, ← hm x, List.take_of_length_le (by omega)]
theorem sortedU_unique {o xs : List Str} (h1 : o.Pairwise (· < ·)) (h2 : ∀ x, x ∈ o ↔ x ∈ xs) : o = sortedU xs :=
  strict_unique h1 (sortedU_spec xs).1 fun x => (h2 x).trans ((sortedU_spec xs).2 x).symm
theorem sortedU_le (xs : List Str) : (sortedU xs).length ≤ xs.length := Nat.le_trans (compact_le _) (Nat.le_of_eq (List.length_mergeSort xs))
def taskName (p t : Str) : Str := p ++ [35] ++ t
theorem c_strings_Index (s : Str) (c : UInt8) : out run_strings_Index [.one (Cell.str (bs s)), .one (Cell.str (bs [c]))] = some [.one (Cell.int (Lib.indexByte s c))] := by
  refine out_of (H := []) (run_strings_Index_of 0 ?_)
  simp only [strings_Index, c_internal_stringslite_Index, callS_canon, callL_canon, Option.map_some, Option.bind_some, shape_one, shape_agg, shape_nil, cellsAt_0, cellsAt_1, cellsAt_2, cellsAt_3, cells_one, cells_agg, cB_zero, cI_zero, cS_zero, cC_zero, cB_cons, cI_cons, cS_cons, cC_cons, cond_true, cond_false, List.length_cons, List.length_nil, beq_self_eq_true, Bool.and_true, Bool.true_and, lenC_encL, lenC_lst, deref_ref, emptyK_nil, bs_size, bs_toList]
theorem c_strings_Count (s : Str) (c : UInt8) : out run_strings_Count [.one (Cell.str (bs s)), .one (Cell.str (bs [c]))] = some [.one (Cell.int ((s.count c : Nat) : Int))] := by
  refine out_of (H := []) ?_
  show run_count _ _ = _
  simp only [run_count, bs_data]
  rfl
theorem count_cut {c : UInt8} {s : Str} (h : c ∈ s) : s.count c = (behind c s).count c + 1 := by
  induction s with
  | nil => simp at h
  | cons b r ih =>
    by_cases e : b = c
    · subst e
      simp [behind, List.dropWhile_cons]
    · have hr : c ∈ r := by
        rcases List.mem_cons.1 h with h | h
        · exact absurd h.symm e
        · exact h
      have hb : behind c (b :: r) = behind c r := by
        have : (b != c) = true := by simpa using e
        simp [behind, List.dropWhile_cons, this]
      rw [hb, List.count_cons, ih hr]
      simp [e]
theorem count_not {c : UInt8} {s : Str} (h : c ∉ s) : s.count c = 0 := List.count_eq_zero.2 h
theorem split_len (c : UInt8) : ∀ (n : Nat) (s : Str), s.length ≤ n → (split c s).length = s.count c + 1 := by
  intro n
  induction n with
  | zero =>
    intro s h
    have : s = [] := List.eq_nil_of_length_eq_zero (by omega)
    subst this
    rfl
  | succ n ih =>
    intro s h
    by_cases hc : c ∈ s
    · have hl : (behind c s).length < s.length := by
        have := ahead_lt hc
        have h2 := drop_behind c s
        rw [← h2, List.length_drop]
        omega
      rw [split_cut hc, List.length_cons, ih _ (by omega), count_cut hc]
    · rw [split_not hc, count_not hc]
      rfl
theorem c_strings_genSplit (s : Str) (c : UInt8) (hs : s.length ≤ 1073741824) : outL run_strings_genSplit [.one (Cell.str (bs s)), .one (Cell.str (bs [c])), .one (Cell.int 0), .one (Cell.int (-1))] = some [.one (strsC (split c s))] := by
  have hM := maxLen_eq
  have hct : s.count c ≤ s.length := List.count_le_length
  have hsl := split_len c s.length s (Nat.le_refl _)
  have hput : ∀ (rows : List (List Cell)) (i : Nat) (row : List Cell) (y : Str), rows[i]? = some row → row.length = 1 → hStore [Entry.mk 1 rows 0 false] (.ptr 0 1 i 0 0) [Cell.str (bs y)] = some [Entry.mk 1 (rows.set i (eStr y)) 0 false] := by
    intro rows i row y h hr
    simp only [hStore, entry?, List.getElem?_cons_zero, if_true, h]
    rw [if_pos ⟨trivial, by simp, trivial⟩]
    simp [splice, eStr, hr, List.drop_eq_nil_of_le]
  have loop : ∀ (d : Nat) (r : Str) (done : List Str) (n : Nat), r.count c = d → done.length + d = s.count c → r.length ≤ s.length → split c s = done ++ split c r → d < n → ∀ k m,
      strings_genSplit_l0 k m n (bs r) (bs [c]) 0 ((s.count c : Nat) : Int) (.vs 0 1 0 (s.count c + 1) 0) ((done.length : Nat) : Int) [Entry.mk 1 (done.map eStr ++ List.replicate (d + 1) [Cell.str (bs [])]) 0 false] =
        some ([.one (.vs 0 1 0 (s.count c + 1) 0)], [Entry.mk 1 ((split c s).map eStr) 0 false]) := by
    intro d
    induction d with
    | zero =>
      intro r done n hc hd hr hsp hn k m
      obtain ⟨n, rfl⟩ : ∃ j, n = j + 1 := ⟨n - 1, by omega⟩
      have hnc : c ∉ r := List.count_eq_zero.1 hc
      simp only [strings_genSplit_l0]
      rw [decide_eq_false (by omega), cond_false]
      have hrow : (done.map eStr ++ List.replicate (0 + 1) [Cell.str (bs [])])[done.length]? = some [Cell.str (bs [])] := by simp
      simp only [idxA_vs 0 1 (s.count c + 1) 0 done.length (by omega), Option.bind_some, hput _ _ _ r hrow rfl]
      have hset : (done.map eStr ++ List.replicate (0 + 1) [Cell.str (bs [])]).set done.length (eStr r) = (split c s).map eStr := by
        rw [hsp, split_not hnc, List.set_append_right _ _ (by simp)]
        simp
      rw [hset, show IntKind.i64.wrap ((done.length : Int) + 1) = ((s.count c + 1 : Nat) : Int) by rw [wrap_succ (by omega)]; omega]
      have hsl' : slcC 1 (.vs 0 1 0 (s.count c + 1) 0) 0 (some ((s.count c + 1 : Nat) : Int)) none = some (.vs 0 1 0 (s.count c + 1) 0) := by
        simp only [slcC, Option.getD_some, Option.getD_none, if_true]
        rw [if_pos ⟨by omega, by omega, by omega, by omega⟩, if_pos (.inl trivial)]
        simp
      rw [hsl']
      rfl
    | succ d ih =>
      intro r done n hc hd hr hsp hn k m
      obtain ⟨n, rfl⟩ : ∃ j, n = j + 1 := ⟨n - 1, by omega⟩
      have hmem : c ∈ r := by
        rcases Classical.em (c ∈ r) with h | h
        · exact h
        · have := count_not h; omega
      have hal := ahead_lt hmem
      have hbl := behind_le c r
      simp only [strings_genSplit_l0]
      rw [decide_eq_true (by omega), cond_true]
      have e0 : Lib.indexByte r c = ((ahead c r).length : Int) := by rw [indexByte_eq, if_pos hmem]
      simp only [c_strings_Index, e0, callS_canon, callL_canon, Option.map_some, Option.bind_some, shape_one, shape_agg, shape_nil, cellsAt_0, cellsAt_1, cellsAt_2, cellsAt_3, cells_one, cells_agg, cB_zero, cI_zero, cS_zero, cC_zero, cB_cons, cI_cons, cS_cons, cC_cons, cond_true, cond_false, List.length_cons, List.length_nil, beq_self_eq_true, Bool.and_true, Bool.true_and, lenC_encL, lenC_lst, deref_ref, emptyK_nil, bs_size, bs_toList]
      rw [decide_eq_false (by omega), cond_false]
      have e1 := subS_bs r 0 (ahead c r).length (by omega) (by omega)
      simp only [Int.natCast_zero, List.drop_zero, take_ahead] at e1
      rw [show IntKind.i64.wrap (((ahead c r).length : Int) + 0) = ((ahead c r).length : Int) by rw [Int.add_zero]; exact wrap_small (by omega) (by omega), e1]
      have hrow : (done.map eStr ++ List.replicate (d + 1 + 1) [Cell.str (bs [])])[done.length]? = some [Cell.str (bs [])] := by simp
      simp only [Option.bind_some, idxA_vs 0 1 (s.count c + 1) 0 done.length (by omega), hput _ _ _ (ahead c r) hrow rfl]
      have e2 := subS_bs r ((ahead c r).length + 1) r.length (by omega) (Nat.le_refl _)
      rw [List.take_length, drop_behind] at e2
      rw [show IntKind.i64.wrap (((ahead c r).length : Int) + ((0 + 1 : Nat) : Int)) = (((ahead c r).length + 1 : Nat) : Int) by rw [wrap_small (by omega) (by omega)]; omega, e2, wrap_succ (by omega)]
      simp only [Option.bind_some]
      have hset : (done.map eStr ++ List.replicate (d + 1 + 1) [Cell.str (bs [])]).set done.length (eStr (ahead c r)) = (done ++ [ahead c r]).map eStr ++ List.replicate (d + 1) [Cell.str (bs [])] := by
        rw [List.set_append_right _ _ (by simp)]
        simp [List.replicate_succ]
      rw [hset]
      have := ih (behind c r) (done ++ [ahead c r]) n (by have := count_cut hmem; omega) (by simp; omega) (by omega) (by rw [hsp, split_cut hmem]; simp) (by omega) k m
      rw [show (done ++ [ahead c r]).length = done.length + 1 by simp] at this
      exact this
  have hmin : (if IntKind.i64.wrap ((s.length : Int) + 1) < IntKind.i64.wrap (((s.count c : Nat) : Int) + 1) then IntKind.i64.wrap ((s.length : Int) + 1) else IntKind.i64.wrap (((s.count c : Nat) : Int) + 1)) = ((s.count c + 1 : Nat) : Int) := by
    rw [wrap_succ (by omega), wrap_succ (by omega), if_neg (by omega)]
  have z := loop (s.count c) s [] (s.count c + 1 + 1) rfl (by simp) (Nat.le_refl _) (by simp) (by omega) (s.count c + 1 + 1) (s.count c + 1 + 1)
  refine outL_of (H := [Entry.mk 1 ((split c s).map eStr) 0 false]) (xs := [.one (.vs 0 1 0 (s.count c + 1) 0)]) (run_strings_genSplit_of (s.count c + 1) ?_) ?_
  · simp only [strings_genSplit]
    rw [show ((-1 : Int) == 0) = false from rfl, cond_false]
    simp only [bs_toList]
    rw [show (([c] : Str) == []) = false from rfl, cond_false, show decide ((-1 : Int) < 0) = true from rfl, cond_true]
    simp only [c_strings_Count, callS_canon, callL_canon, Option.map_some, Option.bind_some, shape_one, shape_agg, shape_nil, cellsAt_0, cellsAt_1, cellsAt_2, cellsAt_3, cells_one, cells_agg, cB_zero, cI_zero, cS_zero, cC_zero, cB_cons, cI_cons, cS_cons, cC_cons, cond_true, cond_false, List.length_cons, List.length_nil, beq_self_eq_true, Bool.and_true, Bool.true_and, lenC_encL, lenC_lst, deref_ref, emptyK_nil, bs_size, bs_toList, hmin]
    rw [if_pos ⟨by omega, by omega, by unfold bound; omega, by unfold bound; omega⟩]
    rw [show IntKind.i64.wrap (((s.count c + 1 : Nat) : Int) - 1) = ((s.count c : Nat) : Int) from wrap_pred (by omega)]
    simpa [mkRows] using z
  · have := reify_vs (sz := 1) eStr (split c s) 0 false
    rw [hsl] at this
    exact this
theorem c_strings_Split (s : Str) (c : UInt8) (hs : s.length ≤ 1073741824) : outL run_strings_Split [.one (Cell.str (bs s)), .one (Cell.str (bs [c]))] = some [.one (strsC (split c s))] := by
  refine outL_canon (H := []) (run_strings_Split_of 0 ?_)
  simp only [strings_Split, c_strings_genSplit s c hs, callS_canon, callL_canon, Option.map_some, Option.bind_some, shape_one, shape_agg, shape_nil, cellsAt_0, cellsAt_1, cellsAt_2, cellsAt_3, cells_one, cells_agg, cB_zero, cI_zero, cS_zero, cC_zero, cB_cons, cI_cons, cS_cons, cC_cons, cond_true, cond_false, List.length_cons, List.length_nil, beq_self_eq_true, Bool.and_true, Bool.true_and, lenC_encL, lenC_lst, deref_ref, emptyK_nil, bs_size, bs_toList]
def isPath (b : UInt8) : Bool := isSmall b || (isFigure b || (b == 46 || (b == 45 || b == 95)))
def fileOk (s : Str) : Bool := s.all isPath && (inR s.length 1 12 && (!(s == [46]) && !(s == [46, 46])))
theorem c_spec_l5Letter (b : UInt8) : out run_spec_l5Letter [.one (.sc (.int .u8 (b.toNat : Int)))] = some [.one (Cell.bool (isPath b))] := by
  refine out_of (H := []) (run_spec_l5Letter_of 0 ?_)
  simp only [spec_l5Letter, c_spec_l1Small, c_spec_l1Digit, callS_canon, callL_canon, Option.map_some, Option.bind_some, shape_one, shape_agg, shape_nil, cellsAt_0, cellsAt_1, cellsAt_2, cellsAt_3, cells_one, cells_agg, cB_zero, cI_zero, cS_zero, cC_zero, cB_cons, cI_cons, cS_cons, cC_cons, cond_true, cond_false, List.length_cons, List.length_nil, beq_self_eq_true, Bool.and_true, Bool.true_and, lenC_encL, lenC_lst, deref_ref, emptyK_nil, bs_size, bs_toList]
  rw [show ((b.toNat : Int) == 46) = (b == 46) from u8_eq b 46 (by omega), show ((b.toNat : Int) == 45) = (b == 45) from u8_eq b 45 (by omega), show ((b.toNat : Int) == 95) = (b == 95) from u8_eq b 95 (by omega)]
  unfold isPath
  cases isSmall b <;> cases isFigure b <;> cases b == 46 <;> cases b == 45 <;> cases b == 95 <;> rfl
theorem c_impl_isPathByte (b : UInt8) : out run_impl_isPathByte [.one (.sc (.int .u8 (b.toNat : Int)))] = some [.one (Cell.bool (isPath b))] := by
  refine out_of (H := []) (run_impl_isPathByte_of 0 ?_)
  simp only [impl_isPathByte, c_impl_isSmall, c_impl_isFigure, callS_canon, callL_canon, Option.map_some, Option.bind_some, shape_one, shape_agg, shape_nil, cellsAt_0, cellsAt_1, cellsAt_2, cellsAt_3, cells_one, cells_agg, cB_zero, cI_zero, cS_zero, cC_zero, cB_cons, cI_cons, cS_cons, cC_cons, cond_true, cond_false, List.length_cons, List.length_nil, beq_self_eq_true, Bool.and_true, Bool.true_and, lenC_encL, lenC_lst, deref_ref, emptyK_nil, bs_size, bs_toList]
  rw [show ((b.toNat : Int) == 46) = (b == 46) from u8_eq b 46 (by omega), show ((b.toNat : Int) == 45) = (b == 45) from u8_eq b 45 (by omega), show ((b.toNat : Int) == 95) = (b == 95) from u8_eq b 95 (by omega)]
  unfold isPath
  cases isSmall b <;> cases isFigure b <;> cases b == 46 <;> cases b == 45 <;> cases b == 95 <;> rfl
theorem c_spec_l5Name (s : Str) (hs : s.length ≤ 1073741824) : out run_spec_l5Name [.one (Cell.str (bs s))] = some [.one (Cell.bool (fileOk s))] := by
  have hM := maxLen_eq
  have loop : ∀ (r : Str) (i n : Nat), s.drop i = r → r.length < n → ∀ k m, spec_l5Name_l0 k m n (bs s) i = some ([.one (Cell.bool (r.all isPath && (inR s.length 1 12 && (!(s == [46]) && !(s == [46, 46])))))], []) := by
    intro r
    induction r with
    | nil =>
      intro i n hd hn k m
      obtain ⟨n, rfl⟩ : ∃ j, n = j + 1 := ⟨n - 1, by omega⟩
      have := drop_nil hd
      simp only [spec_l5Name_l0, bs_size]
      rw [decide_eq_false (by omega), cond_false]
      simp only [c_spec_l1In, callS_canon, callL_canon, Option.map_some, Option.bind_some, shape_one, shape_agg, shape_nil, cellsAt_0, cellsAt_1, cellsAt_2, cellsAt_3, cells_one, cells_agg, cB_zero, cI_zero, cS_zero, cC_zero, cB_cons, cI_cons, cS_cons, cC_cons, cond_true, cond_false, List.length_cons, List.length_nil, beq_self_eq_true, Bool.and_true, Bool.true_and, lenC_encL, lenC_lst, deref_ref, emptyK_nil, bs_size, bs_toList]
      cases inR (s.length : Int) 1 12 <;> cases s == [46] <;> cases s == [46, 46] <;> rfl
    | cons b r ih =>
      intro i n hd hn k m
      obtain ⟨n, rfl⟩ : ∃ j, n = j + 1 := ⟨n - 1, by omega⟩
      obtain ⟨hlt, hg, hd'⟩ := drop_cons hd
      simp only [List.length_cons] at hn
      simp only [spec_l5Name_l0, bs_size, bytS_bs, hg, Option.map_some, c_spec_l5Letter, callS_canon, callL_canon, Option.map_some, Option.bind_some, shape_one, shape_agg, shape_nil, cellsAt_0, cellsAt_1, cellsAt_2, cellsAt_3, cells_one, cells_agg, cB_zero, cI_zero, cS_zero, cC_zero, cB_cons, cI_cons, cS_cons, cC_cons, cond_true, cond_false, List.length_cons, List.length_nil, beq_self_eq_true, Bool.and_true, Bool.true_and, lenC_encL, lenC_lst, deref_ref, emptyK_nil, bs_size, bs_toList]
      rw [decide_eq_true (by omega), cond_true, wrap_succ (by omega), ih (i + 1) n hd' (by omega)]
      cases hb : isPath b <;> simp [hb]
  refine out_of (H := []) (run_spec_l5Name_of (s.length + 1) ?_)
  have := loop s 0 (s.length + 1 + 1) rfl (by omega) (s.length + 1 + 1) (s.length + 1 + 1)
  simpa [spec_l5Name, fileOk] using this
theorem c_impl_fileNameOk (s : Str) (hs : s.length ≤ 1073741824) : out run_impl_fileNameOk [.one (Cell.str (bs s))] = some [.one (Cell.bool (fileOk s))] := by
  have hM := maxLen_eq
  have loop : ∀ (r : Str) (i n : Nat), s.drop i = r → r.length < n → ∀ k m, impl_fileNameOk_l0 k m n (bs s) i = some ([.one (Cell.bool (r.all isPath && (inR s.length 1 12 && (!(s == [46]) && !(s == [46, 46])))))], []) := by
    intro r
    induction r with
    | nil =>
      intro i n hd hn k m
      obtain ⟨n, rfl⟩ : ∃ j, n = j + 1 := ⟨n - 1, by omega⟩
      have := drop_nil hd
      simp only [impl_fileNameOk_l0, bs_size]
      rw [decide_eq_false (by omega), cond_false]
      simp only [c_impl_inRange, callS_canon, callL_canon, Option.map_some, Option.bind_some, shape_one, shape_agg, shape_nil, cellsAt_0, cellsAt_1, cellsAt_2, cellsAt_3, cells_one, cells_agg, cB_zero, cI_zero, cS_zero, cC_zero, cB_cons, cI_cons, cS_cons, cC_cons, cond_true, cond_false, List.length_cons, List.length_nil, beq_self_eq_true, Bool.and_true, Bool.true_and, lenC_encL, lenC_lst, deref_ref, emptyK_nil, bs_size, bs_toList]
      cases inR (s.length : Int) 1 12 <;> cases s == [46] <;> cases s == [46, 46] <;> rfl
    | cons b r ih =>
      intro i n hd hn k m
      obtain ⟨n, rfl⟩ : ∃ j, n = j + 1 := ⟨n - 1, by omega⟩
      obtain ⟨hlt, hg, hd'⟩ := drop_cons hd
      simp only [List.length_cons] at hn
      simp only [impl_fileNameOk_l0, bs_size, bytS_bs, hg, Option.map_some, c_impl_isPathByte, callS_canon, callL_canon, Option.map_some, Option.bind_some, shape_one, shape_agg, shape_nil, cellsAt_0, cellsAt_1, cellsAt_2, cellsAt_3, cells_one, cells_agg, cB_zero, cI_zero, cS_zero, cC_zero, cB_cons, cI_cons, cS_cons, cC_cons, cond_true, cond_false, List.length_cons, List.length_nil, beq_self_eq_true, Bool.and_true, Bool.true_and, lenC_encL, lenC_lst, deref_ref, emptyK_nil, bs_size, bs_toList]
      rw [decide_eq_true (by omega), cond_true, wrap_succ (by omega), ih (i + 1) n hd' (by omega)]
      cases hb : isPath b <;> simp [hb]
  refine out_of (H := []) (run_impl_fileNameOk_of (s.length + 1) ?_)
  have := loop s 0 (s.length + 1 + 1) rfl (by omega) (s.length + 1 + 1) (s.length + 1 + 1)
  simpa [impl_fileNameOk, fileOk] using this
def hasNil (W : List Str) : Bool := W.contains []
theorem hasNil_mem (W : List Str) : hasNil W = true ↔ [] ∈ W := by unfold hasNil; simp
theorem hasNil_cons (w : Str) (W : List Str) : hasNil (w :: W) = ((w == []) || hasNil W) := by
  unfold hasNil
  rw [List.contains_cons]
  cases w <;> rfl
theorem c_spec_l15Full (xs : List Str) (hx : xs.length ≤ 1073741824) : out run_spec_l15Full [.one (strsC xs)] = some [.one (Cell.bool (!hasNil xs))] := by
  have hM := maxLen_eq
  have loop : ∀ (r : List Str) (i n : Nat), xs.drop i = r → r.length < n → ∀ k m, spec_l15Full_l0 k m n (strsC xs) i = some ([.one (Cell.bool (!hasNil r))], []) := by
    intro r
    induction r with
    | nil =>
      intro i n hd hn k m
      obtain ⟨n, rfl⟩ : ∃ j, n = j + 1 := ⟨n - 1, by omega⟩
      have := drop_nil hd
      simp only [spec_l15Full_l0, lenC_encL, Option.bind_some]
      rw [decide_eq_false (by omega), cond_false]
      rfl
    | cons b r ih =>
      intro i n hd hn k m
      obtain ⟨n, rfl⟩ : ∃ j, n = j + 1 := ⟨n - 1, by omega⟩
      obtain ⟨hlt, hg, hd'⟩ := drop_cons hd
      simp only [List.length_cons] at hn
      simp only [spec_l15Full_l0, idxA_encL, hg, eStr, callS_canon, callL_canon, Option.map_some, Option.bind_some, shape_one, shape_agg, shape_nil, cellsAt_0, cellsAt_1, cellsAt_2, cellsAt_3, cells_one, cells_agg, cB_zero, cI_zero, cS_zero, cC_zero, cB_cons, cI_cons, cS_cons, cC_cons, cond_true, cond_false, List.length_cons, List.length_nil, beq_self_eq_true, Bool.and_true, Bool.true_and, lenC_encL, lenC_lst, deref_ref, emptyK_nil, bs_size, bs_toList]
      rw [decide_eq_true (by omega), cond_true, wrap_succ (by omega), ih (i + 1) n hd' (by omega), hasNil_cons]
      cases b <;> rfl
  refine out_of (H := []) (run_spec_l15Full_of (xs.length + 1) ?_)
  have := loop xs 0 (xs.length + 1 + 1) rfl (by omega) (xs.length + 1 + 1) (xs.length + 1 + 1)
  simpa [spec_l15Full] using this
def intoB (W : List Str) : Bool := decide (2 ≤ W.length) && (W[W.length - 2]? == some [62])
theorem last_at {W : List Str} (h : 0 < W.length) (k : Nat) (hk : k < W.length) : ∃ x, W[k]? = some x := ⟨W[k], List.getElem?_eq_getElem hk⟩
theorem wrap_sub {n k : Nat} (h : k ≤ n) (hn : n ≤ 1073741824 + 1) : IntKind.i64.wrap ((n : Int) - (k : Int)) = ((n - k : Nat) : Int) := by
  rw [wrap_small (by omega) (by omega)]
  omega
theorem slc_take (W : List Str) (n : Nat) (h : n ≤ W.length) : ∃ f, slcC 1 (strsC W) 0 (some (n : Int)) none = some (.lst f 1 ((W.take n).map eStr)) := by
  refine ⟨fullOf false none (n : Int) (W.length : Int), ?_⟩
  simp only [slcC, encL, Option.getD_some, Option.getD_none, List.length_map]
  rw [if_pos (.inl trivial), if_pos ⟨by omega, by omega, by omega, by omega⟩]
  simp [List.map_take]
theorem slc_drop (W : List Str) (n : Nat) (h : n ≤ W.length) : ∃ f, slcC 1 (strsC W) (n : Int) none none = some (.lst f 1 ((W.drop n).map eStr)) := by
  refine ⟨fullOf false none (W.length : Int) (W.length : Int), ?_⟩
  simp only [slcC, encL, Option.getD_none, List.length_map]
  rw [if_pos (.inl trivial), if_pos ⟨by omega, by omega, by omega, by omega⟩]
  simp [List.map_drop, List.take_of_length_le]
theorem reify_rows (f : Bool) (xs : List Str) (H : List Entry) : reifyAV false H (.one (.lst f 1 (xs.map eStr))) = some (.one (strsC xs)) := by
  have h := (inferInstance : Canon (strsC xs)).nrm
  have e : norm (.lst f 1 (xs.map eStr)) = norm (strsC xs) := by simp only [encL, norm]
  show ((some (norm (.lst f 1 (xs.map eStr)))).map AV.one) = _
  rw [e, h]
  rfl
theorem c_spec_l15Words (s : Str) (hs : s.length ≤ 1073741823) : outL run_spec_l15Words [.one (Cell.str (bs s))] = some (cond (intoB (split 32 s)) [.one (strsC ((split 32 s).take ((split 32 s).length - 2))), .one (Cell.str (bs (((split 32 s)[(split 32 s).length - 1]?).getD [])))] [.one (strsC (split 32 s)), .one (Cell.str (bs []))]) := by
  have hM := maxLen_eq
  have e0 := c_spec_Split s 32 (by omega)
  have hl := split_len 32 s.length s (Nat.le_refl _)
  have hct : s.count 32 ≤ s.length := List.count_le_length
  have e0' : outL run_spec_Split [.one (Cell.str (bs s)), .one (.sc (.int .u8 32))] = some [.one (strsC (split 32 s))] := e0
  generalize split 32 s = W at *
  unfold intoB
  by_cases h2 : 2 ≤ W.length
  · obtain ⟨x, hx⟩ := last_at (W := W) (by omega) (W.length - 2) (by omega)
    obtain ⟨y, hy⟩ := last_at (W := W) (by omega) (W.length - 1) (by omega)
    obtain ⟨f, hf⟩ := slc_take W (W.length - 2) (by omega)
    rw [decide_eq_true h2, Bool.true_and, hx, hy]
    have e1 := wrap_sub (n := W.length) (k := 2) h2 (by omega)
    have e2 := wrap_sub (n := W.length) (k := 1) (by omega) (by omega)
    by_cases hg : x = [62]
    · subst hg
      refine outL_of (H := []) (run_spec_l15Words_of 0 ?_) (?_ : mapO (reifyAV false []) [.one (.lst f 1 ((W.take (W.length - 2)).map eStr)), .one (Cell.str (bs y))] = _)
      · simp only [spec_l15Words, e0', callS_canon, callL_canon, Option.map_some, Option.bind_some, shape_one, shape_agg, shape_nil, cellsAt_0, cellsAt_1, cellsAt_2, cellsAt_3, cells_one, cells_agg, cB_zero, cI_zero, cS_zero, cC_zero, cB_cons, cI_cons, cS_cons, cC_cons, cond_true, cond_false, List.length_cons, List.length_nil, beq_self_eq_true, Bool.and_true, Bool.true_and, lenC_encL, lenC_lst, deref_ref, emptyK_nil, bs_size, bs_toList]
        rw [decide_eq_true (by omega), cond_true]
        simp only [show IntKind.i64.wrap ((W.length : Int) - 2) = ((W.length - 2 : Nat) : Int) from e1, show IntKind.i64.wrap ((W.length : Int) - 1) = ((W.length - 1 : Nat) : Int) from e2, idxA_encL, hx, hy, hf, eStr, callS_canon, callL_canon, Option.map_some, Option.bind_some, shape_one, shape_agg, shape_nil, cellsAt_0, cellsAt_1, cellsAt_2, cellsAt_3, cells_one, cells_agg, cB_zero, cI_zero, cS_zero, cC_zero, cB_cons, cI_cons, cS_cons, cC_cons, cond_true, cond_false, List.length_cons, List.length_nil, beq_self_eq_true, Bool.and_true, Bool.true_and, lenC_encL, lenC_lst, deref_ref, emptyK_nil, bs_size, bs_toList]
      · rw [mapO_c (reify_rows f _ _) (mapO_c (reifyAV_canon _ _ _) (mapO_nil' _))]
        simp
    · rw [show ((some x : Option Str) == some [62]) = false by simpa using hg, cond_false]
      refine outL_canon (H := []) (run_spec_l15Words_of 0 ?_)
      simp only [spec_l15Words, e0', callS_canon, callL_canon, Option.map_some, Option.bind_some, shape_one, shape_agg, shape_nil, cellsAt_0, cellsAt_1, cellsAt_2, cellsAt_3, cells_one, cells_agg, cB_zero, cI_zero, cS_zero, cC_zero, cB_cons, cI_cons, cS_cons, cC_cons, cond_true, cond_false, List.length_cons, List.length_nil, beq_self_eq_true, Bool.and_true, Bool.true_and, lenC_encL, lenC_lst, deref_ref, emptyK_nil, bs_size, bs_toList]
      rw [decide_eq_true (by omega), cond_true]
      simp only [show IntKind.i64.wrap ((W.length : Int) - 2) = ((W.length - 2 : Nat) : Int) from e1, idxA_encL, hx, eStr, callS_canon, callL_canon, Option.map_some, Option.bind_some, shape_one, shape_agg, shape_nil, cellsAt_0, cellsAt_1, cellsAt_2, cellsAt_3, cells_one, cells_agg, cB_zero, cI_zero, cS_zero, cC_zero, cB_cons, cI_cons, cS_cons, cC_cons, cond_true, cond_false, List.length_cons, List.length_nil, beq_self_eq_true, Bool.and_true, Bool.true_and, lenC_encL, lenC_lst, deref_ref, emptyK_nil, bs_size, bs_toList]
      rw [show (x == [62]) = false by simpa using hg, cond_false]
  · rw [decide_eq_false h2, Bool.false_and, cond_false]
    refine outL_canon (H := []) (run_spec_l15Words_of 0 ?_)
    simp only [spec_l15Words, e0', callS_canon, callL_canon, Option.map_some, Option.bind_some, shape_one, shape_agg, shape_nil, cellsAt_0, cellsAt_1, cellsAt_2, cellsAt_3, cells_one, cells_agg, cB_zero, cI_zero, cS_zero, cC_zero, cB_cons, cI_cons, cS_cons, cC_cons, cond_true, cond_false, List.length_cons, List.length_nil, beq_self_eq_true, Bool.and_true, Bool.true_and, lenC_encL, lenC_lst, deref_ref, emptyK_nil, bs_size, bs_toList]
    rw [decide_eq_false (by omega), cond_false]
theorem c_spec_l15Into (s : Str) (hs : s.length ≤ 1073741823) : out run_spec_l15Into [.one (Cell.str (bs s))] = some [.one (Cell.bool (intoB (split 32 s)))] := by
  have e0 : outL run_spec_Split [.one (Cell.str (bs s)), .one (.sc (.int .u8 32))] = some [.one (strsC (split 32 s))] := c_spec_Split s 32 (by omega)
  have hl := split_len 32 s.length s (Nat.le_refl _)
  have hct : s.count 32 ≤ s.length := List.count_le_length
  generalize split 32 s = W at *
  unfold intoB
  refine out_of (H := []) (run_spec_l15Into_of 0 ?_)
  simp only [spec_l15Into, e0, callS_canon, callL_canon, Option.map_some, Option.bind_some, shape_one, shape_agg, shape_nil, cellsAt_0, cellsAt_1, cellsAt_2, cellsAt_3, cells_one, cells_agg, cB_zero, cI_zero, cS_zero, cC_zero, cB_cons, cI_cons, cS_cons, cC_cons, cond_true, cond_false, List.length_cons, List.length_nil, beq_self_eq_true, Bool.and_true, Bool.true_and, lenC_encL, lenC_lst, deref_ref, emptyK_nil, bs_size, bs_toList]
  by_cases h2 : 2 ≤ W.length
  · obtain ⟨x, hx⟩ := last_at (W := W) (by omega) (W.length - 2) (by omega)
    rw [decide_eq_true (by omega), cond_true, decide_eq_true h2, Bool.true_and, hx]
    simp only [show IntKind.i64.wrap ((W.length : Int) - 2) = ((W.length - 2 : Nat) : Int) from wrap_sub h2 (by omega), idxA_encL, hx, eStr, callS_canon, callL_canon, Option.map_some, Option.bind_some, shape_one, shape_agg, shape_nil, cellsAt_0, cellsAt_1, cellsAt_2, cellsAt_3, cells_one, cells_agg, cB_zero, cI_zero, cS_zero, cC_zero, cB_cons, cI_cons, cS_cons, cC_cons, cond_true, cond_false, List.length_cons, List.length_nil, beq_self_eq_true, Bool.and_true, Bool.true_and, lenC_encL, lenC_lst, deref_ref, emptyK_nil, bs_size, bs_toList]
    rfl
  · rw [decide_eq_false (by omega), cond_false, decide_eq_false h2]
    rfl
def actKind (w : Str) (n : Nat) (into : Bool) : Bool :=
  bif w == [112, 117, 116] then decide (2 ≤ n) && into
  else bif w == [99, 97, 116] then inR n 2 4 && into
  else bif w == [101, 110, 118] then decide (n = 2) && into
  else bif w == [117, 115, 101] then decide (n = 3) && into
  else bif w == [108, 111, 103] then decide (2 ≤ n) && !into
  else bif w == [102, 97, 105, 108] then decide (n = 1) && !into
  else false
def actW (W : List Str) : Bool := !hasNil W && bif decide (3 ≤ W.length) && (W[W.length - 2]? == some [62]) then fileOk ((W[W.length - 1]?).getD []) && actKind ((W[0]?).getD []) (W.length - 2) true else actKind ((W[0]?).getD []) W.length false
def actOk (s : Str) : Bool := actW (split 32 s)
theorem leafC (a b : Bool) (H : List Entry) : cond a (some ([AV.one (Cell.bool b)], H)) (some ([AV.one (Cell.bool false)], H)) = some ([AV.one (Cell.bool (a && b))], H) := by cases a <;> rfl
theorem n_ge (n k : Nat) : decide ((n : Int) ≥ (k : Int)) = decide (k ≤ n) := by rw [decide_eq_decide]; omega
theorem n_gt (n k : Nat) : decide ((n : Int) > (k : Int)) = decide (k < n) := by rw [decide_eq_decide]; omega
theorem n_eq (n k : Nat) : ((n : Int) == (k : Int)) = decide (n = k) := by rw [Bool.eq_iff_iff]; simp; omega
def kindS (w : Str) (n : Nat) (to lg : Bool) : Bool :=
  bif w == [112, 117, 116] then decide (2 ≤ n) && to
  else bif w == [99, 97, 116] then inR n 2 4 && to
  else bif w == [101, 110, 118] then decide (n = 2) && to
  else bif w == [117, 115, 101] then decide (n = 3) && to
  else bif w == [108, 111, 103] then decide (2 ≤ n) && lg
  else bif w == [102, 97, 105, 108] then decide (n = 1) && lg
  else false
theorem kindS_true (w : Str) (n : Nat) : kindS w n true false = actKind w n true := by
  unfold kindS actKind
  rfl
theorem kindS_false (w : Str) (n : Nat) : kindS w n false true = actKind w n false := by
  unfold kindS actKind
  rfl
theorem kindS_none (w : Str) (n : Nat) : kindS w n false false = false := by
  unfold kindS
  simp
def specB : List Str → Str → Bool → Bool
  | [], _, _ => false
  | w :: l, y, b => !hasNil (w :: l) && kindS w (l.length + 1) (fileOk y) (y == [] && !b)
theorem w_spec_ActOk (s : Str) (l : List Str) (y : Str) (b : Bool) (hl : l.length ≤ 1073741824) (hy : y.length ≤ 1073741824) (e0 : outL run_spec_l15Words [.one (Cell.str (bs s))] = some [.one (strsC l), .one (Cell.str (bs y))]) (e1 : out run_spec_l15Into [.one (Cell.str (bs s))] = some [.one (Cell.bool b)]) :
    out run_spec_ActOk [.one (Cell.str (bs s))] = some [.one (Cell.bool (specB l y b))] := by
  refine out_of (H := []) (run_spec_ActOk_of 0 ?_)
  cases l with
  | nil =>
    simp only [spec_ActOk, e0, c_spec_l15Full [] (by simp), callS_canon, callL_canon, Option.map_some, Option.bind_some, shape_one, shape_agg, shape_nil, cellsAt_0, cellsAt_1, cellsAt_2, cellsAt_3, cells_one, cells_agg, cB_zero, cI_zero, cS_zero, cC_zero, cB_cons, cI_cons, cS_cons, cC_cons, cond_true, cond_false, List.length_cons, List.length_nil, beq_self_eq_true, Bool.and_true, Bool.true_and, lenC_encL, lenC_lst, deref_ref, emptyK_nil, bs_size, bs_toList]
    rfl
  | cons w l =>
    have hi : idxA 1 (strsC (w :: l)) 0 = some (.ref (eStr w) 0) := idxA_encL 1 eStr (w :: l) 0
    simp only [spec_ActOk, e0, c_spec_l15Full (w :: l) hl, c_spec_l5Name y hy, hi, c_spec_l1In, e1, eStr, callS_canon, callL_canon, Option.map_some, Option.bind_some, shape_one, shape_agg, shape_nil, cellsAt_0, cellsAt_1, cellsAt_2, cellsAt_3, cells_one, cells_agg, cB_zero, cI_zero, cS_zero, cC_zero, cB_cons, cI_cons, cS_cons, cC_cons, cond_true, cond_false, List.length_cons, List.length_nil, beq_self_eq_true, Bool.and_true, Bool.true_and, lenC_encL, lenC_lst, deref_ref, emptyK_nil, bs_size, bs_toList]
    cases hh : hasNil (w :: l) with
    | true => simp only [specB, hh, Bool.not_true, Bool.not_false, cond_true, Bool.false_and]
    | false =>
      rw [show (((l.length + 1 : Nat) : Int) == 0) = false by simp; omega]
      simp only [specB, hh, Bool.not_false, Bool.not_true, cond_false, cond_true, Bool.true_and]
      have g2 : decide (((l.length + 1 : Nat) : Int) ≥ 2) = decide (2 ≤ l.length + 1) := n_ge (l.length + 1) 2
      have q2 : (((l.length + 1 : Nat) : Int) == 2) = decide (l.length + 1 = 2) := n_eq (l.length + 1) 2
      have q3 : (((l.length + 1 : Nat) : Int) == 3) = decide (l.length + 1 = 3) := n_eq (l.length + 1) 3
      have q1 : (((l.length + 1 : Nat) : Int) == 1) = decide (l.length + 1 = 1) := n_eq (l.length + 1) 1
      rw [g2, q2, q3, q1]
      unfold kindS
      cases w == [112, 117, 116] with
      | true => exact leafC _ _ _
      | false =>
        cases w == [99, 97, 116] with
        | true => exact leafC _ _ _
        | false =>
          cases w == [101, 110, 118] with
          | true => exact leafC _ _ _
          | false =>
            cases w == [117, 115, 101] with
            | true => exact leafC _ _ _
            | false =>
              cases w == [108, 111, 103] with
              | true =>
                simp only [cond_true, cond_false]
                rw [leafC, leafC]
              | false =>
                cases w == [102, 97, 105, 108] with
                | true =>
                  simp only [cond_true, cond_false]
                  rw [leafC, leafC]
                | false => rfl
theorem c_spec_ActOk (s : Str) (hs : s.length ≤ 1073741823) : out run_spec_ActOk [.one (Cell.str (bs s))] = some [.one (Cell.bool (actOk s))] := by
  have hM := maxLen_eq
  have e0 := c_spec_l15Words s hs
  have e1 := c_spec_l15Into s hs
  have hl := split_len 32 s.length s (Nat.le_refl _)
  have hct : s.count 32 ≤ s.length := List.count_le_length
  have hlen : ∀ x ∈ split 32 s, x.length ≤ 1073741824 := fun x hx => Nat.le_trans ((splitGo_length 32 s []).2 x hx) (by simp; omega)
  unfold actOk
  generalize split 32 s = W at *
  cases hb : intoB W with
  | false =>
    rw [hb] at e0 e1
    rw [w_spec_ActOk s W [] false (by omega) (by simp) e0 e1]
    cases W with
    | nil => simp at hl
    | cons w l =>
      simp only [specB, actW]
      have hnot : (decide (3 ≤ (w :: l).length) && ((w :: l)[(w :: l).length - 2]? == some [62])) = false := by
        unfold intoB at hb
        cases h : ((w :: l)[(w :: l).length - 2]? == some [62]) with
        | false => simp
        | true =>
          rw [h, Bool.and_true] at hb
          have := of_decide_eq_false hb
          rw [decide_eq_false (by omega)]
          rfl
      rw [hnot, cond_false, show fileOk [] = false from rfl, show (([] : Str) == []) = true from rfl, Bool.not_false, Bool.and_true, kindS_false]
      rfl
  | true =>
    rw [hb] at e0 e1
    unfold intoB at hb
    simp only [Bool.and_eq_true, decide_eq_true_eq, beq_iff_eq] at hb
    obtain ⟨h2, hx⟩ := hb
    obtain ⟨y, hy⟩ := last_at (W := W) (by omega) (W.length - 1) (by omega)
    have e0' : outL run_spec_l15Words [.one (Cell.str (bs s))] = some [.one (strsC (W.take (W.length - 2))), .one (Cell.str (bs y))] := by
      rw [e0, hy]
      rfl
    rw [w_spec_ActOk s (W.take (W.length - 2)) y true (by simp; omega) (hlen y (List.mem_of_getElem? hy)) e0' e1]
    have hW : W = W.take (W.length - 2) ++ [[62], y] := by
      have h1 : W.drop (W.length - 2) = [[62], y] := by
        rw [List.drop_eq_getElem_cons (by omega), List.drop_eq_getElem_cons (by omega)]
        rw [List.getElem?_eq_getElem (by omega)] at hx hy
        simp only [Option.some.injEq] at hx hy
        have e3 : W.length - 2 + 1 = W.length - 1 := by omega
        simp only [e3, hx, hy]
        rw [List.drop_eq_nil_of_le (by omega)]
      conv => lhs; rw [← List.take_append_drop (W.length - 2) W]
      rw [h1]
    unfold actW
    rw [hx, hy, show ((some [62] : Option Str) == some [62]) = true by decide, Bool.and_true, Option.getD_some]
    generalize hT : W.take (W.length - 2) = T at hW
    have hTl : W.length = T.length + 2 := by rw [hW]; simp
    cases T with
    | nil =>
      rw [hW]
      simp only [specB]
      rw [show decide (3 ≤ ([] ++ [[62], y] : List Str).length) = false from rfl, cond_false]
      rw [show actKind (([] ++ [[62], y] : List Str)[0]?.getD []) ([] ++ [[62], y] : List Str).length false = false from rfl, Bool.and_false]
    | cons w l =>
      rw [decide_eq_true (by rw [hTl]; simp), cond_true]
      have h0 : W[0]? = some w := by rw [hW]; rfl
      rw [h0, Option.getD_some]
      simp only [specB, Bool.not_true, Bool.and_false]
      rw [show W.length - 2 = l.length + 1 by rw [hTl]; simp]
      have hc : hasNil W = (hasNil (w :: l) || (y == [])) := by
        rw [Bool.eq_iff_iff, Bool.or_eq_true, hasNil_mem, hasNil_mem, hW]
        cases y <;> simp
      rw [hc]
      cases hy0 : y == [] with
      | true =>
        have : y = [] := by simpa using hy0
        subst this
        rw [show fileOk [] = false from rfl, kindS_none]
        simp
      | false =>
        rw [Bool.or_false]
        cases fileOk y with
        | true => rw [kindS_true, Bool.true_and]
        | false => rw [kindS_none, Bool.false_and]
def kindI (w : Str) (n : Nat) (to lg : Bool) : Bool :=
  bif w == [112, 117, 116] then decide (0 < n) && to
  else bif w == [99, 97, 116] then inR n 1 3 && to
  else bif w == [101, 110, 118] then decide (n = 1) && to
  else bif w == [117, 115, 101] then decide (n = 2) && to
  else bif w == [108, 111, 103] then decide (0 < n) && lg
  else bif w == [102, 97, 105, 108] then decide (n = 0) && lg
  else false
theorem leafA (a b : Bool) (A : AV) (H : List Entry) : cond a (some ([A, AV.one (Cell.bool b)], H)) (some ([A, AV.one (Cell.bool false)], H)) = some ([A, AV.one (Cell.bool (a && b))], H) := by cases a <;> rfl
theorem chainI (w : Str) (n : Nat) (A : AV) (to lg : Bool) (H : List Entry) :
    cond (w == [112, 117, 116]) (cond (decide ((n : Int) > 0)) (some ([A, AV.one (Cell.bool to)], H)) (some ([A, AV.one (Cell.bool false)], H)))
      (cond (w == [99, 97, 116]) (cond (inR (n : Int) 1 3) (some ([A, AV.one (Cell.bool to)], H)) (some ([A, AV.one (Cell.bool false)], H)))
        (cond (w == [101, 110, 118]) (cond ((n : Int) == 1) (some ([A, AV.one (Cell.bool to)], H)) (some ([A, AV.one (Cell.bool false)], H)))
          (cond (w == [117, 115, 101]) (cond ((n : Int) == 2) (some ([A, AV.one (Cell.bool to)], H)) (some ([A, AV.one (Cell.bool false)], H)))
            (cond (w == [108, 111, 103]) (cond (decide ((n : Int) > 0)) (some ([A, AV.one (Cell.bool lg)], H)) (some ([A, AV.one (Cell.bool false)], H)))
              (cond (w == [102, 97, 105, 108]) (cond ((n : Int) == 0) (some ([A, AV.one (Cell.bool lg)], H)) (some ([A, AV.one (Cell.bool false)], H)))
                (some ([A, AV.one (Cell.bool false)], H))))))) = some ([A, AV.one (Cell.bool (kindI w n to lg))], H) := by
  have g0 : decide ((n : Int) > 0) = decide (0 < n) := n_gt n 0
  have q0 : ((n : Int) == 0) = decide (n = 0) := n_eq n 0
  have q1 : ((n : Int) == 1) = decide (n = 1) := n_eq n 1
  have q2 : ((n : Int) == 2) = decide (n = 2) := n_eq n 2
  rw [g0, q0, q1, q2]
  unfold kindI
  cases w == [112, 117, 116] with
  | true => exact leafA _ _ _ _
  | false =>
    cases w == [99, 97, 116] with
    | true => exact leafA _ _ _ _
    | false =>
      cases w == [101, 110, 118] with
      | true => exact leafA _ _ _ _
      | false =>
        cases w == [117, 115, 101] with
        | true => exact leafA _ _ _ _
        | false =>
          cases w == [108, 111, 103] with
          | true => exact leafA _ _ _ _
          | false =>
            cases w == [102, 97, 105, 108] with
            | true => exact leafA _ _ _ _
            | false => rfl
theorem inR_shift (n k a b : Nat) : inR (n : Int) (a : Int) (b : Int) = inR ((n + k : Nat) : Int) ((a + k : Nat) : Int) ((b + k : Nat) : Int) := by
  unfold inR
  have h1 : decide ((a : Int) ≤ (n : Int)) = decide (((a + k : Nat) : Int) ≤ ((n + k : Nat) : Int)) := by rw [decide_eq_decide]; omega
  have h2 : decide ((n : Int) ≤ (b : Int)) = decide (((n + k : Nat) : Int) ≤ ((b + k : Nat) : Int)) := by rw [decide_eq_decide]; omega
  rw [h1, h2]
theorem kindI_true (w : Str) (n : Nat) : kindI w n true false = actKind w (n + 1) true := by
  unfold kindI actKind
  have h1 : decide (0 < n) = decide (2 ≤ n + 1) := by rw [decide_eq_decide]; omega
  have h2 : decide (n = 1) = decide (n + 1 = 2) := by rw [decide_eq_decide]; omega
  have h3 : decide (n = 2) = decide (n + 1 = 3) := by rw [decide_eq_decide]; omega
  have h4 : inR (n : Int) 1 3 = inR ((n + 1 : Nat) : Int) 2 4 := inR_shift n 1 1 3
  rw [h1, h2, h3, h4]
  simp
theorem kindI_false (w : Str) (n : Nat) : kindI w n false true = actKind w (n + 1) false := by
  unfold kindI actKind
  have h1 : decide (0 < n) = decide (2 ≤ n + 1) := by rw [decide_eq_decide]; omega
  have h2 : decide (n = 0) = decide (n + 1 = 1) := by rw [decide_eq_decide]; omega
  rw [h1, h2]
  simp
theorem w_impl_actOf (s : Str) (hs : s.length ≤ 1073741823) : ∃ x c y, outL run_impl_actOf [.one (Cell.str (bs s))] = some [.agg [Cell.str x, c, Cell.str y], .one (Cell.bool (actOk s))] := by
  have hM := maxLen_eq
  have e0 := c_strings_Split s 32 (by omega)
  have hl := split_len 32 s.length s (Nat.le_refl _)
  have hct : s.count 32 ≤ s.length := List.count_le_length
  have hlen : ∀ x ∈ split 32 s, x.length ≤ 1073741824 := fun x hx => Nat.le_trans ((splitGo_length 32 s []).2 x hx) (by simp; omega)
  unfold actOk
  generalize split 32 s = W at *
  have e1 : out run_slices_Contains_string [.one (strsC W), .one (Cell.str (bs []))] = some [.one (Cell.bool (hasNil W))] := c_slices_Contains_string W [] (by omega)
  cases hc : hasNil W with
  | true =>
    rw [hc] at e1
    refine ⟨bs [], strsC [], bs [], outL_of (H := []) (xs := [.agg [Cell.str (bs []), .lst true 1 [], Cell.str (bs [])], .one (Cell.bool false)]) (run_impl_actOf_of 0 ?_) ?_⟩
    · simp only [impl_actOf, e0, e1, callS_canon, callL_canon, Option.map_some, Option.bind_some, shape_one, shape_agg, shape_nil, cellsAt_0, cellsAt_1, cellsAt_2, cellsAt_3, cells_one, cells_agg, cB_zero, cI_zero, cS_zero, cC_zero, cB_cons, cI_cons, cS_cons, cC_cons, cond_true, cond_false, List.length_cons, List.length_nil, beq_self_eq_true, Bool.and_true, Bool.true_and, lenC_encL, lenC_lst, deref_ref, emptyK_nil, bs_size, bs_toList]
    · unfold actW
      rw [hc]
      rfl
  | false =>
    rw [hc] at e1
    cases W with
    | nil => simp at hl
    | cons w l =>
      have hi : idxA 1 (strsC (w :: l)) 0 = some (.ref (eStr w) 0) := idxA_encL 1 eStr (w :: l) 0
      obtain ⟨f, hf⟩ := slc_drop (w :: l) 1 (by simp)
      have hf' : slcC 1 (strsC (w :: l)) 1 none none = some (.lst f 1 (l.map eStr)) := hf
      have hWl : (w :: l).length = l.length + 1 := rfl
      rw [hWl] at hl
      have rd : ∀ (c : Cell) (xs : List Str) (y : Str) (b : Bool) (g : Bool), mapO (reifyAV false []) [.agg [Cell.str (bs w), .lst g 1 (xs.map eStr), Cell.str (bs y)], .one (Cell.bool b)] = some [.agg [Cell.str (bs w), strsC xs, Cell.str (bs y)], .one (Cell.bool b)] := by
        intro c xs y b g
        have := reify_rows g xs []
        simp only [reifyAV, Option.map_eq_some_iff] at this
        obtain ⟨c', h1, h2⟩ := this
        obtain rfl : c' = strsC xs := by simpa using h2
        have h3 : ∀ v : Value, reify false [] depth (.sc v) = some (.sc v) := fun v => (inferInstance : Canon (.sc v)).reify false [] depth
        simp only [mapO, reifyAV, h1, h3, Option.map_some]
      unfold actW
      rw [hc, Bool.not_false, Bool.true_and]
      by_cases hn : 1 < l.length
      · obtain ⟨x, hx⟩ := last_at (W := l) (by omega) (l.length - 2) (by omega)
        obtain ⟨y, hy⟩ := last_at (W := l) (by omega) (l.length - 1) (by omega)
        have k1 : (w :: l)[(w :: l).length - 2]? = some x := by
          rw [hWl, show l.length + 1 - 2 = (l.length - 2) + 1 by omega, List.getElem?_cons_succ, hx]
        have k2 : (w :: l)[(w :: l).length - 1]? = some y := by
          rw [hWl, show l.length + 1 - 1 = (l.length - 1) + 1 by omega, List.getElem?_cons_succ, hy]
        have i1 : idxA 1 (.lst f 1 (l.map eStr)) ((l.length - 2 : Nat) : Int) = some (.ref (eStr x) 0) := by
          rw [idxA_lst, List.getElem?_map, hx]
          rfl
        have i2 : idxA 1 (.lst f 1 (l.map eStr)) ((l.length - 1 : Nat) : Int) = some (.ref (eStr y) 0) := by
          rw [idxA_lst, List.getElem?_map, hy]
          rfl
        have s1 : IntKind.i64.wrap ((l.length : Int) - 2) = ((l.length - 2 : Nat) : Int) := wrap_sub (n := l.length) (k := 2) hn (by omega)
        have s2 : IntKind.i64.wrap ((l.length : Int) - 1) = ((l.length - 1 : Nat) : Int) := wrap_sub (n := l.length) (k := 1) (by omega) (by omega)
        have hyl : y ∈ (w :: l) := List.mem_cons_of_mem _ (List.mem_of_getElem? hy)
        have hy0 : (y == []) = false := by
          rw [Bool.eq_false_iff]
          intro h
          have : y = [] := by simpa using h
          subst this
          rw [(hasNil_mem _).2 hyl] at hc
          simp at hc
        rw [k1, k2, decide_eq_true (by rw [hWl]; omega), Bool.true_and, Option.getD_some]
        by_cases hg : x = [62]
        · subst hg
          rw [show ((some [62] : Option Str) == some [62]) = true by decide, cond_true]
          obtain ⟨f2, hf2⟩ : ∃ f2, slcC 1 (.lst f 1 (l.map eStr)) 0 (some ((l.length - 2 : Nat) : Int)) none = some (.lst f2 1 ((l.take (l.length - 2)).map eStr)) := by
            refine ⟨fullOf f none ((l.length - 2 : Nat) : Int) (l.length : Int), ?_⟩
            simp only [slcC, Option.getD_some, Option.getD_none, List.length_map]
            rw [if_pos (.inl trivial), if_pos ⟨by omega, by omega, by omega, by omega⟩]
            simp [List.map_take]
          cases hfo : fileOk y with
          | false =>
            refine ⟨bs [], strsC [], bs [], outL_of (H := []) (xs := [.agg [Cell.str (bs []), .lst true 1 [], Cell.str (bs [])], .one (Cell.bool false)]) (run_impl_actOf_of 0 ?_) rfl⟩
            simp only [impl_actOf, e0, e1, hi, hf', eStr, callS_canon, callL_canon, Option.map_some, Option.bind_some, shape_one, shape_agg, shape_nil, cellsAt_0, cellsAt_1, cellsAt_2, cellsAt_3, cells_one, cells_agg, cB_zero, cI_zero, cS_zero, cC_zero, cB_cons, cI_cons, cS_cons, cC_cons, cond_true, cond_false, List.length_cons, List.length_nil, beq_self_eq_true, Bool.and_true, Bool.true_and, lenC_encL, lenC_lst, deref_ref, emptyK_nil, bs_size, bs_toList]
            rw [decide_eq_true (by simp; omega), cond_true]
            simp only [List.length_map, s1, s2, i1, i2, hf2, c_impl_fileNameOk y (hlen y hyl), hfo, eStr, Bool.not_false, callS_canon, callL_canon, Option.map_some, Option.bind_some, shape_one, shape_agg, shape_nil, cellsAt_0, cellsAt_1, cellsAt_2, cellsAt_3, cells_one, cells_agg, cB_zero, cI_zero, cS_zero, cC_zero, cB_cons, cI_cons, cS_cons, cC_cons, cond_true, cond_false, List.length_cons, List.length_nil, beq_self_eq_true, Bool.and_true, Bool.true_and, lenC_encL, lenC_lst, deref_ref, emptyK_nil, bs_size, bs_toList]
          | true =>
            refine ⟨bs w, strsC (l.take (l.length - 2)), bs y, outL_of (H := []) (xs := [.agg [Cell.str (bs w), .lst f2 1 ((l.take (l.length - 2)).map eStr), Cell.str (bs y)], .one (Cell.bool (kindI w (l.length - 2) true false))]) (run_impl_actOf_of 0 ?_) ?_⟩
            · simp only [impl_actOf, e0, e1, hi, hf', eStr, callS_canon, callL_canon, Option.map_some, Option.bind_some, shape_one, shape_agg, shape_nil, cellsAt_0, cellsAt_1, cellsAt_2, cellsAt_3, cells_one, cells_agg, cB_zero, cI_zero, cS_zero, cC_zero, cB_cons, cI_cons, cS_cons, cC_cons, cond_true, cond_false, List.length_cons, List.length_nil, beq_self_eq_true, Bool.and_true, Bool.true_and, lenC_encL, lenC_lst, deref_ref, emptyK_nil, bs_size, bs_toList]
              rw [decide_eq_true (by simp; omega), cond_true]
              simp only [List.length_map, s1, s2, i1, i2, hf2, c_impl_fileNameOk y (hlen y hyl), hfo, c_impl_inRange, hy0, eStr, Bool.not_false, Bool.not_true, callS_canon, callL_canon, Option.map_some, Option.bind_some, shape_one, shape_agg, shape_nil, cellsAt_0, cellsAt_1, cellsAt_2, cellsAt_3, cells_one, cells_agg, cB_zero, cI_zero, cS_zero, cC_zero, cB_cons, cI_cons, cS_cons, cC_cons, cond_true, cond_false, List.length_cons, List.length_nil, beq_self_eq_true, Bool.and_true, Bool.true_and, lenC_encL, lenC_lst, deref_ref, emptyK_nil, bs_size, bs_toList]
              exact chainI w (l.length - 2) _ true false []
            · rw [rd (strsC []), kindI_true, show l.length - 2 + 1 = (w :: l).length - 2 by rw [hWl]; omega]
              rfl
        · rw [show ((some x : Option Str) == some [62]) = false by simpa using hg, cond_false]
          refine ⟨bs w, strsC l, bs [], outL_of (H := []) (xs := [.agg [Cell.str (bs w), .lst f 1 (l.map eStr), Cell.str (bs [])], .one (Cell.bool (kindI w l.length false true))]) (run_impl_actOf_of 0 ?_) ?_⟩
          · simp only [impl_actOf, e0, e1, hi, hf', eStr, callS_canon, callL_canon, Option.map_some, Option.bind_some, shape_one, shape_agg, shape_nil, cellsAt_0, cellsAt_1, cellsAt_2, cellsAt_3, cells_one, cells_agg, cB_zero, cI_zero, cS_zero, cC_zero, cB_cons, cI_cons, cS_cons, cC_cons, cond_true, cond_false, List.length_cons, List.length_nil, beq_self_eq_true, Bool.and_true, Bool.true_and, lenC_encL, lenC_lst, deref_ref, emptyK_nil, bs_size, bs_toList]
            rw [decide_eq_true (by simp; omega), cond_true]
            simp only [List.length_map, s1, i1, c_impl_inRange, eStr, callS_canon, callL_canon, Option.map_some, Option.bind_some, shape_one, shape_agg, shape_nil, cellsAt_0, cellsAt_1, cellsAt_2, cellsAt_3, cells_one, cells_agg, cB_zero, cI_zero, cS_zero, cC_zero, cB_cons, cI_cons, cS_cons, cC_cons, cond_true, cond_false, List.length_cons, List.length_nil, beq_self_eq_true, Bool.and_true, Bool.true_and, lenC_encL, lenC_lst, deref_ref, emptyK_nil, bs_size, bs_toList]
            rw [show (x == [62]) = false by simpa using hg, cond_false]
            exact chainI w l.length _ false true []
          · rw [rd (strsC []), kindI_false]
            rfl
      · rw [decide_eq_false (by rw [hWl]; omega), Bool.false_and, cond_false]
        refine ⟨bs w, strsC l, bs [], outL_of (H := []) (xs := [.agg [Cell.str (bs w), .lst f 1 (l.map eStr), Cell.str (bs [])], .one (Cell.bool (kindI w l.length false true))]) (run_impl_actOf_of 0 ?_) ?_⟩
        · simp only [impl_actOf, e0, e1, hi, hf', eStr, callS_canon, callL_canon, Option.map_some, Option.bind_some, shape_one, shape_agg, shape_nil, cellsAt_0, cellsAt_1, cellsAt_2, cellsAt_3, cells_one, cells_agg, cB_zero, cI_zero, cS_zero, cC_zero, cB_cons, cI_cons, cS_cons, cC_cons, cond_true, cond_false, List.length_cons, List.length_nil, beq_self_eq_true, Bool.and_true, Bool.true_and, lenC_encL, lenC_lst, deref_ref, emptyK_nil, bs_size, bs_toList]
          rw [decide_eq_false (by simp; omega), cond_false]
          simp only [List.length_map, c_impl_inRange, callS_canon, callL_canon, Option.map_some, Option.bind_some, shape_one, shape_agg, shape_nil, cellsAt_0, cellsAt_1, cellsAt_2, cellsAt_3, cells_one, cells_agg, cB_zero, cI_zero, cS_zero, cC_zero, cB_cons, cI_cons, cS_cons, cC_cons, cond_true, cond_false, List.length_cons, List.length_nil, beq_self_eq_true, Bool.and_true, Bool.true_and, lenC_encL, lenC_lst, deref_ref, emptyK_nil, bs_size, bs_toList]
          exact chainI w l.length _ false true []
        · rw [rd (strsC []), kindI_false]
          rfl
theorem c_impl_ActOk (s : Str) (hs : s.length ≤ 1073741823) : out run_impl_ActOk [.one (Cell.str (bs s))] = some [.one (Cell.bool (actOk s))] := by
  obtain ⟨x, c, y, h⟩ := w_impl_actOf s hs
  refine out_of (H := []) (run_impl_ActOk_of 0 ?_)
  simp only [impl_ActOk, h, callS_canon, callL_canon, Option.map_some, Option.bind_some, shape_one, shape_agg, shape_nil, cellsAt_0, cellsAt_1, cellsAt_2, cellsAt_3, cells_one, cells_agg, cB_zero, cI_zero, cS_zero, cC_zero, cB_cons, cI_cons, cS_cons, cC_cons, cond_true, cond_false, List.length_cons, List.length_nil, beq_self_eq_true, Bool.and_true, Bool.true_and, lenC_encL, lenC_lst, deref_ref, emptyK_nil, bs_size, bs_toList]
theorem c_laws_FnExactActOk (s : Str) (hs : bdS maxLen s) : out run_laws_FnExactActOk [.one (Cell.str (bs s))] = some [.one (Cell.bool true)] := by
  refine out_of (H := []) (run_laws_FnExactActOk_of 0 ?_)
  simp only [laws_FnExactActOk, callS_canon, callL_canon, Option.map_some, Option.bind_some, shape_one, shape_agg, shape_nil, cellsAt_0, cellsAt_1, cellsAt_2, cellsAt_3, cells_one, cells_agg, cB_zero, cI_zero, cS_zero, cC_zero, cB_cons, cI_cons, cS_cons, cC_cons, cond_true, cond_false, List.length_cons, List.length_nil, beq_self_eq_true, Bool.and_true, Bool.true_and, lenC_encL, lenC_lst, deref_ref, emptyK_nil, bs_size, bs_toList]
  by_cases g : s.length ≤ 1048576
  · rw [decide_eq_false (by omega), cond_false]
    simp only [c_spec_ActOk s (by omega), c_impl_ActOk s (by omega), callS_canon, callL_canon, Option.map_some, Option.bind_some, shape_one, shape_agg, shape_nil, cellsAt_0, cellsAt_1, cellsAt_2, cellsAt_3, cells_one, cells_agg, cB_zero, cI_zero, cS_zero, cC_zero, cB_cons, cI_cons, cS_cons, cC_cons, cond_true, cond_false, List.length_cons, List.length_nil, beq_self_eq_true, Bool.and_true, Bool.true_and, lenC_encL, lenC_lst, deref_ref, emptyK_nil, bs_size, bs_toList]
    simp [shapeOk, cB, cellsAt, AV.cells]
  · rw [decide_eq_true (by omega), cond_true]
end Go.Ev
