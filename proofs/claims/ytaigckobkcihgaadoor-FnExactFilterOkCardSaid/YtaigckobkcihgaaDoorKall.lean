/- What the functions come to. Conditions: none. -/
import Derived.Test.YtaigckobkcihgaaDoorEvCon
set_option linter.unusedSimpArgs false
set_option linter.unusedVariables false
namespace Go.Ev
open Go
/-! names -/
def inR (x a b : Int) : Bool := decide (a ≤ x) && decide (x ≤ b)
def isSmall (b : UInt8) : Bool := inR b.toNat 97 122
def isFigure (b : UInt8) : Bool := inR b.toNat 48 57
def nameGo (first : Bool) : Str → Bool
  | [] => true
  | b :: r => (isSmall b || (!first && (isFigure b || b == 45))) && nameGo false r
def nameOk (s : Str) : Bool := nameGo true s && inR s.length 1 10
theorem u8_eq (b : UInt8) (n : Nat) (h : n < 256) : ((b.toNat : Int) == (n : Int)) = (b == UInt8.ofNat n) := by
  rw [Bool.eq_iff_iff]
  simp only [beq_iff_eq]
  constructor
  · intro e
    apply UInt8.toNat_inj.1
    have : (UInt8.ofNat n).toNat = n := by simp; omega
    omega
  · intro e
    have : (UInt8.ofNat n).toNat = n := by simp; omega
    rw [e, this]
theorem u8_ne (b : UInt8) (n : Nat) (h : n < 256) : ((b.toNat : Int) != (n : Int)) = (b != UInt8.ofNat n) := by
  simp only [bne, u8_eq b n h]
theorem u8_lt (b : UInt8) : (b.toNat : Int) < 256 := by have := b.toNat_lt; omega
theorem c_spec_l1In (x a b : Int) : out run_spec_l1In [.one (Cell.int x), .one (Cell.int a), .one (Cell.int b)] = some [.one (Cell.bool (inR x a b))] := by
  refine out_of (H := []) (run_spec_l1In_of 0 ?_)
  simp only [spec_l1In, inR]
  by_cases h : a ≤ x
  · rw [decide_eq_true (by omega : x ≥ a), cond_true, Bool.true_and]
  · rw [decide_eq_false (by omega : ¬ x ≥ a), cond_false, Bool.false_and]
theorem c_impl_inRange (x a b : Int) : out run_impl_inRange [.one (Cell.int x), .one (Cell.int a), .one (Cell.int b)] = some [.one (Cell.bool (inR x a b))] := by
  refine out_of (H := []) (run_impl_inRange_of 0 ?_)
  simp only [impl_inRange, inR]
  by_cases h : a ≤ x
  · rw [decide_eq_true (by omega : x ≥ a), cond_true, Bool.true_and]
  · rw [decide_eq_false (by omega : ¬ x ≥ a), cond_false, Bool.false_and]
theorem c_spec_l1Small (b : UInt8) : out run_spec_l1Small [.one (.sc (.int .u8 (b.toNat : Int)))] = some [.one (Cell.bool (isSmall b))] := by
  have := u8_lt b
  refine out_of (H := []) (run_spec_l1Small_of 0 ?_)
  simp only [spec_l1Small, wrap_small (n := (b.toNat : Int)) (by omega) (by omega), c_spec_l1In, callS_canon, callL_canon, Option.map_some, Option.bind_some, shape_one, shape_agg, shape_nil, cellsAt_0, cellsAt_1, cellsAt_2, cellsAt_3, cells_one, cells_agg, cB_zero, cI_zero, cS_zero, cC_zero, cB_cons, cI_cons, cS_cons, cC_cons, cond_true, cond_false, List.length_cons, List.length_nil, beq_self_eq_true, Bool.and_true, Bool.true_and, lenC_encL, lenC_lst, deref_ref, emptyK_nil, bs_size, bs_toList, isSmall]
theorem c_spec_l1Digit (b : UInt8) : out run_spec_l1Digit [.one (.sc (.int .u8 (b.toNat : Int)))] = some [.one (Cell.bool (isFigure b))] := by
  have := u8_lt b
  refine out_of (H := []) (run_spec_l1Digit_of 0 ?_)
  simp only [spec_l1Digit, wrap_small (n := (b.toNat : Int)) (by omega) (by omega), c_spec_l1In, callS_canon, callL_canon, Option.map_some, Option.bind_some, shape_one, shape_agg, shape_nil, cellsAt_0, cellsAt_1, cellsAt_2, cellsAt_3, cells_one, cells_agg, cB_zero, cI_zero, cS_zero, cC_zero, cB_cons, cI_cons, cS_cons, cC_cons, cond_true, cond_false, List.length_cons, List.length_nil, beq_self_eq_true, Bool.and_true, Bool.true_and, lenC_encL, lenC_lst, deref_ref, emptyK_nil, bs_size, bs_toList, isFigure]
theorem c_impl_isSmall (b : UInt8) : out run_impl_isSmall [.one (.sc (.int .u8 (b.toNat : Int)))] = some [.one (Cell.bool (isSmall b))] := by
  refine out_of (H := []) (run_impl_isSmall_of 0 ?_)
  simp only [impl_isSmall, isSmall, inR]
  by_cases h : (97 : Int) ≤ b.toNat
  · rw [decide_eq_true (by omega : (b.toNat : Int) ≥ 97), cond_true, Bool.true_and]
  · rw [decide_eq_false (by omega : ¬ (b.toNat : Int) ≥ 97), cond_false, Bool.false_and]
theorem c_impl_isFigure (b : UInt8) : out run_impl_isFigure [.one (.sc (.int .u8 (b.toNat : Int)))] = some [.one (Cell.bool (isFigure b))] := by
  refine out_of (H := []) (run_impl_isFigure_of 0 ?_)
  simp only [impl_isFigure, isFigure, inR]
  by_cases h : (48 : Int) ≤ b.toNat
  · rw [decide_eq_true (by omega : (b.toNat : Int) ≥ 48), cond_true, Bool.true_and]
  · rw [decide_eq_false (by omega : ¬ (b.toNat : Int) ≥ 48), cond_false, Bool.false_and]
/-! parts of a text -/
/-- The parts between which a byte stands; cur: what stands ahead already. -/
def splitGo (c : UInt8) (cur : Str) : Str → List Str
  | [] => [cur]
  | b :: r => if b = c then cur :: splitGo c [] r else splitGo c (cur ++ [b]) r
def split (c : UInt8) (s : Str) : List Str := splitGo c [] s
/-- What stands ahead of the first such byte, and behind it. -/
def ahead (c : UInt8) (s : Str) : Str := s.takeWhile (· != c)
def behind (c : UInt8) (s : Str) : Str := (s.dropWhile (· != c)).drop 1

theorem splitGo_length (c : UInt8) : ∀ (s cur : Str), (splitGo c cur s).length ≤ s.length + 1 ∧ ∀ x ∈ splitGo c cur s, x.length ≤ cur.length + s.length := by
  intro s
  induction s with
  | nil => intro cur; simp [splitGo]
  | cons b r ih =>
    intro cur
    simp only [splitGo]
    split
    · obtain ⟨h1, h2⟩ := ih []
      refine ⟨by simp; omega, fun x hx => ?_⟩
      rcases List.mem_cons.1 hx with rfl | hx
      · simp
      · have := h2 x hx; simp at this; simp; omega
    · obtain ⟨h1, h2⟩ := ih (cur ++ [b])
      refine ⟨by simp; omega, fun x hx => ?_⟩
      have := h2 x hx; simp at this; simp; omega

theorem splitGo_not {c : UInt8} : ∀ {s : Str} (cur : Str), c ∉ s → splitGo c cur s = [cur ++ s] := by
  intro s
  induction s with
  | nil => intro cur _; simp [splitGo]
  | cons b r ih =>
    intro cur h
    simp only [List.mem_cons, not_or] at h
    simp only [splitGo]
    rw [if_neg fun e => h.1 e.symm, ih _ h.2]
    simp

theorem splitGo_cut {c : UInt8} : ∀ {s : Str} (cur : Str), c ∈ s → splitGo c cur s = (cur ++ ahead c s) :: splitGo c [] (behind c s) := by
  intro s
  induction s with
  | nil => intro cur h; simp at h
  | cons b r ih =>
    intro cur h
    simp only [splitGo]
    by_cases e : b = c
    · subst e
      simp [ahead, behind]
    · rw [if_neg e, ih _ (by simpa [Ne.symm e] using h)]
      simp [ahead, behind, e]

theorem split_not {c : UInt8} {s : Str} (h : c ∉ s) : split c s = [s] := splitGo_not [] h
theorem split_cut {c : UInt8} {s : Str} (h : c ∈ s) : split c s = ahead c s :: split c (behind c s) := splitGo_cut [] h
theorem splitGo_ne {c : UInt8} : ∀ (s cur : Str), splitGo c cur s ≠ [] := by
  intro s
  induction s with
  | nil => intro cur; simp [splitGo]
  | cons b r ih => intro cur; simp only [splitGo]; split <;> simp [ih]
theorem ahead_le (c : UInt8) (s : Str) : (ahead c s).length ≤ s.length := by
  have := (List.takeWhile_prefix (fun x => x != c) (l := s)).length_le
  exact this
theorem behind_le (c : UInt8) (s : Str) : (behind c s).length ≤ s.length := by
  have := (List.dropWhile_suffix (fun x => x != c) (l := s)).length_le
  simp only [behind, List.length_drop]
  omega
theorem ahead_not {c : UInt8} (s : Str) : c ∉ ahead c s := by
  induction s with
  | nil => simp [ahead]
  | cons b r ih =>
    unfold ahead
    rw [List.takeWhile_cons]
    split
    · rename_i h
      intro hm
      rcases List.mem_cons.1 hm with e | e
      · rw [← e] at h; simp at h
      · exact ih e
    · simp

theorem nameGo_mem : ∀ {s : Str} {f : Bool}, nameGo f s = true → ∀ b ∈ s, isSmall b = true ∨ isFigure b = true ∨ b = 45 := by
  intro s
  induction s with
  | nil => intro f _ b hb; simp at hb
  | cons c r ih =>
    intro f h b hb
    simp only [nameGo, Bool.and_eq_true, Bool.or_eq_true, beq_iff_eq] at h
    rcases List.mem_cons.1 hb with rfl | hb
    · rcases h.1 with h1 | h1
      · exact .inl h1
      · rcases h1.2 with h2 | h2
        · exact .inr (.inl h2)
        · exact .inr (.inr h2)
    · exact ih h.2 b hb
theorem nameOk_not {s : Str} (h : nameOk s = true) : (35 : UInt8) ∉ s ∧ (94 : UInt8) ∉ s := by
  simp only [nameOk, Bool.and_eq_true] at h
  constructor <;> intro hb <;> rcases nameGo_mem h.1 _ hb with h | h | h <;> revert h <;> decide
theorem nameOk_nil : nameOk [] = false := rfl
theorem c_spec_Split (s : Str) (c : UInt8) (hs : s.length ≤ 1073741824) : outL run_spec_Split [.one (Cell.str (bs s)), .one (.sc (.int .u8 (c.toNat : Int)))] = some [.one (strsC (split c s))] := by
  have hM := maxLen_eq
  have loop : ∀ (r : Str) (i from' n : Nat) (cur : Str) (cl : Cell) (H : List Entry) (done : List Str), s.drop i = r → from' ≤ i → i ≤ s.length → (s.take i).drop from' = cur → r.length + 1 < n → Grow 1 cl H (done.map eStr) → done.length ≤ i →
      ∀ k m, ∃ cl' H', spec_Split_l0 k m n (bs s) (c.toNat : Int) cl from' i H = some ([.one cl'], H') ∧ Grow 1 cl' H' ((done ++ splitGo c cur r).map eStr) := by
    intro r
    induction r with
    | nil =>
      intro i from' n cur cl H done hd hf hi hc hn hg hdl k m
      obtain ⟨n, rfl⟩ : ∃ j, n = j + 2 := ⟨n - 2, by omega⟩
      have hlen := drop_nil hd
      have e : i = s.length := by omega
      subst e
      obtain ⟨p, hp, hgp⟩ := hg.app (by' := 16) [eStr cur] (by simp [bound]; omega) (by simp [bound]; omega)
      refine ⟨p.1, p.2, ?_, by simpa [splitGo] using hgp⟩
      simp only [spec_Split_l0, bs_size]
      rw [decide_eq_true (by omega), cond_true, show (((s.length : Nat) : Int) == (s.length : Int)) = true by simp, cond_true, subS_bs _ _ _ hf (Nat.le_refl _), hc]
      simp only [Option.bind_some]
      rw [show [[Cell.str (bs cur)]] = [eStr cur] from rfl, hp]
      simp only [Option.bind_some]
      rw [wrap_succ (by omega), decide_eq_false (by omega), cond_false]
    | cons b r ih =>
      intro i from' n cur cl H done hd hf hi hc hn hg hdl k m
      obtain ⟨n, rfl⟩ : ∃ j, n = j + 1 := ⟨n - 1, by omega⟩
      obtain ⟨hlt, hgx, hd'⟩ := drop_cons hd
      simp only [List.length_cons] at hn
      simp only [spec_Split_l0, bs_size, bytS_bs, hgx, Option.map_some, Option.bind_some]
      rw [decide_eq_true (by omega), cond_true, show (((i : Nat) : Int) == (s.length : Int)) = false by simp; omega, cond_false, wrap_succ (by omega)]
      have hbc : ((b.toNat : Int) == (c.toNat : Int)) = decide (b = c) := by
        rw [Bool.eq_iff_iff]
        simp only [beq_iff_eq, decide_eq_true_eq]
        exact ⟨fun h => UInt8.toNat_inj.1 (by omega), fun h => by rw [h]⟩
      rw [hbc]
      by_cases e : b = c
      · rw [decide_eq_true e, cond_true, subS_bs _ _ _ hf (by omega), hc]
        simp only [Option.bind_some]
        obtain ⟨p, hp, hgp⟩ := hg.app (by' := 16) [eStr cur] (by simp [bound]; omega) (by simp [bound]; omega)
        rw [show [[Cell.str (bs cur)]] = [eStr cur] from rfl, hp]
        simp only [Option.bind_some]
        obtain ⟨cl', H', h1, h2⟩ := ih (i + 1) (i + 1) n [] p.1 p.2 (done ++ [cur]) hd' (Nat.le_refl _) (by omega) (by simp) (by omega) (by simpa using hgp) (by simp; omega) k m
        refine ⟨cl', H', h1, ?_⟩
        simpa [splitGo, e] using h2
      · rw [decide_eq_false e, cond_false]
        obtain ⟨cl', H', h1, h2⟩ := ih (i + 1) from' n (cur ++ [b]) cl H done hd' (by omega) (by omega) (by
          rw [← hc, List.take_add_one, hgx]
          simp only [Option.toList_some]
          rw [List.drop_append_of_le_length (by simp; omega)]) (by omega) hg (by omega) k m
        refine ⟨cl', H', h1, ?_⟩
        simpa [splitGo, e] using h2
  obtain ⟨cl', H', h1, h2⟩ := loop s 0 0 (s.length + 1 + 1) [] (.lst true 1 []) [] [] rfl (by omega) (by omega) rfl (by omega) (.nil 1) (by simp) (s.length + 1 + 1) (s.length + 1 + 1)
  refine outL_of (run_spec_Split_of (s.length + 1) (by simpa [spec_Split] using h1)) ?_
  exact h2.read
theorem ahead_all {c : UInt8} {s : Str} (h : c ∉ s) : ahead c s = s := by
  induction s with
  | nil => rfl
  | cons b r ih =>
    simp only [List.mem_cons, not_or] at h
    have : ahead c (b :: r) = b :: ahead c r := by simp [ahead, Ne.symm h.1]
    rw [this, ih h.2]
theorem behind_none {c : UInt8} {s : Str} (h : c ∉ s) : behind c s = [] := by
  induction s with
  | nil => rfl
  | cons b r ih =>
    simp only [List.mem_cons, not_or] at h
    have : behind c (b :: r) = behind c r := by simp [behind, Ne.symm h.1]
    rw [this, ih h.2]
/-! tasks -/
def parseTask (s : Str) : Str × Str × Bool := if nameOk (ahead 35 s) && nameOk (behind 35 s) then (ahead 35 s, behind 35 s, true) else ([], [], false)
def parseTaskV (s : Str) : List AV := [.one (Cell.str (bs (parseTask s).1)), .one (Cell.str (bs (parseTask s).2.1)), .one (Cell.bool (parseTask s).2.2)]
theorem not_mem_behind {c : UInt8} {s : Str} (h : c ∉ s) (d : UInt8) : d ∉ behind c s := by
  rw [behind_none h]
  simp
/-- A text without what stands ahead of it. -/
def trimP (p s : Str) : Str := if p.isPrefixOf s then s.drop p.length else s
def onOk (s : Str) : Bool := if 35 ∈ s then nameOk (ahead 35 s) && nameOk (behind 35 s) else nameOk (trimP [94] s)
theorem indexByte_eq (c : UInt8) (s : Str) : Lib.indexByte s c = if c ∈ s then ((ahead c s).length : Int) else -1 := by
  induction s with
  | nil => rfl
  | cons b r ih =>
    simp only [Lib.indexByte]
    by_cases e : b = c
    · subst e
      simp [ahead]
    · have e1 : (b == c) = false := by simpa using e
      simp only [e1, Bool.false_eq_true, if_false]
      have e2 : ahead c (b :: r) = b :: ahead c r := by simp [ahead, e]
      by_cases h : c ∈ r
      · rw [if_pos h] at ih
        rw [ih, if_neg (by simp <;> omega), if_pos (List.mem_cons_of_mem _ h), e2]
        simp
      · rw [if_neg h] at ih
        rw [ih, if_pos (by simp), if_neg]
        intro hm
        rcases List.mem_cons.1 hm with q | q
        · exact e q.symm
        · exact h q
theorem take_ahead (c : UInt8) (s : Str) : s.take (ahead c s).length = ahead c s :=
  (List.prefix_iff_eq_take.1 (List.takeWhile_prefix _)).symm
theorem ahead_lt {c : UInt8} {s : Str} (h : c ∈ s) : (ahead c s).length < s.length := by
  have h1 := ahead_le c s
  rcases Nat.lt_or_ge (ahead c s).length s.length with h2 | h2
  · exact h2
  · have h3 := take_ahead c s
    rw [List.take_of_length_le h2] at h3
    rw [h3] at h
    exact absurd h (ahead_not s)
theorem drop_behind (c : UInt8) (s : Str) : s.drop ((ahead c s).length + 1) = behind c s := by
  have h : s = ahead c s ++ s.dropWhile (· != c) := (List.takeWhile_append_dropWhile).symm
  have h2 : s.drop (ahead c s).length = s.dropWhile (· != c) := by
    rw [congrArg (List.drop (ahead c s).length) h, List.drop_left]
  rw [← List.drop_drop, h2]
  rfl
theorem bytS_head (b : UInt8) (r : Str) : bytS (bs (b :: r)) 0 = some (b.toNat : Int) := by
  have := bytS_bs (b :: r) 0
  simpa using this
theorem c_internal_stringslite_IndexByte (s : Str) (c : UInt8) : out run_internal_stringslite_IndexByte [.one (Cell.str (bs s)), .one (.sc (.int .u8 (c.toNat : Int)))] = some [.one (Cell.int (Lib.indexByte s c))] := by
  simp [out, run_internal_stringslite_IndexByte]
theorem c_internal_stringslite_Index (s : Str) (c : UInt8) : out run_internal_stringslite_Index [.one (Cell.str (bs s)), .one (Cell.str (bs [c]))] = some [.one (Cell.int (Lib.indexByte s c))] := by
  refine out_of (H := []) (run_internal_stringslite_Index_of 0 ?_)
  simp only [internal_stringslite_Index, bytS_head, c_internal_stringslite_IndexByte, callS_canon, callL_canon, Option.map_some, Option.bind_some, shape_one, shape_agg, shape_nil, cellsAt_0, cellsAt_1, cellsAt_2, cellsAt_3, cells_one, cells_agg, cB_zero, cI_zero, cS_zero, cC_zero, cB_cons, cI_cons, cS_cons, cC_cons, cond_true, cond_false, List.length_cons, List.length_nil, beq_self_eq_true, Bool.and_true, Bool.true_and, lenC_encL, lenC_lst, deref_ref, emptyK_nil, bs_size, bs_toList]
  rw [show (((0 + 1 : Nat) : Int) == 0) = false from rfl, show (((0 + 1 : Nat) : Int) == 1) = true from rfl, cond_false, cond_true]
  by_cases h : [c] = s
  · rw [← h]
    simp [Lib.indexByte]
  · rw [show ([c] == s) = false by simpa using h, cond_false]
def cutV (c : UInt8) (s : Str) : List AV := if c ∈ s then [.one (Cell.str (bs (ahead c s))), .one (Cell.str (bs (behind c s))), .one (Cell.bool true)] else [.one (Cell.str (bs s)), .one (Cell.str (bs [])), .one (Cell.bool false)]
theorem c_internal_stringslite_Cut (s : Str) (c : UInt8) (hs : s.length ≤ 1073741824) : out run_internal_stringslite_Cut [.one (Cell.str (bs s)), .one (Cell.str (bs [c]))] = some (cutV c s) := by
  refine out_of (H := []) (run_internal_stringslite_Cut_of 0 ?_)
  simp only [internal_stringslite_Cut, c_internal_stringslite_Index, callS_canon, callL_canon, Option.map_some, Option.bind_some, shape_one, shape_agg, shape_nil, cellsAt_0, cellsAt_1, cellsAt_2, cellsAt_3, cells_one, cells_agg, cB_zero, cI_zero, cS_zero, cC_zero, cB_cons, cI_cons, cS_cons, cC_cons, cond_true, cond_false, List.length_cons, List.length_nil, beq_self_eq_true, Bool.and_true, Bool.true_and, lenC_encL, lenC_lst, deref_ref, emptyK_nil, bs_size, bs_toList]
  rw [indexByte_eq]
  unfold cutV
  by_cases h : c ∈ s
  · have h1 := ahead_lt h
    rw [if_pos h, if_pos h, decide_eq_true (by omega), cond_true]
    have e1 := subS_bs s 0 (ahead c s).length (by omega) (by omega)
    simp only [Int.natCast_zero, List.drop_zero, take_ahead] at e1
    rw [e1]
    simp only [Option.bind_some]
    rw [show (((ahead c s).length : Int) + ((0 + 1 : Nat) : Int)) = (((ahead c s).length + 1 : Nat) : Int) by omega, wrap_small (by omega) (by omega), subS_bs s _ _ (by omega) (Nat.le_refl _), List.take_length, drop_behind]
    rfl
  · rw [if_neg h, if_neg h, decide_eq_false (by omega), cond_false]
theorem c_strings_Cut (s : Str) (c : UInt8) (hs : s.length ≤ 1073741824) : out run_strings_Cut [.one (Cell.str (bs s)), .one (Cell.str (bs [c]))] = some (cutV c s) := by
  refine out_of (H := []) (run_strings_Cut_of 0 ?_)
  simp only [strings_Cut, c_internal_stringslite_Cut s c hs, callS_canon, callL_canon, Option.map_some, Option.bind_some, shape_one, shape_agg, shape_nil, cellsAt_0, cellsAt_1, cellsAt_2, cellsAt_3, cells_one, cells_agg, cB_zero, cI_zero, cS_zero, cC_zero, cB_cons, cI_cons, cS_cons, cC_cons, cond_true, cond_false, List.length_cons, List.length_nil, beq_self_eq_true, Bool.and_true, Bool.true_and, lenC_encL, lenC_lst, deref_ref, emptyK_nil, bs_size, bs_toList]
  unfold cutV
  by_cases h : c ∈ s
  · simp only [if_pos h, callS_canon, callL_canon, Option.map_some, Option.bind_some, shape_one, shape_agg, shape_nil, cellsAt_0, cellsAt_1, cellsAt_2, cellsAt_3, cells_one, cells_agg, cB_zero, cI_zero, cS_zero, cC_zero, cB_cons, cI_cons, cS_cons, cC_cons, cond_true, cond_false, List.length_cons, List.length_nil, beq_self_eq_true, Bool.and_true, Bool.true_and, lenC_encL, lenC_lst, deref_ref, emptyK_nil, bs_size, bs_toList]
  · simp only [if_neg h, callS_canon, callL_canon, Option.map_some, Option.bind_some, shape_one, shape_agg, shape_nil, cellsAt_0, cellsAt_1, cellsAt_2, cellsAt_3, cells_one, cells_agg, cB_zero, cI_zero, cS_zero, cC_zero, cB_cons, cI_cons, cS_cons, cC_cons, cond_true, cond_false, List.length_cons, List.length_nil, beq_self_eq_true, Bool.and_true, Bool.true_and, lenC_encL, lenC_lst, deref_ref, emptyK_nil, bs_size, bs_toList]
theorem c_internal_stringslite_HasPrefix (s p : Str) : out run_internal_stringslite_HasPrefix [.one (Cell.str (bs s)), .one (Cell.str (bs p))] = some [.one (Cell.bool (p.isPrefixOf s))] := by
  refine out_of (H := []) (run_internal_stringslite_HasPrefix_of 0 ?_)
  simp only [internal_stringslite_HasPrefix, callS_canon, callL_canon, Option.map_some, Option.bind_some, shape_one, shape_agg, shape_nil, cellsAt_0, cellsAt_1, cellsAt_2, cellsAt_3, cells_one, cells_agg, cB_zero, cI_zero, cS_zero, cC_zero, cB_cons, cI_cons, cS_cons, cC_cons, cond_true, cond_false, List.length_cons, List.length_nil, beq_self_eq_true, Bool.and_true, Bool.true_and, lenC_encL, lenC_lst, deref_ref, emptyK_nil, bs_size, bs_toList]
  by_cases h : p.length ≤ s.length
  · have e1 := subS_bs s 0 p.length (by omega) h
    simp only [Int.natCast_zero, List.drop_zero] at e1
    rw [decide_eq_true (by omega), cond_true, e1]
    simp only [callS_canon, callL_canon, Option.map_some, Option.bind_some, shape_one, shape_agg, shape_nil, cellsAt_0, cellsAt_1, cellsAt_2, cellsAt_3, cells_one, cells_agg, cB_zero, cI_zero, cS_zero, cC_zero, cB_cons, cI_cons, cS_cons, cC_cons, cond_true, cond_false, List.length_cons, List.length_nil, beq_self_eq_true, Bool.and_true, Bool.true_and, lenC_encL, lenC_lst, deref_ref, emptyK_nil, bs_size, bs_toList]
    congr 5
    rw [Bool.eq_iff_iff, List.isPrefixOf_iff_prefix, List.prefix_iff_eq_take, beq_iff_eq]
    exact eq_comm
  · rw [decide_eq_false (by omega), cond_false]
    congr 5
    symm
    rw [← Bool.not_eq_true, List.isPrefixOf_iff_prefix]
    exact fun hp => h hp.length_le
/-! the order of texts -/
def lt (a b : Str) : Bool := Op.bytesLess a b
theorem lt_self (a : Str) : lt a a = false := by
  unfold lt
  induction a with
  | nil => rfl
  | cons x a ih => simp [Op.bytesLess, ih]
theorem lt_not : ∀ (a b : Str), (lt a b || a == b) = !lt b a := by
  unfold lt
  intro a
  induction a with
  | nil => intro b; cases b <;> rfl
  | cons x a ih =>
    intro b
    cases b with
    | nil => rfl
    | cons y b =>
      have h := ih b
      simp only [Op.bytesLess]
      have e : ((x :: a) == (y :: b)) = (x == y && a == b) := rfl
      rw [e]
      rcases Nat.lt_trichotomy x.toNat y.toNat with h1 | h1 | h1
      · have e1 : decide (x < y) = true := by simpa [UInt8.lt_iff_toNat_lt] using h1
        have e2 : decide (y < x) = false := by simp [UInt8.lt_iff_toNat_lt]; omega
        have e3 : (y == x) = false := by simp; intro e; rw [e] at h1; omega
        simp [e1, e2, e3]
      · have e0 := UInt8.toNat_inj.1 h1
        subst e0
        have e1 : decide (x < x) = false := by simp
        simp only [e1, Bool.false_or, beq_self_eq_true, Bool.true_and, h]
      · have e1 : decide (y < x) = true := by simpa [UInt8.lt_iff_toNat_lt] using h1
        have e2 : decide (x < y) = false := by simp [UInt8.lt_iff_toNat_lt]; omega
        have e3 : (x == y) = false := by simp; intro e; rw [e] at h1; omega
        simp [e1, e2, e3]
theorem bl_eq (a b : Str) : Op.bytesLess a b = lt a b := rfl
/-- Ascending, each text once. -/
def asc : List Str → Bool
  | [] => true
  | [_] => true
  | a :: b :: r => lt a b && asc (b :: r)
theorem wrap_pred {i : Nat} (h : i < Go.maxLen) : IntKind.i64.wrap (((i + 1 : Nat) : Int) - 1) = (i : Int) := by
  have := maxLen_eq
  rw [wrap_small (by omega) (by omega)]
  omega
/-- The place of a text in a list. -/
def idxS (s : Str) : List Str → Nat → Int
  | [], _ => -1
  | b :: r, i => if s = b then (i : Int) else idxS s r (i + 1)
theorem idxS_ge (s : Str) : ∀ (l : List Str) (i : Nat), (decide (idxS s l i ≥ 0)) = l.contains s := by
  intro l
  induction l with
  | nil => intro i; rfl
  | cons b r ih =>
    intro i
    rw [List.contains_cons]
    by_cases e : s = b
    · have e1 : idxS s (b :: r) i = (i : Int) := if_pos e
      rw [e1, show (s == b) = true by simpa using e, decide_eq_true (by omega)]; rfl
    · have e1 : idxS s (b :: r) i = idxS s r (i + 1) := if_neg e
      rw [e1, ih, show (s == b) = false by simpa using e]; rfl
theorem c_slices_Index_string (xs : List Str) (s : Str) (hx : xs.length ≤ 1073741824) : out run_slices_Index_string [.one (strsC xs), .one (Cell.str (bs s))] = some [.one (Cell.int (idxS s xs 0))] := by
  have hM := maxLen_eq
  have loop : ∀ (r : List Str) (i n : Nat), xs.drop i = r → r.length < n → ∀ k m, slices_Index_string_l0 k m n (strsC xs) (bs s) xs.length i = some ([.one (Cell.int (idxS s r i))], []) := by
    intro r
    induction r with
    | nil =>
      intro i n hd hn k m
      obtain ⟨n, rfl⟩ : ∃ j, n = j + 1 := ⟨n - 1, by omega⟩
      have := drop_nil hd
      simp only [slices_Index_string_l0]
      rw [decide_eq_false (by omega), cond_false]
      rfl
    | cons b r ih =>
      intro i n hd hn k m
      obtain ⟨n, rfl⟩ : ∃ j, n = j + 1 := ⟨n - 1, by omega⟩
      obtain ⟨hlt, hg, hd'⟩ := drop_cons hd
      simp only [List.length_cons] at hn
      simp only [slices_Index_string_l0, idxA_encL, hg, eStr, callS_canon, callL_canon, Option.map_some, Option.bind_some, shape_one, shape_agg, shape_nil, cellsAt_0, cellsAt_1, cellsAt_2, cellsAt_3, cells_one, cells_agg, cB_zero, cI_zero, cS_zero, cC_zero, cB_cons, cI_cons, cS_cons, cC_cons, cond_true, cond_false, List.length_cons, List.length_nil, beq_self_eq_true, Bool.and_true, Bool.true_and, lenC_encL, lenC_lst, deref_ref, emptyK_nil, bs_size, bs_toList]
      rw [decide_eq_true (by omega), cond_true, wrap_succ (by omega), ih (i + 1) n hd' (by omega)]
      simp only [idxS]
      by_cases e : s = b
      · rw [show (s == b) = true by simpa using e, if_pos e]; rfl
      · rw [show (s == b) = false by simpa using e, if_neg e]; rfl
  refine out_of (H := []) (run_slices_Index_string_of (xs.length + 1) ?_)
  have := loop xs 0 (xs.length + 1 + 1) rfl (by omega) (xs.length + 1 + 1) (xs.length + 1 + 1)
  simpa [slices_Index_string] using this
theorem c_slices_Contains_string (xs : List Str) (s : Str) (hx : xs.length ≤ 1073741824) : out run_slices_Contains_string [.one (strsC xs), .one (Cell.str (bs s))] = some [.one (Cell.bool (xs.contains s))] := by
  refine out_of (H := []) (run_slices_Contains_string_of 0 ?_)
  simp only [slices_Contains_string, c_slices_Index_string xs s hx, callS_canon, callL_canon, Option.map_some, Option.bind_some, shape_one, shape_agg, shape_nil, cellsAt_0, cellsAt_1, cellsAt_2, cellsAt_3, cells_one, cells_agg, cB_zero, cI_zero, cS_zero, cC_zero, cB_cons, cI_cons, cS_cons, cC_cons, cond_true, cond_false, List.length_cons, List.length_nil, beq_self_eq_true, Bool.and_true, Bool.true_and, lenC_encL, lenC_lst, deref_ref, emptyK_nil, bs_size, bs_toList, idxS_ge]
theorem idxS_nat (s : Str) : ∀ (l : List Str) (i : Nat), (idxS s l i = -1 ∧ s ∉ l) ∨ ∃ j x, idxS s l i = ((i + j : Nat) : Int) ∧ l[j]? = some x := by
  intro l
  induction l with
  | nil => intro i; exact .inl ⟨rfl, by simp⟩
  | cons b r ih =>
    intro i
    by_cases e : s = b
    · exact .inr ⟨0, b, by simp [idxS, e], rfl⟩
    · rcases ih (i + 1) with ⟨h1, h2⟩ | ⟨j, x, h1, h2⟩
      · exact .inl ⟨by simp [idxS, e, h1], by simp [e, h2]⟩
      · exact .inr ⟨j + 1, x, by simp only [idxS, if_neg e, h1]; congr 1; omega, by simpa using h2⟩
/-- What a name leans on. -/
def nextOf (names : List Str) (next : List (List Str)) (s : Str) : List Str := if idxS s names 0 < 0 then [] else (next[(idxS s names 0).toNat]?).getD []
theorem idxS_take (s : Str) (n : Nat) : ∀ (l : List Str) (i : Nat), (idxS s (l.take n) i = idxS s l i ∧ idxS s l i < ((i + n : Nat) : Int)) ∨ (idxS s (l.take n) i = -1 ∧ ((i + n : Nat) : Int) ≤ idxS s l i) := by
  induction n with
  | zero =>
    intro l i
    rcases idxS_nat s l i with ⟨h1, _⟩ | ⟨j, x, h1, _⟩
    · exact .inl ⟨by rw [h1]; rfl, by rw [h1]; omega⟩
    · exact .inr ⟨rfl, by rw [h1]; omega⟩
  | succ n ih =>
    intro l i
    cases l with
    | nil => exact .inl ⟨rfl, by simp only [idxS]; omega⟩
    | cons b r =>
      by_cases e : s = b
      · exact .inl ⟨by simp [idxS, e], by simp only [idxS, if_pos e]; omega⟩
      · simp only [List.take_succ_cons, idxS, if_neg e]
        have := ih r (i + 1)
        rw [show i + 1 + n = i + (n + 1) by omega] at this
        exact this
/-- What names lean on is not asked behind the shorter of both. -/
theorem nextOf_take (names : List Str) (next : List (List Str)) (s : Str) : nextOf (names.take (min names.length next.length)) (next.take (min names.length next.length)) s = nextOf names next s := by
  unfold nextOf
  rcases idxS_take s (min names.length next.length) names 0 with ⟨h1, h2⟩ | ⟨h1, h2⟩
  · rw [h1]
    split
    · rfl
    · rw [List.getElem?_take, if_pos (by omega)]
  · rw [h1, if_pos (by omega), if_neg (by omega)]
    rcases idxS_nat s names 0 with ⟨h3, _⟩ | ⟨j, x, h3, h4⟩
    · rw [h3] at h2; omega
    · have hj := (List.getElem?_eq_some_iff.1 h4).1
      rw [h3] at h2 ⊢
      rw [List.getElem?_eq_none (by omega)]
      rfl
theorem strs_rep (xs : List Str) (H : List Entry) (w q : Bool) : ∀ x ∈ xs, ∀ H', Sp (Rep H' true true 1) [] (eStr x) (trStr x) := fun x _ H' => Sp.leaf1 _
theorem f_slices_Clone_string (xs : List Str) (hx : xs.length ≤ 1073741824) : Fresh run_slices_Clone_string true 2 [.one (strsC xs)] [.one (trL 1 trStr xs)] := by
  obtain ⟨p, h1, h2⟩ := (Grow.nil 1).app (by' := 16) (xs.map eStr) (by unfold bound; simp; omega) (by unfold bound; simp; omega)
  rw [List.nil_append] at h2
  obtain ⟨ids, h3, h4, h5⟩ := h2.rep (tr := trStr) (fun _ _ => rfl) (fun x _ H' => Sp.leaf1 _)
  refine Fresh.one (c := p.1) (H := p.2) (run_slices_Clone_string_of 0 ?_) h3 h4
  have hs : srcRows [] 1 (strsC xs) = some (xs.map eStr) := by simp [srcRows, rowsOf, encL]
  simp only [slices_Clone_string, hs, h1, callS_canon, callL_canon, Option.map_some, Option.bind_some, shape_one, shape_agg, shape_nil, cellsAt_0, cellsAt_1, cellsAt_2, cellsAt_3, cells_one, cells_agg, cB_zero, cI_zero, cS_zero, cC_zero, cB_cons, cI_cons, cS_cons, cC_cons, cond_true, cond_false, List.length_cons, List.length_nil, beq_self_eq_true, Bool.and_true, Bool.true_and, lenC_encL, lenC_lst, deref_ref, emptyK_nil, bs_size, bs_toList]
  cases xs with
  | nil =>
    simp only [List.map_nil, app, List.isEmpty_nil, if_true, Option.some.injEq] at h1
    subst h1
    simp [nilC, encL, both]
  | cons x xs => simp [nilC, encL]
/-- The place of the first element that answers. -/
def idxF {α : Type} (p : α → Bool) : List α → Nat → Int
  | [], _ => -1
  | x :: r, i => cond (p x) (i : Int) (idxF p r (i + 1))
theorem idxF_find {α : Type} (p : α → Bool) : ∀ (l : List α) (i : Nat), (idxF p l i = -1 ∧ l.find? p = none) ∨ ∃ (j : Nat) (x : α), idxF p l i = ((i + j : Nat) : Int) ∧ l[j]? = some x ∧ l.find? p = some x := by
  intro l
  induction l with
  | nil => intro i; exact .inl ⟨rfl, rfl⟩
  | cons b r ih =>
    intro i
    by_cases e : p b = true
    · exact .inr ⟨0, b, by simp [idxF, e], rfl, by simp [e]⟩
    · rcases ih (i + 1) with ⟨h1, h2⟩ | ⟨j, x, h1, h2, h3⟩
      · exact .inl ⟨by simp [idxF, e, h1], by simp [e, h2]⟩
      · exact .inr ⟨j + 1, x, by simp only [idxF, Bool.eq_false_iff.2 e, cond_false, h1]; congr 1; omega, by simpa using h2, by simp [e, h3]⟩
/-- What a name leans on is in order already, or is no name. -/
def readyB (names : List Str) (next : List (List Str)) (s : Str) (done : List Str) : Bool := (nextOf names next s).all fun x => !(names.contains x && !done.contains x)
def freeB (names : List Str) (next : List (List Str)) (done : List Str) (s : Str) : Bool := !done.contains s && readyB names next s done
def orderGo (names : List Str) (next : List (List Str)) : Nat → List Str → List Str × Bool
  | 0, o => (o, true)
  | d + 1, o => match names.find? (freeB names next o) with
    | some s => orderGo names next d (o ++ [s])
    | none => ([], false)
def orderOf (names : List Str) (next : List (List Str)) : List Str × Bool := orderGo names next names.length []
theorem orderGo_le (names : List Str) (next : List (List Str)) : ∀ (d : Nat) (o : List Str), (orderGo names next d o).1.length ≤ d + o.length ∧ ∀ x ∈ (orderGo names next d o).1, x ∈ o ∨ x ∈ names := by
  intro d
  induction d with
  | zero => intro o; exact ⟨by simp [orderGo], fun x hx => .inl hx⟩
  | succ d ih =>
    intro o
    simp only [orderGo]
    split
    · rename_i s hs
      obtain ⟨h1, h2⟩ := ih (o ++ [s])
      refine ⟨by simp at h1; omega, fun x hx => ?_⟩
      rcases h2 x hx with h | h
      · rcases List.mem_append.1 h with h | h
        · exact .inl h
        · simp only [List.mem_singleton] at h
          subst h
          exact .inr (List.mem_of_find?_eq_some hs)
      · exact .inr h
    · exact ⟨by simp, by simp⟩
theorem orderOf_le (names : List Str) (next : List (List Str)) : (orderOf names next).1.length ≤ names.length ∧ ∀ x ∈ (orderOf names next).1, x ∈ names := by
  obtain ⟨h1, h2⟩ := orderGo_le names next names.length []
  exact ⟨by simpa [orderOf] using h1, fun x hx => (h2 x hx).resolve_left (by simp)⟩
theorem nextOf_le {names : List Str} {next : List (List Str)} (h : ∀ d ∈ next, d.length ≤ 1073741824) (s : Str) : (nextOf names next s).length ≤ 1073741824 := by
  unfold nextOf
  split
  · simp
  · cases hd : next[(idxS s names 0).toNat]? with
    | none => simp
    | some d => exact h d (List.mem_of_getElem? hd)
theorem gm_onOf {H : List Entry} {ids : List Nat} {g : Nat} {names : List Str} {next : List (List Str)} (h : GraphM H ids g names next) (h1 : names.length ≤ 1073741824) (s : Str) :
    ∃ d, run_impl_graph_onOf [.one (.ptr g 2 0 0 0), .one (Cell.str (bs s))] H = some ([.one d], H) ∧ ListM H ids d (nextOf names next s) := by
  obtain ⟨_, _, hlen, cn, co, fr, he, hn, ho⟩ := h
  have d0 : deref H (.ptr g 2 0 0 0) = some ([cn, co], 0) := by simp [deref, entry?, he]
  have d1 : deref H (.ptr g 2 0 1 0) = some ([cn, co], 1) := by simp [deref, entry?, he]
  have q1 : callS run_slices_Index_string [.one cn, .one (Cell.str (bs s))] H = some [.one (Cell.int (idxS s names 0))] := by
    rw [callS_of (mapO_c hn.read (mapO_c (reifyAV_canon _ _ _) (mapO_nil' _)))]
    exact c_slices_Index_string names s h1
  rcases idxS_nat s names 0 with ⟨e1, _⟩ | ⟨j, x, e1, e2⟩
  · refine ⟨.lst true 1 [], run_impl_graph_onOf_of 0 ?_, ?_⟩
    · simp only [impl_graph_onOf, ptrC, fldA_ptr, Nat.zero_add, d0, q1, e1, callS_canon, callL_canon, Option.map_some, Option.bind_some, shape_one, shape_agg, shape_nil, cellsAt_0, cellsAt_1, cellsAt_2, cellsAt_3, cells_one, cells_agg, cB_zero, cI_zero, cS_zero, cC_zero, cB_cons, cI_cons, cS_cons, cC_cons, cond_true, cond_false, List.length_cons, List.length_nil, beq_self_eq_true, Bool.and_true, Bool.true_and, lenC_encL, lenC_lst, deref_ref, emptyK_nil, bs_size, bs_toList]
      rfl
    · rw [nextOf, e1, if_pos (by omega)]
      exact .nil _ _
  · have hj := (List.getElem?_eq_some_iff.1 e2).1
    obtain ⟨d, hd⟩ : ∃ d, next[j]? = some d := ⟨next[j], List.getElem?_eq_getElem (by omega)⟩
    have e : nextOf names next s = d := by
      rw [nextOf, e1, if_neg (by omega)]
      simp [hd]
    rw [e]
    obtain ⟨a, dc, i1, i2, i3⟩ := ho.at hd
    refine ⟨dc, run_impl_graph_onOf_of 0 ?_, i3⟩
    simp only [impl_graph_onOf, ptrC, fldA_ptr, Nat.zero_add, d0, q1, e1, callS_canon, callL_canon, Option.map_some, Option.bind_some, shape_one, shape_agg, shape_nil, cellsAt_0, cellsAt_1, cellsAt_2, cellsAt_3, cells_one, cells_agg, cB_zero, cI_zero, cS_zero, cC_zero, cB_cons, cI_cons, cS_cons, cC_cons, cond_true, cond_false, List.length_cons, List.length_nil, beq_self_eq_true, Bool.and_true, Bool.true_and, lenC_encL, lenC_lst, deref_ref, emptyK_nil, bs_size, bs_toList]
    rw [decide_eq_false (by omega), cond_false]
    simp only [d1, cC_cons, cC_zero, i1, i2, Option.bind_some]
/-! texts in their order, each once -/
theorem lt_iff : ∀ (a b : Str), lt a b = true ↔ a < b := by
  intro a
  unfold lt
  induction a with
  | nil => intro b; cases b <;> simp [Op.bytesLess]
  | cons x a ih =>
    intro b
    cases b with
    | nil => simp [Op.bytesLess]
    | cons y b => rw [List.cons_lt_cons_iff, ← ih b]; simp [Op.bytesLess]
theorem strict_unique : ∀ {a b : List Str}, a.Pairwise (· < ·) → b.Pairwise (· < ·) → (∀ x, x ∈ a ↔ x ∈ b) → a = b := by
  intro a
  induction a with
  | nil =>
    intro b _ _ h
    cases b with
    | nil => rfl
    | cons y b => exact absurd ((h y).2 List.mem_cons_self) (by simp)
  | cons x a ih =>
    intro b ha hb h
    cases b with
    | nil => exact absurd ((h x).1 List.mem_cons_self) (by simp)
    | cons y b =>
      obtain ⟨a1, a2⟩ := List.pairwise_cons.1 ha
      obtain ⟨b1, b2⟩ := List.pairwise_cons.1 hb
      have hxy : x = y := by
        rcases List.mem_cons.1 ((h x).1 List.mem_cons_self) with e | e
        · exact e
        · rcases List.mem_cons.1 ((h y).2 List.mem_cons_self) with e' | e'
          · exact e'.symm
          · exact absurd (List.lt_trans (b1 x e) (a1 y e')) (List.lt_irrefl _)
      subst hxy
      congr 1
      refine ih a2 b2 fun z => ⟨fun hz => ?_, fun hz => ?_⟩
      · rcases List.mem_cons.1 ((h z).1 (List.mem_cons_of_mem _ hz)) with rfl | e
        · exact absurd (a1 z hz) (List.lt_irrefl _)
        · exact e
      · rcases List.mem_cons.1 ((h z).2 (List.mem_cons_of_mem _ hz)) with rfl | e
        · exact absurd (b1 z hz) (List.lt_irrefl _)
        · exact e
def sortedU (xs : List Str) : List Str := Lib.compact (sortS xs)
theorem sortedU_spec (xs : List Str) : (sortedU xs).Pairwise (· < ·) ∧ ∀ x, x ∈ sortedU xs ↔ x ∈ xs := by
  have hp : (sortS xs).Pairwise (fun a b => a ≤ b) := by
    have := List.pairwise_mergeSort (le := fun x y : Str => decide (x ≤ y)) (fun a b c h1 h2 => by simp only [decide_eq_true_eq] at *; exact List.le_trans h1 h2) (fun a b => by simpa using List.le_total a b) xs
    simpa [sortS] using this
  have hm : ∀ x, x ∈ sortS xs ↔ x ∈ xs := fun x => List.mem_mergeSort
  generalize hs : sortS xs = s at hp hm
  have key : ∀ m, m < s.length → ∃ C, Lib.compactUpTo s.toArray (m + 1) = C ++ [s[m]!] ∧ (C ++ [s[m]!]).Pairwise (· < ·) ∧ ∀ x, x ∈ C ++ [s[m]!] ↔ x ∈ s.take (m + 1) := by
    intro m
    induction m with
    | zero =>
      intro h
      obtain ⟨x, r, rfl⟩ : ∃ x r, s = x :: r := by cases s with | nil => simp at h | cons x r => exact ⟨x, r, rfl⟩
      exact ⟨[], by rw [Lib.compactUpTo_succ]; simp [Lib.compactUpTo, Lib.keeps], by simp, by simp⟩
    | succ m ih =>
      intro h
      obtain ⟨C, h1, h2, h3⟩ := ih (by omega)
      have e0 : s[m]! = s[m] := by simp [show m < s.length by omega]
      have e1 : s[m + 1]! = s[m + 1] := by simp [h]
      have ht : s.take (m + 1 + 1) = s.take (m + 1) ++ [s[m + 1]] := by rw [List.take_add_one, List.getElem?_eq_getElem h]; rfl
      have hle : s[m] ≤ s[m + 1] := List.pairwise_iff_getElem.1 hp m (m + 1) (by omega) h (by omega)
      rw [Lib.compactUpTo_succ, h1]
      have hk : Lib.keeps s.toArray (m + 1) = decide (s[m + 1] ≠ s[m]) := by
        simp [Lib.keeps, h, show m < s.length by omega]
      rw [hk, e1, ht]
      by_cases he : s[m + 1] = s[m]
      · refine ⟨C, by simp [he, e0], by rw [he, ← e0]; exact h2, fun x => ?_⟩
        have h4 := h3 x
        rw [e0] at h4
        rw [he]
        constructor
        · exact fun h => List.mem_append_left _ (h4.1 h)
        · intro h
          rcases List.mem_append.1 h with h | h
          · exact h4.2 h
          · exact List.mem_append_right _ h
      · refine ⟨C ++ [s[m]!], by simp [he, h], ?_, fun x => ?_⟩
        · refine List.pairwise_append.2 ⟨h2, by simp, fun a ha b hb => ?_⟩
          simp only [List.mem_singleton] at hb
          subst hb
          have hlt : s[m] < s[m + 1] := by
            rcases Classical.em (s[m] < s[m + 1]) with h | h
            · exact h
            · exact absurd (List.le_antisymm (List.not_lt.1 h) hle) he
          rcases List.mem_append.1 ha with ha | ha
          · have := (List.pairwise_append.1 h2).2.2 a ha s[m]! (by simp)
            rw [e0] at this
            exact List.lt_trans this hlt
          · simp only [List.mem_singleton] at ha
            rw [ha, e0]
            exact hlt
        · rw [List.mem_append, h3 x, List.mem_append]
  unfold sortedU
  rw [hs]
  cases hl : s.length with
  | zero =>
    have : s = [] := List.eq_nil_of_length_eq_zero hl
    subst this
    exact ⟨by simp [Lib.compact, Lib.compactUpTo], fun x => by rw [← hm x]; simp [Lib.compact, Lib.compactUpTo]⟩
  | succ m =>
    obtain ⟨C, h1, h2, h3⟩ := key m (by omega)
    have he : Lib.compact s = C ++ [s[m]!] := by rw [Lib.compact, hl, h1]
    rw [he]
    refine ⟨h2, fun x => ?_⟩
    rw [h3 x, ← hm x, List.take_of_length_le (by omega)]
theorem sortedU_unique {o xs : List Str} (h1 : o.Pairwise (· < ·)) (h2 : ∀ x, x ∈ o ↔ x ∈ xs) : o = sortedU xs :=
  strict_unique h1 (sortedU_spec xs).1 fun x => (h2 x).trans ((sortedU_spec xs).2 x).symm
theorem sortedU_le (xs : List Str) : (sortedU xs).length ≤ xs.length := Nat.le_trans (compact_le _) (Nat.le_of_eq (List.length_mergeSort xs))
theorem f_impl_Sorted (xs : List Str) (hx : xs.length ≤ 1073741824) : Fresh run_impl_Sorted true 2 [.one (strsC xs)] [.one (trL 1 trStr (sortedU xs))] := by
  obtain ⟨c1, E1, i1, e1, r1, w1, g1⟩ := freshO (f_slices_Clone_string xs hx) ([] : List Entry) (mapO_canon [.one (strsC xs)] _ _)
  rw [List.nil_append] at e1 r1
  rcases r1 with ⟨h1, _, f, rfl⟩ | ⟨id, off, ep, e, fr, is, rfl, rfl, he, hq, hwh, hl, hr, hs⟩
  · simp only [List.map_eq_nil_iff] at h1
    subst h1
    have hnil : sortedU [] = [] := by simp [sortedU, sortS, Lib.compact, Lib.compactUpTo]
    have h2 : run_slices_Sort_string [.one (.lst f 1 [])] E1 = some ([], E1) := rfl
    have h3 : run_slices_Compact_string [.one (.lst f 1 [])] E1 = some ([.one (.lst f 1 [])], E1) := rfl
    have h4 : run_slices_Clip_string [.one (.lst f 1 [])] E1 = some ([.one (.lst true 1 [])], E1) := run_slices_Clip_string_of 0 (by simp [slices_Clip_string, slcC, fullOf])
    refine Fresh.one (c := .lst true 1 []) (H := E1) (ids := []) (run_impl_Sorted_of 0 ?_) (.inl ⟨by rw [hnil]; rfl, rfl, true, rfl⟩) (by simp)
    simp only [impl_Sorted, e1, h2, h3, h4, callS_canon, callL_canon, Option.map_some, Option.bind_some, shape_one, shape_agg, shape_nil, cellsAt_0, cellsAt_1, cellsAt_2, cellsAt_3, cells_one, cells_agg, cB_zero, cI_zero, cS_zero, cC_zero, cB_cons, cI_cons, cS_cons, cC_cons, cond_true, cond_false, List.length_cons, List.length_nil, beq_self_eq_true, Bool.and_true, Bool.true_and, lenC_encL, lenC_lst, deref_ref, emptyK_nil, bs_size, bs_toList]
  · obtain ⟨rfl, hle⟩ := hwh rfl
    obtain rfl := hq rfl
    rw [List.drop_zero, hle, List.take_of_length_le (Nat.le_refl _)] at hs
    have hrows : e = xs.map eStr := by
      have key : ∀ {is : List Nat} {e : List (List Cell)} {xs : List Str}, Sp (Sp (Rep E1 true true 1)) is e (xs.map trStr) → (∀ r ∈ e, r.length = 1) → e = xs.map eStr := by
        intro is e xs
        induction xs generalizing is e with
        | nil => intro h _; obtain ⟨_, rfl⟩ := h.nil_inv; rfl
        | cons x xs ih =>
          intro h hl
          obtain ⟨i, i', a, as', rfl, rfl, h1, h2⟩ := h.cons_inv
          obtain ⟨r', rfl, h3⟩ := h1.leaf_inv
          have := hl _ List.mem_cons_self
          have : r' = [] := List.eq_nil_of_length_eq_zero (by simpa using this)
          subst this
          rw [ih h2 fun r hr => hl r (List.mem_cons_of_mem _ hr)]
          rfl
      exact key hs hr
    subst hrows
    simp only [List.length_map] at hle
    have hv : vecS E1 id 1 0 (xs.map trStr).length ep = some xs := by
      simp [vecS, entry?, he, strRows_eStr]
      omega
    have h2 : run_slices_Sort_string [.one (.vs id 1 0 (xs.map trStr).length ep)] E1 = some ([], E1.set id ⟨1, (sortS xs).map eStr, ep, false⟩) := by
      show run_sort _ _ = _
      simp only [run_sort, hv]
    have hid : id < E1.length := (List.getElem?_eq_some_iff.1 he).1
    have hv2 : vecS (E1.set id ⟨1, (sortS xs).map eStr, ep, false⟩) id 1 0 (xs.map trStr).length ep = some (sortS xs) := by
      have : (sortS xs).length = xs.length := List.length_mergeSort xs
      simp [vecS, entry?, hid, strRows_eStr, this]
      omega
    have h3 : run_slices_Compact_string [.one (.vs id 1 0 (xs.map trStr).length ep)] (E1.set id ⟨1, (sortS xs).map eStr, ep, false⟩) = some ([.one (.vs id 1 0 (sortedU xs).length ep)], (E1.set id ⟨1, (sortS xs).map eStr, ep, false⟩).set id ⟨1, (sortedU xs).map eStr, ep, false⟩) := by
      show run_compact _ _ = _
      simp only [run_compact, hv2]
      rfl
    rw [List.set_set] at h3
    have h4 : run_slices_Clip_string [.one (.vs id 1 0 (sortedU xs).length ep)] (E1.set id ⟨1, (sortedU xs).map eStr, ep, false⟩) = some ([.one (.vs id 1 0 (sortedU xs).length ep)], E1.set id ⟨1, (sortedU xs).map eStr, ep, false⟩) := run_slices_Clip_string_of 0 (by simp [slices_Clip_string, slcC])
    refine Fresh.one (c := .vs id 1 0 (sortedU xs).length ep) (H := E1.set id ⟨1, (sortedU xs).map eStr, ep, false⟩) (ids := [id]) (run_impl_Sorted_of 0 ?_) (.inr ⟨id, 0, ep, (sortedU xs).map eStr, false, [], by simp, rfl, by simp [hid], fun _ => rfl, fun _ => ⟨rfl, by simp⟩, by simp, ?_, ?_⟩) (by simp)
    · simp only [impl_Sorted, e1, h2, h3, h4, callS_canon, callL_canon, Option.map_some, Option.bind_some, shape_one, shape_agg, shape_nil, cellsAt_0, cellsAt_1, cellsAt_2, cellsAt_3, cells_one, cells_agg, cB_zero, cI_zero, cS_zero, cC_zero, cB_cons, cI_cons, cS_cons, cC_cons, cond_true, cond_false, List.length_cons, List.length_nil, beq_self_eq_true, Bool.and_true, Bool.true_and, lenC_encL, lenC_lst, deref_ref, emptyK_nil, bs_size, bs_toList]
    · intro r hr
      obtain ⟨x, _, rfl⟩ := List.mem_map.1 hr
      rfl
    · rw [List.drop_zero, List.take_of_length_le (by simp)]
      have : ∀ (l : List Str) (G : List Entry), Sp (Sp (Rep G true true 1)) [] (l.map eStr) (l.map trStr) := by
        intro l G
        induction l with
        | nil => exact .nil
        | cons x l ih => exact .cons (i := []) (is := []) (Sp.leaf1 _) ih
      exact this _ _
/-- The names that lean on a name. -/
def byOf (names : List Str) (next : List (List Str)) (s : Str) : List Str := ((names.zip next).filter fun p => p.2.contains s).map (·.1)
theorem gm_by {H : List Entry} {ids : List Nat} {g : Nat} {names : List Str} {next : List (List Str)} (h : GraphM H ids g names next) (h1 : names.length ≤ 1048576) (h3 : ∀ d ∈ next, d.length ≤ 1073741824) (s : Str) :
    ∃ c T, run_impl_graph_by [.one (.ptr g 2 0 0 0), .one (Cell.str (bs s))] H = some ([.one c], H ++ T) ∧ GrowAt H.length 1 c T ((byOf names next s).map eStr) := by
  have hM := maxLen_eq
  have hG : ∀ T, GraphM (H ++ T) ids g names next := fun T => h.app (fun j hj => by rw [List.getElem?_append_left (h.lt j hj)]) (by simp)
  obtain ⟨_, hlt, hlen, cn, co, fr, he, hn, ho⟩ := h
  have hgl : g < H.length := (List.getElem?_eq_some_iff.1 he).1
  have d0 : ∀ T, deref (H ++ T) (.ptr g 2 0 0 0) = some ([cn, co], 0) := fun T => by simp [deref, entry?, List.getElem?_append_left hgl, he]
  have d1 : deref H (.ptr g 2 0 1 0) = some ([cn, co], 1) := by simp [deref, entry?, he]
  have fr' : ∀ (T : List Entry), ∀ j ∈ ids, (H ++ T)[j]? = H[j]? := fun T j hj => List.getElem?_append_left (hlt j hj)
  have loop : ∀ (r : List (Str × List Str)) (i n : Nat) (acc : List Str) (c : Cell) (T : List Entry), (names.zip next).drop i = r → r.length < n → acc.length ≤ i → GrowAt H.length 1 c T (acc.map eStr) → ∀ k m,
      ∃ c' T', impl_graph_by_l0 k m n (.ptr g 2 0 0 0) (bs s) c co next.length i (H ++ T) = some ([.one c'], H ++ T') ∧ GrowAt H.length 1 c' T' ((acc ++ (r.filter fun p => p.2.contains s).map (·.1)).map eStr) := by
    intro r
    induction r with
    | nil =>
      intro i n acc c T hd hn' ha hg k m
      obtain ⟨n, rfl⟩ : ∃ j, n = j + 1 := ⟨n - 1, by omega⟩
      have := drop_nil hd
      simp only [List.length_zip] at this
      refine ⟨c, T, ?_, by simpa using hg⟩
      simp only [impl_graph_by_l0]
      rw [decide_eq_false (by omega), cond_false]
    | cons x r ih =>
      intro i n acc c T hd hn' ha hg k m
      obtain ⟨n, rfl⟩ : ∃ j, n = j + 1 := ⟨n - 1, by omega⟩
      obtain ⟨hlt', hx, hd'⟩ := drop_cons hd
      simp only [List.length_cons] at hn'
      simp only [List.length_zip] at hlt'
      obtain ⟨nm, d⟩ := x
      obtain ⟨hxn, hxd⟩ : names[i]? = some nm ∧ next[i]? = some d := by
        rw [List.getElem?_zip_eq_some] at hx
        exact hx
      obtain ⟨a, dc, i1, i2, i3⟩ := (ho.frame (fr' T)).at hxd
      have q1 : callS run_slices_Contains_string [.one dc, .one (Cell.str (bs s))] (H ++ T) = some [.one (Cell.bool (d.contains s))] := by
        rw [callS_of (mapO_c i3.read (mapO_c (reifyAV_canon _ _ _) (mapO_nil' _)))]
        exact c_slices_Contains_string d s (h3 d (List.mem_of_getElem? hxd))
      simp only [impl_graph_by_l0]
      rw [decide_eq_true (by omega), cond_true]
      simp only [i1, i2, q1, wrap_succ (show i < maxLen by omega), callS_canon, callL_canon, Option.map_some, Option.bind_some, shape_one, shape_agg, shape_nil, cellsAt_0, cellsAt_1, cellsAt_2, cellsAt_3, cells_one, cells_agg, cB_zero, cI_zero, cS_zero, cC_zero, cB_cons, cI_cons, cS_cons, cC_cons, cond_true, cond_false, List.length_cons, List.length_nil, beq_self_eq_true, Bool.and_true, Bool.true_and, lenC_encL, lenC_lst, deref_ref, emptyK_nil, bs_size, bs_toList]
      cases hc : d.contains s with
      | false =>
        rw [cond_false]
        obtain ⟨c', T', z1, z2⟩ := ih (i + 1) n acc c T hd' (by omega) (by omega) hg k m
        have hf : ((nm, d) :: r).filter (fun p => p.2.contains s) = r.filter fun p => p.2.contains s := by simp only [List.filter_cons, hc]; rfl
        exact ⟨c', T', z1, by rw [hf]; exact z2⟩
      | true =>
        rw [cond_true]
        obtain ⟨a2, row, off, j1, j2, j3⟩ := (hn.frame (fr' T)).at hxn
        obtain ⟨c1, T1, a1, g1⟩ := app_at (A := H) (by' := 16) hg (eStr nm) (by simp [bound]; omega) (by simp [bound]; omega)
        have hrow : acc.map eStr ++ [eStr nm] = (acc ++ [nm]).map eStr := by simp
        rw [hrow] at g1
        obtain ⟨c', T', z1, z2⟩ := ih (i + 1) n (acc ++ [nm]) c1 T1 hd' (by omega) (by simp; omega) g1 k m
        have hf : ((nm, d) :: r).filter (fun p => p.2.contains s) = (nm, d) :: r.filter fun p => p.2.contains s := by simp only [List.filter_cons, hc]; rfl
        refine ⟨c', T', ?_, by rw [hf, List.map_cons, List.append_cons]; exact z2⟩
        simp only [eStr] at a1
        simp only [ptrC, fldA_ptr, Nat.zero_add, d0, cC_zero, j1, j2, j3, a1, Option.bind_some]
        exact z1
  obtain ⟨c, T, z1, z2⟩ := loop (names.zip next) 0 (next.length + 1 + 1) [] (.lst true 1 []) [] rfl (by simp; omega) (by simp) (.inl ⟨rfl, rfl, rfl⟩) (next.length + 1 + 1) (next.length + 1 + 1)
  refine ⟨c, T, run_impl_graph_by_of (next.length + 1) ?_, z2⟩
  rw [List.append_nil] at z1
  simp only [impl_graph_by, ptrC, fldA_ptr, Nat.zero_add, d1, cC_cons, cC_zero, ho.len, Option.bind_some]
  exact z1
open Classical in
/-- What is reached from a text, in order. -/
noncomputable def reachS (nx : Str → List Str) (a : Str) : List Str := if h : ∃ o : List Str, ∀ x, x ∈ o ↔ Reach nx a x then sortedU h.choose else []
theorem reachS_eq {nx : Str → List Str} {a : Str} {o : List Str} (h : ∀ x, x ∈ o ↔ Reach nx a x) : reachS nx a = sortedU o := by
  have hh : ∃ o : List Str, ∀ x, x ∈ o ↔ Reach nx a x := ⟨o, h⟩
  unfold reachS
  rw [dif_pos hh]
  refine strict_unique (sortedU_spec _).1 (sortedU_spec _).1 fun x => ?_
  rw [(sortedU_spec _).2 x, (sortedU_spec _).2 x, h x, hh.choose_spec x]
theorem reach_congr {nx ny : Str → List Str} (h : ∀ x y, y ∈ nx x ↔ y ∈ ny x) {a x : Str} (hr : Reach nx a x) : Reach ny a x := by
  induction hr with
  | one hb => exact .one ((h _ _).1 hb)
  | step _ k ih => exact .step ih ((h _ _).1 k)
theorem reachS_congr {nx ny : Str → List Str} (h : ∀ x y, y ∈ nx x ↔ y ∈ ny x) {a : Str} {o : List Str} (ho : ∀ x, x ∈ o ↔ Reach nx a x) : reachS ny a = reachS nx a := by
  rw [reachS_eq ho]
  refine reachS_eq fun x => (ho x).trans ⟨reach_congr h, reach_congr fun a b => (h a b).symm⟩
theorem gm_impl_deep_impl_graph_onOf {H0 : List Entry} {ids : List Nat} {g : Nat} {names : List Str} {next : List (List Str)} (hG : GraphM H0 ids g names next) (nx : Str → List Str) (U : List Str) (hU : U.length ≤ 1048576) (hm : ∀ x, ∀ y ∈ nx x, y ∈ U) (hl : ∀ x, (nx x).length ≤ 1048576)
    (hnext : ∀ (H : List Entry) (x : Str), GraphM H ids g names next → ∃ d H' ds, run_impl_graph_onOf [.one (.ptr g 2 0 0 0), .one (Cell.str (bs x))] H = some ([.one d], H') ∧ ListM H' ds d (nx x) ∧ H.length ≤ H'.length ∧ (∀ j, j < H.length → H'[j]? = H[j]?) ∧ (∀ j ∈ ds, j < H'.length ∧ (j < H0.length ∨ H.length ≤ j))) (s : Str) :
    ∃ c H' is, run_impl_deep [.one (Cell.str (bs s)), .one (.fn fid_impl_graph_onOf [.ptr g 2 0 0 0] [])] H0 = some ([.one c], H') ∧ Rep H' true true 2 is c (trL 1 trStr (reachS nx s)) ∧ is.Nodup := by
  have hM := maxLen_eq
  have hreach : ∀ x, Reach nx s x → x ∈ U := fun x h => by
    cases h with
    | one h => exact hm _ _ h
    | step _ k => exact hm _ _ k
  -- the innermost loop
  have L2 : ∀ (ys : List Str), ys.length ≤ 1048576 → ∀ (r : List Str) (i n : Nat) (H : List Entry) (i1 i2 ds : List Nat) (cr cm cy cf : Cell) (row more : List Str) (a b : Int), ys.drop i = r → r.length < n → RM H0.length H i1 i2 cr cm row more → H0.length ≤ H.length →
      ListM H ds cy ys → (∀ j ∈ ds, j < H.length ∧ j ∉ i1 ∧ j ∉ i2) → (row ++ freshL row r).length ≤ 1048576 → more.length ≤ row.length → ∀ (b0 : Cell → Cell → Cell → List Entry → Option Res) (b1 : Cell → Cell → Cell → Cell → Int → Int → List Entry → Option Res) k m,
      ∃ cr' cm' H' j1 j2, impl_deep_impl_graph_onOf_l2 k m b0 b1 n (.ptr g 2 0 0 0) cr cm cf a b cy ys.length i H = b1 (.ptr g 2 0 0 0) cr' cm' cf a (IntKind.i64.wrap (b + 1)) H' ∧ RM H0.length H' j1 j2 cr' cm' (row ++ freshL row r) (more ++ freshL row r) ∧ H.length ≤ H'.length ∧
        (∀ j, j < H.length → j ∉ i1 → j ∉ i2 → H'[j]? = H[j]?) ∧ (∀ j ∈ j1, j ∈ i1 ∨ H.length ≤ j) ∧ ∀ j ∈ j2, j ∈ i2 ∨ H.length ≤ j := by
    intro ys hys r
    induction r with
    | nil =>
      intro i n H i1 i2 ds cr cm cy cf row more a b hd hn hr hN hy hds hb hmr b0 b1 k m
      obtain ⟨n, rfl⟩ : ∃ j, n = j + 1 := ⟨n - 1, by omega⟩
      have := drop_nil hd
      refine ⟨cr, cm, H, i1, i2, ?_, by simpa [freshL] using hr, Nat.le_refl _, fun _ _ _ _ => rfl, fun j h => .inl h, fun j h => .inl h⟩
      simp only [impl_deep_impl_graph_onOf_l2]
      rw [decide_eq_false (by omega), cond_false]
    | cons y r ih =>
      intro i n H i1 i2 ds cr cm cy cf row more a b hd hn hr hN hy hds hb hmr b0 b1 k m
      obtain ⟨n, rfl⟩ : ∃ j, n = j + 1 := ⟨n - 1, by omega⟩
      obtain ⟨hlt, hx, hd'⟩ := drop_cons hd
      simp only [List.length_cons] at hn
      obtain ⟨a1, rw1, off, t1, t2, t3⟩ := hy.at hx
      have hrl : row.length ≤ 1048576 := by simp at hb; omega
      have q1 : callS run_slices_Contains_string [.one cr, .one (Cell.str (bs y))] H = some [.one (Cell.bool (row.contains y))] := by
        rw [callS_of (mapO_c (ListM.of (n := 2) hr.1).read (mapO_c (reifyAV_canon _ _ _) (mapO_nil' _)))]
        exact c_slices_Contains_string row y (by omega)
      simp only [impl_deep_impl_graph_onOf_l2]
      rw [decide_eq_true (by omega), cond_true]
      simp only [t1, t2, t3, q1, wrap_succ (show i < maxLen by omega), callS_canon, callL_canon, Option.map_some, Option.bind_some, shape_one, shape_agg, shape_nil, cellsAt_0, cellsAt_1, cellsAt_2, cellsAt_3, cells_one, cells_agg, cB_zero, cI_zero, cS_zero, cC_zero, cB_cons, cI_cons, cS_cons, cC_cons, cond_true, cond_false, List.length_cons, List.length_nil, beq_self_eq_true, Bool.and_true, Bool.true_and, lenC_encL, lenC_lst, deref_ref, emptyK_nil, bs_size, bs_toList]
      unfold freshL at hb ⊢
      cases hc : row.contains y with
      | true =>
        rw [hc, cond_true] at hb
        simp only [Bool.not_true, cond_false, cond_true]
        exact ih (i + 1) n H i1 i2 ds cr cm cy cf row more a b hd' (by omega) hr hN hy hds hb hmr b0 b1 k m
      | false =>
        rw [hc, cond_false, List.append_cons] at hb
        obtain ⟨p, q, j1, j2, e1, e2, hr', m1, k1, g1, g2⟩ := hr.push hN y (by omega) (by omega)
        simp only [Bool.not_false, cond_true, cond_false, e1, e2, Option.bind_some]
        obtain ⟨cr', cm', H', l1, l2, z1, z2, z3, z4, z5, z6⟩ := ih (i + 1) n q.2 j1 j2 ds p.1 q.1 cy cf (row ++ [y]) (more ++ [y]) a b hd' (by omega) hr' (by omega) (hy.frame fun j hj => by
          obtain ⟨d1, d2, d3⟩ := hds j hj
          exact k1 j d1 d2 d3) (fun j hj => by
          obtain ⟨d1, d2, d3⟩ := hds j hj
          refine ⟨by omega, fun h => ?_, fun h => ?_⟩
          · rcases g1 j h with h | h
            · exact d2 h
            · omega
          · rcases g2 j h with h | h
            · exact d3 h
            · omega) hb (by simp; omega) b0 b1 k m
        refine ⟨cr', cm', H', l1, l2, z1, by rw [List.append_cons, List.append_cons more]; exact z2, by omega, fun j hj n1 n2 => ?_, fun j hj => ?_, fun j hj => ?_⟩
        · rw [z4 j (by omega) (fun h => ?_) fun h => ?_, k1 j hj n1 n2]
          · rcases g1 j h with h | h
            · exact n1 h
            · omega
          · rcases g2 j h with h | h
            · exact n2 h
            · omega
        · rcases z5 j hj with h | h
          · exact g1 j h
          · exact .inr (by omega)
        · rcases z6 j hj with h | h
          · exact g2 j h
          · exact .inr (by omega)
  -- the names of a round
  have L1 : ∀ (fr : List Str), fr.length ≤ 1048577 → ∀ (r : List Str) (i n : Nat) (H : List Entry) (i1 i2 fs : List Nat) (cr cm cf : Cell) (row more : List Str), fr.drop i = r → r.length < n → RM H0.length H i1 i2 cr cm row more → H0.length ≤ H.length → (∀ j, j < H0.length → H[j]? = H0[j]?) →
      ListM H fs cf fr → (∀ j ∈ fs, j < H.length ∧ j ∉ i1 ∧ j ∉ i2) → Found nx s row (r ++ more) → more.length ≤ row.length → ∀ (b0 : Cell → Cell → Cell → List Entry → Option Res) k m, 1048576 < m →
      ∃ cr' cm' H' j1 j2 row' more', impl_deep_impl_graph_onOf_l1 k m b0 n (.ptr g 2 0 0 0) cr cm cf fr.length i H = b0 (.ptr g 2 0 0 0) cr' cm' H' ∧ RM H0.length H' j1 j2 cr' cm' row' more' ∧ H0.length ≤ H'.length ∧ (∀ j, j < H0.length → H'[j]? = H0[j]?) ∧ Found nx s row' more' ∧ more'.length ≤ row'.length ∧ row.length + more'.length ≤ row'.length + more.length := by
    intro fr hfr r
    induction r with
    | nil =>
      intro i n H i1 i2 fs cr cm cf row more hd hn hr hN h0 hf hfs hF hmr b0 k m hm'
      obtain ⟨n, rfl⟩ : ∃ j, n = j + 1 := ⟨n - 1, by omega⟩
      have := drop_nil hd
      refine ⟨cr, cm, H, i1, i2, row, more, ?_, hr, hN, h0, hF, hmr, by omega⟩
      simp only [impl_deep_impl_graph_onOf_l1]
      rw [decide_eq_false (by omega), cond_false]
    | cons x r ih =>
      intro i n H i1 i2 fs cr cm cf row more hd hn hr hN h0 hf hfs hF hmr b0 k m hm'
      obtain ⟨n, rfl⟩ : ∃ j, n = j + 1 := ⟨n - 1, by omega⟩
      obtain ⟨hlt, hx, hd'⟩ := drop_cons hd
      simp only [List.length_cons] at hn
      obtain ⟨a1, rw1, off, t1, t2, t3⟩ := hf.at hx
      have hGH : GraphM H ids g names next := hG.app (fun j hj => h0 j (hG.lt j hj)) hN
      obtain ⟨d, H1, ds, u1, u2, u3, u4, u5⟩ := hnext H x hGH
      have hr1 := hr.frame u4
      have hF' := hF.next
      have hrow' : (row ++ freshL row (nx x)).length ≤ U.length := nodup_le hF'.nd fun y hy => hreach y (hF'.ro y hy)
      have hb : ∀ j, (j ∈ i1 ∨ j ∈ i2) → H0.length ≤ j ∧ j < H.length := fun j hj => by
        obtain ⟨p1, p2, _, _, _, _, _, p3, p4⟩ := hr
        rcases hj with hj | hj
        · exact ⟨p3 j hj, p1.lt j hj⟩
        · exact ⟨p4 j hj, p2.lt j hj⟩
      obtain ⟨cr', cm', H', j1, j2, z1, z2, z3, z4, z5, z6⟩ := L2 (nx x) (hl x) (nx x) 0 m H1 i1 i2 ds cr cm d cf row more fr.length i rfl (by have := hl x; omega) hr1 (by omega) u2 (fun j hj => by
        obtain ⟨d1, d2⟩ := u5 j hj
        refine ⟨d1, fun h => ?_, fun h => ?_⟩
        · have := hb j (.inl h); omega
        · have := hb j (.inr h); omega) (by omega) hmr b0 (impl_deep_impl_graph_onOf_l1 k m b0 n) k m
      have hfs' : ∀ j ∈ fs, j < H'.length ∧ j ∉ j1 ∧ j ∉ j2 := fun j hj => by
        obtain ⟨d1, d2, d3⟩ := hfs j hj
        refine ⟨by omega, fun h => ?_, fun h => ?_⟩
        · rcases z5 j h with h | h
          · exact d2 h
          · omega
        · rcases z6 j h with h | h
          · exact d3 h
          · omega
      obtain ⟨cr2, cm2, H2, l1, l2, row2, more2, y1, y2, y3, y4, y5, y6, y7⟩ := ih (i + 1) n H' j1 j2 fs cr' cm' cf (row ++ freshL row (nx x)) (more ++ freshL row (nx x)) hd' (by omega) z2 (by omega) (fun j hj => by
        rw [z4 j (by omega) (fun h => by have := hb j (.inl h); omega) fun h => by have := hb j (.inr h); omega, u4 j (by omega), h0 j hj]) (hf.frame fun j hj => by
        obtain ⟨d1, d2, d3⟩ := hfs j hj
        rw [z4 j (by omega) d2 d3, u4 j d1]) hfs' (by rw [← List.append_assoc]; exact hF') (by simp; omega) b0 k m hm'
      refine ⟨cr2, cm2, H2, l1, l2, row2, more2, ?_, y2, y3, y4, y5, y6, by simp at y7; omega⟩
      simp only [impl_deep_impl_graph_onOf_l1]
      rw [decide_eq_true (by omega), cond_true]
      simp only [t1, t2, t3, u1, u2.len, callS_canon, callL_canon, Option.map_some, Option.bind_some, shape_one, shape_agg, shape_nil, cellsAt_0, cellsAt_1, cellsAt_2, cellsAt_3, cells_one, cells_agg, cB_zero, cI_zero, cS_zero, cC_zero, cB_cons, cI_cons, cS_cons, cC_cons, cond_true, cond_false, List.length_cons, List.length_nil, beq_self_eq_true, Bool.and_true, Bool.true_and, lenC_encL, lenC_lst, deref_ref, emptyK_nil, bs_size, bs_toList]
      rw [show (0 : Int) = ((0 : Nat) : Int) from rfl, z1, wrap_succ (by omega)]
      exact y1
  -- the rounds
  have L0 : ∀ (d : Nat) (H : List Entry) (i1 fs : List Nat) (cr cf : Cell) (row fr : List Str) (n : Nat), RM H0.length H i1 [] cr (.lst true 1 []) row [] → H0.length ≤ H.length → (∀ j, j < H0.length → H[j]? = H0[j]?) → ListM H fs cf fr → (∀ j ∈ fs, j < H.length ∧ j ∉ i1) → Found nx s row fr → fr.length ≤ row.length + 1 →
      2 * (U.length - row.length) + (if fr = [] then 0 else 1) ≤ d → d < n → ∀ k m, 1048577 < m → ∃ c H' is, impl_deep_impl_graph_onOf_l0 k m n (.ptr g 2 0 0 0) cr cf H = some ([.one c], H') ∧ Rep H' true true 2 is c (trL 1 trStr (reachS nx s)) ∧ is.Nodup := by
    intro d
    induction d with
    | zero =>
      intro H i1 fs cr cf row fr n hr hN h0 hf hfs hF hfl hd hn k m hm'
      obtain ⟨n, rfl⟩ : ∃ j, n = j + 1 := ⟨n - 1, by omega⟩
      have hfr : fr = [] := by
        rcases Classical.em (fr = []) with h | h
        · exact h
        · rw [if_neg h] at hd; omega
      subst hfr
      have hrl : row.length ≤ U.length := nodup_le hF.nd fun y hy => hreach y (hF.ro y hy)
      obtain ⟨c', E, is, e1, r1, w1, _⟩ := freshO (f_impl_Sorted row (by omega)) H (mapO_c (ListM.of (n := 2) hr.1).read (mapO_nil' _))
      refine ⟨c', H ++ E, is, ?_, by rw [reachS_eq hF.done]; exact r1, w1.nd⟩
      simp only [impl_deep_impl_graph_onOf_l0, hf.len, List.length_nil, Option.bind_some]
      rw [decide_eq_false (by omega), cond_false]
      simp only [e1, callS_canon, callL_canon, Option.map_some, Option.bind_some, shape_one, shape_agg, shape_nil, cellsAt_0, cellsAt_1, cellsAt_2, cellsAt_3, cells_one, cells_agg, cB_zero, cI_zero, cS_zero, cC_zero, cB_cons, cI_cons, cS_cons, cC_cons, cond_true, cond_false, List.length_cons, List.length_nil, beq_self_eq_true, Bool.and_true, Bool.true_and, lenC_encL, lenC_lst, deref_ref, emptyK_nil, bs_size, bs_toList]
    | succ d ih =>
      intro H i1 fs cr cf row fr n hr hN h0 hf hfs hF hfl hd hn k m hm'
      obtain ⟨n, rfl⟩ : ∃ j, n = j + 1 := ⟨n - 1, by omega⟩
      have hrl : row.length ≤ U.length := nodup_le hF.nd fun y hy => hreach y (hF.ro y hy)
      cases fr with
      | nil =>
        obtain ⟨c', E, is, e1, r1, w1, _⟩ := freshO (f_impl_Sorted row (by omega)) H (mapO_c (ListM.of (n := 2) hr.1).read (mapO_nil' _))
        refine ⟨c', H ++ E, is, ?_, by rw [reachS_eq hF.done]; exact r1, w1.nd⟩
        simp only [impl_deep_impl_graph_onOf_l0, hf.len, List.length_nil, Option.bind_some]
        rw [decide_eq_false (by omega), cond_false]
        simp only [e1, callS_canon, callL_canon, Option.map_some, Option.bind_some, shape_one, shape_agg, shape_nil, cellsAt_0, cellsAt_1, cellsAt_2, cellsAt_3, cells_one, cells_agg, cB_zero, cI_zero, cS_zero, cC_zero, cB_cons, cI_cons, cS_cons, cC_cons, cond_true, cond_false, List.length_cons, List.length_nil, beq_self_eq_true, Bool.and_true, Bool.true_and, lenC_encL, lenC_lst, deref_ref, emptyK_nil, bs_size, bs_toList]
      | cons x fr =>
        rw [if_neg (by simp)] at hd
        obtain ⟨cr', cm', H', j1, j2, row', more', z1, z2, z3, z4, z5, z6, z7⟩ := L1 (x :: fr) (by omega) (x :: fr) 0 m H i1 [] fs cr (.lst true 1 []) cf row [] rfl (by omega) hr hN h0 hf (fun j hj => ⟨(hfs j hj).1, (hfs j hj).2, by simp⟩) (by simpa using hF) (by simp) (impl_deep_impl_graph_onOf_l0 k m n) k m (by omega)
        have hrl' : row'.length ≤ U.length := nodup_le z5.nd fun y hy => hreach y (z5.ro y hy)
        simp only [List.length_nil] at z7
        obtain ⟨c, H2, is, y1, y2, y3⟩ := ih H' j1 j2 cr' cm' row' more' n z2.anew z3 z4 (ListM.of (n := 2) z2.2.1) (fun j hj => ⟨z2.2.1.lt j hj, fun h => z2.2.2.2.2.2.2.1 j h hj⟩) z5 (by omega) (by
          by_cases hm0 : more' = []
          · rw [if_pos hm0]; omega
          · rw [if_neg hm0]
            have := List.length_pos_iff.2 hm0
            omega) (by omega) k m hm'
        refine ⟨c, H2, is, ?_, y2, y3⟩
        simp only [impl_deep_impl_graph_onOf_l0, hf.len, Option.bind_some]
        rw [decide_eq_true (by simp), cond_true, show (0 : Int) = ((0 : Nat) : Int) from rfl, z1]
        exact y1
  obtain ⟨c, H', is, z1, z2, z3⟩ := L0 (2 * U.length + 1) H0 [] [] (.lst true 1 []) (.lst true 1 ([s].map eStr)) [] [s] (2 * U.length + 1048577 + 1) (RM.nil _ _).anew (Nat.le_refl _) (fun _ _ => rfl) (.inl ⟨true, rfl⟩) (by simp) (Found.start nx s) (by simp) (by simp) (by omega) (2 * U.length + 1048577 + 1) (2 * U.length + 1048577 + 1) (by omega)
  exact ⟨c, H', is, run_impl_deep_impl_graph_onOf_of (2 * U.length + 1048577) (by simpa [impl_deep_impl_graph_onOf, eStr] using z1), z2, z3⟩
theorem gm_impl_deep_impl_graph_by {H0 : List Entry} {ids : List Nat} {g : Nat} {names : List Str} {next : List (List Str)} (hG : GraphM H0 ids g names next) (nx : Str → List Str) (U : List Str) (hU : U.length ≤ 1048576) (hm : ∀ x, ∀ y ∈ nx x, y ∈ U) (hl : ∀ x, (nx x).length ≤ 1048576)
    (hnext : ∀ (H : List Entry) (x : Str), GraphM H ids g names next → ∃ d H' ds, run_impl_graph_by [.one (.ptr g 2 0 0 0), .one (Cell.str (bs x))] H = some ([.one d], H') ∧ ListM H' ds d (nx x) ∧ H.length ≤ H'.length ∧ (∀ j, j < H.length → H'[j]? = H[j]?) ∧ (∀ j ∈ ds, j < H'.length ∧ (j < H0.length ∨ H.length ≤ j))) (s : Str) :
    ∃ c H' is, run_impl_deep [.one (Cell.str (bs s)), .one (.fn fid_impl_graph_by [.ptr g 2 0 0 0] [])] H0 = some ([.one c], H') ∧ Rep H' true true 2 is c (trL 1 trStr (reachS nx s)) ∧ is.Nodup := by
  have hM := maxLen_eq
  have hreach : ∀ x, Reach nx s x → x ∈ U := fun x h => by
    cases h with
    | one h => exact hm _ _ h
    | step _ k => exact hm _ _ k
  -- the innermost loop
  have L2 : ∀ (ys : List Str), ys.length ≤ 1048576 → ∀ (r : List Str) (i n : Nat) (H : List Entry) (i1 i2 ds : List Nat) (cr cm cy cf : Cell) (row more : List Str) (a b : Int), ys.drop i = r → r.length < n → RM H0.length H i1 i2 cr cm row more → H0.length ≤ H.length →
      ListM H ds cy ys → (∀ j ∈ ds, j < H.length ∧ j ∉ i1 ∧ j ∉ i2) → (row ++ freshL row r).length ≤ 1048576 → more.length ≤ row.length → ∀ (b0 : Cell → Cell → Cell → List Entry → Option Res) (b1 : Cell → Cell → Cell → Cell → Int → Int → List Entry → Option Res) k m,
      ∃ cr' cm' H' j1 j2, impl_deep_impl_graph_by_l2 k m b0 b1 n (.ptr g 2 0 0 0) cr cm cf a b cy ys.length i H = b1 (.ptr g 2 0 0 0) cr' cm' cf a (IntKind.i64.wrap (b + 1)) H' ∧ RM H0.length H' j1 j2 cr' cm' (row ++ freshL row r) (more ++ freshL row r) ∧ H.length ≤ H'.length ∧
        (∀ j, j < H.length → j ∉ i1 → j ∉ i2 → H'[j]? = H[j]?) ∧ (∀ j ∈ j1, j ∈ i1 ∨ H.length ≤ j) ∧ ∀ j ∈ j2, j ∈ i2 ∨ H.length ≤ j := by
    intro ys hys r
    induction r with
    | nil =>
      intro i n H i1 i2 ds cr cm cy cf row more a b hd hn hr hN hy hds hb hmr b0 b1 k m
      obtain ⟨n, rfl⟩ : ∃ j, n = j + 1 := ⟨n - 1, by omega⟩
      have := drop_nil hd
      refine ⟨cr, cm, H, i1, i2, ?_, by simpa [freshL] using hr, Nat.le_refl _, fun _ _ _ _ => rfl, fun j h => .inl h, fun j h => .inl h⟩
      simp only [impl_deep_impl_graph_by_l2]
      rw [decide_eq_false (by omega), cond_false]
    | cons y r ih =>
      intro i n H i1 i2 ds cr cm cy cf row more a b hd hn hr hN hy hds hb hmr b0 b1 k m
      obtain ⟨n, rfl⟩ : ∃ j, n = j + 1 := ⟨n - 1, by omega⟩
      obtain ⟨hlt, hx, hd'⟩ := drop_cons hd
      simp only [List.length_cons] at hn
      obtain ⟨a1, rw1, off, t1, t2, t3⟩ := hy.at hx
      have hrl : row.length ≤ 1048576 := by simp at hb; omega
      have q1 : callS run_slices_Contains_string [.one cr, .one (Cell.str (bs y))] H = some [.one (Cell.bool (row.contains y))] := by
        rw [callS_of (mapO_c (ListM.of (n := 2) hr.1).read (mapO_c (reifyAV_canon _ _ _) (mapO_nil' _)))]
        exact c_slices_Contains_string row y (by omega)
      simp only [impl_deep_impl_graph_by_l2]
      rw [decide_eq_true (by omega), cond_true]
      simp only [t1, t2, t3, q1, wrap_succ (show i < maxLen by omega), callS_canon, callL_canon, Option.map_some, Option.bind_some, shape_one, shape_agg, shape_nil, cellsAt_0, cellsAt_1, cellsAt_2, cellsAt_3, cells_one, cells_agg, cB_zero, cI_zero, cS_zero, cC_zero, cB_cons, cI_cons, cS_cons, cC_cons, cond_true, cond_false, List.length_cons, List.length_nil, beq_self_eq_true, Bool.and_true, Bool.true_and, lenC_encL, lenC_lst, deref_ref, emptyK_nil, bs_size, bs_toList]
      unfold freshL at hb ⊢
      cases hc : row.contains y with
      | true =>
        rw [hc, cond_true] at hb
        simp only [Bool.not_true, cond_false, cond_true]
        exact ih (i + 1) n H i1 i2 ds cr cm cy cf row more a b hd' (by omega) hr hN hy hds hb hmr b0 b1 k m
      | false =>
        rw [hc, cond_false, List.append_cons] at hb
        obtain ⟨p, q, j1, j2, e1, e2, hr', m1, k1, g1, g2⟩ := hr.push hN y (by omega) (by omega)
        simp only [Bool.not_false, cond_true, cond_false, e1, e2, Option.bind_some]
        obtain ⟨cr', cm', H', l1, l2, z1, z2, z3, z4, z5, z6⟩ := ih (i + 1) n q.2 j1 j2 ds p.1 q.1 cy cf (row ++ [y]) (more ++ [y]) a b hd' (by omega) hr' (by omega) (hy.frame fun j hj => by
          obtain ⟨d1, d2, d3⟩ := hds j hj
          exact k1 j d1 d2 d3) (fun j hj => by
          obtain ⟨d1, d2, d3⟩ := hds j hj
          refine ⟨by omega, fun h => ?_, fun h => ?_⟩
          · rcases g1 j h with h | h
            · exact d2 h
            · omega
          · rcases g2 j h with h | h
            · exact d3 h
            · omega) hb (by simp; omega) b0 b1 k m
        refine ⟨cr', cm', H', l1, l2, z1, by rw [List.append_cons, List.append_cons more]; exact z2, by omega, fun j hj n1 n2 => ?_, fun j hj => ?_, fun j hj => ?_⟩
        · rw [z4 j (by omega) (fun h => ?_) fun h => ?_, k1 j hj n1 n2]
          · rcases g1 j h with h | h
            · exact n1 h
            · omega
          · rcases g2 j h with h | h
            · exact n2 h
            · omega
        · rcases z5 j hj with h | h
          · exact g1 j h
          · exact .inr (by omega)
        · rcases z6 j hj with h | h
          · exact g2 j h
          · exact .inr (by omega)
  -- the names of a round
  have L1 : ∀ (fr : List Str), fr.length ≤ 1048577 → ∀ (r : List Str) (i n : Nat) (H : List Entry) (i1 i2 fs : List Nat) (cr cm cf : Cell) (row more : List Str), fr.drop i = r → r.length < n → RM H0.length H i1 i2 cr cm row more → H0.length ≤ H.length → (∀ j, j < H0.length → H[j]? = H0[j]?) →
      ListM H fs cf fr → (∀ j ∈ fs, j < H.length ∧ j ∉ i1 ∧ j ∉ i2) → Found nx s row (r ++ more) → more.length ≤ row.length → ∀ (b0 : Cell → Cell → Cell → List Entry → Option Res) k m, 1048576 < m →
      ∃ cr' cm' H' j1 j2 row' more', impl_deep_impl_graph_by_l1 k m b0 n (.ptr g 2 0 0 0) cr cm cf fr.length i H = b0 (.ptr g 2 0 0 0) cr' cm' H' ∧ RM H0.length H' j1 j2 cr' cm' row' more' ∧ H0.length ≤ H'.length ∧ (∀ j, j < H0.length → H'[j]? = H0[j]?) ∧ Found nx s row' more' ∧ more'.length ≤ row'.length ∧ row.length + more'.length ≤ row'.length + more.length := by
    intro fr hfr r
    induction r with
    | nil =>
      intro i n H i1 i2 fs cr cm cf row more hd hn hr hN h0 hf hfs hF hmr b0 k m hm'
      obtain ⟨n, rfl⟩ : ∃ j, n = j + 1 := ⟨n - 1, by omega⟩
      have := drop_nil hd
      refine ⟨cr, cm, H, i1, i2, row, more, ?_, hr, hN, h0, hF, hmr, by omega⟩
      simp only [impl_deep_impl_graph_by_l1]
      rw [decide_eq_false (by omega), cond_false]
    | cons x r ih =>
      intro i n H i1 i2 fs cr cm cf row more hd hn hr hN h0 hf hfs hF hmr b0 k m hm'
      obtain ⟨n, rfl⟩ : ∃ j, n = j + 1 := ⟨n - 1, by omega⟩
      obtain ⟨hlt, hx, hd'⟩ := drop_cons hd
      simp only [List.length_cons] at hn
      obtain ⟨a1, rw1, off, t1, t2, t3⟩ := hf.at hx
      have hGH : GraphM H ids g names next := hG.app (fun j hj => h0 j (hG.lt j hj)) hN
      obtain ⟨d, H1, ds, u1, u2, u3, u4, u5⟩ := hnext H x hGH
      have hr1 := hr.frame u4
      have hF' := hF.next
      have hrow' : (row ++ freshL row (nx x)).length ≤ U.length := nodup_le hF'.nd fun y hy => hreach y (hF'.ro y hy)
      have hb : ∀ j, (j ∈ i1 ∨ j ∈ i2) → H0.length ≤ j ∧ j < H.length := fun j hj => by
        obtain ⟨p1, p2, _, _, _, _, _, p3, p4⟩ := hr
        rcases hj with hj | hj
        · exact ⟨p3 j hj, p1.lt j hj⟩
        · exact ⟨p4 j hj, p2.lt j hj⟩
      obtain ⟨cr', cm', H', j1, j2, z1, z2, z3, z4, z5, z6⟩ := L2 (nx x) (hl x) (nx x) 0 m H1 i1 i2 ds cr cm d cf row more fr.length i rfl (by have := hl x; omega) hr1 (by omega) u2 (fun j hj => by
        obtain ⟨d1, d2⟩ := u5 j hj
        refine ⟨d1, fun h => ?_, fun h => ?_⟩
        · have := hb j (.inl h); omega
        · have := hb j (.inr h); omega) (by omega) hmr b0 (impl_deep_impl_graph_by_l1 k m b0 n) k m
      have hfs' : ∀ j ∈ fs, j < H'.length ∧ j ∉ j1 ∧ j ∉ j2 := fun j hj => by
        obtain ⟨d1, d2, d3⟩ := hfs j hj
        refine ⟨by omega, fun h => ?_, fun h => ?_⟩
        · rcases z5 j h with h | h
          · exact d2 h
          · omega
        · rcases z6 j h with h | h
          · exact d3 h
          · omega
      obtain ⟨cr2, cm2, H2, l1, l2, row2, more2, y1, y2, y3, y4, y5, y6, y7⟩ := ih (i + 1) n H' j1 j2 fs cr' cm' cf (row ++ freshL row (nx x)) (more ++ freshL row (nx x)) hd' (by omega) z2 (by omega) (fun j hj => by
        rw [z4 j (by omega) (fun h => by have := hb j (.inl h); omega) fun h => by have := hb j (.inr h); omega, u4 j (by omega), h0 j hj]) (hf.frame fun j hj => by
        obtain ⟨d1, d2, d3⟩ := hfs j hj
        rw [z4 j (by omega) d2 d3, u4 j d1]) hfs' (by rw [← List.append_assoc]; exact hF') (by simp; omega) b0 k m hm'
      refine ⟨cr2, cm2, H2, l1, l2, row2, more2, ?_, y2, y3, y4, y5, y6, by simp at y7; omega⟩
      simp only [impl_deep_impl_graph_by_l1]
      rw [decide_eq_true (by omega), cond_true]
      simp only [t1, t2, t3, u1, u2.len, callS_canon, callL_canon, Option.map_some, Option.bind_some, shape_one, shape_agg, shape_nil, cellsAt_0, cellsAt_1, cellsAt_2, cellsAt_3, cells_one, cells_agg, cB_zero, cI_zero, cS_zero, cC_zero, cB_cons, cI_cons, cS_cons, cC_cons, cond_true, cond_false, List.length_cons, List.length_nil, beq_self_eq_true, Bool.and_true, Bool.true_and, lenC_encL, lenC_lst, deref_ref, emptyK_nil, bs_size, bs_toList]
      rw [show (0 : Int) = ((0 : Nat) : Int) from rfl, z1, wrap_succ (by omega)]
      exact y1
  -- the rounds
  have L0 : ∀ (d : Nat) (H : List Entry) (i1 fs : List Nat) (cr cf : Cell) (row fr : List Str) (n : Nat), RM H0.length H i1 [] cr (.lst true 1 []) row [] → H0.length ≤ H.length → (∀ j, j < H0.length → H[j]? = H0[j]?) → ListM H fs cf fr → (∀ j ∈ fs, j < H.length ∧ j ∉ i1) → Found nx s row fr → fr.length ≤ row.length + 1 →
      2 * (U.length - row.length) + (if fr = [] then 0 else 1) ≤ d → d < n → ∀ k m, 1048577 < m → ∃ c H' is, impl_deep_impl_graph_by_l0 k m n (.ptr g 2 0 0 0) cr cf H = some ([.one c], H') ∧ Rep H' true true 2 is c (trL 1 trStr (reachS nx s)) ∧ is.Nodup := by
    intro d
    induction d with
    | zero =>
      intro H i1 fs cr cf row fr n hr hN h0 hf hfs hF hfl hd hn k m hm'
      obtain ⟨n, rfl⟩ : ∃ j, n = j + 1 := ⟨n - 1, by omega⟩
      have hfr : fr = [] := by
        rcases Classical.em (fr = []) with h | h
        · exact h
        · rw [if_neg h] at hd; omega
      subst hfr
      have hrl : row.length ≤ U.length := nodup_le hF.nd fun y hy => hreach y (hF.ro y hy)
      obtain ⟨c', E, is, e1, r1, w1, _⟩ := freshO (f_impl_Sorted row (by omega)) H (mapO_c (ListM.of (n := 2) hr.1).read (mapO_nil' _))
      refine ⟨c', H ++ E, is, ?_, by rw [reachS_eq hF.done]; exact r1, w1.nd⟩
      simp only [impl_deep_impl_graph_by_l0, hf.len, List.length_nil, Option.bind_some]
      rw [decide_eq_false (by omega), cond_false]
      simp only [e1, callS_canon, callL_canon, Option.map_some, Option.bind_some, shape_one, shape_agg, shape_nil, cellsAt_0, cellsAt_1, cellsAt_2, cellsAt_3, cells_one, cells_agg, cB_zero, cI_zero, cS_zero, cC_zero, cB_cons, cI_cons, cS_cons, cC_cons, cond_true, cond_false, List.length_cons, List.length_nil, beq_self_eq_true, Bool.and_true, Bool.true_and, lenC_encL, lenC_lst, deref_ref, emptyK_nil, bs_size, bs_toList]
    | succ d ih =>
      intro H i1 fs cr cf row fr n hr hN h0 hf hfs hF hfl hd hn k m hm'
      obtain ⟨n, rfl⟩ : ∃ j, n = j + 1 := ⟨n - 1, by omega⟩
      have hrl : row.length ≤ U.length := nodup_le hF.nd fun y hy => hreach y (hF.ro y hy)
      cases fr with
      | nil =>
        obtain ⟨c', E, is, e1, r1, w1, _⟩ := freshO (f_impl_Sorted row (by omega)) H (mapO_c (ListM.of (n := 2) hr.1).read (mapO_nil' _))
        refine ⟨c', H ++ E, is, ?_, by rw [reachS_eq hF.done]; exact r1, w1.nd⟩
        simp only [impl_deep_impl_graph_by_l0, hf.len, List.length_nil, Option.bind_some]
        rw [decide_eq_false (by omega), cond_false]
        simp only [e1, callS_canon, callL_canon, Option.map_some, Option.bind_some, shape_one, shape_agg, shape_nil, cellsAt_0, cellsAt_1, cellsAt_2, cellsAt_3, cells_one, cells_agg, cB_zero, cI_zero, cS_zero, cC_zero, cB_cons, cI_cons, cS_cons, cC_cons, cond_true, cond_false, List.length_cons, List.length_nil, beq_self_eq_true, Bool.and_true, Bool.true_and, lenC_encL, lenC_lst, deref_ref, emptyK_nil, bs_size, bs_toList]
      | cons x fr =>
        rw [if_neg (by simp)] at hd
        obtain ⟨cr', cm', H', j1, j2, row', more', z1, z2, z3, z4, z5, z6, z7⟩ := L1 (x :: fr) (by omega) (x :: fr) 0 m H i1 [] fs cr (.lst true 1 []) cf row [] rfl (by omega) hr hN h0 hf (fun j hj => ⟨(hfs j hj).1, (hfs j hj).2, by simp⟩) (by simpa using hF) (by simp) (impl_deep_impl_graph_by_l0 k m n) k m (by omega)
        have hrl' : row'.length ≤ U.length := nodup_le z5.nd fun y hy => hreach y (z5.ro y hy)
        simp only [List.length_nil] at z7
        obtain ⟨c, H2, is, y1, y2, y3⟩ := ih H' j1 j2 cr' cm' row' more' n z2.anew z3 z4 (ListM.of (n := 2) z2.2.1) (fun j hj => ⟨z2.2.1.lt j hj, fun h => z2.2.2.2.2.2.2.1 j h hj⟩) z5 (by omega) (by
          by_cases hm0 : more' = []
          · rw [if_pos hm0]; omega
          · rw [if_neg hm0]
            have := List.length_pos_iff.2 hm0
            omega) (by omega) k m hm'
        refine ⟨c, H2, is, ?_, y2, y3⟩
        simp only [impl_deep_impl_graph_by_l0, hf.len, Option.bind_some]
        rw [decide_eq_true (by simp), cond_true, show (0 : Int) = ((0 : Nat) : Int) from rfl, z1]
        exact y1
  obtain ⟨c, H', is, z1, z2, z3⟩ := L0 (2 * U.length + 1) H0 [] [] (.lst true 1 []) (.lst true 1 ([s].map eStr)) [] [s] (2 * U.length + 1048577 + 1) (RM.nil _ _).anew (Nat.le_refl _) (fun _ _ => rfl) (.inl ⟨true, rfl⟩) (by simp) (Found.start nx s) (by simp) (by simp) (by omega) (2 * U.length + 1048577 + 1) (2 * U.length + 1048577 + 1) (by omega)
  exact ⟨c, H', is, run_impl_deep_impl_graph_by_of (2 * U.length + 1048577) (by simpa [impl_deep_impl_graph_by, eStr] using z1), z2, z3⟩
theorem reach_fin {nx : Str → List Str} {s : Str} {U : List Str} (hm : ∀ x, ∀ y ∈ nx x, y ∈ U) : ∃ o : List Str, ∀ x, x ∈ o ↔ Reach nx s x := by
  classical
  refine ⟨U.filter fun x => decide (Reach nx s x), fun x => ?_⟩
  rw [List.mem_filter, decide_eq_true_eq]
  refine ⟨fun h => h.2, fun h => ⟨?_, h⟩⟩
  cases h with
  | one h => exact hm _ _ h
  | step _ k => exact hm _ _ k
theorem pairwise_nodup {l : List Str} (h : l.Pairwise (· < ·)) : l.Nodup := h.imp fun h e => by subst e; exact List.lt_irrefl _ h
theorem reachS_bd {nx : Str → List Str} {s : Str} {U : List Str} (hm : ∀ x, ∀ y ∈ nx x, y ∈ U) : (reachS nx s).length ≤ U.length ∧ ∀ x ∈ reachS nx s, x ∈ U := by
  obtain ⟨o, ho⟩ := reach_fin (s := s) hm
  rw [reachS_eq ho]
  obtain ⟨h1, h2⟩ := sortedU_spec o
  have h3 : ∀ x ∈ sortedU o, x ∈ U := fun x hx => by
    cases (ho x).1 ((h2 x).1 hx) with
    | one h => exact hm _ _ h
    | step _ k => exact hm _ _ k
  exact ⟨nodup_le (pairwise_nodup h1) h3, h3⟩
theorem nextOf_mem {names : List Str} {next : List (List Str)} {x y : Str} (h : y ∈ nextOf names next x) : ∃ d ∈ next, y ∈ d := by
  unfold nextOf at h
  split at h
  · simp at h
  · cases hd : next[(idxS x names 0).toNat]? with
    | none => rw [hd] at h; simp at h
    | some d => rw [hd] at h; exact ⟨d, List.mem_of_getElem? hd, h⟩
def taskName (p t : Str) : Str := p ++ [35] ++ t
theorem c_strings_Index (s : Str) (c : UInt8) : out run_strings_Index [.one (Cell.str (bs s)), .one (Cell.str (bs [c]))] = some [.one (Cell.int (Lib.indexByte s c))] := by
  refine out_of (H := []) (run_strings_Index_of 0 ?_)
  simp only [strings_Index, c_internal_stringslite_Index, callS_canon, callL_canon, Option.map_some, Option.bind_some, shape_one, shape_agg, shape_nil, cellsAt_0, cellsAt_1, cellsAt_2, cellsAt_3, cells_one, cells_agg, cB_zero, cI_zero, cS_zero, cC_zero, cB_cons, cI_cons, cS_cons, cC_cons, cond_true, cond_false, List.length_cons, List.length_nil, beq_self_eq_true, Bool.and_true, Bool.true_and, lenC_encL, lenC_lst, deref_ref, emptyK_nil, bs_size, bs_toList]
theorem c_strings_Count (s : Str) (c : UInt8) : out run_strings_Count [.one (Cell.str (bs s)), .one (Cell.str (bs [c]))] = some [.one (Cell.int ((s.count c : Nat) : Int))] := by
  refine out_of (H := []) ?_
  show run_count _ _ = _
  simp only [run_count, bs_data]
  rfl
theorem count_cut {c : UInt8} {s : Str} (h : c ∈ s) : s.count c = (behind c s).count c + 1 := by
  induction s with
  | nil => simp at h
  | cons b r ih =>
    by_cases e : b = c
    · subst e
      simp [behind, List.dropWhile_cons]
    · have hr : c ∈ r := by
        rcases List.mem_cons.1 h with h | h
        · exact absurd h.symm e
        · exact h
      have hb : behind c (b :: r) = behind c r := by
        have : (b != c) = true := by simpa using e
        simp [behind, List.dropWhile_cons, this]
      rw [hb, List.count_cons, ih hr]
      simp [e]
theorem count_not {c : UInt8} {s : Str} (h : c ∉ s) : s.count c = 0 := List.count_eq_zero.2 h
theorem split_len (c : UInt8) : ∀ (n : Nat) (s : Str), s.length ≤ n → (split c s).length = s.count c + 1 := by
  intro n
  induction n with
  | zero =>
    intro s h
    have : s = [] := List.eq_nil_of_length_eq_zero (by omega)
    subst this
    rfl
  | succ n ih =>
    intro s h
    by_cases hc : c ∈ s
    · have hl : (behind c s).length < s.length := by
        have := ahead_lt hc
        have h2 := drop_behind c s
        rw [← h2, List.length_drop]
        omega
      rw [split_cut hc, List.length_cons, ih _ (by omega), count_cut hc]
    · rw [split_not hc, count_not hc]
      rfl
theorem c_strings_genSplit (s : Str) (c : UInt8) (hs : s.length ≤ 1073741824) : outL run_strings_genSplit [.one (Cell.str (bs s)), .one (Cell.str (bs [c])), .one (Cell.int 0), .one (Cell.int (-1))] = some [.one (strsC (split c s))] := by
  have hM := maxLen_eq
  have hct : s.count c ≤ s.length := List.count_le_length
  have hsl := split_len c s.length s (Nat.le_refl _)
  have hput : ∀ (rows : List (List Cell)) (i : Nat) (row : List Cell) (y : Str), rows[i]? = some row → row.length = 1 → hStore [Entry.mk 1 rows 0 false] (.ptr 0 1 i 0 0) [Cell.str (bs y)] = some [Entry.mk 1 (rows.set i (eStr y)) 0 false] := by
    intro rows i row y h hr
    simp only [hStore, entry?, List.getElem?_cons_zero, if_true, h]
    rw [if_pos ⟨trivial, by simp, trivial⟩]
    simp [splice, eStr, hr, List.drop_eq_nil_of_le]
  have loop : ∀ (d : Nat) (r : Str) (done : List Str) (n : Nat), r.count c = d → done.length + d = s.count c → r.length ≤ s.length → split c s = done ++ split c r → d < n → ∀ k m,
      strings_genSplit_l0 k m n (bs r) (bs [c]) 0 ((s.count c : Nat) : Int) (.vs 0 1 0 (s.count c + 1) 0) ((done.length : Nat) : Int) [Entry.mk 1 (done.map eStr ++ List.replicate (d + 1) [Cell.str (bs [])]) 0 false] =
        some ([.one (.vs 0 1 0 (s.count c + 1) 0)], [Entry.mk 1 ((split c s).map eStr) 0 false]) := by
    intro d
    induction d with
    | zero =>
      intro r done n hc hd hr hsp hn k m
      obtain ⟨n, rfl⟩ : ∃ j, n = j + 1 := ⟨n - 1, by omega⟩
      have hnc : c ∉ r := List.count_eq_zero.1 hc
      simp only [strings_genSplit_l0]
      rw [decide_eq_false (by omega), cond_false]
      have hrow : (done.map eStr ++ List.replicate (0 + 1) [Cell.str (bs [])])[done.length]? = some [Cell.str (bs [])] := by simp
      simp only [idxA_vs 0 1 (s.count c + 1) 0 done.length (by omega), Option.bind_some, hput _ _ _ r hrow rfl]
      have hset : (done.map eStr ++ List.replicate (0 + 1) [Cell.str (bs [])]).set done.length (eStr r) = (split c s).map eStr := by
        rw [hsp, split_not hnc, List.set_append_right _ _ (by simp)]
        simp
      rw [hset, show IntKind.i64.wrap ((done.length : Int) + 1) = ((s.count c + 1 : Nat) : Int) by rw [wrap_succ (by omega)]; omega]
      have hsl' : slcC 1 (.vs 0 1 0 (s.count c + 1) 0) 0 (some ((s.count c + 1 : Nat) : Int)) none = some (.vs 0 1 0 (s.count c + 1) 0) := by
        simp only [slcC, Option.getD_some, Option.getD_none, if_true]
        rw [if_pos ⟨by omega, by omega, by omega, by omega⟩, if_pos (.inl trivial)]
        simp
      rw [hsl']
      rfl
    | succ d ih =>
      intro r done n hc hd hr hsp hn k m
      obtain ⟨n, rfl⟩ : ∃ j, n = j + 1 := ⟨n - 1, by omega⟩
      have hmem : c ∈ r := by
        rcases Classical.em (c ∈ r) with h | h
        · exact h
        · have := count_not h; omega
      have hal := ahead_lt hmem
      have hbl := behind_le c r
      simp only [strings_genSplit_l0]
      rw [decide_eq_true (by omega), cond_true]
      have e0 : Lib.indexByte r c = ((ahead c r).length : Int) := by rw [indexByte_eq, if_pos hmem]
      simp only [c_strings_Index, e0, callS_canon, callL_canon, Option.map_some, Option.bind_some, shape_one, shape_agg, shape_nil, cellsAt_0, cellsAt_1, cellsAt_2, cellsAt_3, cells_one, cells_agg, cB_zero, cI_zero, cS_zero, cC_zero, cB_cons, cI_cons, cS_cons, cC_cons, cond_true, cond_false, List.length_cons, List.length_nil, beq_self_eq_true, Bool.and_true, Bool.true_and, lenC_encL, lenC_lst, deref_ref, emptyK_nil, bs_size, bs_toList]
      rw [decide_eq_false (by omega), cond_false]
      have e1 := subS_bs r 0 (ahead c r).length (by omega) (by omega)
      simp only [Int.natCast_zero, List.drop_zero, take_ahead] at e1
      rw [show IntKind.i64.wrap (((ahead c r).length : Int) + 0) = ((ahead c r).length : Int) by rw [Int.add_zero]; exact wrap_small (by omega) (by omega), e1]
      have hrow : (done.map eStr ++ List.replicate (d + 1 + 1) [Cell.str (bs [])])[done.length]? = some [Cell.str (bs [])] := by simp
      simp only [Option.bind_some, idxA_vs 0 1 (s.count c + 1) 0 done.length (by omega), hput _ _ _ (ahead c r) hrow rfl]
      have e2 := subS_bs r ((ahead c r).length + 1) r.length (by omega) (Nat.le_refl _)
      rw [List.take_length, drop_behind] at e2
      rw [show IntKind.i64.wrap (((ahead c r).length : Int) + ((0 + 1 : Nat) : Int)) = (((ahead c r).length + 1 : Nat) : Int) by rw [wrap_small (by omega) (by omega)]; omega, e2, wrap_succ (by omega)]
      simp only [Option.bind_some]
      have hset : (done.map eStr ++ List.replicate (d + 1 + 1) [Cell.str (bs [])]).set done.length (eStr (ahead c r)) = (done ++ [ahead c r]).map eStr ++ List.replicate (d + 1) [Cell.str (bs [])] := by
        rw [List.set_append_right _ _ (by simp)]
        simp [List.replicate_succ]
      rw [hset]
      have := ih (behind c r) (done ++ [ahead c r]) n (by have := count_cut hmem; omega) (by simp; omega) (by omega) (by rw [hsp, split_cut hmem]; simp) (by omega) k m
      rw [show (done ++ [ahead c r]).length = done.length + 1 by simp] at this
      exact this
  have hmin : (if IntKind.i64.wrap ((s.length : Int) + 1) < IntKind.i64.wrap (((s.count c : Nat) : Int) + 1) then IntKind.i64.wrap ((s.length : Int) + 1) else IntKind.i64.wrap (((s.count c : Nat) : Int) + 1)) = ((s.count c + 1 : Nat) : Int) := by
    rw [wrap_succ (by omega), wrap_succ (by omega), if_neg (by omega)]
  have z := loop (s.count c) s [] (s.count c + 1 + 1) rfl (by simp) (Nat.le_refl _) (by simp) (by omega) (s.count c + 1 + 1) (s.count c + 1 + 1)
  refine outL_of (H := [Entry.mk 1 ((split c s).map eStr) 0 false]) (xs := [.one (.vs 0 1 0 (s.count c + 1) 0)]) (run_strings_genSplit_of (s.count c + 1) ?_) ?_
  · simp only [strings_genSplit]
    rw [show ((-1 : Int) == 0) = false from rfl, cond_false]
    simp only [bs_toList]
    rw [show (([c] : Str) == []) = false from rfl, cond_false, show decide ((-1 : Int) < 0) = true from rfl, cond_true]
    simp only [c_strings_Count, callS_canon, callL_canon, Option.map_some, Option.bind_some, shape_one, shape_agg, shape_nil, cellsAt_0, cellsAt_1, cellsAt_2, cellsAt_3, cells_one, cells_agg, cB_zero, cI_zero, cS_zero, cC_zero, cB_cons, cI_cons, cS_cons, cC_cons, cond_true, cond_false, List.length_cons, List.length_nil, beq_self_eq_true, Bool.and_true, Bool.true_and, lenC_encL, lenC_lst, deref_ref, emptyK_nil, bs_size, bs_toList, hmin]
    rw [if_pos ⟨by omega, by omega, by unfold bound; omega, by unfold bound; omega⟩]
    rw [show IntKind.i64.wrap (((s.count c + 1 : Nat) : Int) - 1) = ((s.count c : Nat) : Int) from wrap_pred (by omega)]
    simpa [mkRows] using z
  · have := reify_vs (sz := 1) eStr (split c s) 0 false
    rw [hsl] at this
    exact this
theorem c_strings_Split (s : Str) (c : UInt8) (hs : s.length ≤ 1073741824) : outL run_strings_Split [.one (Cell.str (bs s)), .one (Cell.str (bs [c]))] = some [.one (strsC (split c s))] := by
  refine outL_canon (H := []) (run_strings_Split_of 0 ?_)
  simp only [strings_Split, c_strings_genSplit s c hs, callS_canon, callL_canon, Option.map_some, Option.bind_some, shape_one, shape_agg, shape_nil, cellsAt_0, cellsAt_1, cellsAt_2, cellsAt_3, cells_one, cells_agg, cB_zero, cI_zero, cS_zero, cC_zero, cB_cons, cI_cons, cS_cons, cC_cons, cond_true, cond_false, List.length_cons, List.length_nil, beq_self_eq_true, Bool.and_true, Bool.true_and, lenC_encL, lenC_lst, deref_ref, emptyK_nil, bs_size, bs_toList]
def isPath (b : UInt8) : Bool := isSmall b || (isFigure b || (b == 46 || (b == 45 || b == 95)))
def fileOk (s : Str) : Bool := s.all isPath && (inR s.length 1 12 && (!(s == [46]) && !(s == [46, 46])))
theorem c_spec_l5Letter (b : UInt8) : out run_spec_l5Letter [.one (.sc (.int .u8 (b.toNat : Int)))] = some [.one (Cell.bool (isPath b))] := by
  refine out_of (H := []) (run_spec_l5Letter_of 0 ?_)
  simp only [spec_l5Letter, c_spec_l1Small, c_spec_l1Digit, callS_canon, callL_canon, Option.map_some, Option.bind_some, shape_one, shape_agg, shape_nil, cellsAt_0, cellsAt_1, cellsAt_2, cellsAt_3, cells_one, cells_agg, cB_zero, cI_zero, cS_zero, cC_zero, cB_cons, cI_cons, cS_cons, cC_cons, cond_true, cond_false, List.length_cons, List.length_nil, beq_self_eq_true, Bool.and_true, Bool.true_and, lenC_encL, lenC_lst, deref_ref, emptyK_nil, bs_size, bs_toList]
  rw [show ((b.toNat : Int) == 46) = (b == 46) from u8_eq b 46 (by omega), show ((b.toNat : Int) == 45) = (b == 45) from u8_eq b 45 (by omega), show ((b.toNat : Int) == 95) = (b == 95) from u8_eq b 95 (by omega)]
  unfold isPath
  cases isSmall b <;> cases isFigure b <;> cases b == 46 <;> cases b == 45 <;> cases b == 95 <;> rfl
theorem c_impl_isPathByte (b : UInt8) : out run_impl_isPathByte [.one (.sc (.int .u8 (b.toNat : Int)))] = some [.one (Cell.bool (isPath b))] := by
  refine out_of (H := []) (run_impl_isPathByte_of 0 ?_)
  simp only [impl_isPathByte, c_impl_isSmall, c_impl_isFigure, callS_canon, callL_canon, Option.map_some, Option.bind_some, shape_one, shape_agg, shape_nil, cellsAt_0, cellsAt_1, cellsAt_2, cellsAt_3, cells_one, cells_agg, cB_zero, cI_zero, cS_zero, cC_zero, cB_cons, cI_cons, cS_cons, cC_cons, cond_true, cond_false, List.length_cons, List.length_nil, beq_self_eq_true, Bool.and_true, Bool.true_and, lenC_encL, lenC_lst, deref_ref, emptyK_nil, bs_size, bs_toList]
  rw [show ((b.toNat : Int) == 46) = (b == 46) from u8_eq b 46 (by omega), show ((b.toNat : Int) == 45) = (b == 45) from u8_eq b 45 (by omega), show ((b.toNat : Int) == 95) = (b == 95) from u8_eq b 95 (by omega)]
  unfold isPath
  cases isSmall b <;> cases isFigure b <;> cases b == 46 <;> cases b == 45 <;> cases b == 95 <;> rfl
theorem c_impl_fileNameOk (s : Str) (hs : s.length ≤ 1073741824) : out run_impl_fileNameOk [.one (Cell.str (bs s))] = some [.one (Cell.bool (fileOk s))] := by
  have hM := maxLen_eq
  have loop : ∀ (r : Str) (i n : Nat), s.drop i = r → r.length < n → ∀ k m, impl_fileNameOk_l0 k m n (bs s) i = some ([.one (Cell.bool (r.all isPath && (inR s.length 1 12 && (!(s == [46]) && !(s == [46, 46])))))], []) := by
    intro r
    induction r with
    | nil =>
      intro i n hd hn k m
      obtain ⟨n, rfl⟩ : ∃ j, n = j + 1 := ⟨n - 1, by omega⟩
      have := drop_nil hd
      simp only [impl_fileNameOk_l0, bs_size]
      rw [decide_eq_false (by omega), cond_false]
      simp only [c_impl_inRange, callS_canon, callL_canon, Option.map_some, Option.bind_some, shape_one, shape_agg, shape_nil, cellsAt_0, cellsAt_1, cellsAt_2, cellsAt_3, cells_one, cells_agg, cB_zero, cI_zero, cS_zero, cC_zero, cB_cons, cI_cons, cS_cons, cC_cons, cond_true, cond_false, List.length_cons, List.length_nil, beq_self_eq_true, Bool.and_true, Bool.true_and, lenC_encL, lenC_lst, deref_ref, emptyK_nil, bs_size, bs_toList]
      cases inR (s.length : Int) 1 12 <;> cases s == [46] <;> cases s == [46, 46] <;> rfl
    | cons b r ih =>
      intro i n hd hn k m
      obtain ⟨n, rfl⟩ : ∃ j, n = j + 1 := ⟨n - 1, by omega⟩
      obtain ⟨hlt, hg, hd'⟩ := drop_cons hd
      simp only [List.length_cons] at hn
      simp only [impl_fileNameOk_l0, bs_size, bytS_bs, hg, Option.map_some, c_impl_isPathByte, callS_canon, callL_canon, Option.map_some, Option.bind_some, shape_one, shape_agg, shape_nil, cellsAt_0, cellsAt_1, cellsAt_2, cellsAt_3, cells_one, cells_agg, cB_zero, cI_zero, cS_zero, cC_zero, cB_cons, cI_cons, cS_cons, cC_cons, cond_true, cond_false, List.length_cons, List.length_nil, beq_self_eq_true, Bool.and_true, Bool.true_and, lenC_encL, lenC_lst, deref_ref, emptyK_nil, bs_size, bs_toList]
      rw [decide_eq_true (by omega), cond_true, wrap_succ (by omega), ih (i + 1) n hd' (by omega)]
      cases hb : isPath b <;> simp [hb]
  refine out_of (H := []) (run_impl_fileNameOk_of (s.length + 1) ?_)
  have := loop s 0 (s.length + 1 + 1) rfl (by omega) (s.length + 1 + 1) (s.length + 1 + 1)
  simpa [impl_fileNameOk, fileOk] using this
theorem last_at {W : List Str} (h : 0 < W.length) (k : Nat) (hk : k < W.length) : ∃ x, W[k]? = some x := ⟨W[k], List.getElem?_eq_getElem hk⟩
theorem wrap_sub {n k : Nat} (h : k ≤ n) (hn : n ≤ 1073741824 + 1) : IntKind.i64.wrap ((n : Int) - (k : Int)) = ((n - k : Nat) : Int) := by
  rw [wrap_small (by omega) (by omega)]
  omega
def hasNil (W : List Str) : Bool := W.contains []
theorem hasNil_mem (W : List Str) : hasNil W = true ↔ [] ∈ W := by unfold hasNil; simp
theorem hasNil_cons (w : Str) (W : List Str) : hasNil (w :: W) = ((w == []) || hasNil W) := by
  unfold hasNil
  rw [List.contains_cons]
  cases w <;> rfl
def actKind (w : Str) (n : Nat) (into : Bool) : Bool :=
  bif w == [112, 117, 116] then decide (2 ≤ n) && into
  else bif w == [99, 97, 116] then inR n 2 4 && into
  else bif w == [101, 110, 118] then decide (n = 2) && into
  else bif w == [117, 115, 101] then decide (n = 3) && into
  else bif w == [108, 111, 103] then decide (2 ≤ n) && !into
  else bif w == [102, 97, 105, 108] then decide (n = 1) && !into
  else false
def actW (W : List Str) : Bool := !hasNil W && bif decide (3 ≤ W.length) && (W[W.length - 2]? == some [62]) then fileOk ((W[W.length - 1]?).getD []) && actKind ((W[0]?).getD []) (W.length - 2) true else actKind ((W[0]?).getD []) W.length false
def actOk (s : Str) : Bool := actW (split 32 s)
theorem n_ge (n k : Nat) : decide ((n : Int) ≥ (k : Int)) = decide (k ≤ n) := by rw [decide_eq_decide]; omega
theorem n_gt (n k : Nat) : decide ((n : Int) > (k : Int)) = decide (k < n) := by rw [decide_eq_decide]; omega
theorem n_eq (n k : Nat) : ((n : Int) == (k : Int)) = decide (n = k) := by rw [Bool.eq_iff_iff]; simp; omega
def kindS (w : Str) (n : Nat) (to lg : Bool) : Bool :=
  bif w == [112, 117, 116] then decide (2 ≤ n) && to
  else bif w == [99, 97, 116] then inR n 2 4 && to
  else bif w == [101, 110, 118] then decide (n = 2) && to
  else bif w == [117, 115, 101] then decide (n = 3) && to
  else bif w == [108, 111, 103] then decide (2 ≤ n) && lg
  else bif w == [102, 97, 105, 108] then decide (n = 1) && lg
  else false
theorem kindS_true (w : Str) (n : Nat) : kindS w n true false = actKind w n true := by
  unfold kindS actKind
  rfl
theorem kindS_false (w : Str) (n : Nat) : kindS w n false true = actKind w n false := by
  unfold kindS actKind
  rfl
theorem kindS_none (w : Str) (n : Nat) : kindS w n false false = false := by
  unfold kindS
  simp
def specB : List Str → Str → Bool → Bool
  | [], _, _ => false
  | w :: l, y, b => !hasNil (w :: l) && kindS w (l.length + 1) (fileOk y) (y == [] && !b)
def pathOk (s : Str) : Bool := (split 47 s).all fileOk && decide ((split 47 s).length ≤ 4)
theorem n_le (n k : Nat) : decide ((n : Int) ≤ (k : Int)) = decide (n ≤ k) := by rw [decide_eq_decide]; omega
theorem c_impl_PathOk (s : Str) (hs : s.length ≤ 1073741823) : out run_impl_PathOk [.one (Cell.str (bs s))] = some [.one (Cell.bool (pathOk s))] := by
  have hM := maxLen_eq
  have e0 := c_strings_Split s 47 (by omega)
  have hl := splitGo_length 47 s []
  have hlen : ∀ x ∈ split 47 s, x.length ≤ 1073741824 := fun x hx => Nat.le_trans (hl.2 x hx) (by simp; omega)
  have hll : (split 47 s).length ≤ s.length + 1 := hl.1
  unfold pathOk
  generalize split 47 s = W at *
  refine out_of (H := []) (run_impl_PathOk_of (W.length + 1) ?_)
  simp only [impl_PathOk, e0, callS_canon, callL_canon, Option.map_some, Option.bind_some, shape_one, shape_agg, shape_nil, cellsAt_0, cellsAt_1, cellsAt_2, cellsAt_3, cells_one, cells_agg, cB_zero, cI_zero, cS_zero, cC_zero, cB_cons, cI_cons, cS_cons, cC_cons, cond_true, cond_false, List.length_cons, List.length_nil, beq_self_eq_true, Bool.and_true, Bool.true_and, lenC_encL, lenC_lst, deref_ref, emptyK_nil, bs_size, bs_toList]
  rw [loop_all W (fun n i => impl_PathOk_l0 (W.length + 1 + 1) (W.length + 1 + 1) n (strsC W) (strsC W) W.length i []) fileOk (some ([.one (Cell.bool (decide (W.length ≤ 4)))], [])) (some ([.one (Cell.bool false)], [])) ?_ ?_ _ (by omega)]
  · exact leafC _ _ _
  · intro n i x hx hlt
    simp only [impl_PathOk_l0, idxA_encL, hx, eStr, c_impl_fileNameOk x (hlen x (List.mem_of_getElem? hx)), callS_canon, callL_canon, Option.map_some, Option.bind_some, shape_one, shape_agg, shape_nil, cellsAt_0, cellsAt_1, cellsAt_2, cellsAt_3, cells_one, cells_agg, cB_zero, cI_zero, cS_zero, cC_zero, cB_cons, cI_cons, cS_cons, cC_cons, cond_true, cond_false, List.length_cons, List.length_nil, beq_self_eq_true, Bool.and_true, Bool.true_and, lenC_encL, lenC_lst, deref_ref, emptyK_nil, bs_size, bs_toList]
    rw [decide_eq_true (by omega), cond_true, wrap_succ (by omega)]
    cases fileOk x <;> rfl
  · intro n
    simp only [impl_PathOk_l0, lenC_encL, callS_canon, callL_canon, Option.map_some, Option.bind_some, shape_one, shape_agg, shape_nil, cellsAt_0, cellsAt_1, cellsAt_2, cellsAt_3, cells_one, cells_agg, cB_zero, cI_zero, cS_zero, cC_zero, cB_cons, cI_cons, cS_cons, cC_cons, cond_true, cond_false, List.length_cons, List.length_nil, beq_self_eq_true, Bool.and_true, Bool.true_and, lenC_encL, lenC_lst, deref_ref, emptyK_nil, bs_size, bs_toList]
    rw [decide_eq_false (by omega), cond_false, show decide ((W.length : Int) ≤ 4) = decide (W.length ≤ 4) from n_le W.length 4]
def isAl (b : UInt8) : Bool := isSmall b || isFigure b
/-- Behind a bracket: how many bytes up to the closing one. -/
def clsGo : Str → Nat → Option Nat
  | [], _ => none
  | b :: r, c => bif isAl b then (clsGo r (c + 1)).map (· + 1) else bif inR c 1 5 && b == 93 then some 1 else none
theorem clsGo_cons (b : UInt8) (r : Str) (c : Nat) : clsGo (b :: r) c = bif isAl b then (clsGo r (c + 1)).map (· + 1) else bif inR c 1 5 && b == 93 then some 1 else none := rfl
def unitN : Str → Nat
  | [] => 0
  | b :: t => bif b == 91 then (match t with
      | [] => 0
      | d :: t' => bif d == 33 then (match clsGo t' 0 with | some n => n + 2 | none => 0) else (match clsGo (d :: t') 0 with | some n => n + 1 | none => 0))
    else bif isPath b || (b == 63 || b == 42) then 1 else 0
def pieceGo : Nat → Str → Nat → Bool
  | _, [], c => inR c 1 12
  | 0, _ :: _, _ => false
  | n + 1, b :: t, c => bif unitN (b :: t) == 0 then false else pieceGo n ((b :: t).drop (unitN (b :: t))) (c + 1)
def pieceOk (s : Str) : Bool := pieceGo s.length s 0
def globOk (s : Str) : Bool := (split 47 s).all pieceOk && decide ((split 47 s).length ≤ 4)
theorem clsGo_le : ∀ (r : Str) (c n : Nat), clsGo r c = some n → 1 ≤ n ∧ n ≤ r.length := by
  intro r
  induction r with
  | nil => intro c n h; simp [clsGo] at h
  | cons b r ih =>
    intro c n h
    unfold clsGo at h
    cases hb : isAl b with
    | true =>
      rw [hb, cond_true, Option.map_eq_some_iff] at h
      obtain ⟨j, h1, rfl⟩ := h
      obtain ⟨h2, h3⟩ := ih _ _ h1
      simp
      omega
    | false =>
      rw [hb, cond_false] at h
      cases hc : inR (c : Int) 1 5 && b == 93 with
      | true => rw [hc, cond_true] at h; simp only [Option.some.injEq] at h; simp; omega
      | false => rw [hc, cond_false] at h; simp at h
theorem unitN_le (s : Str) : unitN s ≤ s.length := by
  cases s with
  | nil => simp [unitN]
  | cons b t =>
    cases hb : b == 91 with
    | true =>
      cases t with
      | nil => simp only [unitN, hb, cond_true]; omega
      | cons d t' =>
        cases hd : d == 33 with
        | true =>
          simp only [unitN, hb, hd, cond_true]
          split
          · rename_i n h
            have := (clsGo_le _ _ _ h).2
            simp
            omega
          · omega
        | false =>
          simp only [unitN, hb, hd, cond_true, cond_false]
          split
          · rename_i n h
            have := (clsGo_le _ _ _ h).2
            simp at this ⊢
            omega
          · omega
    | false =>
      simp only [unitN, hb, cond_false]
      cases isPath b || (b == 63 || b == 42) <;> simp
theorem u8_int (b : UInt8) (n : Nat) (h : n < 256) : ((b.toNat : Int) == (n : Int)) = (b == UInt8.ofNat n) := u8_eq b n h
theorem c_spec_l6Class (s : Str) (hs : s.length ≤ 1073741824) (i : Nat) (b : UInt8) (t : Str) (hd : s.drop i = b :: t) (hb : b = 91) : out run_spec_l6Class [.one (Cell.str (bs s)), .one (Cell.int i)] = some [.one (Cell.int (if unitN (b :: t) = 0 then -1 else ((i + unitN (b :: t) : Nat) : Int)))] := by
  have hM := maxLen_eq
  have loop : ∀ (r : Str) (j c n : Nat), s.drop j = r → j ≤ s.length → c ≤ j → r.length < n → ∀ k m, spec_l6Class_l0 k m n (bs s) j c = some ([.one (Cell.int (match clsGo r c with | some q => ((j + q : Nat) : Int) | none => -1))], []) := by
    intro r
    induction r with
    | nil =>
      intro j c n hd hj hc hn k m
      obtain ⟨n, rfl⟩ : ∃ q, n = q + 1 := ⟨n - 1, by omega⟩
      have := drop_nil hd
      simp only [spec_l6Class_l0, bs_size]
      rw [decide_eq_false (by omega), cond_false]
      simp only [c_spec_l1In, callS_canon, callL_canon, Option.map_some, Option.bind_some, shape_one, shape_agg, shape_nil, cellsAt_0, cellsAt_1, cellsAt_2, cellsAt_3, cells_one, cells_agg, cB_zero, cI_zero, cS_zero, cC_zero, cB_cons, cI_cons, cS_cons, cC_cons, cond_true, cond_false, List.length_cons, List.length_nil, beq_self_eq_true, Bool.and_true, Bool.true_and, lenC_encL, lenC_lst, deref_ref, emptyK_nil, bs_size, bs_toList]
      rw [decide_eq_true (by omega)]
      cases inR (c : Int) 1 5 <;> rfl
    | cons x r ih =>
      intro j c n hd hj hc hn k m
      obtain ⟨n, rfl⟩ : ∃ q, n = q + 1 := ⟨n - 1, by omega⟩
      obtain ⟨hlt, hg, hd'⟩ := drop_cons hd
      simp only [List.length_cons] at hn
      have z := ih (j + 1) (c + 1) n hd' (by omega) (by omega) (by omega) k m
      have hz : (match clsGo r (c + 1) with | some q => ((j + 1 + q : Nat) : Int) | none => -1) = (match (clsGo r (c + 1)).map (· + 1) with | some q => ((j + q : Nat) : Int) | none => -1) := by
        cases clsGo r (c + 1) with
        | none => rfl
        | some q => simp only [Option.map_some]; congr 1; omega
      simp only [spec_l6Class_l0, bs_size, bytS_bs, hg, Option.map_some, c_spec_l1Small, c_spec_l1Digit, c_spec_l1In, callS_canon, callL_canon, Option.map_some, Option.bind_some, shape_one, shape_agg, shape_nil, cellsAt_0, cellsAt_1, cellsAt_2, cellsAt_3, cells_one, cells_agg, cB_zero, cI_zero, cS_zero, cC_zero, cB_cons, cI_cons, cS_cons, cC_cons, cond_true, cond_false, List.length_cons, List.length_nil, beq_self_eq_true, Bool.and_true, Bool.true_and, lenC_encL, lenC_lst, deref_ref, emptyK_nil, bs_size, bs_toList]
      rw [decide_eq_true (by omega), cond_true, wrap_succ (by omega), wrap_succ (by omega), z, hz]
      rw [show ((x.toNat : Int) != 93) = !(x == 93) from congrArg not (u8_eq x 93 (by omega))]
      rw [clsGo_cons]
      unfold isAl
      cases isSmall x with
      | true => rfl
      | false =>
        cases isFigure x with
        | true => rfl
        | false =>
          rw [decide_eq_false (p := (j : Int) ≥ (s.length : Int)) (by omega)]
          cases inR (c : Int) 1 5 <;> cases x == 93 <;> rfl
  subst hb
  obtain ⟨hlt, hg, hd'⟩ := drop_cons hd
  refine out_of (H := []) (run_spec_l6Class_of (s.length + 1) ?_)
  have hun : ∀ (o : Option Nat) (j : Nat) (p : Nat), (if (match o with | some n => n + p | none => 0) = 0 then (-1 : Int) else ((i + (match o with | some n => n + p | none => 0) : Nat) : Int)) = (match o with | some q => ((i + p + q : Nat) : Int) | none => -1) ∨ p = 0 := by
    intro o j p
    cases o with
    | none => exact .inl rfl
    | some n =>
      by_cases hp : p = 0
      · exact .inr hp
      · refine .inl ?_
        simp only
        rw [if_neg (by omega)]
        congr 1
        omega
  cases t with
  | nil =>
    have := drop_nil hd'
    simp only [spec_l6Class, bs_size]
    rw [wrap_succ (by omega), decide_eq_false (by omega), cond_false]
    have z := loop [] (i + 1) 0 (s.length + 1 + 1) hd' (by omega) (by omega) (by simp) (s.length + 1 + 1) (s.length + 1 + 1)
    exact z
  | cons d t' =>
    obtain ⟨hlt2, hg2, hd2⟩ := drop_cons hd'
    simp only [spec_l6Class, bs_size]
    rw [wrap_succ (by omega), decide_eq_true (by omega), cond_true]
    simp only [bytS_bs, hg2, Option.map_some, Option.bind_some]
    rw [show ((d.toNat : Int) == 33) = (d == 33) from u8_eq d 33 (by omega), wrap_succ (by omega)]
    unfold unitN
    simp only [show ((91 : UInt8) == 91) = true from rfl, cond_true]
    cases d == 33 with
    | true =>
      simp only [cond_true]
      have z := loop t' (i + 1 + 1) 0 (s.length + 1 + 1) hd2 (by omega) (by omega) (by rw [← hd2]; simp; omega) (s.length + 1 + 1) (s.length + 1 + 1)
      rcases hun (clsGo t' 0) 0 2 with h | h
      · rw [h]; exact z
      · omega
    | false =>
      simp only [cond_false]
      have z := loop (d :: t') (i + 1) 0 (s.length + 1 + 1) hd' (by omega) (by omega) (by rw [← hd']; simp; omega) (s.length + 1 + 1) (s.length + 1 + 1)
      rcases hun (clsGo (d :: t') 0) 0 1 with h | h
      · rw [h]; exact z
      · omega
theorem c_spec_l6Piece (s : Str) (hs : s.length ≤ 1073741824) : out run_spec_l6Piece [.one (Cell.str (bs s))] = some [.one (Cell.bool (pieceOk s))] := by
  have hM := maxLen_eq
  have loop : ∀ (d : Nat) (r : Str) (i c n : Nat), r.length ≤ d → s.drop i = r → i ≤ s.length → c ≤ i → d < n → ∀ k m, spec_l6Piece_l0 k m n (bs s) c i = some ([.one (Cell.bool (pieceGo d r c))], []) := by
    intro d
    induction d with
    | zero =>
      intro r i c n hr hd hi hc hn k m
      obtain ⟨n, rfl⟩ : ∃ q, n = q + 1 := ⟨n - 1, by omega⟩
      have : r = [] := List.eq_nil_of_length_eq_zero (by omega)
      subst this
      have := drop_nil hd
      simp only [spec_l6Piece_l0, bs_size]
      rw [decide_eq_false (by omega), cond_false]
      simp only [c_spec_l1In, callS_canon, callL_canon, Option.map_some, Option.bind_some, shape_one, shape_agg, shape_nil, cellsAt_0, cellsAt_1, cellsAt_2, cellsAt_3, cells_one, cells_agg, cB_zero, cI_zero, cS_zero, cC_zero, cB_cons, cI_cons, cS_cons, cC_cons, cond_true, cond_false, List.length_cons, List.length_nil, beq_self_eq_true, Bool.and_true, Bool.true_and, lenC_encL, lenC_lst, deref_ref, emptyK_nil, bs_size, bs_toList, pieceGo]
    | succ d ih =>
      intro r i c n hr hd hi hc hn k m
      obtain ⟨n, rfl⟩ : ∃ q, n = q + 1 := ⟨n - 1, by omega⟩
      cases r with
      | nil =>
        have := drop_nil hd
        simp only [spec_l6Piece_l0, bs_size]
        rw [decide_eq_false (by omega), cond_false]
        simp only [c_spec_l1In, callS_canon, callL_canon, Option.map_some, Option.bind_some, shape_one, shape_agg, shape_nil, cellsAt_0, cellsAt_1, cellsAt_2, cellsAt_3, cells_one, cells_agg, cB_zero, cI_zero, cS_zero, cC_zero, cB_cons, cI_cons, cS_cons, cC_cons, cond_true, cond_false, List.length_cons, List.length_nil, beq_self_eq_true, Bool.and_true, Bool.true_and, lenC_encL, lenC_lst, deref_ref, emptyK_nil, bs_size, bs_toList, pieceGo]
      | cons b t =>
        obtain ⟨hlt, hg, hd'⟩ := drop_cons hd
        have hul := unitN_le (b :: t)
        have hrl : (b :: t).length = s.length - i := by rw [← hd]; simp
        simp only [spec_l6Piece_l0, bs_size, bytS_bs, hg, Option.map_some, c_spec_l5Letter, callS_canon, callL_canon, Option.map_some, Option.bind_some, shape_one, shape_agg, shape_nil, cellsAt_0, cellsAt_1, cellsAt_2, cellsAt_3, cells_one, cells_agg, cB_zero, cI_zero, cS_zero, cC_zero, cB_cons, cI_cons, cS_cons, cC_cons, cond_true, cond_false, List.length_cons, List.length_nil, beq_self_eq_true, Bool.and_true, Bool.true_and, lenC_encL, lenC_lst, deref_ref, emptyK_nil, bs_size, bs_toList]
        rw [decide_eq_true (by omega), cond_true, wrap_succ (by omega), wrap_succ (by omega)]
        rw [show ((b.toNat : Int) == 91) = (b == 91) from u8_eq b 91 (by omega), show ((b.toNat : Int) == 63) = (b == 63) from u8_eq b 63 (by omega), show ((b.toNat : Int) == 42) = (b == 42) from u8_eq b 42 (by omega)]
        cases hb : b == 91 with
        | true =>
          have hb' : b = 91 := by simpa using hb
          simp only [cond_true, c_spec_l6Class s hs i b t hd hb', callS_canon, callL_canon, Option.map_some, Option.bind_some, shape_one, shape_agg, shape_nil, cellsAt_0, cellsAt_1, cellsAt_2, cellsAt_3, cells_one, cells_agg, cB_zero, cI_zero, cS_zero, cC_zero, cB_cons, cI_cons, cS_cons, cC_cons, cond_true, cond_false, List.length_cons, List.length_nil, beq_self_eq_true, Bool.and_true, Bool.true_and, lenC_encL, lenC_lst, deref_ref, emptyK_nil, bs_size, bs_toList]
          unfold pieceGo
          by_cases hu : unitN (b :: t) = 0
          · rw [if_pos hu, hu]
            rfl
          · rw [if_neg hu, decide_eq_false (by omega), cond_false, show (unitN (b :: t) == 0) = false by simpa using hu, cond_false]
            exact ih _ (i + unitN (b :: t)) (c + 1) n (by rw [List.length_drop]; omega) (by rw [← List.drop_drop, hd]) (by omega) (by omega) (by omega) k m
        | false =>
          have hun : unitN (b :: t) = bif isPath b || (b == 63 || b == 42) then 1 else 0 := by
            simp only [unitN, hb, cond_false]
          have z := ih t (i + 1) (c + 1) n (by simp at hr; omega) hd' (by omega) (by omega) (by omega) k m
          unfold pieceGo
          rw [hun]
          simp only [cond_false]
          cases isPath b with
          | true => simp only [cond_true, Bool.true_or, show ((1 : Nat) == 0) = false from rfl, cond_false, List.drop_succ_cons, List.drop_zero]; exact z
          | false =>
            cases b == 63 with
            | true => simp only [cond_true, cond_false, Bool.true_or, Bool.false_or, show ((1 : Nat) == 0) = false from rfl, List.drop_succ_cons, List.drop_zero]; exact z
            | false =>
              cases b == 42 with
              | true => simp only [cond_true, cond_false, Bool.or_true, Bool.false_or, show ((1 : Nat) == 0) = false from rfl, List.drop_succ_cons, List.drop_zero]; exact z
              | false => rfl
  refine out_of (H := []) (run_spec_l6Piece_of (s.length + 1) ?_)
  have z := loop s.length s 0 0 (s.length + 1 + 1) (Nat.le_refl _) rfl (by omega) (by omega) (by omega) (s.length + 1 + 1) (s.length + 1 + 1)
  simpa [spec_l6Piece, pieceOk] using z
theorem c_strings_HasPrefix (s p : Str) : out run_strings_HasPrefix [.one (Cell.str (bs s)), .one (Cell.str (bs p))] = some [.one (Cell.bool (p.isPrefixOf s))] := by
  refine out_of (H := []) (run_strings_HasPrefix_of 0 ?_)
  simp only [strings_HasPrefix, c_internal_stringslite_HasPrefix, callS_canon, callL_canon, Option.map_some, Option.bind_some, shape_one, shape_agg, shape_nil, cellsAt_0, cellsAt_1, cellsAt_2, cellsAt_3, cells_one, cells_agg, cB_zero, cI_zero, cS_zero, cC_zero, cB_cons, cI_cons, cS_cons, cC_cons, cond_true, cond_false, List.length_cons, List.length_nil, beq_self_eq_true, Bool.and_true, Bool.true_and, lenC_encL, lenC_lst, deref_ref, emptyK_nil, bs_size, bs_toList]
theorem l_impl_unitOf_l1 (s : Str) (hs : s.length ≤ 1073741824) : ∀ (r : Str) (j n : Nat), s.drop j = r → j ≤ s.length → 1 ≤ j → r.length < n → ∀ k m, impl_unitOf_l1 k m n (bs s) j = some ([.one (Cell.int (match clsGo r (j - 1) with | some q => ((j + q : Nat) : Int) | none => 0))], []) := by
  have hM := maxLen_eq
  intro r
  induction r with
  | nil =>
    intro j n hd hj hf hn k m
    obtain ⟨n, rfl⟩ : ∃ q, n = q + 1 := ⟨n - 1, by omega⟩
    have := drop_nil hd
    obtain rfl : j = s.length := by omega
    simp only [impl_unitOf_l1, bs_size]
    rw [decide_eq_false (by omega), cond_false]
    simp only [c_impl_inRange, callS_canon, callL_canon, Option.map_some, Option.bind_some, shape_one, shape_agg, shape_nil, cellsAt_0, cellsAt_1, cellsAt_2, cellsAt_3, cells_one, cells_agg, cB_zero, cI_zero, cS_zero, cC_zero, cB_cons, cI_cons, cS_cons, cC_cons, cond_true, cond_false, List.length_cons, List.length_nil, beq_self_eq_true, Bool.and_true, Bool.true_and, lenC_encL, lenC_lst, deref_ref, emptyK_nil, bs_size, bs_toList]
    cases inR (IntKind.i64.wrap ((s.length : Int) - 1)) 1 5 <;> rfl
  | cons x r ih =>
    intro j n hd hj hf hn k m
    obtain ⟨n, rfl⟩ : ∃ q, n = q + 1 := ⟨n - 1, by omega⟩
    obtain ⟨hlt, hg, hd'⟩ := drop_cons hd
    simp only [List.length_cons] at hn
    have z := ih (j + 1) n hd' (by omega) (by omega) (by omega) k m
    rw [show j + 1 - 1 = j - 1 + 1 by omega] at z
    have hz : (match clsGo r (j - 1 + 1) with | some q => ((j + 1 + q : Nat) : Int) | none => 0) = (match (clsGo r (j - 1 + 1)).map (· + 1) with | some q => ((j + q : Nat) : Int) | none => 0) := by
      cases clsGo r (j - 1 + 1) with
      | none => rfl
      | some q => simp only [Option.map_some]; congr 1; omega
    simp only [impl_unitOf_l1, bs_size, bytS_bs, hg, Option.map_some, c_impl_isSmall, c_impl_isFigure, c_impl_inRange, callS_canon, callL_canon, Option.map_some, Option.bind_some, shape_one, shape_agg, shape_nil, cellsAt_0, cellsAt_1, cellsAt_2, cellsAt_3, cells_one, cells_agg, cB_zero, cI_zero, cS_zero, cC_zero, cB_cons, cI_cons, cS_cons, cC_cons, cond_true, cond_false, List.length_cons, List.length_nil, beq_self_eq_true, Bool.and_true, Bool.true_and, lenC_encL, lenC_lst, deref_ref, emptyK_nil, bs_size, bs_toList]
    rw [decide_eq_true (by omega), cond_true, wrap_succ (by omega), z, hz, show IntKind.i64.wrap ((j : Int) - 1) = ((j - 1 : Nat) : Int) from wrap_sub (n := j) (k := 1) (by omega) (by omega)]
    rw [show ((x.toNat : Int) != 93) = !(x == 93) from congrArg not (u8_eq x 93 (by omega)), show ((j : Int) == (s.length : Int)) = false by simp; omega]
    rw [clsGo_cons]
    unfold isAl
    cases isSmall x with
    | true => rfl
    | false =>
      cases isFigure x with
      | true => rfl
      | false => cases inR ((j - 1 : Nat) : Int) 1 5 <;> cases x == 93 <;> rfl
theorem l_impl_unitOf_l0 (s : Str) (hs : s.length ≤ 1073741824) : ∀ (r : Str) (j n : Nat), s.drop j = r → j ≤ s.length → 2 ≤ j → r.length < n → ∀ k m, impl_unitOf_l0 k m n (bs s) j = some ([.one (Cell.int (match clsGo r (j - 2) with | some q => ((j + q : Nat) : Int) | none => 0))], []) := by
  have hM := maxLen_eq
  intro r
  induction r with
  | nil =>
    intro j n hd hj hf hn k m
    obtain ⟨n, rfl⟩ : ∃ q, n = q + 1 := ⟨n - 1, by omega⟩
    have := drop_nil hd
    obtain rfl : j = s.length := by omega
    simp only [impl_unitOf_l0, bs_size]
    rw [decide_eq_false (by omega), cond_false]
    simp only [c_impl_inRange, callS_canon, callL_canon, Option.map_some, Option.bind_some, shape_one, shape_agg, shape_nil, cellsAt_0, cellsAt_1, cellsAt_2, cellsAt_3, cells_one, cells_agg, cB_zero, cI_zero, cS_zero, cC_zero, cB_cons, cI_cons, cS_cons, cC_cons, cond_true, cond_false, List.length_cons, List.length_nil, beq_self_eq_true, Bool.and_true, Bool.true_and, lenC_encL, lenC_lst, deref_ref, emptyK_nil, bs_size, bs_toList]
    cases inR (IntKind.i64.wrap ((s.length : Int) - 2)) 1 5 <;> rfl
  | cons x r ih =>
    intro j n hd hj hf hn k m
    obtain ⟨n, rfl⟩ : ∃ q, n = q + 1 := ⟨n - 1, by omega⟩
    obtain ⟨hlt, hg, hd'⟩ := drop_cons hd
    simp only [List.length_cons] at hn
    have z := ih (j + 1) n hd' (by omega) (by omega) (by omega) k m
    rw [show j + 1 - 2 = j - 2 + 1 by omega] at z
    have hz : (match clsGo r (j - 2 + 1) with | some q => ((j + 1 + q : Nat) : Int) | none => 0) = (match (clsGo r (j - 2 + 1)).map (· + 1) with | some q => ((j + q : Nat) : Int) | none => 0) := by
      cases clsGo r (j - 2 + 1) with
      | none => rfl
      | some q => simp only [Option.map_some]; congr 1; omega
    simp only [impl_unitOf_l0, bs_size, bytS_bs, hg, Option.map_some, c_impl_isSmall, c_impl_isFigure, c_impl_inRange, callS_canon, callL_canon, Option.map_some, Option.bind_some, shape_one, shape_agg, shape_nil, cellsAt_0, cellsAt_1, cellsAt_2, cellsAt_3, cells_one, cells_agg, cB_zero, cI_zero, cS_zero, cC_zero, cB_cons, cI_cons, cS_cons, cC_cons, cond_true, cond_false, List.length_cons, List.length_nil, beq_self_eq_true, Bool.and_true, Bool.true_and, lenC_encL, lenC_lst, deref_ref, emptyK_nil, bs_size, bs_toList]
    rw [decide_eq_true (by omega), cond_true, wrap_succ (by omega), z, hz, show IntKind.i64.wrap ((j : Int) - 2) = ((j - 2 : Nat) : Int) from wrap_sub (n := j) (k := 2) (by omega) (by omega)]
    rw [show ((x.toNat : Int) != 93) = !(x == 93) from congrArg not (u8_eq x 93 (by omega)), show ((j : Int) == (s.length : Int)) = false by simp; omega]
    rw [clsGo_cons]
    unfold isAl
    cases isSmall x with
    | true => rfl
    | false =>
      cases isFigure x with
      | true => rfl
      | false => cases inR ((j - 2 : Nat) : Int) 1 5 <;> cases x == 93 <;> rfl
theorem c_impl_unitOf (b : UInt8) (t : Str) (hs : t.length ≤ 1073741823) : out run_impl_unitOf [.one (Cell.str (bs (b :: t)))] = some [.one (Cell.int ((unitN (b :: t) : Nat) : Int))] := by
  have hM := maxLen_eq
  refine out_of (H := []) (run_impl_unitOf_of (t.length + 2) ?_)
  have e1 := subS_bs (b :: t) 1 (b :: t).length (by simp) (Nat.le_refl _)
  rw [List.take_length, List.drop_succ_cons, List.drop_zero] at e1
  have e1' : subS (bs (b :: t)) 1 (((b :: t).length : Nat) : Int) = some (bs t) := e1
  simp only [impl_unitOf, bytS_head, c_impl_isPathByte, bs_size, callS_canon, callL_canon, Option.map_some, Option.bind_some, shape_one, shape_agg, shape_nil, cellsAt_0, cellsAt_1, cellsAt_2, cellsAt_3, cells_one, cells_agg, cB_zero, cI_zero, cS_zero, cC_zero, cB_cons, cI_cons, cS_cons, cC_cons, cond_true, cond_false, List.length_cons, List.length_nil, beq_self_eq_true, Bool.and_true, Bool.true_and, lenC_encL, lenC_lst, deref_ref, emptyK_nil, bs_size, bs_toList]
  rw [show ((b.toNat : Int) == 63) = (b == 63) from u8_eq b 63 (by omega), show ((b.toNat : Int) == 42) = (b == 42) from u8_eq b 42 (by omega), show ((b.toNat : Int) != 91) = !(b == 91) from congrArg not (u8_eq b 91 (by omega))]
  cases hb : b == 91 with
  | false =>
    have hun : unitN (b :: t) = bif isPath b || (b == 63 || b == 42) then 1 else 0 := by
      simp only [unitN, hb, cond_false]
    rw [hun]
    cases isPath b <;> cases b == 63 <;> cases b == 42 <;> rfl
  | true =>
    have hb' : b = 91 := by simpa using hb
    subst hb'
    rw [show isPath 91 = false from rfl, show ((91 : UInt8) == 63) = false from rfl, show ((91 : UInt8) == 42) = false from rfl]
    simp only [Bool.not_true, cond_false]
    simp only [List.length_cons] at e1'
    simp only [e1', c_strings_HasPrefix, callS_canon, callL_canon, Option.map_some, Option.bind_some, shape_one, shape_agg, shape_nil, cellsAt_0, cellsAt_1, cellsAt_2, cellsAt_3, cells_one, cells_agg, cB_zero, cI_zero, cS_zero, cC_zero, cB_cons, cI_cons, cS_cons, cC_cons, cond_true, cond_false, List.length_cons, List.length_nil, beq_self_eq_true, Bool.and_true, Bool.true_and, lenC_encL, lenC_lst, deref_ref, emptyK_nil, bs_size, bs_toList]
    unfold unitN
    simp only [show ((91 : UInt8) == 91) = true from rfl, cond_true]
    have hun : ∀ (o : Option Nat) (p : Nat), (((match o with | some n => n + p | none => 0 : Nat)) : Int) = (match o with | some q => ((p + q : Nat) : Int) | none => 0) := by
      intro o p
      cases o with
      | none => rfl
      | some n => simp only; congr 1; omega
    cases t with
    | nil =>
      simp only [show List.isPrefixOf [33] ([] : Str) = false from rfl, cond_false]
      have z := l_impl_unitOf_l1 [91] (by simp) [] 1 (([] : Str).length + 2 + 1) rfl (by simp) (by omega) (by simp) (([] : Str).length + 2 + 1) (([] : Str).length + 2 + 1)
      exact z
    | cons d t' =>
      rw [show List.isPrefixOf [33] (d :: t') = (d == 33) by
        simp only [List.isPrefixOf, Bool.and_true]
        cases h : d == 33 with
        | true => have : d = 33 := by simpa using h
                  subst this; rfl
        | false => rw [Bool.eq_false_iff]; intro h2; have : 33 = d := by simpa using h2
                   subst this; simp at h]
      cases hd : d == 33 with
      | true =>
        simp only [hd, cond_true]
        rw [hun (clsGo t' 0) 2]
        exact l_impl_unitOf_l0 (91 :: d :: t') (by simp at hs ⊢; omega) t' 2 ((d :: t').length + 2 + 1) rfl (by simp) (by omega) (by simp; omega) ((d :: t').length + 2 + 1) ((d :: t').length + 2 + 1)
      | false =>
        simp only [hd, cond_false]
        rw [hun (clsGo (d :: t') 0) 1]
        exact l_impl_unitOf_l1 (91 :: d :: t') (by simp at hs ⊢; omega) (d :: t') 1 ((d :: t').length + 2 + 1) rfl (by simp) (by omega) (by simp) ((d :: t').length + 2 + 1) ((d :: t').length + 2 + 1)
theorem c_impl_pieceOk (s : Str) (hs : s.length ≤ 1073741824) : out run_impl_pieceOk [.one (Cell.str (bs s))] = some [.one (Cell.bool (pieceOk s))] := by
  have hM := maxLen_eq
  have loop : ∀ (d : Nat) (r : Str) (c n : Nat), r.length ≤ d → d ≤ 1073741824 → c + d ≤ 1073741824 → d < n → ∀ k m, impl_pieceOk_l0 k m n c (bs r) = some ([.one (Cell.bool (pieceGo d r c))], []) := by
    intro d
    induction d with
    | zero =>
      intro r c n hr hd hc hn k m
      obtain ⟨n, rfl⟩ : ∃ q, n = q + 1 := ⟨n - 1, by omega⟩
      have : r = [] := List.eq_nil_of_length_eq_zero (by omega)
      subst this
      simp only [impl_pieceOk_l0, c_impl_inRange, callS_canon, callL_canon, Option.map_some, Option.bind_some, shape_one, shape_agg, shape_nil, cellsAt_0, cellsAt_1, cellsAt_2, cellsAt_3, cells_one, cells_agg, cB_zero, cI_zero, cS_zero, cC_zero, cB_cons, cI_cons, cS_cons, cC_cons, cond_true, cond_false, List.length_cons, List.length_nil, beq_self_eq_true, Bool.and_true, Bool.true_and, lenC_encL, lenC_lst, deref_ref, emptyK_nil, bs_size, bs_toList, pieceGo]
      rfl
    | succ d ih =>
      intro r c n hr hd hc hn k m
      obtain ⟨n, rfl⟩ : ∃ q, n = q + 1 := ⟨n - 1, by omega⟩
      cases r with
      | nil =>
        simp only [impl_pieceOk_l0, c_impl_inRange, callS_canon, callL_canon, Option.map_some, Option.bind_some, shape_one, shape_agg, shape_nil, cellsAt_0, cellsAt_1, cellsAt_2, cellsAt_3, cells_one, cells_agg, cB_zero, cI_zero, cS_zero, cC_zero, cB_cons, cI_cons, cS_cons, cC_cons, cond_true, cond_false, List.length_cons, List.length_nil, beq_self_eq_true, Bool.and_true, Bool.true_and, lenC_encL, lenC_lst, deref_ref, emptyK_nil, bs_size, bs_toList, pieceGo]
        rfl
      | cons b t =>
        have hul := unitN_le (b :: t)
        simp only [List.length_cons] at hr hul
        simp only [impl_pieceOk_l0, c_impl_unitOf b t (by omega), callS_canon, callL_canon, Option.map_some, Option.bind_some, shape_one, shape_agg, shape_nil, cellsAt_0, cellsAt_1, cellsAt_2, cellsAt_3, cells_one, cells_agg, cB_zero, cI_zero, cS_zero, cC_zero, cB_cons, cI_cons, cS_cons, cC_cons, cond_true, cond_false, List.length_cons, List.length_nil, beq_self_eq_true, Bool.and_true, Bool.true_and, lenC_encL, lenC_lst, deref_ref, emptyK_nil, bs_size, bs_toList]
        rw [show (!((b :: t : Str) == [])) = true from rfl, cond_true]
        unfold pieceGo
        by_cases hu : unitN (b :: t) = 0
        · rw [hu]
          rfl
        · have e1 := subS_bs (b :: t) (unitN (b :: t)) (b :: t).length (by simp; omega) (Nat.le_refl _)
          rw [List.take_length] at e1
          simp only [List.length_cons] at e1
          rw [show (((unitN (b :: t) : Nat) : Int) == 0) = false by simp; omega, cond_false, show (unitN (b :: t) == 0) = false by simpa using hu, cond_false, e1, wrap_succ (by omega)]
          simp only [Option.bind_some]
          exact ih _ (c + 1) n (by rw [List.length_drop]; simp; omega) (by omega) (by omega) (by omega) k m
  refine out_of (H := []) (run_impl_pieceOk_of (s.length + 1) ?_)
  have z := loop s.length s 0 (s.length + 1 + 1) (Nat.le_refl _) hs (by omega) (by omega) (s.length + 1 + 1) (s.length + 1 + 1)
  simpa [impl_pieceOk, pieceOk] using z
theorem c_impl_GlobOk (s : Str) (hs : s.length ≤ 1073741823) : out run_impl_GlobOk [.one (Cell.str (bs s))] = some [.one (Cell.bool (globOk s))] := by
  have hM := maxLen_eq
  have e0 := c_strings_Split s 47 (by omega)
  have hl := splitGo_length 47 s []
  have hlen : ∀ x ∈ split 47 s, x.length ≤ 1073741824 := fun x hx => Nat.le_trans (hl.2 x hx) (by simp; omega)
  have hll : (split 47 s).length ≤ s.length + 1 := hl.1
  unfold globOk
  generalize split 47 s = W at *
  refine out_of (H := []) (run_impl_GlobOk_of (W.length + 1) ?_)
  simp only [impl_GlobOk, e0, callS_canon, callL_canon, Option.map_some, Option.bind_some, shape_one, shape_agg, shape_nil, cellsAt_0, cellsAt_1, cellsAt_2, cellsAt_3, cells_one, cells_agg, cB_zero, cI_zero, cS_zero, cC_zero, cB_cons, cI_cons, cS_cons, cC_cons, cond_true, cond_false, List.length_cons, List.length_nil, beq_self_eq_true, Bool.and_true, Bool.true_and, lenC_encL, lenC_lst, deref_ref, emptyK_nil, bs_size, bs_toList]
  rw [loop_all W (fun n i => impl_GlobOk_l0 (W.length + 1 + 1) (W.length + 1 + 1) n (strsC W) (strsC W) W.length i []) pieceOk (some ([.one (Cell.bool (decide (W.length ≤ 4)))], [])) (some ([.one (Cell.bool false)], [])) ?_ ?_ _ (by omega)]
  · exact leafC _ _ _
  · intro n i x hx hlt
    simp only [impl_GlobOk_l0, idxA_encL, hx, eStr, c_impl_pieceOk x (hlen x (List.mem_of_getElem? hx)), callS_canon, callL_canon, Option.map_some, Option.bind_some, shape_one, shape_agg, shape_nil, cellsAt_0, cellsAt_1, cellsAt_2, cellsAt_3, cells_one, cells_agg, cB_zero, cI_zero, cS_zero, cC_zero, cB_cons, cI_cons, cS_cons, cC_cons, cond_true, cond_false, List.length_cons, List.length_nil, beq_self_eq_true, Bool.and_true, Bool.true_and, lenC_encL, lenC_lst, deref_ref, emptyK_nil, bs_size, bs_toList]
    rw [decide_eq_true (by omega), cond_true, wrap_succ (by omega)]
    cases pieceOk x <;> rfl
  · intro n
    simp only [impl_GlobOk_l0, lenC_encL, callS_canon, callL_canon, Option.map_some, Option.bind_some, shape_one, shape_agg, shape_nil, cellsAt_0, cellsAt_1, cellsAt_2, cellsAt_3, cells_one, cells_agg, cB_zero, cI_zero, cS_zero, cC_zero, cB_cons, cI_cons, cS_cons, cC_cons, cond_true, cond_false, List.length_cons, List.length_nil, beq_self_eq_true, Bool.and_true, Bool.true_and, lenC_encL, lenC_lst, deref_ref, emptyK_nil, bs_size, bs_toList]
    rw [decide_eq_false (by omega), cond_false, show decide ((W.length : Int) ≤ 4) = decide (W.length ≤ 4) from n_le W.length 4]
def sinceS : Str := [91, 115, 105, 110, 99, 101, 93]
def dotS : Str := [46, 46, 46]
def sufB (p s : Str) : Bool := decide (p.length ≤ s.length) && (s.drop (s.length - p.length) == p)
/-- A filter that is neither turned nor widened: may it stand? -/
def plainF (s : Str) : Bool := s == sinceS || (pieceOk s && decide (s.length ≤ 20))
def oneGo : Nat → Str → Bool
  | 0, s => plainF s
  | d + 1, s => bif List.isPrefixOf [33] s then oneGo d (s.drop 1) else bif List.isPrefixOf dotS s then oneGo d (s.drop 3) else bif sufB dotS s then oneGo d (s.take (s.length - 3)) else plainF s
def oneOk (s : Str) : Bool := oneGo s.length s
def filterOk (s : Str) : Bool := (split 32 s).all oneOk && decide ((split 32 s).length ≤ 4)
theorem oneGo_ge : ∀ (d e : Nat) (s : Str), s.length ≤ d → s.length ≤ e → oneGo d s = oneGo e s := by
  intro d
  induction d with
  | zero =>
    intro e s h1 h2
    have : s = [] := List.eq_nil_of_length_eq_zero (by omega)
    subst this
    cases e <;> rfl
  | succ d ih =>
    intro e s h1 h2
    cases e with
    | zero =>
      have : s = [] := List.eq_nil_of_length_eq_zero (by omega)
      subst this
      rfl
    | succ e =>
      unfold oneGo
      cases h3 : List.isPrefixOf [33] s with
      | true => 
        have := (List.isPrefixOf_iff_prefix.1 h3).length_le
        simp only [List.length_cons, List.length_nil] at this
        simp only [cond_true]
        exact ih e _ (by simp; omega) (by simp; omega)
      | false =>
        cases h4 : List.isPrefixOf dotS s with
        | true =>
          have := (List.isPrefixOf_iff_prefix.1 h4).length_le
          simp only [dotS, List.length_cons, List.length_nil] at this
          simp only [cond_true, cond_false]
          exact ih e _ (by simp; omega) (by simp; omega)
        | false =>
          cases h5 : sufB dotS s with
          | true =>
            have : 3 ≤ s.length := by simp [sufB, dotS] at h5; omega
            simp only [cond_true, cond_false]
            exact ih e _ (by simp; omega) (by simp; omega)
          | false => rfl
theorem clsGo_no : ∀ (r : Str) (c n : Nat), clsGo r c = some n → 47 ∉ r.take n := by
  intro r
  induction r with
  | nil => intro c n h; simp [clsGo] at h
  | cons b r ih =>
    intro c n h
    rw [clsGo_cons] at h
    cases hb : isAl b with
    | true =>
      rw [hb, cond_true, Option.map_eq_some_iff] at h
      obtain ⟨j, h1, rfl⟩ := h
      rw [List.take_succ_cons, List.mem_cons, not_or]
      refine ⟨?_, ih _ _ h1⟩
      rintro rfl
      exact absurd hb (by decide)
    | false =>
      rw [hb, cond_false] at h
      cases hc : inR (c : Int) 1 5 && b == 93 with
      | true =>
        rw [hc, cond_true] at h
        simp only [Option.some.injEq] at h
        subst h
        simp only [Bool.and_eq_true, beq_iff_eq] at hc
        rw [hc.2]
        simp
      | false => rw [hc, cond_false] at h; simp at h
theorem unitN_no (s : Str) : 47 ∉ s.take (unitN s) := by
  cases s with
  | nil => simp
  | cons b t =>
    cases hb : b == 91 with
    | true =>
      have hb' : b = 91 := by simpa using hb
      cases t with
      | nil => simp [unitN, hb']
      | cons d t' =>
        cases hd : d == 33 with
        | true =>
          have hd' : d = 33 := by simpa using hd
          simp only [unitN, hb, hd, cond_true]
          split
          · rename_i n h
            have := clsGo_no _ _ _ h
            rw [List.take_succ_cons, List.take_succ_cons, hb', hd']
            simpa using this
          · simp
        | false =>
          simp only [unitN, hb, hd, cond_true, cond_false]
          split
          · rename_i n h
            have := clsGo_no _ _ _ h
            rw [List.take_succ_cons, hb', List.mem_cons, not_or]
            exact ⟨by decide, this⟩
          · simp
    | false =>
      simp only [unitN, hb, cond_false]
      cases h : isPath b || (b == 63 || b == 42) with
      | true =>
        simp only [cond_true, List.take_succ_cons, List.take_zero, List.mem_singleton]
        rintro rfl
        exact absurd h (by decide)
      | false => simp
theorem pieceGo_no : ∀ (d : Nat) (s : Str) (c : Nat), pieceGo d s c = true → 47 ∉ s := by
  intro d
  induction d with
  | zero =>
    intro s c h
    cases s with
    | nil => simp
    | cons b t => simp [pieceGo] at h
  | succ d ih =>
    intro s c h
    cases s with
    | nil => simp
    | cons b t =>
      unfold pieceGo at h
      cases hu : unitN (b :: t) == 0 with
      | true => rw [hu] at h; simp at h
      | false =>
        rw [hu, cond_false] at h
        have h1 := ih _ _ h
        have h2 := unitN_no (b :: t)
        rw [← List.take_append_drop (unitN (b :: t)) (b :: t), List.mem_append, not_or]
        exact ⟨h2, h1⟩
/-- As the program asks it. -/
theorem plainF_eq (s : Str) (h : (s == sinceS) = false) : plainF s = (decide (s.length ≤ 20) && (!decide (47 ∈ s) && globOk s)) := by
  unfold plainF
  rw [h, Bool.false_or]
  by_cases h1 : 47 ∈ s
  · rw [decide_eq_true h1]
    cases hp : pieceOk s with
    | true => exact absurd h1 (pieceGo_no _ _ _ hp)
    | false => simp
  · rw [decide_eq_false h1]
    unfold globOk
    rw [split_not h1]
    simp [Bool.and_comm]
theorem c_spec_l14Tail (s p : Str) (hs : s.length ≤ 1073741824) : out run_spec_l14Tail [.one (Cell.str (bs s)), .one (Cell.str (bs p))] = some [.one (Cell.bool (sufB p s))] := by
  have hM := maxLen_eq
  refine out_of (H := []) (run_spec_l14Tail_of 0 ?_)
  simp only [spec_l14Tail, callS_canon, callL_canon, Option.map_some, Option.bind_some, shape_one, shape_agg, shape_nil, cellsAt_0, cellsAt_1, cellsAt_2, cellsAt_3, cells_one, cells_agg, cB_zero, cI_zero, cS_zero, cC_zero, cB_cons, cI_cons, cS_cons, cC_cons, cond_true, cond_false, List.length_cons, List.length_nil, beq_self_eq_true, Bool.and_true, Bool.true_and, lenC_encL, lenC_lst, deref_ref, emptyK_nil, bs_size, bs_toList]
  unfold sufB
  by_cases h : p.length ≤ s.length
  · have e1 := subS_bs s (s.length - p.length) s.length (by omega) (Nat.le_refl _)
    rw [List.take_length] at e1
    rw [decide_eq_true (by omega), cond_true, show IntKind.i64.wrap ((s.length : Int) - (p.length : Int)) = ((s.length - p.length : Nat) : Int) from wrap_sub (n := s.length) (k := p.length) (by omega) (by omega), e1]
    simp only [callS_canon, callL_canon, Option.map_some, Option.bind_some, shape_one, shape_agg, shape_nil, cellsAt_0, cellsAt_1, cellsAt_2, cellsAt_3, cells_one, cells_agg, cB_zero, cI_zero, cS_zero, cC_zero, cB_cons, cI_cons, cS_cons, cC_cons, cond_true, cond_false, List.length_cons, List.length_nil, beq_self_eq_true, Bool.and_true, Bool.true_and, lenC_encL, lenC_lst, deref_ref, emptyK_nil, bs_size, bs_toList, decide_eq_true h]
  · rw [decide_eq_false (by omega), cond_false, decide_eq_false h]
    rfl
theorem c_internal_stringslite_HasSuffix (s p : Str) (hs : s.length ≤ 1073741824) : out run_internal_stringslite_HasSuffix [.one (Cell.str (bs s)), .one (Cell.str (bs p))] = some [.one (Cell.bool (sufB p s))] := by
  have hM := maxLen_eq
  refine out_of (H := []) (run_internal_stringslite_HasSuffix_of 0 ?_)
  simp only [internal_stringslite_HasSuffix, callS_canon, callL_canon, Option.map_some, Option.bind_some, shape_one, shape_agg, shape_nil, cellsAt_0, cellsAt_1, cellsAt_2, cellsAt_3, cells_one, cells_agg, cB_zero, cI_zero, cS_zero, cC_zero, cB_cons, cI_cons, cS_cons, cC_cons, cond_true, cond_false, List.length_cons, List.length_nil, beq_self_eq_true, Bool.and_true, Bool.true_and, lenC_encL, lenC_lst, deref_ref, emptyK_nil, bs_size, bs_toList]
  unfold sufB
  by_cases h : p.length ≤ s.length
  · have e1 := subS_bs s (s.length - p.length) s.length (by omega) (Nat.le_refl _)
    rw [List.take_length] at e1
    rw [decide_eq_true (by omega), cond_true, show IntKind.i64.wrap ((s.length : Int) - (p.length : Int)) = ((s.length - p.length : Nat) : Int) from wrap_sub (n := s.length) (k := p.length) (by omega) (by omega), e1]
    simp only [callS_canon, callL_canon, Option.map_some, Option.bind_some, shape_one, shape_agg, shape_nil, cellsAt_0, cellsAt_1, cellsAt_2, cellsAt_3, cells_one, cells_agg, cB_zero, cI_zero, cS_zero, cC_zero, cB_cons, cI_cons, cS_cons, cC_cons, cond_true, cond_false, List.length_cons, List.length_nil, beq_self_eq_true, Bool.and_true, Bool.true_and, lenC_encL, lenC_lst, deref_ref, emptyK_nil, bs_size, bs_toList, decide_eq_true h]
  · rw [decide_eq_false (by omega), cond_false, decide_eq_false h]
    rfl
theorem c_spec_l14Head (s p : Str) : out run_spec_l14Head [.one (Cell.str (bs s)), .one (Cell.str (bs p))] = some [.one (Cell.bool (p.isPrefixOf s))] := by
  refine out_of (H := []) (run_spec_l14Head_of 0 ?_)
  simp only [spec_l14Head, callS_canon, callL_canon, Option.map_some, Option.bind_some, shape_one, shape_agg, shape_nil, cellsAt_0, cellsAt_1, cellsAt_2, cellsAt_3, cells_one, cells_agg, cB_zero, cI_zero, cS_zero, cC_zero, cB_cons, cI_cons, cS_cons, cC_cons, cond_true, cond_false, List.length_cons, List.length_nil, beq_self_eq_true, Bool.and_true, Bool.true_and, lenC_encL, lenC_lst, deref_ref, emptyK_nil, bs_size, bs_toList]
  by_cases h : p.length ≤ s.length
  · have e1 := subS_bs s 0 p.length (by omega) h
    simp only [Int.natCast_zero, List.drop_zero] at e1
    rw [decide_eq_true (by omega), cond_true, e1]
    simp only [callS_canon, callL_canon, Option.map_some, Option.bind_some, shape_one, shape_agg, shape_nil, cellsAt_0, cellsAt_1, cellsAt_2, cellsAt_3, cells_one, cells_agg, cB_zero, cI_zero, cS_zero, cC_zero, cB_cons, cI_cons, cS_cons, cC_cons, cond_true, cond_false, List.length_cons, List.length_nil, beq_self_eq_true, Bool.and_true, Bool.true_and, lenC_encL, lenC_lst, deref_ref, emptyK_nil, bs_size, bs_toList]
    congr 5
    rw [Bool.eq_iff_iff, List.isPrefixOf_iff_prefix, List.prefix_iff_eq_take, beq_iff_eq]
    exact eq_comm
  · rw [decide_eq_false (by omega), cond_false]
    congr 5
    symm
    rw [← Bool.not_eq_true, List.isPrefixOf_iff_prefix]
    exact fun hp => h hp.length_le
theorem c_strings_HasSuffix (s p : Str) (hs : s.length ≤ 1073741824) : out run_strings_HasSuffix [.one (Cell.str (bs s)), .one (Cell.str (bs p))] = some [.one (Cell.bool (sufB p s))] := by
  refine out_of (H := []) (run_strings_HasSuffix_of 0 ?_)
  simp only [strings_HasSuffix, c_internal_stringslite_HasSuffix s p hs, callS_canon, callL_canon, Option.map_some, Option.bind_some, shape_one, shape_agg, shape_nil, cellsAt_0, cellsAt_1, cellsAt_2, cellsAt_3, cells_one, cells_agg, cB_zero, cI_zero, cS_zero, cC_zero, cB_cons, cI_cons, cS_cons, cC_cons, cond_true, cond_false, List.length_cons, List.length_nil, beq_self_eq_true, Bool.and_true, Bool.true_and, lenC_encL, lenC_lst, deref_ref, emptyK_nil, bs_size, bs_toList]
theorem c_strings_Contains (s : Str) (c : UInt8) : out run_strings_Contains [.one (Cell.str (bs s)), .one (Cell.str (bs [c]))] = some [.one (Cell.bool (decide (c ∈ s)))] := by
  refine out_of (H := []) (run_strings_Contains_of 0 ?_)
  simp only [strings_Contains, c_strings_Index, callS_canon, callL_canon, Option.map_some, Option.bind_some, shape_one, shape_agg, shape_nil, cellsAt_0, cellsAt_1, cellsAt_2, cellsAt_3, cells_one, cells_agg, cB_zero, cI_zero, cS_zero, cC_zero, cB_cons, cI_cons, cS_cons, cC_cons, cond_true, cond_false, List.length_cons, List.length_nil, beq_self_eq_true, Bool.and_true, Bool.true_and, lenC_encL, lenC_lst, deref_ref, emptyK_nil, bs_size, bs_toList]
  rw [indexByte_eq]
  congr 5
  rw [decide_eq_decide]
  split <;> rename_i h
  · exact ⟨fun _ => h, fun _ => by omega⟩
  · exact ⟨fun h => by omega, fun h2 => absurd h2 h⟩
theorem c_internal_stringslite_CutPrefix (s p : Str) : out run_internal_stringslite_CutPrefix [.one (Cell.str (bs s)), .one (Cell.str (bs p))] = some [.one (Cell.str (bs (trimP p s))), .one (Cell.bool (p.isPrefixOf s))] := by
  refine out_of (H := []) (run_internal_stringslite_CutPrefix_of 0 ?_)
  simp only [internal_stringslite_CutPrefix, c_internal_stringslite_HasPrefix, callS_canon, callL_canon, Option.map_some, Option.bind_some, shape_one, shape_agg, shape_nil, cellsAt_0, cellsAt_1, cellsAt_2, cellsAt_3, cells_one, cells_agg, cB_zero, cI_zero, cS_zero, cC_zero, cB_cons, cI_cons, cS_cons, cC_cons, cond_true, cond_false, List.length_cons, List.length_nil, beq_self_eq_true, Bool.and_true, Bool.true_and, lenC_encL, lenC_lst, deref_ref, emptyK_nil, bs_size, bs_toList]
  unfold trimP
  cases h : p.isPrefixOf s with
  | true =>
    have hl := (List.isPrefixOf_iff_prefix.1 h).length_le
    rw [Bool.not_true, cond_false, subS_bs s _ _ hl (Nat.le_refl _), List.take_length]
    rfl
  | false => rfl
theorem c_strings_CutPrefix (s p : Str) : out run_strings_CutPrefix [.one (Cell.str (bs s)), .one (Cell.str (bs p))] = some [.one (Cell.str (bs (trimP p s))), .one (Cell.bool (p.isPrefixOf s))] := by
  refine out_of (H := []) (run_strings_CutPrefix_of 0 ?_)
  simp only [strings_CutPrefix, c_internal_stringslite_CutPrefix, callS_canon, callL_canon, Option.map_some, Option.bind_some, shape_one, shape_agg, shape_nil, cellsAt_0, cellsAt_1, cellsAt_2, cellsAt_3, cells_one, cells_agg, cB_zero, cI_zero, cS_zero, cC_zero, cB_cons, cI_cons, cS_cons, cC_cons, cond_true, cond_false, List.length_cons, List.length_nil, beq_self_eq_true, Bool.and_true, Bool.true_and, lenC_encL, lenC_lst, deref_ref, emptyK_nil, bs_size, bs_toList]
theorem r_spec_l14One : ∀ (d : Nat) (s : Str), s.length ≤ d → d ≤ 1048576 → ∀ k, evF G_spec_l14One (k + d + 2) fid_spec_l14One [.one (Cell.str (bs s))] [] = some ([.one (Cell.bool (oneGo d s))], []) := by
  have hM := maxLen_eq
  intro d
  induction d with
  | zero =>
    intro s h1 h2 k
    have : s = [] := List.eq_nil_of_length_eq_zero (by omega)
    subst this
    rw [Nat.add_zero, spec_l14One_eq]
    simp only [spec_l14One, c_spec_l14Head, c_spec_l14Tail [] _ (by simp), c_spec_l6Piece [] (by simp), callS_canon, callL_canon, Option.map_some, Option.bind_some, shape_one, shape_agg, shape_nil, cellsAt_0, cellsAt_1, cellsAt_2, cellsAt_3, cells_one, cells_agg, cB_zero, cI_zero, cS_zero, cC_zero, cB_cons, cI_cons, cS_cons, cC_cons, cond_true, cond_false, List.length_cons, List.length_nil, beq_self_eq_true, Bool.and_true, Bool.true_and, lenC_encL, lenC_lst, deref_ref, emptyK_nil, bs_size, bs_toList]
    rfl
  | succ d ih =>
    intro s h1 h2 k
    have z : ∀ t : Str, t.length ≤ d → out (evF G_spec_l14One (k + d + 1 + 1) fid_spec_l14One) [.one (Cell.str (bs t))] = some [.one (Cell.bool (oneGo d t))] := fun t ht => out_of (ih t ht (by omega) k)
    rw [show k + (d + 1) + 2 = (k + d + 1) + 2 by omega, spec_l14One_eq]
    simp only [spec_l14One, c_spec_l14Head, c_spec_l14Tail s _ (by omega), c_spec_l6Piece s (by omega), callS_canon, callL_canon, Option.map_some, Option.bind_some, shape_one, shape_agg, shape_nil, cellsAt_0, cellsAt_1, cellsAt_2, cellsAt_3, cells_one, cells_agg, cB_zero, cI_zero, cS_zero, cC_zero, cB_cons, cI_cons, cS_cons, cC_cons, cond_true, cond_false, List.length_cons, List.length_nil, beq_self_eq_true, Bool.and_true, Bool.true_and, lenC_encL, lenC_lst, deref_ref, emptyK_nil, bs_size, bs_toList]
    unfold oneGo plainF dotS
    cases h3 : List.isPrefixOf [33] s with
    | true =>
      have := (List.isPrefixOf_iff_prefix.1 h3).length_le
      simp only [List.length_cons, List.length_nil] at this
      have e1 := subS_bs s 1 s.length (by omega) (Nat.le_refl _)
      rw [List.take_length, show ((1 : Nat) : Int) = 1 from rfl] at e1
      simp only [cond_true, e1, z (s.drop 1) (by simp; omega), callS_canon, callL_canon, Option.map_some, Option.bind_some, shape_one, shape_agg, shape_nil, cellsAt_0, cellsAt_1, cellsAt_2, cellsAt_3, cells_one, cells_agg, cB_zero, cI_zero, cS_zero, cC_zero, cB_cons, cI_cons, cS_cons, cC_cons, cond_true, cond_false, List.length_cons, List.length_nil, beq_self_eq_true, Bool.and_true, Bool.true_and, lenC_encL, lenC_lst, deref_ref, emptyK_nil, bs_size, bs_toList]
    | false =>
      cases h4 : List.isPrefixOf [46, 46, 46] s with
      | true =>
        have := (List.isPrefixOf_iff_prefix.1 h4).length_le
        simp only [List.length_cons, List.length_nil] at this
        have e1 := subS_bs s 3 s.length (by omega) (Nat.le_refl _)
        rw [List.take_length, show ((3 : Nat) : Int) = 3 from rfl] at e1
        simp only [cond_true, cond_false, e1, z (s.drop 3) (by simp; omega), callS_canon, callL_canon, Option.map_some, Option.bind_some, shape_one, shape_agg, shape_nil, cellsAt_0, cellsAt_1, cellsAt_2, cellsAt_3, cells_one, cells_agg, cB_zero, cI_zero, cS_zero, cC_zero, cB_cons, cI_cons, cS_cons, cC_cons, cond_true, cond_false, List.length_cons, List.length_nil, beq_self_eq_true, Bool.and_true, Bool.true_and, lenC_encL, lenC_lst, deref_ref, emptyK_nil, bs_size, bs_toList]
      | false =>
        cases h5 : sufB [46, 46, 46] s with
        | true =>
          have : 3 ≤ s.length := by simp [sufB] at h5; omega
          have e1 := subS_bs s 0 (s.length - 3) (by omega) (by omega)
          rw [List.drop_zero, show ((0 : Nat) : Int) = 0 from rfl] at e1
          simp only [cond_true, cond_false]
          rw [show IntKind.i64.wrap ((s.length : Int) - 3) = ((s.length - 3 : Nat) : Int) from wrap_sub (n := s.length) (k := 3) (by omega) (by omega), e1]
          simp only [z (s.take (s.length - 3)) (by simp; omega), callS_canon, callL_canon, Option.map_some, Option.bind_some, shape_one, shape_agg, shape_nil, cellsAt_0, cellsAt_1, cellsAt_2, cellsAt_3, cells_one, cells_agg, cB_zero, cI_zero, cS_zero, cC_zero, cB_cons, cI_cons, cS_cons, cC_cons, cond_true, cond_false, List.length_cons, List.length_nil, beq_self_eq_true, Bool.and_true, Bool.true_and, lenC_encL, lenC_lst, deref_ref, emptyK_nil, bs_size, bs_toList]
        | false =>
          simp only [cond_false]
          rw [show decide ((s.length : Int) ≤ 20) = decide (s.length ≤ 20) from n_le _ 20]
          unfold sinceS
          cases s == [91, 115, 105, 110, 99, 101, 93] <;> cases pieceOk s <;> rfl
theorem c_spec_l14One (s : Str) (hs : s.length ≤ 1048576) : out run_spec_l14One [.one (Cell.str (bs s))] = some [.one (Cell.bool (oneOk s))] :=
  out_of (H := []) (lim_of (r_spec_l14One s.length s (Nat.le_refl _) hs 0))
theorem c_spec_FilterOk (s : Str) (hs : s.length ≤ 1048576) : out run_spec_FilterOk [.one (Cell.str (bs s))] = some [.one (Cell.bool (filterOk s))] := by
  have hM := maxLen_eq
  have e0 : outL run_spec_Split [.one (Cell.str (bs s)), .one (.sc (.int .u8 32))] = some [.one (strsC (split 32 s))] := c_spec_Split s 32 (by omega)
  have hl := splitGo_length 32 s []
  have hlen : ∀ x ∈ split 32 s, x.length ≤ 1048576 := fun x hx => Nat.le_trans (hl.2 x hx) (by simp; omega)
  have hll : (split 32 s).length ≤ s.length + 1 := hl.1
  unfold filterOk
  generalize split 32 s = W at *
  refine out_of (H := []) (run_spec_FilterOk_of (W.length + 1) ?_)
  simp only [spec_FilterOk, e0, callS_canon, callL_canon, Option.map_some, Option.bind_some, shape_one, shape_agg, shape_nil, cellsAt_0, cellsAt_1, cellsAt_2, cellsAt_3, cells_one, cells_agg, cB_zero, cI_zero, cS_zero, cC_zero, cB_cons, cI_cons, cS_cons, cC_cons, cond_true, cond_false, List.length_cons, List.length_nil, beq_self_eq_true, Bool.and_true, Bool.true_and, lenC_encL, lenC_lst, deref_ref, emptyK_nil, bs_size, bs_toList]
  rw [loop_all W (fun n i => spec_FilterOk_l0 (W.length + 1 + 1) (W.length + 1 + 1) n (strsC W) i []) oneOk (some ([.one (Cell.bool (decide (W.length ≤ 4)))], [])) (some ([.one (Cell.bool false)], [])) ?_ ?_ _ (by omega)]
  · exact leafC _ _ _
  · intro n i x hx hlt
    simp only [spec_FilterOk_l0, lenC_encL, idxA_encL, hx, eStr, c_spec_l14One x (hlen x (List.mem_of_getElem? hx)), callS_canon, callL_canon, Option.map_some, Option.bind_some, shape_one, shape_agg, shape_nil, cellsAt_0, cellsAt_1, cellsAt_2, cellsAt_3, cells_one, cells_agg, cB_zero, cI_zero, cS_zero, cC_zero, cB_cons, cI_cons, cS_cons, cC_cons, cond_true, cond_false, List.length_cons, List.length_nil, beq_self_eq_true, Bool.and_true, Bool.true_and, lenC_encL, lenC_lst, deref_ref, emptyK_nil, bs_size, bs_toList]
    rw [decide_eq_true (by omega), cond_true, wrap_succ (by omega)]
    cases oneOk x <;> rfl
  · intro n
    simp only [spec_FilterOk_l0, lenC_encL, callS_canon, callL_canon, Option.map_some, Option.bind_some, shape_one, shape_agg, shape_nil, cellsAt_0, cellsAt_1, cellsAt_2, cellsAt_3, cells_one, cells_agg, cB_zero, cI_zero, cS_zero, cC_zero, cB_cons, cI_cons, cS_cons, cC_cons, cond_true, cond_false, List.length_cons, List.length_nil, beq_self_eq_true, Bool.and_true, Bool.true_and, lenC_encL, lenC_lst, deref_ref, emptyK_nil, bs_size, bs_toList]
    rw [decide_eq_false (by omega), cond_false, show decide ((W.length : Int) ≤ 4) = decide (W.length ≤ 4) from n_le W.length 4]
theorem callF_nil {p : Run} {args vs : List AV} {E H : List Entry} {f : Bool} (ha : mapO (reifyAV false H) args = some vs) (h : p vs [] = some ([.one (.lst f 1 [])], E)) : ∃ T, callF p args H = some ([.one (.lst f 1 [])], H ++ T) := by
  refine ⟨(clean (reachL ([.one (.lst f 1 [])], E)) E).map (shiftE H.length), ?_⟩
  simp [callF, ha, h, ownOk, okD, shiftC, AV.cells]
theorem n_impl_less (f g : Bool) (H : List Entry) : ∃ T, callF run_impl_less [.one (.lst f 1 []), .one (.lst g 1 [])] H = some ([.one (.lst true 1 [])], H ++ T) := by
  refine callF_nil (vs := [.one (strsC []), .one (strsC [])]) (E := []) (mapO_c (reify_rows f [] H) (mapO_c (reify_rows g [] H) (mapO_nil' _))) (run_impl_less_of 0 ?_)
  simp only [impl_less, lenC_encL, Option.bind_some, impl_less_l0, List.length_nil]
  rfl
theorem n_impl_Sorted (f : Bool) (H : List Entry) : ∃ T, callF run_impl_Sorted [.one (.lst f 1 [])] H = some ([.one (.lst true 1 [])], H ++ T) := by
  obtain ⟨E, e1⟩ : ∃ T, callF run_slices_Clone_string [.one (strsC [])] [] = some ([.one (.lst true 1 [])], [] ++ T) := by
    refine callF_nil (vs := [.one (strsC [])]) (E := []) (mapO_canon [.one (strsC [])] _ _) (run_slices_Clone_string_of 0 ?_)
    simp [slices_Clone_string, nilC, encL, both, srcRows, rowsOf, app]
  have h2 : run_slices_Sort_string [.one (.lst true 1 [])] ([] ++ E) = some ([], [] ++ E) := rfl
  have h3 : run_slices_Compact_string [.one (.lst true 1 [])] ([] ++ E) = some ([.one (.lst true 1 [])], [] ++ E) := rfl
  have h4 : run_slices_Clip_string [.one (.lst true 1 [])] ([] ++ E) = some ([.one (.lst true 1 [])], [] ++ E) := run_slices_Clip_string_of 0 (by simp [slices_Clip_string, slcC, fullOf])
  refine callF_nil (vs := [.one (strsC [])]) (E := [] ++ E) (mapO_c (reify_rows f [] H) (mapO_nil' _)) (run_impl_Sorted_of 0 ?_)
  simp only [impl_Sorted, e1, h2, h3, h4, callS_canon, callL_canon, Option.map_some, Option.bind_some, shape_one, shape_agg, shape_nil, cellsAt_0, cellsAt_1, cellsAt_2, cellsAt_3, cells_one, cells_agg, cB_zero, cI_zero, cS_zero, cC_zero, cB_cons, cI_cons, cS_cons, cC_cons, cond_true, cond_false, List.length_cons, List.length_nil, beq_self_eq_true, Bool.and_true, Bool.true_and, lenC_encL, lenC_lst, deref_ref, emptyK_nil, bs_size, bs_toList]
/-- A sieve of nothing. -/
def Void (H : List Entry) : Prop := H[0]? = some (Entry.mk 2 [[.lst true 4 [], .lst true 1 []]] 0 false)
theorem Void.app {H : List Entry} (h : Void H) (T : List Entry) : Void (H ++ T) := by
  have := (List.getElem?_eq_some_iff.1 h).1
  unfold Void
  rw [List.getElem?_append_left this]
  exact h
theorem n_impl_sieve_all {H : List Entry} (h : Void H) : run_impl_sieve_all [.one (.ptr 0 2 0 0 0)] H = some ([.one (.lst true 1 [])], H) := by
  refine run_impl_sieve_all_of 0 ?_
  unfold Void at h
  simp [impl_sieve_all, impl_sieve_all_l0, ptrC, fldA, deref, entry?, h, cC, lenC]
theorem n_impl_sieve_owners {H : List Entry} (h : Void H) : ∃ T, run_impl_sieve_owners [.one (.ptr 0 2 0 0 0)] H = some ([.one (.lst true 1 [])], H ++ T) := by
  obtain ⟨T, e1⟩ := n_impl_Sorted true H
  refine ⟨T, run_impl_sieve_owners_of 0 ?_⟩
  unfold Void at h
  simp [impl_sieve_owners, impl_sieve_owners_l0, ptrC, fldA, deref, entry?, h, cC, lenC, e1, shapeOk, cellsAt, AV.cells]
theorem n_impl_with_impl_graph_by (f : Bool) (q : Cell) (H : List Entry) : ∃ T, run_impl_with [.one (.lst f 1 []), .one (.fn fid_impl_graph_by [q] [])] H = some ([.one (.lst true 1 [])], H ++ T) := by
  obtain ⟨T1, e1⟩ : ∃ T, callF run_slices_Clone_string [.one (.lst f 1 [])] H = some ([.one (.lst true 1 [])], H ++ T) := by
    refine callF_nil (vs := [.one (strsC [])]) (E := []) (mapO_c (reify_rows f [] H) (mapO_nil' _)) (run_slices_Clone_string_of 0 ?_)
    simp [slices_Clone_string, nilC, encL, both, srcRows, rowsOf, app]
  obtain ⟨T, e2⟩ := n_impl_Sorted true (H ++ T1)
  refine ⟨T1 ++ T, run_impl_with_impl_graph_by_of 0 ?_⟩
  simp only [impl_with_impl_graph_by, impl_with_impl_graph_by_l0, e1, lenC, callS_canon, callL_canon, Option.map_some, Option.bind_some, shape_one, shape_agg, shape_nil, cellsAt_0, cellsAt_1, cellsAt_2, cellsAt_3, cells_one, cells_agg, cB_zero, cI_zero, cS_zero, cC_zero, cB_cons, cI_cons, cS_cons, cC_cons, cond_true, cond_false, List.length_cons, List.length_nil, beq_self_eq_true, Bool.and_true, Bool.true_and, lenC_encL, lenC_lst, deref_ref, emptyK_nil, bs_size, bs_toList]
  rw [decide_eq_false (by simp), cond_false, e2]
  simp [shapeOk, cellsAt, AV.cells, cC]
theorem n_impl_with_impl_graph_onOf (f : Bool) (q : Cell) (H : List Entry) : ∃ T, run_impl_with [.one (.lst f 1 []), .one (.fn fid_impl_graph_onOf [q] [])] H = some ([.one (.lst true 1 [])], H ++ T) := by
  obtain ⟨T1, e1⟩ : ∃ T, callF run_slices_Clone_string [.one (.lst f 1 [])] H = some ([.one (.lst true 1 [])], H ++ T) := by
    refine callF_nil (vs := [.one (strsC [])]) (E := []) (mapO_c (reify_rows f [] H) (mapO_nil' _)) (run_slices_Clone_string_of 0 ?_)
    simp [slices_Clone_string, nilC, encL, both, srcRows, rowsOf, app]
  obtain ⟨T, e2⟩ := n_impl_Sorted true (H ++ T1)
  refine ⟨T1 ++ T, run_impl_with_impl_graph_onOf_of 0 ?_⟩
  simp only [impl_with_impl_graph_onOf, impl_with_impl_graph_onOf_l0, e1, lenC, callS_canon, callL_canon, Option.map_some, Option.bind_some, shape_one, shape_agg, shape_nil, cellsAt_0, cellsAt_1, cellsAt_2, cellsAt_3, cells_one, cells_agg, cB_zero, cI_zero, cS_zero, cC_zero, cB_cons, cI_cons, cS_cons, cC_cons, cond_true, cond_false, List.length_cons, List.length_nil, beq_self_eq_true, Bool.and_true, Bool.true_and, lenC_encL, lenC_lst, deref_ref, emptyK_nil, bs_size, bs_toList]
  rw [decide_eq_false (by simp), cond_false, e2]
  simp [shapeOk, cellsAt, AV.cells, cC]
theorem n_impl_sieve_one : ∀ (d : Nat) (s : Str), s.length ≤ d → d ≤ 1048576 → ∀ k H, Void H → ∃ f T, evF G_impl_sieve_one (k + d + 2) fid_impl_sieve_one [.one (.ptr 0 2 0 0 0), .one (Cell.str (bs s))] H = some ([.one (.lst f 1 []), .one (Cell.bool (oneGo d s))], H ++ T) := by
  have hM := maxLen_eq
  have hg : ∀ H, run_impl_graphOf [.one (.lst true 4 [])] H = some ([.one (.ptr H.length 2 0 0 0)], H ++ [Entry.mk 2 [[.lst true 1 [], .lst true 1 []]] 0 false]) := fun H => run_impl_graphOf_of 0 (by simp [impl_graphOf, impl_graphOf_l0, lenC])
  have hv : ∀ H, Void H → deref H (.ptr 0 2 0 0 0) = some ([.lst true 4 [], .lst true 1 []], 0) := fun H h => by
    unfold Void at h
    simp [deref, entry?, h]
  have hl0 : ∀ k m n b H, impl_sieve_one_l0 k m (n + 1) b (.lst true 1 []) (.lst true 1 []) ((0 : Nat) : Int) 0 H = some ([.one (.lst true 1 []), .one (Cell.bool true)], H) := by
    intros
    simp [impl_sieve_one_l0]
  -- what is asked at the end
  have fin : ∀ (s : Str), s.length ≤ 1048576 → ∀ (H q : List Entry), Void H → ∃ f T, cond (s == sinceS)
      ((run_impl_sieve_owners [AV.one (Cell.ptr 0 2 0 0 0)] H).bind fun r35 => cond (shapeOk rk_impl_sieve_owners r35.1) ((cC (cellsAt r35.1 0) 0).bind fun c36 => some ([AV.one (c36), AV.one (Cell.bool true)], r35.2)) none)
      (cond (decide ((s.length : Int) > 20)) (some ([AV.one (Cell.lst true 1 []), AV.one (Cell.bool false)], H))
        (cond (decide (47 ∈ s)) (some ([AV.one (Cell.lst true 1 []), AV.one (Cell.bool false)], H))
          (cond (!globOk s) (some ([AV.one (Cell.lst true 1 []), AV.one (Cell.bool false)], H)) (some ([AV.one (Cell.lst true 1 []), AV.one (Cell.bool true)], H ++ q))))) = some ([AV.one (Cell.lst f 1 []), AV.one (Cell.bool (plainF s))], H ++ T) := by
    intro s hs H q hH
    cases h : s == sinceS with
    | true =>
      obtain ⟨T, e1⟩ := n_impl_sieve_owners hH
      refine ⟨true, T, ?_⟩
      rw [e1]
      simp [plainF, h, shapeOk, cellsAt, AV.cells, cC]
    | false =>
      rw [plainF_eq s h, cond_false, show decide ((s.length : Int) > 20) = !decide (s.length ≤ 20) from by
        rw [← decide_not, decide_eq_decide]
        omega]
      cases decide (s.length ≤ 20) with
      | false => exact ⟨true, [], by simp⟩
      | true =>
        cases decide (47 ∈ s) with
        | true => exact ⟨true, [], by simp⟩
        | false =>
          cases globOk s with
          | false => exact ⟨true, [], by simp⟩
          | true => exact ⟨true, q, by simp⟩
  intro d
  induction d with
  | zero =>
    intro s h1 h2 k H hH
    have : s = [] := List.eq_nil_of_length_eq_zero (by omega)
    subst this
    have hH1 := hH.app [Entry.mk 2 [[.lst true 1 [], .lst true 1 []]] 0 false]
    obtain ⟨f, T, e1⟩ := fin [] (by simp) (H ++ [Entry.mk 2 [[.lst true 1 [], .lst true 1 []]] 0 false]) [] hH1
    refine ⟨f, [Entry.mk 2 [[.lst true 1 [], .lst true 1 []]] 0 false] ++ T, ?_⟩
    rw [← List.append_assoc, show oneGo 0 [] = plainF [] from rfl, ← e1, Nat.add_zero, impl_sieve_one_eq]
    simp only [impl_sieve_one, ptrC, fldA_ptr, Nat.zero_add, hv H hH, hg, c_strings_HasPrefix, c_strings_HasSuffix [] _ (by simp), c_strings_Contains, c_impl_GlobOk [] (by simp), n_impl_sieve_all hH1, callS_canon, callL_canon, Option.map_some, Option.bind_some, shape_one, shape_agg, shape_nil, cellsAt_0, cellsAt_1, cellsAt_2, cellsAt_3, cells_one, cells_agg, cB_zero, cI_zero, cS_zero, cC_zero, cB_cons, cI_cons, cS_cons, cC_cons, cond_true, cond_false, List.length_cons, List.length_nil, beq_self_eq_true, Bool.and_true, Bool.true_and, lenC_encL, lenC_lst, deref_ref, emptyK_nil, bs_size, bs_toList]
    rfl
  | succ d ih =>
    intro s h1 h2 k H hH
    have hH1 := hH.app [Entry.mk 2 [[.lst true 1 [], .lst true 1 []]] 0 false]
    obtain ⟨f, T, e1⟩ := fin s (by omega) (H ++ [Entry.mk 2 [[.lst true 1 [], .lst true 1 []]] 0 false]) [] hH1
    rw [show k + (d + 1) + 2 = (k + d + 1) + 2 by omega, impl_sieve_one_eq]
    unfold oneGo
    simp only [impl_sieve_one, ptrC, fldA_ptr, Nat.zero_add, hv H hH, hg, c_strings_HasPrefix, c_strings_HasSuffix s _ (by omega), c_strings_Contains, c_impl_GlobOk s (by omega), n_impl_sieve_all hH1, callS_canon, callL_canon, Option.map_some, Option.bind_some, shape_one, shape_agg, shape_nil, cellsAt_0, cellsAt_1, cellsAt_2, cellsAt_3, cells_one, cells_agg, cB_zero, cI_zero, cS_zero, cC_zero, cB_cons, cI_cons, cS_cons, cC_cons, cond_true, cond_false, List.length_cons, List.length_nil, beq_self_eq_true, Bool.and_true, Bool.true_and, lenC_encL, lenC_lst, deref_ref, emptyK_nil, bs_size, bs_toList]
    cases h3 : List.isPrefixOf [33] s with
    | true =>
      have := (List.isPrefixOf_iff_prefix.1 h3).length_le
      simp only [List.length_cons, List.length_nil] at this
      have e2 := subS_bs s 1 s.length (by omega) (Nat.le_refl _)
      rw [List.take_length, show ((1 : Nat) : Int) = 1 from rfl] at e2
      obtain ⟨f1, T1, e3⟩ := ih (s.drop 1) (by simp; omega) (by omega) k _ hH1
      obtain ⟨T2, e4⟩ := n_impl_less true f1 (H ++ [Entry.mk 2 [[.lst true 1 [], .lst true 1 []]] 0 false] ++ T1)
      refine ⟨true, [Entry.mk 2 [[.lst true 1 [], .lst true 1 []]] 0 false] ++ T1 ++ T2, ?_⟩
      simp only [cond_true, e2, show k + d + 1 + 1 = k + d + 2 by omega, e3, n_impl_sieve_all (hH1.app T1), e4, callS_canon, callL_canon, Option.map_some, Option.bind_some, shape_one, shape_agg, shape_nil, cellsAt_0, cellsAt_1, cellsAt_2, cellsAt_3, cells_one, cells_agg, cB_zero, cI_zero, cS_zero, cC_zero, cB_cons, cI_cons, cS_cons, cC_cons, cond_true, cond_false, List.length_cons, List.length_nil, beq_self_eq_true, Bool.and_true, Bool.true_and, lenC_encL, lenC_lst, deref_ref, emptyK_nil, bs_size, bs_toList]
      simp
    | false =>
      cases h4 : List.isPrefixOf [46, 46, 46] s with
      | true =>
        have := (List.isPrefixOf_iff_prefix.1 h4).length_le
        simp only [List.length_cons, List.length_nil] at this
        have e2 := subS_bs s 3 s.length (by omega) (Nat.le_refl _)
        rw [List.take_length, show ((3 : Nat) : Int) = 3 from rfl] at e2
        obtain ⟨f1, T1, e3⟩ := ih (s.drop 3) (by simp; omega) (by omega) k _ hH1
        obtain ⟨T2, e4⟩ := n_impl_with_impl_graph_by f1 (.ptr H.length 2 0 0 0) (H ++ [Entry.mk 2 [[.lst true 1 [], .lst true 1 []]] 0 false] ++ T1)
        refine ⟨true, [Entry.mk 2 [[.lst true 1 [], .lst true 1 []]] 0 false] ++ T1 ++ T2, ?_⟩
        simp only [cond_true, cond_false, e2, show k + d + 1 + 1 = k + d + 2 by omega, e3, e4, dotS, h4, callS_canon, callL_canon, Option.map_some, Option.bind_some, shape_one, shape_agg, shape_nil, cellsAt_0, cellsAt_1, cellsAt_2, cellsAt_3, cells_one, cells_agg, cB_zero, cI_zero, cS_zero, cC_zero, cB_cons, cI_cons, cS_cons, cC_cons, cond_true, cond_false, List.length_cons, List.length_nil, beq_self_eq_true, Bool.and_true, Bool.true_and, lenC_encL, lenC_lst, deref_ref, emptyK_nil, bs_size, bs_toList]
        simp
      | false =>
        cases h5 : sufB [46, 46, 46] s with
        | true =>
          have : 3 ≤ s.length := by simp [sufB] at h5; omega
          have e2 := subS_bs s 0 (s.length - 3) (by omega) (by omega)
          rw [List.drop_zero, show ((0 : Nat) : Int) = 0 from rfl] at e2
          obtain ⟨f1, T1, e3⟩ := ih (s.take (s.length - 3)) (by simp; omega) (by omega) k _ hH1
          obtain ⟨T2, e4⟩ := n_impl_with_impl_graph_onOf f1 (.ptr H.length 2 0 0 0) (H ++ [Entry.mk 2 [[.lst true 1 [], .lst true 1 []]] 0 false] ++ T1)
          refine ⟨true, [Entry.mk 2 [[.lst true 1 [], .lst true 1 []]] 0 false] ++ T1 ++ T2, ?_⟩
          simp only [cond_true, cond_false, dotS, h4, h5]
          rw [show IntKind.i64.wrap ((s.length : Int) - 3) = ((s.length - 3 : Nat) : Int) from wrap_sub (n := s.length) (k := 3) (by omega) (by omega), e2]
          simp only [show k + d + 1 + 1 = k + d + 2 by omega, e3, e4, callS_canon, callL_canon, Option.map_some, Option.bind_some, shape_one, shape_agg, shape_nil, cellsAt_0, cellsAt_1, cellsAt_2, cellsAt_3, cells_one, cells_agg, cB_zero, cI_zero, cS_zero, cC_zero, cB_cons, cI_cons, cS_cons, cC_cons, cond_true, cond_false, List.length_cons, List.length_nil, beq_self_eq_true, Bool.and_true, Bool.true_and, lenC_encL, lenC_lst, deref_ref, emptyK_nil, bs_size, bs_toList]
          simp
        | false =>
          refine ⟨f, [Entry.mk 2 [[.lst true 1 [], .lst true 1 []]] 0 false] ++ T, ?_⟩
          simp only [dotS, h4, h5, cond_false]
          rw [← List.append_assoc, ← e1, hl0, List.append_nil]
          rfl
theorem n_impl_sieve_oneR (s : Str) (hs : s.length ≤ 1048576) (H : List Entry) (hH : Void H) : ∃ f T, run_impl_sieve_one [.one (.ptr 0 2 0 0 0), .one (Cell.str (bs s))] H = some ([.one (.lst f 1 []), .one (Cell.bool (oneOk s))], H ++ T) := by
  obtain ⟨f, T, h⟩ := n_impl_sieve_one s.length s (Nat.le_refl _) hs 0 H hH
  exact ⟨f, T, lim_of h⟩
theorem oneOk_not {s : Str} (h : List.isPrefixOf [33] s = true) : oneOk (s.drop 1) = oneOk s := by
  have := (List.isPrefixOf_iff_prefix.1 h).length_le
  simp only [List.length_cons, List.length_nil] at this
  unfold oneOk
  obtain ⟨d, hd⟩ : ∃ d, s.length = d + 1 := ⟨s.length - 1, by omega⟩
  have hs : oneGo (d + 1) s = oneGo d (s.drop 1) := by simp only [oneGo, h, cond_true]
  rw [hd, hs]
  exact oneGo_ge (s.drop 1).length d (s.drop 1) (Nat.le_refl _) (by rw [List.length_drop]; omega)
theorem n_filter (W : List Str) (hW : ∀ x ∈ W, x.length ≤ 1048576) (hl : W.length ≤ 1048577) (k m : Nat) : ∀ (r : List Str) (i n : Nat) (H : List Entry) (f : Bool), W.drop i = r → r.length < n → Void H →
    ∃ f' T, impl_sieve_filter_l0 k m n (.ptr 0 2 0 0 0) (.lst f 1 []) (strsC W) W.length i H = some ([.one (.lst f' 1 []), .one (Cell.bool (r.all oneOk))], H ++ T) := by
  have hM := maxLen_eq
  have hs : ∀ (H : List Entry) (f : Bool), srcRows H 1 (.lst f 1 []) = some [] := fun H f => by simp [srcRows, rowsOf]
  have ha : ∀ (H : List Entry) (f : Bool), app H 1 16 (.lst f 1 []) [] = some (.lst f 1 [], H) := fun H f => by simp [app]
  intro r
  induction r with
  | nil =>
    intro i n H f hd hn hH
    obtain ⟨n, rfl⟩ : ∃ q, n = q + 1 := ⟨n - 1, by omega⟩
    have := drop_nil hd
    obtain ⟨T, e1⟩ := n_impl_Sorted f H
    refine ⟨true, T, ?_⟩
    simp only [impl_sieve_filter_l0]
    rw [decide_eq_false (by omega), cond_false]
    simp only [e1, callS_canon, callL_canon, Option.map_some, Option.bind_some, shape_one, shape_agg, shape_nil, cellsAt_0, cellsAt_1, cellsAt_2, cellsAt_3, cells_one, cells_agg, cB_zero, cI_zero, cS_zero, cC_zero, cB_cons, cI_cons, cS_cons, cC_cons, cond_true, cond_false, List.length_cons, List.length_nil, beq_self_eq_true, Bool.and_true, Bool.true_and, lenC_encL, lenC_lst, deref_ref, emptyK_nil, bs_size, bs_toList, List.all_nil]
  | cons x r ih =>
    intro i n H f hd hn hH
    obtain ⟨n, rfl⟩ : ∃ q, n = q + 1 := ⟨n - 1, by omega⟩
    obtain ⟨hlt, hx, hd'⟩ := drop_cons hd
    simp only [List.length_cons] at hn
    have hxl : x.length ≤ 1048576 := hW x (List.mem_of_getElem? hx)
    -- a filter that stands, and one that is taken away
    have plain : ∃ f' T, ((run_impl_sieve_one [.one (.ptr 0 2 0 0 0), .one (Cell.str (bs x))] H).bind fun r19 =>
        cond (shapeOk rk_impl_sieve_one r19.1)
        ((cC (cellsAt r19.1 0) 0).bind fun c20 =>
        (cB (cellsAt r19.1 1) 0).bind fun b21 =>
        cond (!b21)
        (some ([AV.one (.lst true 1 []), AV.one (Cell.bool false)], r19.2))
        ((srcRows r19.2 1 c20).bind fun r22 =>
        (app r19.2 1 16 (Cell.lst f 1 []) r22).bind fun p23 =>
        impl_sieve_filter_l0 k m n (Cell.ptr 0 2 0 0 0) (p23.1) (strsC W) W.length (IntKind.i64.wrap ((i : Int) + 1)) p23.2))
        none) = some ([AV.one (Cell.lst f' 1 []), AV.one (Cell.bool (oneOk x && r.all oneOk))], H ++ T) := by
      obtain ⟨f1, T1, e1⟩ := n_impl_sieve_oneR x hxl H hH
      cases ho : oneOk x with
      | false =>
        refine ⟨true, T1, ?_⟩
        simp only [e1, ho, callS_canon, callL_canon, Option.map_some, Option.bind_some, shape_one, shape_agg, shape_nil, cellsAt_0, cellsAt_1, cellsAt_2, cellsAt_3, cells_one, cells_agg, cB_zero, cI_zero, cS_zero, cC_zero, cB_cons, cI_cons, cS_cons, cC_cons, cond_true, cond_false, List.length_cons, List.length_nil, beq_self_eq_true, Bool.and_true, Bool.true_and, lenC_encL, lenC_lst, deref_ref, emptyK_nil, bs_size, bs_toList]
        rfl
      | true =>
        obtain ⟨f2, T2, e2⟩ := ih (i + 1) n (H ++ T1) f hd' (by omega) (hH.app T1)
        refine ⟨f2, T1 ++ T2, ?_⟩
        simp only [e1, ho, hs, ha, callS_canon, callL_canon, Option.map_some, Option.bind_some, shape_one, shape_agg, shape_nil, cellsAt_0, cellsAt_1, cellsAt_2, cellsAt_3, cells_one, cells_agg, cB_zero, cI_zero, cS_zero, cC_zero, cB_cons, cI_cons, cS_cons, cC_cons, cond_true, cond_false, List.length_cons, List.length_nil, beq_self_eq_true, Bool.and_true, Bool.true_and, lenC_encL, lenC_lst, deref_ref, emptyK_nil, bs_size, bs_toList, Bool.not_true, cond_false]
        rw [wrap_succ (by omega), e2]
        simp
    rw [List.all_cons]
    simp only [impl_sieve_filter_l0]
    rw [decide_eq_true (by omega), cond_true]
    simp only [idxA_encL, hx, eStr, c_strings_CutPrefix, callS_canon, callL_canon, Option.map_some, Option.bind_some, shape_one, shape_agg, shape_nil, cellsAt_0, cellsAt_1, cellsAt_2, cellsAt_3, cells_one, cells_agg, cB_zero, cI_zero, cS_zero, cC_zero, cB_cons, cI_cons, cS_cons, cC_cons, cond_true, cond_false, List.length_cons, List.length_nil, beq_self_eq_true, Bool.and_true, Bool.true_and, lenC_encL, lenC_lst, deref_ref, emptyK_nil, bs_size, bs_toList]
    cases hi : ((i : Int) == 0) with
    | true => rw [cond_true]; exact plain
    | false =>
      rw [cond_false]
      cases hp : List.isPrefixOf [33] x with
      | false => simp only [Bool.not_false, cond_true]; exact plain
      | true =>
        have ht : trimP [33] x = x.drop 1 := by simp [trimP, hp]
        obtain ⟨f1, T1, e1⟩ := n_impl_sieve_oneR (x.drop 1) (by simp; omega) H hH
        rw [oneOk_not hp] at e1
        rw [ht, Bool.not_true, cond_false]
        cases ho : oneOk x with
        | false =>
          refine ⟨true, T1, ?_⟩
          simp only [e1, ho, callS_canon, callL_canon, Option.map_some, Option.bind_some, shape_one, shape_agg, shape_nil, cellsAt_0, cellsAt_1, cellsAt_2, cellsAt_3, cells_one, cells_agg, cB_zero, cI_zero, cS_zero, cC_zero, cB_cons, cI_cons, cS_cons, cC_cons, cond_true, cond_false, List.length_cons, List.length_nil, beq_self_eq_true, Bool.and_true, Bool.true_and, lenC_encL, lenC_lst, deref_ref, emptyK_nil, bs_size, bs_toList]
          rfl
        | true =>
          obtain ⟨T2, e3⟩ := n_impl_less f f1 (H ++ T1)
          obtain ⟨f2, T3, e2⟩ := ih (i + 1) n (H ++ T1 ++ T2) true hd' (by omega) ((hH.app T1).app T2)
          refine ⟨f2, T1 ++ T2 ++ T3, ?_⟩
          simp only [e1, ho, e3, callS_canon, callL_canon, Option.map_some, Option.bind_some, shape_one, shape_agg, shape_nil, cellsAt_0, cellsAt_1, cellsAt_2, cellsAt_3, cells_one, cells_agg, cB_zero, cI_zero, cS_zero, cC_zero, cB_cons, cI_cons, cS_cons, cC_cons, cond_true, cond_false, List.length_cons, List.length_nil, beq_self_eq_true, Bool.and_true, Bool.true_and, lenC_encL, lenC_lst, deref_ref, emptyK_nil, bs_size, bs_toList, Bool.not_true, cond_false, cond_true]
          rw [wrap_succ (by omega), e2]
          simp
theorem c_impl_FilterOk (s : Str) (hs : s.length ≤ 1048576) : out run_impl_FilterOk [.one (Cell.str (bs s))] = some [.one (Cell.bool (filterOk s))] := by
  have hM := maxLen_eq
  have e0 := c_strings_Split s 32 (by omega)
  have hl := splitGo_length 32 s []
  have hlen : ∀ x ∈ split 32 s, x.length ≤ 1048576 := fun x hx => Nat.le_trans (hl.2 x hx) (by simp; omega)
  have hll : (split 32 s).length ≤ s.length + 1 := hl.1
  have hH : Void [Entry.mk 2 [[.lst true 4 [], .lst true 1 []]] 0 false] := rfl
  obtain ⟨f, T, e1⟩ : ∃ f T, run_impl_sieve_filter [.one (.ptr 0 2 0 0 0), .one (Cell.str (bs s))] [Entry.mk 2 [[.lst true 4 [], .lst true 1 []]] 0 false] = some ([.one (.lst f 1 []), .one (Cell.bool (filterOk s))], [Entry.mk 2 [[.lst true 4 [], .lst true 1 []]] 0 false] ++ T) := by
    unfold filterOk
    generalize split 32 s = W at *
    obtain ⟨f, T, e1⟩ := n_filter W hlen (by omega) (W.length + 1 + 1) (W.length + 1 + 1) W 0 (W.length + 1 + 1) _ true rfl (by omega) hH
    by_cases h4 : W.length ≤ 4
    · refine ⟨f, T, run_impl_sieve_filter_of (W.length + 1) ?_⟩
      simp only [impl_sieve_filter, e0, lenC_encL, callS_canon, callL_canon, Option.map_some, Option.bind_some, shape_one, shape_agg, shape_nil, cellsAt_0, cellsAt_1, cellsAt_2, cellsAt_3, cells_one, cells_agg, cB_zero, cI_zero, cS_zero, cC_zero, cB_cons, cI_cons, cS_cons, cC_cons, cond_true, cond_false, List.length_cons, List.length_nil, beq_self_eq_true, Bool.and_true, Bool.true_and, lenC_encL, lenC_lst, deref_ref, emptyK_nil, bs_size, bs_toList]
      rw [decide_eq_false (by omega), cond_false, decide_eq_true h4, Bool.and_true]
      exact e1
    · refine ⟨true, [], run_impl_sieve_filter_of (W.length + 1) ?_⟩
      simp only [impl_sieve_filter, e0, lenC_encL, callS_canon, callL_canon, Option.map_some, Option.bind_some, shape_one, shape_agg, shape_nil, cellsAt_0, cellsAt_1, cellsAt_2, cellsAt_3, cells_one, cells_agg, cB_zero, cI_zero, cS_zero, cC_zero, cB_cons, cI_cons, cS_cons, cC_cons, cond_true, cond_false, List.length_cons, List.length_nil, beq_self_eq_true, Bool.and_true, Bool.true_and, lenC_encL, lenC_lst, deref_ref, emptyK_nil, bs_size, bs_toList]
      rw [decide_eq_true (by omega), cond_true, decide_eq_false h4, Bool.and_false, List.append_nil]
  refine out_of (H := [Entry.mk 2 [[.lst true 4 [], .lst true 1 []]] 0 false] ++ T) (run_impl_FilterOk_of 0 ?_)
  simp only [impl_FilterOk, e1, callS_canon, callL_canon, Option.map_some, Option.bind_some, shape_one, shape_agg, shape_nil, cellsAt_0, cellsAt_1, cellsAt_2, cellsAt_3, cells_one, cells_agg, cB_zero, cI_zero, cS_zero, cC_zero, cB_cons, cI_cons, cS_cons, cC_cons, cond_true, cond_false, List.length_cons, List.length_nil, beq_self_eq_true, Bool.and_true, Bool.true_and, lenC_encL, lenC_lst, deref_ref, emptyK_nil, bs_size, bs_toList]
theorem c_laws_FnExactFilterOk (s : Str) (hs : bdS maxLen s) : out run_laws_FnExactFilterOk [.one (Cell.str (bs s))] = some [.one (Cell.bool true)] := by
  refine out_of (H := []) (run_laws_FnExactFilterOk_of 0 ?_)
  simp only [laws_FnExactFilterOk, callS_canon, callL_canon, Option.map_some, Option.bind_some, shape_one, shape_agg, shape_nil, cellsAt_0, cellsAt_1, cellsAt_2, cellsAt_3, cells_one, cells_agg, cB_zero, cI_zero, cS_zero, cC_zero, cB_cons, cI_cons, cS_cons, cC_cons, cond_true, cond_false, List.length_cons, List.length_nil, beq_self_eq_true, Bool.and_true, Bool.true_and, lenC_encL, lenC_lst, deref_ref, emptyK_nil, bs_size, bs_toList]
  by_cases g : s.length ≤ 1048576
  · rw [decide_eq_false (by omega), cond_false]
    simp only [c_spec_FilterOk s (by omega), c_impl_FilterOk s (by omega), callS_canon, callL_canon, Option.map_some, Option.bind_some, shape_one, shape_agg, shape_nil, cellsAt_0, cellsAt_1, cellsAt_2, cellsAt_3, cells_one, cells_agg, cB_zero, cI_zero, cS_zero, cC_zero, cB_cons, cI_cons, cS_cons, cC_cons, cond_true, cond_false, List.length_cons, List.length_nil, beq_self_eq_true, Bool.and_true, Bool.true_and, lenC_encL, lenC_lst, deref_ref, emptyK_nil, bs_size, bs_toList]
    simp [shapeOk, cB, cellsAt, AV.cells]
  · rw [decide_eq_true (by omega), cond_true]
end Go.Ev
