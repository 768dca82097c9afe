/- What the functions come to (word). Conditions: none. -/
import Derived.Test.YtkpiaalieeacgaaKmade
set_option linter.unusedSimpArgs false
set_option linter.unusedVariables false
namespace Go.Ev
open Go
/-! names -/
def inR (x a b : Int) : Bool := decide (a ≤ x) && decide (x ≤ b)
def isSmall (b : UInt8) : Bool := inR b.toNat 97 122
def isFigure (b : UInt8) : Bool := inR b.toNat 48 57
def nameGo (first : Bool) : Str → Bool
  | [] => true
  | b :: r => (isSmall b || (!first && (isFigure b || b == 45))) && nameGo false r
def nameOk (s : Str) : Bool := nameGo true s && inR s.length 1 10
theorem u8_eq (b : UInt8) (n : Nat) (h : n < 256) : ((b.toNat : Int) == (n : Int)) = (b == UInt8.ofNat n) := by
  rw [Bool.eq_iff_iff]
  simp only [beq_iff_eq]
  constructor
  · intro e
    apply UInt8.toNat_inj.1
    have : (UInt8.ofNat n).toNat = n := by simp; omega
    omega
  · intro e
    have : (UInt8.ofNat n).toNat = n := by simp; omega
    rw [e, this]
theorem u8_ne (b : UInt8) (n : Nat) (h : n < 256) : ((b.toNat : Int) != (n : Int)) = (b != UInt8.ofNat n) := by
  simp only [bne, u8_eq b n h]
theorem u8_lt (b : UInt8) : (b.toNat : Int) < 256 := by have := b.toNat_lt; omega
theorem c_spec_l1In (x a b : Int) : out run_spec_l1In [.one (Cell.int x), .one (Cell.int a), .one (Cell.int b)] = some [.one (Cell.bool (inR x a b))] := by
  refine out_of (H := []) (run_spec_l1In_of 0 ?_)
  simp only [spec_l1In, inR]
  by_cases h : a ≤ x
  · rw [decide_eq_true (by omega : x ≥ a), cond_true, Bool.true_and]
  · rw [decide_eq_false (by omega : ¬ x ≥ a), cond_false, Bool.false_and]
theorem c_impl_inRange (x a b : Int) : out run_impl_inRange [.one (Cell.int x), .one (Cell.int a), .one (Cell.int b)] = some [.one (Cell.bool (inR x a b))] := by
  refine out_of (H := []) (run_impl_inRange_of 0 ?_)
  simp only [impl_inRange, inR]
  by_cases h : a ≤ x
  · rw [decide_eq_true (by omega : x ≥ a), cond_true, Bool.true_and]
  · rw [decide_eq_false (by omega : ¬ x ≥ a), cond_false, Bool.false_and]
theorem c_spec_l1Small (b : UInt8) : out run_spec_l1Small [.one (.sc (.int .u8 (b.toNat : Int)))] = some [.one (Cell.bool (isSmall b))] := by
  have := u8_lt b
  refine out_of (H := []) (run_spec_l1Small_of 0 ?_)
  simp only [spec_l1Small, wrap_small (n := (b.toNat : Int)) (by omega) (by omega), c_spec_l1In, callS_canon, callL_canon, Option.map_some, Option.bind_some, shape_one, shape_agg, shape_nil, cellsAt_0, cellsAt_1, cellsAt_2, cellsAt_3, cells_one, cells_agg, cB_zero, cI_zero, cS_zero, cC_zero, cB_cons, cI_cons, cS_cons, cC_cons, cond_true, cond_false, List.length_cons, List.length_nil, beq_self_eq_true, Bool.and_true, Bool.true_and, lenC_encL, lenC_lst, deref_ref, emptyK_nil, bs_size, bs_toList, isSmall]
theorem c_spec_l1Digit (b : UInt8) : out run_spec_l1Digit [.one (.sc (.int .u8 (b.toNat : Int)))] = some [.one (Cell.bool (isFigure b))] := by
  have := u8_lt b
  refine out_of (H := []) (run_spec_l1Digit_of 0 ?_)
  simp only [spec_l1Digit, wrap_small (n := (b.toNat : Int)) (by omega) (by omega), c_spec_l1In, callS_canon, callL_canon, Option.map_some, Option.bind_some, shape_one, shape_agg, shape_nil, cellsAt_0, cellsAt_1, cellsAt_2, cellsAt_3, cells_one, cells_agg, cB_zero, cI_zero, cS_zero, cC_zero, cB_cons, cI_cons, cS_cons, cC_cons, cond_true, cond_false, List.length_cons, List.length_nil, beq_self_eq_true, Bool.and_true, Bool.true_and, lenC_encL, lenC_lst, deref_ref, emptyK_nil, bs_size, bs_toList, isFigure]
theorem c_impl_isSmall (b : UInt8) : out run_impl_isSmall [.one (.sc (.int .u8 (b.toNat : Int)))] = some [.one (Cell.bool (isSmall b))] := by
  refine out_of (H := []) (run_impl_isSmall_of 0 ?_)
  simp only [impl_isSmall, isSmall, inR]
  by_cases h : (97 : Int) ≤ b.toNat
  · rw [decide_eq_true (by omega : (b.toNat : Int) ≥ 97), cond_true, Bool.true_and]
  · rw [decide_eq_false (by omega : ¬ (b.toNat : Int) ≥ 97), cond_false, Bool.false_and]
theorem c_impl_isFigure (b : UInt8) : out run_impl_isFigure [.one (.sc (.int .u8 (b.toNat : Int)))] = some [.one (Cell.bool (isFigure b))] := by
  refine out_of (H := []) (run_impl_isFigure_of 0 ?_)
  simp only [impl_isFigure, isFigure, inR]
  by_cases h : (48 : Int) ≤ b.toNat
  · rw [decide_eq_true (by omega : (b.toNat : Int) ≥ 48), cond_true, Bool.true_and]
  · rw [decide_eq_false (by omega : ¬ (b.toNat : Int) ≥ 48), cond_false, Bool.false_and]
theorem c_spec_NameOk (s : Str) (hs : s.length ≤ 1073741824) : out run_spec_NameOk [.one (Cell.str (bs s))] = some [.one (Cell.bool (nameOk s))] := by
  have hM := maxLen_eq
  have loop : ∀ (r : Str) (i n : Nat), s.drop i = r → r.length < n → ∀ k m, spec_NameOk_l0 k m n (bs s) i = some ([.one (Cell.bool (nameGo (i == 0) r && inR s.length 1 10))], []) := by
    intro r
    induction r with
    | nil =>
      intro i n hd hn k m
      obtain ⟨n, rfl⟩ : ∃ j, n = j + 1 := ⟨n - 1, by omega⟩
      have := drop_nil hd
      simp only [spec_NameOk_l0, bs_size]
      rw [decide_eq_false (by omega), cond_false]
      simp only [c_spec_l1In, callS_canon, callL_canon, Option.map_some, Option.bind_some, shape_one, shape_agg, shape_nil, cellsAt_0, cellsAt_1, cellsAt_2, cellsAt_3, cells_one, cells_agg, cB_zero, cI_zero, cS_zero, cC_zero, cB_cons, cI_cons, cS_cons, cC_cons, cond_true, cond_false, List.length_cons, List.length_nil, beq_self_eq_true, Bool.and_true, Bool.true_and, lenC_encL, lenC_lst, deref_ref, emptyK_nil, bs_size, bs_toList, nameGo]
    | cons b r ih =>
      intro i n hd hn k m
      obtain ⟨n, rfl⟩ : ∃ j, n = j + 1 := ⟨n - 1, by omega⟩
      obtain ⟨hlt, hg, hd'⟩ := drop_cons hd
      simp only [List.length_cons] at hn
      have hz : ((i : Int) == 0) = (i == 0) := by rw [Bool.eq_iff_iff]; simp
      simp only [spec_NameOk_l0, bytS_bs, hg, c_spec_l1Small, c_spec_l1Digit, callS_canon, callL_canon, Option.map_some, Option.bind_some, shape_one, shape_agg, shape_nil, cellsAt_0, cellsAt_1, cellsAt_2, cellsAt_3, cells_one, cells_agg, cB_zero, cI_zero, cS_zero, cC_zero, cB_cons, cI_cons, cS_cons, cC_cons, cond_true, cond_false, List.length_cons, List.length_nil, beq_self_eq_true, Bool.and_true, Bool.true_and, lenC_encL, lenC_lst, deref_ref, emptyK_nil, bs_size, bs_toList]
      rw [decide_eq_true (by omega), cond_true, wrap_succ (by omega), ih (i + 1) n hd' (by omega)]
      have h45 : ((b.toNat : Int) != 45) = !(b == 45) := u8_ne b 45 (by omega)
      simp only [nameGo, hz, show ((i + 1 : Nat) == 0) = false from rfl, h45]
      cases isSmall b <;> cases isFigure b <;> cases (b == 45) <;> cases (i == 0) <;> rfl
  refine out_of (H := []) (run_spec_NameOk_of (s.length + 1) ?_)
  have := loop s 0 (s.length + 1 + 1) rfl (by omega) (s.length + 1 + 1) (s.length + 1 + 1)
  simpa [spec_NameOk, nameOk] using this
theorem c_impl_NameOk (s : Str) (hs : s.length ≤ 1073741824) : out run_impl_NameOk [.one (Cell.str (bs s))] = some [.one (Cell.bool (nameOk s))] := by
  have hM := maxLen_eq
  have loop : ∀ (r : Str) (i n : Nat), s.drop i = r → r.length < n → ∀ k m, impl_NameOk_l0 k m n (bs s) i = some ([.one (Cell.bool (nameGo (i == 0) r && inR s.length 1 10))], []) := by
    intro r
    induction r with
    | nil =>
      intro i n hd hn k m
      obtain ⟨n, rfl⟩ : ∃ j, n = j + 1 := ⟨n - 1, by omega⟩
      have := drop_nil hd
      simp only [impl_NameOk_l0, bs_size]
      rw [decide_eq_false (by omega), cond_false]
      simp only [c_impl_inRange, callS_canon, callL_canon, Option.map_some, Option.bind_some, shape_one, shape_agg, shape_nil, cellsAt_0, cellsAt_1, cellsAt_2, cellsAt_3, cells_one, cells_agg, cB_zero, cI_zero, cS_zero, cC_zero, cB_cons, cI_cons, cS_cons, cC_cons, cond_true, cond_false, List.length_cons, List.length_nil, beq_self_eq_true, Bool.and_true, Bool.true_and, lenC_encL, lenC_lst, deref_ref, emptyK_nil, bs_size, bs_toList, nameGo]
    | cons b r ih =>
      intro i n hd hn k m
      obtain ⟨n, rfl⟩ : ∃ j, n = j + 1 := ⟨n - 1, by omega⟩
      obtain ⟨hlt, hg, hd'⟩ := drop_cons hd
      simp only [List.length_cons] at hn
      have hz : ((i : Int) == 0) = (i == 0) := by rw [Bool.eq_iff_iff]; simp
      simp only [impl_NameOk_l0, bytS_bs, hg, c_impl_isSmall, c_impl_isFigure, callS_canon, callL_canon, Option.map_some, Option.bind_some, shape_one, shape_agg, shape_nil, cellsAt_0, cellsAt_1, cellsAt_2, cellsAt_3, cells_one, cells_agg, cB_zero, cI_zero, cS_zero, cC_zero, cB_cons, cI_cons, cS_cons, cC_cons, cond_true, cond_false, List.length_cons, List.length_nil, beq_self_eq_true, Bool.and_true, Bool.true_and, lenC_encL, lenC_lst, deref_ref, emptyK_nil, bs_size, bs_toList]
      rw [decide_eq_true (by omega), cond_true, wrap_succ (by omega), ih (i + 1) n hd' (by omega)]
      have h45 : ((b.toNat : Int) != 45) = !(b == 45) := u8_ne b 45 (by omega)
      simp only [nameGo, hz, show ((i + 1 : Nat) == 0) = false from rfl, h45]
      cases isSmall b <;> cases isFigure b <;> cases (b == 45) <;> cases (i == 0) <;> rfl
  refine out_of (H := []) (run_impl_NameOk_of (s.length + 1) ?_)
  have := loop s 0 (s.length + 1 + 1) rfl (by omega) (s.length + 1 + 1) (s.length + 1 + 1)
  simpa [impl_NameOk, nameOk] using this
/-! parts of a text -/
/-- The parts between which a byte stands; cur: what stands ahead already. -/
def splitGo (c : UInt8) (cur : Str) : Str → List Str
  | [] => [cur]
  | b :: r => if b = c then cur :: splitGo c [] r else splitGo c (cur ++ [b]) r
def split (c : UInt8) (s : Str) : List Str := splitGo c [] s
/-- What stands ahead of the first such byte, and behind it. -/
def ahead (c : UInt8) (s : Str) : Str := s.takeWhile (· != c)
def behind (c : UInt8) (s : Str) : Str := (s.dropWhile (· != c)).drop 1

theorem splitGo_length (c : UInt8) : ∀ (s cur : Str), (splitGo c cur s).length ≤ s.length + 1 ∧ ∀ x ∈ splitGo c cur s, x.length ≤ cur.length + s.length := by
  intro s
  induction s with
  | nil => intro cur; simp [splitGo]
  | cons b r ih =>
    intro cur
    simp only [splitGo]
    split
    · obtain ⟨h1, h2⟩ := ih []
      refine ⟨by simp; omega, fun x hx => ?_⟩
      rcases List.mem_cons.1 hx with rfl | hx
      · simp
      · have := h2 x hx; simp at this; simp; omega
    · obtain ⟨h1, h2⟩ := ih (cur ++ [b])
      refine ⟨by simp; omega, fun x hx => ?_⟩
      have := h2 x hx; simp at this; simp; omega

theorem splitGo_not {c : UInt8} : ∀ {s : Str} (cur : Str), c ∉ s → splitGo c cur s = [cur ++ s] := by
  intro s
  induction s with
  | nil => intro cur _; simp [splitGo]
  | cons b r ih =>
    intro cur h
    simp only [List.mem_cons, not_or] at h
    simp only [splitGo]
    rw [if_neg fun e => h.1 e.symm, ih _ h.2]
    simp

theorem splitGo_cut {c : UInt8} : ∀ {s : Str} (cur : Str), c ∈ s → splitGo c cur s = (cur ++ ahead c s) :: splitGo c [] (behind c s) := by
  intro s
  induction s with
  | nil => intro cur h; simp at h
  | cons b r ih =>
    intro cur h
    simp only [splitGo]
    by_cases e : b = c
    · subst e
      simp [ahead, behind]
    · rw [if_neg e, ih _ (by simpa [Ne.symm e] using h)]
      simp [ahead, behind, e]

theorem split_not {c : UInt8} {s : Str} (h : c ∉ s) : split c s = [s] := splitGo_not [] h
theorem split_cut {c : UInt8} {s : Str} (h : c ∈ s) : split c s = ahead c s :: split c (behind c s) := splitGo_cut [] h
theorem splitGo_ne {c : UInt8} : ∀ (s cur : Str), splitGo c cur s ≠ [] := by
  intro s
  induction s with
  | nil => intro cur; simp [splitGo]
  | cons b r ih => intro cur; simp only [splitGo]; split <;> simp [ih]
theorem ahead_le (c : UInt8) (s : Str) : (ahead c s).length ≤ s.length := by
  have := (List.takeWhile_prefix (fun x => x != c) (l := s)).length_le
  exact this
theorem behind_le (c : UInt8) (s : Str) : (behind c s).length ≤ s.length := by
  have := (List.dropWhile_suffix (fun x => x != c) (l := s)).length_le
  simp only [behind, List.length_drop]
  omega
theorem ahead_not {c : UInt8} (s : Str) : c ∉ ahead c s := by
  induction s with
  | nil => simp [ahead]
  | cons b r ih =>
    unfold ahead
    rw [List.takeWhile_cons]
    split
    · rename_i h
      intro hm
      rcases List.mem_cons.1 hm with e | e
      · rw [← e] at h; simp at h
      · exact ih e
    · simp

theorem nameGo_mem : ∀ {s : Str} {f : Bool}, nameGo f s = true → ∀ b ∈ s, isSmall b = true ∨ isFigure b = true ∨ b = 45 := by
  intro s
  induction s with
  | nil => intro f _ b hb; simp at hb
  | cons c r ih =>
    intro f h b hb
    simp only [nameGo, Bool.and_eq_true, Bool.or_eq_true, beq_iff_eq] at h
    rcases List.mem_cons.1 hb with rfl | hb
    · rcases h.1 with h1 | h1
      · exact .inl h1
      · rcases h1.2 with h2 | h2
        · exact .inr (.inl h2)
        · exact .inr (.inr h2)
    · exact ih h.2 b hb
theorem nameOk_not {s : Str} (h : nameOk s = true) : (35 : UInt8) ∉ s ∧ (94 : UInt8) ∉ s := by
  simp only [nameOk, Bool.and_eq_true] at h
  constructor <;> intro hb <;> rcases nameGo_mem h.1 _ hb with h | h | h <;> revert h <;> decide
theorem nameOk_nil : nameOk [] = false := rfl
theorem c_spec_Split (s : Str) (c : UInt8) (hs : s.length ≤ 1073741824) : outL run_spec_Split [.one (Cell.str (bs s)), .one (.sc (.int .u8 (c.toNat : Int)))] = some [.one (strsC (split c s))] := by
  have hM := maxLen_eq
  have loop : ∀ (r : Str) (i from' n : Nat) (cur : Str) (cl : Cell) (H : List Entry) (done : List Str), s.drop i = r → from' ≤ i → i ≤ s.length → (s.take i).drop from' = cur → r.length + 1 < n → Grow 1 cl H (done.map eStr) → done.length ≤ i →
      ∀ k m, ∃ cl' H', spec_Split_l0 k m n (bs s) (c.toNat : Int) cl from' i H = some ([.one cl'], H') ∧ Grow 1 cl' H' ((done ++ splitGo c cur r).map eStr) := by
    intro r
    induction r with
    | nil =>
      intro i from' n cur cl H done hd hf hi hc hn hg hdl k m
      obtain ⟨n, rfl⟩ : ∃ j, n = j + 2 := ⟨n - 2, by omega⟩
      have hlen := drop_nil hd
      have e : i = s.length := by omega
      subst e
      obtain ⟨p, hp, hgp⟩ := hg.app (by' := 16) [eStr cur] (by simp [bound]; omega) (by simp [bound]; omega)
      refine ⟨p.1, p.2, ?_, by simpa [splitGo] using hgp⟩
      simp only [spec_Split_l0, bs_size]
      rw [decide_eq_true (by omega), cond_true, show (((s.length : Nat) : Int) == (s.length : Int)) = true by simp, cond_true, subS_bs _ _ _ hf (Nat.le_refl _), hc]
      simp only [Option.bind_some]
      rw [show [[Cell.str (bs cur)]] = [eStr cur] from rfl, hp]
      simp only [Option.bind_some]
      rw [wrap_succ (by omega), decide_eq_false (by omega), cond_false]
    | cons b r ih =>
      intro i from' n cur cl H done hd hf hi hc hn hg hdl k m
      obtain ⟨n, rfl⟩ : ∃ j, n = j + 1 := ⟨n - 1, by omega⟩
      obtain ⟨hlt, hgx, hd'⟩ := drop_cons hd
      simp only [List.length_cons] at hn
      simp only [spec_Split_l0, bs_size, bytS_bs, hgx, Option.map_some, Option.bind_some]
      rw [decide_eq_true (by omega), cond_true, show (((i : Nat) : Int) == (s.length : Int)) = false by simp; omega, cond_false, wrap_succ (by omega)]
      have hbc : ((b.toNat : Int) == (c.toNat : Int)) = decide (b = c) := by
        rw [Bool.eq_iff_iff]
        simp only [beq_iff_eq, decide_eq_true_eq]
        exact ⟨fun h => UInt8.toNat_inj.1 (by omega), fun h => by rw [h]⟩
      rw [hbc]
      by_cases e : b = c
      · rw [decide_eq_true e, cond_true, subS_bs _ _ _ hf (by omega), hc]
        simp only [Option.bind_some]
        obtain ⟨p, hp, hgp⟩ := hg.app (by' := 16) [eStr cur] (by simp [bound]; omega) (by simp [bound]; omega)
        rw [show [[Cell.str (bs cur)]] = [eStr cur] from rfl, hp]
        simp only [Option.bind_some]
        obtain ⟨cl', H', h1, h2⟩ := ih (i + 1) (i + 1) n [] p.1 p.2 (done ++ [cur]) hd' (Nat.le_refl _) (by omega) (by simp) (by omega) (by simpa using hgp) (by simp; omega) k m
        refine ⟨cl', H', h1, ?_⟩
        simpa [splitGo, e] using h2
      · rw [decide_eq_false e, cond_false]
        obtain ⟨cl', H', h1, h2⟩ := ih (i + 1) from' n (cur ++ [b]) cl H done hd' (by omega) (by omega) (by
          rw [← hc, List.take_add_one, hgx]
          simp only [Option.toList_some]
          rw [List.drop_append_of_le_length (by simp; omega)]) (by omega) hg (by omega) k m
        refine ⟨cl', H', h1, ?_⟩
        simpa [splitGo, e] using h2
  obtain ⟨cl', H', h1, h2⟩ := loop s 0 0 (s.length + 1 + 1) [] (.lst true 1 []) [] [] rfl (by omega) (by omega) rfl (by omega) (.nil 1) (by simp) (s.length + 1 + 1) (s.length + 1 + 1)
  refine outL_of (run_spec_Split_of (s.length + 1) (by simpa [spec_Split] using h1)) ?_
  exact h2.read
theorem ahead_all {c : UInt8} {s : Str} (h : c ∉ s) : ahead c s = s := by
  induction s with
  | nil => rfl
  | cons b r ih =>
    simp only [List.mem_cons, not_or] at h
    have : ahead c (b :: r) = b :: ahead c r := by simp [ahead, Ne.symm h.1]
    rw [this, ih h.2]
theorem behind_none {c : UInt8} {s : Str} (h : c ∉ s) : behind c s = [] := by
  induction s with
  | nil => rfl
  | cons b r ih =>
    simp only [List.mem_cons, not_or] at h
    have : behind c (b :: r) = behind c r := by simp [behind, Ne.symm h.1]
    rw [this, ih h.2]
/-! tasks -/
def parseTask (s : Str) : Str × Str × Bool := if nameOk (ahead 35 s) && nameOk (behind 35 s) then (ahead 35 s, behind 35 s, true) else ([], [], false)
def parseTaskV (s : Str) : List AV := [.one (Cell.str (bs (parseTask s).1)), .one (Cell.str (bs (parseTask s).2.1)), .one (Cell.bool (parseTask s).2.2)]
theorem not_mem_behind {c : UInt8} {s : Str} (h : c ∉ s) (d : UInt8) : d ∉ behind c s := by
  rw [behind_none h]
  simp
/-- A text without what stands ahead of it. -/
def trimP (p s : Str) : Str := if p.isPrefixOf s then s.drop p.length else s
def onOk (s : Str) : Bool := if 35 ∈ s then nameOk (ahead 35 s) && nameOk (behind 35 s) else nameOk (trimP [94] s)
theorem indexByte_eq (c : UInt8) (s : Str) : Lib.indexByte s c = if c ∈ s then ((ahead c s).length : Int) else -1 := by
  induction s with
  | nil => rfl
  | cons b r ih =>
    simp only [Lib.indexByte]
    by_cases e : b = c
    · subst e
      simp [ahead]
    · have e1 : (b == c) = false := by simpa using e
      simp only [e1, Bool.false_eq_true, if_false]
      have e2 : ahead c (b :: r) = b :: ahead c r := by simp [ahead, e]
      by_cases h : c ∈ r
      · rw [if_pos h] at ih
        rw [ih, if_neg (by simp <;> omega), if_pos (List.mem_cons_of_mem _ h), e2]
        simp
      · rw [if_neg h] at ih
        rw [ih, if_pos (by simp), if_neg]
        intro hm
        rcases List.mem_cons.1 hm with q | q
        · exact e q.symm
        · exact h q
theorem take_ahead (c : UInt8) (s : Str) : s.take (ahead c s).length = ahead c s :=
  (List.prefix_iff_eq_take.1 (List.takeWhile_prefix _)).symm
theorem ahead_lt {c : UInt8} {s : Str} (h : c ∈ s) : (ahead c s).length < s.length := by
  have h1 := ahead_le c s
  rcases Nat.lt_or_ge (ahead c s).length s.length with h2 | h2
  · exact h2
  · have h3 := take_ahead c s
    rw [List.take_of_length_le h2] at h3
    rw [h3] at h
    exact absurd h (ahead_not s)
theorem drop_behind (c : UInt8) (s : Str) : s.drop ((ahead c s).length + 1) = behind c s := by
  have h : s = ahead c s ++ s.dropWhile (· != c) := (List.takeWhile_append_dropWhile).symm
  have h2 : s.drop (ahead c s).length = s.dropWhile (· != c) := by
    rw [congrArg (List.drop (ahead c s).length) h, List.drop_left]
  rw [← List.drop_drop, h2]
  rfl
theorem bytS_head (b : UInt8) (r : Str) : bytS (bs (b :: r)) 0 = some (b.toNat : Int) := by
  have := bytS_bs (b :: r) 0
  simpa using this
theorem c_internal_stringslite_IndexByte (s : Str) (c : UInt8) : out run_internal_stringslite_IndexByte [.one (Cell.str (bs s)), .one (.sc (.int .u8 (c.toNat : Int)))] = some [.one (Cell.int (Lib.indexByte s c))] := by
  simp [out, run_internal_stringslite_IndexByte]
theorem c_internal_stringslite_Index (s : Str) (c : UInt8) : out run_internal_stringslite_Index [.one (Cell.str (bs s)), .one (Cell.str (bs [c]))] = some [.one (Cell.int (Lib.indexByte s c))] := by
  refine out_of (H := []) (run_internal_stringslite_Index_of 0 ?_)
  simp only [internal_stringslite_Index, bytS_head, c_internal_stringslite_IndexByte, callS_canon, callL_canon, Option.map_some, Option.bind_some, shape_one, shape_agg, shape_nil, cellsAt_0, cellsAt_1, cellsAt_2, cellsAt_3, cells_one, cells_agg, cB_zero, cI_zero, cS_zero, cC_zero, cB_cons, cI_cons, cS_cons, cC_cons, cond_true, cond_false, List.length_cons, List.length_nil, beq_self_eq_true, Bool.and_true, Bool.true_and, lenC_encL, lenC_lst, deref_ref, emptyK_nil, bs_size, bs_toList]
  rw [show (((0 + 1 : Nat) : Int) == 0) = false from rfl, show (((0 + 1 : Nat) : Int) == 1) = true from rfl, cond_false, cond_true]
  by_cases h : [c] = s
  · rw [← h]
    simp [Lib.indexByte]
  · rw [show ([c] == s) = false by simpa using h, cond_false]
def cutV (c : UInt8) (s : Str) : List AV := if c ∈ s then [.one (Cell.str (bs (ahead c s))), .one (Cell.str (bs (behind c s))), .one (Cell.bool true)] else [.one (Cell.str (bs s)), .one (Cell.str (bs [])), .one (Cell.bool false)]
theorem c_internal_stringslite_Cut (s : Str) (c : UInt8) (hs : s.length ≤ 1073741824) : out run_internal_stringslite_Cut [.one (Cell.str (bs s)), .one (Cell.str (bs [c]))] = some (cutV c s) := by
  refine out_of (H := []) (run_internal_stringslite_Cut_of 0 ?_)
  simp only [internal_stringslite_Cut, c_internal_stringslite_Index, callS_canon, callL_canon, Option.map_some, Option.bind_some, shape_one, shape_agg, shape_nil, cellsAt_0, cellsAt_1, cellsAt_2, cellsAt_3, cells_one, cells_agg, cB_zero, cI_zero, cS_zero, cC_zero, cB_cons, cI_cons, cS_cons, cC_cons, cond_true, cond_false, List.length_cons, List.length_nil, beq_self_eq_true, Bool.and_true, Bool.true_and, lenC_encL, lenC_lst, deref_ref, emptyK_nil, bs_size, bs_toList]
  rw [indexByte_eq]
  unfold cutV
  by_cases h : c ∈ s
  · have h1 := ahead_lt h
    rw [if_pos h, if_pos h, decide_eq_true (by omega), cond_true]
    have e1 := subS_bs s 0 (ahead c s).length (by omega) (by omega)
    simp only [Int.natCast_zero, List.drop_zero, take_ahead] at e1
    rw [e1]
    simp only [Option.bind_some]
    rw [show (((ahead c s).length : Int) + ((0 + 1 : Nat) : Int)) = (((ahead c s).length + 1 : Nat) : Int) by omega, wrap_small (by omega) (by omega), subS_bs s _ _ (by omega) (Nat.le_refl _), List.take_length, drop_behind]
    rfl
  · rw [if_neg h, if_neg h, decide_eq_false (by omega), cond_false]
theorem c_strings_Cut (s : Str) (c : UInt8) (hs : s.length ≤ 1073741824) : out run_strings_Cut [.one (Cell.str (bs s)), .one (Cell.str (bs [c]))] = some (cutV c s) := by
  refine out_of (H := []) (run_strings_Cut_of 0 ?_)
  simp only [strings_Cut, c_internal_stringslite_Cut s c hs, callS_canon, callL_canon, Option.map_some, Option.bind_some, shape_one, shape_agg, shape_nil, cellsAt_0, cellsAt_1, cellsAt_2, cellsAt_3, cells_one, cells_agg, cB_zero, cI_zero, cS_zero, cC_zero, cB_cons, cI_cons, cS_cons, cC_cons, cond_true, cond_false, List.length_cons, List.length_nil, beq_self_eq_true, Bool.and_true, Bool.true_and, lenC_encL, lenC_lst, deref_ref, emptyK_nil, bs_size, bs_toList]
  unfold cutV
  by_cases h : c ∈ s
  · simp only [if_pos h, callS_canon, callL_canon, Option.map_some, Option.bind_some, shape_one, shape_agg, shape_nil, cellsAt_0, cellsAt_1, cellsAt_2, cellsAt_3, cells_one, cells_agg, cB_zero, cI_zero, cS_zero, cC_zero, cB_cons, cI_cons, cS_cons, cC_cons, cond_true, cond_false, List.length_cons, List.length_nil, beq_self_eq_true, Bool.and_true, Bool.true_and, lenC_encL, lenC_lst, deref_ref, emptyK_nil, bs_size, bs_toList]
  · simp only [if_neg h, callS_canon, callL_canon, Option.map_some, Option.bind_some, shape_one, shape_agg, shape_nil, cellsAt_0, cellsAt_1, cellsAt_2, cellsAt_3, cells_one, cells_agg, cB_zero, cI_zero, cS_zero, cC_zero, cB_cons, cI_cons, cS_cons, cC_cons, cond_true, cond_false, List.length_cons, List.length_nil, beq_self_eq_true, Bool.and_true, Bool.true_and, lenC_encL, lenC_lst, deref_ref, emptyK_nil, bs_size, bs_toList]
theorem c_impl_ParseTask (s : Str) (hs : s.length ≤ 1073741824) : out run_impl_ParseTask [.one (Cell.str (bs s))] = some (parseTaskV s) := by
  have l1 := ahead_le 35 s
  have l2 := behind_le 35 s
  refine out_of (H := []) (run_impl_ParseTask_of 0 ?_)
  simp only [impl_ParseTask, c_strings_Cut s 35 hs, callS_canon, callL_canon, Option.map_some, Option.bind_some, shape_one, shape_agg, shape_nil, cellsAt_0, cellsAt_1, cellsAt_2, cellsAt_3, cells_one, cells_agg, cB_zero, cI_zero, cS_zero, cC_zero, cB_cons, cI_cons, cS_cons, cC_cons, cond_true, cond_false, List.length_cons, List.length_nil, beq_self_eq_true, Bool.and_true, Bool.true_and, lenC_encL, lenC_lst, deref_ref, emptyK_nil, bs_size, bs_toList]
  unfold cutV parseTaskV parseTask
  by_cases h : (35 : UInt8) ∈ s
  · simp only [if_pos h, c_impl_NameOk _ (Nat.le_trans l1 hs), c_impl_NameOk _ (Nat.le_trans l2 hs), callS_canon, callL_canon, Option.map_some, Option.bind_some, shape_one, shape_agg, shape_nil, cellsAt_0, cellsAt_1, cellsAt_2, cellsAt_3, cells_one, cells_agg, cB_zero, cI_zero, cS_zero, cC_zero, cB_cons, cI_cons, cS_cons, cC_cons, cond_true, cond_false, List.length_cons, List.length_nil, beq_self_eq_true, Bool.and_true, Bool.true_and, lenC_encL, lenC_lst, deref_ref, emptyK_nil, bs_size, bs_toList]
    cases nameOk (ahead 35 s) <;> cases nameOk (behind 35 s) <;> rfl
  · simp only [if_neg h, c_impl_NameOk _ hs, c_impl_NameOk [] (by simp), callS_canon, callL_canon, Option.map_some, Option.bind_some, shape_one, shape_agg, shape_nil, cellsAt_0, cellsAt_1, cellsAt_2, cellsAt_3, cells_one, cells_agg, cB_zero, cI_zero, cS_zero, cC_zero, cB_cons, cI_cons, cS_cons, cC_cons, cond_true, cond_false, List.length_cons, List.length_nil, beq_self_eq_true, Bool.and_true, Bool.true_and, lenC_encL, lenC_lst, deref_ref, emptyK_nil, bs_size, bs_toList]
    rw [ahead_all h, behind_none h]
    cases nameOk s <;> rfl
theorem c_spec_ParseTask (s : Str) (hs : s.length ≤ 1073741824) : out run_spec_ParseTask [.one (Cell.str (bs s))] = some (parseTaskV s) := by
  have l1 := ahead_le 35 s
  have l2 := behind_le 35 s
  refine out_of (H := []) (run_spec_ParseTask_of 0 ?_)
  have e35 : (35 : Int) = ((35 : UInt8).toNat : Int) := rfl
  simp only [spec_ParseTask]
  rw [e35, callL_canon, c_spec_Split s 35 hs]
  simp only [callS_canon, callL_canon, Option.map_some, Option.bind_some, shape_one, shape_agg, shape_nil, cellsAt_0, cellsAt_1, cellsAt_2, cellsAt_3, cells_one, cells_agg, cB_zero, cI_zero, cS_zero, cC_zero, cB_cons, cI_cons, cS_cons, cC_cons, cond_true, cond_false, List.length_cons, List.length_nil, beq_self_eq_true, Bool.and_true, Bool.true_and, lenC_encL, lenC_lst, deref_ref, emptyK_nil, bs_size, bs_toList]
  have z0 : ∀ (x : Str) (r : List Str), idxA 1 (strsC (x :: r)) 0 = some (.ref (eStr x) 0) := fun x r => by
    have := idxA_encL 1 eStr (x :: r) 0
    simpa using this
  have z1 : ∀ (x y : Str) (r : List Str), idxA 1 (strsC (x :: y :: r)) 1 = some (.ref (eStr y) 0) := fun x y r => by
    have := idxA_encL 1 eStr (x :: y :: r) 1
    simpa using this
  unfold parseTaskV parseTask
  by_cases h : (35 : UInt8) ∈ s
  · rw [split_cut h]
    by_cases h2 : (35 : UInt8) ∈ behind 35 s
    · rw [split_cut h2]
      have e2 : nameOk (behind 35 s) = false := by
        cases e : nameOk (behind 35 s) with
        | false => rfl
        | true => exact absurd h2 (nameOk_not e).1
      have hn : (split 35 (behind 35 (behind 35 s))).length ≠ 0 := by
        intro e
        exact splitGo_ne _ _ (List.length_eq_zero_iff.1 e)
      simp only [List.length_cons]
      rw [show ((((split 35 (behind 35 (behind 35 s))).length + 1 + 1 : Nat) : Int) != 2) = true by simp only [bne_iff_ne, ne_eq]; omega, cond_true, e2, Bool.and_false]
      rfl
    · rw [split_not h2]
      simp only [z0, z1, eStr, c_spec_NameOk _ (Nat.le_trans l1 hs), c_spec_NameOk _ (Nat.le_trans l2 hs), callS_canon, callL_canon, Option.map_some, Option.bind_some, shape_one, shape_agg, shape_nil, cellsAt_0, cellsAt_1, cellsAt_2, cellsAt_3, cells_one, cells_agg, cB_zero, cI_zero, cS_zero, cC_zero, cB_cons, cI_cons, cS_cons, cC_cons, cond_true, cond_false, List.length_cons, List.length_nil, beq_self_eq_true, Bool.and_true, Bool.true_and, lenC_encL, lenC_lst, deref_ref, emptyK_nil, bs_size, bs_toList]
      rw [show (((0 + 1 + 1 : Nat) : Int) != 2) = false from rfl, cond_false]
      cases nameOk (ahead 35 s) <;> cases nameOk (behind 35 s) <;> rfl
  · rw [split_not h, behind_none h, nameOk_nil, Bool.and_false]
    simp only [callS_canon, callL_canon, Option.map_some, Option.bind_some, shape_one, shape_agg, shape_nil, cellsAt_0, cellsAt_1, cellsAt_2, cellsAt_3, cells_one, cells_agg, cB_zero, cI_zero, cS_zero, cC_zero, cB_cons, cI_cons, cS_cons, cC_cons, cond_true, cond_false, List.length_cons, List.length_nil, beq_self_eq_true, Bool.and_true, Bool.true_and, lenC_encL, lenC_lst, deref_ref, emptyK_nil, bs_size, bs_toList]
    rfl
end Go.Ev
