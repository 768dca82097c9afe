/- What the functions come to. Conditions: none. -/
import Derived.Test.YtiocamjonchabaaDoorEvCon
set_option linter.unusedSimpArgs false
set_option linter.unusedVariables false
namespace Go.Ev
open Go
/-! names -/
def inR (x a b : Int) : Bool := decide (a ≤ x) && decide (x ≤ b)
def isSmall (b : UInt8) : Bool := inR b.toNat 97 122
def isFigure (b : UInt8) : Bool := inR b.toNat 48 57
def nameGo (first : Bool) : Str → Bool
  | [] => true
  | b :: r => (isSmall b || (!first && (isFigure b || b == 45))) && nameGo false r
def nameOk (s : Str) : Bool := nameGo true s && inR s.length 1 10
theorem u8_eq (b : UInt8) (n : Nat) (h : n < 256) : ((b.toNat : Int) == (n : Int)) = (b == UInt8.ofNat n) := by
  rw [Bool.eq_iff_iff]
  simp only [beq_iff_eq]
  constructor
  · intro e
    apply UInt8.toNat_inj.1
    have : (UInt8.ofNat n).toNat = n := by simp; omega
    omega
  · intro e
    have : (UInt8.ofNat n).toNat = n := by simp; omega
    rw [e, this]
theorem u8_ne (b : UInt8) (n : Nat) (h : n < 256) : ((b.toNat : Int) != (n : Int)) = (b != UInt8.ofNat n) := by
  simp only [bne, u8_eq b n h]
theorem u8_lt (b : UInt8) : (b.toNat : Int) < 256 := by have := b.toNat_lt; omega
theorem c_spec_l1In (x a b : Int) : out run_spec_l1In [.one (Cell.int x), .one (Cell.int a), .one (Cell.int b)] = some [.one (Cell.bool (inR x a b))] := by
  refine out_of (H := []) (run_spec_l1In_of 0 ?_)
  simp only [spec_l1In, inR]
  by_cases h : a ≤ x
  · rw [decide_eq_true (by omega : x ≥ a), cond_true, Bool.true_and]
  · rw [decide_eq_false (by omega : ¬ x ≥ a), cond_false, Bool.false_and]
theorem c_impl_inRange (x a b : Int) : out run_impl_inRange [.one (Cell.int x), .one (Cell.int a), .one (Cell.int b)] = some [.one (Cell.bool (inR x a b))] := by
  refine out_of (H := []) (run_impl_inRange_of 0 ?_)
  simp only [impl_inRange, inR]
  by_cases h : a ≤ x
  · rw [decide_eq_true (by omega : x ≥ a), cond_true, Bool.true_and]
  · rw [decide_eq_false (by omega : ¬ x ≥ a), cond_false, Bool.false_and]
theorem c_spec_l1Small (b : UInt8) : out run_spec_l1Small [.one (.sc (.int .u8 (b.toNat : Int)))] = some [.one (Cell.bool (isSmall b))] := by
  have := u8_lt b
  refine out_of (H := []) (run_spec_l1Small_of 0 ?_)
  simp only [spec_l1Small, wrap_small (n := (b.toNat : Int)) (by omega) (by omega), c_spec_l1In, callS_canon, callL_canon, Option.map_some, Option.bind_some, shape_one, shape_agg, shape_nil, cellsAt_0, cellsAt_1, cellsAt_2, cellsAt_3, cells_one, cells_agg, cB_zero, cI_zero, cS_zero, cC_zero, cB_cons, cI_cons, cS_cons, cC_cons, cond_true, cond_false, List.length_cons, List.length_nil, beq_self_eq_true, Bool.and_true, Bool.true_and, lenC_encL, lenC_lst, deref_ref, emptyK_nil, bs_size, bs_toList, isSmall]
theorem c_spec_l1Digit (b : UInt8) : out run_spec_l1Digit [.one (.sc (.int .u8 (b.toNat : Int)))] = some [.one (Cell.bool (isFigure b))] := by
  have := u8_lt b
  refine out_of (H := []) (run_spec_l1Digit_of 0 ?_)
  simp only [spec_l1Digit, wrap_small (n := (b.toNat : Int)) (by omega) (by omega), c_spec_l1In, callS_canon, callL_canon, Option.map_some, Option.bind_some, shape_one, shape_agg, shape_nil, cellsAt_0, cellsAt_1, cellsAt_2, cellsAt_3, cells_one, cells_agg, cB_zero, cI_zero, cS_zero, cC_zero, cB_cons, cI_cons, cS_cons, cC_cons, cond_true, cond_false, List.length_cons, List.length_nil, beq_self_eq_true, Bool.and_true, Bool.true_and, lenC_encL, lenC_lst, deref_ref, emptyK_nil, bs_size, bs_toList, isFigure]
theorem c_impl_isSmall (b : UInt8) : out run_impl_isSmall [.one (.sc (.int .u8 (b.toNat : Int)))] = some [.one (Cell.bool (isSmall b))] := by
  refine out_of (H := []) (run_impl_isSmall_of 0 ?_)
  simp only [impl_isSmall, isSmall, inR]
  by_cases h : (97 : Int) ≤ b.toNat
  · rw [decide_eq_true (by omega : (b.toNat : Int) ≥ 97), cond_true, Bool.true_and]
  · rw [decide_eq_false (by omega : ¬ (b.toNat : Int) ≥ 97), cond_false, Bool.false_and]
theorem c_impl_isFigure (b : UInt8) : out run_impl_isFigure [.one (.sc (.int .u8 (b.toNat : Int)))] = some [.one (Cell.bool (isFigure b))] := by
  refine out_of (H := []) (run_impl_isFigure_of 0 ?_)
  simp only [impl_isFigure, isFigure, inR]
  by_cases h : (48 : Int) ≤ b.toNat
  · rw [decide_eq_true (by omega : (b.toNat : Int) ≥ 48), cond_true, Bool.true_and]
  · rw [decide_eq_false (by omega : ¬ (b.toNat : Int) ≥ 48), cond_false, Bool.false_and]
theorem c_spec_NameOk (s : Str) (hs : s.length ≤ 1073741824) : out run_spec_NameOk [.one (Cell.str (bs s))] = some [.one (Cell.bool (nameOk s))] := by
  have hM := maxLen_eq
  have loop : ∀ (r : Str) (i n : Nat), s.drop i = r → r.length < n → ∀ k m, spec_NameOk_l0 k m n (bs s) i = some ([.one (Cell.bool (nameGo (i == 0) r && inR s.length 1 10))], []) := by
    intro r
    induction r with
    | nil =>
      intro i n hd hn k m
      obtain ⟨n, rfl⟩ : ∃ j, n = j + 1 := ⟨n - 1, by omega⟩
      have := drop_nil hd
      simp only [spec_NameOk_l0, bs_size]
      rw [decide_eq_false (by omega), cond_false]
      simp only [c_spec_l1In, callS_canon, callL_canon, Option.map_some, Option.bind_some, shape_one, shape_agg, shape_nil, cellsAt_0, cellsAt_1, cellsAt_2, cellsAt_3, cells_one, cells_agg, cB_zero, cI_zero, cS_zero, cC_zero, cB_cons, cI_cons, cS_cons, cC_cons, cond_true, cond_false, List.length_cons, List.length_nil, beq_self_eq_true, Bool.and_true, Bool.true_and, lenC_encL, lenC_lst, deref_ref, emptyK_nil, bs_size, bs_toList, nameGo]
    | cons b r ih =>
      intro i n hd hn k m
      obtain ⟨n, rfl⟩ : ∃ j, n = j + 1 := ⟨n - 1, by omega⟩
      obtain ⟨hlt, hg, hd'⟩ := drop_cons hd
      simp only [List.length_cons] at hn
      have hz : ((i : Int) == 0) = (i == 0) := by rw [Bool.eq_iff_iff]; simp
      simp only [spec_NameOk_l0, bytS_bs, hg, c_spec_l1Small, c_spec_l1Digit, callS_canon, callL_canon, Option.map_some, Option.bind_some, shape_one, shape_agg, shape_nil, cellsAt_0, cellsAt_1, cellsAt_2, cellsAt_3, cells_one, cells_agg, cB_zero, cI_zero, cS_zero, cC_zero, cB_cons, cI_cons, cS_cons, cC_cons, cond_true, cond_false, List.length_cons, List.length_nil, beq_self_eq_true, Bool.and_true, Bool.true_and, lenC_encL, lenC_lst, deref_ref, emptyK_nil, bs_size, bs_toList]
      rw [decide_eq_true (by omega), cond_true, wrap_succ (by omega), ih (i + 1) n hd' (by omega)]
      have h45 : ((b.toNat : Int) != 45) = !(b == 45) := u8_ne b 45 (by omega)
      simp only [nameGo, hz, show ((i + 1 : Nat) == 0) = false from rfl, h45]
      cases isSmall b <;> cases isFigure b <;> cases (b == 45) <;> cases (i == 0) <;> rfl
  refine out_of (H := []) (run_spec_NameOk_of (s.length + 1) ?_)
  have := loop s 0 (s.length + 1 + 1) rfl (by omega) (s.length + 1 + 1) (s.length + 1 + 1)
  simpa [spec_NameOk, nameOk] using this
theorem c_impl_NameOk (s : Str) (hs : s.length ≤ 1073741824) : out run_impl_NameOk [.one (Cell.str (bs s))] = some [.one (Cell.bool (nameOk s))] := by
  have hM := maxLen_eq
  have loop : ∀ (r : Str) (i n : Nat), s.drop i = r → r.length < n → ∀ k m, impl_NameOk_l0 k m n (bs s) i = some ([.one (Cell.bool (nameGo (i == 0) r && inR s.length 1 10))], []) := by
    intro r
    induction r with
    | nil =>
      intro i n hd hn k m
      obtain ⟨n, rfl⟩ : ∃ j, n = j + 1 := ⟨n - 1, by omega⟩
      have := drop_nil hd
      simp only [impl_NameOk_l0, bs_size]
      rw [decide_eq_false (by omega), cond_false]
      simp only [c_impl_inRange, callS_canon, callL_canon, Option.map_some, Option.bind_some, shape_one, shape_agg, shape_nil, cellsAt_0, cellsAt_1, cellsAt_2, cellsAt_3, cells_one, cells_agg, cB_zero, cI_zero, cS_zero, cC_zero, cB_cons, cI_cons, cS_cons, cC_cons, cond_true, cond_false, List.length_cons, List.length_nil, beq_self_eq_true, Bool.and_true, Bool.true_and, lenC_encL, lenC_lst, deref_ref, emptyK_nil, bs_size, bs_toList, nameGo]
    | cons b r ih =>
      intro i n hd hn k m
      obtain ⟨n, rfl⟩ : ∃ j, n = j + 1 := ⟨n - 1, by omega⟩
      obtain ⟨hlt, hg, hd'⟩ := drop_cons hd
      simp only [List.length_cons] at hn
      have hz : ((i : Int) == 0) = (i == 0) := by rw [Bool.eq_iff_iff]; simp
      simp only [impl_NameOk_l0, bytS_bs, hg, c_impl_isSmall, c_impl_isFigure, callS_canon, callL_canon, Option.map_some, Option.bind_some, shape_one, shape_agg, shape_nil, cellsAt_0, cellsAt_1, cellsAt_2, cellsAt_3, cells_one, cells_agg, cB_zero, cI_zero, cS_zero, cC_zero, cB_cons, cI_cons, cS_cons, cC_cons, cond_true, cond_false, List.length_cons, List.length_nil, beq_self_eq_true, Bool.and_true, Bool.true_and, lenC_encL, lenC_lst, deref_ref, emptyK_nil, bs_size, bs_toList]
      rw [decide_eq_true (by omega), cond_true, wrap_succ (by omega), ih (i + 1) n hd' (by omega)]
      have h45 : ((b.toNat : Int) != 45) = !(b == 45) := u8_ne b 45 (by omega)
      simp only [nameGo, hz, show ((i + 1 : Nat) == 0) = false from rfl, h45]
      cases isSmall b <;> cases isFigure b <;> cases (b == 45) <;> cases (i == 0) <;> rfl
  refine out_of (H := []) (run_impl_NameOk_of (s.length + 1) ?_)
  have := loop s 0 (s.length + 1 + 1) rfl (by omega) (s.length + 1 + 1) (s.length + 1 + 1)
  simpa [impl_NameOk, nameOk] using this
/-! parts of a text -/
/-- The parts between which a byte stands; cur: what stands ahead already. -/
def splitGo (c : UInt8) (cur : Str) : Str → List Str
  | [] => [cur]
  | b :: r => if b = c then cur :: splitGo c [] r else splitGo c (cur ++ [b]) r
def split (c : UInt8) (s : Str) : List Str := splitGo c [] s
/-- What stands ahead of the first such byte, and behind it. -/
def ahead (c : UInt8) (s : Str) : Str := s.takeWhile (· != c)
def behind (c : UInt8) (s : Str) : Str := (s.dropWhile (· != c)).drop 1

theorem splitGo_length (c : UInt8) : ∀ (s cur : Str), (splitGo c cur s).length ≤ s.length + 1 ∧ ∀ x ∈ splitGo c cur s, x.length ≤ cur.length + s.length := by
  intro s
  induction s with
  | nil => intro cur; simp [splitGo]
  | cons b r ih =>
    intro cur
    simp only [splitGo]
    split
    · obtain ⟨h1, h2⟩ := ih []
      refine ⟨by simp; omega, fun x hx => ?_⟩
      rcases List.mem_cons.1 hx with rfl | hx
      · simp
      · have := h2 x hx; simp at this; simp; omega
    · obtain ⟨h1, h2⟩ := ih (cur ++ [b])
      refine ⟨by simp; omega, fun x hx => ?_⟩
      have := h2 x hx; simp at this; simp; omega

theorem splitGo_not {c : UInt8} : ∀ {s : Str} (cur : Str), c ∉ s → splitGo c cur s = [cur ++ s] := by
  intro s
  induction s with
  | nil => intro cur _; simp [splitGo]
  | cons b r ih =>
    intro cur h
    simp only [List.mem_cons, not_or] at h
    simp only [splitGo]
    rw [if_neg fun e => h.1 e.symm, ih _ h.2]
    simp

theorem splitGo_cut {c : UInt8} : ∀ {s : Str} (cur : Str), c ∈ s → splitGo c cur s = (cur ++ ahead c s) :: splitGo c [] (behind c s) := by
  intro s
  induction s with
  | nil => intro cur h; simp at h
  | cons b r ih =>
    intro cur h
    simp only [splitGo]
    by_cases e : b = c
    · subst e
      simp [ahead, behind]
    · rw [if_neg e, ih _ (by simpa [Ne.symm e] using h)]
      simp [ahead, behind, e]

theorem split_not {c : UInt8} {s : Str} (h : c ∉ s) : split c s = [s] := splitGo_not [] h
theorem split_cut {c : UInt8} {s : Str} (h : c ∈ s) : split c s = ahead c s :: split c (behind c s) := splitGo_cut [] h
theorem splitGo_ne {c : UInt8} : ∀ (s cur : Str), splitGo c cur s ≠ [] := by
  intro s
  induction s with
  | nil => intro cur; simp [splitGo]
  | cons b r ih => intro cur; simp only [splitGo]; split <;> simp [ih]
theorem ahead_le (c : UInt8) (s : Str) : (ahead c s).length ≤ s.length := by
  have := (List.takeWhile_prefix (fun x => x != c) (l := s)).length_le
  exact this
theorem behind_le (c : UInt8) (s : Str) : (behind c s).length ≤ s.length := by
  have := (List.dropWhile_suffix (fun x => x != c) (l := s)).length_le
  simp only [behind, List.length_drop]
  omega
theorem ahead_not {c : UInt8} (s : Str) : c ∉ ahead c s := by
  induction s with
  | nil => simp [ahead]
  | cons b r ih =>
    unfold ahead
    rw [List.takeWhile_cons]
    split
    · rename_i h
      intro hm
      rcases List.mem_cons.1 hm with e | e
      · rw [← e] at h; simp at h
      · exact ih e
    · simp

theorem nameGo_mem : ∀ {s : Str} {f : Bool}, nameGo f s = true → ∀ b ∈ s, isSmall b = true ∨ isFigure b = true ∨ b = 45 := by
  intro s
  induction s with
  | nil => intro f _ b hb; simp at hb
  | cons c r ih =>
    intro f h b hb
    simp only [nameGo, Bool.and_eq_true, Bool.or_eq_true, beq_iff_eq] at h
    rcases List.mem_cons.1 hb with rfl | hb
    · rcases h.1 with h1 | h1
      · exact .inl h1
      · rcases h1.2 with h2 | h2
        · exact .inr (.inl h2)
        · exact .inr (.inr h2)
    · exact ih h.2 b hb
theorem nameOk_not {s : Str} (h : nameOk s = true) : (35 : UInt8) ∉ s ∧ (94 : UInt8) ∉ s := by
  simp only [nameOk, Bool.and_eq_true] at h
  constructor <;> intro hb <;> rcases nameGo_mem h.1 _ hb with h | h | h <;> revert h <;> decide
theorem nameOk_nil : nameOk [] = false := rfl
theorem c_spec_Split (s : Str) (c : UInt8) (hs : s.length ≤ 1073741824) : outL run_spec_Split [.one (Cell.str (bs s)), .one (.sc (.int .u8 (c.toNat : Int)))] = some [.one (strsC (split c s))] := by
  have hM := maxLen_eq
  have loop : ∀ (r : Str) (i from' n : Nat) (cur : Str) (cl : Cell) (H : List Entry) (done : List Str), s.drop i = r → from' ≤ i → i ≤ s.length → (s.take i).drop from' = cur → r.length + 1 < n → Grow 1 cl H (done.map eStr) → done.length ≤ i →
      ∀ k m, ∃ cl' H', spec_Split_l0 k m n (bs s) (c.toNat : Int) cl from' i H = some ([.one cl'], H') ∧ Grow 1 cl' H' ((done ++ splitGo c cur r).map eStr) := by
    intro r
    induction r with
    | nil =>
      intro i from' n cur cl H done hd hf hi hc hn hg hdl k m
      obtain ⟨n, rfl⟩ : ∃ j, n = j + 2 := ⟨n - 2, by omega⟩
      have hlen := drop_nil hd
      have e : i = s.length := by omega
      subst e
      obtain ⟨p, hp, hgp⟩ := hg.app (by' := 16) [eStr cur] (by simp [bound]; omega) (by simp [bound]; omega)
      refine ⟨p.1, p.2, ?_, by simpa [splitGo] using hgp⟩
      simp only [spec_Split_l0, bs_size]
      rw [decide_eq_true (by omega), cond_true, show (((s.length : Nat) : Int) == (s.length : Int)) = true by simp, cond_true, subS_bs _ _ _ hf (Nat.le_refl _), hc]
      simp only [Option.bind_some]
      rw [show [[Cell.str (bs cur)]] = [eStr cur] from rfl, hp]
      simp only [Option.bind_some]
      rw [wrap_succ (by omega), decide_eq_false (by omega), cond_false]
    | cons b r ih =>
      intro i from' n cur cl H done hd hf hi hc hn hg hdl k m
      obtain ⟨n, rfl⟩ : ∃ j, n = j + 1 := ⟨n - 1, by omega⟩
      obtain ⟨hlt, hgx, hd'⟩ := drop_cons hd
      simp only [List.length_cons] at hn
      simp only [spec_Split_l0, bs_size, bytS_bs, hgx, Option.map_some, Option.bind_some]
      rw [decide_eq_true (by omega), cond_true, show (((i : Nat) : Int) == (s.length : Int)) = false by simp; omega, cond_false, wrap_succ (by omega)]
      have hbc : ((b.toNat : Int) == (c.toNat : Int)) = decide (b = c) := by
        rw [Bool.eq_iff_iff]
        simp only [beq_iff_eq, decide_eq_true_eq]
        exact ⟨fun h => UInt8.toNat_inj.1 (by omega), fun h => by rw [h]⟩
      rw [hbc]
      by_cases e : b = c
      · rw [decide_eq_true e, cond_true, subS_bs _ _ _ hf (by omega), hc]
        simp only [Option.bind_some]
        obtain ⟨p, hp, hgp⟩ := hg.app (by' := 16) [eStr cur] (by simp [bound]; omega) (by simp [bound]; omega)
        rw [show [[Cell.str (bs cur)]] = [eStr cur] from rfl, hp]
        simp only [Option.bind_some]
        obtain ⟨cl', H', h1, h2⟩ := ih (i + 1) (i + 1) n [] p.1 p.2 (done ++ [cur]) hd' (Nat.le_refl _) (by omega) (by simp) (by omega) (by simpa using hgp) (by simp; omega) k m
        refine ⟨cl', H', h1, ?_⟩
        simpa [splitGo, e] using h2
      · rw [decide_eq_false e, cond_false]
        obtain ⟨cl', H', h1, h2⟩ := ih (i + 1) from' n (cur ++ [b]) cl H done hd' (by omega) (by omega) (by
          rw [← hc, List.take_add_one, hgx]
          simp only [Option.toList_some]
          rw [List.drop_append_of_le_length (by simp; omega)]) (by omega) hg (by omega) k m
        refine ⟨cl', H', h1, ?_⟩
        simpa [splitGo, e] using h2
  obtain ⟨cl', H', h1, h2⟩ := loop s 0 0 (s.length + 1 + 1) [] (.lst true 1 []) [] [] rfl (by omega) (by omega) rfl (by omega) (.nil 1) (by simp) (s.length + 1 + 1) (s.length + 1 + 1)
  refine outL_of (run_spec_Split_of (s.length + 1) (by simpa [spec_Split] using h1)) ?_
  exact h2.read
theorem ahead_all {c : UInt8} {s : Str} (h : c ∉ s) : ahead c s = s := by
  induction s with
  | nil => rfl
  | cons b r ih =>
    simp only [List.mem_cons, not_or] at h
    have : ahead c (b :: r) = b :: ahead c r := by simp [ahead, Ne.symm h.1]
    rw [this, ih h.2]
theorem behind_none {c : UInt8} {s : Str} (h : c ∉ s) : behind c s = [] := by
  induction s with
  | nil => rfl
  | cons b r ih =>
    simp only [List.mem_cons, not_or] at h
    have : behind c (b :: r) = behind c r := by simp [behind, Ne.symm h.1]
    rw [this, ih h.2]
/-! tasks -/
def parseTask (s : Str) : Str × Str × Bool := if nameOk (ahead 35 s) && nameOk (behind 35 s) then (ahead 35 s, behind 35 s, true) else ([], [], false)
def parseTaskV (s : Str) : List AV := [.one (Cell.str (bs (parseTask s).1)), .one (Cell.str (bs (parseTask s).2.1)), .one (Cell.bool (parseTask s).2.2)]
theorem not_mem_behind {c : UInt8} {s : Str} (h : c ∉ s) (d : UInt8) : d ∉ behind c s := by
  rw [behind_none h]
  simp
/-- A text without what stands ahead of it. -/
def trimP (p s : Str) : Str := if p.isPrefixOf s then s.drop p.length else s
def onOk (s : Str) : Bool := if 35 ∈ s then nameOk (ahead 35 s) && nameOk (behind 35 s) else nameOk (trimP [94] s)
theorem indexByte_eq (c : UInt8) (s : Str) : Lib.indexByte s c = if c ∈ s then ((ahead c s).length : Int) else -1 := by
  induction s with
  | nil => rfl
  | cons b r ih =>
    simp only [Lib.indexByte]
    by_cases e : b = c
    · subst e
      simp [ahead]
    · have e1 : (b == c) = false := by simpa using e
      simp only [e1, Bool.false_eq_true, if_false]
      have e2 : ahead c (b :: r) = b :: ahead c r := by simp [ahead, e]
      by_cases h : c ∈ r
      · rw [if_pos h] at ih
        rw [ih, if_neg (by simp <;> omega), if_pos (List.mem_cons_of_mem _ h), e2]
        simp
      · rw [if_neg h] at ih
        rw [ih, if_pos (by simp), if_neg]
        intro hm
        rcases List.mem_cons.1 hm with q | q
        · exact e q.symm
        · exact h q
theorem take_ahead (c : UInt8) (s : Str) : s.take (ahead c s).length = ahead c s :=
  (List.prefix_iff_eq_take.1 (List.takeWhile_prefix _)).symm
theorem ahead_lt {c : UInt8} {s : Str} (h : c ∈ s) : (ahead c s).length < s.length := by
  have h1 := ahead_le c s
  rcases Nat.lt_or_ge (ahead c s).length s.length with h2 | h2
  · exact h2
  · have h3 := take_ahead c s
    rw [List.take_of_length_le h2] at h3
    rw [h3] at h
    exact absurd h (ahead_not s)
theorem drop_behind (c : UInt8) (s : Str) : s.drop ((ahead c s).length + 1) = behind c s := by
  have h : s = ahead c s ++ s.dropWhile (· != c) := (List.takeWhile_append_dropWhile).symm
  have h2 : s.drop (ahead c s).length = s.dropWhile (· != c) := by
    rw [congrArg (List.drop (ahead c s).length) h, List.drop_left]
  rw [← List.drop_drop, h2]
  rfl
theorem bytS_head (b : UInt8) (r : Str) : bytS (bs (b :: r)) 0 = some (b.toNat : Int) := by
  have := bytS_bs (b :: r) 0
  simpa using this
theorem c_internal_stringslite_IndexByte (s : Str) (c : UInt8) : out run_internal_stringslite_IndexByte [.one (Cell.str (bs s)), .one (.sc (.int .u8 (c.toNat : Int)))] = some [.one (Cell.int (Lib.indexByte s c))] := by
  simp [out, run_internal_stringslite_IndexByte]
theorem c_internal_stringslite_Index (s : Str) (c : UInt8) : out run_internal_stringslite_Index [.one (Cell.str (bs s)), .one (Cell.str (bs [c]))] = some [.one (Cell.int (Lib.indexByte s c))] := by
  refine out_of (H := []) (run_internal_stringslite_Index_of 0 ?_)
  simp only [internal_stringslite_Index, bytS_head, c_internal_stringslite_IndexByte, callS_canon, callL_canon, Option.map_some, Option.bind_some, shape_one, shape_agg, shape_nil, cellsAt_0, cellsAt_1, cellsAt_2, cellsAt_3, cells_one, cells_agg, cB_zero, cI_zero, cS_zero, cC_zero, cB_cons, cI_cons, cS_cons, cC_cons, cond_true, cond_false, List.length_cons, List.length_nil, beq_self_eq_true, Bool.and_true, Bool.true_and, lenC_encL, lenC_lst, deref_ref, emptyK_nil, bs_size, bs_toList]
  rw [show (((0 + 1 : Nat) : Int) == 0) = false from rfl, show (((0 + 1 : Nat) : Int) == 1) = true from rfl, cond_false, cond_true]
  by_cases h : [c] = s
  · rw [← h]
    simp [Lib.indexByte]
  · rw [show ([c] == s) = false by simpa using h, cond_false]
def cutV (c : UInt8) (s : Str) : List AV := if c ∈ s then [.one (Cell.str (bs (ahead c s))), .one (Cell.str (bs (behind c s))), .one (Cell.bool true)] else [.one (Cell.str (bs s)), .one (Cell.str (bs [])), .one (Cell.bool false)]
theorem c_internal_stringslite_Cut (s : Str) (c : UInt8) (hs : s.length ≤ 1073741824) : out run_internal_stringslite_Cut [.one (Cell.str (bs s)), .one (Cell.str (bs [c]))] = some (cutV c s) := by
  refine out_of (H := []) (run_internal_stringslite_Cut_of 0 ?_)
  simp only [internal_stringslite_Cut, c_internal_stringslite_Index, callS_canon, callL_canon, Option.map_some, Option.bind_some, shape_one, shape_agg, shape_nil, cellsAt_0, cellsAt_1, cellsAt_2, cellsAt_3, cells_one, cells_agg, cB_zero, cI_zero, cS_zero, cC_zero, cB_cons, cI_cons, cS_cons, cC_cons, cond_true, cond_false, List.length_cons, List.length_nil, beq_self_eq_true, Bool.and_true, Bool.true_and, lenC_encL, lenC_lst, deref_ref, emptyK_nil, bs_size, bs_toList]
  rw [indexByte_eq]
  unfold cutV
  by_cases h : c ∈ s
  · have h1 := ahead_lt h
    rw [if_pos h, if_pos h, decide_eq_true (by omega), cond_true]
    have e1 := subS_bs s 0 (ahead c s).length (by omega) (by omega)
    simp only [Int.natCast_zero, List.drop_zero, take_ahead] at e1
    rw [e1]
    simp only [Option.bind_some]
    rw [show (((ahead c s).length : Int) + ((0 + 1 : Nat) : Int)) = (((ahead c s).length + 1 : Nat) : Int) by omega, wrap_small (by omega) (by omega), subS_bs s _ _ (by omega) (Nat.le_refl _), List.take_length, drop_behind]
    rfl
  · rw [if_neg h, if_neg h, decide_eq_false (by omega), cond_false]
theorem c_strings_Cut (s : Str) (c : UInt8) (hs : s.length ≤ 1073741824) : out run_strings_Cut [.one (Cell.str (bs s)), .one (Cell.str (bs [c]))] = some (cutV c s) := by
  refine out_of (H := []) (run_strings_Cut_of 0 ?_)
  simp only [strings_Cut, c_internal_stringslite_Cut s c hs, callS_canon, callL_canon, Option.map_some, Option.bind_some, shape_one, shape_agg, shape_nil, cellsAt_0, cellsAt_1, cellsAt_2, cellsAt_3, cells_one, cells_agg, cB_zero, cI_zero, cS_zero, cC_zero, cB_cons, cI_cons, cS_cons, cC_cons, cond_true, cond_false, List.length_cons, List.length_nil, beq_self_eq_true, Bool.and_true, Bool.true_and, lenC_encL, lenC_lst, deref_ref, emptyK_nil, bs_size, bs_toList]
  unfold cutV
  by_cases h : c ∈ s
  · simp only [if_pos h, callS_canon, callL_canon, Option.map_some, Option.bind_some, shape_one, shape_agg, shape_nil, cellsAt_0, cellsAt_1, cellsAt_2, cellsAt_3, cells_one, cells_agg, cB_zero, cI_zero, cS_zero, cC_zero, cB_cons, cI_cons, cS_cons, cC_cons, cond_true, cond_false, List.length_cons, List.length_nil, beq_self_eq_true, Bool.and_true, Bool.true_and, lenC_encL, lenC_lst, deref_ref, emptyK_nil, bs_size, bs_toList]
  · simp only [if_neg h, callS_canon, callL_canon, Option.map_some, Option.bind_some, shape_one, shape_agg, shape_nil, cellsAt_0, cellsAt_1, cellsAt_2, cellsAt_3, cells_one, cells_agg, cB_zero, cI_zero, cS_zero, cC_zero, cB_cons, cI_cons, cS_cons, cC_cons, cond_true, cond_false, List.length_cons, List.length_nil, beq_self_eq_true, Bool.and_true, Bool.true_and, lenC_encL, lenC_lst, deref_ref, emptyK_nil, bs_size, bs_toList]
theorem c_internal_stringslite_HasPrefix (s p : Str) : out run_internal_stringslite_HasPrefix [.one (Cell.str (bs s)), .one (Cell.str (bs p))] = some [.one (Cell.bool (p.isPrefixOf s))] := by
  refine out_of (H := []) (run_internal_stringslite_HasPrefix_of 0 ?_)
  simp only [internal_stringslite_HasPrefix, callS_canon, callL_canon, Option.map_some, Option.bind_some, shape_one, shape_agg, shape_nil, cellsAt_0, cellsAt_1, cellsAt_2, cellsAt_3, cells_one, cells_agg, cB_zero, cI_zero, cS_zero, cC_zero, cB_cons, cI_cons, cS_cons, cC_cons, cond_true, cond_false, List.length_cons, List.length_nil, beq_self_eq_true, Bool.and_true, Bool.true_and, lenC_encL, lenC_lst, deref_ref, emptyK_nil, bs_size, bs_toList]
  by_cases h : p.length ≤ s.length
  · have e1 := subS_bs s 0 p.length (by omega) h
    simp only [Int.natCast_zero, List.drop_zero] at e1
    rw [decide_eq_true (by omega), cond_true, e1]
    simp only [callS_canon, callL_canon, Option.map_some, Option.bind_some, shape_one, shape_agg, shape_nil, cellsAt_0, cellsAt_1, cellsAt_2, cellsAt_3, cells_one, cells_agg, cB_zero, cI_zero, cS_zero, cC_zero, cB_cons, cI_cons, cS_cons, cC_cons, cond_true, cond_false, List.length_cons, List.length_nil, beq_self_eq_true, Bool.and_true, Bool.true_and, lenC_encL, lenC_lst, deref_ref, emptyK_nil, bs_size, bs_toList]
    congr 5
    rw [Bool.eq_iff_iff, List.isPrefixOf_iff_prefix, List.prefix_iff_eq_take, beq_iff_eq]
    exact eq_comm
  · rw [decide_eq_false (by omega), cond_false]
    congr 5
    symm
    rw [← Bool.not_eq_true, List.isPrefixOf_iff_prefix]
    exact fun hp => h hp.length_le
theorem c_internal_stringslite_TrimPrefix (s p : Str) : out run_internal_stringslite_TrimPrefix [.one (Cell.str (bs s)), .one (Cell.str (bs p))] = some [.one (Cell.str (bs (trimP p s)))] := by
  refine out_of (H := []) (run_internal_stringslite_TrimPrefix_of 0 ?_)
  simp only [internal_stringslite_TrimPrefix, c_internal_stringslite_HasPrefix, callS_canon, callL_canon, Option.map_some, Option.bind_some, shape_one, shape_agg, shape_nil, cellsAt_0, cellsAt_1, cellsAt_2, cellsAt_3, cells_one, cells_agg, cB_zero, cI_zero, cS_zero, cC_zero, cB_cons, cI_cons, cS_cons, cC_cons, cond_true, cond_false, List.length_cons, List.length_nil, beq_self_eq_true, Bool.and_true, Bool.true_and, lenC_encL, lenC_lst, deref_ref, emptyK_nil, bs_size, bs_toList]
  unfold trimP
  cases h : p.isPrefixOf s with
  | true =>
    have hl := (List.isPrefixOf_iff_prefix.1 h).length_le
    rw [cond_true, subS_bs s _ _ hl (Nat.le_refl _), List.take_length]
    rfl
  | false => rfl
theorem c_strings_TrimPrefix (s p : Str) : out run_strings_TrimPrefix [.one (Cell.str (bs s)), .one (Cell.str (bs p))] = some [.one (Cell.str (bs (trimP p s)))] := by
  refine out_of (H := []) (run_strings_TrimPrefix_of 0 ?_)
  simp only [strings_TrimPrefix, c_internal_stringslite_TrimPrefix, callS_canon, callL_canon, Option.map_some, Option.bind_some, shape_one, shape_agg, shape_nil, cellsAt_0, cellsAt_1, cellsAt_2, cellsAt_3, cells_one, cells_agg, cB_zero, cI_zero, cS_zero, cC_zero, cB_cons, cI_cons, cS_cons, cC_cons, cond_true, cond_false, List.length_cons, List.length_nil, beq_self_eq_true, Bool.and_true, Bool.true_and, lenC_encL, lenC_lst, deref_ref, emptyK_nil, bs_size, bs_toList]
theorem c_impl_OnOk (s : Str) (hs : s.length ≤ 1073741824) : out run_impl_OnOk [.one (Cell.str (bs s))] = some [.one (Cell.bool (onOk s))] := by
  have l1 := ahead_le 35 s
  have l2 := behind_le 35 s
  have l3 : (trimP [94] s).length ≤ s.length := by
    unfold trimP
    split <;> simp
  refine out_of (H := []) (run_impl_OnOk_of 0 ?_)
  simp only [impl_OnOk, c_strings_Cut s 35 hs, c_strings_TrimPrefix, c_impl_NameOk _ (Nat.le_trans l3 hs), callS_canon, callL_canon, Option.map_some, Option.bind_some, shape_one, shape_agg, shape_nil, cellsAt_0, cellsAt_1, cellsAt_2, cellsAt_3, cells_one, cells_agg, cB_zero, cI_zero, cS_zero, cC_zero, cB_cons, cI_cons, cS_cons, cC_cons, cond_true, cond_false, List.length_cons, List.length_nil, beq_self_eq_true, Bool.and_true, Bool.true_and, lenC_encL, lenC_lst, deref_ref, emptyK_nil, bs_size, bs_toList]
  unfold cutV onOk
  by_cases h : (35 : UInt8) ∈ s
  · simp only [if_pos h, c_impl_NameOk _ (Nat.le_trans l1 hs), c_impl_NameOk _ (Nat.le_trans l2 hs), callS_canon, callL_canon, Option.map_some, Option.bind_some, shape_one, shape_agg, shape_nil, cellsAt_0, cellsAt_1, cellsAt_2, cellsAt_3, cells_one, cells_agg, cB_zero, cI_zero, cS_zero, cC_zero, cB_cons, cI_cons, cS_cons, cC_cons, cond_true, cond_false, List.length_cons, List.length_nil, beq_self_eq_true, Bool.and_true, Bool.true_and, lenC_encL, lenC_lst, deref_ref, emptyK_nil, bs_size, bs_toList]
    cases nameOk (ahead 35 s) <;> rfl
  · simp only [if_neg h, callS_canon, callL_canon, Option.map_some, Option.bind_some, shape_one, shape_agg, shape_nil, cellsAt_0, cellsAt_1, cellsAt_2, cellsAt_3, cells_one, cells_agg, cB_zero, cI_zero, cS_zero, cC_zero, cB_cons, cI_cons, cS_cons, cC_cons, cond_true, cond_false, List.length_cons, List.length_nil, beq_self_eq_true, Bool.and_true, Bool.true_and, lenC_encL, lenC_lst, deref_ref, emptyK_nil, bs_size, bs_toList]
theorem onOk_hat {r : Str} : onOk (94 :: r) = nameOk r := by
  unfold onOk
  by_cases h : (35 : UInt8) ∈ r
  · rw [if_pos (by simp [h])]
    have e1 : ahead 35 (94 :: r) = 94 :: ahead 35 r := by simp [ahead]
    have e2 : nameOk (ahead 35 (94 :: r)) = false := by
      cases e : nameOk (ahead 35 (94 :: r)) with
      | false => rfl
      | true => exact absurd (by rw [e1]; simp) (nameOk_not e).2
    have e3 : nameOk r = false := by
      cases e : nameOk r with
      | false => rfl
      | true => exact absurd h (nameOk_not e).1
    rw [e2, e3, Bool.false_and]
  · rw [if_neg (by simpa using h)]
    simp [trimP]
theorem onOk_else {s : Str} (hh : s.head? ≠ some 94) : onOk s = if (split 35 s).length = 2 then nameOk (ahead 35 s) && nameOk (behind 35 s) else nameOk s := by
  have ht : trimP [94] s = s := by
    unfold trimP
    rw [if_neg]
    cases s with
    | nil => simp
    | cons b r => simp at hh; simp [Ne.symm hh]
  unfold onOk
  by_cases h : (35 : UInt8) ∈ s
  · rw [if_pos h, split_cut h]
    by_cases h2 : (35 : UInt8) ∈ behind 35 s
    · rw [split_cut h2]
      have hn : (split 35 (behind 35 (behind 35 s))).length ≠ 0 := fun e => splitGo_ne _ _ (List.length_eq_zero_iff.1 e)
      rw [if_neg (by simp only [List.length_cons]; omega)]
      have e2 : nameOk (behind 35 s) = false := by
        cases e : nameOk (behind 35 s) with
        | false => rfl
        | true => exact absurd h2 (nameOk_not e).1
      have e3 : nameOk s = false := by
        cases e : nameOk s with
        | false => rfl
        | true => exact absurd h (nameOk_not e).1
      rw [e2, e3, Bool.and_false]
    · rw [split_not h2]
      exact (if_pos (by rfl)).symm
  · rw [if_neg h, split_not h, if_neg (by simp), ht]
theorem c_spec_OnOk (s : Str) (hs : s.length ≤ 1073741824) : out run_spec_OnOk [.one (Cell.str (bs s))] = some [.one (Cell.bool (onOk s))] := by
  have l1 := ahead_le 35 s
  have l2 := behind_le 35 s
  refine out_of (H := []) (run_spec_OnOk_of 0 ?_)
  have e35 : (35 : Int) = ((35 : UInt8).toNat : Int) := rfl
  have z0 : ∀ (x : Str) (r : List Str), idxA 1 (strsC (x :: r)) 0 = some (.ref (eStr x) 0) := fun x r => by
    have := idxA_encL 1 eStr (x :: r) 0
    simpa using this
  have z1 : ∀ (x y : Str) (r : List Str), idxA 1 (strsC (x :: y :: r)) 1 = some (.ref (eStr y) 0) := fun x y r => by
    have := idxA_encL 1 eStr (x :: y :: r) 1
    simpa using this
  have hsp := c_spec_Split s 35 hs
  rw [← e35] at hsp
  -- what stands behind the first test
  have rest : s.head? ≠ some 94 → ((outL run_spec_Split [.one (Cell.str (bs s)), .one (.sc (.int .u8 35))]).map fun xs => (xs, ([] : List Entry))) = some ([.one (strsC (split 35 s))], []) := fun _ => by rw [hsp]; rfl
  cases s with
  | nil =>
    have hn : split 35 ([] : Str) = [[]] := rfl
    rw [hn] at hsp
    simp only [spec_OnOk, hsp, callS_canon, callL_canon, Option.map_some, Option.bind_some, shape_one, shape_agg, shape_nil, cellsAt_0, cellsAt_1, cellsAt_2, cellsAt_3, cells_one, cells_agg, cB_zero, cI_zero, cS_zero, cC_zero, cB_cons, cI_cons, cS_cons, cC_cons, cond_true, cond_false, List.length_cons, List.length_nil, beq_self_eq_true, Bool.and_true, Bool.true_and, lenC_encL, lenC_lst, deref_ref, emptyK_nil, bs_size, bs_toList]
    rw [show decide (((0 : Nat) : Int) > 0) = false from rfl, show (((0 + 1 : Nat) : Int) == 2) = false from rfl, cond_false, cond_false]
    simp only [c_spec_NameOk [] (by simp), callS_canon, callL_canon, Option.map_some, Option.bind_some, shape_one, shape_agg, shape_nil, cellsAt_0, cellsAt_1, cellsAt_2, cellsAt_3, cells_one, cells_agg, cB_zero, cI_zero, cS_zero, cC_zero, cB_cons, cI_cons, cS_cons, cC_cons, cond_true, cond_false, List.length_cons, List.length_nil, beq_self_eq_true, Bool.and_true, Bool.true_and, lenC_encL, lenC_lst, deref_ref, emptyK_nil, bs_size, bs_toList]
    rfl
  | cons b r =>
    simp only [spec_OnOk, bytS_head, callS_canon, callL_canon, Option.map_some, Option.bind_some, shape_one, shape_agg, shape_nil, cellsAt_0, cellsAt_1, cellsAt_2, cellsAt_3, cells_one, cells_agg, cB_zero, cI_zero, cS_zero, cC_zero, cB_cons, cI_cons, cS_cons, cC_cons, cond_true, cond_false, List.length_cons, List.length_nil, beq_self_eq_true, Bool.and_true, Bool.true_and, lenC_encL, lenC_lst, deref_ref, emptyK_nil, bs_size, bs_toList]
    rw [decide_eq_true (by omega), cond_true]
    have hb := u8_eq b 94 (by omega)
    have hb : ((b.toNat : Int) == 94) = (b == 94) := hb
    rw [hb]
    by_cases e : b = 94
    · subst e
      simp only [beq_self_eq_true, cond_true]
      have e1 := subS_bs (94 :: r) 1 (r.length + 1) (by omega) (by simp)
      simp only [List.length_cons] at hs
      simp only [Int.natCast_one, List.take_succ_cons, List.take_length, List.drop_succ_cons, List.drop_zero] at e1
      rw [e1]
      simp only [c_spec_NameOk r (by omega), callS_canon, callL_canon, Option.map_some, Option.bind_some, shape_one, shape_agg, shape_nil, cellsAt_0, cellsAt_1, cellsAt_2, cellsAt_3, cells_one, cells_agg, cB_zero, cI_zero, cS_zero, cC_zero, cB_cons, cI_cons, cS_cons, cC_cons, cond_true, cond_false, List.length_cons, List.length_nil, beq_self_eq_true, Bool.and_true, Bool.true_and, lenC_encL, lenC_lst, deref_ref, emptyK_nil, bs_size, bs_toList, onOk_hat]
    · rw [show (b == 94) = false by simpa using e, cond_false, onOk_else (by simpa using e)]
      simp only [hsp, callS_canon, callL_canon, Option.map_some, Option.bind_some, shape_one, shape_agg, shape_nil, cellsAt_0, cellsAt_1, cellsAt_2, cellsAt_3, cells_one, cells_agg, cB_zero, cI_zero, cS_zero, cC_zero, cB_cons, cI_cons, cS_cons, cC_cons, cond_true, cond_false, List.length_cons, List.length_nil, beq_self_eq_true, Bool.and_true, Bool.true_and, lenC_encL, lenC_lst, deref_ref, emptyK_nil, bs_size, bs_toList]
      by_cases h : (35 : UInt8) ∈ (b :: r)
      · rw [split_cut h]
        by_cases h2 : (35 : UInt8) ∈ behind 35 (b :: r)
        · have hn : (split 35 (behind 35 (b :: r))).length ≠ 1 := by
            rw [split_cut h2]
            have hn : (split 35 (behind 35 (behind 35 (b :: r)))).length ≠ 0 := fun e => splitGo_ne _ _ (List.length_eq_zero_iff.1 e)
            simp only [List.length_cons]; omega
          rw [if_neg (by simp only [List.length_cons]; omega)]
          simp only [List.length_cons]
          rw [show ((((split 35 (behind 35 (b :: r))).length + 1 : Nat) : Int) == 2) = false by simp; omega, cond_false]
          simp only [c_spec_NameOk _ hs, callS_canon, callL_canon, Option.map_some, Option.bind_some, shape_one, shape_agg, shape_nil, cellsAt_0, cellsAt_1, cellsAt_2, cellsAt_3, cells_one, cells_agg, cB_zero, cI_zero, cS_zero, cC_zero, cB_cons, cI_cons, cS_cons, cC_cons, cond_true, cond_false, List.length_cons, List.length_nil, beq_self_eq_true, Bool.and_true, Bool.true_and, lenC_encL, lenC_lst, deref_ref, emptyK_nil, bs_size, bs_toList]
        · rw [split_not h2, if_pos (show ([ahead 35 (b :: r), behind 35 (b :: r)] : List Str).length = 2 from rfl)]
          simp only [List.length_cons, List.length_nil]
          rw [show (((0 + 1 + 1 : Nat) : Int) == 2) = true from rfl, cond_true]
          simp only [z0, z1, eStr, c_spec_NameOk _ (Nat.le_trans l1 hs), c_spec_NameOk _ (Nat.le_trans l2 hs), callS_canon, callL_canon, Option.map_some, Option.bind_some, shape_one, shape_agg, shape_nil, cellsAt_0, cellsAt_1, cellsAt_2, cellsAt_3, cells_one, cells_agg, cB_zero, cI_zero, cS_zero, cC_zero, cB_cons, cI_cons, cS_cons, cC_cons, cond_true, cond_false, List.length_cons, List.length_nil, beq_self_eq_true, Bool.and_true, Bool.true_and, lenC_encL, lenC_lst, deref_ref, emptyK_nil, bs_size, bs_toList]
          cases nameOk (ahead 35 (b :: r)) <;> rfl
      · rw [split_not h, if_neg (by simp)]
        simp only [List.length_cons, List.length_nil]
        rw [show (((0 + 1 : Nat) : Int) == 2) = false from rfl, cond_false]
        simp only [c_spec_NameOk _ hs, callS_canon, callL_canon, Option.map_some, Option.bind_some, shape_one, shape_agg, shape_nil, cellsAt_0, cellsAt_1, cellsAt_2, cellsAt_3, cells_one, cells_agg, cB_zero, cI_zero, cS_zero, cC_zero, cB_cons, cI_cons, cS_cons, cC_cons, cond_true, cond_false, List.length_cons, List.length_nil, beq_self_eq_true, Bool.and_true, Bool.true_and, lenC_encL, lenC_lst, deref_ref, emptyK_nil, bs_size, bs_toList]
/-! the order of texts -/
def lt (a b : Str) : Bool := Op.bytesLess a b
theorem lt_self (a : Str) : lt a a = false := by
  unfold lt
  induction a with
  | nil => rfl
  | cons x a ih => simp [Op.bytesLess, ih]
theorem lt_not : ∀ (a b : Str), (lt a b || a == b) = !lt b a := by
  unfold lt
  intro a
  induction a with
  | nil => intro b; cases b <;> rfl
  | cons x a ih =>
    intro b
    cases b with
    | nil => rfl
    | cons y b =>
      have h := ih b
      simp only [Op.bytesLess]
      have e : ((x :: a) == (y :: b)) = (x == y && a == b) := rfl
      rw [e]
      rcases Nat.lt_trichotomy x.toNat y.toNat with h1 | h1 | h1
      · have e1 : decide (x < y) = true := by simpa [UInt8.lt_iff_toNat_lt] using h1
        have e2 : decide (y < x) = false := by simp [UInt8.lt_iff_toNat_lt]; omega
        have e3 : (y == x) = false := by simp; intro e; rw [e] at h1; omega
        simp [e1, e2, e3]
      · have e0 := UInt8.toNat_inj.1 h1
        subst e0
        have e1 : decide (x < x) = false := by simp
        simp only [e1, Bool.false_or, beq_self_eq_true, Bool.true_and, h]
      · have e1 : decide (y < x) = true := by simpa [UInt8.lt_iff_toNat_lt] using h1
        have e2 : decide (x < y) = false := by simp [UInt8.lt_iff_toNat_lt]; omega
        have e3 : (x == y) = false := by simp; intro e; rw [e] at h1; omega
        simp [e1, e2, e3]
theorem bl_eq (a b : Str) : Op.bytesLess a b = lt a b := rfl
/-- Ascending, each text once. -/
def asc : List Str → Bool
  | [] => true
  | [_] => true
  | a :: b :: r => lt a b && asc (b :: r)
theorem wrap_pred {i : Nat} (h : i < Go.maxLen) : IntKind.i64.wrap (((i + 1 : Nat) : Int) - 1) = (i : Int) := by
  have := maxLen_eq
  rw [wrap_small (by omega) (by omega)]
  omega
/-- The place of the first element that answers. -/
def idxF {α : Type} (p : α → Bool) : List α → Nat → Int
  | [], _ => -1
  | x :: r, i => cond (p x) (i : Int) (idxF p r (i + 1))
theorem idxF_find {α : Type} (p : α → Bool) : ∀ (l : List α) (i : Nat), (idxF p l i = -1 ∧ l.find? p = none) ∨ ∃ (j : Nat) (x : α), idxF p l i = ((i + j : Nat) : Int) ∧ l[j]? = some x ∧ l.find? p = some x := by
  intro l
  induction l with
  | nil => intro i; exact .inl ⟨rfl, rfl⟩
  | cons b r ih =>
    intro i
    by_cases e : p b = true
    · exact .inr ⟨0, b, by simp [idxF, e], rfl, by simp [e]⟩
    · rcases ih (i + 1) with ⟨h1, h2⟩ | ⟨j, x, h1, h2, h3⟩
      · exact .inl ⟨by simp [idxF, e, h1], by simp [e, h2]⟩
      · exact .inr ⟨j + 1, x, by simp only [idxF, Bool.eq_false_iff.2 e, cond_false, h1]; congr 1; omega, by simpa using h2, by simp [e, h3]⟩
/-! texts in their order, each once -/
theorem lt_iff : ∀ (a b : Str), lt a b = true ↔ a < b := by
  intro a
  unfold lt
  induction a with
  | nil => intro b; cases b <;> simp [Op.bytesLess]
  | cons x a ih =>
    intro b
    cases b with
    | nil => simp [Op.bytesLess]
    | cons y b => rw [List.cons_lt_cons_iff, ← ih b]; simp [Op.bytesLess]
theorem strict_unique : ∀ {a b : List Str}, a.Pairwise (· < ·) → b.Pairwise (· < ·) → (∀ x, x ∈ a ↔ x ∈ b) → a = b := by
  intro a
  induction a with
  | nil =>
    intro b _ _ h
    cases b with
    | nil => rfl
    | cons y b => exact absurd ((h y).2 List.mem_cons_self) (by simp)
  | cons x a ih =>
    intro b ha hb h
    cases b with
    | nil => exact absurd ((h x).1 List.mem_cons_self) (by simp)
    | cons y b =>
      obtain ⟨a1, a2⟩ := List.pairwise_cons.1 ha
      obtain ⟨b1, b2⟩ := List.pairwise_cons.1 hb
      have hxy : x = y := by
        rcases List.mem_cons.1 ((h x).1 List.mem_cons_self) with e | e
        · exact e
        · rcases List.mem_cons.1 ((h y).2 List.mem_cons_self) with e' | e'
          · exact e'.symm
          · exact absurd (List.lt_trans (b1 x e) (a1 y e')) (List.lt_irrefl _)
      subst hxy
      congr 1
      refine ih a2 b2 fun z => ⟨fun hz => ?_, fun hz => ?_⟩
      · rcases List.mem_cons.1 ((h z).1 (List.mem_cons_of_mem _ hz)) with rfl | e
        · exact absurd (a1 z hz) (List.lt_irrefl _)
        · exact e
      · rcases List.mem_cons.1 ((h z).2 (List.mem_cons_of_mem _ hz)) with rfl | e
        · exact absurd (b1 z hz) (List.lt_irrefl _)
        · exact e
def sortedU (xs : List Str) : List Str := Lib.compact (sortS xs)
theorem sortedU_spec (xs : List Str) : (sortedU xs).Pairwise (· < ·) ∧ ∀ x, x ∈ sortedU xs ↔ x ∈ xs := by
  have hp : (sortS xs).Pairwise (fun a b => a ≤ b) := by
    have := List.pairwise_mergeSort (le := fun x y : Str => decide (x ≤ y)) (fun a b c h1 h2 => by simp only [decide_eq_true_eq] at *; exact List.le_trans h1 h2) (fun a b => by simpa using List.le_total a b) xs
    simpa [sortS] using this
  have hm : ∀ x, x ∈ sortS xs ↔ x ∈ xs := fun x => List.mem_mergeSort
  generalize hs : sortS xs = s at hp hm
  have key : ∀ m, m < s.length → ∃ C, Lib.compactUpTo s.toArray (m + 1) = C ++ [s[m]!] ∧ (C ++ [s[m]!]).Pairwise (· < ·) ∧ ∀ x, x ∈ C ++ [s[m]!] ↔ x ∈ s.take (m + 1) := by
    intro m
    induction m with
    | zero =>
      intro h
      obtain ⟨x, r, rfl⟩ : ∃ x r, s = x :: r := by cases s with | nil => simp at h | cons x r => exact ⟨x, r, rfl⟩
      exact ⟨[], by rw [Lib.compactUpTo_succ]; simp [Lib.compactUpTo, Lib.keeps], by simp, by simp⟩
    | succ m ih =>
      intro h
      obtain ⟨C, h1, h2, h3⟩ := ih (by omega)
      have e0 : s[m]! = s[m] := by simp [show m < s.length by omega]
      have e1 : s[m + 1]! = s[m + 1] := by simp [h]
      have ht : s.take (m + 1 + 1) = s.take (m + 1) ++ [s[m + 1]] := by rw [List.take_add_one, List.getElem?_eq_getElem h]; rfl
      have hle : s[m] ≤ s[m + 1] := List.pairwise_iff_getElem.1 hp m (m + 1) (by omega) h (by omega)
      rw [Lib.compactUpTo_succ, h1]
      have hk : Lib.keeps s.toArray (m + 1) = decide (s[m + 1] ≠ s[m]) := by
        simp [Lib.keeps, h, show m < s.length by omega]
      rw [hk, e1, ht]
      by_cases he : s[m + 1] = s[m]
      · refine ⟨C, by simp [he, e0], by rw [he, ← e0]; exact h2, fun x => ?_⟩
        have h4 := h3 x
        rw [e0] at h4
        rw [he]
        constructor
        · exact fun h => List.mem_append_left _ (h4.1 h)
        · intro h
          rcases List.mem_append.1 h with h | h
          · exact h4.2 h
          · exact List.mem_append_right _ h
      · refine ⟨C ++ [s[m]!], by simp [he, h], ?_, fun x => ?_⟩
        · refine List.pairwise_append.2 ⟨h2, by simp, fun a ha b hb => ?_⟩
          simp only [List.mem_singleton] at hb
          subst hb
          have hlt : s[m] < s[m + 1] := by
            rcases Classical.em (s[m] < s[m + 1]) with h | h
            · exact h
            · exact absurd (List.le_antisymm (List.not_lt.1 h) hle) he
          rcases List.mem_append.1 ha with ha | ha
          · have := (List.pairwise_append.1 h2).2.2 a ha s[m]! (by simp)
            rw [e0] at this
            exact List.lt_trans this hlt
          · simp only [List.mem_singleton] at ha
            rw [ha, e0]
            exact hlt
        · rw [List.mem_append, h3 x, List.mem_append]
  unfold sortedU
  rw [hs]
  cases hl : s.length with
  | zero =>
    have : s = [] := List.eq_nil_of_length_eq_zero hl
    subst this
    exact ⟨by simp [Lib.compact, Lib.compactUpTo], fun x => by rw [← hm x]; simp [Lib.compact, Lib.compactUpTo]⟩
  | succ m =>
    obtain ⟨C, h1, h2, h3⟩ := key m (by omega)
    have he : Lib.compact s = C ++ [s[m]!] := by rw [Lib.compact, hl, h1]
    rw [he]
    refine ⟨h2, fun x => ?_⟩
    rw [h3 x, ← hm x, List.take_of_length_le (by omega)]
theorem sortedU_unique {o xs : List Str} (h1 : o.Pairwise (· < ·)) (h2 : ∀ x, x ∈ o ↔ x ∈ xs) : o = sortedU xs :=
  strict_unique h1 (sortedU_spec xs).1 fun x => (h2 x).trans ((sortedU_spec xs).2 x).symm
theorem sortedU_le (xs : List Str) : (sortedU xs).length ≤ xs.length := Nat.le_trans (compact_le _) (Nat.le_of_eq (List.length_mergeSort xs))
def taskName (p t : Str) : Str := p ++ [35] ++ t
theorem c_strings_Index (s : Str) (c : UInt8) : out run_strings_Index [.one (Cell.str (bs s)), .one (Cell.str (bs [c]))] = some [.one (Cell.int (Lib.indexByte s c))] := by
  refine out_of (H := []) (run_strings_Index_of 0 ?_)
  simp only [strings_Index, c_internal_stringslite_Index, callS_canon, callL_canon, Option.map_some, Option.bind_some, shape_one, shape_agg, shape_nil, cellsAt_0, cellsAt_1, cellsAt_2, cellsAt_3, cells_one, cells_agg, cB_zero, cI_zero, cS_zero, cC_zero, cB_cons, cI_cons, cS_cons, cC_cons, cond_true, cond_false, List.length_cons, List.length_nil, beq_self_eq_true, Bool.and_true, Bool.true_and, lenC_encL, lenC_lst, deref_ref, emptyK_nil, bs_size, bs_toList]
theorem c_strings_Count (s : Str) (c : UInt8) : out run_strings_Count [.one (Cell.str (bs s)), .one (Cell.str (bs [c]))] = some [.one (Cell.int ((s.count c : Nat) : Int))] := by
  refine out_of (H := []) ?_
  show run_count _ _ = _
  simp only [run_count, bs_data]
  rfl
theorem count_cut {c : UInt8} {s : Str} (h : c ∈ s) : s.count c = (behind c s).count c + 1 := by
  induction s with
  | nil => simp at h
  | cons b r ih =>
    by_cases e : b = c
    · subst e
      simp [behind, List.dropWhile_cons]
    · have hr : c ∈ r := by
        rcases List.mem_cons.1 h with h | h
        · exact absurd h.symm e
        · exact h
      have hb : behind c (b :: r) = behind c r := by
        have : (b != c) = true := by simpa using e
        simp [behind, List.dropWhile_cons, this]
      rw [hb, List.count_cons, ih hr]
      simp [e]
theorem count_not {c : UInt8} {s : Str} (h : c ∉ s) : s.count c = 0 := List.count_eq_zero.2 h
theorem split_len (c : UInt8) : ∀ (n : Nat) (s : Str), s.length ≤ n → (split c s).length = s.count c + 1 := by
  intro n
  induction n with
  | zero =>
    intro s h
    have : s = [] := List.eq_nil_of_length_eq_zero (by omega)
    subst this
    rfl
  | succ n ih =>
    intro s h
    by_cases hc : c ∈ s
    · have hl : (behind c s).length < s.length := by
        have := ahead_lt hc
        have h2 := drop_behind c s
        rw [← h2, List.length_drop]
        omega
      rw [split_cut hc, List.length_cons, ih _ (by omega), count_cut hc]
    · rw [split_not hc, count_not hc]
      rfl
theorem c_strings_genSplit (s : Str) (c : UInt8) (hs : s.length ≤ 1073741824) : outL run_strings_genSplit [.one (Cell.str (bs s)), .one (Cell.str (bs [c])), .one (Cell.int 0), .one (Cell.int (-1))] = some [.one (strsC (split c s))] := by
  have hM := maxLen_eq
  have hct : s.count c ≤ s.length := List.count_le_length
  have hsl := split_len c s.length s (Nat.le_refl _)
  have hput : ∀ (rows : List (List Cell)) (i : Nat) (row : List Cell) (y : Str), rows[i]? = some row → row.length = 1 → hStore [Entry.mk 1 rows 0 false] (.ptr 0 1 i 0 0) [Cell.str (bs y)] = some [Entry.mk 1 (rows.set i (eStr y)) 0 false] := by
    intro rows i row y h hr
    simp only [hStore, entry?, List.getElem?_cons_zero, if_true, h]
    rw [if_pos ⟨trivial, by simp, trivial⟩]
    simp [splice, eStr, hr, List.drop_eq_nil_of_le]
  have loop : ∀ (d : Nat) (r : Str) (done : List Str) (n : Nat), r.count c = d → done.length + d = s.count c → r.length ≤ s.length → split c s = done ++ split c r → d < n → ∀ k m,
      strings_genSplit_l0 k m n (bs r) (bs [c]) 0 ((s.count c : Nat) : Int) (.vs 0 1 0 (s.count c + 1) 0) ((done.length : Nat) : Int) [Entry.mk 1 (done.map eStr ++ List.replicate (d + 1) [Cell.str (bs [])]) 0 false] =
        some ([.one (.vs 0 1 0 (s.count c + 1) 0)], [Entry.mk 1 ((split c s).map eStr) 0 false]) := by
    intro d
    induction d with
    | zero =>
      intro r done n hc hd hr hsp hn k m
      obtain ⟨n, rfl⟩ : ∃ j, n = j + 1 := ⟨n - 1, by omega⟩
      have hnc : c ∉ r := List.count_eq_zero.1 hc
      simp only [strings_genSplit_l0]
      rw [decide_eq_false (by omega), cond_false]
      have hrow : (done.map eStr ++ List.replicate (0 + 1) [Cell.str (bs [])])[done.length]? = some [Cell.str (bs [])] := by simp
      simp only [idxA_vs 0 1 (s.count c + 1) 0 done.length (by omega), Option.bind_some, hput _ _ _ r hrow rfl]
      have hset : (done.map eStr ++ List.replicate (0 + 1) [Cell.str (bs [])]).set done.length (eStr r) = (split c s).map eStr := by
        rw [hsp, split_not hnc, List.set_append_right _ _ (by simp)]
        simp
      rw [hset, show IntKind.i64.wrap ((done.length : Int) + 1) = ((s.count c + 1 : Nat) : Int) by rw [wrap_succ (by omega)]; omega]
      have hsl' : slcC 1 (.vs 0 1 0 (s.count c + 1) 0) 0 (some ((s.count c + 1 : Nat) : Int)) none = some (.vs 0 1 0 (s.count c + 1) 0) := by
        simp only [slcC, Option.getD_some, Option.getD_none, if_true]
        rw [if_pos ⟨by omega, by omega, by omega, by omega⟩, if_pos (.inl trivial)]
        simp
      rw [hsl']
      rfl
    | succ d ih =>
      intro r done n hc hd hr hsp hn k m
      obtain ⟨n, rfl⟩ : ∃ j, n = j + 1 := ⟨n - 1, by omega⟩
      have hmem : c ∈ r := by
        rcases Classical.em (c ∈ r) with h | h
        · exact h
        · have := count_not h; omega
      have hal := ahead_lt hmem
      have hbl := behind_le c r
      simp only [strings_genSplit_l0]
      rw [decide_eq_true (by omega), cond_true]
      have e0 : Lib.indexByte r c = ((ahead c r).length : Int) := by rw [indexByte_eq, if_pos hmem]
      simp only [c_strings_Index, e0, callS_canon, callL_canon, Option.map_some, Option.bind_some, shape_one, shape_agg, shape_nil, cellsAt_0, cellsAt_1, cellsAt_2, cellsAt_3, cells_one, cells_agg, cB_zero, cI_zero, cS_zero, cC_zero, cB_cons, cI_cons, cS_cons, cC_cons, cond_true, cond_false, List.length_cons, List.length_nil, beq_self_eq_true, Bool.and_true, Bool.true_and, lenC_encL, lenC_lst, deref_ref, emptyK_nil, bs_size, bs_toList]
      rw [decide_eq_false (by omega), cond_false]
      have e1 := subS_bs r 0 (ahead c r).length (by omega) (by omega)
      simp only [Int.natCast_zero, List.drop_zero, take_ahead] at e1
      rw [show IntKind.i64.wrap (((ahead c r).length : Int) + 0) = ((ahead c r).length : Int) by rw [Int.add_zero]; exact wrap_small (by omega) (by omega), e1]
      have hrow : (done.map eStr ++ List.replicate (d + 1 + 1) [Cell.str (bs [])])[done.length]? = some [Cell.str (bs [])] := by simp
      simp only [Option.bind_some, idxA_vs 0 1 (s.count c + 1) 0 done.length (by omega), hput _ _ _ (ahead c r) hrow rfl]
      have e2 := subS_bs r ((ahead c r).length + 1) r.length (by omega) (Nat.le_refl _)
      rw [List.take_length, drop_behind] at e2
      rw [show IntKind.i64.wrap (((ahead c r).length : Int) + ((0 + 1 : Nat) : Int)) = (((ahead c r).length + 1 : Nat) : Int) by rw [wrap_small (by omega) (by omega)]; omega, e2, wrap_succ (by omega)]
      simp only [Option.bind_some]
      have hset : (done.map eStr ++ List.replicate (d + 1 + 1) [Cell.str (bs [])]).set done.length (eStr (ahead c r)) = (done ++ [ahead c r]).map eStr ++ List.replicate (d + 1) [Cell.str (bs [])] := by
        rw [List.set_append_right _ _ (by simp)]
        simp [List.replicate_succ]
      rw [hset]
      have := ih (behind c r) (done ++ [ahead c r]) n (by have := count_cut hmem; omega) (by simp; omega) (by omega) (by rw [hsp, split_cut hmem]; simp) (by omega) k m
      rw [show (done ++ [ahead c r]).length = done.length + 1 by simp] at this
      exact this
  have hmin : (if IntKind.i64.wrap ((s.length : Int) + 1) < IntKind.i64.wrap (((s.count c : Nat) : Int) + 1) then IntKind.i64.wrap ((s.length : Int) + 1) else IntKind.i64.wrap (((s.count c : Nat) : Int) + 1)) = ((s.count c + 1 : Nat) : Int) := by
    rw [wrap_succ (by omega), wrap_succ (by omega), if_neg (by omega)]
  have z := loop (s.count c) s [] (s.count c + 1 + 1) rfl (by simp) (Nat.le_refl _) (by simp) (by omega) (s.count c + 1 + 1) (s.count c + 1 + 1)
  refine outL_of (H := [Entry.mk 1 ((split c s).map eStr) 0 false]) (xs := [.one (.vs 0 1 0 (s.count c + 1) 0)]) (run_strings_genSplit_of (s.count c + 1) ?_) ?_
  · simp only [strings_genSplit]
    rw [show ((-1 : Int) == 0) = false from rfl, cond_false]
    simp only [bs_toList]
    rw [show (([c] : Str) == []) = false from rfl, cond_false, show decide ((-1 : Int) < 0) = true from rfl, cond_true]
    simp only [c_strings_Count, callS_canon, callL_canon, Option.map_some, Option.bind_some, shape_one, shape_agg, shape_nil, cellsAt_0, cellsAt_1, cellsAt_2, cellsAt_3, cells_one, cells_agg, cB_zero, cI_zero, cS_zero, cC_zero, cB_cons, cI_cons, cS_cons, cC_cons, cond_true, cond_false, List.length_cons, List.length_nil, beq_self_eq_true, Bool.and_true, Bool.true_and, lenC_encL, lenC_lst, deref_ref, emptyK_nil, bs_size, bs_toList, hmin]
    rw [if_pos ⟨by omega, by omega, by unfold bound; omega, by unfold bound; omega⟩]
    rw [show IntKind.i64.wrap (((s.count c + 1 : Nat) : Int) - 1) = ((s.count c : Nat) : Int) from wrap_pred (by omega)]
    simpa [mkRows] using z
  · have := reify_vs (sz := 1) eStr (split c s) 0 false
    rw [hsl] at this
    exact this
theorem c_strings_Split (s : Str) (c : UInt8) (hs : s.length ≤ 1073741824) : outL run_strings_Split [.one (Cell.str (bs s)), .one (Cell.str (bs [c]))] = some [.one (strsC (split c s))] := by
  refine outL_canon (H := []) (run_strings_Split_of 0 ?_)
  simp only [strings_Split, c_strings_genSplit s c hs, callS_canon, callL_canon, Option.map_some, Option.bind_some, shape_one, shape_agg, shape_nil, cellsAt_0, cellsAt_1, cellsAt_2, cellsAt_3, cells_one, cells_agg, cB_zero, cI_zero, cS_zero, cC_zero, cB_cons, cI_cons, cS_cons, cC_cons, cond_true, cond_false, List.length_cons, List.length_nil, beq_self_eq_true, Bool.and_true, Bool.true_and, lenC_encL, lenC_lst, deref_ref, emptyK_nil, bs_size, bs_toList]
def isPath (b : UInt8) : Bool := isSmall b || (isFigure b || (b == 46 || (b == 45 || b == 95)))
def fileOk (s : Str) : Bool := s.all isPath && (inR s.length 1 12 && (!(s == [46]) && !(s == [46, 46])))
theorem c_spec_l5Letter (b : UInt8) : out run_spec_l5Letter [.one (.sc (.int .u8 (b.toNat : Int)))] = some [.one (Cell.bool (isPath b))] := by
  refine out_of (H := []) (run_spec_l5Letter_of 0 ?_)
  simp only [spec_l5Letter, c_spec_l1Small, c_spec_l1Digit, callS_canon, callL_canon, Option.map_some, Option.bind_some, shape_one, shape_agg, shape_nil, cellsAt_0, cellsAt_1, cellsAt_2, cellsAt_3, cells_one, cells_agg, cB_zero, cI_zero, cS_zero, cC_zero, cB_cons, cI_cons, cS_cons, cC_cons, cond_true, cond_false, List.length_cons, List.length_nil, beq_self_eq_true, Bool.and_true, Bool.true_and, lenC_encL, lenC_lst, deref_ref, emptyK_nil, bs_size, bs_toList]
  rw [show ((b.toNat : Int) == 46) = (b == 46) from u8_eq b 46 (by omega), show ((b.toNat : Int) == 45) = (b == 45) from u8_eq b 45 (by omega), show ((b.toNat : Int) == 95) = (b == 95) from u8_eq b 95 (by omega)]
  unfold isPath
  cases isSmall b <;> cases isFigure b <;> cases b == 46 <;> cases b == 45 <;> cases b == 95 <;> rfl
theorem c_impl_isPathByte (b : UInt8) : out run_impl_isPathByte [.one (.sc (.int .u8 (b.toNat : Int)))] = some [.one (Cell.bool (isPath b))] := by
  refine out_of (H := []) (run_impl_isPathByte_of 0 ?_)
  simp only [impl_isPathByte, c_impl_isSmall, c_impl_isFigure, callS_canon, callL_canon, Option.map_some, Option.bind_some, shape_one, shape_agg, shape_nil, cellsAt_0, cellsAt_1, cellsAt_2, cellsAt_3, cells_one, cells_agg, cB_zero, cI_zero, cS_zero, cC_zero, cB_cons, cI_cons, cS_cons, cC_cons, cond_true, cond_false, List.length_cons, List.length_nil, beq_self_eq_true, Bool.and_true, Bool.true_and, lenC_encL, lenC_lst, deref_ref, emptyK_nil, bs_size, bs_toList]
  rw [show ((b.toNat : Int) == 46) = (b == 46) from u8_eq b 46 (by omega), show ((b.toNat : Int) == 45) = (b == 45) from u8_eq b 45 (by omega), show ((b.toNat : Int) == 95) = (b == 95) from u8_eq b 95 (by omega)]
  unfold isPath
  cases isSmall b <;> cases isFigure b <;> cases b == 46 <;> cases b == 45 <;> cases b == 95 <;> rfl
theorem last_at {W : List Str} (h : 0 < W.length) (k : Nat) (hk : k < W.length) : ∃ x, W[k]? = some x := ⟨W[k], List.getElem?_eq_getElem hk⟩
theorem wrap_sub {n k : Nat} (h : k ≤ n) (hn : n ≤ 1073741824 + 1) : IntKind.i64.wrap ((n : Int) - (k : Int)) = ((n - k : Nat) : Int) := by
  rw [wrap_small (by omega) (by omega)]
  omega
def hasNil (W : List Str) : Bool := W.contains []
theorem hasNil_mem (W : List Str) : hasNil W = true ↔ [] ∈ W := by unfold hasNil; simp
theorem hasNil_cons (w : Str) (W : List Str) : hasNil (w :: W) = ((w == []) || hasNil W) := by
  unfold hasNil
  rw [List.contains_cons]
  cases w <;> rfl
def actKind (w : Str) (n : Nat) (into : Bool) : Bool :=
  bif w == [112, 117, 116] then decide (2 ≤ n) && into
  else bif w == [99, 97, 116] then inR n 2 4 && into
  else bif w == [101, 110, 118] then decide (n = 2) && into
  else bif w == [117, 115, 101] then decide (n = 3) && into
  else bif w == [108, 111, 103] then decide (2 ≤ n) && !into
  else bif w == [102, 97, 105, 108] then decide (n = 1) && !into
  else false
def actW (W : List Str) : Bool := !hasNil W && bif decide (3 ≤ W.length) && (W[W.length - 2]? == some [62]) then fileOk ((W[W.length - 1]?).getD []) && actKind ((W[0]?).getD []) (W.length - 2) true else actKind ((W[0]?).getD []) W.length false
def actOk (s : Str) : Bool := actW (split 32 s)
theorem n_ge (n k : Nat) : decide ((n : Int) ≥ (k : Int)) = decide (k ≤ n) := by rw [decide_eq_decide]; omega
theorem n_gt (n k : Nat) : decide ((n : Int) > (k : Int)) = decide (k < n) := by rw [decide_eq_decide]; omega
theorem n_eq (n k : Nat) : ((n : Int) == (k : Int)) = decide (n = k) := by rw [Bool.eq_iff_iff]; simp; omega
def kindS (w : Str) (n : Nat) (to lg : Bool) : Bool :=
  bif w == [112, 117, 116] then decide (2 ≤ n) && to
  else bif w == [99, 97, 116] then inR n 2 4 && to
  else bif w == [101, 110, 118] then decide (n = 2) && to
  else bif w == [117, 115, 101] then decide (n = 3) && to
  else bif w == [108, 111, 103] then decide (2 ≤ n) && lg
  else bif w == [102, 97, 105, 108] then decide (n = 1) && lg
  else false
theorem kindS_true (w : Str) (n : Nat) : kindS w n true false = actKind w n true := by
  unfold kindS actKind
  rfl
theorem kindS_false (w : Str) (n : Nat) : kindS w n false true = actKind w n false := by
  unfold kindS actKind
  rfl
theorem kindS_none (w : Str) (n : Nat) : kindS w n false false = false := by
  unfold kindS
  simp
def specB : List Str → Str → Bool → Bool
  | [], _, _ => false
  | w :: l, y, b => !hasNil (w :: l) && kindS w (l.length + 1) (fileOk y) (y == [] && !b)
def pathOk (s : Str) : Bool := (split 47 s).all fileOk && decide ((split 47 s).length ≤ 4)
theorem n_le (n k : Nat) : decide ((n : Int) ≤ (k : Int)) = decide (n ≤ k) := by rw [decide_eq_decide]; omega
def isAl (b : UInt8) : Bool := isSmall b || isFigure b
/-- Behind a bracket: how many bytes up to the closing one. -/
def clsGo : Str → Nat → Option Nat
  | [], _ => none
  | b :: r, c => bif isAl b then (clsGo r (c + 1)).map (· + 1) else bif inR c 1 5 && b == 93 then some 1 else none
theorem clsGo_cons (b : UInt8) (r : Str) (c : Nat) : clsGo (b :: r) c = bif isAl b then (clsGo r (c + 1)).map (· + 1) else bif inR c 1 5 && b == 93 then some 1 else none := rfl
def unitN : Str → Nat
  | [] => 0
  | b :: t => bif b == 91 then (match t with
      | [] => 0
      | d :: t' => bif d == 33 then (match clsGo t' 0 with | some n => n + 2 | none => 0) else (match clsGo (d :: t') 0 with | some n => n + 1 | none => 0))
    else bif isPath b || (b == 63 || b == 42) then 1 else 0
def pieceGo : Nat → Str → Nat → Bool
  | _, [], c => inR c 1 12
  | 0, _ :: _, _ => false
  | n + 1, b :: t, c => bif unitN (b :: t) == 0 then false else pieceGo n ((b :: t).drop (unitN (b :: t))) (c + 1)
def pieceOk (s : Str) : Bool := pieceGo s.length s 0
def globOk (s : Str) : Bool := (split 47 s).all pieceOk && decide ((split 47 s).length ≤ 4)
theorem clsGo_le : ∀ (r : Str) (c n : Nat), clsGo r c = some n → 1 ≤ n ∧ n ≤ r.length := by
  intro r
  induction r with
  | nil => intro c n h; simp [clsGo] at h
  | cons b r ih =>
    intro c n h
    unfold clsGo at h
    cases hb : isAl b with
    | true =>
      rw [hb, cond_true, Option.map_eq_some_iff] at h
      obtain ⟨j, h1, rfl⟩ := h
      obtain ⟨h2, h3⟩ := ih _ _ h1
      simp
      omega
    | false =>
      rw [hb, cond_false] at h
      cases hc : inR (c : Int) 1 5 && b == 93 with
      | true => rw [hc, cond_true] at h; simp only [Option.some.injEq] at h; simp; omega
      | false => rw [hc, cond_false] at h; simp at h
theorem unitN_le (s : Str) : unitN s ≤ s.length := by
  cases s with
  | nil => simp [unitN]
  | cons b t =>
    cases hb : b == 91 with
    | true =>
      cases t with
      | nil => simp only [unitN, hb, cond_true]; omega
      | cons d t' =>
        cases hd : d == 33 with
        | true =>
          simp only [unitN, hb, hd, cond_true]
          split
          · rename_i n h
            have := (clsGo_le _ _ _ h).2
            simp
            omega
          · omega
        | false =>
          simp only [unitN, hb, hd, cond_true, cond_false]
          split
          · rename_i n h
            have := (clsGo_le _ _ _ h).2
            simp at this ⊢
            omega
          · omega
    | false =>
      simp only [unitN, hb, cond_false]
      cases isPath b || (b == 63 || b == 42) <;> simp
theorem u8_int (b : UInt8) (n : Nat) (h : n < 256) : ((b.toNat : Int) == (n : Int)) = (b == UInt8.ofNat n) := u8_eq b n h
theorem c_spec_l6Class (s : Str) (hs : s.length ≤ 1073741824) (i : Nat) (b : UInt8) (t : Str) (hd : s.drop i = b :: t) (hb : b = 91) : out run_spec_l6Class [.one (Cell.str (bs s)), .one (Cell.int i)] = some [.one (Cell.int (if unitN (b :: t) = 0 then -1 else ((i + unitN (b :: t) : Nat) : Int)))] := by
  have hM := maxLen_eq
  have loop : ∀ (r : Str) (j c n : Nat), s.drop j = r → j ≤ s.length → c ≤ j → r.length < n → ∀ k m, spec_l6Class_l0 k m n (bs s) j c = some ([.one (Cell.int (match clsGo r c with | some q => ((j + q : Nat) : Int) | none => -1))], []) := by
    intro r
    induction r with
    | nil =>
      intro j c n hd hj hc hn k m
      obtain ⟨n, rfl⟩ : ∃ q, n = q + 1 := ⟨n - 1, by omega⟩
      have := drop_nil hd
      simp only [spec_l6Class_l0, bs_size]
      rw [decide_eq_false (by omega), cond_false]
      simp only [c_spec_l1In, callS_canon, callL_canon, Option.map_some, Option.bind_some, shape_one, shape_agg, shape_nil, cellsAt_0, cellsAt_1, cellsAt_2, cellsAt_3, cells_one, cells_agg, cB_zero, cI_zero, cS_zero, cC_zero, cB_cons, cI_cons, cS_cons, cC_cons, cond_true, cond_false, List.length_cons, List.length_nil, beq_self_eq_true, Bool.and_true, Bool.true_and, lenC_encL, lenC_lst, deref_ref, emptyK_nil, bs_size, bs_toList]
      rw [decide_eq_true (by omega)]
      cases inR (c : Int) 1 5 <;> rfl
    | cons x r ih =>
      intro j c n hd hj hc hn k m
      obtain ⟨n, rfl⟩ : ∃ q, n = q + 1 := ⟨n - 1, by omega⟩
      obtain ⟨hlt, hg, hd'⟩ := drop_cons hd
      simp only [List.length_cons] at hn
      have z := ih (j + 1) (c + 1) n hd' (by omega) (by omega) (by omega) k m
      have hz : (match clsGo r (c + 1) with | some q => ((j + 1 + q : Nat) : Int) | none => -1) = (match (clsGo r (c + 1)).map (· + 1) with | some q => ((j + q : Nat) : Int) | none => -1) := by
        cases clsGo r (c + 1) with
        | none => rfl
        | some q => simp only [Option.map_some]; congr 1; omega
      simp only [spec_l6Class_l0, bs_size, bytS_bs, hg, Option.map_some, c_spec_l1Small, c_spec_l1Digit, c_spec_l1In, callS_canon, callL_canon, Option.map_some, Option.bind_some, shape_one, shape_agg, shape_nil, cellsAt_0, cellsAt_1, cellsAt_2, cellsAt_3, cells_one, cells_agg, cB_zero, cI_zero, cS_zero, cC_zero, cB_cons, cI_cons, cS_cons, cC_cons, cond_true, cond_false, List.length_cons, List.length_nil, beq_self_eq_true, Bool.and_true, Bool.true_and, lenC_encL, lenC_lst, deref_ref, emptyK_nil, bs_size, bs_toList]
      rw [decide_eq_true (by omega), cond_true, wrap_succ (by omega), wrap_succ (by omega), z, hz]
      rw [show ((x.toNat : Int) != 93) = !(x == 93) from congrArg not (u8_eq x 93 (by omega))]
      rw [clsGo_cons]
      unfold isAl
      cases isSmall x with
      | true => rfl
      | false =>
        cases isFigure x with
        | true => rfl
        | false =>
          rw [decide_eq_false (p := (j : Int) ≥ (s.length : Int)) (by omega)]
          cases inR (c : Int) 1 5 <;> cases x == 93 <;> rfl
  subst hb
  obtain ⟨hlt, hg, hd'⟩ := drop_cons hd
  refine out_of (H := []) (run_spec_l6Class_of (s.length + 1) ?_)
  have hun : ∀ (o : Option Nat) (j : Nat) (p : Nat), (if (match o with | some n => n + p | none => 0) = 0 then (-1 : Int) else ((i + (match o with | some n => n + p | none => 0) : Nat) : Int)) = (match o with | some q => ((i + p + q : Nat) : Int) | none => -1) ∨ p = 0 := by
    intro o j p
    cases o with
    | none => exact .inl rfl
    | some n =>
      by_cases hp : p = 0
      · exact .inr hp
      · refine .inl ?_
        simp only
        rw [if_neg (by omega)]
        congr 1
        omega
  cases t with
  | nil =>
    have := drop_nil hd'
    simp only [spec_l6Class, bs_size]
    rw [wrap_succ (by omega), decide_eq_false (by omega), cond_false]
    have z := loop [] (i + 1) 0 (s.length + 1 + 1) hd' (by omega) (by omega) (by simp) (s.length + 1 + 1) (s.length + 1 + 1)
    exact z
  | cons d t' =>
    obtain ⟨hlt2, hg2, hd2⟩ := drop_cons hd'
    simp only [spec_l6Class, bs_size]
    rw [wrap_succ (by omega), decide_eq_true (by omega), cond_true]
    simp only [bytS_bs, hg2, Option.map_some, Option.bind_some]
    rw [show ((d.toNat : Int) == 33) = (d == 33) from u8_eq d 33 (by omega), wrap_succ (by omega)]
    unfold unitN
    simp only [show ((91 : UInt8) == 91) = true from rfl, cond_true]
    cases d == 33 with
    | true =>
      simp only [cond_true]
      have z := loop t' (i + 1 + 1) 0 (s.length + 1 + 1) hd2 (by omega) (by omega) (by rw [← hd2]; simp; omega) (s.length + 1 + 1) (s.length + 1 + 1)
      rcases hun (clsGo t' 0) 0 2 with h | h
      · rw [h]; exact z
      · omega
    | false =>
      simp only [cond_false]
      have z := loop (d :: t') (i + 1) 0 (s.length + 1 + 1) hd' (by omega) (by omega) (by rw [← hd']; simp; omega) (s.length + 1 + 1) (s.length + 1 + 1)
      rcases hun (clsGo (d :: t') 0) 0 1 with h | h
      · rw [h]; exact z
      · omega
theorem c_spec_l6Piece (s : Str) (hs : s.length ≤ 1073741824) : out run_spec_l6Piece [.one (Cell.str (bs s))] = some [.one (Cell.bool (pieceOk s))] := by
  have hM := maxLen_eq
  have loop : ∀ (d : Nat) (r : Str) (i c n : Nat), r.length ≤ d → s.drop i = r → i ≤ s.length → c ≤ i → d < n → ∀ k m, spec_l6Piece_l0 k m n (bs s) c i = some ([.one (Cell.bool (pieceGo d r c))], []) := by
    intro d
    induction d with
    | zero =>
      intro r i c n hr hd hi hc hn k m
      obtain ⟨n, rfl⟩ : ∃ q, n = q + 1 := ⟨n - 1, by omega⟩
      have : r = [] := List.eq_nil_of_length_eq_zero (by omega)
      subst this
      have := drop_nil hd
      simp only [spec_l6Piece_l0, bs_size]
      rw [decide_eq_false (by omega), cond_false]
      simp only [c_spec_l1In, callS_canon, callL_canon, Option.map_some, Option.bind_some, shape_one, shape_agg, shape_nil, cellsAt_0, cellsAt_1, cellsAt_2, cellsAt_3, cells_one, cells_agg, cB_zero, cI_zero, cS_zero, cC_zero, cB_cons, cI_cons, cS_cons, cC_cons, cond_true, cond_false, List.length_cons, List.length_nil, beq_self_eq_true, Bool.and_true, Bool.true_and, lenC_encL, lenC_lst, deref_ref, emptyK_nil, bs_size, bs_toList, pieceGo]
    | succ d ih =>
      intro r i c n hr hd hi hc hn k m
      obtain ⟨n, rfl⟩ : ∃ q, n = q + 1 := ⟨n - 1, by omega⟩
      cases r with
      | nil =>
        have := drop_nil hd
        simp only [spec_l6Piece_l0, bs_size]
        rw [decide_eq_false (by omega), cond_false]
        simp only [c_spec_l1In, callS_canon, callL_canon, Option.map_some, Option.bind_some, shape_one, shape_agg, shape_nil, cellsAt_0, cellsAt_1, cellsAt_2, cellsAt_3, cells_one, cells_agg, cB_zero, cI_zero, cS_zero, cC_zero, cB_cons, cI_cons, cS_cons, cC_cons, cond_true, cond_false, List.length_cons, List.length_nil, beq_self_eq_true, Bool.and_true, Bool.true_and, lenC_encL, lenC_lst, deref_ref, emptyK_nil, bs_size, bs_toList, pieceGo]
      | cons b t =>
        obtain ⟨hlt, hg, hd'⟩ := drop_cons hd
        have hul := unitN_le (b :: t)
        have hrl : (b :: t).length = s.length - i := by rw [← hd]; simp
        simp only [spec_l6Piece_l0, bs_size, bytS_bs, hg, Option.map_some, c_spec_l5Letter, callS_canon, callL_canon, Option.map_some, Option.bind_some, shape_one, shape_agg, shape_nil, cellsAt_0, cellsAt_1, cellsAt_2, cellsAt_3, cells_one, cells_agg, cB_zero, cI_zero, cS_zero, cC_zero, cB_cons, cI_cons, cS_cons, cC_cons, cond_true, cond_false, List.length_cons, List.length_nil, beq_self_eq_true, Bool.and_true, Bool.true_and, lenC_encL, lenC_lst, deref_ref, emptyK_nil, bs_size, bs_toList]
        rw [decide_eq_true (by omega), cond_true, wrap_succ (by omega), wrap_succ (by omega)]
        rw [show ((b.toNat : Int) == 91) = (b == 91) from u8_eq b 91 (by omega), show ((b.toNat : Int) == 63) = (b == 63) from u8_eq b 63 (by omega), show ((b.toNat : Int) == 42) = (b == 42) from u8_eq b 42 (by omega)]
        cases hb : b == 91 with
        | true =>
          have hb' : b = 91 := by simpa using hb
          simp only [cond_true, c_spec_l6Class s hs i b t hd hb', callS_canon, callL_canon, Option.map_some, Option.bind_some, shape_one, shape_agg, shape_nil, cellsAt_0, cellsAt_1, cellsAt_2, cellsAt_3, cells_one, cells_agg, cB_zero, cI_zero, cS_zero, cC_zero, cB_cons, cI_cons, cS_cons, cC_cons, cond_true, cond_false, List.length_cons, List.length_nil, beq_self_eq_true, Bool.and_true, Bool.true_and, lenC_encL, lenC_lst, deref_ref, emptyK_nil, bs_size, bs_toList]
          unfold pieceGo
          by_cases hu : unitN (b :: t) = 0
          · rw [if_pos hu, hu]
            rfl
          · rw [if_neg hu, decide_eq_false (by omega), cond_false, show (unitN (b :: t) == 0) = false by simpa using hu, cond_false]
            exact ih _ (i + unitN (b :: t)) (c + 1) n (by rw [List.length_drop]; omega) (by rw [← List.drop_drop, hd]) (by omega) (by omega) (by omega) k m
        | false =>
          have hun : unitN (b :: t) = bif isPath b || (b == 63 || b == 42) then 1 else 0 := by
            simp only [unitN, hb, cond_false]
          have z := ih t (i + 1) (c + 1) n (by simp at hr; omega) hd' (by omega) (by omega) (by omega) k m
          unfold pieceGo
          rw [hun]
          simp only [cond_false]
          cases isPath b with
          | true => simp only [cond_true, Bool.true_or, show ((1 : Nat) == 0) = false from rfl, cond_false, List.drop_succ_cons, List.drop_zero]; exact z
          | false =>
            cases b == 63 with
            | true => simp only [cond_true, cond_false, Bool.true_or, Bool.false_or, show ((1 : Nat) == 0) = false from rfl, List.drop_succ_cons, List.drop_zero]; exact z
            | false =>
              cases b == 42 with
              | true => simp only [cond_true, cond_false, Bool.or_true, Bool.false_or, show ((1 : Nat) == 0) = false from rfl, List.drop_succ_cons, List.drop_zero]; exact z
              | false => rfl
  refine out_of (H := []) (run_spec_l6Piece_of (s.length + 1) ?_)
  have z := loop s.length s 0 0 (s.length + 1 + 1) (Nat.le_refl _) rfl (by omega) (by omega) (by omega) (s.length + 1 + 1) (s.length + 1 + 1)
  simpa [spec_l6Piece, pieceOk] using z
theorem c_spec_GlobOk (s : Str) (hs : s.length ≤ 1073741823) : out run_spec_GlobOk [.one (Cell.str (bs s))] = some [.one (Cell.bool (globOk s))] := by
  have hM := maxLen_eq
  have e0 : outL run_spec_Split [.one (Cell.str (bs s)), .one (.sc (.int .u8 47))] = some [.one (strsC (split 47 s))] := c_spec_Split s 47 (by omega)
  have hl := splitGo_length 47 s []
  have hlen : ∀ x ∈ split 47 s, x.length ≤ 1073741824 := fun x hx => Nat.le_trans (hl.2 x hx) (by simp; omega)
  have hll : (split 47 s).length ≤ s.length + 1 := hl.1
  unfold globOk
  generalize split 47 s = W at *
  refine out_of (H := []) (run_spec_GlobOk_of (W.length + 1) ?_)
  simp only [spec_GlobOk, e0, callS_canon, callL_canon, Option.map_some, Option.bind_some, shape_one, shape_agg, shape_nil, cellsAt_0, cellsAt_1, cellsAt_2, cellsAt_3, cells_one, cells_agg, cB_zero, cI_zero, cS_zero, cC_zero, cB_cons, cI_cons, cS_cons, cC_cons, cond_true, cond_false, List.length_cons, List.length_nil, beq_self_eq_true, Bool.and_true, Bool.true_and, lenC_encL, lenC_lst, deref_ref, emptyK_nil, bs_size, bs_toList]
  rw [loop_all W (fun n i => spec_GlobOk_l0 (W.length + 1 + 1) (W.length + 1 + 1) n (strsC W) i []) pieceOk (some ([.one (Cell.bool (decide (W.length ≤ 4)))], [])) (some ([.one (Cell.bool false)], [])) ?_ ?_ _ (by omega)]
  · exact leafC _ _ _
  · intro n i x hx hlt
    simp only [spec_GlobOk_l0, lenC_encL, idxA_encL, hx, eStr, c_spec_l6Piece x (hlen x (List.mem_of_getElem? hx)), callS_canon, callL_canon, Option.map_some, Option.bind_some, shape_one, shape_agg, shape_nil, cellsAt_0, cellsAt_1, cellsAt_2, cellsAt_3, cells_one, cells_agg, cB_zero, cI_zero, cS_zero, cC_zero, cB_cons, cI_cons, cS_cons, cC_cons, cond_true, cond_false, List.length_cons, List.length_nil, beq_self_eq_true, Bool.and_true, Bool.true_and, lenC_encL, lenC_lst, deref_ref, emptyK_nil, bs_size, bs_toList]
    rw [decide_eq_true (by omega), cond_true, wrap_succ (by omega)]
    cases hx2 : x == [42, 42] with
    | true =>
      have : x = [42, 42] := by simpa using hx2
      subst this
      rfl
    | false => cases pieceOk x <;> rfl
  · intro n
    simp only [spec_GlobOk_l0, lenC_encL, callS_canon, callL_canon, Option.map_some, Option.bind_some, shape_one, shape_agg, shape_nil, cellsAt_0, cellsAt_1, cellsAt_2, cellsAt_3, cells_one, cells_agg, cB_zero, cI_zero, cS_zero, cC_zero, cB_cons, cI_cons, cS_cons, cC_cons, cond_true, cond_false, List.length_cons, List.length_nil, beq_self_eq_true, Bool.and_true, Bool.true_and, lenC_encL, lenC_lst, deref_ref, emptyK_nil, bs_size, bs_toList]
    rw [decide_eq_false (by omega), cond_false, show decide ((W.length : Int) ≤ 4) = decide (W.length ≤ 4) from n_le W.length 4]
theorem c_strings_HasPrefix (s p : Str) : out run_strings_HasPrefix [.one (Cell.str (bs s)), .one (Cell.str (bs p))] = some [.one (Cell.bool (p.isPrefixOf s))] := by
  refine out_of (H := []) (run_strings_HasPrefix_of 0 ?_)
  simp only [strings_HasPrefix, c_internal_stringslite_HasPrefix, callS_canon, callL_canon, Option.map_some, Option.bind_some, shape_one, shape_agg, shape_nil, cellsAt_0, cellsAt_1, cellsAt_2, cellsAt_3, cells_one, cells_agg, cB_zero, cI_zero, cS_zero, cC_zero, cB_cons, cI_cons, cS_cons, cC_cons, cond_true, cond_false, List.length_cons, List.length_nil, beq_self_eq_true, Bool.and_true, Bool.true_and, lenC_encL, lenC_lst, deref_ref, emptyK_nil, bs_size, bs_toList]
theorem l_impl_unitOf_l1 (s : Str) (hs : s.length ≤ 1073741824) : ∀ (r : Str) (j n : Nat), s.drop j = r → j ≤ s.length → 1 ≤ j → r.length < n → ∀ k m, impl_unitOf_l1 k m n (bs s) j = some ([.one (Cell.int (match clsGo r (j - 1) with | some q => ((j + q : Nat) : Int) | none => 0))], []) := by
  have hM := maxLen_eq
  intro r
  induction r with
  | nil =>
    intro j n hd hj hf hn k m
    obtain ⟨n, rfl⟩ : ∃ q, n = q + 1 := ⟨n - 1, by omega⟩
    have := drop_nil hd
    obtain rfl : j = s.length := by omega
    simp only [impl_unitOf_l1, bs_size]
    rw [decide_eq_false (by omega), cond_false]
    simp only [c_impl_inRange, callS_canon, callL_canon, Option.map_some, Option.bind_some, shape_one, shape_agg, shape_nil, cellsAt_0, cellsAt_1, cellsAt_2, cellsAt_3, cells_one, cells_agg, cB_zero, cI_zero, cS_zero, cC_zero, cB_cons, cI_cons, cS_cons, cC_cons, cond_true, cond_false, List.length_cons, List.length_nil, beq_self_eq_true, Bool.and_true, Bool.true_and, lenC_encL, lenC_lst, deref_ref, emptyK_nil, bs_size, bs_toList]
    cases inR (IntKind.i64.wrap ((s.length : Int) - 1)) 1 5 <;> rfl
  | cons x r ih =>
    intro j n hd hj hf hn k m
    obtain ⟨n, rfl⟩ : ∃ q, n = q + 1 := ⟨n - 1, by omega⟩
    obtain ⟨hlt, hg, hd'⟩ := drop_cons hd
    simp only [List.length_cons] at hn
    have z := ih (j + 1) n hd' (by omega) (by omega) (by omega) k m
    rw [show j + 1 - 1 = j - 1 + 1 by omega] at z
    have hz : (match clsGo r (j - 1 + 1) with | some q => ((j + 1 + q : Nat) : Int) | none => 0) = (match (clsGo r (j - 1 + 1)).map (· + 1) with | some q => ((j + q : Nat) : Int) | none => 0) := by
      cases clsGo r (j - 1 + 1) with
      | none => rfl
      | some q => simp only [Option.map_some]; congr 1; omega
    simp only [impl_unitOf_l1, bs_size, bytS_bs, hg, Option.map_some, c_impl_isSmall, c_impl_isFigure, c_impl_inRange, callS_canon, callL_canon, Option.map_some, Option.bind_some, shape_one, shape_agg, shape_nil, cellsAt_0, cellsAt_1, cellsAt_2, cellsAt_3, cells_one, cells_agg, cB_zero, cI_zero, cS_zero, cC_zero, cB_cons, cI_cons, cS_cons, cC_cons, cond_true, cond_false, List.length_cons, List.length_nil, beq_self_eq_true, Bool.and_true, Bool.true_and, lenC_encL, lenC_lst, deref_ref, emptyK_nil, bs_size, bs_toList]
    rw [decide_eq_true (by omega), cond_true, wrap_succ (by omega), z, hz, show IntKind.i64.wrap ((j : Int) - 1) = ((j - 1 : Nat) : Int) from wrap_sub (n := j) (k := 1) (by omega) (by omega)]
    rw [show ((x.toNat : Int) != 93) = !(x == 93) from congrArg not (u8_eq x 93 (by omega)), show ((j : Int) == (s.length : Int)) = false by simp; omega]
    rw [clsGo_cons]
    unfold isAl
    cases isSmall x with
    | true => rfl
    | false =>
      cases isFigure x with
      | true => rfl
      | false => cases inR ((j - 1 : Nat) : Int) 1 5 <;> cases x == 93 <;> rfl
theorem l_impl_unitOf_l0 (s : Str) (hs : s.length ≤ 1073741824) : ∀ (r : Str) (j n : Nat), s.drop j = r → j ≤ s.length → 2 ≤ j → r.length < n → ∀ k m, impl_unitOf_l0 k m n (bs s) j = some ([.one (Cell.int (match clsGo r (j - 2) with | some q => ((j + q : Nat) : Int) | none => 0))], []) := by
  have hM := maxLen_eq
  intro r
  induction r with
  | nil =>
    intro j n hd hj hf hn k m
    obtain ⟨n, rfl⟩ : ∃ q, n = q + 1 := ⟨n - 1, by omega⟩
    have := drop_nil hd
    obtain rfl : j = s.length := by omega
    simp only [impl_unitOf_l0, bs_size]
    rw [decide_eq_false (by omega), cond_false]
    simp only [c_impl_inRange, callS_canon, callL_canon, Option.map_some, Option.bind_some, shape_one, shape_agg, shape_nil, cellsAt_0, cellsAt_1, cellsAt_2, cellsAt_3, cells_one, cells_agg, cB_zero, cI_zero, cS_zero, cC_zero, cB_cons, cI_cons, cS_cons, cC_cons, cond_true, cond_false, List.length_cons, List.length_nil, beq_self_eq_true, Bool.and_true, Bool.true_and, lenC_encL, lenC_lst, deref_ref, emptyK_nil, bs_size, bs_toList]
    cases inR (IntKind.i64.wrap ((s.length : Int) - 2)) 1 5 <;> rfl
  | cons x r ih =>
    intro j n hd hj hf hn k m
    obtain ⟨n, rfl⟩ : ∃ q, n = q + 1 := ⟨n - 1, by omega⟩
    obtain ⟨hlt, hg, hd'⟩ := drop_cons hd
    simp only [List.length_cons] at hn
    have z := ih (j + 1) n hd' (by omega) (by omega) (by omega) k m
    rw [show j + 1 - 2 = j - 2 + 1 by omega] at z
    have hz : (match clsGo r (j - 2 + 1) with | some q => ((j + 1 + q : Nat) : Int) | none => 0) = (match (clsGo r (j - 2 + 1)).map (· + 1) with | some q => ((j + q : Nat) : Int) | none => 0) := by
      cases clsGo r (j - 2 + 1) with
      | none => rfl
      | some q => simp only [Option.map_some]; congr 1; omega
    simp only [impl_unitOf_l0, bs_size, bytS_bs, hg, Option.map_some, c_impl_isSmall, c_impl_isFigure, c_impl_inRange, callS_canon, callL_canon, Option.map_some, Option.bind_some, shape_one, shape_agg, shape_nil, cellsAt_0, cellsAt_1, cellsAt_2, cellsAt_3, cells_one, cells_agg, cB_zero, cI_zero, cS_zero, cC_zero, cB_cons, cI_cons, cS_cons, cC_cons, cond_true, cond_false, List.length_cons, List.length_nil, beq_self_eq_true, Bool.and_true, Bool.true_and, lenC_encL, lenC_lst, deref_ref, emptyK_nil, bs_size, bs_toList]
    rw [decide_eq_true (by omega), cond_true, wrap_succ (by omega), z, hz, show IntKind.i64.wrap ((j : Int) - 2) = ((j - 2 : Nat) : Int) from wrap_sub (n := j) (k := 2) (by omega) (by omega)]
    rw [show ((x.toNat : Int) != 93) = !(x == 93) from congrArg not (u8_eq x 93 (by omega)), show ((j : Int) == (s.length : Int)) = false by simp; omega]
    rw [clsGo_cons]
    unfold isAl
    cases isSmall x with
    | true => rfl
    | false =>
      cases isFigure x with
      | true => rfl
      | false => cases inR ((j - 2 : Nat) : Int) 1 5 <;> cases x == 93 <;> rfl
theorem c_impl_unitOf (b : UInt8) (t : Str) (hs : t.length ≤ 1073741823) : out run_impl_unitOf [.one (Cell.str (bs (b :: t)))] = some [.one (Cell.int ((unitN (b :: t) : Nat) : Int))] := by
  have hM := maxLen_eq
  refine out_of (H := []) (run_impl_unitOf_of (t.length + 2) ?_)
  have e1 := subS_bs (b :: t) 1 (b :: t).length (by simp) (Nat.le_refl _)
  rw [List.take_length, List.drop_succ_cons, List.drop_zero] at e1
  have e1' : subS (bs (b :: t)) 1 (((b :: t).length : Nat) : Int) = some (bs t) := e1
  simp only [impl_unitOf, bytS_head, c_impl_isPathByte, bs_size, callS_canon, callL_canon, Option.map_some, Option.bind_some, shape_one, shape_agg, shape_nil, cellsAt_0, cellsAt_1, cellsAt_2, cellsAt_3, cells_one, cells_agg, cB_zero, cI_zero, cS_zero, cC_zero, cB_cons, cI_cons, cS_cons, cC_cons, cond_true, cond_false, List.length_cons, List.length_nil, beq_self_eq_true, Bool.and_true, Bool.true_and, lenC_encL, lenC_lst, deref_ref, emptyK_nil, bs_size, bs_toList]
  rw [show ((b.toNat : Int) == 63) = (b == 63) from u8_eq b 63 (by omega), show ((b.toNat : Int) == 42) = (b == 42) from u8_eq b 42 (by omega), show ((b.toNat : Int) != 91) = !(b == 91) from congrArg not (u8_eq b 91 (by omega))]
  cases hb : b == 91 with
  | false =>
    have hun : unitN (b :: t) = bif isPath b || (b == 63 || b == 42) then 1 else 0 := by
      simp only [unitN, hb, cond_false]
    rw [hun]
    cases isPath b <;> cases b == 63 <;> cases b == 42 <;> rfl
  | true =>
    have hb' : b = 91 := by simpa using hb
    subst hb'
    rw [show isPath 91 = false from rfl, show ((91 : UInt8) == 63) = false from rfl, show ((91 : UInt8) == 42) = false from rfl]
    simp only [Bool.not_true, cond_false]
    simp only [List.length_cons] at e1'
    simp only [e1', c_strings_HasPrefix, callS_canon, callL_canon, Option.map_some, Option.bind_some, shape_one, shape_agg, shape_nil, cellsAt_0, cellsAt_1, cellsAt_2, cellsAt_3, cells_one, cells_agg, cB_zero, cI_zero, cS_zero, cC_zero, cB_cons, cI_cons, cS_cons, cC_cons, cond_true, cond_false, List.length_cons, List.length_nil, beq_self_eq_true, Bool.and_true, Bool.true_and, lenC_encL, lenC_lst, deref_ref, emptyK_nil, bs_size, bs_toList]
    unfold unitN
    simp only [show ((91 : UInt8) == 91) = true from rfl, cond_true]
    have hun : ∀ (o : Option Nat) (p : Nat), (((match o with | some n => n + p | none => 0 : Nat)) : Int) = (match o with | some q => ((p + q : Nat) : Int) | none => 0) := by
      intro o p
      cases o with
      | none => rfl
      | some n => simp only; congr 1; omega
    cases t with
    | nil =>
      simp only [show List.isPrefixOf [33] ([] : Str) = false from rfl, cond_false]
      have z := l_impl_unitOf_l1 [91] (by simp) [] 1 (([] : Str).length + 2 + 1) rfl (by simp) (by omega) (by simp) (([] : Str).length + 2 + 1) (([] : Str).length + 2 + 1)
      exact z
    | cons d t' =>
      rw [show List.isPrefixOf [33] (d :: t') = (d == 33) by
        simp only [List.isPrefixOf, Bool.and_true]
        cases h : d == 33 with
        | true => have : d = 33 := by simpa using h
                  subst this; rfl
        | false => rw [Bool.eq_false_iff]; intro h2; have : 33 = d := by simpa using h2
                   subst this; simp at h]
      cases hd : d == 33 with
      | true =>
        simp only [hd, cond_true]
        rw [hun (clsGo t' 0) 2]
        exact l_impl_unitOf_l0 (91 :: d :: t') (by simp at hs ⊢; omega) t' 2 ((d :: t').length + 2 + 1) rfl (by simp) (by omega) (by simp; omega) ((d :: t').length + 2 + 1) ((d :: t').length + 2 + 1)
      | false =>
        simp only [hd, cond_false]
        rw [hun (clsGo (d :: t') 0) 1]
        exact l_impl_unitOf_l1 (91 :: d :: t') (by simp at hs ⊢; omega) (d :: t') 1 ((d :: t').length + 2 + 1) rfl (by simp) (by omega) (by simp) ((d :: t').length + 2 + 1) ((d :: t').length + 2 + 1)
theorem c_impl_pieceOk (s : Str) (hs : s.length ≤ 1073741824) : out run_impl_pieceOk [.one (Cell.str (bs s))] = some [.one (Cell.bool (pieceOk s))] := by
  have hM := maxLen_eq
  have loop : ∀ (d : Nat) (r : Str) (c n : Nat), r.length ≤ d → d ≤ 1073741824 → c + d ≤ 1073741824 → d < n → ∀ k m, impl_pieceOk_l0 k m n c (bs r) = some ([.one (Cell.bool (pieceGo d r c))], []) := by
    intro d
    induction d with
    | zero =>
      intro r c n hr hd hc hn k m
      obtain ⟨n, rfl⟩ : ∃ q, n = q + 1 := ⟨n - 1, by omega⟩
      have : r = [] := List.eq_nil_of_length_eq_zero (by omega)
      subst this
      simp only [impl_pieceOk_l0, c_impl_inRange, callS_canon, callL_canon, Option.map_some, Option.bind_some, shape_one, shape_agg, shape_nil, cellsAt_0, cellsAt_1, cellsAt_2, cellsAt_3, cells_one, cells_agg, cB_zero, cI_zero, cS_zero, cC_zero, cB_cons, cI_cons, cS_cons, cC_cons, cond_true, cond_false, List.length_cons, List.length_nil, beq_self_eq_true, Bool.and_true, Bool.true_and, lenC_encL, lenC_lst, deref_ref, emptyK_nil, bs_size, bs_toList, pieceGo]
      rfl
    | succ d ih =>
      intro r c n hr hd hc hn k m
      obtain ⟨n, rfl⟩ : ∃ q, n = q + 1 := ⟨n - 1, by omega⟩
      cases r with
      | nil =>
        simp only [impl_pieceOk_l0, c_impl_inRange, callS_canon, callL_canon, Option.map_some, Option.bind_some, shape_one, shape_agg, shape_nil, cellsAt_0, cellsAt_1, cellsAt_2, cellsAt_3, cells_one, cells_agg, cB_zero, cI_zero, cS_zero, cC_zero, cB_cons, cI_cons, cS_cons, cC_cons, cond_true, cond_false, List.length_cons, List.length_nil, beq_self_eq_true, Bool.and_true, Bool.true_and, lenC_encL, lenC_lst, deref_ref, emptyK_nil, bs_size, bs_toList, pieceGo]
        rfl
      | cons b t =>
        have hul := unitN_le (b :: t)
        simp only [List.length_cons] at hr hul
        simp only [impl_pieceOk_l0, c_impl_unitOf b t (by omega), callS_canon, callL_canon, Option.map_some, Option.bind_some, shape_one, shape_agg, shape_nil, cellsAt_0, cellsAt_1, cellsAt_2, cellsAt_3, cells_one, cells_agg, cB_zero, cI_zero, cS_zero, cC_zero, cB_cons, cI_cons, cS_cons, cC_cons, cond_true, cond_false, List.length_cons, List.length_nil, beq_self_eq_true, Bool.and_true, Bool.true_and, lenC_encL, lenC_lst, deref_ref, emptyK_nil, bs_size, bs_toList]
        rw [show (!((b :: t : Str) == [])) = true from rfl, cond_true]
        unfold pieceGo
        by_cases hu : unitN (b :: t) = 0
        · rw [hu]
          rfl
        · have e1 := subS_bs (b :: t) (unitN (b :: t)) (b :: t).length (by simp; omega) (Nat.le_refl _)
          rw [List.take_length] at e1
          simp only [List.length_cons] at e1
          rw [show (((unitN (b :: t) : Nat) : Int) == 0) = false by simp; omega, cond_false, show (unitN (b :: t) == 0) = false by simpa using hu, cond_false, e1, wrap_succ (by omega)]
          simp only [Option.bind_some]
          exact ih _ (c + 1) n (by rw [List.length_drop]; simp; omega) (by omega) (by omega) (by omega) k m
  refine out_of (H := []) (run_impl_pieceOk_of (s.length + 1) ?_)
  have z := loop s.length s 0 (s.length + 1 + 1) (Nat.le_refl _) hs (by omega) (by omega) (s.length + 1 + 1) (s.length + 1 + 1)
  simpa [impl_pieceOk, pieceOk] using z
theorem c_impl_GlobOk (s : Str) (hs : s.length ≤ 1073741823) : out run_impl_GlobOk [.one (Cell.str (bs s))] = some [.one (Cell.bool (globOk s))] := by
  have hM := maxLen_eq
  have e0 := c_strings_Split s 47 (by omega)
  have hl := splitGo_length 47 s []
  have hlen : ∀ x ∈ split 47 s, x.length ≤ 1073741824 := fun x hx => Nat.le_trans (hl.2 x hx) (by simp; omega)
  have hll : (split 47 s).length ≤ s.length + 1 := hl.1
  unfold globOk
  generalize split 47 s = W at *
  refine out_of (H := []) (run_impl_GlobOk_of (W.length + 1) ?_)
  simp only [impl_GlobOk, e0, callS_canon, callL_canon, Option.map_some, Option.bind_some, shape_one, shape_agg, shape_nil, cellsAt_0, cellsAt_1, cellsAt_2, cellsAt_3, cells_one, cells_agg, cB_zero, cI_zero, cS_zero, cC_zero, cB_cons, cI_cons, cS_cons, cC_cons, cond_true, cond_false, List.length_cons, List.length_nil, beq_self_eq_true, Bool.and_true, Bool.true_and, lenC_encL, lenC_lst, deref_ref, emptyK_nil, bs_size, bs_toList]
  rw [loop_all W (fun n i => impl_GlobOk_l0 (W.length + 1 + 1) (W.length + 1 + 1) n (strsC W) (strsC W) W.length i []) pieceOk (some ([.one (Cell.bool (decide (W.length ≤ 4)))], [])) (some ([.one (Cell.bool false)], [])) ?_ ?_ _ (by omega)]
  · exact leafC _ _ _
  · intro n i x hx hlt
    simp only [impl_GlobOk_l0, idxA_encL, hx, eStr, c_impl_pieceOk x (hlen x (List.mem_of_getElem? hx)), callS_canon, callL_canon, Option.map_some, Option.bind_some, shape_one, shape_agg, shape_nil, cellsAt_0, cellsAt_1, cellsAt_2, cellsAt_3, cells_one, cells_agg, cB_zero, cI_zero, cS_zero, cC_zero, cB_cons, cI_cons, cS_cons, cC_cons, cond_true, cond_false, List.length_cons, List.length_nil, beq_self_eq_true, Bool.and_true, Bool.true_and, lenC_encL, lenC_lst, deref_ref, emptyK_nil, bs_size, bs_toList]
    rw [decide_eq_true (by omega), cond_true, wrap_succ (by omega)]
    cases pieceOk x <;> rfl
  · intro n
    simp only [impl_GlobOk_l0, lenC_encL, callS_canon, callL_canon, Option.map_some, Option.bind_some, shape_one, shape_agg, shape_nil, cellsAt_0, cellsAt_1, cellsAt_2, cellsAt_3, cells_one, cells_agg, cB_zero, cI_zero, cS_zero, cC_zero, cB_cons, cI_cons, cS_cons, cC_cons, cond_true, cond_false, List.length_cons, List.length_nil, beq_self_eq_true, Bool.and_true, Bool.true_and, lenC_encL, lenC_lst, deref_ref, emptyK_nil, bs_size, bs_toList]
    rw [decide_eq_false (by omega), cond_false, show decide ((W.length : Int) ≤ 4) = decide (W.length ≤ 4) from n_le W.length 4]
theorem c_spec_l7Names (l : List Str) (hl : bdL 1048576 (bdS 1048576) l) : out run_spec_l7Names [.one (strsC l)] = some [.one (Cell.bool (l.all nameOk))] := by
  have hM := maxLen_eq
  have hxl := hl.1
  refine out_of (H := []) (run_spec_l7Names_of (l.length + 1) ?_)
  simp only [spec_l7Names]
  rw [loop_all l (fun n i => spec_l7Names_l0 (l.length + 1 + 1) (l.length + 1 + 1) n (strsC l) i) nameOk (some ([.one (Cell.bool true)], [])) (some ([.one (Cell.bool false)], [])) ?_ ?_ _ (by omega)]
  · cases l.all nameOk <;> rfl
  · intro n i x hx hlt
    have hb : x.length ≤ 1048576 := hl.2 x (List.mem_of_getElem? hx)
    simp only [spec_l7Names_l0, lenC_encL, idxA_encL, hx, eStr, c_spec_NameOk x (by omega), callS_canon, callL_canon, Option.map_some, Option.bind_some, shape_one, shape_agg, shape_nil, cellsAt_0, cellsAt_1, cellsAt_2, cellsAt_3, cells_one, cells_agg, cB_zero, cI_zero, cS_zero, cC_zero, cB_cons, cI_cons, cS_cons, cC_cons, cond_true, cond_false, List.length_cons, List.length_nil, beq_self_eq_true, Bool.and_true, Bool.true_and, lenC_encL, lenC_lst, deref_ref, emptyK_nil, bs_size, bs_toList]
    rw [decide_eq_true (by omega), cond_true, wrap_succ (by omega)]
    cases nameOk x <;> rfl
  · intro n
    simp only [spec_l7Names_l0, lenC_encL, callS_canon, callL_canon, Option.map_some, Option.bind_some, shape_one, shape_agg, shape_nil, cellsAt_0, cellsAt_1, cellsAt_2, cellsAt_3, cells_one, cells_agg, cB_zero, cI_zero, cS_zero, cC_zero, cB_cons, cI_cons, cS_cons, cC_cons, cond_true, cond_false, List.length_cons, List.length_nil, beq_self_eq_true, Bool.and_true, Bool.true_and, lenC_encL, lenC_lst, deref_ref, emptyK_nil, bs_size, bs_toList]
    rw [decide_eq_false (by omega), cond_false]
theorem c_impl_namesOk (l : List Str) (hl : bdL 1048576 (bdS 1048576) l) (c : Nat) : out run_impl_namesOk [.one (strsC l), .one (Cell.int c)] = some [.one (Cell.bool (l.all nameOk && decide (l.length ≤ c)))] := by
  have hM := maxLen_eq
  have hxl := hl.1
  refine out_of (H := []) (run_impl_namesOk_of (l.length + 1) ?_)
  simp only [impl_namesOk, lenC_encL, Option.bind_some]
  rw [loop_all l (fun n i => impl_namesOk_l0 (l.length + 1 + 1) (l.length + 1 + 1) n (strsC l) c (strsC l) l.length i) nameOk (some ([.one (Cell.bool (decide (l.length ≤ c)))], [])) (some ([.one (Cell.bool false)], [])) ?_ ?_ _ (by omega)]
  · exact leafC _ _ _
  · intro n i x hx hlt
    have hb : x.length ≤ 1048576 := hl.2 x (List.mem_of_getElem? hx)
    simp only [impl_namesOk_l0, lenC_encL, idxA_encL, hx, eStr, c_impl_NameOk x (by omega), callS_canon, callL_canon, Option.map_some, Option.bind_some, shape_one, shape_agg, shape_nil, cellsAt_0, cellsAt_1, cellsAt_2, cellsAt_3, cells_one, cells_agg, cB_zero, cI_zero, cS_zero, cC_zero, cB_cons, cI_cons, cS_cons, cC_cons, cond_true, cond_false, List.length_cons, List.length_nil, beq_self_eq_true, Bool.and_true, Bool.true_and, lenC_encL, lenC_lst, deref_ref, emptyK_nil, bs_size, bs_toList]
    rw [decide_eq_true (by omega), cond_true, wrap_succ (by omega)]
    cases nameOk x <;> rfl
  · intro n
    simp only [impl_namesOk_l0, lenC_encL, callS_canon, callL_canon, Option.map_some, Option.bind_some, shape_one, shape_agg, shape_nil, cellsAt_0, cellsAt_1, cellsAt_2, cellsAt_3, cells_one, cells_agg, cB_zero, cI_zero, cS_zero, cC_zero, cB_cons, cI_cons, cS_cons, cC_cons, cond_true, cond_false, List.length_cons, List.length_nil, beq_self_eq_true, Bool.and_true, Bool.true_and, lenC_encL, lenC_lst, deref_ref, emptyK_nil, bs_size, bs_toList]
    rw [decide_eq_false (by omega), cond_false, show decide ((l.length : Int) ≤ (c : Int)) = decide (l.length ≤ c) from n_le l.length c]
def insOk (s : Str) : Bool := globOk s && decide (s.length ≤ 60)
def ruleOk (r : MRule) : Bool := r.On.all onOk && (r.Ins.all insOk && (nameOk r.Task && (decide (r.On.length ≤ 4) && (decide (r.Ins.length ≤ 4) && (decide (r.Envs.length ≤ 3) && r.Envs.all nameOk)))))
/-- A rule may stand at its place. -/
def ruleI (l : List MRule) (i : Nat) : Bool :=
  match l[i]? with
  | some f => ruleOk f && (decide (i = 0) || (match l[i - 1]? with
    | some g => lt g.Task f.Task
    | none => true))
  | none => true
def rulesOk (l : List MRule) : Bool := (List.range l.length).all (ruleI l) && decide (l.length ≤ 5)
theorem ruleI_zero {l : List MRule} {f : MRule} (h : l[0]? = some f) : ruleI l 0 = ruleOk f := by
  unfold ruleI
  rw [h]
  simp
theorem ruleI_succ {l : List MRule} {i : Nat} {f g : MRule} (h : l[i + 1]? = some f) (hg : l[i]? = some g) : ruleI l (i + 1) = (ruleOk f && lt g.Task f.Task) := by
  unfold ruleI
  rw [h]
  simp [hg]
theorem c_spec_l12Rule (r : MRule) (hr : r.Bd 1048576) : out run_spec_l12Rule [.agg [Cell.str (bs r.Task), strsC r.On, strsC r.Ins, strsC r.Envs, Cell.bool r.Keep]] = some [.one (Cell.bool (ruleOk r))] := by
  have hM := maxLen_eq
  obtain ⟨b0, b1, b2, b3, -⟩ := hr
  have hx1 := b1.1
  have hx2 := b2.1
  have hx0 : r.Task.length ≤ 1048576 := b0
  refine out_of (H := []) (run_spec_l12Rule_of (r.On.length + r.Ins.length + 1) ?_)
  have z : spec_l12Rule_l1 (r.On.length + r.Ins.length + 1 + 1) (r.On.length + r.Ins.length + 1 + 1) (r.On.length + r.Ins.length + 1 + 1) 0 (bs r.Task) (strsC r.On) (strsC r.Ins) (strsC r.Envs) r.Keep = some ([.one (Cell.bool (r.Ins.all insOk && (nameOk r.Task && (decide (r.On.length ≤ 4) && (decide (r.Ins.length ≤ 4) && (decide (r.Envs.length ≤ 3) && r.Envs.all nameOk))))))], []) := by
    rw [loop_all r.Ins (fun n i => spec_l12Rule_l1 (r.On.length + r.Ins.length + 1 + 1) (r.On.length + r.Ins.length + 1 + 1) n i (bs r.Task) (strsC r.On) (strsC r.Ins) (strsC r.Envs) r.Keep) insOk (some ([.one (Cell.bool (nameOk r.Task && (decide (r.On.length ≤ 4) && (decide (r.Ins.length ≤ 4) && (decide (r.Envs.length ≤ 3) && r.Envs.all nameOk)))))], [])) (some ([.one (Cell.bool false)], [])) ?_ ?_ _ (by omega)]
    · exact leafC _ _ _
    · intro n i x hx hlt
      have hb : x.length ≤ 1048576 := b2.2 x (List.mem_of_getElem? hx)
      simp only [spec_l12Rule_l1, lenC_encL, idxA_encL, hx, eStr, c_spec_GlobOk x (by omega), callS_canon, callL_canon, Option.map_some, Option.bind_some, shape_one, shape_agg, shape_nil, cellsAt_0, cellsAt_1, cellsAt_2, cellsAt_3, cells_one, cells_agg, cB_zero, cI_zero, cS_zero, cC_zero, cB_cons, cI_cons, cS_cons, cC_cons, cond_true, cond_false, List.length_cons, List.length_nil, beq_self_eq_true, Bool.and_true, Bool.true_and, lenC_encL, lenC_lst, deref_ref, emptyK_nil, bs_size, bs_toList]
      rw [decide_eq_true (by omega), cond_true, wrap_succ (by omega), show decide ((x.length : Int) > 60) = !decide (x.length ≤ 60) from by
        rw [show decide ((x.length : Int) > 60) = decide (60 < x.length) from by rw [decide_eq_decide]; omega, ← decide_not, decide_eq_decide]
        omega]
      unfold insOk
      cases globOk x <;> cases decide (x.length ≤ 60) <;> rfl
    · intro n
      simp only [spec_l12Rule_l1, lenC_encL, c_spec_NameOk r.Task (by omega), c_spec_l7Names r.Envs b3, callS_canon, callL_canon, Option.map_some, Option.bind_some, shape_one, shape_agg, shape_nil, cellsAt_0, cellsAt_1, cellsAt_2, cellsAt_3, cells_one, cells_agg, cB_zero, cI_zero, cS_zero, cC_zero, cB_cons, cI_cons, cS_cons, cC_cons, cond_true, cond_false, List.length_cons, List.length_nil, beq_self_eq_true, Bool.and_true, Bool.true_and, lenC_encL, lenC_lst, deref_ref, emptyK_nil, bs_size, bs_toList]
      rw [decide_eq_false (by omega), cond_false, show decide ((r.On.length : Int) ≤ 4) = decide (r.On.length ≤ 4) from n_le _ 4, show decide ((r.Ins.length : Int) ≤ 4) = decide (r.Ins.length ≤ 4) from n_le _ 4, show decide ((r.Envs.length : Int) ≤ 3) = decide (r.Envs.length ≤ 3) from n_le _ 3]
      cases nameOk r.Task <;> cases decide (r.On.length ≤ 4) <;> cases decide (r.Ins.length ≤ 4) <;> cases decide (r.Envs.length ≤ 3) <;> rfl
  unfold ruleOk
  simp only [spec_l12Rule, lenC_encL, Option.bind_some]
  rw [loop_all r.On (fun n i => spec_l12Rule_l0 (r.On.length + r.Ins.length + 1 + 1) (r.On.length + r.Ins.length + 1 + 1) n i (bs r.Task) (strsC r.On) (strsC r.Ins) (strsC r.Envs) r.Keep) onOk (some ([.one (Cell.bool (r.Ins.all insOk && (nameOk r.Task && (decide (r.On.length ≤ 4) && (decide (r.Ins.length ≤ 4) && (decide (r.Envs.length ≤ 3) && r.Envs.all nameOk))))))], [])) (some ([.one (Cell.bool false)], [])) ?_ ?_ _ (by omega)]
  · exact leafC _ _ _
  · intro n i x hx hlt
    have hb : x.length ≤ 1048576 := b1.2 x (List.mem_of_getElem? hx)
    simp only [spec_l12Rule_l0, lenC_encL, idxA_encL, hx, eStr, c_spec_OnOk x (by omega), callS_canon, callL_canon, Option.map_some, Option.bind_some, shape_one, shape_agg, shape_nil, cellsAt_0, cellsAt_1, cellsAt_2, cellsAt_3, cells_one, cells_agg, cB_zero, cI_zero, cS_zero, cC_zero, cB_cons, cI_cons, cS_cons, cC_cons, cond_true, cond_false, List.length_cons, List.length_nil, beq_self_eq_true, Bool.and_true, Bool.true_and, lenC_encL, lenC_lst, deref_ref, emptyK_nil, bs_size, bs_toList]
    rw [decide_eq_true (by omega), cond_true, wrap_succ (by omega)]
    cases onOk x <;> rfl
  · intro n
    simp only [spec_l12Rule_l0, lenC_encL, callS_canon, callL_canon, Option.map_some, Option.bind_some, shape_one, shape_agg, shape_nil, cellsAt_0, cellsAt_1, cellsAt_2, cellsAt_3, cells_one, cells_agg, cB_zero, cI_zero, cS_zero, cC_zero, cB_cons, cI_cons, cS_cons, cC_cons, cond_true, cond_false, List.length_cons, List.length_nil, beq_self_eq_true, Bool.and_true, Bool.true_and, lenC_encL, lenC_lst, deref_ref, emptyK_nil, bs_size, bs_toList]
    rw [decide_eq_false (by omega), cond_false]
    exact z
theorem c_impl_ruleOk (r : MRule) (hr : r.Bd 1048576) : out run_impl_ruleOk [.agg [Cell.str (bs r.Task), strsC r.On, strsC r.Ins, strsC r.Envs, Cell.bool r.Keep]] = some [.one (Cell.bool (ruleOk r))] := by
  have hM := maxLen_eq
  obtain ⟨b0, b1, b2, b3, -⟩ := hr
  have hx1 := b1.1
  have hx2 := b2.1
  have hx0 : r.Task.length ≤ 1048576 := b0
  refine out_of (H := []) (run_impl_ruleOk_of (r.On.length + r.Ins.length + 1) ?_)
  have z : impl_ruleOk_l1 (r.On.length + r.Ins.length + 1 + 1) (r.On.length + r.Ins.length + 1 + 1) (r.On.length + r.Ins.length + 1 + 1) (strsC r.Ins) r.Ins.length 0 (bs r.Task) (strsC r.On) (strsC r.Ins) (strsC r.Envs) r.Keep = some ([.one (Cell.bool (r.Ins.all insOk && (nameOk r.Task && (decide (r.On.length ≤ 4) && (decide (r.Ins.length ≤ 4) && (decide (r.Envs.length ≤ 3) && r.Envs.all nameOk))))))], []) := by
    rw [loop_all r.Ins (fun n i => impl_ruleOk_l1 (r.On.length + r.Ins.length + 1 + 1) (r.On.length + r.Ins.length + 1 + 1) n (strsC r.Ins) r.Ins.length i (bs r.Task) (strsC r.On) (strsC r.Ins) (strsC r.Envs) r.Keep) insOk (some ([.one (Cell.bool (nameOk r.Task && (decide (r.On.length ≤ 4) && (decide (r.Ins.length ≤ 4) && (decide (r.Envs.length ≤ 3) && r.Envs.all nameOk)))))], [])) (some ([.one (Cell.bool false)], [])) ?_ ?_ _ (by omega)]
    · exact leafC _ _ _
    · intro n i x hx hlt
      have hb : x.length ≤ 1048576 := b2.2 x (List.mem_of_getElem? hx)
      simp only [impl_ruleOk_l1, lenC_encL, idxA_encL, hx, eStr, c_impl_GlobOk x (by omega), callS_canon, callL_canon, Option.map_some, Option.bind_some, shape_one, shape_agg, shape_nil, cellsAt_0, cellsAt_1, cellsAt_2, cellsAt_3, cells_one, cells_agg, cB_zero, cI_zero, cS_zero, cC_zero, cB_cons, cI_cons, cS_cons, cC_cons, cond_true, cond_false, List.length_cons, List.length_nil, beq_self_eq_true, Bool.and_true, Bool.true_and, lenC_encL, lenC_lst, deref_ref, emptyK_nil, bs_size, bs_toList]
      rw [decide_eq_true (by omega), cond_true, wrap_succ (by omega), show decide ((x.length : Int) > 60) = !decide (x.length ≤ 60) from by
        rw [show decide ((x.length : Int) > 60) = decide (60 < x.length) from by rw [decide_eq_decide]; omega, ← decide_not, decide_eq_decide]
        omega]
      unfold insOk
      cases globOk x <;> cases decide (x.length ≤ 60) <;> rfl
    · intro n
      simp only [impl_ruleOk_l1, lenC_encL, c_impl_NameOk r.Task (by omega), show out run_impl_namesOk [.one (strsC r.Envs), .one (Cell.int 3)] = _ from c_impl_namesOk r.Envs b3 3, callS_canon, callL_canon, Option.map_some, Option.bind_some, shape_one, shape_agg, shape_nil, cellsAt_0, cellsAt_1, cellsAt_2, cellsAt_3, cells_one, cells_agg, cB_zero, cI_zero, cS_zero, cC_zero, cB_cons, cI_cons, cS_cons, cC_cons, cond_true, cond_false, List.length_cons, List.length_nil, beq_self_eq_true, Bool.and_true, Bool.true_and, lenC_encL, lenC_lst, deref_ref, emptyK_nil, bs_size, bs_toList]
      rw [decide_eq_false (by omega), cond_false, show decide ((r.On.length : Int) ≤ 4) = decide (r.On.length ≤ 4) from n_le _ 4, show decide ((r.Ins.length : Int) ≤ 4) = decide (r.Ins.length ≤ 4) from n_le _ 4]
      cases nameOk r.Task <;> cases decide (r.On.length ≤ 4) <;> cases decide (r.Ins.length ≤ 4) <;> simp [Bool.and_comm]
  unfold ruleOk
  simp only [impl_ruleOk, lenC_encL, Option.bind_some]
  rw [loop_all r.On (fun n i => impl_ruleOk_l0 (r.On.length + r.Ins.length + 1 + 1) (r.On.length + r.Ins.length + 1 + 1) n (strsC r.On) r.On.length i (bs r.Task) (strsC r.On) (strsC r.Ins) (strsC r.Envs) r.Keep) onOk (some ([.one (Cell.bool (r.Ins.all insOk && (nameOk r.Task && (decide (r.On.length ≤ 4) && (decide (r.Ins.length ≤ 4) && (decide (r.Envs.length ≤ 3) && r.Envs.all nameOk))))))], [])) (some ([.one (Cell.bool false)], [])) ?_ ?_ _ (by omega)]
  · exact leafC _ _ _
  · intro n i x hx hlt
    have hb : x.length ≤ 1048576 := b1.2 x (List.mem_of_getElem? hx)
    simp only [impl_ruleOk_l0, lenC_encL, idxA_encL, hx, eStr, c_impl_OnOk x (by omega), callS_canon, callL_canon, Option.map_some, Option.bind_some, shape_one, shape_agg, shape_nil, cellsAt_0, cellsAt_1, cellsAt_2, cellsAt_3, cells_one, cells_agg, cB_zero, cI_zero, cS_zero, cC_zero, cB_cons, cI_cons, cS_cons, cC_cons, cond_true, cond_false, List.length_cons, List.length_nil, beq_self_eq_true, Bool.and_true, Bool.true_and, lenC_encL, lenC_lst, deref_ref, emptyK_nil, bs_size, bs_toList]
    rw [decide_eq_true (by omega), cond_true, wrap_succ (by omega)]
    cases onOk x <;> rfl
  · intro n
    simp only [impl_ruleOk_l0, lenC_encL, callS_canon, callL_canon, Option.map_some, Option.bind_some, shape_one, shape_agg, shape_nil, cellsAt_0, cellsAt_1, cellsAt_2, cellsAt_3, cells_one, cells_agg, cB_zero, cI_zero, cS_zero, cC_zero, cB_cons, cI_cons, cS_cons, cC_cons, cond_true, cond_false, List.length_cons, List.length_nil, beq_self_eq_true, Bool.and_true, Bool.true_and, lenC_encL, lenC_lst, deref_ref, emptyK_nil, bs_size, bs_toList]
    rw [decide_eq_false (by omega), cond_false]
    exact z
theorem c_spec_RulesOk (l : List MRule) (hl : bdL 1048576 (MRule.Bd 1048576) l) : out run_spec_RulesOk [.one (encL 5 MRule.enc l)] = some [.one (Cell.bool (rulesOk l))] := by
  have hM := maxLen_eq
  have hxl := hl.1
  refine out_of (H := []) (run_spec_RulesOk_of (l.length + 1) ?_)
  unfold rulesOk
  simp only [spec_RulesOk]
  rw [loop_range l.length (fun n i => spec_RulesOk_l0 (l.length + 1 + 1) (l.length + 1 + 1) n (encL 5 MRule.enc l) i) (ruleI l) (some ([.one (Cell.bool (decide (l.length ≤ 5)))], [])) (some ([.one (Cell.bool false)], [])) ?_ ?_ _ (by omega)]
  · exact leafC _ _ _
  · intro n i hlt
    obtain ⟨f, hf⟩ : ∃ f, l[i]? = some f := ⟨l[i], List.getElem?_eq_getElem hlt⟩
    have hb := hl.2 f (List.mem_of_getElem? hf)
    have e1 := c_spec_l12Rule f hb
    simp only [spec_RulesOk_l0, lenC_encL, idxA_encL, hf, MRule.enc, e1, callS_canon, callL_canon, Option.map_some, Option.bind_some, shape_one, shape_agg, shape_nil, cellsAt_0, cellsAt_1, cellsAt_2, cellsAt_3, cells_one, cells_agg, cB_zero, cI_zero, cS_zero, cC_zero, cB_cons, cI_cons, cS_cons, cC_cons, cond_true, cond_false, List.length_cons, List.length_nil, beq_self_eq_true, Bool.and_true, Bool.true_and, lenC_encL, lenC_lst, deref_ref, emptyK_nil, bs_size, bs_toList]
    rw [decide_eq_true (by omega), cond_true, wrap_succ (by omega)]
    cases i with
    | zero =>
      rw [ruleI_zero hf, decide_eq_false (p := ((0 : Nat) : Int) > 0) (by omega)]
      cases ruleOk f <;> rfl
    | succ i =>
      obtain ⟨g, hg⟩ : ∃ g, l[i]? = some g := ⟨l[i], List.getElem?_eq_getElem (by omega)⟩
      rw [ruleI_succ hf hg, decide_eq_true (p := ((i + 1 : Nat) : Int) > 0) (by omega), wrap_pred (by omega)]
      simp only [idxA_encL, hf, hg, MRule.enc, fldA_ref, Nat.zero_add, bl_eq, callS_canon, callL_canon, Option.map_some, Option.bind_some, shape_one, shape_agg, shape_nil, cellsAt_0, cellsAt_1, cellsAt_2, cellsAt_3, cells_one, cells_agg, cB_zero, cI_zero, cS_zero, cC_zero, cB_cons, cI_cons, cS_cons, cC_cons, cond_true, cond_false, List.length_cons, List.length_nil, beq_self_eq_true, Bool.and_true, Bool.true_and, lenC_encL, lenC_lst, deref_ref, emptyK_nil, bs_size, bs_toList]
      cases ruleOk f <;> cases lt g.Task f.Task <;> rfl
  · intro n
    simp only [spec_RulesOk_l0, lenC_encL, callS_canon, callL_canon, Option.map_some, Option.bind_some, shape_one, shape_agg, shape_nil, cellsAt_0, cellsAt_1, cellsAt_2, cellsAt_3, cells_one, cells_agg, cB_zero, cI_zero, cS_zero, cC_zero, cB_cons, cI_cons, cS_cons, cC_cons, cond_true, cond_false, List.length_cons, List.length_nil, beq_self_eq_true, Bool.and_true, Bool.true_and, lenC_encL, lenC_lst, deref_ref, emptyK_nil, bs_size, bs_toList]
    rw [decide_eq_false (by omega), cond_false, show decide ((l.length : Int) ≤ 5) = decide (l.length ≤ 5) from n_le l.length 5]
theorem c_impl_RulesOk (l : List MRule) (hl : bdL 1048576 (MRule.Bd 1048576) l) : out run_impl_RulesOk [.one (encL 5 MRule.enc l)] = some [.one (Cell.bool (rulesOk l))] := by
  have hM := maxLen_eq
  have hxl := hl.1
  refine out_of (H := []) (run_impl_RulesOk_of (l.length + 1) ?_)
  unfold rulesOk
  simp only [impl_RulesOk, lenC_encL, Option.bind_some]
  rw [loop_range l.length (fun n i => impl_RulesOk_l0 (l.length + 1 + 1) (l.length + 1 + 1) n (encL 5 MRule.enc l) (encL 5 MRule.enc l) l.length i) (ruleI l) (some ([.one (Cell.bool (decide (l.length ≤ 5)))], [])) (some ([.one (Cell.bool false)], [])) ?_ ?_ _ (by omega)]
  · exact leafC _ _ _
  · intro n i hlt
    obtain ⟨f, hf⟩ : ∃ f, l[i]? = some f := ⟨l[i], List.getElem?_eq_getElem hlt⟩
    have hb := hl.2 f (List.mem_of_getElem? hf)
    have e1 := c_impl_ruleOk f hb
    simp only [impl_RulesOk_l0, lenC_encL, idxA_encL, hf, MRule.enc, e1, callS_canon, callL_canon, Option.map_some, Option.bind_some, shape_one, shape_agg, shape_nil, cellsAt_0, cellsAt_1, cellsAt_2, cellsAt_3, cells_one, cells_agg, cB_zero, cI_zero, cS_zero, cC_zero, cB_cons, cI_cons, cS_cons, cC_cons, cond_true, cond_false, List.length_cons, List.length_nil, beq_self_eq_true, Bool.and_true, Bool.true_and, lenC_encL, lenC_lst, deref_ref, emptyK_nil, bs_size, bs_toList]
    rw [decide_eq_true (by omega), cond_true, wrap_succ (by omega)]
    cases i with
    | zero =>
      rw [ruleI_zero hf, decide_eq_false (p := ((0 : Nat) : Int) > 0) (by omega)]
      cases ruleOk f <;> rfl
    | succ i =>
      obtain ⟨g, hg⟩ : ∃ g, l[i]? = some g := ⟨l[i], List.getElem?_eq_getElem (by omega)⟩
      rw [ruleI_succ hf hg, decide_eq_true (p := ((i + 1 : Nat) : Int) > 0) (by omega), wrap_pred (by omega)]
      simp only [idxA_encL, hf, hg, MRule.enc, fldA_ref, Nat.zero_add, bl_eq, lt_not, callS_canon, callL_canon, Option.map_some, Option.bind_some, shape_one, shape_agg, shape_nil, cellsAt_0, cellsAt_1, cellsAt_2, cellsAt_3, cells_one, cells_agg, cB_zero, cI_zero, cS_zero, cC_zero, cB_cons, cI_cons, cS_cons, cC_cons, cond_true, cond_false, List.length_cons, List.length_nil, beq_self_eq_true, Bool.and_true, Bool.true_and, lenC_encL, lenC_lst, deref_ref, emptyK_nil, bs_size, bs_toList]
      cases ruleOk f <;> cases lt g.Task f.Task <;> rfl
  · intro n
    simp only [impl_RulesOk_l0, lenC_encL, callS_canon, callL_canon, Option.map_some, Option.bind_some, shape_one, shape_agg, shape_nil, cellsAt_0, cellsAt_1, cellsAt_2, cellsAt_3, cells_one, cells_agg, cB_zero, cI_zero, cS_zero, cC_zero, cB_cons, cI_cons, cS_cons, cC_cons, cond_true, cond_false, List.length_cons, List.length_nil, beq_self_eq_true, Bool.and_true, Bool.true_and, lenC_encL, lenC_lst, deref_ref, emptyK_nil, bs_size, bs_toList]
    rw [decide_eq_false (by omega), cond_false, show decide ((l.length : Int) ≤ 5) = decide (l.length ≤ 5) from n_le l.length 5]
theorem c_laws_FnExactRulesOk (xs : List MRule) (hx : bdL maxLen (MRule.Bd maxLen) xs) : out run_laws_FnExactRulesOk [.one (encL 5 MRule.enc xs)] = some [.one (Cell.bool true)] := by
  refine out_of (H := []) (run_laws_FnExactRulesOk_of 0 ?_)
  simp only [laws_FnExactRulesOk, callS_canon, callL_canon, Option.map_some, Option.bind_some, shape_one, shape_agg, shape_nil, cellsAt_0, cellsAt_1, cellsAt_2, cellsAt_3, cells_one, cells_agg, cB_zero, cI_zero, cS_zero, cC_zero, cB_cons, cI_cons, cS_cons, cC_cons, cond_true, cond_false, List.length_cons, List.length_nil, beq_self_eq_true, Bool.and_true, Bool.true_and, lenC_encL, lenC_lst, deref_ref, emptyK_nil, bs_size, bs_toList]
  rw [c_laws_szRuleS _ _ hx (by omega) (by omega)]
  simp only [callS_canon, callL_canon, Option.map_some, Option.bind_some, shape_one, shape_agg, shape_nil, cellsAt_0, cellsAt_1, cellsAt_2, cellsAt_3, cells_one, cells_agg, cB_zero, cI_zero, cS_zero, cC_zero, cB_cons, cI_cons, cS_cons, cC_cons, cond_true, cond_false, List.length_cons, List.length_nil, beq_self_eq_true, Bool.and_true, Bool.true_and, lenC_encL, lenC_lst, deref_ref, emptyK_nil, bs_size, bs_toList, condSz]
  by_cases g : ((wtL MRule.wt xs : Nat) : Int) ≤ 1048576
  · rw [if_pos g]
    have bx : bdL 1048576 (MRule.Bd 1048576) xs := bdL_wt hx (by omega) fun y h hw => MRule.bd_wt h hw
    simp only [c_laws_toRuleS _ bx, c_spec_RulesOk _ bx, c_impl_RulesOk _ bx, callS_canon, callL_canon, Option.map_some, Option.bind_some, shape_one, shape_agg, shape_nil, cellsAt_0, cellsAt_1, cellsAt_2, cellsAt_3, cells_one, cells_agg, cB_zero, cI_zero, cS_zero, cC_zero, cB_cons, cI_cons, cS_cons, cC_cons, cond_true, cond_false, List.length_cons, List.length_nil, beq_self_eq_true, Bool.and_true, Bool.true_and, lenC_encL, lenC_lst, deref_ref, emptyK_nil, bs_size, bs_toList]
    simp [c_laws_eqRuleS _ _ bx bx, cB, shapeOk, cellsAt, AV.cells]
  · rw [if_neg g]
end Go.Ev
