/- What the functions come to. Conditions: none. -/
import Derived.Test.YtholafaogipaiaaDoorEvCon
set_option linter.unusedSimpArgs false
set_option linter.unusedVariables false
namespace Go.Ev
open Go
/-! names -/
def inR (x a b : Int) : Bool := decide (a ≤ x) && decide (x ≤ b)
def isSmall (b : UInt8) : Bool := inR b.toNat 97 122
def isFigure (b : UInt8) : Bool := inR b.toNat 48 57
def nameGo (first : Bool) : Str → Bool
  | [] => true
  | b :: r => (isSmall b || (!first && (isFigure b || b == 45))) && nameGo false r
def nameOk (s : Str) : Bool := nameGo true s && inR s.length 1 10
theorem u8_eq (b : UInt8) (n : Nat) (h : n < 256) : ((b.toNat : Int) == (n : Int)) = (b == UInt8.ofNat n) := by
  rw [Bool.eq_iff_iff]
  simp only [beq_iff_eq]
  constructor
  · intro e
    apply UInt8.toNat_inj.1
    have : (UInt8.ofNat n).toNat = n := by simp; omega
    omega
  · intro e
    have : (UInt8.ofNat n).toNat = n := by simp; omega
    rw [e, this]
theorem u8_ne (b : UInt8) (n : Nat) (h : n < 256) : ((b.toNat : Int) != (n : Int)) = (b != UInt8.ofNat n) := by
  simp only [bne, u8_eq b n h]
theorem u8_lt (b : UInt8) : (b.toNat : Int) < 256 := by have := b.toNat_lt; omega
theorem c_spec_l1In (x a b : Int) : out run_spec_l1In [.one (Cell.int x), .one (Cell.int a), .one (Cell.int b)] = some [.one (Cell.bool (inR x a b))] := by
  refine out_of (H := []) (run_spec_l1In_of 0 ?_)
  simp only [spec_l1In, inR]
  by_cases h : a ≤ x
  · rw [decide_eq_true (by omega : x ≥ a), cond_true, Bool.true_and]
  · rw [decide_eq_false (by omega : ¬ x ≥ a), cond_false, Bool.false_and]
theorem c_impl_inRange (x a b : Int) : out run_impl_inRange [.one (Cell.int x), .one (Cell.int a), .one (Cell.int b)] = some [.one (Cell.bool (inR x a b))] := by
  refine out_of (H := []) (run_impl_inRange_of 0 ?_)
  simp only [impl_inRange, inR]
  by_cases h : a ≤ x
  · rw [decide_eq_true (by omega : x ≥ a), cond_true, Bool.true_and]
  · rw [decide_eq_false (by omega : ¬ x ≥ a), cond_false, Bool.false_and]
theorem c_spec_l1Small (b : UInt8) : out run_spec_l1Small [.one (.sc (.int .u8 (b.toNat : Int)))] = some [.one (Cell.bool (isSmall b))] := by
  have := u8_lt b
  refine out_of (H := []) (run_spec_l1Small_of 0 ?_)
  simp only [spec_l1Small, wrap_small (n := (b.toNat : Int)) (by omega) (by omega), c_spec_l1In, callS_canon, callL_canon, Option.map_some, Option.bind_some, shape_one, shape_agg, shape_nil, cellsAt_0, cellsAt_1, cellsAt_2, cellsAt_3, cells_one, cells_agg, cB_zero, cI_zero, cS_zero, cC_zero, cB_cons, cI_cons, cS_cons, cC_cons, cond_true, cond_false, List.length_cons, List.length_nil, beq_self_eq_true, Bool.and_true, Bool.true_and, lenC_encL, lenC_lst, deref_ref, emptyK_nil, bs_size, bs_toList, isSmall]
theorem c_spec_l1Digit (b : UInt8) : out run_spec_l1Digit [.one (.sc (.int .u8 (b.toNat : Int)))] = some [.one (Cell.bool (isFigure b))] := by
  have := u8_lt b
  refine out_of (H := []) (run_spec_l1Digit_of 0 ?_)
  simp only [spec_l1Digit, wrap_small (n := (b.toNat : Int)) (by omega) (by omega), c_spec_l1In, callS_canon, callL_canon, Option.map_some, Option.bind_some, shape_one, shape_agg, shape_nil, cellsAt_0, cellsAt_1, cellsAt_2, cellsAt_3, cells_one, cells_agg, cB_zero, cI_zero, cS_zero, cC_zero, cB_cons, cI_cons, cS_cons, cC_cons, cond_true, cond_false, List.length_cons, List.length_nil, beq_self_eq_true, Bool.and_true, Bool.true_and, lenC_encL, lenC_lst, deref_ref, emptyK_nil, bs_size, bs_toList, isFigure]
theorem c_impl_isSmall (b : UInt8) : out run_impl_isSmall [.one (.sc (.int .u8 (b.toNat : Int)))] = some [.one (Cell.bool (isSmall b))] := by
  refine out_of (H := []) (run_impl_isSmall_of 0 ?_)
  simp only [impl_isSmall, isSmall, inR]
  by_cases h : (97 : Int) ≤ b.toNat
  · rw [decide_eq_true (by omega : (b.toNat : Int) ≥ 97), cond_true, Bool.true_and]
  · rw [decide_eq_false (by omega : ¬ (b.toNat : Int) ≥ 97), cond_false, Bool.false_and]
theorem c_impl_isFigure (b : UInt8) : out run_impl_isFigure [.one (.sc (.int .u8 (b.toNat : Int)))] = some [.one (Cell.bool (isFigure b))] := by
  refine out_of (H := []) (run_impl_isFigure_of 0 ?_)
  simp only [impl_isFigure, isFigure, inR]
  by_cases h : (48 : Int) ≤ b.toNat
  · rw [decide_eq_true (by omega : (b.toNat : Int) ≥ 48), cond_true, Bool.true_and]
  · rw [decide_eq_false (by omega : ¬ (b.toNat : Int) ≥ 48), cond_false, Bool.false_and]
theorem c_spec_NameOk (s : Str) (hs : s.length ≤ 1073741824) : out run_spec_NameOk [.one (Cell.str (bs s))] = some [.one (Cell.bool (nameOk s))] := by
  have hM := maxLen_eq
  have loop : ∀ (r : Str) (i n : Nat), s.drop i = r → r.length < n → ∀ k m, spec_NameOk_l0 k m n (bs s) i = some ([.one (Cell.bool (nameGo (i == 0) r && inR s.length 1 10))], []) := by
    intro r
    induction r with
    | nil =>
      intro i n hd hn k m
      obtain ⟨n, rfl⟩ : ∃ j, n = j + 1 := ⟨n - 1, by omega⟩
      have := drop_nil hd
      simp only [spec_NameOk_l0, bs_size]
      rw [decide_eq_false (by omega), cond_false]
      simp only [c_spec_l1In, callS_canon, callL_canon, Option.map_some, Option.bind_some, shape_one, shape_agg, shape_nil, cellsAt_0, cellsAt_1, cellsAt_2, cellsAt_3, cells_one, cells_agg, cB_zero, cI_zero, cS_zero, cC_zero, cB_cons, cI_cons, cS_cons, cC_cons, cond_true, cond_false, List.length_cons, List.length_nil, beq_self_eq_true, Bool.and_true, Bool.true_and, lenC_encL, lenC_lst, deref_ref, emptyK_nil, bs_size, bs_toList, nameGo]
    | cons b r ih =>
      intro i n hd hn k m
      obtain ⟨n, rfl⟩ : ∃ j, n = j + 1 := ⟨n - 1, by omega⟩
      obtain ⟨hlt, hg, hd'⟩ := drop_cons hd
      simp only [List.length_cons] at hn
      have hz : ((i : Int) == 0) = (i == 0) := by rw [Bool.eq_iff_iff]; simp
      simp only [spec_NameOk_l0, bytS_bs, hg, c_spec_l1Small, c_spec_l1Digit, callS_canon, callL_canon, Option.map_some, Option.bind_some, shape_one, shape_agg, shape_nil, cellsAt_0, cellsAt_1, cellsAt_2, cellsAt_3, cells_one, cells_agg, cB_zero, cI_zero, cS_zero, cC_zero, cB_cons, cI_cons, cS_cons, cC_cons, cond_true, cond_false, List.length_cons, List.length_nil, beq_self_eq_true, Bool.and_true, Bool.true_and, lenC_encL, lenC_lst, deref_ref, emptyK_nil, bs_size, bs_toList]
      rw [decide_eq_true (by omega), cond_true, wrap_succ (by omega), ih (i + 1) n hd' (by omega)]
      have h45 : ((b.toNat : Int) != 45) = !(b == 45) := u8_ne b 45 (by omega)
      simp only [nameGo, hz, show ((i + 1 : Nat) == 0) = false from rfl, h45]
      cases isSmall b <;> cases isFigure b <;> cases (b == 45) <;> cases (i == 0) <;> rfl
  refine out_of (H := []) (run_spec_NameOk_of (s.length + 1) ?_)
  have := loop s 0 (s.length + 1 + 1) rfl (by omega) (s.length + 1 + 1) (s.length + 1 + 1)
  simpa [spec_NameOk, nameOk] using this
theorem c_impl_NameOk (s : Str) (hs : s.length ≤ 1073741824) : out run_impl_NameOk [.one (Cell.str (bs s))] = some [.one (Cell.bool (nameOk s))] := by
  have hM := maxLen_eq
  have loop : ∀ (r : Str) (i n : Nat), s.drop i = r → r.length < n → ∀ k m, impl_NameOk_l0 k m n (bs s) i = some ([.one (Cell.bool (nameGo (i == 0) r && inR s.length 1 10))], []) := by
    intro r
    induction r with
    | nil =>
      intro i n hd hn k m
      obtain ⟨n, rfl⟩ : ∃ j, n = j + 1 := ⟨n - 1, by omega⟩
      have := drop_nil hd
      simp only [impl_NameOk_l0, bs_size]
      rw [decide_eq_false (by omega), cond_false]
      simp only [c_impl_inRange, callS_canon, callL_canon, Option.map_some, Option.bind_some, shape_one, shape_agg, shape_nil, cellsAt_0, cellsAt_1, cellsAt_2, cellsAt_3, cells_one, cells_agg, cB_zero, cI_zero, cS_zero, cC_zero, cB_cons, cI_cons, cS_cons, cC_cons, cond_true, cond_false, List.length_cons, List.length_nil, beq_self_eq_true, Bool.and_true, Bool.true_and, lenC_encL, lenC_lst, deref_ref, emptyK_nil, bs_size, bs_toList, nameGo]
    | cons b r ih =>
      intro i n hd hn k m
      obtain ⟨n, rfl⟩ : ∃ j, n = j + 1 := ⟨n - 1, by omega⟩
      obtain ⟨hlt, hg, hd'⟩ := drop_cons hd
      simp only [List.length_cons] at hn
      have hz : ((i : Int) == 0) = (i == 0) := by rw [Bool.eq_iff_iff]; simp
      simp only [impl_NameOk_l0, bytS_bs, hg, c_impl_isSmall, c_impl_isFigure, callS_canon, callL_canon, Option.map_some, Option.bind_some, shape_one, shape_agg, shape_nil, cellsAt_0, cellsAt_1, cellsAt_2, cellsAt_3, cells_one, cells_agg, cB_zero, cI_zero, cS_zero, cC_zero, cB_cons, cI_cons, cS_cons, cC_cons, cond_true, cond_false, List.length_cons, List.length_nil, beq_self_eq_true, Bool.and_true, Bool.true_and, lenC_encL, lenC_lst, deref_ref, emptyK_nil, bs_size, bs_toList]
      rw [decide_eq_true (by omega), cond_true, wrap_succ (by omega), ih (i + 1) n hd' (by omega)]
      have h45 : ((b.toNat : Int) != 45) = !(b == 45) := u8_ne b 45 (by omega)
      simp only [nameGo, hz, show ((i + 1 : Nat) == 0) = false from rfl, h45]
      cases isSmall b <;> cases isFigure b <;> cases (b == 45) <;> cases (i == 0) <;> rfl
  refine out_of (H := []) (run_impl_NameOk_of (s.length + 1) ?_)
  have := loop s 0 (s.length + 1 + 1) rfl (by omega) (s.length + 1 + 1) (s.length + 1 + 1)
  simpa [impl_NameOk, nameOk] using this
/-! parts of a text -/
/-- The parts between which a byte stands; cur: what stands ahead already. -/
def splitGo (c : UInt8) (cur : Str) : Str → List Str
  | [] => [cur]
  | b :: r => if b = c then cur :: splitGo c [] r else splitGo c (cur ++ [b]) r
def split (c : UInt8) (s : Str) : List Str := splitGo c [] s
/-- What stands ahead of the first such byte, and behind it. -/
def ahead (c : UInt8) (s : Str) : Str := s.takeWhile (· != c)
def behind (c : UInt8) (s : Str) : Str := (s.dropWhile (· != c)).drop 1

theorem splitGo_length (c : UInt8) : ∀ (s cur : Str), (splitGo c cur s).length ≤ s.length + 1 ∧ ∀ x ∈ splitGo c cur s, x.length ≤ cur.length + s.length := by
  intro s
  induction s with
  | nil => intro cur; simp [splitGo]
  | cons b r ih =>
    intro cur
    simp only [splitGo]
    split
    · obtain ⟨h1, h2⟩ := ih []
      refine ⟨by simp; omega, fun x hx => ?_⟩
      rcases List.mem_cons.1 hx with rfl | hx
      · simp
      · have := h2 x hx; simp at this; simp; omega
    · obtain ⟨h1, h2⟩ := ih (cur ++ [b])
      refine ⟨by simp; omega, fun x hx => ?_⟩
      have := h2 x hx; simp at this; simp; omega

theorem splitGo_not {c : UInt8} : ∀ {s : Str} (cur : Str), c ∉ s → splitGo c cur s = [cur ++ s] := by
  intro s
  induction s with
  | nil => intro cur _; simp [splitGo]
  | cons b r ih =>
    intro cur h
    simp only [List.mem_cons, not_or] at h
    simp only [splitGo]
    rw [if_neg fun e => h.1 e.symm, ih _ h.2]
    simp

theorem splitGo_cut {c : UInt8} : ∀ {s : Str} (cur : Str), c ∈ s → splitGo c cur s = (cur ++ ahead c s) :: splitGo c [] (behind c s) := by
  intro s
  induction s with
  | nil => intro cur h; simp at h
  | cons b r ih =>
    intro cur h
    simp only [splitGo]
    by_cases e : b = c
    · subst e
      simp [ahead, behind]
    · rw [if_neg e, ih _ (by simpa [Ne.symm e] using h)]
      simp [ahead, behind, e]

theorem split_not {c : UInt8} {s : Str} (h : c ∉ s) : split c s = [s] := splitGo_not [] h
theorem split_cut {c : UInt8} {s : Str} (h : c ∈ s) : split c s = ahead c s :: split c (behind c s) := splitGo_cut [] h
theorem splitGo_ne {c : UInt8} : ∀ (s cur : Str), splitGo c cur s ≠ [] := by
  intro s
  induction s with
  | nil => intro cur; simp [splitGo]
  | cons b r ih => intro cur; simp only [splitGo]; split <;> simp [ih]
theorem ahead_le (c : UInt8) (s : Str) : (ahead c s).length ≤ s.length := by
  have := (List.takeWhile_prefix (fun x => x != c) (l := s)).length_le
  exact this
theorem behind_le (c : UInt8) (s : Str) : (behind c s).length ≤ s.length := by
  have := (List.dropWhile_suffix (fun x => x != c) (l := s)).length_le
  simp only [behind, List.length_drop]
  omega
theorem ahead_not {c : UInt8} (s : Str) : c ∉ ahead c s := by
  induction s with
  | nil => simp [ahead]
  | cons b r ih =>
    unfold ahead
    rw [List.takeWhile_cons]
    split
    · rename_i h
      intro hm
      rcases List.mem_cons.1 hm with e | e
      · rw [← e] at h; simp at h
      · exact ih e
    · simp

theorem nameGo_mem : ∀ {s : Str} {f : Bool}, nameGo f s = true → ∀ b ∈ s, isSmall b = true ∨ isFigure b = true ∨ b = 45 := by
  intro s
  induction s with
  | nil => intro f _ b hb; simp at hb
  | cons c r ih =>
    intro f h b hb
    simp only [nameGo, Bool.and_eq_true, Bool.or_eq_true, beq_iff_eq] at h
    rcases List.mem_cons.1 hb with rfl | hb
    · rcases h.1 with h1 | h1
      · exact .inl h1
      · rcases h1.2 with h2 | h2
        · exact .inr (.inl h2)
        · exact .inr (.inr h2)
    · exact ih h.2 b hb
theorem nameOk_not {s : Str} (h : nameOk s = true) : (35 : UInt8) ∉ s ∧ (94 : UInt8) ∉ s := by
  simp only [nameOk, Bool.and_eq_true] at h
  constructor <;> intro hb <;> rcases nameGo_mem h.1 _ hb with h | h | h <;> revert h <;> decide
theorem nameOk_nil : nameOk [] = false := rfl
theorem c_spec_Split (s : Str) (c : UInt8) (hs : s.length ≤ 1073741824) : outL run_spec_Split [.one (Cell.str (bs s)), .one (.sc (.int .u8 (c.toNat : Int)))] = some [.one (strsC (split c s))] := by
  have hM := maxLen_eq
  have loop : ∀ (r : Str) (i from' n : Nat) (cur : Str) (cl : Cell) (H : List Entry) (done : List Str), s.drop i = r → from' ≤ i → i ≤ s.length → (s.take i).drop from' = cur → r.length + 1 < n → Grow 1 cl H (done.map eStr) → done.length ≤ i →
      ∀ k m, ∃ cl' H', spec_Split_l0 k m n (bs s) (c.toNat : Int) cl from' i H = some ([.one cl'], H') ∧ Grow 1 cl' H' ((done ++ splitGo c cur r).map eStr) := by
    intro r
    induction r with
    | nil =>
      intro i from' n cur cl H done hd hf hi hc hn hg hdl k m
      obtain ⟨n, rfl⟩ : ∃ j, n = j + 2 := ⟨n - 2, by omega⟩
      have hlen := drop_nil hd
      have e : i = s.length := by omega
      subst e
      obtain ⟨p, hp, hgp⟩ := hg.app (by' := 16) [eStr cur] (by simp [bound]; omega) (by simp [bound]; omega)
      refine ⟨p.1, p.2, ?_, by simpa [splitGo] using hgp⟩
      simp only [spec_Split_l0, bs_size]
      rw [decide_eq_true (by omega), cond_true, show (((s.length : Nat) : Int) == (s.length : Int)) = true by simp, cond_true, subS_bs _ _ _ hf (Nat.le_refl _), hc]
      simp only [Option.bind_some]
      rw [show [[Cell.str (bs cur)]] = [eStr cur] from rfl, hp]
      simp only [Option.bind_some]
      rw [wrap_succ (by omega), decide_eq_false (by omega), cond_false]
    | cons b r ih =>
      intro i from' n cur cl H done hd hf hi hc hn hg hdl k m
      obtain ⟨n, rfl⟩ : ∃ j, n = j + 1 := ⟨n - 1, by omega⟩
      obtain ⟨hlt, hgx, hd'⟩ := drop_cons hd
      simp only [List.length_cons] at hn
      simp only [spec_Split_l0, bs_size, bytS_bs, hgx, Option.map_some, Option.bind_some]
      rw [decide_eq_true (by omega), cond_true, show (((i : Nat) : Int) == (s.length : Int)) = false by simp; omega, cond_false, wrap_succ (by omega)]
      have hbc : ((b.toNat : Int) == (c.toNat : Int)) = decide (b = c) := by
        rw [Bool.eq_iff_iff]
        simp only [beq_iff_eq, decide_eq_true_eq]
        exact ⟨fun h => UInt8.toNat_inj.1 (by omega), fun h => by rw [h]⟩
      rw [hbc]
      by_cases e : b = c
      · rw [decide_eq_true e, cond_true, subS_bs _ _ _ hf (by omega), hc]
        simp only [Option.bind_some]
        obtain ⟨p, hp, hgp⟩ := hg.app (by' := 16) [eStr cur] (by simp [bound]; omega) (by simp [bound]; omega)
        rw [show [[Cell.str (bs cur)]] = [eStr cur] from rfl, hp]
        simp only [Option.bind_some]
        obtain ⟨cl', H', h1, h2⟩ := ih (i + 1) (i + 1) n [] p.1 p.2 (done ++ [cur]) hd' (Nat.le_refl _) (by omega) (by simp) (by omega) (by simpa using hgp) (by simp; omega) k m
        refine ⟨cl', H', h1, ?_⟩
        simpa [splitGo, e] using h2
      · rw [decide_eq_false e, cond_false]
        obtain ⟨cl', H', h1, h2⟩ := ih (i + 1) from' n (cur ++ [b]) cl H done hd' (by omega) (by omega) (by
          rw [← hc, List.take_add_one, hgx]
          simp only [Option.toList_some]
          rw [List.drop_append_of_le_length (by simp; omega)]) (by omega) hg (by omega) k m
        refine ⟨cl', H', h1, ?_⟩
        simpa [splitGo, e] using h2
  obtain ⟨cl', H', h1, h2⟩ := loop s 0 0 (s.length + 1 + 1) [] (.lst true 1 []) [] [] rfl (by omega) (by omega) rfl (by omega) (.nil 1) (by simp) (s.length + 1 + 1) (s.length + 1 + 1)
  refine outL_of (run_spec_Split_of (s.length + 1) (by simpa [spec_Split] using h1)) ?_
  exact h2.read
theorem ahead_all {c : UInt8} {s : Str} (h : c ∉ s) : ahead c s = s := by
  induction s with
  | nil => rfl
  | cons b r ih =>
    simp only [List.mem_cons, not_or] at h
    have : ahead c (b :: r) = b :: ahead c r := by simp [ahead, Ne.symm h.1]
    rw [this, ih h.2]
theorem behind_none {c : UInt8} {s : Str} (h : c ∉ s) : behind c s = [] := by
  induction s with
  | nil => rfl
  | cons b r ih =>
    simp only [List.mem_cons, not_or] at h
    have : behind c (b :: r) = behind c r := by simp [behind, Ne.symm h.1]
    rw [this, ih h.2]
/-! tasks -/
def parseTask (s : Str) : Str × Str × Bool := if nameOk (ahead 35 s) && nameOk (behind 35 s) then (ahead 35 s, behind 35 s, true) else ([], [], false)
def parseTaskV (s : Str) : List AV := [.one (Cell.str (bs (parseTask s).1)), .one (Cell.str (bs (parseTask s).2.1)), .one (Cell.bool (parseTask s).2.2)]
theorem not_mem_behind {c : UInt8} {s : Str} (h : c ∉ s) (d : UInt8) : d ∉ behind c s := by
  rw [behind_none h]
  simp
/-- A text without what stands ahead of it. -/
def trimP (p s : Str) : Str := if p.isPrefixOf s then s.drop p.length else s
def onOk (s : Str) : Bool := if 35 ∈ s then nameOk (ahead 35 s) && nameOk (behind 35 s) else nameOk (trimP [94] s)
theorem bytS_head (b : UInt8) (r : Str) : bytS (bs (b :: r)) 0 = some (b.toNat : Int) := by
  have := bytS_bs (b :: r) 0
  simpa using this
theorem indexByte_eq (c : UInt8) (s : Str) : Lib.indexByte s c = if c ∈ s then ((ahead c s).length : Int) else -1 := by
  induction s with
  | nil => rfl
  | cons b r ih =>
    simp only [Lib.indexByte]
    by_cases e : b = c
    · subst e
      simp [ahead]
    · have e1 : (b == c) = false := by simpa using e
      simp only [e1, Bool.false_eq_true, if_false]
      have e2 : ahead c (b :: r) = b :: ahead c r := by simp [ahead, e]
      by_cases h : c ∈ r
      · rw [if_pos h] at ih
        rw [ih, if_neg (by simp <;> omega), if_pos (List.mem_cons_of_mem _ h), e2]
        simp
      · rw [if_neg h] at ih
        rw [ih, if_pos (by simp), if_neg]
        intro hm
        rcases List.mem_cons.1 hm with q | q
        · exact e q.symm
        · exact h q
theorem take_ahead (c : UInt8) (s : Str) : s.take (ahead c s).length = ahead c s :=
  (List.prefix_iff_eq_take.1 (List.takeWhile_prefix _)).symm
theorem ahead_lt {c : UInt8} {s : Str} (h : c ∈ s) : (ahead c s).length < s.length := by
  have h1 := ahead_le c s
  rcases Nat.lt_or_ge (ahead c s).length s.length with h2 | h2
  · exact h2
  · have h3 := take_ahead c s
    rw [List.take_of_length_le h2] at h3
    rw [h3] at h
    exact absurd h (ahead_not s)
theorem drop_behind (c : UInt8) (s : Str) : s.drop ((ahead c s).length + 1) = behind c s := by
  have h : s = ahead c s ++ s.dropWhile (· != c) := (List.takeWhile_append_dropWhile).symm
  have h2 : s.drop (ahead c s).length = s.dropWhile (· != c) := by
    rw [congrArg (List.drop (ahead c s).length) h, List.drop_left]
  rw [← List.drop_drop, h2]
  rfl
theorem c_internal_stringslite_IndexByte (s : Str) (c : UInt8) : out run_internal_stringslite_IndexByte [.one (Cell.str (bs s)), .one (.sc (.int .u8 (c.toNat : Int)))] = some [.one (Cell.int (Lib.indexByte s c))] := by
  simp [out, run_internal_stringslite_IndexByte]
theorem c_internal_stringslite_Index (s : Str) (c : UInt8) : out run_internal_stringslite_Index [.one (Cell.str (bs s)), .one (Cell.str (bs [c]))] = some [.one (Cell.int (Lib.indexByte s c))] := by
  refine out_of (H := []) (run_internal_stringslite_Index_of 0 ?_)
  simp only [internal_stringslite_Index, bytS_head, c_internal_stringslite_IndexByte, callS_canon, callL_canon, Option.map_some, Option.bind_some, shape_one, shape_agg, shape_nil, cellsAt_0, cellsAt_1, cellsAt_2, cellsAt_3, cells_one, cells_agg, cB_zero, cI_zero, cS_zero, cC_zero, cB_cons, cI_cons, cS_cons, cC_cons, cond_true, cond_false, List.length_cons, List.length_nil, beq_self_eq_true, Bool.and_true, Bool.true_and, lenC_encL, lenC_lst, deref_ref, emptyK_nil, bs_size, bs_toList]
  rw [show (((0 + 1 : Nat) : Int) == 0) = false from rfl, show (((0 + 1 : Nat) : Int) == 1) = true from rfl, cond_false, cond_true]
  by_cases h : [c] = s
  · rw [← h]
    simp [Lib.indexByte]
  · rw [show ([c] == s) = false by simpa using h, cond_false]
def cutV (c : UInt8) (s : Str) : List AV := if c ∈ s then [.one (Cell.str (bs (ahead c s))), .one (Cell.str (bs (behind c s))), .one (Cell.bool true)] else [.one (Cell.str (bs s)), .one (Cell.str (bs [])), .one (Cell.bool false)]
theorem c_internal_stringslite_Cut (s : Str) (c : UInt8) (hs : s.length ≤ 1073741824) : out run_internal_stringslite_Cut [.one (Cell.str (bs s)), .one (Cell.str (bs [c]))] = some (cutV c s) := by
  refine out_of (H := []) (run_internal_stringslite_Cut_of 0 ?_)
  simp only [internal_stringslite_Cut, c_internal_stringslite_Index, callS_canon, callL_canon, Option.map_some, Option.bind_some, shape_one, shape_agg, shape_nil, cellsAt_0, cellsAt_1, cellsAt_2, cellsAt_3, cells_one, cells_agg, cB_zero, cI_zero, cS_zero, cC_zero, cB_cons, cI_cons, cS_cons, cC_cons, cond_true, cond_false, List.length_cons, List.length_nil, beq_self_eq_true, Bool.and_true, Bool.true_and, lenC_encL, lenC_lst, deref_ref, emptyK_nil, bs_size, bs_toList]
  rw [indexByte_eq]
  unfold cutV
  by_cases h : c ∈ s
  · have h1 := ahead_lt h
    rw [if_pos h, if_pos h, decide_eq_true (by omega), cond_true]
    have e1 := subS_bs s 0 (ahead c s).length (by omega) (by omega)
    simp only [Int.natCast_zero, List.drop_zero, take_ahead] at e1
    rw [e1]
    simp only [Option.bind_some]
    rw [show (((ahead c s).length : Int) + ((0 + 1 : Nat) : Int)) = (((ahead c s).length + 1 : Nat) : Int) by omega, wrap_small (by omega) (by omega), subS_bs s _ _ (by omega) (Nat.le_refl _), List.take_length, drop_behind]
    rfl
  · rw [if_neg h, if_neg h, decide_eq_false (by omega), cond_false]
theorem c_strings_Cut (s : Str) (c : UInt8) (hs : s.length ≤ 1073741824) : out run_strings_Cut [.one (Cell.str (bs s)), .one (Cell.str (bs [c]))] = some (cutV c s) := by
  refine out_of (H := []) (run_strings_Cut_of 0 ?_)
  simp only [strings_Cut, c_internal_stringslite_Cut s c hs, callS_canon, callL_canon, Option.map_some, Option.bind_some, shape_one, shape_agg, shape_nil, cellsAt_0, cellsAt_1, cellsAt_2, cellsAt_3, cells_one, cells_agg, cB_zero, cI_zero, cS_zero, cC_zero, cB_cons, cI_cons, cS_cons, cC_cons, cond_true, cond_false, List.length_cons, List.length_nil, beq_self_eq_true, Bool.and_true, Bool.true_and, lenC_encL, lenC_lst, deref_ref, emptyK_nil, bs_size, bs_toList]
  unfold cutV
  by_cases h : c ∈ s
  · simp only [if_pos h, callS_canon, callL_canon, Option.map_some, Option.bind_some, shape_one, shape_agg, shape_nil, cellsAt_0, cellsAt_1, cellsAt_2, cellsAt_3, cells_one, cells_agg, cB_zero, cI_zero, cS_zero, cC_zero, cB_cons, cI_cons, cS_cons, cC_cons, cond_true, cond_false, List.length_cons, List.length_nil, beq_self_eq_true, Bool.and_true, Bool.true_and, lenC_encL, lenC_lst, deref_ref, emptyK_nil, bs_size, bs_toList]
  · simp only [if_neg h, callS_canon, callL_canon, Option.map_some, Option.bind_some, shape_one, shape_agg, shape_nil, cellsAt_0, cellsAt_1, cellsAt_2, cellsAt_3, cells_one, cells_agg, cB_zero, cI_zero, cS_zero, cC_zero, cB_cons, cI_cons, cS_cons, cC_cons, cond_true, cond_false, List.length_cons, List.length_nil, beq_self_eq_true, Bool.and_true, Bool.true_and, lenC_encL, lenC_lst, deref_ref, emptyK_nil, bs_size, bs_toList]
/-! the order of texts -/
def lt (a b : Str) : Bool := Op.bytesLess a b
theorem lt_self (a : Str) : lt a a = false := by
  unfold lt
  induction a with
  | nil => rfl
  | cons x a ih => simp [Op.bytesLess, ih]
theorem lt_not : ∀ (a b : Str), (lt a b || a == b) = !lt b a := by
  unfold lt
  intro a
  induction a with
  | nil => intro b; cases b <;> rfl
  | cons x a ih =>
    intro b
    cases b with
    | nil => rfl
    | cons y b =>
      have h := ih b
      simp only [Op.bytesLess]
      have e : ((x :: a) == (y :: b)) = (x == y && a == b) := rfl
      rw [e]
      rcases Nat.lt_trichotomy x.toNat y.toNat with h1 | h1 | h1
      · have e1 : decide (x < y) = true := by simpa [UInt8.lt_iff_toNat_lt] using h1
        have e2 : decide (y < x) = false := by simp [UInt8.lt_iff_toNat_lt]; omega
        have e3 : (y == x) = false := by simp; intro e; rw [e] at h1; omega
        simp [e1, e2, e3]
      · have e0 := UInt8.toNat_inj.1 h1
        subst e0
        have e1 : decide (x < x) = false := by simp
        simp only [e1, Bool.false_or, beq_self_eq_true, Bool.true_and, h]
      · have e1 : decide (y < x) = true := by simpa [UInt8.lt_iff_toNat_lt] using h1
        have e2 : decide (x < y) = false := by simp [UInt8.lt_iff_toNat_lt]; omega
        have e3 : (x == y) = false := by simp; intro e; rw [e] at h1; omega
        simp [e1, e2, e3]
theorem bl_eq (a b : Str) : Op.bytesLess a b = lt a b := rfl
/-- Ascending, each text once. -/
def asc : List Str → Bool
  | [] => true
  | [_] => true
  | a :: b :: r => lt a b && asc (b :: r)
theorem wrap_pred {i : Nat} (h : i < Go.maxLen) : IntKind.i64.wrap (((i + 1 : Nat) : Int) - 1) = (i : Int) := by
  have := maxLen_eq
  rw [wrap_small (by omega) (by omega)]
  omega
/-- The place of a text in a list. -/
def idxS (s : Str) : List Str → Nat → Int
  | [], _ => -1
  | b :: r, i => if s = b then (i : Int) else idxS s r (i + 1)
theorem idxS_ge (s : Str) : ∀ (l : List Str) (i : Nat), (decide (idxS s l i ≥ 0)) = l.contains s := by
  intro l
  induction l with
  | nil => intro i; rfl
  | cons b r ih =>
    intro i
    rw [List.contains_cons]
    by_cases e : s = b
    · have e1 : idxS s (b :: r) i = (i : Int) := if_pos e
      rw [e1, show (s == b) = true by simpa using e, decide_eq_true (by omega)]; rfl
    · have e1 : idxS s (b :: r) i = idxS s r (i + 1) := if_neg e
      rw [e1, ih, show (s == b) = false by simpa using e]; rfl
theorem idxS_nat (s : Str) : ∀ (l : List Str) (i : Nat), (idxS s l i = -1 ∧ s ∉ l) ∨ ∃ j x, idxS s l i = ((i + j : Nat) : Int) ∧ l[j]? = some x := by
  intro l
  induction l with
  | nil => intro i; exact .inl ⟨rfl, by simp⟩
  | cons b r ih =>
    intro i
    by_cases e : s = b
    · exact .inr ⟨0, b, by simp [idxS, e], rfl⟩
    · rcases ih (i + 1) with ⟨h1, h2⟩ | ⟨j, x, h1, h2⟩
      · exact .inl ⟨by simp [idxS, e, h1], by simp [e, h2]⟩
      · exact .inr ⟨j + 1, x, by simp only [idxS, if_neg e, h1]; congr 1; omega, by simpa using h2⟩
/-- What a name leans on. -/
def nextOf (names : List Str) (next : List (List Str)) (s : Str) : List Str := if idxS s names 0 < 0 then [] else (next[(idxS s names 0).toNat]?).getD []
theorem idxS_take (s : Str) (n : Nat) : ∀ (l : List Str) (i : Nat), (idxS s (l.take n) i = idxS s l i ∧ idxS s l i < ((i + n : Nat) : Int)) ∨ (idxS s (l.take n) i = -1 ∧ ((i + n : Nat) : Int) ≤ idxS s l i) := by
  induction n with
  | zero =>
    intro l i
    rcases idxS_nat s l i with ⟨h1, _⟩ | ⟨j, x, h1, _⟩
    · exact .inl ⟨by rw [h1]; rfl, by rw [h1]; omega⟩
    · exact .inr ⟨rfl, by rw [h1]; omega⟩
  | succ n ih =>
    intro l i
    cases l with
    | nil => exact .inl ⟨rfl, by simp only [idxS]; omega⟩
    | cons b r =>
      by_cases e : s = b
      · exact .inl ⟨by simp [idxS, e], by simp only [idxS, if_pos e]; omega⟩
      · simp only [List.take_succ_cons, idxS, if_neg e]
        have := ih r (i + 1)
        rw [show i + 1 + n = i + (n + 1) by omega] at this
        exact this
/-- What names lean on is not asked behind the shorter of both. -/
theorem nextOf_take (names : List Str) (next : List (List Str)) (s : Str) : nextOf (names.take (min names.length next.length)) (next.take (min names.length next.length)) s = nextOf names next s := by
  unfold nextOf
  rcases idxS_take s (min names.length next.length) names 0 with ⟨h1, h2⟩ | ⟨h1, h2⟩
  · rw [h1]
    split
    · rfl
    · rw [List.getElem?_take, if_pos (by omega)]
  · rw [h1, if_pos (by omega), if_neg (by omega)]
    rcases idxS_nat s names 0 with ⟨h3, _⟩ | ⟨j, x, h3, h4⟩
    · rw [h3] at h2; omega
    · have hj := (List.getElem?_eq_some_iff.1 h4).1
      rw [h3] at h2 ⊢
      rw [List.getElem?_eq_none (by omega)]
      rfl
/-- The place of the first element that answers. -/
def idxF {α : Type} (p : α → Bool) : List α → Nat → Int
  | [], _ => -1
  | x :: r, i => cond (p x) (i : Int) (idxF p r (i + 1))
theorem idxF_find {α : Type} (p : α → Bool) : ∀ (l : List α) (i : Nat), (idxF p l i = -1 ∧ l.find? p = none) ∨ ∃ (j : Nat) (x : α), idxF p l i = ((i + j : Nat) : Int) ∧ l[j]? = some x ∧ l.find? p = some x := by
  intro l
  induction l with
  | nil => intro i; exact .inl ⟨rfl, rfl⟩
  | cons b r ih =>
    intro i
    by_cases e : p b = true
    · exact .inr ⟨0, b, by simp [idxF, e], rfl, by simp [e]⟩
    · rcases ih (i + 1) with ⟨h1, h2⟩ | ⟨j, x, h1, h2, h3⟩
      · exact .inl ⟨by simp [idxF, e, h1], by simp [e, h2]⟩
      · exact .inr ⟨j + 1, x, by simp only [idxF, Bool.eq_false_iff.2 e, cond_false, h1]; congr 1; omega, by simpa using h2, by simp [e, h3]⟩
/-- What a name leans on is in order already, or is no name. -/
def readyB (names : List Str) (next : List (List Str)) (s : Str) (done : List Str) : Bool := (nextOf names next s).all fun x => !(names.contains x && !done.contains x)
def freeB (names : List Str) (next : List (List Str)) (done : List Str) (s : Str) : Bool := !done.contains s && readyB names next s done
def orderGo (names : List Str) (next : List (List Str)) : Nat → List Str → List Str × Bool
  | 0, o => (o, true)
  | d + 1, o => match names.find? (freeB names next o) with
    | some s => orderGo names next d (o ++ [s])
    | none => ([], false)
def orderOf (names : List Str) (next : List (List Str)) : List Str × Bool := orderGo names next names.length []
theorem orderGo_le (names : List Str) (next : List (List Str)) : ∀ (d : Nat) (o : List Str), (orderGo names next d o).1.length ≤ d + o.length ∧ ∀ x ∈ (orderGo names next d o).1, x ∈ o ∨ x ∈ names := by
  intro d
  induction d with
  | zero => intro o; exact ⟨by simp [orderGo], fun x hx => .inl hx⟩
  | succ d ih =>
    intro o
    simp only [orderGo]
    split
    · rename_i s hs
      obtain ⟨h1, h2⟩ := ih (o ++ [s])
      refine ⟨by simp at h1; omega, fun x hx => ?_⟩
      rcases h2 x hx with h | h
      · rcases List.mem_append.1 h with h | h
        · exact .inl h
        · simp only [List.mem_singleton] at h
          subst h
          exact .inr (List.mem_of_find?_eq_some hs)
      · exact .inr h
    · exact ⟨by simp, by simp⟩
theorem orderOf_le (names : List Str) (next : List (List Str)) : (orderOf names next).1.length ≤ names.length ∧ ∀ x ∈ (orderOf names next).1, x ∈ names := by
  obtain ⟨h1, h2⟩ := orderGo_le names next names.length []
  exact ⟨by simpa [orderOf] using h1, fun x hx => (h2 x hx).resolve_left (by simp)⟩
theorem nextOf_le {names : List Str} {next : List (List Str)} (h : ∀ d ∈ next, d.length ≤ 1073741824) (s : Str) : (nextOf names next s).length ≤ 1073741824 := by
  unfold nextOf
  split
  · simp
  · cases hd : next[(idxS s names 0).toNat]? with
    | none => simp
    | some d => exact h d (List.mem_of_getElem? hd)
/-! texts in their order, each once -/
theorem lt_iff : ∀ (a b : Str), lt a b = true ↔ a < b := by
  intro a
  unfold lt
  induction a with
  | nil => intro b; cases b <;> simp [Op.bytesLess]
  | cons x a ih =>
    intro b
    cases b with
    | nil => simp [Op.bytesLess]
    | cons y b => rw [List.cons_lt_cons_iff, ← ih b]; simp [Op.bytesLess]
theorem strict_unique : ∀ {a b : List Str}, a.Pairwise (· < ·) → b.Pairwise (· < ·) → (∀ x, x ∈ a ↔ x ∈ b) → a = b := by
  intro a
  induction a with
  | nil =>
    intro b _ _ h
    cases b with
    | nil => rfl
    | cons y b => exact absurd ((h y).2 List.mem_cons_self) (by simp)
  | cons x a ih =>
    intro b ha hb h
    cases b with
    | nil => exact absurd ((h x).1 List.mem_cons_self) (by simp)
    | cons y b =>
      obtain ⟨a1, a2⟩ := List.pairwise_cons.1 ha
      obtain ⟨b1, b2⟩ := List.pairwise_cons.1 hb
      have hxy : x = y := by
        rcases List.mem_cons.1 ((h x).1 List.mem_cons_self) with e | e
        · exact e
        · rcases List.mem_cons.1 ((h y).2 List.mem_cons_self) with e' | e'
          · exact e'.symm
          · exact absurd (List.lt_trans (b1 x e) (a1 y e')) (List.lt_irrefl _)
      subst hxy
      congr 1
      refine ih a2 b2 fun z => ⟨fun hz => ?_, fun hz => ?_⟩
      · rcases List.mem_cons.1 ((h z).1 (List.mem_cons_of_mem _ hz)) with rfl | e
        · exact absurd (a1 z hz) (List.lt_irrefl _)
        · exact e
      · rcases List.mem_cons.1 ((h z).2 (List.mem_cons_of_mem _ hz)) with rfl | e
        · exact absurd (b1 z hz) (List.lt_irrefl _)
        · exact e
def sortedU (xs : List Str) : List Str := Lib.compact (sortS xs)
theorem sortedU_spec (xs : List Str) : (sortedU xs).Pairwise (· < ·) ∧ ∀ x, x ∈ sortedU xs ↔ x ∈ xs := by
  have hp : (sortS xs).Pairwise (fun a b => a ≤ b) := by
    have := List.pairwise_mergeSort (le := fun x y : Str => decide (x ≤ y)) (fun a b c h1 h2 => by simp only [decide_eq_true_eq] at *; exact List.le_trans h1 h2) (fun a b => by simpa using List.le_total a b) xs
    simpa [sortS] using this
  have hm : ∀ x, x ∈ sortS xs ↔ x ∈ xs := fun x => List.mem_mergeSort
  generalize hs : sortS xs = s at hp hm
  have key : ∀ m, m < s.length → ∃ C, Lib.compactUpTo s.toArray (m + 1) = C ++ [s[m]!] ∧ (C ++ [s[m]!]).Pairwise (· < ·) ∧ ∀ x, x ∈ C ++ [s[m]!] ↔ x ∈ s.take (m + 1) := by
    intro m
    induction m with
    | zero =>
      intro h
      obtain ⟨x, r, rfl⟩ : ∃ x r, s = x :: r := by cases s with | nil => simp at h | cons x r => exact ⟨x, r, rfl⟩
      exact ⟨[], by rw [Lib.compactUpTo_succ]; simp [Lib.compactUpTo, Lib.keeps], by simp, by simp⟩
    | succ m ih =>
      intro h
      obtain ⟨C, h1, h2, h3⟩ := ih (by omega)
      have e0 : s[m]! = s[m] := by simp [show m < s.length by omega]
      have e1 : s[m + 1]! = s[m + 1] := by simp [h]
      have ht : s.take (m + 1 + 1) = s.take (m + 1) ++ [s[m + 1]] := by rw [List.take_add_one, List.getElem?_eq_getElem h]; rfl
      have hle : s[m] ≤ s[m + 1] := List.pairwise_iff_getElem.1 hp m (m + 1) (by omega) h (by omega)
      rw [Lib.compactUpTo_succ, h1]
      have hk : Lib.keeps s.toArray (m + 1) = decide (s[m + 1] ≠ s[m]) := by
        simp [Lib.keeps, h, show m < s.length by omega]
      rw [hk, e1, ht]
      by_cases he : s[m + 1] = s[m]
      · refine ⟨C, by simp [he, e0], by rw [he, ← e0]; exact h2, fun x => ?_⟩
        have h4 := h3 x
        rw [e0] at h4
        rw [he]
        constructor
        · exact fun h => List.mem_append_left _ (h4.1 h)
        · intro h
          rcases List.mem_append.1 h with h | h
          · exact h4.2 h
          · exact List.mem_append_right _ h
      · refine ⟨C ++ [s[m]!], by simp [he, h], ?_, fun x => ?_⟩
        · refine List.pairwise_append.2 ⟨h2, by simp, fun a ha b hb => ?_⟩
          simp only [List.mem_singleton] at hb
          subst hb
          have hlt : s[m] < s[m + 1] := by
            rcases Classical.em (s[m] < s[m + 1]) with h | h
            · exact h
            · exact absurd (List.le_antisymm (List.not_lt.1 h) hle) he
          rcases List.mem_append.1 ha with ha | ha
          · have := (List.pairwise_append.1 h2).2.2 a ha s[m]! (by simp)
            rw [e0] at this
            exact List.lt_trans this hlt
          · simp only [List.mem_singleton] at ha
            rw [ha, e0]
            exact hlt
        · rw [List.mem_append, h3 x, List.mem_append]
  unfold sortedU
  rw [hs]
  cases hl : s.length with
  | zero =>
    have : s = [] := List.eq_nil_of_length_eq_zero hl
    subst this
    exact ⟨by simp [Lib.compact, Lib.compactUpTo], fun x => by rw [← hm x]; simp [Lib.compact, Lib.compactUpTo]⟩
  | succ m =>
    obtain ⟨C, h1, h2, h3⟩ := key m (by omega)
    have he : Lib.compact s = C ++ [s[m]!] := by rw [Lib.compact, hl, h1]
    rw [he]
    refine ⟨h2, fun x => ?_⟩
    rw [h3 x, ← hm x, List.take_of_length_le (by omega)]
theorem sortedU_unique {o xs : List Str} (h1 : o.Pairwise (· < ·)) (h2 : ∀ x, x ∈ o ↔ x ∈ xs) : o = sortedU xs :=
  strict_unique h1 (sortedU_spec xs).1 fun x => (h2 x).trans ((sortedU_spec xs).2 x).symm
theorem sortedU_le (xs : List Str) : (sortedU xs).length ≤ xs.length := Nat.le_trans (compact_le _) (Nat.le_of_eq (List.length_mergeSort xs))
open Classical in
/-- What is reached from a text, in order. -/
noncomputable def reachS (nx : Str → List Str) (a : Str) : List Str := if h : ∃ o : List Str, ∀ x, x ∈ o ↔ Reach nx a x then sortedU h.choose else []
theorem reachS_eq {nx : Str → List Str} {a : Str} {o : List Str} (h : ∀ x, x ∈ o ↔ Reach nx a x) : reachS nx a = sortedU o := by
  have hh : ∃ o : List Str, ∀ x, x ∈ o ↔ Reach nx a x := ⟨o, h⟩
  unfold reachS
  rw [dif_pos hh]
  refine strict_unique (sortedU_spec _).1 (sortedU_spec _).1 fun x => ?_
  rw [(sortedU_spec _).2 x, (sortedU_spec _).2 x, h x, hh.choose_spec x]
theorem reach_congr {nx ny : Str → List Str} (h : ∀ x y, y ∈ nx x ↔ y ∈ ny x) {a x : Str} (hr : Reach nx a x) : Reach ny a x := by
  induction hr with
  | one hb => exact .one ((h _ _).1 hb)
  | step _ k ih => exact .step ih ((h _ _).1 k)
theorem reachS_congr {nx ny : Str → List Str} (h : ∀ x y, y ∈ nx x ↔ y ∈ ny x) {a : Str} {o : List Str} (ho : ∀ x, x ∈ o ↔ Reach nx a x) : reachS ny a = reachS nx a := by
  rw [reachS_eq ho]
  refine reachS_eq fun x => (ho x).trans ⟨reach_congr h, reach_congr fun a b => (h a b).symm⟩
theorem reach_fin {nx : Str → List Str} {s : Str} {U : List Str} (hm : ∀ x, ∀ y ∈ nx x, y ∈ U) : ∃ o : List Str, ∀ x, x ∈ o ↔ Reach nx s x := by
  classical
  refine ⟨U.filter fun x => decide (Reach nx s x), fun x => ?_⟩
  rw [List.mem_filter, decide_eq_true_eq]
  refine ⟨fun h => h.2, fun h => ⟨?_, h⟩⟩
  cases h with
  | one h => exact hm _ _ h
  | step _ k => exact hm _ _ k
theorem pairwise_nodup {l : List Str} (h : l.Pairwise (· < ·)) : l.Nodup := h.imp fun h e => by subst e; exact List.lt_irrefl _ h
theorem reachS_bd {nx : Str → List Str} {s : Str} {U : List Str} (hm : ∀ x, ∀ y ∈ nx x, y ∈ U) : (reachS nx s).length ≤ U.length ∧ ∀ x ∈ reachS nx s, x ∈ U := by
  obtain ⟨o, ho⟩ := reach_fin (s := s) hm
  rw [reachS_eq ho]
  obtain ⟨h1, h2⟩ := sortedU_spec o
  have h3 : ∀ x ∈ sortedU o, x ∈ U := fun x hx => by
    cases (ho x).1 ((h2 x).1 hx) with
    | one h => exact hm _ _ h
    | step _ k => exact hm _ _ k
  exact ⟨nodup_le (pairwise_nodup h1) h3, h3⟩
theorem nextOf_mem {names : List Str} {next : List (List Str)} {x y : Str} (h : y ∈ nextOf names next x) : ∃ d ∈ next, y ∈ d := by
  unfold nextOf at h
  split at h
  · simp at h
  · cases hd : next[(idxS x names 0).toNat]? with
    | none => rw [hd] at h; simp at h
    | some d => rw [hd] at h; exact ⟨d, List.mem_of_getElem? hd, h⟩
def taskName (p t : Str) : Str := p ++ [35] ++ t
theorem c_strings_Index (s : Str) (c : UInt8) : out run_strings_Index [.one (Cell.str (bs s)), .one (Cell.str (bs [c]))] = some [.one (Cell.int (Lib.indexByte s c))] := by
  refine out_of (H := []) (run_strings_Index_of 0 ?_)
  simp only [strings_Index, c_internal_stringslite_Index, callS_canon, callL_canon, Option.map_some, Option.bind_some, shape_one, shape_agg, shape_nil, cellsAt_0, cellsAt_1, cellsAt_2, cellsAt_3, cells_one, cells_agg, cB_zero, cI_zero, cS_zero, cC_zero, cB_cons, cI_cons, cS_cons, cC_cons, cond_true, cond_false, List.length_cons, List.length_nil, beq_self_eq_true, Bool.and_true, Bool.true_and, lenC_encL, lenC_lst, deref_ref, emptyK_nil, bs_size, bs_toList]
theorem c_strings_Count (s : Str) (c : UInt8) : out run_strings_Count [.one (Cell.str (bs s)), .one (Cell.str (bs [c]))] = some [.one (Cell.int ((s.count c : Nat) : Int))] := by
  refine out_of (H := []) ?_
  show run_count _ _ = _
  simp only [run_count, bs_data]
  rfl
theorem count_cut {c : UInt8} {s : Str} (h : c ∈ s) : s.count c = (behind c s).count c + 1 := by
  induction s with
  | nil => simp at h
  | cons b r ih =>
    by_cases e : b = c
    · subst e
      simp [behind, List.dropWhile_cons]
    · have hr : c ∈ r := by
        rcases List.mem_cons.1 h with h | h
        · exact absurd h.symm e
        · exact h
      have hb : behind c (b :: r) = behind c r := by
        have : (b != c) = true := by simpa using e
        simp [behind, List.dropWhile_cons, this]
      rw [hb, List.count_cons, ih hr]
      simp [e]
theorem count_not {c : UInt8} {s : Str} (h : c ∉ s) : s.count c = 0 := List.count_eq_zero.2 h
theorem split_len (c : UInt8) : ∀ (n : Nat) (s : Str), s.length ≤ n → (split c s).length = s.count c + 1 := by
  intro n
  induction n with
  | zero =>
    intro s h
    have : s = [] := List.eq_nil_of_length_eq_zero (by omega)
    subst this
    rfl
  | succ n ih =>
    intro s h
    by_cases hc : c ∈ s
    · have hl : (behind c s).length < s.length := by
        have := ahead_lt hc
        have h2 := drop_behind c s
        rw [← h2, List.length_drop]
        omega
      rw [split_cut hc, List.length_cons, ih _ (by omega), count_cut hc]
    · rw [split_not hc, count_not hc]
      rfl
theorem r_strings_genSplit (s : Str) (c : UInt8) (hs : s.length ≤ 1073741824) : run_strings_genSplit [.one (Cell.str (bs s)), .one (Cell.str (bs [c])), .one (Cell.int 0), .one (Cell.int (-1))] [] = some ([.one (.vs 0 1 0 (s.count c + 1) 0)], [Entry.mk 1 ((split c s).map eStr) 0 false]) := by
  have hM := maxLen_eq
  have hct : s.count c ≤ s.length := List.count_le_length
  have hsl := split_len c s.length s (Nat.le_refl _)
  have hput : ∀ (rows : List (List Cell)) (i : Nat) (row : List Cell) (y : Str), rows[i]? = some row → row.length = 1 → hStore [Entry.mk 1 rows 0 false] (.ptr 0 1 i 0 0) [Cell.str (bs y)] = some [Entry.mk 1 (rows.set i (eStr y)) 0 false] := by
    intro rows i row y h hr
    simp only [hStore, entry?, List.getElem?_cons_zero, if_true, h]
    rw [if_pos ⟨trivial, by simp, trivial⟩]
    simp [splice, eStr, hr, List.drop_eq_nil_of_le]
  have loop : ∀ (d : Nat) (r : Str) (done : List Str) (n : Nat), r.count c = d → done.length + d = s.count c → r.length ≤ s.length → split c s = done ++ split c r → d < n → ∀ k m,
      strings_genSplit_l0 k m n (bs r) (bs [c]) 0 ((s.count c : Nat) : Int) (.vs 0 1 0 (s.count c + 1) 0) ((done.length : Nat) : Int) [Entry.mk 1 (done.map eStr ++ List.replicate (d + 1) [Cell.str (bs [])]) 0 false] =
        some ([.one (.vs 0 1 0 (s.count c + 1) 0)], [Entry.mk 1 ((split c s).map eStr) 0 false]) := by
    intro d
    induction d with
    | zero =>
      intro r done n hc hd hr hsp hn k m
      obtain ⟨n, rfl⟩ : ∃ j, n = j + 1 := ⟨n - 1, by omega⟩
      have hnc : c ∉ r := List.count_eq_zero.1 hc
      simp only [strings_genSplit_l0]
      rw [decide_eq_false (by omega), cond_false]
      have hrow : (done.map eStr ++ List.replicate (0 + 1) [Cell.str (bs [])])[done.length]? = some [Cell.str (bs [])] := by simp
      simp only [idxA_vs 0 1 (s.count c + 1) 0 done.length (by omega), Option.bind_some, hput _ _ _ r hrow rfl]
      have hset : (done.map eStr ++ List.replicate (0 + 1) [Cell.str (bs [])]).set done.length (eStr r) = (split c s).map eStr := by
        rw [hsp, split_not hnc, List.set_append_right _ _ (by simp)]
        simp
      rw [hset, show IntKind.i64.wrap ((done.length : Int) + 1) = ((s.count c + 1 : Nat) : Int) by rw [wrap_succ (by omega)]; omega]
      have hsl' : slcC 1 (.vs 0 1 0 (s.count c + 1) 0) 0 (some ((s.count c + 1 : Nat) : Int)) none = some (.vs 0 1 0 (s.count c + 1) 0) := by
        simp only [slcC, Option.getD_some, Option.getD_none, if_true]
        rw [if_pos ⟨by omega, by omega, by omega, by omega⟩, if_pos (.inl trivial)]
        simp
      rw [hsl']
      rfl
    | succ d ih =>
      intro r done n hc hd hr hsp hn k m
      obtain ⟨n, rfl⟩ : ∃ j, n = j + 1 := ⟨n - 1, by omega⟩
      have hmem : c ∈ r := by
        rcases Classical.em (c ∈ r) with h | h
        · exact h
        · have := count_not h; omega
      have hal := ahead_lt hmem
      have hbl := behind_le c r
      simp only [strings_genSplit_l0]
      rw [decide_eq_true (by omega), cond_true]
      have e0 : Lib.indexByte r c = ((ahead c r).length : Int) := by rw [indexByte_eq, if_pos hmem]
      simp only [c_strings_Index, e0, callS_canon, callL_canon, Option.map_some, Option.bind_some, shape_one, shape_agg, shape_nil, cellsAt_0, cellsAt_1, cellsAt_2, cellsAt_3, cells_one, cells_agg, cB_zero, cI_zero, cS_zero, cC_zero, cB_cons, cI_cons, cS_cons, cC_cons, cond_true, cond_false, List.length_cons, List.length_nil, beq_self_eq_true, Bool.and_true, Bool.true_and, lenC_encL, lenC_lst, deref_ref, emptyK_nil, bs_size, bs_toList]
      rw [decide_eq_false (by omega), cond_false]
      have e1 := subS_bs r 0 (ahead c r).length (by omega) (by omega)
      simp only [Int.natCast_zero, List.drop_zero, take_ahead] at e1
      rw [show IntKind.i64.wrap (((ahead c r).length : Int) + 0) = ((ahead c r).length : Int) by rw [Int.add_zero]; exact wrap_small (by omega) (by omega), e1]
      have hrow : (done.map eStr ++ List.replicate (d + 1 + 1) [Cell.str (bs [])])[done.length]? = some [Cell.str (bs [])] := by simp
      simp only [Option.bind_some, idxA_vs 0 1 (s.count c + 1) 0 done.length (by omega), hput _ _ _ (ahead c r) hrow rfl]
      have e2 := subS_bs r ((ahead c r).length + 1) r.length (by omega) (Nat.le_refl _)
      rw [List.take_length, drop_behind] at e2
      rw [show IntKind.i64.wrap (((ahead c r).length : Int) + ((0 + 1 : Nat) : Int)) = (((ahead c r).length + 1 : Nat) : Int) by rw [wrap_small (by omega) (by omega)]; omega, e2, wrap_succ (by omega)]
      simp only [Option.bind_some]
      have hset : (done.map eStr ++ List.replicate (d + 1 + 1) [Cell.str (bs [])]).set done.length (eStr (ahead c r)) = (done ++ [ahead c r]).map eStr ++ List.replicate (d + 1) [Cell.str (bs [])] := by
        rw [List.set_append_right _ _ (by simp)]
        simp [List.replicate_succ]
      rw [hset]
      have := ih (behind c r) (done ++ [ahead c r]) n (by have := count_cut hmem; omega) (by simp; omega) (by omega) (by rw [hsp, split_cut hmem]; simp) (by omega) k m
      rw [show (done ++ [ahead c r]).length = done.length + 1 by simp] at this
      exact this
  have hmin : (if IntKind.i64.wrap ((s.length : Int) + 1) < IntKind.i64.wrap (((s.count c : Nat) : Int) + 1) then IntKind.i64.wrap ((s.length : Int) + 1) else IntKind.i64.wrap (((s.count c : Nat) : Int) + 1)) = ((s.count c + 1 : Nat) : Int) := by
    rw [wrap_succ (by omega), wrap_succ (by omega), if_neg (by omega)]
  have z := loop (s.count c) s [] (s.count c + 1 + 1) rfl (by simp) (Nat.le_refl _) (by simp) (by omega) (s.count c + 1 + 1) (s.count c + 1 + 1)
  refine run_strings_genSplit_of (s.count c + 1) ?_
  · simp only [strings_genSplit]
    rw [show ((-1 : Int) == 0) = false from rfl, cond_false]
    simp only [bs_toList]
    rw [show (([c] : Str) == []) = false from rfl, cond_false, show decide ((-1 : Int) < 0) = true from rfl, cond_true]
    simp only [c_strings_Count, callS_canon, callL_canon, Option.map_some, Option.bind_some, shape_one, shape_agg, shape_nil, cellsAt_0, cellsAt_1, cellsAt_2, cellsAt_3, cells_one, cells_agg, cB_zero, cI_zero, cS_zero, cC_zero, cB_cons, cI_cons, cS_cons, cC_cons, cond_true, cond_false, List.length_cons, List.length_nil, beq_self_eq_true, Bool.and_true, Bool.true_and, lenC_encL, lenC_lst, deref_ref, emptyK_nil, bs_size, bs_toList, hmin]
    rw [if_pos ⟨by omega, by omega, by unfold bound; omega, by unfold bound; omega⟩]
    rw [show IntKind.i64.wrap (((s.count c + 1 : Nat) : Int) - 1) = ((s.count c : Nat) : Int) from wrap_pred (by omega)]
    simpa [mkRows] using z
theorem c_strings_genSplit (s : Str) (c : UInt8) (hs : s.length ≤ 1073741824) : outL run_strings_genSplit [.one (Cell.str (bs s)), .one (Cell.str (bs [c])), .one (Cell.int 0), .one (Cell.int (-1))] = some [.one (strsC (split c s))] := by
  refine outL_of (r_strings_genSplit s c hs) ?_
  have := reify_vs (sz := 1) eStr (split c s) 0 false
  rw [split_len c s.length s (Nat.le_refl _)] at this
  exact this
theorem f_strings_genSplit (s : Str) (c : UInt8) (hs : s.length ≤ 1073741824) : Fresh run_strings_genSplit true 2 [.one (Cell.str (bs s)), .one (Cell.str (bs [c])), .one (Cell.int 0), .one (Cell.int (-1))] [.one (trL 1 trStr (split c s))] := by
  have hg : GrowAt ([] : List Entry).length 1 (.vs 0 1 0 (s.count c + 1) 0) [Entry.mk 1 ((split c s).map eStr) 0 false] ((split c s).map eStr) := .inr ⟨0, by rw [List.length_map, split_len c s.length s (Nat.le_refl _)]; rfl, rfl⟩
  obtain ⟨ids, r1, r2, _⟩ := hg.list
  exact Fresh.one (r_strings_genSplit s c hs) r1 r2
theorem f_strings_Split (s : Str) (c : UInt8) (hs : s.length ≤ 1073741824) : Fresh run_strings_Split true 2 [.one (Cell.str (bs s)), .one (Cell.str (bs [c]))] [.one (trL 1 trStr (split c s))] := by
  refine Fresh.tailO (f_strings_genSplit s c hs) [] (mapO_canon _ _ _) fun c' E hc => run_strings_Split_of 0 ?_
  simp only [strings_Split, hc, callS_canon, callL_canon, Option.map_some, Option.bind_some, shape_one, shape_agg, shape_nil, cellsAt_0, cellsAt_1, cellsAt_2, cellsAt_3, cells_one, cells_agg, cB_zero, cI_zero, cS_zero, cC_zero, cB_cons, cI_cons, cS_cons, cC_cons, cond_true, cond_false, List.length_cons, List.length_nil, beq_self_eq_true, Bool.and_true, Bool.true_and, lenC_encL, lenC_lst, deref_ref, emptyK_nil, bs_size, bs_toList]
def isPath (b : UInt8) : Bool := isSmall b || (isFigure b || (b == 46 || (b == 45 || b == 95)))
def fileOk (s : Str) : Bool := s.all isPath && (inR s.length 1 12 && (!(s == [46]) && !(s == [46, 46])))
theorem last_at {W : List Str} (h : 0 < W.length) (k : Nat) (hk : k < W.length) : ∃ x, W[k]? = some x := ⟨W[k], List.getElem?_eq_getElem hk⟩
theorem wrap_sub {n k : Nat} (h : k ≤ n) (hn : n ≤ 1073741824 + 1) : IntKind.i64.wrap ((n : Int) - (k : Int)) = ((n - k : Nat) : Int) := by
  rw [wrap_small (by omega) (by omega)]
  omega
def hasNil (W : List Str) : Bool := W.contains []
theorem hasNil_mem (W : List Str) : hasNil W = true ↔ [] ∈ W := by unfold hasNil; simp
theorem hasNil_cons (w : Str) (W : List Str) : hasNil (w :: W) = ((w == []) || hasNil W) := by
  unfold hasNil
  rw [List.contains_cons]
  cases w <;> rfl
def actKind (w : Str) (n : Nat) (into : Bool) : Bool :=
  bif w == [112, 117, 116] then decide (2 ≤ n) && into
  else bif w == [99, 97, 116] then inR n 2 4 && into
  else bif w == [101, 110, 118] then decide (n = 2) && into
  else bif w == [117, 115, 101] then decide (n = 3) && into
  else bif w == [108, 111, 103] then decide (2 ≤ n) && !into
  else bif w == [102, 97, 105, 108] then decide (n = 1) && !into
  else false
def actW (W : List Str) : Bool := !hasNil W && bif decide (3 ≤ W.length) && (W[W.length - 2]? == some [62]) then fileOk ((W[W.length - 1]?).getD []) && actKind ((W[0]?).getD []) (W.length - 2) true else actKind ((W[0]?).getD []) W.length false
def actOk (s : Str) : Bool := actW (split 32 s)
theorem n_ge (n k : Nat) : decide ((n : Int) ≥ (k : Int)) = decide (k ≤ n) := by rw [decide_eq_decide]; omega
theorem n_gt (n k : Nat) : decide ((n : Int) > (k : Int)) = decide (k < n) := by rw [decide_eq_decide]; omega
theorem n_eq (n k : Nat) : ((n : Int) == (k : Int)) = decide (n = k) := by rw [Bool.eq_iff_iff]; simp; omega
def kindS (w : Str) (n : Nat) (to lg : Bool) : Bool :=
  bif w == [112, 117, 116] then decide (2 ≤ n) && to
  else bif w == [99, 97, 116] then inR n 2 4 && to
  else bif w == [101, 110, 118] then decide (n = 2) && to
  else bif w == [117, 115, 101] then decide (n = 3) && to
  else bif w == [108, 111, 103] then decide (2 ≤ n) && lg
  else bif w == [102, 97, 105, 108] then decide (n = 1) && lg
  else false
theorem kindS_true (w : Str) (n : Nat) : kindS w n true false = actKind w n true := by
  unfold kindS actKind
  rfl
theorem kindS_false (w : Str) (n : Nat) : kindS w n false true = actKind w n false := by
  unfold kindS actKind
  rfl
theorem kindS_none (w : Str) (n : Nat) : kindS w n false false = false := by
  unfold kindS
  simp
def specB : List Str → Str → Bool → Bool
  | [], _, _ => false
  | w :: l, y, b => !hasNil (w :: l) && kindS w (l.length + 1) (fileOk y) (y == [] && !b)
def pathOk (s : Str) : Bool := (split 47 s).all fileOk && decide ((split 47 s).length ≤ 4)
theorem n_le (n k : Nat) : decide ((n : Int) ≤ (k : Int)) = decide (n ≤ k) := by rw [decide_eq_decide]; omega
def isAl (b : UInt8) : Bool := isSmall b || isFigure b
/-- Behind a bracket: how many bytes up to the closing one. -/
def clsGo : Str → Nat → Option Nat
  | [], _ => none
  | b :: r, c => bif isAl b then (clsGo r (c + 1)).map (· + 1) else bif inR c 1 5 && b == 93 then some 1 else none
theorem clsGo_cons (b : UInt8) (r : Str) (c : Nat) : clsGo (b :: r) c = bif isAl b then (clsGo r (c + 1)).map (· + 1) else bif inR c 1 5 && b == 93 then some 1 else none := rfl
def unitN : Str → Nat
  | [] => 0
  | b :: t => bif b == 91 then (match t with
      | [] => 0
      | d :: t' => bif d == 33 then (match clsGo t' 0 with | some n => n + 2 | none => 0) else (match clsGo (d :: t') 0 with | some n => n + 1 | none => 0))
    else bif isPath b || (b == 63 || b == 42) then 1 else 0
def pieceGo : Nat → Str → Nat → Bool
  | _, [], c => inR c 1 12
  | 0, _ :: _, _ => false
  | n + 1, b :: t, c => bif unitN (b :: t) == 0 then false else pieceGo n ((b :: t).drop (unitN (b :: t))) (c + 1)
def pieceOk (s : Str) : Bool := pieceGo s.length s 0
def globOk (s : Str) : Bool := (split 47 s).all pieceOk && decide ((split 47 s).length ≤ 4)
theorem clsGo_le : ∀ (r : Str) (c n : Nat), clsGo r c = some n → 1 ≤ n ∧ n ≤ r.length := by
  intro r
  induction r with
  | nil => intro c n h; simp [clsGo] at h
  | cons b r ih =>
    intro c n h
    unfold clsGo at h
    cases hb : isAl b with
    | true =>
      rw [hb, cond_true, Option.map_eq_some_iff] at h
      obtain ⟨j, h1, rfl⟩ := h
      obtain ⟨h2, h3⟩ := ih _ _ h1
      simp
      omega
    | false =>
      rw [hb, cond_false] at h
      cases hc : inR (c : Int) 1 5 && b == 93 with
      | true => rw [hc, cond_true] at h; simp only [Option.some.injEq] at h; simp; omega
      | false => rw [hc, cond_false] at h; simp at h
theorem unitN_le (s : Str) : unitN s ≤ s.length := by
  cases s with
  | nil => simp [unitN]
  | cons b t =>
    cases hb : b == 91 with
    | true =>
      cases t with
      | nil => simp only [unitN, hb, cond_true]; omega
      | cons d t' =>
        cases hd : d == 33 with
        | true =>
          simp only [unitN, hb, hd, cond_true]
          split
          · rename_i n h
            have := (clsGo_le _ _ _ h).2
            simp
            omega
          · omega
        | false =>
          simp only [unitN, hb, hd, cond_true, cond_false]
          split
          · rename_i n h
            have := (clsGo_le _ _ _ h).2
            simp at this ⊢
            omega
          · omega
    | false =>
      simp only [unitN, hb, cond_false]
      cases isPath b || (b == 63 || b == 42) <;> simp
theorem u8_int (b : UInt8) (n : Nat) (h : n < 256) : ((b.toNat : Int) == (n : Int)) = (b == UInt8.ofNat n) := u8_eq b n h
def sinceS : Str := [91, 115, 105, 110, 99, 101, 93]
def dotS : Str := [46, 46, 46]
def sufB (p s : Str) : Bool := decide (p.length ≤ s.length) && (s.drop (s.length - p.length) == p)
/-- A filter that is neither turned nor widened: may it stand? -/
def plainF (s : Str) : Bool := s == sinceS || (pieceOk s && decide (s.length ≤ 20))
def oneGo : Nat → Str → Bool
  | 0, s => plainF s
  | d + 1, s => bif List.isPrefixOf [33] s then oneGo d (s.drop 1) else bif List.isPrefixOf dotS s then oneGo d (s.drop 3) else bif sufB dotS s then oneGo d (s.take (s.length - 3)) else plainF s
def oneOk (s : Str) : Bool := oneGo s.length s
def filterOk (s : Str) : Bool := (split 32 s).all oneOk && decide ((split 32 s).length ≤ 4)
theorem oneGo_ge : ∀ (d e : Nat) (s : Str), s.length ≤ d → s.length ≤ e → oneGo d s = oneGo e s := by
  intro d
  induction d with
  | zero =>
    intro e s h1 h2
    have : s = [] := List.eq_nil_of_length_eq_zero (by omega)
    subst this
    cases e <;> rfl
  | succ d ih =>
    intro e s h1 h2
    cases e with
    | zero =>
      have : s = [] := List.eq_nil_of_length_eq_zero (by omega)
      subst this
      rfl
    | succ e =>
      unfold oneGo
      cases h3 : List.isPrefixOf [33] s with
      | true => 
        have := (List.isPrefixOf_iff_prefix.1 h3).length_le
        simp only [List.length_cons, List.length_nil] at this
        simp only [cond_true]
        exact ih e _ (by simp; omega) (by simp; omega)
      | false =>
        cases h4 : List.isPrefixOf dotS s with
        | true =>
          have := (List.isPrefixOf_iff_prefix.1 h4).length_le
          simp only [dotS, List.length_cons, List.length_nil] at this
          simp only [cond_true, cond_false]
          exact ih e _ (by simp; omega) (by simp; omega)
        | false =>
          cases h5 : sufB dotS s with
          | true =>
            have : 3 ≤ s.length := by simp [sufB, dotS] at h5; omega
            simp only [cond_true, cond_false]
            exact ih e _ (by simp; omega) (by simp; omega)
          | false => rfl
theorem clsGo_no : ∀ (r : Str) (c n : Nat), clsGo r c = some n → 47 ∉ r.take n := by
  intro r
  induction r with
  | nil => intro c n h; simp [clsGo] at h
  | cons b r ih =>
    intro c n h
    rw [clsGo_cons] at h
    cases hb : isAl b with
    | true =>
      rw [hb, cond_true, Option.map_eq_some_iff] at h
      obtain ⟨j, h1, rfl⟩ := h
      rw [List.take_succ_cons, List.mem_cons, not_or]
      refine ⟨?_, ih _ _ h1⟩
      rintro rfl
      exact absurd hb (by decide)
    | false =>
      rw [hb, cond_false] at h
      cases hc : inR (c : Int) 1 5 && b == 93 with
      | true =>
        rw [hc, cond_true] at h
        simp only [Option.some.injEq] at h
        subst h
        simp only [Bool.and_eq_true, beq_iff_eq] at hc
        rw [hc.2]
        simp
      | false => rw [hc, cond_false] at h; simp at h
theorem unitN_no (s : Str) : 47 ∉ s.take (unitN s) := by
  cases s with
  | nil => simp
  | cons b t =>
    cases hb : b == 91 with
    | true =>
      have hb' : b = 91 := by simpa using hb
      cases t with
      | nil => simp [unitN, hb']
      | cons d t' =>
        cases hd : d == 33 with
        | true =>
          have hd' : d = 33 := by simpa using hd
          simp only [unitN, hb, hd, cond_true]
          split
          · rename_i n h
            have := clsGo_no _ _ _ h
            rw [List.take_succ_cons, List.take_succ_cons, hb', hd']
            simpa using this
          · simp
        | false =>
          simp only [unitN, hb, hd, cond_true, cond_false]
          split
          · rename_i n h
            have := clsGo_no _ _ _ h
            rw [List.take_succ_cons, hb', List.mem_cons, not_or]
            exact ⟨by decide, this⟩
          · simp
    | false =>
      simp only [unitN, hb, cond_false]
      cases h : isPath b || (b == 63 || b == 42) with
      | true =>
        simp only [cond_true, List.take_succ_cons, List.take_zero, List.mem_singleton]
        rintro rfl
        exact absurd h (by decide)
      | false => simp
theorem pieceGo_no : ∀ (d : Nat) (s : Str) (c : Nat), pieceGo d s c = true → 47 ∉ s := by
  intro d
  induction d with
  | zero =>
    intro s c h
    cases s with
    | nil => simp
    | cons b t => simp [pieceGo] at h
  | succ d ih =>
    intro s c h
    cases s with
    | nil => simp
    | cons b t =>
      unfold pieceGo at h
      cases hu : unitN (b :: t) == 0 with
      | true => rw [hu] at h; simp at h
      | false =>
        rw [hu, cond_false] at h
        have h1 := ih _ _ h
        have h2 := unitN_no (b :: t)
        rw [← List.take_append_drop (unitN (b :: t)) (b :: t), List.mem_append, not_or]
        exact ⟨h2, h1⟩
/-- As the program asks it. -/
theorem plainF_eq (s : Str) (h : (s == sinceS) = false) : plainF s = (decide (s.length ≤ 20) && (!decide (47 ∈ s) && globOk s)) := by
  unfold plainF
  rw [h, Bool.false_or]
  by_cases h1 : 47 ∈ s
  · rw [decide_eq_true h1]
    cases hp : pieceOk s with
    | true => exact absurd h1 (pieceGo_no _ _ _ hp)
    | false => simp
  · rw [decide_eq_false h1]
    unfold globOk
    rw [split_not h1]
    simp [Bool.and_comm]
def b16 (n : Nat) : Str := [UInt8.ofNat (n / 256), UInt8.ofNat n]
/-- A text among bytes. -/
def encT (s : Str) : Str := if 60000 < s.length then [] else b16 s.length ++ s
def numT (n : Nat) : Str := Lib.decDigits n
theorem decDigits_lt {u : Nat} (h : u < 10) : Lib.decDigits u = [UInt8.ofNat (48 + u)] := by
  unfold Lib.decDigits
  rw [dif_pos h]
theorem decDigits_ge {u : Nat} (h : ¬ u < 10) : Lib.decDigits u = Lib.decDigits (u / 10) ++ [UInt8.ofNat (48 + u % 10)] := by
  rw [Lib.decDigits, dif_neg h]
theorem encT_le (s : Str) : (encT s).length ≤ 60002 ∧ (encT s).length ≤ s.length + 2 := by
  unfold encT b16
  split
  · simp
  · simp; omega
theorem numT_le (n : Nat) (h : n ≤ 1099511627776) : (numT n).length ≤ 21 := by
  have := Lib.itoa_length_le (n : Int) (by omega) (by omega)
  have e : Lib.itoa (n : Int) = numT n := by unfold Lib.itoa numT; rw [if_neg (by omega)]; simp
  rwa [e] at this
theorem numT_30 (n : Nat) (h : n ≤ 1099511627776) : (numT n).length ≤ 1073741824 := Nat.le_trans (numT_le n h) (by omega)
theorem hi_u8 (n : Nat) : IntKind.u8.wrap (shrI .i64 (n : Int) 8) = ((UInt8.ofNat (n / 256)).toNat : Int) := by
  rw [← wrap_u8]
  congr 1
  unfold shrI
  rw [show (2 : Int) ^ (min (8 : Int).toNat IntKind.i64.bits) = 256 from rfl, Int.fdiv_eq_ediv_of_nonneg _ (by omega)]
  omega
theorem b16_rows (n : Nat) : [[Cell.sc (.int .u8 (IntKind.u8.wrap (shrI .i64 (n : Int) 8)))], [Cell.sc (.int .u8 (IntKind.u8.wrap (n : Int)))]] = (b16 n).map eByte := by
  rw [hi_u8, wrap_u8]
  rfl
theorem byteRows_bs (s : Str) : byteRows (bs s) = s.map eByte := by
  unfold byteRows
  rw [show (bs s).data.toList = s from by simp [bs]]
  rfl
theorem src_bytes (H : List Entry) (e : Str) : srcRows H 1 (bytesC e) = some (e.map eByte) := by simp [srcRows, rowsOf, encL]
/-- Bytes of one's own. -/
def BytM (H : List Entry) (c : Cell) (b : Str) : Prop := ∃ ids, Rep H true true 2 ids c (trL 1 trByte b) ∧ ids.Nodup
theorem BytM.nil (H : List Entry) : BytM H (.lst true 1 []) [] := ⟨[], .inl ⟨rfl, rfl, true, rfl⟩, by simp⟩
theorem BytM.read {H : List Entry} {c : Cell} {b : Str} (h : BytM H c b) : reifyAV false H (.one c) = some (.one (bytesC b)) := by
  obtain ⟨ids, h, _⟩ := h
  have := reify_one h (by omega)
  rwa [trL_cell] at this
theorem BytM.of {H E : List Entry} {c : Cell} {b : Str} {is : List Nat} {lo hi : Nat} (h : Rep (H ++ E) true true 2 is c (trL 1 trByte b)) (w : Mine lo hi is) : BytM (H ++ E) c b := ⟨is, h, w.nd⟩
theorem rep_bytes {H : List Entry} {ids : List Nat} {c : Cell} {xs : Str} (h : Rep H true true 2 ids c (trL 1 trByte xs)) : (xs = [] ∧ ids = [] ∧ ∃ f, c = .lst f 1 []) ∨ ∃ id ep, c = .vs id 1 0 xs.length ep ∧ ids = [id] ∧ H[id]? = some ⟨1, xs.map eByte, ep, false⟩ := by
  rcases h with ⟨h1, h2, h3⟩ | ⟨id, off, ep, e, fr, is, rfl, rfl, he, hq, hwh, hl, hr, hs⟩
  · exact .inl ⟨List.map_eq_nil_iff.1 h1, h2, h3⟩
  · obtain ⟨rfl, hle⟩ := hwh rfl
    obtain rfl := hq rfl
    rw [List.drop_zero, hle, List.take_of_length_le (Nat.le_refl _)] at hs
    have key : ∀ {is : List Nat} {e : List (List Cell)} {xs : Str}, Sp (Sp (Rep H true true 1)) is e (xs.map trByte) → (∀ r ∈ e, r.length = 1) → e = xs.map eByte ∧ is = [] := by
      intro is e xs
      induction xs generalizing is e with
      | nil => intro h _; obtain ⟨rfl, rfl⟩ := h.nil_inv; exact ⟨rfl, rfl⟩
      | cons x xs ih =>
        intro h hl
        obtain ⟨i, i', a, as', rfl, rfl, h1, h2⟩ := h.cons_inv
        obtain ⟨h3, h4⟩ := ih h2 fun r hr => hl r (List.mem_cons_of_mem _ hr)
        obtain ⟨k, k', a0, r', rfl, rfl, h5, h6⟩ := h1.cons_inv
        obtain ⟨rfl, rfl⟩ := h6.nil_inv
        obtain ⟨rfl, rfl⟩ := h5
        subst h3 h4
        exact ⟨rfl, rfl⟩
    obtain ⟨h1, h2⟩ := key hs hr
    subst h1 h2
    exact .inr ⟨id, ep, by simp, rfl, he⟩
theorem Grow.bytes {c : Cell} {H : List Entry} {b : Str} (h : Grow 1 c H (b.map eByte)) : ∃ ids, Rep H true true 2 ids c (trL 1 trByte b) ∧ ids.Nodup := by
  obtain ⟨ids, h1, h2, _⟩ := h.rep (tr := trByte) (fun _ _ => rfl) (fun x _ H' => Sp.leaf1 _)
  exact ⟨ids, h1, h2⟩
theorem c_impl_NumText (n : Nat) (hn : n ≤ 1099511627776) : out run_impl_NumText [.one (Cell.int n)] = some [.one (Cell.str (bs (numT n)))] := by
  have e : out run_strconv_Itoa [.one (Cell.int n)] = some [.one (Cell.str (bs (numT n)))] := by
    refine out_of (H := []) ?_
    show run_itoa _ _ = _
    simp only [run_itoa]
    rw [if_pos ⟨by omega, by omega⟩]
    have : Lib.itoa (n : Int) = numT n := by unfold Lib.itoa numT; rw [if_neg (by omega)]; simp
    rw [this]
    rfl
  refine out_of (H := []) (run_impl_NumText_of 0 ?_)
  simp only [impl_NumText]
  rw [if_neg (by omega)]
  simp only [e, callS_canon, callL_canon, Option.map_some, Option.bind_some, shape_one, shape_agg, shape_nil, cellsAt_0, cellsAt_1, cellsAt_2, cellsAt_3, cells_one, cells_agg, cB_zero, cI_zero, cS_zero, cC_zero, cB_cons, cI_cons, cS_cons, cC_cons, cond_true, cond_false, List.length_cons, List.length_nil, beq_self_eq_true, Bool.and_true, Bool.true_and, lenC_encL, lenC_lst, deref_ref, emptyK_nil, bs_size, bs_toList]
theorem Grow.at {sz : Nat} {c : Cell} {H : List Entry} {rows : List (List Cell)} {i : Nat} {row : List Cell} (h : Grow sz c H rows) (hr : rows[i]? = some row) : ∃ a, idxA sz c (i : Int) = some a ∧ deref H a = some (row, 0) := by
  have hlt := (List.getElem?_eq_some_iff.1 hr).1
  rcases h with ⟨rfl, _, _⟩ | ⟨ep, rfl, rfl⟩
  · simp at hr
  · exact ⟨.ptr 0 sz i 0 ep, idxA_vs _ _ _ _ _ hlt, by simp [deref, entry?, hr]⟩
theorem Grow.len {sz : Nat} {c : Cell} {H : List Entry} {rows : List (List Cell)} (h : Grow sz c H rows) : lenC c = some rows.length := by
  rcases h with ⟨rfl, rfl, _⟩ | ⟨ep, rfl, rfl⟩ <;> rfl
def sumB (b : Str) : Nat := (b.map UInt8.toNat).sum
theorem sumB_le (b : Str) : sumB b ≤ 255 * b.length := by
  induction b with
  | nil => simp [sumB]
  | cons x b ih =>
    have := x.toNat_lt
    simp only [sumB, List.map_cons, List.sum_cons, List.length_cons] at ih ⊢
    omega
theorem b16_mod (n : Nat) : b16 (n % 65536) = b16 n := by
  unfold b16
  have h1 : UInt8.ofNat (n % 65536 / 256) = UInt8.ofNat (n / 256) := by
    apply UInt8.toNat_inj.1
    simp only [UInt8.toNat_ofNat']
    omega
  have h2 : UInt8.ofNat (n % 65536) = UInt8.ofNat n := by
    apply UInt8.toNat_inj.1
    simp only [UInt8.toNat_ofNat']
    omega
  rw [h1, h2]
/-- A text off the head of bytes, and the rest. -/
def tk : Str → Option (Str × Str)
  | x :: y :: r => if x.toNat * 256 + y.toNat ≤ 60000 ∧ x.toNat * 256 + y.toNat ≤ r.length then some (r.take (x.toNat * 256 + y.toNat), r.drop (x.toNat * 256 + y.toNat)) else none
  | _ => none
def digits : Str → Nat → Nat
  | [], n => n
  | b :: r, n => digits r (n * 10 + (b.toNat - 48))
def parseNum (s : Str) (most : Nat) : Option Nat :=
  if s.all isFigure = true ∧ 1 ≤ s.length ∧ s.length ≤ 7 ∧ (s.length = 1 ∨ s.head? ≠ some 48) ∧ digits s 0 ≤ most then some (digits s 0) else none
theorem b16_num (n : Nat) (h : n < 65536) : (UInt8.ofNat (n / 256)).toNat * 256 + (UInt8.ofNat n).toNat = n := by
  simp only [UInt8.toNat_ofNat']
  omega
theorem b16_of (x y : UInt8) : b16 (x.toNat * 256 + y.toNat) = [x, y] := by
  have hx := x.toNat_lt
  have hy := y.toNat_lt
  unfold b16
  have h1 : UInt8.ofNat ((x.toNat * 256 + y.toNat) / 256) = x := by
    apply UInt8.toNat_inj.1
    simp only [UInt8.toNat_ofNat']
    omega
  have h2 : UInt8.ofNat (x.toNat * 256 + y.toNat) = y := by
    apply UInt8.toNat_inj.1
    simp only [UInt8.toNat_ofNat']
    omega
  rw [h1, h2]
theorem tk_enc (s r : Str) (h : s.length ≤ 60000) : tk (encT s ++ r) = some (s, r) := by
  unfold encT
  rw [if_neg (by omega)]
  show tk (UInt8.ofNat (s.length / 256) :: UInt8.ofNat s.length :: (s ++ r)) = _
  simp only [tk, b16_num s.length (by omega)]
  rw [if_pos ⟨h, by simp⟩]
  simp
theorem tk_sound {r s z : Str} (h : tk r = some (s, z)) : r = encT s ++ z ∧ s.length ≤ 60000 := by
  cases r with
  | nil => simp [tk] at h
  | cons x r =>
    cases r with
    | nil => simp [tk] at h
    | cons y r =>
      simp only [tk] at h
      split at h
      · rename_i hn
        simp only [Option.some.injEq, Prod.mk.injEq] at h
        obtain ⟨rfl, rfl⟩ := h
        have hl : (r.take (x.toNat * 256 + y.toNat)).length = x.toNat * 256 + y.toNat := by rw [List.length_take]; omega
        refine ⟨?_, by omega⟩
        unfold encT
        rw [hl, if_neg (by omega), b16_of]
        simp
      · simp at h
theorem tk_len {r s z : Str} (h : tk r = some (s, z)) : z.length + 2 + s.length = r.length := by
  obtain ⟨e, h2⟩ := tk_sound h
  rw [e]
  unfold encT b16
  rw [if_neg (by omega)]
  simp
  omega
/-! figures -/
theorem figure_num {b : UInt8} (h : isFigure b = true) : 48 ≤ b.toNat ∧ b.toNat ≤ 57 := by
  unfold isFigure inR at h
  simp only [Bool.and_eq_true, decide_eq_true_eq] at h
  omega
theorem digits_app : ∀ (s t : Str) (n : Nat), digits (s ++ t) n = digits t (digits s n) := by
  intro s
  induction s with
  | nil => intro t n; rfl
  | cons b r ih => intro t n; exact ih t _
theorem digits_le : ∀ (s : Str) (n N : Nat), (∀ b ∈ s, isFigure b = true) → n < 10 ^ N → digits s n < 10 ^ (N + s.length) := by
  intro s
  induction s with
  | nil => intro n N _ h; exact h
  | cons b r ih =>
    intro n N h hn
    have h2 := figure_num (h b List.mem_cons_self)
    have h1 := ih (n * 10 + (b.toNat - 48)) (N + 1) (fun x hx => h x (List.mem_cons_of_mem _ hx)) (by rw [Nat.pow_succ]; omega)
    simp only [digits, List.length_cons]
    rw [show N + (r.length + 1) = N + 1 + r.length by omega]
    exact h1
theorem figure_of {n : Nat} (h : n < 10) : isFigure (UInt8.ofNat (48 + n)) = true := by
  unfold isFigure inR
  simp only [Bool.and_eq_true, decide_eq_true_eq, UInt8.toNat_ofNat']
  omega
theorem numT_shape : ∀ n : Nat, (numT n).all isFigure = true ∧ 1 ≤ (numT n).length ∧ ((numT n).length = 1 ∨ (numT n).head? ≠ some 48) ∧ digits (numT n) 0 = n ∧ (0 < n → (numT n).head? ≠ some 48) := by
  intro n
  induction n using Nat.strongRecOn with
  | _ n ih =>
    unfold numT at ih ⊢
    by_cases h : n < 10
    · rw [decDigits_lt h]
      refine ⟨by rw [List.all_cons, figure_of h, List.all_nil]; rfl, by simp, .inl rfl, ?_, ?_⟩
      · simp only [digits, UInt8.toNat_ofNat']
        omega
      · intro h0 e
        simp only [List.head?_cons, Option.some.injEq] at e
        have := congrArg UInt8.toNat e
        simp only [UInt8.toNat_ofNat'] at this
        have h48 : (48 : UInt8).toNat = 48 := rfl
        omega
    · rw [decDigits_ge h]
      obtain ⟨i1, i2, i3, i4, i5⟩ := ih (n / 10) (by omega)
      have hh : (Lib.decDigits (n / 10) ++ [UInt8.ofNat (48 + n % 10)]).head? = (Lib.decDigits (n / 10)).head? := by
        cases hd : Lib.decDigits (n / 10) with
        | nil => rw [hd] at i2; simp at i2
        | cons x r => rfl
      have i6 := i5 (by omega)
      refine ⟨?_, by simp, .inr ?_, ?_, fun _ => ?_⟩
      · rw [List.all_append, i1]
        rw [List.all_cons, figure_of (show n % 10 < 10 by omega), List.all_nil]
        rfl
      · rw [hh]; exact i6
      · rw [digits_app, i4]
        simp only [digits, UInt8.toNat_ofNat']
        omega
      · rw [hh]; exact i6
theorem numT_digits : ∀ (k : Nat) (s : Str), s.length = k → (∀ b ∈ s, isFigure b = true) → 1 ≤ s.length → (s.length = 1 ∨ s.head? ≠ some 48) → numT (digits s 0) = s := by
  intro k
  induction k with
  | zero => intro s h1 _ h2 _; omega
  | succ k ih =>
    intro s h1 h2 h3 h4
    have hne : s ≠ [] := by intro h; subst h; simp at h3
    obtain ⟨t, d, rfl⟩ : ∃ t d, s = t ++ [d] := ⟨s.dropLast, s.getLast hne, (List.dropLast_concat_getLast hne).symm⟩
    have hd := figure_num (h2 d (by simp))
    simp only [List.length_append, List.length_cons, List.length_nil] at h1 h4
    have hdd : UInt8.ofNat (48 + (d.toNat - 48)) = d := by
      apply UInt8.toNat_inj.1
      simp only [UInt8.toNat_ofNat']
      have := d.toNat_lt
      omega
    by_cases ht : t = []
    · subst ht
      simp only [List.nil_append, digits]
      unfold numT
      rw [decDigits_lt (by omega), show 0 * 10 + (d.toNat - 48) = d.toNat - 48 by omega, hdd]
    · have htl := List.length_pos_iff.2 ht
      have hhead : t.head? ≠ some 48 := by
        rcases h4 with h4 | h4
        · omega
        · cases t with
          | nil => exact absurd rfl ht
          | cons x r => exact h4
      have i1 := ih t (by omega) (fun b hb => h2 b (List.mem_append_left _ hb)) htl (.inr hhead)
      have hpos : 1 ≤ digits t 0 := by
        rcases Nat.eq_zero_or_pos (digits t 0) with h | h
        · rw [h] at i1
          have : numT 0 = [48] := by unfold numT; rw [decDigits_lt (by omega)]; rfl
          rw [this] at i1
          rw [← i1] at hhead
          exact absurd rfl hhead
        · exact h
      rw [digits_app]
      simp only [digits]
      unfold numT at i1 ⊢
      rw [decDigits_ge (by omega), show (digits t 0 * 10 + (d.toNat - 48)) / 10 = digits t 0 by omega, i1, show (digits t 0 * 10 + (d.toNat - 48)) % 10 = d.toNat - 48 by omega, hdd]
theorem parseNum_numT {k most : Nat} (h : k ≤ most) (hm : k < 10000000) : parseNum (numT k) most = some k := by
  obtain ⟨h1, h2, h3, h4, h5⟩ := numT_shape k
  have h6 : (numT k).length ≤ 7 := by
    have := List.all_eq_true.1 h1
    rcases Nat.lt_or_ge 7 (numT k).length with h7 | h7
    · exfalso
      have hx : k ≥ 10000000 := by
        -- a numeral of more than seven figures
        have key : ∀ n : Nat, n < 10000000 → (numT n).length ≤ 7 := by
          intro n hn
          unfold numT
          have s1 : ∀ u : Nat, u < 10 → (Lib.decDigits u).length = 1 := fun u hu => by rw [decDigits_lt hu]; rfl
          have st : ∀ (c u : Nat), (∀ v : Nat, v < 10 ^ c → (Lib.decDigits v).length ≤ c) → 1 ≤ c → u < 10 ^ (c + 1) → (Lib.decDigits u).length ≤ c + 1 := by
            intro c u hc h1c hu
            by_cases h : u < 10
            · rw [s1 u h]; omega
            · rw [decDigits_ge h, List.length_append]
              have := hc (u / 10) (by rw [Nat.pow_succ] at hu; omega)
              simp
              omega
          have t1 : ∀ v : Nat, v < 10 ^ 1 → (Lib.decDigits v).length ≤ 1 := fun v hv => by rw [s1 v (by simpa using hv)]; exact Nat.le_refl _
          have t2 := fun v hv => st 1 v t1 (by omega) hv
          have t3 := fun v hv => st 2 v t2 (by omega) hv
          have t4 := fun v hv => st 3 v t3 (by omega) hv
          have t5 := fun v hv => st 4 v t4 (by omega) hv
          have t6 := fun v hv => st 5 v t5 (by omega) hv
          exact st 6 n t6 (by omega) (by simpa using hn)
        rcases Nat.lt_or_ge k 10000000 with h8 | h8
        · have := key k h8; omega
        · exact h8
      omega
    · exact h7
  unfold parseNum
  rw [if_pos ⟨h1, h2, h6, h3, by rw [h4]; exact h⟩, h4]
theorem parseNum_sound {s : Str} {k most : Nat} (h : parseNum s most = some k) : s = numT k ∧ k ≤ most ∧ s.length ≤ 7 := by
  unfold parseNum at h
  split at h
  · rename_i hc
    obtain ⟨h1, h2, h3, h4, h5⟩ := hc
    simp only [Option.some.injEq] at h
    subst h
    exact ⟨(numT_digits _ s rfl (List.all_eq_true.1 h1) h2 h4).symm, h5, h3⟩
  · simp at h
theorem or_bytes (x y : UInt8) : orI .i64 (shlI .i64 (IntKind.i64.wrap (x.toNat : Int)) 8) (IntKind.i64.wrap (y.toNat : Int)) = ((x.toNat * 256 + y.toNat : Nat) : Int) := by
  have hx := x.toNat_lt
  have hy := y.toNat_lt
  rw [wrap_small (n := (x.toNat : Int)) (by omega) (by omega), wrap_small (n := (y.toNat : Int)) (by omega) (by omega)]
  have e1 : shlI .i64 (x.toNat : Int) 8 = ((x.toNat * 256 : Nat) : Int) := by
    unfold shlI
    rw [show (2 : Int) ^ (min (8 : Int).toNat IntKind.i64.bits) = 256 from rfl, wrap_small (by omega) (by omega)]
    omega
  rw [e1]
  show IntKind.i64.wrap (((BitVec.ofInt 64 ((x.toNat * 256 : Nat) : Int) ||| BitVec.ofInt 64 (y.toNat : Int)).toNat : Nat) : Int) = _
  have e2 : ∀ n : Nat, n < 65536 → (BitVec.ofInt 64 (n : Int)) = BitVec.ofNat 64 n := fun n hn => by
    apply BitVec.eq_of_toNat_eq
    rw [BitVec.toNat_ofInt, BitVec.toNat_ofNat]
    omega
  rw [e2 _ (by omega), e2 _ (by omega), BitVec.toNat_or, BitVec.toNat_ofNat, BitVec.toNat_ofNat, Nat.mod_eq_of_lt (by omega), Nat.mod_eq_of_lt (by omega)]
  have e3 : x.toNat * 256 ||| y.toNat = x.toNat * 256 + y.toNat := by
    rw [Nat.mul_comm, show (256 : Nat) = 2 ^ 8 from rfl]
    exact (Nat.two_pow_add_eq_or_of_lt (by omega) _).symm
  rw [e3]
  exact wrap_small (by omega) (by omega)
def textV (b : Str) (at' : Nat) : List AV := match tk (b.drop at') with
  | some (s, r) => [.one (Cell.str (bs s)), .one (Cell.int ((b.length - r.length : Nat) : Int)), .one (Cell.bool true)]
  | none => [.one (Cell.str (bs [])), .one (Cell.int 0), .one (Cell.bool false)]
theorem slc_bytes (b : Str) (lo hi : Nat) (h1 : lo ≤ hi) (h2 : hi ≤ b.length) : slcC 1 (bytesC b) (lo : Int) (some (hi : Int)) none = some (bytesC ((b.drop lo).take (hi - lo))) := by
  simp only [slcC, encL, List.length_map, Option.getD_some, Option.getD_none]
  rw [if_pos (.inl trivial), if_pos ⟨by omega, by omega, by omega, by omega⟩]
  simp [fullOf, List.map_take, List.map_drop]
theorem bytesOf_bytes (H : List Entry) (s : Str) : bytesOf H (bytesC s) = some (bs s) := by
  have e : ∀ s : Str, mapO byteC (s.map eByte) = some (s.map fun x => (x.toNat : Int)) := by
    intro s
    induction s with
    | nil => rfl
    | cons x s ih =>
      rw [List.map_cons, List.map_cons, mapO, ih]
      simp [byteC, eByte]
  simp only [bytesOf, rowsOf, encL, if_true, true_or, Option.bind_some, e, Option.map_some]
  simp only [ofBytes, List.map_map]
  rw [show ((fun n : Int => UInt8.ofNat n.toNat) ∘ fun x : UInt8 => (x.toNat : Int)) = id from funext fun x => by simp, List.map_id]
  rfl
def numV (o : Option Nat) : List AV := match o with
  | some k => [.one (Cell.int (k : Int)), .one (Cell.bool true)]
  | none => [.one (Cell.int 0), .one (Cell.bool false)]
theorem fig_sub {x : UInt8} (h : isFigure x = true) : IntKind.i64.wrap (IntKind.u8.wrap ((x.toNat : Int) - 48)) = ((x.toNat - 48 : Nat) : Int) := by
  have h1 := figure_num h
  have e : ((x.toNat : Int) - 48) = ((x.toNat - 48 : Nat) : Int) := by omega
  rw [e, wrap_u8]
  have : (UInt8.ofNat (x.toNat - 48)).toNat = x.toNat - 48 := by simp only [UInt8.toNat_ofNat']; omega
  rw [this]
  exact wrap_small (by omega) (by omega)
theorem c_spec_ParseNum (s : Str) (most : Nat) (hs : s.length ≤ 1073741824) (hm : most ≤ 1073741824) : out run_spec_ParseNum [.one (Cell.str (bs s)), .one (Cell.int most)] = some (numV (parseNum s most)) := by
  have hM := maxLen_eq
  -- behind the loop
  have fin : ∀ (v : Nat), s.length ≤ 7 → s.all isFigure = true → v = digits s 0 → ((callS run_spec_l1In [.one (Cell.int (s.length : Int)), .one (Cell.int 1), .one (Cell.int 7)] []).bind fun r14 =>
    cond (shapeOk rk_spec_l1In r14)
    ((cB (cellsAt r14 0) 0).bind fun b15 =>
    cond (!b15)
    (some ([AV.one (Cell.int 0), AV.one (Cell.bool false)], []))
    (cond (decide ((s.length : Int) > 1))
    ((bytS (bs s) 0).bind fun i16 =>
    cond (i16 == 48)
    (some ([AV.one (Cell.int 0), AV.one (Cell.bool false)], []))
    (cond (decide ((v : Int) > (most : Int)))
    (some ([AV.one (Cell.int 0), AV.one (Cell.bool false)], []))
    (some ([AV.one (Cell.int (v : Int)), AV.one (Cell.bool true)], ([] : List Entry)))))
    (cond (decide ((v : Int) > (most : Int)))
    (some ([AV.one (Cell.int 0), AV.one (Cell.bool false)], []))
    (some ([AV.one (Cell.int (v : Int)), AV.one (Cell.bool true)], [])))))
    none) = some (numV (parseNum s most), []) := by
    intro v h7 ha hv
    simp only [c_spec_l1In, callS_canon, callL_canon, Option.map_some, Option.bind_some, shape_one, shape_agg, shape_nil, cellsAt_0, cellsAt_1, cellsAt_2, cellsAt_3, cells_one, cells_agg, cB_zero, cI_zero, cS_zero, cC_zero, cB_cons, cI_cons, cS_cons, cC_cons, cond_true, cond_false, List.length_cons, List.length_nil, beq_self_eq_true, Bool.and_true, Bool.true_and, lenC_encL, lenC_lst, deref_ref, emptyK_nil, bs_size, bs_toList]
    unfold parseNum
    cases s with
    | nil => rfl
    | cons x r =>
      rw [show inR (((x :: r : Str).length : Nat) : Int) 1 7 = true by
        unfold inR
        rw [decide_eq_true (by simp only [List.length_cons]; omega), decide_eq_true (by omega)]
        rfl, Bool.not_true, cond_false]
      by_cases h1 : r = []
      · subst h1
        rw [decide_eq_false (by simp), cond_false]
        by_cases hm : v ≤ most
        · rw [decide_eq_false (by omega), cond_false, if_pos ⟨ha, by simp, by simp, .inl rfl, by omega⟩, hv]
          rfl
        · rw [decide_eq_true (by omega), cond_true, if_neg fun h => hm (by omega)]
          rfl
      · have hr := List.length_pos_iff.2 h1
        rw [decide_eq_true (by simp; omega), cond_true, bytS_head]
        simp only [Option.bind_some]
        rw [show ((x.toNat : Int) == 48) = (x == 48) from u8_eq x 48 (by omega)]
        cases hx : x == 48 with
        | true =>
          have : x = 48 := by simpa using hx
          rw [cond_true, if_neg]
          · rfl
          · rintro ⟨_, _, _, h, _⟩
            rcases h with h | h
            · simp only [List.length_cons] at h; omega
            · rw [this] at h; exact h rfl
        | false =>
          have : x ≠ 48 := by simpa using hx
          rw [cond_false]
          by_cases hm : v ≤ most
          · rw [decide_eq_false (by omega), cond_false, if_pos ⟨ha, by simp, h7, .inr (by simpa using this), by omega⟩, hv]
            rfl
          · rw [decide_eq_true (by omega), cond_true, if_neg fun h => hm (by omega)]
            rfl
  have loop : ∀ (r : Str) (i n a : Nat), s.drop i = r → i ≤ 8 → r.length < n → (s.take i).all isFigure = true → a = digits (s.take i) 0 → ∀ k m, spec_ParseNum_l0 k m n (bs s) most a i = some (numV (parseNum s most), []) := by
    intro r
    induction r with
    | nil =>
      intro i n a hd hi hn ht ha k m
      obtain ⟨n, rfl⟩ : ∃ j, n = j + 1 := ⟨n - 1, by omega⟩
      have h1 := drop_nil hd
      rw [List.take_of_length_le h1] at ht ha
      simp only [spec_ParseNum_l0, bs_size]
      rw [decide_eq_false (by omega), cond_false]
      by_cases h7 : s.length ≤ 7
      · exact fin a h7 ht ha
      · simp only [c_spec_l1In, callS_canon, callL_canon, Option.map_some, Option.bind_some, shape_one, shape_agg, shape_nil, cellsAt_0, cellsAt_1, cellsAt_2, cellsAt_3, cells_one, cells_agg, cB_zero, cI_zero, cS_zero, cC_zero, cB_cons, cI_cons, cS_cons, cC_cons, cond_true, cond_false, List.length_cons, List.length_nil, beq_self_eq_true, Bool.and_true, Bool.true_and, lenC_encL, lenC_lst, deref_ref, emptyK_nil, bs_size, bs_toList]
        rw [show inR (s.length : Int) 1 7 = false by
          unfold inR
          rw [decide_eq_false (p := (s.length : Int) ≤ 7) (by omega), Bool.and_false]]
        unfold parseNum
        rw [if_neg fun h => h7 h.2.2.1]
        rfl
    | cons x r ih =>
      intro i n a hd hi hn ht ha k m
      obtain ⟨n, rfl⟩ : ∃ j, n = j + 1 := ⟨n - 1, by omega⟩
      obtain ⟨hlt, hx, hd'⟩ := drop_cons hd
      simp only [List.length_cons] at hn
      simp only [spec_ParseNum_l0, bs_size]
      rw [decide_eq_true (by omega), cond_true]
      by_cases h8 : i < 8
      · rw [decide_eq_true (by omega), cond_true]
        simp only [bytS_bs, hx, Option.map_some, c_spec_l1Digit, callS_canon, callL_canon, Option.map_some, Option.bind_some, shape_one, shape_agg, shape_nil, cellsAt_0, cellsAt_1, cellsAt_2, cellsAt_3, cells_one, cells_agg, cB_zero, cI_zero, cS_zero, cC_zero, cB_cons, cI_cons, cS_cons, cC_cons, cond_true, cond_false, List.length_cons, List.length_nil, beq_self_eq_true, Bool.and_true, Bool.true_and, lenC_encL, lenC_lst, deref_ref, emptyK_nil, bs_size, bs_toList]
        cases hf : isFigure x with
        | false =>
          simp only [Bool.not_false, cond_true]
          unfold parseNum
          rw [if_neg]
          · rfl
          · rintro ⟨h, _⟩
            have := List.all_eq_true.1 h x (List.mem_of_getElem? hx)
            rw [hf] at this
            simp at this
        | true =>
          have hsn : s.take (i + 1) = s.take i ++ [x] := by rw [List.take_add_one, hx]; rfl
          have hal : a < 10 ^ 8 := by
            rw [ha]
            refine Nat.lt_of_lt_of_le (digits_le (s.take i) 0 0 (List.all_eq_true.1 ht) (by simp)) ?_
            rw [Nat.zero_add]
            refine Nat.pow_le_pow_right (by omega) ?_
            rw [List.length_take]
            omega
          have hf2 := figure_num hf
          simp only [Bool.not_true, cond_false]
          rw [fig_sub hf, wrap_small (n := (a : Int) * 10) (by omega) (by omega), wrap_small (by omega) (by omega), wrap_succ (by omega), show (a : Int) * 10 + ((x.toNat - 48 : Nat) : Int) = ((a * 10 + (x.toNat - 48) : Nat) : Int) by omega]
          refine ih (i + 1) n _ hd' (by omega) (by omega) ?_ ?_ k m
          · rw [hsn, List.all_append, ht, List.all_cons, hf, List.all_nil]
            rfl
          · rw [hsn, digits_app, ← ha]
            rfl
      · rw [decide_eq_false (by omega), cond_false]
        simp only [c_spec_l1In, callS_canon, callL_canon, Option.map_some, Option.bind_some, shape_one, shape_agg, shape_nil, cellsAt_0, cellsAt_1, cellsAt_2, cellsAt_3, cells_one, cells_agg, cB_zero, cI_zero, cS_zero, cC_zero, cB_cons, cI_cons, cS_cons, cC_cons, cond_true, cond_false, List.length_cons, List.length_nil, beq_self_eq_true, Bool.and_true, Bool.true_and, lenC_encL, lenC_lst, deref_ref, emptyK_nil, bs_size, bs_toList]
        rw [show inR (s.length : Int) 1 7 = false by
          unfold inR
          rw [decide_eq_false (p := (s.length : Int) ≤ 7) (by omega), Bool.and_false]]
        unfold parseNum
        rw [if_neg fun h => by have := h.2.2.1; omega]
        rfl
  refine out_of (H := []) (run_spec_ParseNum_of (s.length + 1) ?_)
  have := loop s 0 (s.length + 1 + 1) 0 rfl (by omega) (by omega) (by simp) (by simp [digits]) (s.length + 1 + 1) (s.length + 1 + 1)
  simpa [spec_ParseNum] using this
theorem c_impl_ParseNum (s : Str) (most : Nat) (hs : s.length ≤ 1073741824) (hm : most ≤ 1073741824) : out run_impl_ParseNum [.one (Cell.str (bs s)), .one (Cell.int most)] = some (numV (parseNum s most)) := by
  have hM := maxLen_eq
  by_cases h17 : 1 ≤ s.length ∧ s.length ≤ 7
  · obtain ⟨h1, h7⟩ := h17
    have loop : ∀ (r : Str) (i n a : Nat), s.drop i = r → r.length < n → (s.take i).all isFigure = true → a = digits (s.take i) 0 → ∀ k m, impl_ParseNum_l0 k m n (bs s) most a i = some (numV (parseNum s most), []) := by
      intro r
      induction r with
      | nil =>
        intro i n a hd hn ht ha k m
        obtain ⟨n, rfl⟩ : ∃ j, n = j + 1 := ⟨n - 1, by omega⟩
        have h2 := drop_nil hd
        rw [List.take_of_length_le h2] at ht ha
        have hal : a < 10 ^ 7 := by
          rw [ha]
          refine Nat.lt_of_lt_of_le (digits_le s 0 0 (List.all_eq_true.1 ht) (by simp)) ?_
          rw [Nat.zero_add]
          exact Nat.pow_le_pow_right (by omega) h7
        simp only [impl_ParseNum_l0, bs_size]
        rw [decide_eq_false (by omega), cond_false]
        simp only [c_impl_NumText a (by omega), callS_canon, callL_canon, Option.map_some, Option.bind_some, shape_one, shape_agg, shape_nil, cellsAt_0, cellsAt_1, cellsAt_2, cellsAt_3, cells_one, cells_agg, cB_zero, cI_zero, cS_zero, cC_zero, cB_cons, cI_cons, cS_cons, cC_cons, cond_true, cond_false, List.length_cons, List.length_nil, beq_self_eq_true, Bool.and_true, Bool.true_and, lenC_encL, lenC_lst, deref_ref, emptyK_nil, bs_size, bs_toList]
        by_cases hc : s.length = 1 ∨ s.head? ≠ some 48
        · have e := numT_digits _ s rfl (List.all_eq_true.1 ht) h1 hc
          rw [ha, e, show (s == s) = true by simp, Bool.not_true, cond_false]
          unfold parseNum
          by_cases hm : digits s 0 ≤ most
          · rw [decide_eq_false (by omega), cond_false, if_pos ⟨ht, h1, h7, hc, hm⟩]
            rfl
          · rw [decide_eq_true (by omega), cond_true, if_neg fun h => hm h.2.2.2.2]
            rfl
        · have hne : (numT a == s) = false := by
            rw [beq_eq_false_iff_ne]
            intro e
            have := (numT_shape a).2.2.1
            rw [e] at this
            exact hc this
          rw [hne, Bool.not_false, cond_true]
          unfold parseNum
          rw [if_neg fun h => hc h.2.2.2.1]
          rfl
      | cons x r ih =>
        intro i n a hd hn ht ha k m
        obtain ⟨n, rfl⟩ : ∃ j, n = j + 1 := ⟨n - 1, by omega⟩
        obtain ⟨hlt, hx, hd'⟩ := drop_cons hd
        simp only [List.length_cons] at hn
        simp only [impl_ParseNum_l0, bs_size]
        rw [decide_eq_true (by omega), cond_true]
        simp only [bytS_bs, hx, Option.map_some, c_impl_isFigure, callS_canon, callL_canon, Option.map_some, Option.bind_some, shape_one, shape_agg, shape_nil, cellsAt_0, cellsAt_1, cellsAt_2, cellsAt_3, cells_one, cells_agg, cB_zero, cI_zero, cS_zero, cC_zero, cB_cons, cI_cons, cS_cons, cC_cons, cond_true, cond_false, List.length_cons, List.length_nil, beq_self_eq_true, Bool.and_true, Bool.true_and, lenC_encL, lenC_lst, deref_ref, emptyK_nil, bs_size, bs_toList]
        cases hf : isFigure x with
        | false =>
          simp only [Bool.not_false, cond_true]
          unfold parseNum
          rw [if_neg]
          · rfl
          · rintro ⟨h, _⟩
            have := List.all_eq_true.1 h x (List.mem_of_getElem? hx)
            rw [hf] at this
            simp at this
        | true =>
          have hsn : s.take (i + 1) = s.take i ++ [x] := by rw [List.take_add_one, hx]; rfl
          have hal : a < 10 ^ 8 := by
            rw [ha]
            refine Nat.lt_of_lt_of_le (digits_le (s.take i) 0 0 (List.all_eq_true.1 ht) (by simp)) ?_
            rw [Nat.zero_add]
            refine Nat.pow_le_pow_right (by omega) ?_
            rw [List.length_take]
            omega
          have hf2 := figure_num hf
          simp only [Bool.not_true, cond_false]
          rw [fig_sub hf, wrap_small (n := (a : Int) * 10) (by omega) (by omega), wrap_small (by omega) (by omega), wrap_succ (by omega), show (a : Int) * 10 + ((x.toNat - 48 : Nat) : Int) = ((a * 10 + (x.toNat - 48) : Nat) : Int) by omega]
          refine ih (i + 1) n _ hd' (by omega) ?_ ?_ k m
          · rw [hsn, List.all_append, ht, List.all_cons, hf, List.all_nil]
            rfl
          · rw [hsn, digits_app, ← ha]
            rfl
    refine out_of (H := []) (run_impl_ParseNum_of (s.length + 1) ?_)
    have z := loop s 0 (s.length + 1 + 1) 0 rfl (by omega) (by simp) (by simp [digits]) (s.length + 1 + 1) (s.length + 1 + 1)
    simp only [impl_ParseNum, bs_size, c_impl_inRange, callS_canon, callL_canon, Option.map_some, Option.bind_some, shape_one, shape_agg, shape_nil, cellsAt_0, cellsAt_1, cellsAt_2, cellsAt_3, cells_one, cells_agg, cB_zero, cI_zero, cS_zero, cC_zero, cB_cons, cI_cons, cS_cons, cC_cons, cond_true, cond_false, List.length_cons, List.length_nil, beq_self_eq_true, Bool.and_true, Bool.true_and, lenC_encL, lenC_lst, deref_ref, emptyK_nil, bs_size, bs_toList]
    rw [show inR (s.length : Int) 1 7 = true by
      unfold inR
      rw [decide_eq_true (by omega), decide_eq_true (by omega)]
      rfl, Bool.not_true, cond_false]
    exact z
  · refine out_of (H := []) (run_impl_ParseNum_of 0 ?_)
    simp only [impl_ParseNum, bs_size, c_impl_inRange, callS_canon, callL_canon, Option.map_some, Option.bind_some, shape_one, shape_agg, shape_nil, cellsAt_0, cellsAt_1, cellsAt_2, cellsAt_3, cells_one, cells_agg, cB_zero, cI_zero, cS_zero, cC_zero, cB_cons, cI_cons, cS_cons, cC_cons, cond_true, cond_false, List.length_cons, List.length_nil, beq_self_eq_true, Bool.and_true, Bool.true_and, lenC_encL, lenC_lst, deref_ref, emptyK_nil, bs_size, bs_toList]
    rw [show inR (s.length : Int) 1 7 = false by
      unfold inR
      rcases Nat.lt_or_ge s.length 1 with h | h
      · rw [decide_eq_false (by omega), Bool.false_and]
      · rw [decide_eq_false (p := (s.length : Int) ≤ 7) (by omega), Bool.and_false]]
    unfold parseNum
    rw [if_neg fun h => h17 ⟨h.2.1, h.2.2.1⟩]
    rfl
def figV : Nat → Str → Bool
  | 0, _ => true
  | _, s => !(s == [])
def preCh (b : UInt8) : Bool := isFigure b || isSmall b || inR b.toNat 65 90 || b == 45
def preOkM (s : Str) : Bool := s.all preCh && (inR s.length 1 8 && (!s.all isFigure || s.length == 1 || s.head? != some 48))
def verOkM (a b c : Int) (pre : List Str) : Bool := pre.all preOkM && (inR a 0 9999 && (inR b 0 9999 && (inR c 0 9999 && decide (pre.length ≤ 3))))
def verTextM (a b c : Int) (pre : List Str) : Str :=
  if verOkM a b c pre then numT a.toNat ++ [46] ++ numT b.toNat ++ [46] ++ numT c.toNat ++ (if pre.length = 0 then [] else 45 :: Lib.join pre [46]) else []
theorem preOkM_len {s : Str} (h : preOkM s = true) : 1 ≤ s.length ∧ s.length ≤ 8 := by
  simp only [preOkM, Bool.and_eq_true, inR, decide_eq_true_eq] at h
  omega
theorem verOkM_inv {a b c : Int} {pre : List Str} (h : verOkM a b c pre = true) : (0 ≤ a ∧ a ≤ 9999) ∧ (0 ≤ b ∧ b ≤ 9999) ∧ (0 ≤ c ∧ c ≤ 9999) ∧ pre.length ≤ 3 ∧ ∀ x ∈ pre, x.length ≤ 8 := by
  simp only [verOkM, Bool.and_eq_true, inR, decide_eq_true_eq, List.all_eq_true] at h
  exact ⟨h.2.1, h.2.2.1, h.2.2.2.1, h.2.2.2.2, fun x hx => (preOkM_len (h.1 x hx)).2⟩
theorem joinTail_le {sep : Str} (hs : sep.length ≤ 1) : ∀ r : List Str, (∀ x ∈ r, x.length ≤ 8) → (Lib.joinTail sep r).length ≤ 9 * r.length
  | [], _ => by simp [Lib.joinTail]
  | x :: r, h => by
    have ih := joinTail_le hs r fun y hy => h y (List.mem_cons_of_mem _ hy)
    have hx := h x (List.mem_cons_self ..)
    simp only [Lib.joinTail, List.map_cons, List.flatten_cons, List.length_append, List.length_cons] at ih ⊢
    omega
theorem join_le {sep : Str} (hs : sep.length ≤ 1) (r : List Str) (h : ∀ x ∈ r, x.length ≤ 8) : (Lib.join r sep).length ≤ 9 * r.length := by
  cases r with
  | nil => simp [Lib.join_nil]
  | cons x r =>
    rw [Lib.join_cons, List.length_append]
    have := joinTail_le hs r fun y hy => h y (List.mem_cons_of_mem _ hy)
    have hx := h x (List.mem_cons_self ..)
    simp only [List.length_cons]
    omega
theorem verTextM_le (a b c : Int) (pre : List Str) : (verTextM a b c pre).length ≤ 200 := by
  unfold verTextM
  split
  · rename_i h
    obtain ⟨h1, h2, h3, h4, h5⟩ := verOkM_inv h
    have n1 := numT_le a.toNat (by omega)
    have n2 := numT_le b.toNat (by omega)
    have n3 := numT_le c.toNat (by omega)
    have j := join_le (sep := [46]) (by simp) pre h5
    simp only [List.length_append, List.length_cons, List.length_nil]
    split <;> simp <;> omega
  · simp
theorem c_spec_l3Digits (s : Str) (hs : s.length ≤ 1073741824) : out run_spec_l3Digits [.one (Cell.str (bs s))] = some [.one (Cell.bool (s.all isFigure && figV 0 s))] := by
  have hM := maxLen_eq
  have loop : ∀ (r : Str) (i n : Nat), s.drop i = r → r.length < n → ∀ k m, spec_l3Digits_l0 k m n (bs s) i = some ([.one (Cell.bool (r.all isFigure && figV 0 s))], []) := by
    intro r
    induction r with
    | nil =>
      intro i n hd hn k m
      obtain ⟨n, rfl⟩ : ∃ j, n = j + 1 := ⟨n - 1, by omega⟩
      have := drop_nil hd
      simp only [spec_l3Digits_l0, bs_size, bs_toList]
      rw [decide_eq_false (by omega), cond_false]
      simp [figV]
    | cons b r ih =>
      intro i n hd hn k m
      obtain ⟨n, rfl⟩ : ∃ j, n = j + 1 := ⟨n - 1, by omega⟩
      obtain ⟨hlt, hg, hd'⟩ := drop_cons hd
      simp only [List.length_cons] at hn
      simp only [spec_l3Digits_l0, bytS_bs, hg, c_spec_l1Digit, callS_canon, callL_canon, Option.map_some, Option.bind_some, shape_one, shape_agg, shape_nil, cellsAt_0, cellsAt_1, cellsAt_2, cellsAt_3, cells_one, cells_agg, cB_zero, cI_zero, cS_zero, cC_zero, cB_cons, cI_cons, cS_cons, cC_cons, cond_true, cond_false, List.length_cons, List.length_nil, beq_self_eq_true, Bool.and_true, Bool.true_and, lenC_encL, lenC_lst, deref_ref, emptyK_nil, bs_size, bs_toList]
      rw [decide_eq_true (by omega), cond_true, wrap_succ (by omega), ih (i + 1) n hd' (by omega)]
      simp only [List.all_cons]
      cases isFigure b <;> rfl
  refine out_of (H := []) (run_spec_l3Digits_of (s.length + 1) ?_)
  have := loop s 0 (s.length + 1 + 1) rfl (by omega) (s.length + 1 + 1) (s.length + 1 + 1)
  simpa [spec_l3Digits] using this
theorem c_impl_isFigures (s : Str) (hs : s.length ≤ 1073741824) : out run_impl_isFigures [.one (Cell.str (bs s))] = some [.one (Cell.bool (s.all isFigure && figV 1 s))] := by
  have hM := maxLen_eq
  have loop : ∀ (r : Str) (i n : Nat), s.drop i = r → r.length < n → ∀ k m, impl_isFigures_l0 k m n (bs s) i = some ([.one (Cell.bool (r.all isFigure && figV 1 s))], []) := by
    intro r
    induction r with
    | nil =>
      intro i n hd hn k m
      obtain ⟨n, rfl⟩ : ∃ j, n = j + 1 := ⟨n - 1, by omega⟩
      have := drop_nil hd
      simp only [impl_isFigures_l0, bs_size, bs_toList]
      rw [decide_eq_false (by omega), cond_false]
      simp [figV]
    | cons b r ih =>
      intro i n hd hn k m
      obtain ⟨n, rfl⟩ : ∃ j, n = j + 1 := ⟨n - 1, by omega⟩
      obtain ⟨hlt, hg, hd'⟩ := drop_cons hd
      simp only [List.length_cons] at hn
      simp only [impl_isFigures_l0, bytS_bs, hg, c_impl_isFigure, callS_canon, callL_canon, Option.map_some, Option.bind_some, shape_one, shape_agg, shape_nil, cellsAt_0, cellsAt_1, cellsAt_2, cellsAt_3, cells_one, cells_agg, cB_zero, cI_zero, cS_zero, cC_zero, cB_cons, cI_cons, cS_cons, cC_cons, cond_true, cond_false, List.length_cons, List.length_nil, beq_self_eq_true, Bool.and_true, Bool.true_and, lenC_encL, lenC_lst, deref_ref, emptyK_nil, bs_size, bs_toList]
      rw [decide_eq_true (by omega), cond_true, wrap_succ (by omega), ih (i + 1) n hd' (by omega)]
      simp only [List.all_cons]
      cases isFigure b <;> rfl
  refine out_of (H := []) (run_impl_isFigures_of (s.length + 1) ?_)
  have := loop s 0 (s.length + 1 + 1) rfl (by omega) (s.length + 1 + 1) (s.length + 1 + 1)
  simpa [impl_isFigures] using this
theorem c_spec_l3Part (s : Str) (hs : s.length ≤ 1073741824) : out run_spec_l3Part [.one (Cell.str (bs s))] = some [.one (Cell.bool (preOkM s))] := by
  have hM := maxLen_eq
  have loop : ∀ (r : Str) (i n : Nat), s.drop i = r → r.length < n → ∀ k m, spec_l3Part_l0 k m n (bs s) i = some ([.one (Cell.bool (r.all preCh && (inR s.length 1 8 && (!s.all isFigure || s.length == 1 || s.head? != some 48))))], []) := by
    intro r
    induction r with
    | nil =>
      intro i n hd hn k m
      obtain ⟨n, rfl⟩ : ∃ j, n = j + 1 := ⟨n - 1, by omega⟩
      have := drop_nil hd
      simp only [spec_l3Part_l0, bs_size]
      rw [decide_eq_false (by omega), cond_false]
      simp only [c_spec_l1In, c_spec_l3Digits s hs, figV, callS_canon, callL_canon, Option.map_some, Option.bind_some, shape_one, shape_agg, shape_nil, cellsAt_0, cellsAt_1, cellsAt_2, cellsAt_3, cells_one, cells_agg, cB_zero, cI_zero, cS_zero, cC_zero, cB_cons, cI_cons, cS_cons, cC_cons, cond_true, cond_false, List.length_cons, List.length_nil, beq_self_eq_true, Bool.and_true, Bool.true_and, lenC_encL, lenC_lst, deref_ref, emptyK_nil, bs_size, bs_toList, List.all_nil]
      cases hr : inR (s.length : Int) 1 8 with
      | false => rfl
      | true =>
        simp only [cond_true, Bool.true_and]
        cases hf : s.all isFigure with
        | false => rfl
        | true =>
          simp only [Bool.not_true, cond_false, Bool.false_or]
          cases s with
          | nil => simp [inR] at hr
          | cons x s =>
            have h0 : bytS (bs (x :: s)) 0 = some (x.toNat : Int) := by
              have := bytS_bs (x :: s) 0
              simpa using this
            have h48 : ((x.toNat : Int) != 48) = (x != 48) := u8_ne x 48 (by omega)
            have hl : (((x :: s).length : Int) == 1) = ((x :: s).length == 1) := by rw [Bool.eq_iff_iff]; simp only [beq_iff_eq]; omega
            have hh : ((x :: s).head? != some 48) = (x != 48) := by simp [bne]
            simp only [h0, h48, hl, hh, Option.bind_some]
            cases ((x :: s).length == 1) <;> simp
    | cons b r ih =>
      intro i n hd hn k m
      obtain ⟨n, rfl⟩ : ∃ j, n = j + 1 := ⟨n - 1, by omega⟩
      obtain ⟨hlt, hg, hd'⟩ := drop_cons hd
      simp only [List.length_cons] at hn
      have hb := u8_lt b
      have h45 : ((b.toNat : Int) != 45) = !(b == 45) := u8_ne b 45 (by omega)
      simp only [spec_l3Part_l0, bytS_bs, hg, c_spec_l1Digit, c_spec_l1Small, c_spec_l1In, wrap_small (n := (b.toNat : Int)) (by omega) (by omega), h45, callS_canon, callL_canon, Option.map_some, Option.bind_some, shape_one, shape_agg, shape_nil, cellsAt_0, cellsAt_1, cellsAt_2, cellsAt_3, cells_one, cells_agg, cB_zero, cI_zero, cS_zero, cC_zero, cB_cons, cI_cons, cS_cons, cC_cons, cond_true, cond_false, List.length_cons, List.length_nil, beq_self_eq_true, Bool.and_true, Bool.true_and, lenC_encL, lenC_lst, deref_ref, emptyK_nil, bs_size, bs_toList]
      rw [decide_eq_true (by omega), cond_true, wrap_succ (by omega), ih (i + 1) n hd' (by omega)]
      simp only [List.all_cons, preCh]
      cases isFigure b <;> cases isSmall b <;> cases (inR (b.toNat : Int) 65 90) <;> cases (b == 45) <;> rfl
  refine out_of (H := []) (run_spec_l3Part_of (s.length + 1) ?_)
  have := loop s 0 (s.length + 1 + 1) rfl (by omega) (s.length + 1 + 1) (s.length + 1 + 1)
  simpa [spec_l3Part, preOkM] using this
theorem c_impl_preOk (s : Str) (hs : s.length ≤ 1073741824) : out run_impl_preOk [.one (Cell.str (bs s))] = some [.one (Cell.bool (preOkM s))] := by
  have hM := maxLen_eq
  have loop : ∀ (r : Str) (i n : Nat), s.drop i = r → r.length < n → ∀ k m, impl_preOk_l0 k m n (bs s) i = some ([.one (Cell.bool (r.all preCh && (inR s.length 1 8 && (!s.all isFigure || s.length == 1 || s.head? != some 48))))], []) := by
    intro r
    induction r with
    | nil =>
      intro i n hd hn k m
      obtain ⟨n, rfl⟩ : ∃ j, n = j + 1 := ⟨n - 1, by omega⟩
      have := drop_nil hd
      simp only [impl_preOk_l0, bs_size]
      rw [decide_eq_false (by omega), cond_false]
      simp only [c_impl_inRange, c_impl_isFigures s hs, figV, callS_canon, callL_canon, Option.map_some, Option.bind_some, shape_one, shape_agg, shape_nil, cellsAt_0, cellsAt_1, cellsAt_2, cellsAt_3, cells_one, cells_agg, cB_zero, cI_zero, cS_zero, cC_zero, cB_cons, cI_cons, cS_cons, cC_cons, cond_true, cond_false, List.length_cons, List.length_nil, beq_self_eq_true, Bool.and_true, Bool.true_and, lenC_encL, lenC_lst, deref_ref, emptyK_nil, bs_size, bs_toList, List.all_nil]
      cases hr : inR (s.length : Int) 1 8 with
      | false => rfl
      | true =>
        simp only [cond_true, Bool.true_and]
        cases s with
        | nil => simp [inR] at hr
        | cons x s =>
          cases hf : (x :: s).all isFigure with
          | false => rfl
          | true =>
            have h0 : bytS (bs (x :: s)) 0 = some (x.toNat : Int) := by
              have := bytS_bs (x :: s) 0
              simpa using this
            have h48 : ((x.toNat : Int) != 48) = (x != 48) := u8_ne x 48 (by omega)
            have hh : ((x :: s).head? != some 48) = (x != 48) := by simp [bne]
            simp only [h0, h48, hh, Option.bind_some]
            by_cases hx : x = 48
            · subst hx
              cases s <;> simp
            · have e1 : ((x :: s) == [48]) = false := by simp [hx]
              have e2 : (x != 48) = true := by simp [hx]
              rw [e1, e2]
              simp
    | cons b r ih =>
      intro i n hd hn k m
      obtain ⟨n, rfl⟩ : ∃ j, n = j + 1 := ⟨n - 1, by omega⟩
      obtain ⟨hlt, hg, hd'⟩ := drop_cons hd
      simp only [List.length_cons] at hn
      have hb := u8_lt b
      have h45 : ((b.toNat : Int) != 45) = !(b == 45) := u8_ne b 45 (by omega)
      simp only [impl_preOk_l0, bytS_bs, hg, c_impl_isFigure, c_impl_isSmall, h45, callS_canon, callL_canon, Option.map_some, Option.bind_some, shape_one, shape_agg, shape_nil, cellsAt_0, cellsAt_1, cellsAt_2, cellsAt_3, cells_one, cells_agg, cB_zero, cI_zero, cS_zero, cC_zero, cB_cons, cI_cons, cS_cons, cC_cons, cond_true, cond_false, List.length_cons, List.length_nil, beq_self_eq_true, Bool.and_true, Bool.true_and, lenC_encL, lenC_lst, deref_ref, emptyK_nil, bs_size, bs_toList]
      rw [decide_eq_true (by omega), cond_true, wrap_succ (by omega), ih (i + 1) n hd' (by omega)]
      have hr : inR (b.toNat : Int) 65 90 = (decide ((b.toNat : Int) ≥ 65) && decide ((b.toNat : Int) ≤ 90)) := rfl
      simp only [List.all_cons, preCh, hr]
      cases isFigure b <;> cases isSmall b <;> cases (decide ((b.toNat : Int) ≥ 65)) <;> cases (decide ((b.toNat : Int) ≤ 90)) <;> cases (b == 45) <;> rfl
  refine out_of (H := []) (run_impl_preOk_of (s.length + 1) ?_)
  have := loop s 0 (s.length + 1 + 1) rfl (by omega) (s.length + 1 + 1) (s.length + 1 + 1)
  simpa [impl_preOk, preOkM] using this
theorem c_spec_VerOk (a b c : Int) (pre : List Str) (hp : bdL 1048576 (bdS 1048576) pre) : out run_spec_VerOk [.agg [Cell.int a, Cell.int b, Cell.int c, encL 1 eStr pre]] = some [.one (Cell.bool (verOkM a b c pre))] := by
  have hM := maxLen_eq
  have hl := hp.1
  have loop : ∀ (r : List Str) (i n : Nat), pre.drop i = r → r.length < n → ∀ k m, spec_VerOk_l0 k m n i a b c (encL 1 eStr pre) = some ([.one (Cell.bool (r.all preOkM && (inR a 0 9999 && (inR b 0 9999 && (inR c 0 9999 && decide (pre.length ≤ 3))))))], []) := by
    intro r
    induction r with
    | nil =>
      intro i n hd hn k m
      obtain ⟨n, rfl⟩ : ∃ j, n = j + 1 := ⟨n - 1, by omega⟩
      have := drop_nil hd
      simp only [spec_VerOk_l0, callS_canon, callL_canon, Option.map_some, Option.bind_some, shape_one, shape_agg, shape_nil, cellsAt_0, cellsAt_1, cellsAt_2, cellsAt_3, cells_one, cells_agg, cB_zero, cI_zero, cS_zero, cC_zero, cB_cons, cI_cons, cS_cons, cC_cons, cond_true, cond_false, List.length_cons, List.length_nil, beq_self_eq_true, Bool.and_true, Bool.true_and, lenC_encL, lenC_lst, deref_ref, emptyK_nil, bs_size, bs_toList]
      rw [decide_eq_false (by omega), cond_false]
      have h3 : decide ((pre.length : Int) ≤ 3) = decide (pre.length ≤ 3) := by rw [Bool.eq_iff_iff]; simp; omega
      simp only [c_spec_l1In, h3, callS_canon, callL_canon, Option.map_some, Option.bind_some, shape_one, shape_agg, shape_nil, cellsAt_0, cellsAt_1, cellsAt_2, cellsAt_3, cells_one, cells_agg, cB_zero, cI_zero, cS_zero, cC_zero, cB_cons, cI_cons, cS_cons, cC_cons, cond_true, cond_false, List.length_cons, List.length_nil, beq_self_eq_true, Bool.and_true, Bool.true_and, lenC_encL, lenC_lst, deref_ref, emptyK_nil, bs_size, bs_toList, List.all_nil]
      cases inR a 0 9999 <;> cases inR b 0 9999 <;> cases inR c 0 9999 <;> rfl
    | cons x r ih =>
      intro i n hd hn k m
      obtain ⟨n, rfl⟩ : ∃ j, n = j + 1 := ⟨n - 1, by omega⟩
      obtain ⟨hlt, hg, hd'⟩ := drop_cons hd
      simp only [List.length_cons] at hn
      have hx : x.length ≤ 1073741824 := Nat.le_trans (hp.2 x (List.mem_of_getElem? hg)) (by omega)
      simp only [spec_VerOk_l0, callS_canon, callL_canon, Option.map_some, Option.bind_some, shape_one, shape_agg, shape_nil, cellsAt_0, cellsAt_1, cellsAt_2, cellsAt_3, cells_one, cells_agg, cB_zero, cI_zero, cS_zero, cC_zero, cB_cons, cI_cons, cS_cons, cC_cons, cond_true, cond_false, List.length_cons, List.length_nil, beq_self_eq_true, Bool.and_true, Bool.true_and, lenC_encL, lenC_lst, deref_ref, emptyK_nil, bs_size, bs_toList]
      rw [decide_eq_true (by omega), cond_true]
      simp only [idxA_encL, hg, eStr, c_spec_l3Part x hx, wrap_succ (show i < maxLen by omega), ih (i + 1) n hd' (by omega), callS_canon, callL_canon, Option.map_some, Option.bind_some, shape_one, shape_agg, shape_nil, cellsAt_0, cellsAt_1, cellsAt_2, cellsAt_3, cells_one, cells_agg, cB_zero, cI_zero, cS_zero, cC_zero, cB_cons, cI_cons, cS_cons, cC_cons, cond_true, cond_false, List.length_cons, List.length_nil, beq_self_eq_true, Bool.and_true, Bool.true_and, lenC_encL, lenC_lst, deref_ref, emptyK_nil, bs_size, bs_toList, List.all_cons]
      cases preOkM x <;> rfl
  refine out_of (H := []) (run_spec_VerOk_of (pre.length + 1) ?_)
  exact loop pre 0 (pre.length + 1 + 1) rfl (by omega) (pre.length + 1 + 1) (pre.length + 1 + 1)
theorem c_impl_VerOk (a b c : Int) (pre : List Str) (hp : bdL 1048576 (bdS 1048576) pre) : out run_impl_VerOk [.agg [Cell.int a, Cell.int b, Cell.int c, encL 1 eStr pre]] = some [.one (Cell.bool (verOkM a b c pre))] := by
  have hM := maxLen_eq
  have hl := hp.1
  have loop : ∀ (r : List Str) (i n : Nat), pre.drop i = r → r.length < n → ∀ k m, impl_VerOk_l0 k m n (encL 1 eStr pre) pre.length i a b c (encL 1 eStr pre) = some ([.one (Cell.bool (r.all preOkM && (inR a 0 9999 && (inR b 0 9999 && (inR c 0 9999 && decide (pre.length ≤ 3))))))], []) := by
    intro r
    induction r with
    | nil =>
      intro i n hd hn k m
      obtain ⟨n, rfl⟩ : ∃ j, n = j + 1 := ⟨n - 1, by omega⟩
      have := drop_nil hd
      simp only [impl_VerOk_l0, callS_canon, callL_canon, Option.map_some, Option.bind_some, shape_one, shape_agg, shape_nil, cellsAt_0, cellsAt_1, cellsAt_2, cellsAt_3, cells_one, cells_agg, cB_zero, cI_zero, cS_zero, cC_zero, cB_cons, cI_cons, cS_cons, cC_cons, cond_true, cond_false, List.length_cons, List.length_nil, beq_self_eq_true, Bool.and_true, Bool.true_and, lenC_encL, lenC_lst, deref_ref, emptyK_nil, bs_size, bs_toList]
      rw [decide_eq_false (by omega), cond_false]
      have h3 : decide ((pre.length : Int) ≤ 3) = decide (pre.length ≤ 3) := by rw [Bool.eq_iff_iff]; simp; omega
      simp only [c_impl_inRange, h3, callS_canon, callL_canon, Option.map_some, Option.bind_some, shape_one, shape_agg, shape_nil, cellsAt_0, cellsAt_1, cellsAt_2, cellsAt_3, cells_one, cells_agg, cB_zero, cI_zero, cS_zero, cC_zero, cB_cons, cI_cons, cS_cons, cC_cons, cond_true, cond_false, List.length_cons, List.length_nil, beq_self_eq_true, Bool.and_true, Bool.true_and, lenC_encL, lenC_lst, deref_ref, emptyK_nil, bs_size, bs_toList, List.all_nil]
      cases inR a 0 9999 <;> cases inR b 0 9999 <;> cases inR c 0 9999 <;> rfl
    | cons x r ih =>
      intro i n hd hn k m
      obtain ⟨n, rfl⟩ : ∃ j, n = j + 1 := ⟨n - 1, by omega⟩
      obtain ⟨hlt, hg, hd'⟩ := drop_cons hd
      simp only [List.length_cons] at hn
      have hx : x.length ≤ 1073741824 := Nat.le_trans (hp.2 x (List.mem_of_getElem? hg)) (by omega)
      simp only [impl_VerOk_l0, callS_canon, callL_canon, Option.map_some, Option.bind_some, shape_one, shape_agg, shape_nil, cellsAt_0, cellsAt_1, cellsAt_2, cellsAt_3, cells_one, cells_agg, cB_zero, cI_zero, cS_zero, cC_zero, cB_cons, cI_cons, cS_cons, cC_cons, cond_true, cond_false, List.length_cons, List.length_nil, beq_self_eq_true, Bool.and_true, Bool.true_and, lenC_encL, lenC_lst, deref_ref, emptyK_nil, bs_size, bs_toList]
      rw [decide_eq_true (by omega), cond_true]
      simp only [idxA_encL, hg, eStr, c_impl_preOk x hx, wrap_succ (show i < maxLen by omega), ih (i + 1) n hd' (by omega), callS_canon, callL_canon, Option.map_some, Option.bind_some, shape_one, shape_agg, shape_nil, cellsAt_0, cellsAt_1, cellsAt_2, cellsAt_3, cells_one, cells_agg, cB_zero, cI_zero, cS_zero, cC_zero, cB_cons, cI_cons, cS_cons, cC_cons, cond_true, cond_false, List.length_cons, List.length_nil, beq_self_eq_true, Bool.and_true, Bool.true_and, lenC_encL, lenC_lst, deref_ref, emptyK_nil, bs_size, bs_toList, List.all_cons]
      cases preOkM x <;> rfl
  refine out_of (H := []) (run_impl_VerOk_of (pre.length + 1) ?_)
  simp only [impl_VerOk, callS_canon, callL_canon, Option.map_some, Option.bind_some, shape_one, shape_agg, shape_nil, cellsAt_0, cellsAt_1, cellsAt_2, cellsAt_3, cells_one, cells_agg, cB_zero, cI_zero, cS_zero, cC_zero, cB_cons, cI_cons, cS_cons, cC_cons, cond_true, cond_false, List.length_cons, List.length_nil, beq_self_eq_true, Bool.and_true, Bool.true_and, lenC_encL, lenC_lst, deref_ref, emptyK_nil, bs_size, bs_toList]
  exact loop pre 0 (pre.length + 1 + 1) rfl (by omega) (pre.length + 1 + 1) (pre.length + 1 + 1)
theorem c_impl_VerText_join (xs : List Str) (sep : Str) (h1 : xs.length ≤ 3) (h2 : ∀ x ∈ xs, x.length ≤ 8) (h3 : sep.length ≤ 1) : out run_strings_Join [.one (encL 1 eStr xs), .one (Cell.str (bs sep))] = some [.one (Cell.str (bs (Lib.join xs sep)))] := by
  have hj := join_le h3 xs h2
  refine out_of (H := []) ?_
  show run_join _ _ = _
  have e : strRows (xs.map eStr) = some xs := strRows_eStr xs
  simp only [encL, run_join, e, bs_data]
  rw [if_pos ⟨trivial, by omega, by omega⟩]
  rfl
theorem c_impl_VerText (a b c : Int) (pre : List Str) (hp : bdL 1048576 (bdS 1048576) pre) : out run_impl_VerText [.agg [Cell.int a, Cell.int b, Cell.int c, encL 1 eStr pre]] = some [.one (Cell.str (bs (verTextM a b c pre)))] := by
  refine out_of (H := []) (run_impl_VerText_of 0 ?_)
  simp only [impl_VerText, c_impl_VerOk a b c pre hp, callS_canon, callL_canon, Option.map_some, Option.bind_some, shape_one, shape_agg, shape_nil, cellsAt_0, cellsAt_1, cellsAt_2, cellsAt_3, cells_one, cells_agg, cB_zero, cI_zero, cS_zero, cC_zero, cB_cons, cI_cons, cS_cons, cC_cons, cond_true, cond_false, List.length_cons, List.length_nil, beq_self_eq_true, Bool.and_true, Bool.true_and, lenC_encL, lenC_lst, deref_ref, emptyK_nil, bs_size, bs_toList, verTextM]
  cases ho : verOkM a b c pre with
  | false => rfl
  | true =>
    obtain ⟨h1, h2, h3, h4, h5⟩ := verOkM_inv ho
    obtain ⟨x, rfl⟩ : ∃ x : Nat, a = (x : Int) := ⟨a.toNat, by omega⟩
    obtain ⟨y, rfl⟩ : ∃ x : Nat, b = (x : Int) := ⟨b.toNat, by omega⟩
    obtain ⟨z, rfl⟩ : ∃ x : Nat, c = (x : Int) := ⟨c.toNat, by omega⟩
    have n1 := numT_le x (by omega)
    have n2 := numT_le y (by omega)
    have n3 := numT_le z (by omega)
    have j := join_le (sep := [46]) (by simp) pre h5
    have k1 : catS (bs (numT x)) (bs [46]) = some (bs (numT x ++ [46])) := catS_bs (by simp; omega)
    have k2 : catS (bs (numT x ++ [46])) (bs (numT y)) = some (bs (numT x ++ [46] ++ numT y)) := catS_bs (by simp; omega)
    have k3 : catS (bs (numT x ++ [46] ++ numT y)) (bs [46]) = some (bs (numT x ++ [46] ++ numT y ++ [46])) := catS_bs (by simp; omega)
    have k4 : catS (bs (numT x ++ [46] ++ numT y ++ [46])) (bs (numT z)) = some (bs (numT x ++ [46] ++ numT y ++ [46] ++ numT z)) := catS_bs (by simp; omega)
    have k5 : catS (bs (numT x ++ [46] ++ numT y ++ [46] ++ numT z)) (bs [45]) = some (bs (numT x ++ [46] ++ numT y ++ [46] ++ numT z ++ [45])) := catS_bs (by simp; omega)
    have k6 : catS (bs (numT x ++ [46] ++ numT y ++ [46] ++ numT z ++ [45])) (bs (Lib.join pre [46])) = some (bs (numT x ++ [46] ++ numT y ++ [46] ++ numT z ++ [45] ++ Lib.join pre [46])) := catS_bs (by simp; omega)
    have k7 : catS (bs [45]) (bs (Lib.join pre [46])) = some (bs ([45] ++ Lib.join pre [46])) := catS_bs (by simp; omega)
    have k8 : catS (bs (numT x ++ [46] ++ numT y ++ [46] ++ numT z)) (bs ([45] ++ Lib.join pre [46])) = some (bs (numT x ++ [46] ++ numT y ++ [46] ++ numT z ++ ([45] ++ Lib.join pre [46]))) := catS_bs (by simp; omega)
    simp only [Bool.not_true, cond_false, c_impl_NumText x (by omega), c_impl_NumText y (by omega), c_impl_NumText z (by omega), k1, k2, k3, k4, callS_canon, callL_canon, Option.map_some, Option.bind_some, shape_one, shape_agg, shape_nil, cellsAt_0, cellsAt_1, cellsAt_2, cellsAt_3, cells_one, cells_agg, cB_zero, cI_zero, cS_zero, cC_zero, cB_cons, cI_cons, cS_cons, cC_cons, cond_true, cond_false, List.length_cons, List.length_nil, beq_self_eq_true, Bool.and_true, Bool.true_and, lenC_encL, lenC_lst, deref_ref, emptyK_nil, bs_size, bs_toList, if_true, Int.toNat_natCast]
    by_cases hz : pre.length = 0
    · rw [decide_eq_false (by omega), cond_false, if_pos hz]
      simp
    · rw [decide_eq_true (by omega), cond_true, if_neg hz]
      simp only [c_impl_VerText_join pre [46] h4 h5 (by simp), k5, k6, k7, k8, callS_canon, callL_canon, Option.map_some, Option.bind_some, shape_one, shape_agg, shape_nil, cellsAt_0, cellsAt_1, cellsAt_2, cellsAt_3, cells_one, cells_agg, cB_zero, cI_zero, cS_zero, cC_zero, cB_cons, cI_cons, cS_cons, cC_cons, cond_true, cond_false, List.length_cons, List.length_nil, beq_self_eq_true, Bool.and_true, Bool.true_and, lenC_encL, lenC_lst, deref_ref, emptyK_nil, bs_size, bs_toList]
      try simp
/-- Each entry right, and behind the one ahead of it. -/
def lockGo : Option Str → List MPick → Bool
  | _, [] => true
  | prev, p :: r => nameOk p.Name && (verOkM p.V.A p.V.B p.V.C p.V.Pre && ((match prev with | some q => lt q p.Name | none => true) && lockGo (some p.Name) r))
def lockRow (p : MPick) : Str := p.Name ++ [64] ++ verTextM p.V.A p.V.B p.V.C p.V.Pre ++ [10]
def m_LockText (l : List MPick) : Str := if lockGo none l && decide (l.length ≤ 12) then l.flatMap lockRow else []
def prevOf (l : List MPick) : Nat → Option Str
  | 0 => none
  | i + 1 => (l[i]?).map (·.Name)
theorem lockRow_le {p : MPick} (h : nameOk p.Name = true) : (lockRow p).length ≤ 220 := by
  have := verTextM_le p.V.A p.V.B p.V.C p.V.Pre
  have h2 : p.Name.length ≤ 10 := by
    simp only [nameOk, Bool.and_eq_true, inR, decide_eq_true_eq] at h
    omega
  simp only [lockRow, List.length_append, List.length_singleton]
  omega
theorem c_spec_l10Ok (l : List MPick) (hl : bdL 1048576 (MPick.Bd 1048576) l) : out run_spec_l10Ok [.one (encL 5 MPick.enc l)] = some [.one (Cell.bool (lockGo none l && decide (l.length ≤ 12)))] := by
  have hM := maxLen_eq
  have hxl := hl.1
  have loop : ∀ (r : List MPick) (i n : Nat), l.drop i = r → r.length < n → ∀ k m, spec_l10Ok_l0 k m n (encL 5 MPick.enc l) i = some ([.one (Cell.bool (lockGo (prevOf l i) r && decide (l.length ≤ 12)))], []) := by
    intro r
    induction r with
    | nil =>
      intro i n hd hn k m
      obtain ⟨n, rfl⟩ : ∃ j, n = j + 1 := ⟨n - 1, by omega⟩
      have := drop_nil hd
      have h12 : decide ((l.length : Int) ≤ 12) = decide (l.length ≤ 12) := by rw [Bool.eq_iff_iff]; simp; omega
      simp only [spec_l10Ok_l0, callS_canon, callL_canon, Option.map_some, Option.bind_some, shape_one, shape_agg, shape_nil, cellsAt_0, cellsAt_1, cellsAt_2, cellsAt_3, cells_one, cells_agg, cB_zero, cI_zero, cS_zero, cC_zero, cB_cons, cI_cons, cS_cons, cC_cons, cond_true, cond_false, List.length_cons, List.length_nil, beq_self_eq_true, Bool.and_true, Bool.true_and, lenC_encL, lenC_lst, deref_ref, emptyK_nil, bs_size, bs_toList, h12, lockGo]
      rw [decide_eq_false (by omega), cond_false]
    | cons p r ih =>
      intro i n hd hn k m
      obtain ⟨n, rfl⟩ : ∃ j, n = j + 1 := ⟨n - 1, by omega⟩
      obtain ⟨hlt, hg, hd'⟩ := drop_cons hd
      simp only [List.length_cons] at hn
      have hb := hl.2 p (List.mem_of_getElem? hg)
      have hnm : p.Name.length ≤ 1073741824 := Nat.le_trans hb.1 (by omega)
      have e2 : prevOf l (i + 1) = some p.Name := by simp [prevOf, hg]
      simp only [spec_l10Ok_l0, callS_canon, callL_canon, Option.map_some, Option.bind_some, shape_one, shape_agg, shape_nil, cellsAt_0, cellsAt_1, cellsAt_2, cellsAt_3, cells_one, cells_agg, cB_zero, cI_zero, cS_zero, cC_zero, cB_cons, cI_cons, cS_cons, cC_cons, cond_true, cond_false, List.length_cons, List.length_nil, beq_self_eq_true, Bool.and_true, Bool.true_and, lenC_encL, lenC_lst, deref_ref, emptyK_nil, bs_size, bs_toList]
      rw [decide_eq_true (by omega), cond_true]
      simp only [idxA_encL, hg, MPick.enc, fldA_ref, Nat.zero_add, c_spec_NameOk p.Name hnm, c_spec_VerOk _ _ _ _ hb.2.2.2.2, wrap_succ (show i < maxLen by omega), ih (i + 1) n hd' (by omega), e2, callS_canon, callL_canon, Option.map_some, Option.bind_some, shape_one, shape_agg, shape_nil, cellsAt_0, cellsAt_1, cellsAt_2, cellsAt_3, cells_one, cells_agg, cB_zero, cI_zero, cS_zero, cC_zero, cB_cons, cI_cons, cS_cons, cC_cons, cond_true, cond_false, List.length_cons, List.length_nil, beq_self_eq_true, Bool.and_true, Bool.true_and, lenC_encL, lenC_lst, deref_ref, emptyK_nil, bs_size, bs_toList, lockGo]
      cases nameOk p.Name with
      | false => rfl
      | true =>
        cases verOkM p.V.A p.V.B p.V.C p.V.Pre with
        | false => rfl
        | true =>
          cases i with
          | zero => rfl
          | succ j =>
            obtain ⟨q, hq⟩ : ∃ q, l[j]? = some q := ⟨l[j], List.getElem?_eq_getElem (by omega)⟩
            have hw : IntKind.i64.wrap (((j + 1 : Nat) : Int) - 1) = (j : Int) := by rw [wrap_small (by omega) (by omega)]; omega
            simp only [hw, idxA_encL, hq, MPick.enc, fldA_ref, Nat.zero_add, callS_canon, callL_canon, Option.map_some, Option.bind_some, shape_one, shape_agg, shape_nil, cellsAt_0, cellsAt_1, cellsAt_2, cellsAt_3, cells_one, cells_agg, cB_zero, cI_zero, cS_zero, cC_zero, cB_cons, cI_cons, cS_cons, cC_cons, cond_true, cond_false, List.length_cons, List.length_nil, beq_self_eq_true, Bool.and_true, Bool.true_and, lenC_encL, lenC_lst, deref_ref, emptyK_nil, bs_size, bs_toList, bl_eq, prevOf, Option.map_some, Bool.not_true]
            rw [decide_eq_true (by omega), cond_true]
            cases lt q.Name p.Name <;> rfl
  refine out_of (H := []) (run_spec_l10Ok_of (l.length + 1) ?_)
  exact loop l 0 (l.length + 1 + 1) rfl (by omega) (l.length + 1 + 1) (l.length + 1 + 1)
/-- A builder and its row. -/
def bH (acc : Str) (ep : Nat) : List Entry := [Entry.mk 1 [[Cell.str (bs acc)]] 0 false, Entry.mk 1 [] ep false]
theorem bw_run (T e : Nat) (acc s : Str) (ep : Nat) (h : acc.length + s.length ≤ 1048576) : run_bwstr T e [.one (.bl T e 0 0), .one (Cell.str (bs s))] (bH acc ep) = some ([.one (Cell.int s.length), .one (.sc .nilIface)], bH (acc ++ s) (ep + 1)) := by
  have e1 : bldText (bH acc ep) 0 0 = some acc := by simp [bldText, entry?, bH, bs]
  have e2 : bldPut (bH acc ep) 0 (acc ++ (bs s).data.toList) = some (bH (acc ++ s) (ep + 1)) := by
    rw [bs_data]
    rfl
  simp only [run_bwstr]
  rw [if_pos ⟨trivial, trivial⟩, e1]
  simp only [Option.bind_some, bs_size, e2, Option.map_some]
  rw [if_pos (by omega)]
theorem br_run (T e : Nat) (acc : Str) (ep : Nat) : ∃ H', run_bstr T e [.one (.bl T e 0 0)] (bH acc ep) = some ([.one (Cell.str (bs acc))], H') := by
  have e1 : bldText (bH acc ep) 0 0 = some acc := by simp [bldText, entry?, bH, bs]
  refine ⟨[Entry.mk 1 [] 1 false, Entry.mk 1 [] ep false], ?_⟩
  simp only [run_bstr]
  rw [if_pos ⟨trivial, trivial⟩, e1]
  rfl
theorem c_impl_LockText (l : List MPick) (hl : bdL 1048576 (MPick.Bd 1048576) l) : out run_impl_LockText [.one (encL 5 MPick.enc l)] = some [.one (Cell.str (bs (m_LockText l)))] := by
  have hM := maxLen_eq
  by_cases h12 : l.length ≤ 12
  · have loop : ∀ (r : List MPick) (i n ep : Nat) (acc : Str), l.drop i = r → r.length < n → i + r.length = l.length → acc.length ≤ 220 * i → ∀ k m, ∃ H', impl_LockText_l0 k m n (encL 5 MPick.enc l) (encL 5 MPick.enc l) l.length i (bH acc ep) = some ([.one (Cell.str (bs (if lockGo (prevOf l i) r then acc ++ r.flatMap lockRow else [])))], H') := by
      intro r
      induction r with
      | nil =>
        intro i n ep acc hd hn hi ha k m
        obtain ⟨n, rfl⟩ : ∃ j, n = j + 1 := ⟨n - 1, by omega⟩
        have := drop_nil hd
        obtain ⟨H', e⟩ : ∃ H', run_strings_Builder_String _ (bH acc ep) = some ([.one (Cell.str (bs acc))], H') := br_run _ _ acc ep
        refine ⟨H', ?_⟩
        simp only [impl_LockText_l0]
        rw [decide_eq_false (by omega), cond_false]
        simp only [e, callS_canon, callL_canon, Option.map_some, Option.bind_some, shape_one, shape_agg, shape_nil, cellsAt_0, cellsAt_1, cellsAt_2, cellsAt_3, cells_one, cells_agg, cB_zero, cI_zero, cS_zero, cC_zero, cB_cons, cI_cons, cS_cons, cC_cons, cond_true, cond_false, List.length_cons, List.length_nil, beq_self_eq_true, Bool.and_true, Bool.true_and, lenC_encL, lenC_lst, deref_ref, emptyK_nil, bs_size, bs_toList, lockGo, if_true, List.flatMap_nil, List.append_nil]
      | cons p r ih =>
        intro i n ep acc hd hn hi ha k m
        obtain ⟨n, rfl⟩ : ∃ j, n = j + 1 := ⟨n - 1, by omega⟩
        obtain ⟨hlt, hg, hd'⟩ := drop_cons hd
        simp only [List.length_cons] at hn hi
        have hmem := List.mem_of_getElem? hg
        have hb := hl.2 p hmem
        have hnm : p.Name.length ≤ 1073741824 := Nat.le_trans hb.1 (by omega)
        have e2 : prevOf l (i + 1) = some p.Name := by simp [prevOf, hg]
        simp only [impl_LockText_l0]
        rw [decide_eq_true (by omega), cond_true]
        simp only [idxA_encL, hg, MPick.enc, Nat.zero_add, c_impl_NameOk p.Name hnm, c_impl_VerOk _ _ _ _ hb.2.2.2.2, c_impl_VerText _ _ _ _ hb.2.2.2.2, callS_canon, callL_canon, Option.map_some, Option.bind_some, shape_one, shape_agg, shape_nil, cellsAt_0, cellsAt_1, cellsAt_2, cellsAt_3, cells_one, cells_agg, cB_zero, cI_zero, cS_zero, cC_zero, cB_cons, cI_cons, cS_cons, cC_cons, cond_true, cond_false, List.length_cons, List.length_nil, beq_self_eq_true, Bool.and_true, Bool.true_and, lenC_encL, lenC_lst, deref_ref, emptyK_nil, bs_size, bs_toList, lockGo]
        rcases Bool.eq_false_or_eq_true (nameOk p.Name) with hname | hname
        rotate_left
        · exact ⟨bH acc ep, by simp only [hname]; rfl⟩
        · rcases Bool.eq_false_or_eq_true (verOkM p.V.A p.V.B p.V.C p.V.Pre) with hver | hver
          rotate_left
          · exact ⟨bH acc ep, by simp only [hname, hver]; rfl⟩
          ·
            have hr := lockRow_le hname
            have hr' := hr
            simp only [lockRow, List.length_append, List.length_singleton] at hr'
            have k2 : catS (bs p.Name) (bs [64]) = some (bs (p.Name ++ [64])) := catS_bs (by simp; omega)
            have k3 : catS (bs (p.Name ++ [64])) (bs (verTextM p.V.A p.V.B p.V.C p.V.Pre)) = some (bs (p.Name ++ [64] ++ verTextM p.V.A p.V.B p.V.C p.V.Pre)) := catS_bs (by simp; omega)
            have k4 : catS (bs (p.Name ++ [64] ++ verTextM p.V.A p.V.B p.V.C p.V.Pre)) (bs [10]) = some (bs (lockRow p)) := by
              rw [catS_bs (by simp; omega)]
              rfl
            have kw : run_strings_Builder_WriteString [.one (.bl _ _ 0 0), .one (Cell.str (bs (lockRow p)))] (bH acc ep) = some ([.one (Cell.int (lockRow p).length), .one (.sc .nilIface)], bH (acc ++ lockRow p) (ep + 1)) := bw_run _ _ acc (lockRow p) ep (by omega)
            obtain ⟨H', z⟩ := ih (i + 1) n (ep + 1) (acc ++ lockRow p) hd' (by omega) (by omega) (by rw [List.length_append]; omega) k m
            rw [e2] at z
            have hfl : acc ++ (p :: r).flatMap lockRow = acc ++ lockRow p ++ r.flatMap lockRow := by simp
            rw [hfl]
            cases i with
            | zero =>
              refine ⟨H', ?_⟩
              simp only [hname, hver, Bool.not_true, cond_false, prevOf, Bool.true_and]
              rw [decide_eq_false (by omega), cond_false]
              simp only [k2, k3, k4, kw, callS_canon, callL_canon, Option.map_some, Option.bind_some, shape_one, shape_agg, shape_nil, cellsAt_0, cellsAt_1, cellsAt_2, cellsAt_3, cells_one, cells_agg, cB_zero, cI_zero, cS_zero, cC_zero, cB_cons, cI_cons, cS_cons, cC_cons, cond_true, cond_false, List.length_cons, List.length_nil, beq_self_eq_true, Bool.and_true, Bool.true_and, lenC_encL, lenC_lst, deref_ref, emptyK_nil, bs_size, bs_toList]
              rw [wrap_succ (by omega)]
              exact z
            | succ j =>
              obtain ⟨q, hq⟩ : ∃ q, l[j]? = some q := ⟨l[j], List.getElem?_eq_getElem (by omega)⟩
              have hw : IntKind.i64.wrap (((j + 1 : Nat) : Int) - 1) = (j : Int) := by rw [wrap_small (by omega) (by omega)]; omega
              have hlt2 : (Op.bytesLess p.Name q.Name || p.Name == q.Name) = !lt q.Name p.Name := by rw [bl_eq, lt_not]
              simp only [hname, hver, Bool.not_true, cond_false, hw, idxA_encL, hq, MPick.enc, fldA_ref, Nat.zero_add, callS_canon, callL_canon, Option.map_some, Option.bind_some, shape_one, shape_agg, shape_nil, cellsAt_0, cellsAt_1, cellsAt_2, cellsAt_3, cells_one, cells_agg, cB_zero, cI_zero, cS_zero, cC_zero, cB_cons, cI_cons, cS_cons, cC_cons, cond_true, cond_false, List.length_cons, List.length_nil, beq_self_eq_true, Bool.and_true, Bool.true_and, lenC_encL, lenC_lst, deref_ref, emptyK_nil, bs_size, bs_toList, hlt2, prevOf, Option.map_some, Bool.true_and]
              rw [decide_eq_true (by omega), cond_true]
              rcases Bool.eq_false_or_eq_true (lt q.Name p.Name) with hlq | hlq
              rotate_left
              · exact ⟨bH acc ep, by simp only [hlq]; rfl⟩
              · refine ⟨H', ?_⟩
                simp only [hlq, Bool.not_true, cond_false, k2, k3, k4, kw, callS_canon, callL_canon, Option.map_some, Option.bind_some, shape_one, shape_agg, shape_nil, cellsAt_0, cellsAt_1, cellsAt_2, cellsAt_3, cells_one, cells_agg, cB_zero, cI_zero, cS_zero, cC_zero, cB_cons, cI_cons, cS_cons, cC_cons, cond_true, cond_false, List.length_cons, List.length_nil, beq_self_eq_true, Bool.and_true, Bool.true_and, lenC_encL, lenC_lst, deref_ref, emptyK_nil, bs_size, bs_toList, Bool.true_and]
                rw [wrap_succ (by omega)]
                exact z
    obtain ⟨H', z⟩ := loop l 0 (l.length + 1 + 1) 0 [] rfl (by omega) (by omega) (by simp) (l.length + 1 + 1) (l.length + 1 + 1)
    refine out_of (H := H') (run_impl_LockText_of (l.length + 1) ?_)
    simp only [impl_LockText, callS_canon, callL_canon, Option.map_some, Option.bind_some, shape_one, shape_agg, shape_nil, cellsAt_0, cellsAt_1, cellsAt_2, cellsAt_3, cells_one, cells_agg, cB_zero, cI_zero, cS_zero, cC_zero, cB_cons, cI_cons, cS_cons, cC_cons, cond_true, cond_false, List.length_cons, List.length_nil, beq_self_eq_true, Bool.and_true, Bool.true_and, lenC_encL, lenC_lst, deref_ref, emptyK_nil, bs_size, bs_toList]
    rw [decide_eq_false (by omega), cond_false]
    have e : m_LockText l = if lockGo none l then [] ++ l.flatMap lockRow else [] := by
      rw [m_LockText, decide_eq_true h12, Bool.and_true, List.nil_append]
    rw [e]
    exact z
  · refine out_of (H := []) (run_impl_LockText_of 0 ?_)
    simp only [impl_LockText, callS_canon, callL_canon, Option.map_some, Option.bind_some, shape_one, shape_agg, shape_nil, cellsAt_0, cellsAt_1, cellsAt_2, cellsAt_3, cells_one, cells_agg, cB_zero, cI_zero, cS_zero, cC_zero, cB_cons, cI_cons, cS_cons, cC_cons, cond_true, cond_false, List.length_cons, List.length_nil, beq_self_eq_true, Bool.and_true, Bool.true_and, lenC_encL, lenC_lst, deref_ref, emptyK_nil, bs_size, bs_toList]
    rw [decide_eq_true (by omega), cond_true, m_LockText, decide_eq_false h12, Bool.and_false]
    rfl
theorem cut_eq {c : UInt8} : ∀ {s : Str}, c ∈ s → s = ahead c s ++ c :: behind c s
  | [], h => by simp at h
  | x :: s, h => by
    by_cases e : x = c
    · subst e
      simp [ahead, behind]
    · have h' : c ∈ s := by
        rcases List.mem_cons.1 h with h | h
        · exact absurd h.symm e
        · exact h
      have := cut_eq h'
      simp only [ahead, behind] at this ⊢
      have hx : (x != c) = true := by simp [e]
      rw [List.takeWhile_cons, List.dropWhile_cons, hx]
      simpa using this
theorem join_split (c : UInt8) : ∀ (n : Nat) (s : Str), s.length ≤ n → Lib.join (split c s) [c] = s := by
  intro n
  induction n with
  | zero =>
    intro s hs
    obtain rfl : s = [] := List.eq_nil_of_length_eq_zero (by omega)
    rw [split_not (by simp), Lib.join_one]
  | succ n ih =>
    intro s hs
    by_cases h : c ∈ s
    · have hlt : (behind c s).length ≤ n := by
        have := congrArg List.length (cut_eq h)
        simp only [List.length_append, List.length_cons] at this
        omega
      have ihb := ih (behind c s) hlt
      rw [split_cut h, Lib.join_cons]
      cases hsp : split c (behind c s) with
      | nil => exact absurd hsp (splitGo_ne _ _)
      | cons y r =>
        rw [hsp, Lib.join_cons] at ihb
        conv => rhs; rw [cut_eq h]
        rw [← ihb]
        simp [Lib.joinTail]
    · rw [split_not h, Lib.join_one]
def preOf (s : Str) : List Str := if 45 ∈ s then split 46 (behind 45 s) else []
def parseVer (s : Str) : MVer × Bool :=
  match split 46 (ahead 45 s) with
  | [x, y, z] => match parseNum x 9999, parseNum y 9999, parseNum z 9999 with
    | some a, some b, some c => if verOkM a b c (preOf s) then (⟨a, b, c, preOf s⟩, true) else (⟨0, 0, 0, []⟩, false)
    | _, _, _ => (⟨0, 0, 0, []⟩, false)
  | _ => (⟨0, 0, 0, []⟩, false)
/-- The text of what was read is what was read. -/
theorem text_parse {s x y z : Str} {a b c : Nat} (h : split 46 (ahead 45 s) = [x, y, z]) (ha : parseNum x 9999 = some a) (hb : parseNum y 9999 = some b) (hc : parseNum z 9999 = some c) : (verTextM a b c (preOf s) == s) = verOkM a b c (preOf s) := by
  have hu := join_split 46 _ (ahead 45 s) (Nat.le_refl _)
  rw [h] at hu
  have hu2 : ahead 45 s = numT a ++ [46] ++ numT b ++ [46] ++ numT c := by
    rw [← hu, Lib.join_cons, (parseNum_sound ha).1, (parseNum_sound hb).1, (parseNum_sound hc).1]
    simp [Lib.joinTail]
  cases hok : verOkM a b c (preOf s) with
  | false =>
    have ht : verTextM a b c (preOf s) = [] := by rw [verTextM, hok]; rfl
    rw [ht]
    cases s with
    | nil => simp [ahead] at hu2
    | cons q s => rfl
  | true =>
    have ht : verTextM a b c (preOf s) = s := by
      rw [verTextM, hok]
      simp only [if_true, Int.toNat_natCast]
      rw [← hu2]
      by_cases hd : (45 : UInt8) ∈ s
      · have hp : preOf s = split 46 (behind 45 s) := if_pos hd
        have hne : (preOf s).length ≠ 0 := by
          rw [hp]
          intro h0
          exact splitGo_ne _ _ (List.eq_nil_of_length_eq_zero h0)
        rw [if_neg hne, hp, join_split 46 _ _ (Nat.le_refl _)]
        exact (cut_eq hd).symm
      · have hp : preOf s = [] := if_neg hd
        rw [hp, if_pos (by simp), List.append_nil, ahead_all hd]
    rw [ht]
    simp
theorem preOf_bd {s : Str} (hs : s.length ≤ 1048576) : bdL 1048576 (bdS 1048576) (preOf s) := by
  unfold preOf
  split
  · rename_i hm
    have h := splitGo_length 46 (behind 45 s) []
    have hb := behind_le 45 s
    have hlt : (behind 45 s).length + 1 ≤ s.length := by
      have := congrArg List.length (cut_eq hm)
      simp only [List.length_append, List.length_cons] at this
      omega
    refine ⟨by have := h.1; unfold split; omega, fun x hx => ?_⟩
    have := h.2 x hx
    simp only [List.length_nil, Nat.zero_add] at this
    exact Nat.le_trans this (by omega)
  · exact ⟨by simp, by simp⟩
theorem parseVer_bd {s : Str} (hs : s.length ≤ 1048576) : (parseVer s).1.Bd 1048576 := by
  have hz : (⟨0, 0, 0, []⟩ : MVer).Bd 1048576 := ⟨by simp [bdI], by simp [bdI], by simp [bdI], by simp, by simp⟩
  unfold parseVer
  split
  · split
    · rename_i a b c ha hb hc
      split
      · have h1 := (parseNum_sound ha).2.1
        have h2 := (parseNum_sound hb).2.1
        have h3 := (parseNum_sound hc).2.1
        exact ⟨by simp only [bdI]; omega, by simp only [bdI]; omega, by simp only [bdI]; omega, preOf_bd hs⟩
      · exact hz
    · exact hz
  · exact hz
theorem c_spec_ParseVer (s : Str) (hs : s.length ≤ 1048576) : outL run_spec_ParseVer [.one (Cell.str (bs s))] = some [.agg [Cell.int (parseVer s).1.A, Cell.int (parseVer s).1.B, Cell.int (parseVer s).1.C, strsC (parseVer s).1.Pre], .one (Cell.bool (parseVer s).2)] := by
  have hM := maxLen_eq
  have hal := ahead_le 45 s
  have hbl := behind_le 45 s
  have hget : ∀ i, i < (ahead 45 s).length → ∃ b : UInt8, s[i]? = some b ∧ b ≠ 45 := fun i hi => by
    have hna := ahead_not (c := 45) s
    refine ⟨(ahead 45 s)[i], ?_, fun e => by have hm := List.getElem_mem hi; rw [e] at hm; exact hna hm⟩
    have h1 : (ahead 45 s)[i]? = some (ahead 45 s)[i] := List.getElem?_eq_getElem hi
    rw [← h1, ← take_ahead 45 s, List.getElem?_take, if_pos hi]
  -- the way to the dash
  have loop : ∀ (d i n : Nat), i + d = (ahead 45 s).length → ∀ k m, spec_ParseVer_l0 k m (n + d) (bs s) i = spec_ParseVer_l0 k m n (bs s) (ahead 45 s).length := by
    intro d
    induction d with
    | zero => intro i n hi k m; obtain rfl : i = (ahead 45 s).length := by omega
              rfl
    | succ d ih =>
      intro i n hi k m
      obtain ⟨b, hb, hne⟩ := hget i (by omega)
      have h45' : ((b.toNat : Int) != 45) = !(b == 45) := u8_ne b 45 (by omega)
      have h45 : ((b.toNat : Int) != 45) = true := by rw [h45']; simp [hne]
      show spec_ParseVer_l0 k m ((n + d) + 1) (bs s) i = _
      simp only [spec_ParseVer_l0, bytS_bs, hb, bs_size, Option.map_some, Option.bind_some, h45, cond_true]
      rw [decide_eq_true (by have := (List.getElem?_eq_some_iff.1 hb).1; omega), cond_true, wrap_succ (by omega)]
      exact ih (i + 1) n (by omega) k m
  have hsplit : ∀ t : Str, t.length ≤ 1073741824 → outL run_spec_Split [.one (Cell.str (bs t)), .one (.sc (.int .u8 46))] = some [.one (strsC (split 46 t))] := fun t ht => c_spec_Split t 46 ht
  have hnum : ∀ x : Str, x.length ≤ 1073741824 → out run_spec_ParseNum [.one (Cell.str (bs x)), .one (Cell.int 9999)] = some (numV (parseNum x 9999)) := fun x hx => c_spec_ParseNum x 9999 hx (by omega)
  have hlen : ∀ x ∈ split 46 (ahead 45 s), x.length ≤ 1073741824 := fun x hx => by
    have := (splitGo_length 46 (ahead 45 s) []).2 x hx
    simp only [List.length_nil, Nat.zero_add] at this
    omega
  have hz : mapO (reifyAV false []) [.agg [Cell.int 0, Cell.int 0, Cell.int 0, .lst true 1 []], .one (Cell.bool false)] = some [.agg [Cell.int 0, Cell.int 0, Cell.int 0, strsC []], .one (Cell.bool false)] := rfl
  have h46 : subS (bs s) 0 ((ahead 45 s).length : Int) = some (bs (ahead 45 s)) := by
    have := subS_bs s 0 (ahead 45 s).length (Nat.zero_le _) hal
    rw [take_ahead, List.drop_zero] at this
    simpa using this
  by_cases hd : (45 : UInt8) ∈ s
  · have hlt := ahead_lt hd
    have hc : s[(ahead 45 s).length]? = some 45 := by
      have h1 := cut_eq hd
      generalize ahead 45 s = u at h1 ⊢
      generalize behind 45 s = v at h1
      rw [h1]
      simp
    have hsub : subS (bs s) (((ahead 45 s).length + 1 : Nat) : Int) (s.length : Int) = some (bs (behind 45 s)) := by
      have := subS_bs s ((ahead 45 s).length + 1) s.length (by omega) (Nat.le_refl _)
      rw [List.take_of_length_le (Nat.le_refl _), drop_behind] at this
      exact this
    have hp : preOf s = split 46 (behind 45 s) := if_pos hd
    have hv := fun a b c => c_spec_VerOk a b c (preOf s) (preOf_bd hs)
    rw [hp] at hv
    have core : ∀ k m n, ∃ xs, spec_ParseVer_l0 k m (n + 1) (bs s) (ahead 45 s).length = some (xs, []) ∧ mapO (reifyAV false []) xs = some [.agg [Cell.int (parseVer s).1.A, Cell.int (parseVer s).1.B, Cell.int (parseVer s).1.C, strsC (parseVer s).1.Pre], .one (Cell.bool (parseVer s).2)] := by
      intro k m n
      simp only [spec_ParseVer_l0, bytS_bs, hc, bs_size, Option.map_some, Option.bind_some, show (((45 : UInt8).toNat : Int) != 45) = false from rfl, cond_false]
      rw [decide_eq_true (by omega), cond_true, wrap_succ (by omega)]
      simp only [hsub, hsplit _ (by omega : (behind 45 s).length ≤ 1073741824), h46, hsplit _ (by omega : (ahead 45 s).length ≤ 1073741824), callS_canon, callL_canon, Option.map_some, Option.bind_some, shape_one, shape_agg, shape_nil, cellsAt_0, cellsAt_1, cellsAt_2, cellsAt_3, cells_one, cells_agg, cB_zero, cI_zero, cS_zero, cC_zero, cB_cons, cI_cons, cS_cons, cC_cons, cond_true, cond_false, List.length_cons, List.length_nil, beq_self_eq_true, Bool.and_true, Bool.true_and, lenC_encL, lenC_lst, deref_ref, emptyK_nil, bs_size, bs_toList]
      unfold parseVer
      rw [hp]
      split
      · rename_i x y z hsp
        have lx := hlen x (by rw [hsp]; simp)
        have ly := hlen y (by rw [hsp]; simp)
        have lz := hlen z (by rw [hsp]; simp)
        have i0 : idxA 1 (encL 1 eStr [x, y, z]) 0 = some (.ref (eStr x) 0) := rfl
        have i1 : idxA 1 (encL 1 eStr [x, y, z]) 1 = some (.ref (eStr y) 0) := rfl
        have i2 : idxA 1 (encL 1 eStr [x, y, z]) 2 = some (.ref (eStr z) 0) := rfl
        simp only [hsp, List.length_cons, List.length_nil, i0, i1, i2, eStr, hnum x lx, hnum y ly, hnum z lz, callS_canon, callL_canon, Option.map_some, Option.bind_some, shape_one, shape_agg, shape_nil, cellsAt_0, cellsAt_1, cellsAt_2, cellsAt_3, cells_one, cells_agg, cB_zero, cI_zero, cS_zero, cC_zero, cB_cons, cI_cons, cS_cons, cC_cons, cond_true, cond_false, List.length_cons, List.length_nil, beq_self_eq_true, Bool.and_true, Bool.true_and, lenC_encL, lenC_lst, deref_ref, emptyK_nil, bs_size, bs_toList]
        rw [show (((0 + 1 + 1 + 1 : Nat) : Int) != 3) = false from rfl, cond_false]
        cases hx : parseNum x 9999 with
        | none => cases hy : parseNum y 9999 <;> cases hzz : parseNum z 9999 <;> exact ⟨_, rfl, hz⟩
        | some a => cases hy : parseNum y 9999 with
          | none => cases hzz : parseNum z 9999 <;> exact ⟨_, rfl, hz⟩
          | some b => cases hzz : parseNum z 9999 with
            | none => exact ⟨_, rfl, hz⟩
            | some c =>
              simp only [numV, hv, callS_canon, callL_canon, Option.map_some, Option.bind_some, shape_one, shape_agg, shape_nil, cellsAt_0, cellsAt_1, cellsAt_2, cellsAt_3, cells_one, cells_agg, cB_zero, cI_zero, cS_zero, cC_zero, cB_cons, cI_cons, cS_cons, cC_cons, cond_true, cond_false, List.length_cons, List.length_nil, beq_self_eq_true, Bool.and_true, Bool.true_and, lenC_encL, lenC_lst, deref_ref, emptyK_nil, bs_size, bs_toList, Bool.not_true]
              cases hok : verOkM a b c (split 46 (behind 45 s)) with
              | false => exact ⟨_, rfl, hz⟩
              | true => exact ⟨_, rfl, mapO_canon [.agg [Cell.int a, Cell.int b, Cell.int c, strsC (split 46 (behind 45 s))], .one (Cell.bool true)] _ _⟩
      · rename_i hno
        refine ⟨_, ?_, hz⟩
        rw [show (((split 46 (ahead 45 s)).length : Int) != 3) = true by
          rw [bne_iff_ne]
          intro h3
          have h3' : (split 46 (ahead 45 s)).length = 3 := by omega
          match h : split 46 (ahead 45 s), h3' with
          | [x, y, z], _ => exact hno x y z h, cond_true]
    obtain ⟨xs, z1, z2⟩ := core ((ahead 45 s).length + 1 + 1) ((ahead 45 s).length + 1 + 1) 1
    refine outL_of (H := []) (run_spec_ParseVer_of ((ahead 45 s).length + 1) ?_) z2
    have := loop (ahead 45 s).length 0 2 (by omega) ((ahead 45 s).length + 1 + 1) ((ahead 45 s).length + 1 + 1)
    rw [show 2 + (ahead 45 s).length = (ahead 45 s).length + 1 + 1 by omega] at this
    simp only [spec_ParseVer]
    rw [show (0 : Int) = ((0 : Nat) : Int) from rfl, this]
    exact z1
  · have hall := ahead_all hd
    have hp : preOf s = [] := if_neg hd
    have hv := fun a b c => c_spec_VerOk a b c [] ⟨by simp, by simp⟩
    have hv' : ∀ a b c, callS run_spec_VerOk [.agg [Cell.int a, Cell.int b, Cell.int c, .lst true 1 []]] [] = some [.one (Cell.bool (verOkM a b c []))] := fun a b c => (callS_of (show mapO (reifyAV false []) [.agg [Cell.int a, Cell.int b, Cell.int c, .lst true 1 []]] = some [.agg [Cell.int a, Cell.int b, Cell.int c, strsC []]] from rfl)).trans (hv a b c)
    have core : ∀ k m n, ∃ xs, spec_ParseVer_l0 k m (n + 1) (bs s) (ahead 45 s).length = some (xs, []) ∧ mapO (reifyAV false []) xs = some [.agg [Cell.int (parseVer s).1.A, Cell.int (parseVer s).1.B, Cell.int (parseVer s).1.C, strsC (parseVer s).1.Pre], .one (Cell.bool (parseVer s).2)] := by
      intro k m n
      simp only [spec_ParseVer_l0, bs_size]
      rw [decide_eq_false (by rw [hall]; omega), cond_false, cond_false]
      simp only [h46, hsplit _ (by omega : (ahead 45 s).length ≤ 1073741824), callS_canon, callL_canon, Option.map_some, Option.bind_some, shape_one, shape_agg, shape_nil, cellsAt_0, cellsAt_1, cellsAt_2, cellsAt_3, cells_one, cells_agg, cB_zero, cI_zero, cS_zero, cC_zero, cB_cons, cI_cons, cS_cons, cC_cons, cond_true, cond_false, List.length_cons, List.length_nil, beq_self_eq_true, Bool.and_true, Bool.true_and, lenC_encL, lenC_lst, deref_ref, emptyK_nil, bs_size, bs_toList]
      unfold parseVer
      rw [hp]
      split
      · rename_i x y z hsp
        have lx := hlen x (by rw [hsp]; simp)
        have ly := hlen y (by rw [hsp]; simp)
        have lz := hlen z (by rw [hsp]; simp)
        have i0 : idxA 1 (encL 1 eStr [x, y, z]) 0 = some (.ref (eStr x) 0) := rfl
        have i1 : idxA 1 (encL 1 eStr [x, y, z]) 1 = some (.ref (eStr y) 0) := rfl
        have i2 : idxA 1 (encL 1 eStr [x, y, z]) 2 = some (.ref (eStr z) 0) := rfl
        simp only [hsp, List.length_cons, List.length_nil, i0, i1, i2, eStr, hnum x lx, hnum y ly, hnum z lz, callS_canon, callL_canon, Option.map_some, Option.bind_some, shape_one, shape_agg, shape_nil, cellsAt_0, cellsAt_1, cellsAt_2, cellsAt_3, cells_one, cells_agg, cB_zero, cI_zero, cS_zero, cC_zero, cB_cons, cI_cons, cS_cons, cC_cons, cond_true, cond_false, List.length_cons, List.length_nil, beq_self_eq_true, Bool.and_true, Bool.true_and, lenC_encL, lenC_lst, deref_ref, emptyK_nil, bs_size, bs_toList]
        rw [show (((0 + 1 + 1 + 1 : Nat) : Int) != 3) = false from rfl, cond_false]
        cases hx : parseNum x 9999 with
        | none => cases hy : parseNum y 9999 <;> cases hzz : parseNum z 9999 <;> exact ⟨_, rfl, hz⟩
        | some a => cases hy : parseNum y 9999 with
          | none => cases hzz : parseNum z 9999 <;> exact ⟨_, rfl, hz⟩
          | some b => cases hzz : parseNum z 9999 with
            | none => exact ⟨_, rfl, hz⟩
            | some c =>
              simp only [numV, hv', callS_canon, callL_canon, Option.map_some, Option.bind_some, shape_one, shape_agg, shape_nil, cellsAt_0, cellsAt_1, cellsAt_2, cellsAt_3, cells_one, cells_agg, cB_zero, cI_zero, cS_zero, cC_zero, cB_cons, cI_cons, cS_cons, cC_cons, cond_true, cond_false, List.length_cons, List.length_nil, beq_self_eq_true, Bool.and_true, Bool.true_and, lenC_encL, lenC_lst, deref_ref, emptyK_nil, bs_size, bs_toList, Bool.not_true]
              cases hok : verOkM a b c [] with
              | false => exact ⟨_, rfl, hz⟩
              | true => exact ⟨_, rfl, rfl⟩
      · rename_i hno
        refine ⟨_, ?_, hz⟩
        rw [show (((split 46 (ahead 45 s)).length : Int) != 3) = true by
          rw [bne_iff_ne]
          intro h3
          have h3' : (split 46 (ahead 45 s)).length = 3 := by omega
          match h : split 46 (ahead 45 s), h3' with
          | [x, y, z], _ => exact hno x y z h, cond_true]
    obtain ⟨xs, z1, z2⟩ := core ((ahead 45 s).length + 1 + 1) ((ahead 45 s).length + 1 + 1) 1
    refine outL_of (H := []) (run_spec_ParseVer_of ((ahead 45 s).length + 1) ?_) z2
    have := loop (ahead 45 s).length 0 2 (by omega) ((ahead 45 s).length + 1 + 1) ((ahead 45 s).length + 1 + 1)
    rw [show 2 + (ahead 45 s).length = (ahead 45 s).length + 1 + 1 by omega] at this
    simp only [spec_ParseVer]
    rw [show (0 : Int) = ((0 : Nat) : Int) from rfl, this]
    exact z1
theorem cutV_eq (c : UInt8) (s : Str) : cutV c s = [.one (Cell.str (bs (ahead c s))), .one (Cell.str (bs (behind c s))), .one (Cell.bool (decide (c ∈ s)))] := by
  unfold cutV
  split
  · rename_i h
    rw [decide_eq_true h]
  · rename_i h
    rw [decide_eq_false h, ahead_all h, behind_none h]
theorem zero_ver (H : List Entry) : Sp (Rep H true true 2) [] [Cell.int 0, Cell.int 0, Cell.int 0, .lst true 1 []] (⟨0, 0, 0, []⟩ : MVer).tr := by
  unfold MVer.tr
  exact Sp.cons (i := []) (leaf_reps _) (Sp.cons (i := []) (leaf_reps _) (Sp.cons (i := []) (leaf_reps _) (Sp.cons (i := []) (.inl ⟨rfl, rfl, true, rfl⟩) .nil)))
def verH (A : List Entry) (row : List Cell) : List Entry := A ++ [Entry.mk 4 [row] 0 false]
theorem verH_0 (A : List Entry) (p q r t v : Cell) : hStore (verH A [p, q, r, t]) (.ptr A.length 4 0 0 0) [v] = some (verH A [v, q, r, t]) := by simp [verH, hStore, entry?, splice, List.set_append]
theorem verH_1 (A : List Entry) (p q r t v : Cell) : hStore (verH A [p, q, r, t]) (.ptr A.length 4 0 1 0) [v] = some (verH A [p, v, r, t]) := by simp [verH, hStore, entry?, splice, List.set_append]
theorem verH_2 (A : List Entry) (p q r t v : Cell) : hStore (verH A [p, q, r, t]) (.ptr A.length 4 0 2 0) [v] = some (verH A [p, q, v, t]) := by simp [verH, hStore, entry?, splice, List.set_append]
theorem verH_3 (A E2 : List Entry) (p q r t v : Cell) : hStore (verH A [p, q, r, t] ++ E2) (.ptr A.length 4 0 3 0) [v] = some (verH A [p, q, r, v] ++ E2) := by simp [verH, hStore, entry?, splice, List.set_append]
theorem verH_d (A E2 : List Entry) (row : List Cell) : deref (verH A row ++ E2) (.ptr A.length 4 0 0 0) = some (row, 0) := by simp [verH, deref, entry?]
theorem verH_d0 (A : List Entry) (row : List Cell) : deref (verH A row) (.ptr A.length 4 0 0 0) = some (row, 0) := by simp [verH, deref, entry?]
theorem reify_zero (H : List Entry) (a b c : Int) : mapO (reifyAV false H) [.agg [Cell.int a, Cell.int b, Cell.int c, .lst true 1 []]] = some [.agg [Cell.int a, Cell.int b, Cell.int c, strsC []]] := rfl
theorem f_impl_ParseVer (s : Str) (hs : s.length ≤ 1048576) : Fresh run_impl_ParseVer true 2 [.one (Cell.str (bs s))] [.agg (parseVer s).1.tr, .one (.leaf (.bool (parseVer s).2))] := by
  have hM := maxLen_eq
  have hal := ahead_le 45 s
  have hbl := behind_le 45 s
  have hcut : out run_strings_Cut [.one (Cell.str (bs s)), .one (Cell.str (bs [45]))] = some [.one (Cell.str (bs (ahead 45 s))), .one (Cell.str (bs (behind 45 s))), .one (Cell.bool (decide ((45 : UInt8) ∈ s)))] := by
    rw [c_strings_Cut s 45 (by omega), cutV_eq]
  obtain ⟨c7, E, is, e1, r1, w1, _⟩ := freshO (f_strings_Split (ahead 45 s) 46 (by omega)) ([] : List Entry) (mapO_canon [.one (Cell.str (bs (ahead 45 s))), .one (Cell.str (bs [46]))] _ _)
  generalize hA : ([] : List Entry) ++ E = A at e1 r1
  have hl := ListM.of (n := 2) r1
  have fz : ∀ H, run_impl_ParseVer [.one (Cell.str (bs s))] [] = some ([.agg [Cell.int 0, Cell.int 0, Cell.int 0, .lst true 1 []], .one (Cell.bool false)], H) → parseVer s = (⟨0, 0, 0, []⟩, false) → Fresh run_impl_ParseVer true 2 [.one (Cell.str (bs s))] [.agg (parseVer s).1.tr, .one (.leaf (.bool (parseVer s).2))] := fun H h1 h2 => by
    rw [h2]
    exact Fresh.agg1 (n := 1) h1 (zero_ver H) (by simp)
  by_cases h3 : (split 46 (ahead 45 s)).length = 3
  rotate_left
  · refine fz A (run_impl_ParseVer_of 0 ?_) ?_
    · simp only [impl_ParseVer, hcut, e1, hl.len, callS_canon, callL_canon, Option.map_some, Option.bind_some, shape_one, shape_agg, shape_nil, cellsAt_0, cellsAt_1, cellsAt_2, cellsAt_3, cells_one, cells_agg, cB_zero, cI_zero, cS_zero, cC_zero, cB_cons, cI_cons, cS_cons, cC_cons, cond_true, cond_false, List.length_cons, List.length_nil, beq_self_eq_true, Bool.and_true, Bool.true_and, lenC_encL, lenC_lst, deref_ref, emptyK_nil, bs_size, bs_toList]
      rw [show (((split 46 (ahead 45 s)).length : Int) != 3) = true by rw [bne_iff_ne]; omega, cond_true]
    · unfold parseVer
      split
      · rename_i x y z hsp
        rw [hsp] at h3
        simp at h3
      · rfl
  · obtain ⟨x, y, z, hsp⟩ : ∃ x y z, split 46 (ahead 45 s) = [x, y, z] := by
      match h : split 46 (ahead 45 s), h3 with
      | [x, y, z], _ => exact ⟨x, y, z, rfl⟩
    rw [hsp] at hl
    have hlen : ∀ x ∈ split 46 (ahead 45 s), x.length ≤ 1073741824 := fun x hx => by
      have := (splitGo_length 46 (ahead 45 s) []).2 x hx
      simp only [List.length_nil, Nat.zero_add] at this
      omega
    have lx := hlen x (by rw [hsp]; simp)
    have ly := hlen y (by rw [hsp]; simp)
    have lz := hlen z (by rw [hsp]; simp)
    have hnum : ∀ x : Str, x.length ≤ 1073741824 → out run_impl_ParseNum [.one (Cell.str (bs x)), .one (Cell.int 9999)] = some (numV (parseNum x 9999)) := fun x hx => c_impl_ParseNum x 9999 hx (by omega)
    have s0 := verH_0 A
    have s1 := verH_1 A
    have s2 := verH_2 A
    have s3 := verH_3 A
    have dv := verH_d A
    have dv0 := verH_d0 A
    have hf : ∀ row, ListM (verH A row) is c7 [x, y, z] := fun row => hl.frame fun j hj => List.getElem?_append_left (r1.lt j hj)
    have at0 : ∀ row, ∃ a rw off, idxA 1 c7 0 = some a ∧ deref (verH A row) a = some (rw, off) ∧ cS rw off = some (bs x) := fun row => by simpa using (hf row).at (i := 0) (s := x) rfl
    have at1 : ∀ row, ∃ a rw off, idxA 1 c7 1 = some a ∧ deref (verH A row) a = some (rw, off) ∧ cS rw off = some (bs y) := fun row => by simpa using (hf row).at (i := 1) (s := y) rfl
    have at2 : ∀ row, ∃ a rw off, idxA 1 c7 2 = some a ∧ deref (verH A row) a = some (rw, off) ∧ cS rw off = some (bs z) := fun row => by simpa using (hf row).at (i := 2) (s := z) rfl
    have k1 : IntKind.i64.wrap ((0 : Int) + 1) = 1 := wrap_small (by omega) (by omega)
    have k2 : IntKind.i64.wrap ((1 : Int) + 1) = 2 := wrap_small (by omega) (by omega)
    have k3 : IntKind.i64.wrap ((2 : Int) + 1) = 3 := wrap_small (by omega) (by omega)
    -- behind the numbers
    have fin : ∀ (a b c : Nat), parseNum x 9999 = some a → parseNum y 9999 = some b → parseNum z 9999 = some c → ∀ n k m, ∃ cs H ids, impl_ParseVer_l0 k m (n + 1) (bs s) (bs (behind 45 s)) (decide ((45 : UInt8) ∈ s)) c7 (.ptr A.length 4 0 0 0) (.ptr A.length 4 0 0 0) (.ptr A.length 4 0 1 0) (.ptr A.length 4 0 2 0) 3 (verH A [Cell.int a, Cell.int b, Cell.int c, .lst true 1 []]) =
        some ([.agg cs, .one (Cell.bool (parseVer s).2)], H) ∧ Sp (Rep H true true 2) ids cs (parseVer s).1.tr ∧ ids.Nodup := by
      intro a b c ha hb hc n k m
      have ht := text_parse hsp ha hb hc
      have pv : parseVer s = if verOkM a b c (preOf s) then (⟨a, b, c, preOf s⟩, true) else (⟨0, 0, 0, []⟩, false) := by
        unfold parseVer
        rw [hsp]
        simp only [ha, hb, hc]
      have hvt := c_impl_VerText a b c (preOf s) (preOf_bd hs)
      rw [pv]
      rw [impl_ParseVer_l0, show decide ((3 : Int) < 3) = false from rfl, cond_false]
      by_cases hd : (45 : UInt8) ∈ s
      · have hp : preOf s = split 46 (behind 45 s) := if_pos hd
        obtain ⟨c29, E2, is2, e2, r2, w2, _⟩ := freshO (f_strings_Split (behind 45 s) 46 (by omega)) (verH A [Cell.int a, Cell.int b, Cell.int c, .lst true 1 []]) (mapO_canon [.one (Cell.str (bs (behind 45 s))), .one (Cell.str (bs [46]))] _ _)
        rw [← hp] at r2
        have r3 : Rep (verH A [Cell.int a, Cell.int b, Cell.int c, c29] ++ E2) true true 2 is2 c29 (trL 1 trStr (preOf s)) := r2.frame fun j hj => by
          have h5 := w2.lo j hj
          rw [List.getElem?_append_right (by simp [verH] at h5 ⊢; omega), List.getElem?_append_right h5]
          simp [verH]
        have hsp3 : Sp (Rep (verH A [Cell.int a, Cell.int b, Cell.int c, c29] ++ E2) true true 2) (is2 ++ []) [Cell.int a, Cell.int b, Cell.int c, c29] (⟨a, b, c, preOf s⟩ : MVer).tr := by
          unfold MVer.tr
          exact Sp.cons (i := []) (leaf_reps _) (Sp.cons (i := []) (leaf_reps _) (Sp.cons (i := []) (leaf_reps _) (Sp.cons r3 .nil)))
        have q1 : callS run_impl_VerText [.agg [Cell.int a, Cell.int b, Cell.int c, c29]] (verH A [Cell.int a, Cell.int b, Cell.int c, c29] ++ E2) = some [.one (Cell.str (bs (verTextM a b c (preOf s))))] := by
          have := mapO_c (reify_agg hsp3 (by omega)) (mapO_nil' (reifyAV false (verH A [Cell.int a, Cell.int b, Cell.int c, c29] ++ E2)))
          simp only [MVer.tr, List.map_cons, List.map_nil, leaf_cell, trL_cell] at this
          rw [callS_of this]
          exact hvt
        rw [decide_eq_true hd, cond_true]
        simp only [e2, fldA_ptr, Nat.zero_add, s3, dv, q1, ht, callS_canon, callL_canon, Option.map_some, Option.bind_some, shape_one, shape_agg, shape_nil, cellsAt_0, cellsAt_1, cellsAt_2, cellsAt_3, cells_one, cells_agg, cB_zero, cI_zero, cS_zero, cC_zero, cB_cons, cI_cons, cS_cons, cC_cons, cond_true, cond_false, List.length_cons, List.length_nil, beq_self_eq_true, Bool.and_true, Bool.true_and, lenC_encL, lenC_lst, deref_ref, emptyK_nil, bs_size, bs_toList]
        cases hok : verOkM a b c (preOf s) with
        | false => exact ⟨_, _, [], rfl, zero_ver _, by simp⟩
        | true => exact ⟨_, _, is2 ++ [], rfl, hsp3, by simpa using w2.nd⟩
      · have hp : preOf s = [] := if_neg hd
        rw [decide_eq_false hd, cond_false]
        have q1 : callS run_impl_VerText [.agg [Cell.int a, Cell.int b, Cell.int c, .lst true 1 []]] (verH A [Cell.int a, Cell.int b, Cell.int c, .lst true 1 []]) = some [.one (Cell.str (bs (verTextM a b c (preOf s))))] := by
          rw [hp] at hvt ⊢
          exact (callS_of (reify_zero _ _ _ _)).trans hvt
        simp only [dv0, q1, ht, callS_canon, callL_canon, Option.map_some, Option.bind_some, shape_one, shape_agg, shape_nil, cellsAt_0, cellsAt_1, cellsAt_2, cellsAt_3, cells_one, cells_agg, cB_zero, cI_zero, cS_zero, cC_zero, cB_cons, cI_cons, cS_cons, cC_cons, cond_true, cond_false, List.length_cons, List.length_nil, beq_self_eq_true, Bool.and_true, Bool.true_and, lenC_encL, lenC_lst, deref_ref, emptyK_nil, bs_size, bs_toList]
        cases hok : verOkM a b c (preOf s) with
        | false => exact ⟨_, _, [], rfl, zero_ver _, by simp⟩
        | true =>
          refine ⟨_, _, [], rfl, ?_, by simp⟩
          rw [hp]
          unfold MVer.tr
          exact Sp.cons (i := []) (leaf_reps _) (Sp.cons (i := []) (leaf_reps _) (Sp.cons (i := []) (leaf_reps _) (Sp.cons (i := []) (.inl ⟨rfl, rfl, true, rfl⟩) .nil)))
    have go : ∀ n k m, n = 4 → ∃ cs H ids, impl_ParseVer_l0 k m n (bs s) (bs (behind 45 s)) (decide ((45 : UInt8) ∈ s)) c7 (.ptr A.length 4 0 0 0) (.ptr A.length 4 0 0 0) (.ptr A.length 4 0 1 0) (.ptr A.length 4 0 2 0) 0 (verH A [Cell.int 0, Cell.int 0, Cell.int 0, .lst true 1 []]) =
        some ([.agg cs, .one (Cell.bool (parseVer s).2)], H) ∧ Sp (Rep H true true 2) ids cs (parseVer s).1.tr ∧ ids.Nodup := by
      intro n k m hn
      obtain ⟨n, rfl⟩ : ∃ q, n = q + 1 + 1 + 1 + 1 := ⟨0, hn⟩
      have bad : parseNum x 9999 = none ∨ parseNum y 9999 = none ∨ parseNum z 9999 = none → parseVer s = (⟨0, 0, 0, []⟩, false) := fun h => by
        unfold parseVer
        rw [hsp]
        rcases h with h | h | h
        · simp only [h]
        · simp only [h]
          cases parseNum x 9999 <;> rfl
        · simp only [h]
          cases parseNum x 9999 <;> cases parseNum y 9999 <;> rfl
      obtain ⟨a0, w0, o0, i0, j0, l0⟩ := at0 [Cell.int 0, Cell.int 0, Cell.int 0, .lst true 1 []]
      rw [impl_ParseVer_l0, show decide ((0 : Int) < 3) = true from rfl, cond_true, if_pos ⟨by omega, by omega⟩]
      simp only [show (0 : Int).toNat * 1 = 0 from rfl, i0, j0, l0, hnum x lx, callS_canon, callL_canon, Option.map_some, Option.bind_some, shape_one, shape_agg, shape_nil, cellsAt_0, cellsAt_1, cellsAt_2, cellsAt_3, cells_one, cells_agg, cB_zero, cI_zero, cS_zero, cC_zero, cB_cons, cI_cons, cS_cons, cC_cons, cond_true, cond_false, List.length_cons, List.length_nil, beq_self_eq_true, Bool.and_true, Bool.true_and, lenC_encL, lenC_lst, deref_ref, emptyK_nil, bs_size, bs_toList]
      cases hx : parseNum x 9999 with
      | none =>
        rw [bad (.inl hx)]
        exact ⟨_, _, [], rfl, zero_ver _, by simp⟩
      | some a =>
        simp only [numV, callS_canon, callL_canon, Option.map_some, Option.bind_some, shape_one, shape_agg, shape_nil, cellsAt_0, cellsAt_1, cellsAt_2, cellsAt_3, cells_one, cells_agg, cB_zero, cI_zero, cS_zero, cC_zero, cB_cons, cI_cons, cS_cons, cC_cons, cond_true, cond_false, List.length_cons, List.length_nil, beq_self_eq_true, Bool.and_true, Bool.true_and, lenC_encL, lenC_lst, deref_ref, emptyK_nil, bs_size, bs_toList, Bool.not_true, ptrC, s0, k1]
        obtain ⟨a1, w1, o1, i1, j1, l1⟩ := at1 [Cell.int a, Cell.int 0, Cell.int 0, .lst true 1 []]
        rw [impl_ParseVer_l0, show decide ((1 : Int) < 3) = true from rfl, cond_true, if_pos ⟨by omega, by omega⟩]
        simp only [show (1 : Int).toNat * 1 = 1 from rfl, i1, j1, l1, hnum y ly, callS_canon, callL_canon, Option.map_some, Option.bind_some, shape_one, shape_agg, shape_nil, cellsAt_0, cellsAt_1, cellsAt_2, cellsAt_3, cells_one, cells_agg, cB_zero, cI_zero, cS_zero, cC_zero, cB_cons, cI_cons, cS_cons, cC_cons, cond_true, cond_false, List.length_cons, List.length_nil, beq_self_eq_true, Bool.and_true, Bool.true_and, lenC_encL, lenC_lst, deref_ref, emptyK_nil, bs_size, bs_toList]
        cases hy : parseNum y 9999 with
        | none =>
          rw [bad (.inr (.inl hy))]
          exact ⟨_, _, [], rfl, zero_ver _, by simp⟩
        | some b =>
          simp only [numV, callS_canon, callL_canon, Option.map_some, Option.bind_some, shape_one, shape_agg, shape_nil, cellsAt_0, cellsAt_1, cellsAt_2, cellsAt_3, cells_one, cells_agg, cB_zero, cI_zero, cS_zero, cC_zero, cB_cons, cI_cons, cS_cons, cC_cons, cond_true, cond_false, List.length_cons, List.length_nil, beq_self_eq_true, Bool.and_true, Bool.true_and, lenC_encL, lenC_lst, deref_ref, emptyK_nil, bs_size, bs_toList, Bool.not_true, ptrC, s1, k2]
          obtain ⟨a2, w2, o2, i2, j2, l2⟩ := at2 [Cell.int a, Cell.int b, Cell.int 0, .lst true 1 []]
          rw [impl_ParseVer_l0, show decide ((2 : Int) < 3) = true from rfl, cond_true, if_pos ⟨by omega, by omega⟩]
          simp only [show (2 : Int).toNat * 1 = 2 from rfl, i2, j2, l2, hnum z lz, callS_canon, callL_canon, Option.map_some, Option.bind_some, shape_one, shape_agg, shape_nil, cellsAt_0, cellsAt_1, cellsAt_2, cellsAt_3, cells_one, cells_agg, cB_zero, cI_zero, cS_zero, cC_zero, cB_cons, cI_cons, cS_cons, cC_cons, cond_true, cond_false, List.length_cons, List.length_nil, beq_self_eq_true, Bool.and_true, Bool.true_and, lenC_encL, lenC_lst, deref_ref, emptyK_nil, bs_size, bs_toList]
          cases hzz : parseNum z 9999 with
          | none =>
            rw [bad (.inr (.inr hzz))]
            exact ⟨_, _, [], rfl, zero_ver _, by simp⟩
          | some c =>
            simp only [numV, callS_canon, callL_canon, Option.map_some, Option.bind_some, shape_one, shape_agg, shape_nil, cellsAt_0, cellsAt_1, cellsAt_2, cellsAt_3, cells_one, cells_agg, cB_zero, cI_zero, cS_zero, cC_zero, cB_cons, cI_cons, cS_cons, cC_cons, cond_true, cond_false, List.length_cons, List.length_nil, beq_self_eq_true, Bool.and_true, Bool.true_and, lenC_encL, lenC_lst, deref_ref, emptyK_nil, bs_size, bs_toList, Bool.not_true, ptrC, s2, k3]
            exact fin a b c hx hy hzz n k m
    obtain ⟨cs, H, ids, z1, z2, z3⟩ := go (3 + 1) (3 + 1) (3 + 1) rfl
    have hrun : ∀ q, impl_ParseVer q q (bs s) = impl_ParseVer_l0 q q q (bs s) (bs (behind 45 s)) (decide ((45 : UInt8) ∈ s)) c7 (.ptr A.length 4 0 0 0) (.ptr A.length 4 0 0 0) (.ptr A.length 4 0 1 0) (.ptr A.length 4 0 2 0) 0 (verH A [Cell.int 0, Cell.int 0, Cell.int 0, .lst true 1 []]) := by
      intro q
      simp only [impl_ParseVer, hcut, e1, hl.len, callS_canon, callL_canon, Option.map_some, Option.bind_some, shape_one, shape_agg, shape_nil, cellsAt_0, cellsAt_1, cellsAt_2, cellsAt_3, cells_one, cells_agg, cB_zero, cI_zero, cS_zero, cC_zero, cB_cons, cI_cons, cS_cons, cC_cons, cond_true, cond_false, List.length_cons, List.length_nil, beq_self_eq_true, Bool.and_true, Bool.true_and, lenC_encL, lenC_lst, deref_ref, emptyK_nil, bs_size, bs_toList]
      rw [show (((0 + 1 + 1 + 1 : Nat) : Int) != 3) = false from rfl, cond_false]
      rfl
    have z0 := (hrun (3 + 1)).trans z1
    exact Fresh.agg1 (n := 1) (run_impl_ParseVer_of 3 z0) z2 z3
def pickOf (line : Str) : MPick := ⟨ahead 64 line, (parseVer (behind 64 line)).1⟩
def readGo : Nat → Str → List MPick → Option (List MPick)
  | 0, _, _ => none
  | n + 1, rest, acc => if rest = [] ∨ ¬ acc.length ≤ 12 then some acc else if (parseVer (behind 64 (ahead 10 rest))).2 then readGo n (behind 10 rest) (acc ++ [pickOf (ahead 10 rest)]) else none
def readEnd (s : Str) : Option (List MPick) → List MPick × Bool
  | some l => if m_LockText l == s then (l, true) else ([], false)
  | none => ([], false)
def m_ParseLock (s : Str) : List MPick × Bool := readEnd s (readGo (s.length + 1) s [])
theorem behind_lt {c : UInt8} {s : Str} (h : s ≠ []) : (behind c s).length < s.length := by
  by_cases hc : c ∈ s
  · have := congrArg List.length (cut_eq hc)
    simp only [List.length_append, List.length_cons] at this
    omega
  · rw [behind_none hc]
    exact List.length_pos_iff.2 h
theorem behind_small {c : UInt8} {s : Str} (h : s.length ≤ 1048576) : (behind c s).length ≤ 1048576 := Nat.le_trans (behind_le c s) h
theorem pickOf_bd {line : Str} (h : line.length ≤ 1048576) : (pickOf line).Bd 1048576 :=
  ⟨Nat.le_trans (ahead_le 64 line) h, parseVer_bd (behind_small h)⟩
theorem f_impl_ParseLock (s : Str) (hs : bdS 1048576 s) : Fresh run_impl_ParseLock true 3 [.one (Cell.str (bs s))] [.one (trL 5 MPick.tr (m_ParseLock s).1), .one (.leaf (.bool (m_ParseLock s).2))] := by
  have hM := maxLen_eq
  have hs1 : s.length ≤ 1048576 := hs
  have loop : ∀ (n : Nat) (rest : Str) (acc : List MPick) (c : Cell) (H : List Entry) (ids : List Nat), rest.length < n → rest.length ≤ 1048576 → acc.length ≤ 13 → (∀ p ∈ acc, p.Bd 1048576) → Rep H true true 3 ids c (trL 5 MPick.tr acc) → notLent c → ids.Nodup → ∀ k m,
      ∃ c' H' ids', impl_ParseLock_l0 k m n (bs s) c (bs rest) H = some ([.one c', .one (Cell.bool (readEnd s (readGo n rest acc)).2)], H') ∧ Rep H' true true 3 ids' c' (trL 5 MPick.tr (readEnd s (readGo n rest acc)).1) ∧ ids'.Nodup := by
    intro n
    induction n with
    | zero => intro rest acc c H ids h; omega
    | succ n ih =>
      intro rest acc c H ids hn hr ha hb hrep hnl hnd k m
      have hlc : lenC c = some acc.length := by
        have := hrep.lenC
        simpa using this
      have hbl : bdL 1048576 (MPick.Bd 1048576) acc := ⟨by omega, hb⟩
      have q : callS run_impl_LockText [.one c] H = some [.one (Cell.str (bs (m_LockText acc)))] := by
        have h1 := reify_one hrep (by omega)
        rw [trL_cell] at h1
        rw [callS_of (mapO_c h1 (mapO_nil' _))]
        exact c_impl_LockText acc hbl
      have fin : ∀ (_ : Unit), ∃ c' H' ids', cond (!(m_LockText acc == s)) (some ([AV.one (.lst true 5 []), AV.one (Cell.bool false)], H) : Option Res) (some ([AV.one c, AV.one (Cell.bool true)], H)) = some ([.one c', .one (Cell.bool (readEnd s (some acc)).2)], H') ∧ Rep H' true true 3 ids' c' (trL 5 MPick.tr (readEnd s (some acc)).1) ∧ ids'.Nodup := fun _ => by
        cases hc : (m_LockText acc == s) with
        | false =>
          have e : readEnd s (some acc) = ([], false) := by simp [readEnd, hc]
          rw [e]
          exact ⟨_, _, [], rfl, .inl ⟨rfl, rfl, true, rfl⟩, by simp⟩
        | true =>
          have e : readEnd s (some acc) = (acc, true) := by simp [readEnd, hc]
          rw [e]
          exact ⟨_, _, ids, rfl, hrep, hnd⟩
      rw [impl_ParseLock_l0]
      by_cases he : rest = []
      · subst he
        simp only [bs_toList, show (!(([] : Str) == [])) = false from rfl, cond_false, q, callS_canon, callL_canon, Option.map_some, Option.bind_some, shape_one, shape_agg, shape_nil, cellsAt_0, cellsAt_1, cellsAt_2, cellsAt_3, cells_one, cells_agg, cB_zero, cI_zero, cS_zero, cC_zero, cB_cons, cI_cons, cS_cons, cC_cons, cond_true, cond_false, List.length_cons, List.length_nil, beq_self_eq_true, Bool.and_true, Bool.true_and, lenC_encL, lenC_lst, deref_ref, emptyK_nil, bs_size, bs_toList]
        rw [readGo, if_pos (.inl rfl)]
        exact fin ()
      · rw [bs_toList, bs_toList, show (!(rest == [])) = true by simp [he], cond_true]
        simp only [hlc, Option.bind_some]
        by_cases h12 : acc.length ≤ 12
        · rw [decide_eq_true (by omega), cond_true]
          have hal := ahead_le 10 rest
          have hll : (ahead 10 rest).length ≤ 1048576 := Nat.le_trans hal hr
          have hv := behind_small (c := 64) hll
          obtain ⟨cs, E, i2, e2, r2, w2, _⟩ := freshA1 (f_impl_ParseVer (behind 64 (ahead 10 rest)) hv) H (mapO_canon [.one (Cell.str (bs (behind 64 (ahead 10 rest))))] _ _)
          obtain ⟨c19, rfl⟩ := MVer.open r2
          have hcut1 : out run_strings_Cut [.one (Cell.str (bs rest)), .one (Cell.str (bs [10]))] = some [.one (Cell.str (bs (ahead 10 rest))), .one (Cell.str (bs (behind 10 rest))), .one (Cell.bool (decide ((10 : UInt8) ∈ rest)))] := by rw [c_strings_Cut rest 10 (by omega), cutV_eq]
          have hcut2 : out run_strings_Cut [.one (Cell.str (bs (ahead 10 rest))), .one (Cell.str (bs [64]))] = some [.one (Cell.str (bs (ahead 64 (ahead 10 rest)))), .one (Cell.str (bs (behind 64 (ahead 10 rest)))), .one (Cell.bool (decide ((64 : UInt8) ∈ ahead 10 rest)))] := by rw [c_strings_Cut _ 64 (by omega), cutV_eq]
          simp only [hcut1, hcut2, e2, callS_canon, callL_canon, Option.map_some, Option.bind_some, shape_one, shape_agg, shape_nil, cellsAt_0, cellsAt_1, cellsAt_2, cellsAt_3, cells_one, cells_agg, cB_zero, cI_zero, cS_zero, cC_zero, cB_cons, cI_cons, cS_cons, cC_cons, cond_true, cond_false, List.length_cons, List.length_nil, beq_self_eq_true, Bool.and_true, Bool.true_and, lenC_encL, lenC_lst, deref_ref, emptyK_nil, bs_size, bs_toList]
          rw [readGo, if_neg (by simp [he, h12])]
          cases hok : (parseVer (behind 64 (ahead 10 rest))).2 with
          | false => exact ⟨_, _, [], rfl, .inl ⟨rfl, rfl, true, rfl⟩, by simp⟩
          | true =>
            simp only [Bool.not_true, cond_false, if_true]
            have rA := (hrep.app E).app [Entry.mk 5 [[Cell.str (bs (ahead 64 (ahead 10 rest))), Cell.int (parseVer (behind 64 (ahead 10 rest))).1.A, Cell.int (parseVer (behind 64 (ahead 10 rest))).1.B, Cell.int (parseVer (behind 64 (ahead 10 rest))).1.C, c19]] 0 false]
            have rB := Rep.app2 [Entry.mk 5 [[Cell.str (bs (ahead 64 (ahead 10 rest))), Cell.int (parseVer (behind 64 (ahead 10 rest))).1.A, Cell.int (parseVer (behind 64 (ahead 10 rest))).1.B, Cell.int (parseVer (behind 64 (ahead 10 rest))).1.C, c19]] 0 false] r2
            have hsrc : ∀ (G : List Entry) (row : List Cell), srcRows (G ++ [Entry.mk 5 [row] 0 false]) 5 (.vs G.length 5 0 1 0) = some [row] := fun G row => by simp [srcRows, rowsOf, entry?]
            have rC : Sp (Rep (H ++ E ++ [Entry.mk 5 [[Cell.str (bs (ahead 64 (ahead 10 rest))), Cell.int (parseVer (behind 64 (ahead 10 rest))).1.A, Cell.int (parseVer (behind 64 (ahead 10 rest))).1.B, Cell.int (parseVer (behind 64 (ahead 10 rest))).1.C, c19]] 0 false]) true true 2) i2 [Cell.str (bs (ahead 64 (ahead 10 rest))), Cell.int (parseVer (behind 64 (ahead 10 rest))).1.A, Cell.int (parseVer (behind 64 (ahead 10 rest))).1.B, Cell.int (parseVer (behind 64 (ahead 10 rest))).1.C, c19] (pickOf (ahead 10 rest)).tr := Sp.cons (i := []) (leaf_reps _) rB
            obtain ⟨d, H', ids', a1, r3, nl3, nd3, g3, l3, k3, _⟩ := rA.append (by' := 64) (ys := [[Cell.str (bs (ahead 64 (ahead 10 rest))), Cell.int (parseVer (behind 64 (ahead 10 rest))).1.A, Cell.int (parseVer (behind 64 (ahead 10 rest))).1.B, Cell.int (parseVer (behind 64 (ahead 10 rest))).1.C, c19]]) (tys := [(pickOf (ahead 10 rest)).tr]) (js := i2 ++ []) hnl hnd (Sp.cons rC .nil) (by simp) (by simpa using w2.nd) (fun j hj h => by
              have h1 := hrep.lt j hj
              have h2 := w2.lo j (by simpa using h)
              omega) (by simp [bound]; omega) (by simp [bound]; omega)
            simp only [hsrc, a1, Option.bind_some]
            have hlt := behind_lt (c := 10) he
            have hr3 : Rep H' true true 3 ids' d (trL 5 MPick.tr (acc ++ [pickOf (ahead 10 rest)])) := by
              rw [trL, List.map_append]
              exact r3
            exact ih (behind 10 rest) (acc ++ [pickOf (ahead 10 rest)]) d H' ids' (by omega) (by omega) (by simp; omega) (fun p hp => by
              rcases List.mem_append.1 hp with hp | hp
              · exact hb p hp
              · simp only [List.mem_singleton] at hp
                rw [hp]
                exact pickOf_bd hll) hr3 nl3 nd3 k m
        · rw [decide_eq_false (by omega), cond_false]
          simp only [q, callS_canon, callL_canon, Option.map_some, Option.bind_some, shape_one, shape_agg, shape_nil, cellsAt_0, cellsAt_1, cellsAt_2, cellsAt_3, cells_one, cells_agg, cB_zero, cI_zero, cS_zero, cC_zero, cB_cons, cI_cons, cS_cons, cC_cons, cond_true, cond_false, List.length_cons, List.length_nil, beq_self_eq_true, Bool.and_true, Bool.true_and, lenC_encL, lenC_lst, deref_ref, emptyK_nil, bs_size, bs_toList]
          rw [readGo, if_pos (.inr h12)]
          exact fin ()
  obtain ⟨c', H', ids', z1, z2, z3⟩ := loop (s.length + 1) s [] (.lst true 5 []) [] [] (by omega) hs1 (by simp) (by simp) (.inl ⟨rfl, rfl, true, rfl⟩) (notLent_nil _) (by simp) (s.length + 1) (s.length + 1)
  have z0 : ∀ q, impl_ParseLock q q (bs s) = impl_ParseLock_l0 q q q (bs s) (.lst true 5 []) (bs s) [] := fun q => rfl
  exact Fresh.one1 (n := 2) (run_impl_ParseLock_of s.length ((z0 _).trans z1)) z2 z3
def readL : List Str → List MPick → Option (List MPick)
  | [], acc => some acc
  | x :: r, acc => if (split 64 x).length = 2 ∧ (parseVer (behind 64 x)).2 = true then readL r (acc ++ [pickOf x]) else none
def specEnd (last : Str) : Option (List MPick) → List MPick × Bool
  | some l => if last = [] ∧ (lockGo none l && decide (l.length ≤ 12)) = true then (l, true) else ([], false)
  | none => ([], false)
def m_spec_ParseLock (s : Str) : List MPick × Bool := specEnd ((split 10 s).getLastD []) (readL (split 10 s).dropLast [])
theorem nameGo_no {b : UInt8} (hb : isSmall b = false) (hb2 : isFigure b = false) (hb3 : (b == 45) = false) : ∀ (s : Str) (f : Bool), nameGo f s = true → b ∉ s
  | [], _, _ => by simp
  | x :: s, f, h => by
    simp only [nameGo, Bool.and_eq_true] at h
    intro hm
    rcases List.mem_cons.1 hm with e | hm
    · subst e
      simp [hb, hb2, hb3] at h
    · exact nameGo_no hb hb2 hb3 s false h.2 hm
theorem fig_ne {b : UInt8} (h : isFigure b = true) : b ≠ 64 ∧ b ≠ 10 := ⟨fun e => by subst e; exact absurd h (by decide), fun e => by subst e; exact absurd h (by decide)⟩
theorem pre_ne {b : UInt8} (h : preCh b = true) : b ≠ 64 ∧ b ≠ 10 := ⟨fun e => by subst e; exact absurd h (by decide), fun e => by subst e; exact absurd h (by decide)⟩
theorem joinTail_mem {sep : Str} {b : UInt8} : ∀ {r : List Str}, b ∈ Lib.joinTail sep r → b ∈ sep ∨ ∃ x ∈ r, b ∈ x
  | [], h => by simp [Lib.joinTail] at h
  | x :: r, h => by
    simp only [Lib.joinTail, List.map_cons, List.flatten_cons, List.mem_append] at h
    rcases h with (h | h) | h
    · exact .inl h
    · exact .inr ⟨x, by simp, h⟩
    · rcases joinTail_mem (r := r) h with h | ⟨y, hy, h⟩
      · exact .inl h
      · exact .inr ⟨y, List.mem_cons_of_mem _ hy, h⟩
theorem join_mem {sep : Str} {b : UInt8} {r : List Str} (h : b ∈ Lib.join r sep) : b ∈ sep ∨ ∃ x ∈ r, b ∈ x := by
  cases r with
  | nil => simp [Lib.join_nil] at h
  | cons x r =>
    rw [Lib.join_cons, List.mem_append] at h
    rcases h with h | h
    · exact .inr ⟨x, by simp, h⟩
    · rcases joinTail_mem h with h | ⟨y, hy, h⟩
      · exact .inl h
      · exact .inr ⟨y, List.mem_cons_of_mem _ hy, h⟩
theorem verText_ne (a b c : Int) (pre : List Str) : ∀ x ∈ verTextM a b c pre, x ≠ 64 ∧ x ≠ 10 := by
  unfold verTextM
  split
  · rename_i hok
    simp only [verOkM, Bool.and_eq_true, List.all_eq_true] at hok
    have hnum : ∀ n : Nat, ∀ x ∈ numT n, x ≠ 64 ∧ x ≠ 10 := fun n x hx => fig_ne (List.all_eq_true.1 (numT_shape n).1 x hx)
    intro x hx
    simp only [List.mem_append, List.mem_singleton] at hx
    rcases hx with ((((h | rfl) | h) | rfl) | h) | h
    · exact hnum _ x h
    · decide
    · exact hnum _ x h
    · decide
    · exact hnum _ x h
    · split at h
      · simp at h
      · rcases List.mem_cons.1 h with rfl | h
        · decide
        · rcases join_mem h with h | ⟨y, hy, h⟩
          · simp only [List.mem_singleton] at h
            subst h
            decide
          · have := hok.1 y hy
            simp only [preOkM, Bool.and_eq_true, List.all_eq_true] at this
            exact pre_ne (this.1 x h)
  · simp
theorem name_ne {s : Str} (h : nameOk s = true) : (64 : UInt8) ∉ s ∧ (10 : UInt8) ∉ s := by
  simp only [nameOk, Bool.and_eq_true] at h
  exact ⟨nameGo_no (by decide) (by decide) (by decide) s true h.1, nameGo_no (by decide) (by decide) (by decide) s true h.1⟩
theorem cut_app {c : UInt8} {u t : Str} (h : c ∉ u) : ahead c (u ++ c :: t) = u ∧ behind c (u ++ c :: t) = t := by
  induction u with
  | nil => simp [ahead, behind]
  | cons x u ih =>
    have hx : (x != c) = true := by
      have : x ≠ c := fun e => h (by rw [e]; exact List.mem_cons_self ..)
      simp [this]
    obtain ⟨h1, h2⟩ := ih fun hh => h (List.mem_cons_of_mem _ hh)
    simp only [ahead, behind] at h1 h2 ⊢
    rw [List.cons_append, List.takeWhile_cons, List.dropWhile_cons, hx]
    simp only [if_true]
    exact ⟨by rw [h1], h2⟩
/-- A line: what stands for a pick ahead of its end. -/
def lineOf (p : MPick) : Str := p.Name ++ 64 :: verTextM p.V.A p.V.B p.V.C p.V.Pre
theorem lockRow_eq (p : MPick) : lockRow p = lineOf p ++ [10] := by simp [lockRow, lineOf]
theorem lineOf_spec {p : MPick} (h : nameOk p.Name = true) : (10 : UInt8) ∉ lineOf p ∧ split 64 (lineOf p) = [p.Name, verTextM p.V.A p.V.B p.V.C p.V.Pre] ∧ behind 64 (lineOf p) = verTextM p.V.A p.V.B p.V.C p.V.Pre := by
  obtain ⟨h1, h2⟩ := name_ne h
  have hv := verText_ne p.V.A p.V.B p.V.C p.V.Pre
  obtain ⟨c1, c2⟩ := cut_app (t := verTextM p.V.A p.V.B p.V.C p.V.Pre) h1
  refine ⟨fun hm => ?_, ?_, c2⟩
  · rcases List.mem_append.1 hm with hm | hm
    · exact h2 hm
    · rcases List.mem_cons.1 hm with e | hm
      · exact absurd e (by decide)
      · exact (hv 10 hm).2 rfl
  · rw [lineOf, split_cut (by simp), c1, c2, split_not fun hm => (hv 64 hm).1 rfl]
/-- The program's reading of right lines is the reference's. -/
theorem read_rows : ∀ (l : List MPick) (n : Nat) (acc r : List MPick), (∀ p ∈ l, nameOk p.Name = true) → readGo n (l.flatMap lockRow) acc = some (acc ++ l) → acc.length + l.length ≤ 12 →
    split 10 (l.flatMap lockRow) = l.map lineOf ++ [[]] ∧ readL (l.map lineOf) r = some (r ++ l)
  | [], n, acc, r, _, _, _ => ⟨split_not (by simp), by simp [readL]⟩
  | p :: l, n, acc, r, hn, hg, hl => by
    have hp := hn p (List.mem_cons_self ..)
    obtain ⟨q1, q2, q3⟩ := lineOf_spec hp
    have hfl : (p :: l).flatMap lockRow = lineOf p ++ 10 :: l.flatMap lockRow := by rw [List.flatMap_cons, lockRow_eq]; simp
    obtain ⟨c1, c2⟩ := cut_app (t := l.flatMap lockRow) q1
    cases n with
    | zero => simp [readGo] at hg
    | succ n =>
      rw [hfl, readGo, if_neg (by simp only [List.length_cons] at hl; simp; omega), c1, c2] at hg
      split at hg
      · rename_i hok
        -- what was read is what stands there
        have hpk : pickOf (lineOf p) = p := by
          have key : ∀ (n : Nat) (t : Str) (acc x : List MPick), readGo n t acc = some x → acc <+: x := by
            intro n
            induction n with
            | zero => intro t acc x h; simp [readGo] at h
            | succ n ih =>
              intro t acc x h
              rw [readGo] at h
              split at h
              · simp only [Option.some.injEq] at h
                rw [h]
                exact List.prefix_refl _
              · split at h
                · exact (List.prefix_append _ _).trans (ih _ _ _ h)
                · simp at h
          obtain ⟨t, ht⟩ := key _ _ _ _ hg
          have : acc ++ (pickOf (lineOf p) :: t) = acc ++ (p :: l) := by rw [← ht]; simp
          have := List.append_cancel_left this
          simp only [List.cons.injEq] at this
          exact this.1
        rw [hpk] at hg
        obtain ⟨i1, i2⟩ := read_rows l n (acc ++ [p]) (r ++ [p]) (fun x hx => hn x (List.mem_cons_of_mem _ hx)) (by rw [hg]; simp) (by simp at hl ⊢; omega)
        refine ⟨by rw [hfl, split_cut (by simp), c1, c2, i1]; simp, ?_⟩
        rw [List.map_cons, readL, if_pos ⟨by rw [q2]; rfl, hok⟩, hpk, i2]
        simp
      · simp at hg
theorem join_last {r : List Str} {x : Str} (h : r ≠ []) : Lib.join (r ++ [x]) [10] = r.flatMap (· ++ [10]) ++ x := by
  induction r with
  | nil => exact absurd rfl h
  | cons y r ih =>
    by_cases e : r = []
    · subst e
      simp [Lib.join_cons, Lib.joinTail]
    · have := ih e
      cases r with
      | nil => exact absurd rfl e
      | cons z r =>
        rw [List.cons_append, Lib.join_cons] at this ⊢
        rw [List.flatMap_cons, List.append_assoc, ← this]
        simp [Lib.joinTail]
theorem split_lines (s : Str) : s = (split 10 s).dropLast.flatMap (· ++ [10]) ++ (split 10 s).getLastD [] := by
  have hj := join_split 10 _ s (Nat.le_refl _)
  have hne : split 10 s ≠ [] := splitGo_ne _ _
  have hl : split 10 s = (split 10 s).dropLast ++ [(split 10 s).getLastD []] := by
    rw [List.getLastD_eq_getLast?, List.getLast?_eq_some_getLast hne]
    exact (List.dropLast_concat_getLast hne).symm
  by_cases h : (split 10 s).dropLast = []
  · rw [h] at hl ⊢
    conv => lhs; rw [← hj, hl]
    simp [Lib.join_one]
  · conv => lhs; rw [← hj, hl]
    exact join_last h
theorem parse_line {x : Str} (h : (split 64 x).length = 2) (h2 : (parseVer (behind 64 x)).2 = true) : lineOf (pickOf x) = x := by
  have hm : (64 : UInt8) ∈ x := by
    apply Classical.byContradiction
    intro hh
    rw [split_not hh] at h
    simp at h
  have hv : verTextM (parseVer (behind 64 x)).1.A (parseVer (behind 64 x)).1.B (parseVer (behind 64 x)).1.C (parseVer (behind 64 x)).1.Pre = behind 64 x := by
    revert h2
    unfold parseVer
    split
    · rename_i p q r hsp
      split
      · rename_i a b c ha hb hc
        have ht := text_parse hsp ha hb hc
        split
        · rename_i hok
          intro _
          rw [hok] at ht
          simpa using ht
        · intro h; simp at h
      · intro h; simp at h
    · intro h; simp at h
  unfold lineOf pickOf
  rw [hv]
  exact (cut_eq hm).symm
/-- The reference's reading of lines is the program's. -/
theorem lines_read : ∀ (r : List Str) (acc l : List MPick), readL r acc = some l → (∀ x ∈ r, (10 : UInt8) ∉ x) → l.length ≤ 12 → ∃ l', l = acc ++ l' ∧ r.flatMap (· ++ [10]) = l'.flatMap lockRow ∧ ∀ n, (r.flatMap (· ++ [10])).length < n → readGo n (r.flatMap (· ++ [10])) acc = some l
  | [], acc, l, h, _, hl => by
    simp only [readL, Option.some.injEq] at h
    subst h
    refine ⟨[], by simp, by simp, fun n hn => ?_⟩
    obtain ⟨n, rfl⟩ : ∃ q, n = q + 1 := ⟨n - 1, by omega⟩
    rw [readGo, if_pos (.inl (by simp))]
  | x :: r, acc, l, h, hx, hl => by
    rw [readL] at h
    split at h
    · rename_i hc
      obtain ⟨l', e1, e2, e3⟩ := lines_read r _ l h (fun y hy => hx y (List.mem_cons_of_mem _ hy)) hl
      have hline := parse_line hc.1 hc.2
      have h10 := hx x (List.mem_cons_self ..)
      obtain ⟨c1, c2⟩ := cut_app (t := r.flatMap (· ++ [10])) h10
      have hfl : (x :: r).flatMap (· ++ [10]) = x ++ 10 :: r.flatMap (· ++ [10]) := by simp
      refine ⟨pickOf x :: l', by rw [e1]; simp, ?_, fun n hn => ?_⟩
      · rw [List.flatMap_cons, List.flatMap_cons, e2, lockRow_eq, hline]
      · obtain ⟨n, rfl⟩ : ∃ q, n = q + 1 := ⟨n - 1, by omega⟩
        have hal : acc.length ≤ 12 := by
          have := congrArg List.length e1
          simp only [List.length_append, List.length_singleton] at this
          omega
        rw [hfl] at hn ⊢
        rw [readGo, if_neg (by simp; omega), c1, c2, if_pos hc.2]
        exact e3 n (by simp only [List.length_append, List.length_cons] at hn; omega)
    · simp at h
theorem split_no (c : UInt8) : ∀ (n : Nat) (s : Str), s.length ≤ n → ∀ x ∈ split c s, c ∉ x := by
  intro n
  induction n with
  | zero =>
    intro s hs x hx
    obtain rfl : s = [] := List.eq_nil_of_length_eq_zero (by omega)
    rw [split_not (by simp)] at hx
    simp only [List.mem_singleton] at hx
    subst hx
    simp
  | succ n ih =>
    intro s hs x hx
    by_cases h : c ∈ s
    · have hlt : (behind c s).length ≤ n := by
        have := congrArg List.length (cut_eq h)
        simp only [List.length_append, List.length_cons] at this
        omega
      rw [split_cut h] at hx
      rcases List.mem_cons.1 hx with rfl | hx
      · exact ahead_not s
      · exact ih _ hlt x hx
    · rw [split_not h] at hx
      simp only [List.mem_singleton] at hx
      subst hx
      exact h
theorem lock_names : ∀ {l : List MPick} {prev : Option Str}, lockGo prev l = true → ∀ p ∈ l, nameOk p.Name = true
  | [], _, _, p, h => by simp at h
  | q :: r, prev, h, p, hp => by
    simp only [lockGo, Bool.and_eq_true] at h
    rcases List.mem_cons.1 hp with rfl | hp
    · exact h.1
    · exact lock_names h.2.2.2 p hp
theorem m_lock_eq (s : Str) : m_spec_ParseLock s = m_ParseLock s := by
  have A : ∀ l, m_spec_ParseLock s = (l, true) → m_ParseLock s = (l, true) := by
    intro l h
    unfold m_spec_ParseLock specEnd at h
    split at h
    · rename_i l' hr
      split at h
      · rename_i hc
        simp only [Prod.mk.injEq, and_true] at h
        subst h
        have hc2 := hc.2
        simp only [Bool.and_eq_true, decide_eq_true_eq] at hc2
        obtain ⟨l2, e1, e2, e3⟩ := lines_read _ [] l' hr (fun x hx => split_no 10 _ s (Nat.le_refl _) x ((List.dropLast_sublist _).subset hx)) hc2.2
        have hs := split_lines s
        rw [hc.1, List.append_nil] at hs
        rw [List.nil_append] at e1
        subst e1
        have hg := e3 (s.length + 1) (by rw [← hs]; omega)
        rw [← hs] at hg e2
        unfold m_ParseLock readEnd
        rw [hg]
        simp only
        rw [if_pos]
        rw [m_LockText, if_pos hc.2, ← e2]
        simp
      · simp at h
    · simp at h
  have B : ∀ l, m_ParseLock s = (l, true) → m_spec_ParseLock s = (l, true) := by
    intro l h
    unfold m_ParseLock readEnd at h
    split at h
    · rename_i l' hr
      split at h
      · rename_i hc
        simp only [Prod.mk.injEq, and_true] at h
        subst h
        have ht : m_LockText l' = s := by simpa using hc
        by_cases hok : (lockGo none l' && decide (l'.length ≤ 12)) = true
        · have hok2 := hok
          simp only [Bool.and_eq_true, decide_eq_true_eq] at hok2
          rw [m_LockText, if_pos hok] at ht
          rw [← ht] at hr
          obtain ⟨i1, i2⟩ := read_rows l' _ [] [] (lock_names hok2.1) (by rw [List.nil_append]; exact hr) (by simp; omega)
          unfold m_spec_ParseLock
          rw [← ht, i1]
          simp only [List.dropLast_concat, i2, List.nil_append, specEnd]
          rw [if_pos ⟨by simp, hok⟩]
        · rw [m_LockText, if_neg hok] at ht
          subst ht
          have : l' = [] := by
            rw [readGo, if_pos (.inl rfl)] at hr
            simpa using hr.symm
          subst this
          simp [lockGo] at hok
      · simp at h
    · simp at h
  have two : ∀ x : List MPick × Bool, x = m_spec_ParseLock s ∨ x = m_ParseLock s → x.2 = false → x = ([], false) := by
    intro x hx hf
    rcases hx with rfl | rfl
    · unfold m_spec_ParseLock specEnd at hf ⊢
      split <;> (try split) <;> simp_all
    · unfold m_ParseLock readEnd at hf ⊢
      split <;> (try split) <;> simp_all
  cases h1 : (m_spec_ParseLock s).2 with
  | true =>
    have e := A (m_spec_ParseLock s).1 (Prod.ext rfl h1)
    rw [e]
    exact Prod.ext rfl h1
  | false => cases h2 : (m_ParseLock s).2 with
    | true =>
      have := B (m_ParseLock s).1 (Prod.ext rfl h2)
      rw [this] at h1
      simp at h1
    | false => rw [two _ (.inl rfl) h1, two _ (.inr rfl) h2]
theorem ends_bd {s : Str} {o : Option (List MPick)} (h : ∀ l, o = some l → l.length ≤ 1048576 ∧ ∀ p ∈ l, p.Bd 1048576) : bdL 1048576 (MPick.Bd 1048576) (readEnd s o).1 := by
  unfold readEnd
  split
  · rename_i l
    split
    · exact h l rfl
    · exact ⟨by simp, by simp⟩
  · exact ⟨by simp, by simp⟩
theorem readGo_bd : ∀ (n : Nat) (rest : Str) (acc l : List MPick), readGo n rest acc = some l → rest.length ≤ 1048576 → acc.length ≤ 13 → (∀ p ∈ acc, p.Bd 1048576) → l.length ≤ 13 ∧ ∀ p ∈ l, p.Bd 1048576
  | 0, rest, acc, l, h, _, _, _ => by simp [readGo] at h
  | n + 1, rest, acc, l, h, hr, ha, hb => by
    rw [readGo] at h
    split at h
    · simp only [Option.some.injEq] at h
      subst h
      exact ⟨ha, hb⟩
    · rename_i hc
      have hal := ahead_le 10 rest
      have hbl := behind_le 10 rest
      split at h
      · refine readGo_bd n _ _ l h (by omega) (by simp; omega) fun p hp => ?_
        rcases List.mem_append.1 hp with hp | hp
        · exact hb p hp
        · simp only [List.mem_singleton] at hp
          rw [hp]
          exact pickOf_bd (by omega)
      · simp at h
theorem b_ParseLock (s : Str) (hs : bdS 1048576 s) : bdL 1048576 (MPick.Bd 1048576) (m_ParseLock s).1 :=
  ends_bd fun l h => by
    obtain ⟨h1, h2⟩ := readGo_bd _ _ _ _ h hs (by simp) (by simp)
    exact ⟨by omega, h2⟩
theorem cnt_ParseLock (s : Str) (hs : bdS 1048576 s) : cntL MPick.cntR (m_ParseLock s).1 ≤ 1099511627776 := by
  have hb := b_ParseLock s hs
  have key : ∀ xs : List MPick, (∀ p ∈ xs, p.Bd 1048576) → xs.length ≤ 13 → cntL MPick.cntR xs ≤ 1048580 * xs.length := by
    intro xs
    induction xs with
    | nil => simp [cntL]
    | cons x xs ih =>
      intro h hl
      have h1 := (h x (List.mem_cons_self ..)).2.2.2.2.1
      have h2 := ih (fun p hp => h p (List.mem_cons_of_mem _ hp)) (by simp at hl; omega)
      simp only [cntL, MPick.cntR, List.length_cons, List.map_cons, List.sum_cons] at h2 ⊢
      have hc1 : (List.map one1 x.V.Pre).sum = x.V.Pre.length := cntL_one1 x.V.Pre
      omega
  have h13 : (m_ParseLock s).1.length ≤ 13 := by
    unfold m_ParseLock readEnd
    split
    · rename_i l h
      split
      · exact (readGo_bd _ _ _ _ h hs (by simp) (by simp)).1
      · simp
    · simp
  have := key _ hb.2 h13
  omega
theorem c_spec_ParseLock (s : Str) (hs : bdS 1048576 s) : outL run_spec_ParseLock [.one (Cell.str (bs s))] = some [.one (encL 5 MPick.enc (m_ParseLock s).1), .one (Cell.bool (m_ParseLock s).2)] := by
  have hM := maxLen_eq
  have hs1 : s.length ≤ 1048576 := hs
  rw [← m_lock_eq]
  have hsl := splitGo_length 10 [] 
  have hlen : (split 10 s).length ≤ s.length + 1 := (splitGo_length 10 s []).1
  have hel : ∀ x ∈ split 10 s, x.length ≤ 1048576 := fun x hx => by
    have := (splitGo_length 10 s []).2 x hx
    simp only [List.length_nil, Nat.zero_add] at this
    omega
  have hne : split 10 s ≠ [] := splitGo_ne _ _
  have hpos := List.length_pos_iff.2 hne
  have hlast : (split 10 s)[(split 10 s).length - 1]? = some ((split 10 s).getLastD []) := by
    rw [List.getLastD_eq_getLast?, List.getLast?_eq_getElem?]
    rw [List.getElem?_eq_getElem (by omega)]
    rfl
  have hz : ∀ G : List Entry, mapO (reifyAV false G) [.one (.lst true 5 []), .one (Cell.bool false)] = some [.one (encL 5 MPick.enc []), .one (Cell.bool false)] := fun G => rfl
  have hw : IntKind.i64.wrap (((split 10 s).length : Int) - 1) = (((split 10 s).length - 1 : Nat) : Int) := by rw [wrap_small (by omega) (by omega)]; omega
  have loop : ∀ (r : List Str) (i n : Nat) (acc : List MPick) (c : Cell) (H : List Entry), (split 10 s).dropLast.drop i = r → r.length < n → acc.length + r.length ≤ 1048576 → (∀ p ∈ acc, p.Bd 1048576) → Grow 5 c H (acc.map MPick.enc) → ∀ k m,
      ∃ xs H', spec_ParseLock_l0 k m n c (strsC (split 10 s)) i H = some (xs, H') ∧ mapO (reifyAV false H') xs = some [.one (encL 5 MPick.enc (specEnd ((split 10 s).getLastD []) (readL r acc)).1), .one (Cell.bool (specEnd ((split 10 s).getLastD []) (readL r acc)).2)] := by
    intro r
    induction r with
    | nil =>
      intro i n acc c H hd hn ha hb hg k m
      obtain ⟨n, rfl⟩ : ∃ j, n = j + 1 := ⟨n - 1, by omega⟩
      have hdl := drop_nil hd
      simp only [List.length_dropLast] at hdl
      have hrd := hg.read (e := MPick.enc)
      obtain ⟨y, zs, e1, e2, e3⟩ := mapO_cons hrd
      have e4 : zs = [] := by simpa [mapO] using e3.symm
      subst e4
      simp only [List.cons.injEq, and_true] at e1
      subst e1
      have q1 : callS run_spec_l10Ok [.one c] H = some [.one (Cell.bool (lockGo none acc && decide (acc.length ≤ 12)))] := by
        rw [callS_of hrd]
        exact c_spec_l10Ok acc ⟨by simp at ha; omega, hb⟩
      simp only [spec_ParseLock_l0, lenC_encL, hw, Option.bind_some]
      rw [decide_eq_false (by omega), cond_false]
      simp only [idxA_encL, hlast, eStr, callS_canon, callL_canon, Option.map_some, Option.bind_some, shape_one, shape_agg, shape_nil, cellsAt_0, cellsAt_1, cellsAt_2, cellsAt_3, cells_one, cells_agg, cB_zero, cI_zero, cS_zero, cC_zero, cB_cons, cI_cons, cS_cons, cC_cons, cond_true, cond_false, List.length_cons, List.length_nil, beq_self_eq_true, Bool.and_true, Bool.true_and, lenC_encL, lenC_lst, deref_ref, emptyK_nil, bs_size, bs_toList, readL, specEnd]
      by_cases hx : (split 10 s).getLastD [] = []
      · simp only [hx, q1, callS_canon, callL_canon, Option.map_some, Option.bind_some, shape_one, shape_agg, shape_nil, cellsAt_0, cellsAt_1, cellsAt_2, cellsAt_3, cells_one, cells_agg, cB_zero, cI_zero, cS_zero, cC_zero, cB_cons, cI_cons, cS_cons, cC_cons, cond_true, cond_false, List.length_cons, List.length_nil, beq_self_eq_true, Bool.and_true, Bool.true_and, lenC_encL, lenC_lst, deref_ref, emptyK_nil, bs_size, bs_toList, show (!(([] : Str) == [])) = false from rfl]
        cases hok : (lockGo none acc && decide (acc.length ≤ 12)) with
        | true => exact ⟨_, _, rfl, mapO_c e2 (mapO_c (reifyAV_canon _ _ _) (mapO_nil' _))⟩
        | false => exact ⟨_, _, rfl, hz _⟩
      · rw [show (!((split 10 s).getLastD [] == [])) = true by simpa using hx, cond_true, if_neg fun h => hx h.1]
        exact ⟨_, _, rfl, hz _⟩
    | cons x r ih =>
      intro i n acc c H hd hn ha hb hg k m
      obtain ⟨n, rfl⟩ : ∃ j, n = j + 1 := ⟨n - 1, by omega⟩
      obtain ⟨hlt, hx, hd'⟩ := drop_cons hd
      simp only [List.length_cons] at hn ha
      simp only [List.length_dropLast] at hlt
      have hx2 : (split 10 s)[i]? = some x := by
        rw [List.getElem?_dropLast, if_pos (by omega)] at hx
        exact hx
      have hxl := hel x (List.mem_of_getElem? hx2)
      have hsp : ∀ t : Str, t.length ≤ 1073741824 → outL run_spec_Split [.one (Cell.str (bs t)), .one (.sc (.int .u8 64))] = some [.one (strsC (split 64 t))] := fun t ht => c_spec_Split t 64 ht
      have e4 : ∀ {β : Type} (a b d : Int) (n0 : Str) (xs : List Str) (κ : List Cell → Option β), restK [Cell.str (bs n0), Cell.int a, Cell.int b, Cell.int d, strsC xs] κ = κ [Cell.str (bs n0), Cell.int a, Cell.int b, Cell.int d, strsC xs] := fun _ _ _ _ _ κ => rfl
      have e5 : ∀ (G : List Entry) (c0 c1 c2 c3 c4 : Cell), srcRows G 5 (.lst true 5 (chunks 5 1 [c0, c1, c2, c3, c4])) = some [[c0, c1, c2, c3, c4]] := fun G c0 c1 c2 c3 c4 => by simp [srcRows, rowsOf, chunks]
      simp only [spec_ParseLock_l0, lenC_encL, hw, Option.bind_some]
      rw [decide_eq_true (by omega), cond_true]
      simp only [idxA_encL, hx2, eStr, hsp x (by omega), callS_canon, callL_canon, Option.map_some, Option.bind_some, shape_one, shape_agg, shape_nil, cellsAt_0, cellsAt_1, cellsAt_2, cellsAt_3, cells_one, cells_agg, cB_zero, cI_zero, cS_zero, cC_zero, cB_cons, cI_cons, cS_cons, cC_cons, cond_true, cond_false, List.length_cons, List.length_nil, beq_self_eq_true, Bool.and_true, Bool.true_and, lenC_encL, lenC_lst, deref_ref, emptyK_nil, bs_size, bs_toList, readL]
      by_cases h2 : (split 64 x).length = 2
      · obtain ⟨u, v, huv⟩ : ∃ u v, split 64 x = [u, v] := by
          match h : split 64 x, h2 with
          | [u, v], _ => exact ⟨u, v, rfl⟩
        have hm : (64 : UInt8) ∈ x := by
          apply Classical.byContradiction
          intro hh
          rw [split_not hh] at h2
          simp at h2
        have huv2 : u = ahead 64 x ∧ v = behind 64 x := by
          have h5 := huv
          rw [split_cut hm] at h5
          simp only [List.cons.injEq] at h5
          have h6 : (64 : UInt8) ∉ behind 64 x := by
            intro hh
            have := congrArg List.length h5.2
            rw [split_cut hh] at this
            have h7 := List.length_pos_iff.2 (splitGo_ne (c := 64) (behind 64 (behind 64 x)) [])
            simp only [List.length_cons, List.length_nil] at this
            unfold split at this
            omega
          rw [split_not h6] at h5
          simp only [List.cons.injEq, and_true] at h5
          exact ⟨h5.1.symm, h5.2.symm⟩
        obtain ⟨rfl, rfl⟩ := huv2
        have i0 : idxA 1 (encL 1 eStr [ahead 64 x, behind 64 x]) 0 = some (.ref (eStr (ahead 64 x)) 0) := rfl
        have i1 : idxA 1 (encL 1 eStr [ahead 64 x, behind 64 x]) 1 = some (.ref (eStr (behind 64 x)) 0) := rfl
        have hv := c_spec_ParseVer (behind 64 x) (behind_small hxl)
        rw [show (((split 64 x).length : Int) != 2) = false by rw [h2]; rfl, cond_false]
        simp only [huv, i0, i1, eStr, hv, callS_canon, callL_canon, Option.map_some, Option.bind_some, shape_one, shape_agg, shape_nil, cellsAt_0, cellsAt_1, cellsAt_2, cellsAt_3, cells_one, cells_agg, cB_zero, cI_zero, cS_zero, cC_zero, cB_cons, cI_cons, cS_cons, cC_cons, cond_true, cond_false, List.length_cons, List.length_nil, beq_self_eq_true, Bool.and_true, Bool.true_and, lenC_encL, lenC_lst, deref_ref, emptyK_nil, bs_size, bs_toList]
        cases hok : (parseVer (behind 64 x)).2 with
        | false =>
          rw [if_neg (by simp)]
          exact ⟨_, _, rfl, hz _⟩
        | true =>
          rw [if_pos (by simp)]
          obtain ⟨p, a1, g1⟩ := hg.app (by' := 64) [MPick.enc (pickOf x)] (by unfold bound; simp; omega) (by unfold bound; simp; omega)
          simp only [MPick.enc, pickOf] at a1
          simp only [Bool.not_true, cond_false, e4, e5, a1, Option.bind_some]
          rw [wrap_succ (by omega)]
          exact ih (i + 1) n (acc ++ [pickOf x]) p.1 p.2 hd' (by omega) (by simp; omega) (fun q hq => by
            rcases List.mem_append.1 hq with hq | hq
            · exact hb q hq
            · simp only [List.mem_singleton] at hq
              rw [hq]
              exact pickOf_bd hxl) (by simpa using g1) k m
      · rw [show (((split 64 x).length : Int) != 2) = true by rw [bne_iff_ne]; omega, cond_true, if_neg fun h => h2 h.1]
        exact ⟨_, _, rfl, hz _⟩
  obtain ⟨xs, H', z1, z2⟩ := loop (split 10 s).dropLast 0 ((split 10 s).length + 1 + 1) [] (.lst true 5 []) [] rfl (by simp; omega) (by simp; omega) (by simp) (Grow.nil 5) ((split 10 s).length + 1 + 1) ((split 10 s).length + 1 + 1)
  refine outL_of (H := H') (run_spec_ParseLock_of ((split 10 s).length + 1) ?_) z2
  have hsp : outL run_spec_Split [.one (Cell.str (bs s)), .one (.sc (.int .u8 10))] = some [.one (strsC (split 10 s))] := c_spec_Split s 10 (by omega)
  simp only [spec_ParseLock, hsp, callS_canon, callL_canon, Option.map_some, Option.bind_some, shape_one, shape_agg, shape_nil, cellsAt_0, cellsAt_1, cellsAt_2, cellsAt_3, cells_one, cells_agg, cB_zero, cI_zero, cS_zero, cC_zero, cB_cons, cI_cons, cS_cons, cC_cons, cond_true, cond_false, List.length_cons, List.length_nil, beq_self_eq_true, Bool.and_true, Bool.true_and, lenC_encL, lenC_lst, deref_ref, emptyK_nil, bs_size, bs_toList]
  exact z1
end Go.Ev
