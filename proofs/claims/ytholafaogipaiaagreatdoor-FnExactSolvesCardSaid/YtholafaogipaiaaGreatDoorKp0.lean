/- Conditions: none. -/
import Derived.Test.YtholafaogipaiaaGreatDoorEvCon
set_option linter.unusedSimpArgs false
set_option linter.unusedVariables false
namespace Go.Ev
open Go
def inR (x a b : Int) : Bool := decide (a ≤ x) && decide (x ≤ b)
def isSmall (b : UInt8) : Bool := inR b.toNat 97 122
def isFigure (b : UInt8) : Bool := inR b.toNat 48 57
theorem u8_eq (b : UInt8) (n : Nat) (h : n < 256) : ((b.toNat : Int) == (n : Int)) = (b == UInt8.ofNat n) := by
  rw [Bool.eq_iff_iff]
  simp only [beq_iff_eq]
  constructor
  · intro e
    apply UInt8.toNat_inj.1
    have : (UInt8.ofNat n).toNat = n := by simp; omega
    omega
  · intro e
    have : (UInt8.ofNat n).toNat = n := by simp; omega
    rw [e, this]
theorem u8_ne (b : UInt8) (n : Nat) (h : n < 256) : ((b.toNat : Int) != (n : Int)) = (b != UInt8.ofNat n) := by
  simp only [bne, u8_eq b n h]
theorem u8_lt (b : UInt8) : (b.toNat : Int) < 256 := by have := b.toNat_lt; omega
theorem c_fdj (x a b : Int) : out run_fdj [.one (Cell.int x), .one (Cell.int a), .one (Cell.int b)] = some [.one (Cell.bool (inR x a b))] := by
  refine out_of (H := []) (run_fdj_of 0 ?_)
  simp only [fdj, inR]
  by_cases h : a ≤ x
  · rw [decide_eq_true (by omega : x ≥ a), cond_true, Bool.true_and]
  · rw [decide_eq_false (by omega : ¬ x ≥ a), cond_false, Bool.false_and]
theorem c_fax (x a b : Int) : out run_fax [.one (Cell.int x), .one (Cell.int a), .one (Cell.int b)] = some [.one (Cell.bool (inR x a b))] := by
  refine out_of (H := []) (run_fax_of 0 ?_)
  simp only [fax, inR]
  by_cases h : a ≤ x
  · rw [decide_eq_true (by omega : x ≥ a), cond_true, Bool.true_and]
  · rw [decide_eq_false (by omega : ¬ x ≥ a), cond_false, Bool.false_and]
theorem c_fdk (b : UInt8) : out run_fdk [.one (.sc (.int .u8 (b.toNat : Int)))] = some [.one (Cell.bool (isSmall b))] := by
  have := u8_lt b
  refine out_of (H := []) (run_fdk_of 0 ?_)
  simp only [fdk, wrap_small (n := (b.toNat : Int)) (by omega) (by omega), c_fdj, EV0, isSmall]
theorem c_fdi (b : UInt8) : out run_fdi [.one (.sc (.int .u8 (b.toNat : Int)))] = some [.one (Cell.bool (isFigure b))] := by
  have := u8_lt b
  refine out_of (H := []) (run_fdi_of 0 ?_)
  simp only [fdi, wrap_small (n := (b.toNat : Int)) (by omega) (by omega), c_fdj, EV0, isFigure]
theorem c_fba (b : UInt8) : out run_fba [.one (.sc (.int .u8 (b.toNat : Int)))] = some [.one (Cell.bool (isSmall b))] := by
  refine out_of (H := []) (run_fba_of 0 ?_)
  simp only [fba, isSmall, inR]
  by_cases h : (97 : Int) ≤ b.toNat
  · rw [decide_eq_true (by omega : (b.toNat : Int) ≥ 97), cond_true, Bool.true_and]
  · rw [decide_eq_false (by omega : ¬ (b.toNat : Int) ≥ 97), cond_false, Bool.false_and]
theorem c_fay (b : UInt8) : out run_fay [.one (.sc (.int .u8 (b.toNat : Int)))] = some [.one (Cell.bool (isFigure b))] := by
  refine out_of (H := []) (run_fay_of 0 ?_)
  simp only [fay, isFigure, inR]
  by_cases h : (48 : Int) ≤ b.toNat
  · rw [decide_eq_true (by omega : (b.toNat : Int) ≥ 48), cond_true, Bool.true_and]
  · rw [decide_eq_false (by omega : ¬ (b.toNat : Int) ≥ 48), cond_false, Bool.false_and]
def splitGo (c : UInt8) (cur : Str) : Str → List Str
  | [] => [cur]
  | b :: r => if b = c then cur :: splitGo c [] r else splitGo c (cur ++ [b]) r
def split (c : UInt8) (s : Str) : List Str := splitGo c [] s
def ahead (c : UInt8) (s : Str) : Str := s.takeWhile (· != c)
def behind (c : UInt8) (s : Str) : Str := (s.dropWhile (· != c)).drop 1
theorem splitGo_length (c : UInt8) : ∀ (s cur : Str), (splitGo c cur s).length ≤ s.length + 1 ∧ ∀ x ∈ splitGo c cur s, x.length ≤ cur.length + s.length := by
  intro s
  induction s with
  | nil => intro cur; simp [splitGo]
  | cons b r ih =>
    intro cur
    simp only [splitGo]
    split
    · obtain ⟨h1, h2⟩ := ih []
      refine ⟨by simp; omega, fun x hx => ?_⟩
      rcases List.mem_cons.1 hx with rfl | hx
      · simp
      · have := h2 x hx; simp at this; simp; omega
    · obtain ⟨h1, h2⟩ := ih (cur ++ [b])
      refine ⟨by simp; omega, fun x hx => ?_⟩
      have := h2 x hx; simp at this; simp; omega
theorem splitGo_not {c : UInt8} : ∀ {s : Str} (cur : Str), c ∉ s → splitGo c cur s = [cur ++ s] := by
  intro s
  induction s with
  | nil => intro cur _; simp [splitGo]
  | cons b r ih =>
    intro cur h
    simp only [List.mem_cons, not_or] at h
    simp only [splitGo]
    rw [if_neg fun e => h.1 e.symm, ih _ h.2]
    simp
theorem splitGo_cut {c : UInt8} : ∀ {s : Str} (cur : Str), c ∈ s → splitGo c cur s = (cur ++ ahead c s) :: splitGo c [] (behind c s) := by
  intro s
  induction s with
  | nil => intro cur h; simp at h
  | cons b r ih =>
    intro cur h
    simp only [splitGo]
    by_cases e : b = c
    · subst e
      simp [ahead, behind]
    · rw [if_neg e, ih _ (by simpa [Ne.symm e] using h)]
      simp [ahead, behind, e]
theorem split_not {c : UInt8} {s : Str} (h : c ∉ s) : split c s = [s] := splitGo_not [] h
theorem split_cut {c : UInt8} {s : Str} (h : c ∈ s) : split c s = ahead c s :: split c (behind c s) := splitGo_cut [] h
theorem splitGo_ne {c : UInt8} : ∀ (s cur : Str), splitGo c cur s ≠ [] := by
  intro s
  induction s with
  | nil => intro cur; simp [splitGo]
  | cons b r ih => intro cur; simp only [splitGo]; split <;> simp [ih]
theorem ahead_le (c : UInt8) (s : Str) : (ahead c s).length ≤ s.length := by
  have := (List.takeWhile_prefix (fun x => x != c) (l := s)).length_le
  exact this
theorem behind_le (c : UInt8) (s : Str) : (behind c s).length ≤ s.length := by
  have := (List.dropWhile_suffix (fun x => x != c) (l := s)).length_le
  simp only [behind, List.length_drop]
  omega
theorem ahead_not {c : UInt8} (s : Str) : c ∉ ahead c s := by
  induction s with
  | nil => simp [ahead]
  | cons b r ih =>
    unfold ahead
    rw [List.takeWhile_cons]
    split
    · rename_i h
      intro hm
      rcases List.mem_cons.1 hm with e | e
      · rw [← e] at h; simp at h
      · exact ih e
    · simp
theorem c_fdg (s : Str) (c : UInt8) (hs : s.length ≤ 1073741824) : outL run_fdg [.one (Cell.str (bs s)), .one (.sc (.int .u8 (c.toNat : Int)))] = some [.one (strsC (split c s))] := by
  have hM := maxLen_eq
  have loop : ∀ (r : Str) (i from' n : Nat) (cur : Str) (cl : Cell) (H : List Entry) (done : List Str), s.drop i = r → from' ≤ i → i ≤ s.length → (s.take i).drop from' = cur → r.length + 1 < n → Grow 1 cl H (done.map eStr) → done.length ≤ i →
      ∀ k m, ∃ cl' H', fdg_l0 k m n (bs s) (c.toNat : Int) cl from' i H = some ([.one cl'], H') ∧ Grow 1 cl' H' ((done ++ splitGo c cur r).map eStr) := by
    intro r
    induction r with
    | nil =>
      intro i from' n cur cl H done hd hf hi hc hn hg hdl k m
      obtain ⟨n, rfl⟩ : ∃ j, n = j + 2 := ⟨n - 2, by omega⟩
      have hlen := drop_nil hd
      have e : i = s.length := by omega
      subst e
      obtain ⟨p, hp, hgp⟩ := hg.app (by' := 16) [eStr cur] (by simp [bound]; omega) (by simp [bound]; omega)
      refine ⟨p.1, p.2, ?_, by simpa [splitGo] using hgp⟩
      simp only [fdg_l0, bs_size]
      rw [decide_eq_true (by omega), cond_true, show (((s.length : Nat) : Int) == (s.length : Int)) = true by simp, cond_true, subS_bs _ _ _ hf (Nat.le_refl _), hc]
      simp only [Option.bind_some]
      rw [show [[Cell.str (bs cur)]] = [eStr cur] from rfl, hp]
      simp only [Option.bind_some]
      rw [wrap_succ (by omega), decide_eq_false (by omega), cond_false]
    | cons b r ih =>
      intro i from' n cur cl H done hd hf hi hc hn hg hdl k m
      obtain ⟨n, rfl⟩ : ∃ j, n = j + 1 := ⟨n - 1, by omega⟩
      obtain ⟨hlt, hgx, hd'⟩ := drop_cons hd
      simp only [List.length_cons] at hn
      simp only [fdg_l0, bs_size, bytS_bs, hgx, Option.map_some, Option.bind_some]
      rw [decide_eq_true (by omega), cond_true, show (((i : Nat) : Int) == (s.length : Int)) = false by simp; omega, cond_false, wrap_succ (by omega)]
      have hbc : ((b.toNat : Int) == (c.toNat : Int)) = decide (b = c) := by
        rw [Bool.eq_iff_iff]
        simp only [beq_iff_eq, decide_eq_true_eq]
        exact ⟨fun h => UInt8.toNat_inj.1 (by omega), fun h => by rw [h]⟩
      rw [hbc]
      by_cases e : b = c
      · rw [decide_eq_true e, cond_true, subS_bs _ _ _ hf (by omega), hc]
        simp only [Option.bind_some]
        obtain ⟨p, hp, hgp⟩ := hg.app (by' := 16) [eStr cur] (by simp [bound]; omega) (by simp [bound]; omega)
        rw [show [[Cell.str (bs cur)]] = [eStr cur] from rfl, hp]
        simp only [Option.bind_some]
        obtain ⟨cl', H', h1, h2⟩ := ih (i + 1) (i + 1) n [] p.1 p.2 (done ++ [cur]) hd' (Nat.le_refl _) (by omega) (by simp) (by omega) (by simpa using hgp) (by simp; omega) k m
        refine ⟨cl', H', h1, ?_⟩
        simpa [splitGo, e] using h2
      · rw [decide_eq_false e, cond_false]
        obtain ⟨cl', H', h1, h2⟩ := ih (i + 1) from' n (cur ++ [b]) cl H done hd' (by omega) (by omega) (by
          rw [← hc, List.take_add_one, hgx]
          simp only [Option.toList_some]
          rw [List.drop_append_of_le_length (by simp; omega)]) (by omega) hg (by omega) k m
        refine ⟨cl', H', h1, ?_⟩
        simpa [splitGo, e] using h2
  obtain ⟨cl', H', h1, h2⟩ := loop s 0 0 (s.length + 1 + 1) [] (.lst true 1 []) [] [] rfl (by omega) (by omega) rfl (by omega) (.nil 1) (by simp) (s.length + 1 + 1) (s.length + 1 + 1)
  refine outL_of (run_fdg_of (s.length + 1) (by simpa [fdg] using h1)) ?_
  exact h2.read
theorem ahead_all {c : UInt8} {s : Str} (h : c ∉ s) : ahead c s = s := by
  induction s with
  | nil => rfl
  | cons b r ih =>
    simp only [List.mem_cons, not_or] at h
    have : ahead c (b :: r) = b :: ahead c r := by simp [ahead, Ne.symm h.1]
    rw [this, ih h.2]
theorem behind_none {c : UInt8} {s : Str} (h : c ∉ s) : behind c s = [] := by
  induction s with
  | nil => rfl
  | cons b r ih =>
    simp only [List.mem_cons, not_or] at h
    have : behind c (b :: r) = behind c r := by simp [behind, Ne.symm h.1]
    rw [this, ih h.2]
def trimP (p s : Str) : Str := if p.isPrefixOf s then s.drop p.length else s
theorem bytS_head (b : UInt8) (r : Str) : bytS (bs (b :: r)) 0 = some (b.toNat : Int) := by
  have := bytS_bs (b :: r) 0
  simpa using this
theorem indexByte_eq (c : UInt8) (s : Str) : Lib.indexByte s c = if c ∈ s then ((ahead c s).length : Int) else -1 := by
  induction s with
  | nil => rfl
  | cons b r ih =>
    simp only [Lib.indexByte]
    by_cases e : b = c
    · subst e
      simp [ahead]
    · have e1 : (b == c) = false := by simpa using e
      simp only [e1, Bool.false_eq_true, if_false]
      have e2 : ahead c (b :: r) = b :: ahead c r := by simp [ahead, e]
      by_cases h : c ∈ r
      · rw [if_pos h] at ih
        rw [ih, if_neg (by simp <;> omega), if_pos (List.mem_cons_of_mem _ h), e2]
        simp
      · rw [if_neg h] at ih
        rw [ih, if_pos (by simp), if_neg]
        intro hm
        rcases List.mem_cons.1 hm with q | q
        · exact e q.symm
        · exact h q
theorem take_ahead (c : UInt8) (s : Str) : s.take (ahead c s).length = ahead c s :=
  (List.prefix_iff_eq_take.1 (List.takeWhile_prefix _)).symm
theorem ahead_lt {c : UInt8} {s : Str} (h : c ∈ s) : (ahead c s).length < s.length := by
  have h1 := ahead_le c s
  rcases Nat.lt_or_ge (ahead c s).length s.length with h2 | h2
  · exact h2
  · have h3 := take_ahead c s
    rw [List.take_of_length_le h2] at h3
    rw [h3] at h
    exact absurd h (ahead_not s)
theorem drop_behind (c : UInt8) (s : Str) : s.drop ((ahead c s).length + 1) = behind c s := by
  have h : s = ahead c s ++ s.dropWhile (· != c) := (List.takeWhile_append_dropWhile).symm
  have h2 : s.drop (ahead c s).length = s.dropWhile (· != c) := by
    rw [congrArg (List.drop (ahead c s).length) h, List.drop_left]
  rw [← List.drop_drop, h2]
  rfl
theorem c_fbr (s : Str) (c : UInt8) : out run_fbr [.one (Cell.str (bs s)), .one (.sc (.int .u8 (c.toNat : Int)))] = some [.one (Cell.int (Lib.indexByte s c))] := by
  simp [out, run_fbr]
theorem c_fbq (s : Str) (c : UInt8) : out run_fbq [.one (Cell.str (bs s)), .one (Cell.str (bs [c]))] = some [.one (Cell.int (Lib.indexByte s c))] := by
  refine out_of (H := []) (run_fbq_of 0 ?_)
  simp only [fbq, bytS_head, c_fbr, EV0]
  rw [show (((0 + 1 : Nat) : Int) == 0) = false from rfl, show (((0 + 1 : Nat) : Int) == 1) = true from rfl, cond_false, cond_true]
  by_cases h : [c] = s
  · rw [← h]
    simp [Lib.indexByte]
  · rw [show ([c] == s) = false by simpa using h, cond_false]
def cutV (c : UInt8) (s : Str) : List AV := if c ∈ s then [.one (Cell.str (bs (ahead c s))), .one (Cell.str (bs (behind c s))), .one (Cell.bool true)] else [.one (Cell.str (bs s)), .one (Cell.str (bs [])), .one (Cell.bool false)]
theorem c_fbn (s : Str) (c : UInt8) (hs : s.length ≤ 1073741824) : out run_fbn [.one (Cell.str (bs s)), .one (Cell.str (bs [c]))] = some (cutV c s) := by
  refine out_of (H := []) (run_fbn_of 0 ?_)
  simp only [fbn, c_fbq, EV0]
  rw [indexByte_eq]
  unfold cutV
  by_cases h : c ∈ s
  · have h1 := ahead_lt h
    rw [if_pos h, if_pos h, decide_eq_true (by omega), cond_true]
    have e1 := subS_bs s 0 (ahead c s).length (by omega) (by omega)
    simp only [Int.natCast_zero, List.drop_zero, take_ahead] at e1
    rw [e1]
    simp only [Option.bind_some]
    rw [show (((ahead c s).length : Int) + ((0 + 1 : Nat) : Int)) = (((ahead c s).length + 1 : Nat) : Int) by omega, wrap_small (by omega) (by omega), subS_bs s _ _ (by omega) (Nat.le_refl _), List.take_length, drop_behind]
    rfl
  · rw [if_neg h, if_neg h, decide_eq_false (by omega), cond_false]
theorem c_fei (s : Str) (c : UInt8) (hs : s.length ≤ 1073741824) : out run_fei [.one (Cell.str (bs s)), .one (Cell.str (bs [c]))] = some (cutV c s) := by
  refine out_of (H := []) (run_fei_of 0 ?_)
  simp only [fei, c_fbn s c hs, EV0]
  unfold cutV
  by_cases h : c ∈ s
  · simp only [if_pos h, EV0]
  · simp only [if_neg h, EV0]
theorem c_fbp (s p : Str) : out run_fbp [.one (Cell.str (bs s)), .one (Cell.str (bs p))] = some [.one (Cell.bool (p.isPrefixOf s))] := by
  refine out_of (H := []) (run_fbp_of 0 ?_)
  simp only [fbp, EV0]
  by_cases h : p.length ≤ s.length
  · have e1 := subS_bs s 0 p.length (by omega) h
    simp only [Int.natCast_zero, List.drop_zero] at e1
    rw [decide_eq_true (by omega), cond_true, e1]
    simp only [EV0]
    congr 5
    rw [Bool.eq_iff_iff, List.isPrefixOf_iff_prefix, List.prefix_iff_eq_take, beq_iff_eq]
    exact eq_comm
  · rw [decide_eq_false (by omega), cond_false]
    congr 5
    symm
    rw [← Bool.not_eq_true, List.isPrefixOf_iff_prefix]
    exact fun hp => h hp.length_le
def lt (a b : Str) : Bool := Op.bytesLess a b
theorem lt_self (a : Str) : lt a a = false := by
  unfold lt
  induction a with
  | nil => rfl
  | cons x a ih => simp [Op.bytesLess, ih]
theorem lt_not : ∀ (a b : Str), (lt a b || a == b) = !lt b a := by
  unfold lt
  intro a
  induction a with
  | nil => intro b; cases b <;> rfl
  | cons x a ih =>
    intro b
    cases b with
    | nil => rfl
    | cons y b =>
      have h := ih b
      simp only [Op.bytesLess]
      have e : ((x :: a) == (y :: b)) = (x == y && a == b) := rfl
      rw [e]
      rcases Nat.lt_trichotomy x.toNat y.toNat with h1 | h1 | h1
      · have e1 : decide (x < y) = true := by simpa [UInt8.lt_iff_toNat_lt] using h1
        have e2 : decide (y < x) = false := by simp [UInt8.lt_iff_toNat_lt]; omega
        have e3 : (y == x) = false := by simp; intro e; rw [e] at h1; omega
        simp [e1, e2, e3]
      · have e0 := UInt8.toNat_inj.1 h1
        subst e0
        have e1 : decide (x < x) = false := by simp
        simp only [e1, Bool.false_or, beq_self_eq_true, Bool.true_and, h]
      · have e1 : decide (y < x) = true := by simpa [UInt8.lt_iff_toNat_lt] using h1
        have e2 : decide (x < y) = false := by simp [UInt8.lt_iff_toNat_lt]; omega
        have e3 : (x == y) = false := by simp; intro e; rw [e] at h1; omega
        simp [e1, e2, e3]
theorem bl_eq (a b : Str) : Op.bytesLess a b = lt a b := rfl
theorem wrap_pred {i : Nat} (h : i < Go.maxLen) : IntKind.i64.wrap (((i + 1 : Nat) : Int) - 1) = (i : Int) := by
  have := maxLen_eq
  rw [wrap_small (by omega) (by omega)]
  omega
def idxF {α : Type} (p : α → Bool) : List α → Nat → Int
  | [], _ => -1
  | x :: r, i => cond (p x) (i : Int) (idxF p r (i + 1))
theorem idxF_find {α : Type} (p : α → Bool) : ∀ (l : List α) (i : Nat), (idxF p l i = -1 ∧ l.find? p = none) ∨ ∃ (j : Nat) (x : α), idxF p l i = ((i + j : Nat) : Int) ∧ l[j]? = some x ∧ l.find? p = some x := by
  intro l
  induction l with
  | nil => intro i; exact .inl ⟨rfl, rfl⟩
  | cons b r ih =>
    intro i
    by_cases e : p b = true
    · exact .inr ⟨0, b, by simp [idxF, e], rfl, by simp [e]⟩
    · rcases ih (i + 1) with ⟨h1, h2⟩ | ⟨j, x, h1, h2, h3⟩
      · exact .inl ⟨by simp [idxF, e, h1], by simp [e, h2]⟩
      · exact .inr ⟨j + 1, x, by simp only [idxF, Bool.eq_false_iff.2 e, cond_false, h1]; congr 1; omega, by simpa using h2, by simp [e, h3]⟩
theorem c_fdm (x : MVer) (hx : x.Bd 1048576) : outL run_fdm [.agg [Cell.int x.A, Cell.int x.B, Cell.int x.C, strsC x.Pre]] = some [.agg [Cell.int x.A, Cell.int x.B, Cell.int x.C, strsC x.Pre]] := by
  obtain ⟨b0, b1, b2, b3⟩ := hx
  have l1 := b3.1
  have hs : ∀ (xs : List Str) H, srcRows H 1 (strsC xs) = some (xs.map eStr) := fun xs H => by simp [srcRows, rowsOf, encL]
  obtain ⟨c1, E1, i1, e1, r1, w1, g1⟩ := clone_rep (sz := 1) (by' := 16) (e := eStr) (tr := trStr) ([] : List Entry) x.Pre (fun _ _ => rfl) (fun _ _ _ => Sp.leaf1 _) (by unfold bound; omega) (by unfold bound; omega)
  have hs' : Sp (Rep ([] ++ E1) true true 2) (i1 ++ []) [Cell.int x.A, Cell.int x.B, Cell.int x.C, c1] x.tr :=
    by
    unfold MVer.tr
    exact Sp.cons (i := []) (leaf_reps _) (Sp.cons (i := []) (leaf_reps _) (Sp.cons (i := []) (leaf_reps _) (Sp.cons r1 .nil)))
  refine outL_of (H := [] ++ E1) (xs := [.agg [Cell.int x.A, Cell.int x.B, Cell.int x.C, c1]]) (run_fdm_of 0 ?_) ?_
  · simp only [fdm, hs, e1, EV0]
  · have := mapO_c (reify_agg hs' (by omega)) (mapO_nil' (reifyAV false ([] ++ E1)))
    simpa only [MVer.tr, List.map_cons, List.map_nil, leaf_cell, trL_cell] using this
def m_PickOf (l : List MPick) (s : Str) : MVer × Bool := match l.find? (fun p => p.Name == s) with
  | some p => (p.V, true)
  | none => (⟨0, 0, 0, []⟩, false)
theorem b_PickOf (l : List MPick) (hl : bdL 1048576 (MPick.Bd 1048576) l) (s : Str) (hs : bdS 1048576 s) : (m_PickOf l s).1.Bd 1048576 := by
  unfold m_PickOf
  split
  · rename_i r h
    exact (hl.2 r (List.mem_of_find?_eq_some h)).2
  · exact ⟨by simp [bdI], by simp [bdI], by simp [bdI], ⟨by simp, by simp⟩⟩
theorem c_fdd (l : List MPick) (hl : bdL 1048576 (MPick.Bd 1048576) l) (s : Str) (hs : bdS 1048576 s) : outL run_fdd [.one (encL 5 MPick.enc l), .one (Cell.str (bs s))] = some [.agg [Cell.int (m_PickOf l s).1.A, Cell.int (m_PickOf l s).1.B, Cell.int (m_PickOf l s).1.C, strsC (m_PickOf l s).1.Pre], .one (Cell.bool (m_PickOf l s).2)] := by
  have hM := maxLen_eq
  have hxl := hl.1
  have loop : ∀ (r : List MPick) (i n : Nat), l.drop i = r → r.length < n → (∀ x ∈ r, x.Bd 1048576) → ∀ k m, ∃ ys, fdd_l0 k m n (encL 5 MPick.enc l) (bs s) i = some (ys, []) ∧
      mapO (reifyAV false []) ys = some [.agg [Cell.int (m_PickOf r s).1.A, Cell.int (m_PickOf r s).1.B, Cell.int (m_PickOf r s).1.C, strsC (m_PickOf r s).1.Pre], .one (Cell.bool (m_PickOf r s).2)] := by
    intro r
    induction r with
    | nil =>
      intro i n hd hn hb k m
      obtain ⟨n, rfl⟩ : ∃ j, n = j + 1 := ⟨n - 1, by omega⟩
      have := drop_nil hd
      refine ⟨_, by simp only [fdd_l0, lenC_encL, Option.bind_some]; rw [decide_eq_false (by omega), cond_false], ?_⟩
      rfl
    | cons x r ih =>
      intro i n hd hn hb k m
      obtain ⟨n, rfl⟩ : ∃ j, n = j + 1 := ⟨n - 1, by omega⟩
      obtain ⟨hlt, hg, hd'⟩ := drop_cons hd
      simp only [List.length_cons] at hn
      have hx := hb x List.mem_cons_self
      by_cases e : x.Name = s
      · have hm : m_PickOf (x :: r) s = (x.V, true) := by simp [m_PickOf, e]
        refine ⟨_, ?_, mapO_canon [.agg [Cell.int x.V.A, Cell.int x.V.B, Cell.int x.V.C, strsC x.V.Pre], .one (Cell.bool true)] _ _ |>.trans (by rw [hm])⟩
        simp only [fdd_l0, lenC_encL, idxA_encL, hg, MPick.enc, c_fdm x.V hx.2, fldA_ref, Nat.zero_add, EV0]
        rw [decide_eq_true (by omega), cond_true, show (x.Name == s) = true by simpa using e, cond_true]
      · have hm : m_PickOf (x :: r) s = m_PickOf r s := by simp [m_PickOf, e]
        obtain ⟨ys, h1, h2⟩ := ih (i + 1) n hd' (by omega) (fun y hy => hb y (List.mem_cons_of_mem _ hy)) k m
        refine ⟨ys, ?_, by rw [hm]; exact h2⟩
        simp only [fdd_l0, lenC_encL, idxA_encL, hg, MPick.enc, fldA_ref, Nat.zero_add, EV0]
        rw [decide_eq_true (by omega), cond_true, show (x.Name == s) = false by simpa using e, cond_false, wrap_succ (by omega)]
        exact h1
  obtain ⟨ys, h1, h2⟩ := loop l 0 (l.length + 1 + 1) rfl (by omega) hl.2 (l.length + 1 + 1) (l.length + 1 + 1)
  refine outL_of (H := []) (run_fdd_of (l.length + 1) ?_) h2
  simpa [fdd] using h1
theorem c_fbf (l : List MPick) (hl : l.length ≤ 1073741824) (s : Str) : out run_fbf [.one (encL 5 MPick.enc l), .one (Cell.str (bs s))] = some [.one (Cell.int (idxF (fun p => p.Name == s) l 0))] := by
  have hM := maxLen_eq
  have hc : ∀ x : MPick, run_fbg [.agg [Cell.str (bs x.Name), Cell.int x.V.A, Cell.int x.V.B, Cell.int x.V.C, strsC x.V.Pre], .one (.ptr 0 1 0 0 0)] [Entry.mk 1 [[Cell.str (bs s)]] 0 false] = some ([.one (Cell.bool (x.Name == s))], [Entry.mk 1 [[Cell.str (bs s)]] 0 false]) := by
    intro x
    refine run_fbg_of 0 ?_
    simp [fbg, deref, entry?, cS]
  have loop : ∀ (r : List MPick) (i n : Nat), l.drop i = r → r.length < n → ∀ k m, slices_IndexFunc_Pick_fbg_l0 k m n (encL 5 MPick.enc l) (.ptr 0 1 0 0 0) l.length i [Entry.mk 1 [[Cell.str (bs s)]] 0 false] = some ([.one (Cell.int (idxF (fun p => p.Name == s) r i))], [Entry.mk 1 [[Cell.str (bs s)]] 0 false]) := by
    intro r
    induction r with
    | nil =>
      intro i n hd hn k m
      obtain ⟨n, rfl⟩ : ∃ j, n = j + 1 := ⟨n - 1, by omega⟩
      have := drop_nil hd
      simp only [slices_IndexFunc_Pick_fbg_l0]
      rw [decide_eq_false (by omega), cond_false]
      rfl
    | cons x r ih =>
      intro i n hd hn k m
      obtain ⟨n, rfl⟩ : ∃ j, n = j + 1 := ⟨n - 1, by omega⟩
      obtain ⟨hlt, hg, hd'⟩ := drop_cons hd
      simp only [List.length_cons] at hn
      simp only [slices_IndexFunc_Pick_fbg_l0, idxA_encL, hg, MPick.enc, hc, Nat.zero_add, EV0]
      rw [decide_eq_true (by omega), cond_true, wrap_succ (by omega), ih (i + 1) n hd' (by omega)]
      simp only [idxF]
      cases x.Name == s <;> rfl
  refine out_of (H := [Entry.mk 1 [[Cell.str (bs s)]] 0 false]) (run_fbf_of 0 ?_)
  have h := run_slices_IndexFunc_Pick_fbg_of (c1 := encL 5 MPick.enc l) (q2 := .ptr 0 1 0 0 0) (H := [Entry.mk 1 [[Cell.str (bs s)]] 0 false]) (l.length + 1) (by
    simpa [slices_IndexFunc_Pick_fbg] using loop l 0 (l.length + 1 + 1) rfl (by omega) (l.length + 1 + 1) (l.length + 1 + 1))
  simp only [fbf, h, EV0]
open Classical in
theorem index_one (c : UInt8) : ∀ s : Str, Lib.index s [c] = Lib.indexByte s c
  | [] => rfl
  | b :: r => by
    unfold Lib.index Lib.indexByte
    rw [index_one c r]
    have : ([c] : Str).isPrefixOf (b :: r) = (b == c) := by
      simp only [List.isPrefixOf, Bool.and_true]
      rw [Bool.eq_iff_iff, beq_iff_eq, beq_iff_eq]
      exact eq_comm
    rw [this]
theorem c_strings_IndexM (s p : Str) (hs : s.length ≤ 1073741824) : out run_fek [.one (Cell.str (bs s)), .one (Cell.str (bs p))] = some [.one (Cell.int (Lib.index s p))] := by
  refine out_of (H := []) ?_
  show run_indexM _ _ = _
  simp only [run_indexM, bs_data]
  rw [if_pos (by rw [bs_size]; omega)]
theorem c_fek (s : Str) (c : UInt8) (hs : s.length ≤ 1073741824) : out run_fek [.one (Cell.str (bs s)), .one (Cell.str (bs [c]))] = some [.one (Cell.int (Lib.indexByte s c))] := by
  rw [c_strings_IndexM s [c] hs, index_one]
theorem c_feh (s : Str) (c : UInt8) : out run_feh [.one (Cell.str (bs s)), .one (Cell.str (bs [c]))] = some [.one (Cell.int ((s.count c : Nat) : Int))] := by
  refine out_of (H := []) ?_
  show run_countM _ _ = _
  simp only [run_countM, bs_data]
  rfl
theorem count_cut {c : UInt8} {s : Str} (h : c ∈ s) : s.count c = (behind c s).count c + 1 := by
  induction s with
  | nil => simp at h
  | cons b r ih =>
    by_cases e : b = c
    · subst e
      simp [behind, List.dropWhile_cons]
    · have hr : c ∈ r := by
        rcases List.mem_cons.1 h with h | h
        · exact absurd h.symm e
        · exact h
      have hb : behind c (b :: r) = behind c r := by
        have : (b != c) = true := by simpa using e
        simp [behind, List.dropWhile_cons, this]
      rw [hb, List.count_cons, ih hr]
      simp [e]
theorem count_not {c : UInt8} {s : Str} (h : c ∉ s) : s.count c = 0 := List.count_eq_zero.2 h
theorem split_len (c : UInt8) : ∀ (n : Nat) (s : Str), s.length ≤ n → (split c s).length = s.count c + 1 := by
  intro n
  induction n with
  | zero =>
    intro s h
    have : s = [] := List.eq_nil_of_length_eq_zero (by omega)
    subst this
    rfl
  | succ n ih =>
    intro s h
    by_cases hc : c ∈ s
    · have hl : (behind c s).length < s.length := by
        have := ahead_lt hc
        have h2 := drop_behind c s
        rw [← h2, List.length_drop]
        omega
      rw [split_cut hc, List.length_cons, ih _ (by omega), count_cut hc]
    · rw [split_not hc, count_not hc]
      rfl
theorem r_fep (s : Str) (c : UInt8) (hs : s.length ≤ 1073741824) : run_fep [.one (Cell.str (bs s)), .one (Cell.str (bs [c])), .one (Cell.int 0), .one (Cell.int (-1))] [] = some ([.one (.vs 0 1 0 (s.count c + 1) 0)], [Entry.mk 1 ((split c s).map eStr) 0 false]) := by
  have hM := maxLen_eq
  have hct : s.count c ≤ s.length := List.count_le_length
  have hsl := split_len c s.length s (Nat.le_refl _)
  have hput : ∀ (rows : List (List Cell)) (i : Nat) (row : List Cell) (y : Str), rows[i]? = some row → row.length = 1 → hStore [Entry.mk 1 rows 0 false] (.ptr 0 1 i 0 0) [Cell.str (bs y)] = some [Entry.mk 1 (rows.set i (eStr y)) 0 false] := by
    intro rows i row y h hr
    simp only [hStore, entry?, List.getElem?_cons_zero, if_true, h]
    rw [if_pos ⟨trivial, by simp, trivial⟩]
    simp [splice, eStr, hr, List.drop_eq_nil_of_le]
  have loop : ∀ (d : Nat) (r : Str) (done : List Str) (n : Nat), r.count c = d → done.length + d = s.count c → r.length ≤ s.length → split c s = done ++ split c r → d < n → ∀ k m,
      fep_l0 k m n (bs r) (bs [c]) 0 ((s.count c : Nat) : Int) (.vs 0 1 0 (s.count c + 1) 0) ((done.length : Nat) : Int) [Entry.mk 1 (done.map eStr ++ List.replicate (d + 1) [Cell.str (bs [])]) 0 false] =
        some ([.one (.vs 0 1 0 (s.count c + 1) 0)], [Entry.mk 1 ((split c s).map eStr) 0 false]) := by
    intro d
    induction d with
    | zero =>
      intro r done n hc hd hr hsp hn k m
      obtain ⟨n, rfl⟩ : ∃ j, n = j + 1 := ⟨n - 1, by omega⟩
      have hnc : c ∉ r := List.count_eq_zero.1 hc
      simp only [fep_l0]
      rw [decide_eq_false (by omega), cond_false]
      have hrow : (done.map eStr ++ List.replicate (0 + 1) [Cell.str (bs [])])[done.length]? = some [Cell.str (bs [])] := by simp
      simp only [idxA_vs 0 1 (s.count c + 1) 0 done.length (by omega), Option.bind_some, hput _ _ _ r hrow rfl]
      have hset : (done.map eStr ++ List.replicate (0 + 1) [Cell.str (bs [])]).set done.length (eStr r) = (split c s).map eStr := by
        rw [hsp, split_not hnc, List.set_append_right _ _ (by simp)]
        simp
      rw [hset, show IntKind.i64.wrap ((done.length : Int) + 1) = ((s.count c + 1 : Nat) : Int) by rw [wrap_succ (by omega)]; omega]
      have hsl' : slcC 1 (.vs 0 1 0 (s.count c + 1) 0) 0 (some ((s.count c + 1 : Nat) : Int)) none = some (.vs 0 1 0 (s.count c + 1) 0) := by
        simp only [slcC, Option.getD_some, Option.getD_none, if_true]
        rw [if_pos ⟨by omega, by omega, by omega, by omega⟩, if_pos (.inl trivial)]
        simp
      rw [hsl']
      rfl
    | succ d ih =>
      intro r done n hc hd hr hsp hn k m
      obtain ⟨n, rfl⟩ : ∃ j, n = j + 1 := ⟨n - 1, by omega⟩
      have hmem : c ∈ r := by
        rcases Classical.em (c ∈ r) with h | h
        · exact h
        · have := count_not h; omega
      have hal := ahead_lt hmem
      have hbl := behind_le c r
      simp only [fep_l0]
      rw [decide_eq_true (by omega), cond_true]
      have e0 : Lib.indexByte r c = ((ahead c r).length : Int) := by rw [indexByte_eq, if_pos hmem]
      simp only [c_fek r c (by omega), e0, EV0]
      rw [decide_eq_false (by omega), cond_false]
      have e1 := subS_bs r 0 (ahead c r).length (by omega) (by omega)
      simp only [Int.natCast_zero, List.drop_zero, take_ahead] at e1
      rw [show IntKind.i64.wrap (((ahead c r).length : Int) + 0) = ((ahead c r).length : Int) by rw [Int.add_zero]; exact wrap_small (by omega) (by omega), e1]
      have hrow : (done.map eStr ++ List.replicate (d + 1 + 1) [Cell.str (bs [])])[done.length]? = some [Cell.str (bs [])] := by simp
      simp only [Option.bind_some, idxA_vs 0 1 (s.count c + 1) 0 done.length (by omega), hput _ _ _ (ahead c r) hrow rfl]
      have e2 := subS_bs r ((ahead c r).length + 1) r.length (by omega) (Nat.le_refl _)
      rw [List.take_length, drop_behind] at e2
      rw [show IntKind.i64.wrap (((ahead c r).length : Int) + ((0 + 1 : Nat) : Int)) = (((ahead c r).length + 1 : Nat) : Int) by rw [wrap_small (by omega) (by omega)]; omega, e2, wrap_succ (by omega)]
      simp only [Option.bind_some]
      have hset : (done.map eStr ++ List.replicate (d + 1 + 1) [Cell.str (bs [])]).set done.length (eStr (ahead c r)) = (done ++ [ahead c r]).map eStr ++ List.replicate (d + 1) [Cell.str (bs [])] := by
        rw [List.set_append_right _ _ (by simp)]
        simp [List.replicate_succ]
      rw [hset]
      have := ih (behind c r) (done ++ [ahead c r]) n (by have := count_cut hmem; omega) (by simp; omega) (by omega) (by rw [hsp, split_cut hmem]; simp) (by omega) k m
      rw [show (done ++ [ahead c r]).length = done.length + 1 by simp] at this
      exact this
  have hmin : (if IntKind.i64.wrap ((s.length : Int) + 1) < IntKind.i64.wrap (((s.count c : Nat) : Int) + 1) then IntKind.i64.wrap ((s.length : Int) + 1) else IntKind.i64.wrap (((s.count c : Nat) : Int) + 1)) = ((s.count c + 1 : Nat) : Int) := by
    rw [wrap_succ (by omega), wrap_succ (by omega), if_neg (by omega)]
  have z := loop (s.count c) s [] (s.count c + 1 + 1) rfl (by simp) (Nat.le_refl _) (by simp) (by omega) (s.count c + 1 + 1) (s.count c + 1 + 1)
  refine run_fep_of (s.count c + 1) ?_
  · simp only [fep]
    rw [show ((-1 : Int) == 0) = false from rfl, cond_false]
    simp only [bs_toList]
    rw [show (([c] : Str) == []) = false from rfl, cond_false, show decide ((-1 : Int) < 0) = true from rfl, cond_true]
    simp only [c_feh, EV0, hmin]
    rw [if_pos ⟨by omega, by omega, by unfold bound; omega, by unfold bound; omega⟩]
    rw [show IntKind.i64.wrap (((s.count c + 1 : Nat) : Int) - 1) = ((s.count c : Nat) : Int) from wrap_pred (by omega)]
    simpa [mkRows] using z
theorem f_fep (s : Str) (c : UInt8) (hs : s.length ≤ 1073741824) : Fresh run_fep true 2 [.one (Cell.str (bs s)), .one (Cell.str (bs [c])), .one (Cell.int 0), .one (Cell.int (-1))] [.one (trL 1 trStr (split c s))] := by
  have hg : GrowAt ([] : List Entry).length 1 (.vs 0 1 0 (s.count c + 1) 0) [Entry.mk 1 ((split c s).map eStr) 0 false] ((split c s).map eStr) := .inr ⟨0, by rw [List.length_map, split_len c s.length s (Nat.le_refl _)]; rfl, rfl⟩
  obtain ⟨ids, r1, r2, _⟩ := hg.list
  exact Fresh.one (r_fep s c hs) r1 r2
theorem f_fem (s : Str) (c : UInt8) (hs : s.length ≤ 1073741824) : Fresh run_fem true 2 [.one (Cell.str (bs s)), .one (Cell.str (bs [c]))] [.one (trL 1 trStr (split c s))] := by
  refine Fresh.tailO (f_fep s c hs) [] (mapO_canon _ _ _) fun c' E hc => run_fem_of 0 ?_
  simp only [fem, hc, EV0]
theorem c_fbo (s p : Str) : out run_fbo [.one (Cell.str (bs s)), .one (Cell.str (bs p))] = some [.one (Cell.str (bs (trimP p s))), .one (Cell.bool (p.isPrefixOf s))] := by
  refine out_of (H := []) (run_fbo_of 0 ?_)
  simp only [fbo, c_fbp, EV0]
  unfold trimP
  cases h : p.isPrefixOf s with
  | true =>
    have hl := (List.isPrefixOf_iff_prefix.1 h).length_le
    rw [Bool.not_true, cond_false, subS_bs s _ _ hl (Nat.le_refl _), List.take_length]
    rfl
  | false => rfl
theorem c_fej (s p : Str) : out run_fej [.one (Cell.str (bs s)), .one (Cell.str (bs p))] = some [.one (Cell.str (bs (trimP p s))), .one (Cell.bool (p.isPrefixOf s))] := by
  refine out_of (H := []) (run_fej_of 0 ?_)
  simp only [fej, c_fbo, EV0]
def b16 (n : Nat) : Str := [UInt8.ofNat (n / 256), UInt8.ofNat n]
def numT (n : Nat) : Str := Lib.decDigits n
theorem decDigits_lt {u : Nat} (h : u < 10) : Lib.decDigits u = [UInt8.ofNat (48 + u)] := by
  unfold Lib.decDigits
  rw [dif_pos h]
theorem decDigits_ge {u : Nat} (h : ¬ u < 10) : Lib.decDigits u = Lib.decDigits (u / 10) ++ [UInt8.ofNat (48 + u % 10)] := by
  rw [Lib.decDigits, dif_neg h]
theorem numT_le (n : Nat) (h : n ≤ 1099511627776) : (numT n).length ≤ 21 := by
  have := Lib.itoa_length_le (n : Int) (by omega) (by omega)
  have e : Lib.itoa (n : Int) = numT n := by unfold Lib.itoa numT; rw [if_neg (by omega)]; simp
  rwa [e] at this
def BytM (H : List Entry) (c : Cell) (b : Str) : Prop := ∃ ids, Rep H true true 2 ids c (trL 1 trByte b) ∧ ids.Nodup
theorem BytM.nil (H : List Entry) : BytM H (.lst true 1 []) [] := ⟨[], .inl ⟨rfl, rfl, true, rfl⟩, by simp⟩
theorem BytM.read {H : List Entry} {c : Cell} {b : Str} (h : BytM H c b) : reifyAV false H (.one c) = some (.one (bytesC b)) := by
  obtain ⟨ids, h, _⟩ := h
  have := reify_one h (by omega)
  rwa [trL_cell] at this
theorem BytM.of {H E : List Entry} {c : Cell} {b : Str} {is : List Nat} {lo hi : Nat} (h : Rep (H ++ E) true true 2 is c (trL 1 trByte b)) (w : Mine lo hi is) : BytM (H ++ E) c b := ⟨is, h, w.nd⟩
theorem Grow.bytes {c : Cell} {H : List Entry} {b : Str} (h : Grow 1 c H (b.map eByte)) : ∃ ids, Rep H true true 2 ids c (trL 1 trByte b) ∧ ids.Nodup := by
  obtain ⟨ids, h1, h2, _⟩ := h.rep (tr := trByte) (fun _ _ => rfl) (fun x _ H' => Sp.leaf1 _)
  exact ⟨ids, h1, h2⟩
theorem c_fai (n : Nat) (hn : n ≤ 1099511627776) : out run_fai [.one (Cell.int n)] = some [.one (Cell.str (bs (numT n)))] := by
  have e : out run_feg [.one (Cell.int n)] = some [.one (Cell.str (bs (numT n)))] := by
    refine out_of (H := []) ?_
    show run_itoa _ _ = _
    simp only [run_itoa]
    rw [if_pos ⟨by omega, by omega⟩]
    have : Lib.itoa (n : Int) = numT n := by unfold Lib.itoa numT; rw [if_neg (by omega)]; simp
    rw [this]
    rfl
  refine out_of (H := []) (run_fai_of 0 ?_)
  simp only [fai]
  rw [if_neg (by omega)]
  simp only [e, EV0]
theorem Grow.at {sz : Nat} {c : Cell} {H : List Entry} {rows : List (List Cell)} {i : Nat} {row : List Cell} (h : Grow sz c H rows) (hr : rows[i]? = some row) : ∃ a, idxA sz c (i : Int) = some a ∧ deref H a = some (row, 0) := by
  have hlt := (List.getElem?_eq_some_iff.1 hr).1
  rcases h with ⟨rfl, _, _⟩ | ⟨ep, rfl, rfl⟩
  · simp at hr
  · exact ⟨.ptr 0 sz i 0 ep, idxA_vs _ _ _ _ _ hlt, by simp [deref, entry?, hr]⟩
theorem Grow.len {sz : Nat} {c : Cell} {H : List Entry} {rows : List (List Cell)} (h : Grow sz c H rows) : lenC c = some rows.length := by
  rcases h with ⟨rfl, rfl, _⟩ | ⟨ep, rfl, rfl⟩ <;> rfl
def digits : Str → Nat → Nat
  | [], n => n
  | b :: r, n => digits r (n * 10 + (b.toNat - 48))
def parseNum (s : Str) (most : Nat) : Option Nat :=
  if s.all isFigure = true ∧ 1 ≤ s.length ∧ s.length ≤ 7 ∧ (s.length = 1 ∨ s.head? ≠ some 48) ∧ digits s 0 ≤ most then some (digits s 0) else none
theorem figure_num {b : UInt8} (h : isFigure b = true) : 48 ≤ b.toNat ∧ b.toNat ≤ 57 := by
  unfold isFigure inR at h
  simp only [Bool.and_eq_true, decide_eq_true_eq] at h
  omega
theorem digits_app : ∀ (s t : Str) (n : Nat), digits (s ++ t) n = digits t (digits s n) := by
  intro s
  induction s with
  | nil => intro t n; rfl
  | cons b r ih => intro t n; exact ih t _
theorem digits_le : ∀ (s : Str) (n N : Nat), (∀ b ∈ s, isFigure b = true) → n < 10 ^ N → digits s n < 10 ^ (N + s.length) := by
  intro s
  induction s with
  | nil => intro n N _ h; exact h
  | cons b r ih =>
    intro n N h hn
    have h2 := figure_num (h b List.mem_cons_self)
    have h1 := ih (n * 10 + (b.toNat - 48)) (N + 1) (fun x hx => h x (List.mem_cons_of_mem _ hx)) (by rw [Nat.pow_succ]; omega)
    simp only [digits, List.length_cons]
    rw [show N + (r.length + 1) = N + 1 + r.length by omega]
    exact h1
theorem figure_of {n : Nat} (h : n < 10) : isFigure (UInt8.ofNat (48 + n)) = true := by
  unfold isFigure inR
  simp only [Bool.and_eq_true, decide_eq_true_eq, UInt8.toNat_ofNat']
  omega
theorem numT_shape : ∀ n : Nat, (numT n).all isFigure = true ∧ 1 ≤ (numT n).length ∧ ((numT n).length = 1 ∨ (numT n).head? ≠ some 48) ∧ digits (numT n) 0 = n ∧ (0 < n → (numT n).head? ≠ some 48) := by
  intro n
  induction n using Nat.strongRecOn with
  | _ n ih =>
    unfold numT at ih ⊢
    by_cases h : n < 10
    · rw [decDigits_lt h]
      refine ⟨by rw [List.all_cons, figure_of h, List.all_nil]; rfl, by simp, .inl rfl, ?_, ?_⟩
      · simp only [digits, UInt8.toNat_ofNat']
        omega
      · intro h0 e
        simp only [List.head?_cons, Option.some.injEq] at e
        have := congrArg UInt8.toNat e
        simp only [UInt8.toNat_ofNat'] at this
        have h48 : (48 : UInt8).toNat = 48 := rfl
        omega
    · rw [decDigits_ge h]
      obtain ⟨i1, i2, i3, i4, i5⟩ := ih (n / 10) (by omega)
      have hh : (Lib.decDigits (n / 10) ++ [UInt8.ofNat (48 + n % 10)]).head? = (Lib.decDigits (n / 10)).head? := by
        cases hd : Lib.decDigits (n / 10) with
        | nil => rw [hd] at i2; simp at i2
        | cons x r => rfl
      have i6 := i5 (by omega)
      refine ⟨?_, by simp, .inr ?_, ?_, fun _ => ?_⟩
      · rw [List.all_append, i1]
        rw [List.all_cons, figure_of (show n % 10 < 10 by omega), List.all_nil]
        rfl
      · rw [hh]; exact i6
      · rw [digits_app, i4]
        simp only [digits, UInt8.toNat_ofNat']
        omega
      · rw [hh]; exact i6
theorem numT_digits : ∀ (k : Nat) (s : Str), s.length = k → (∀ b ∈ s, isFigure b = true) → 1 ≤ s.length → (s.length = 1 ∨ s.head? ≠ some 48) → numT (digits s 0) = s := by
  intro k
  induction k with
  | zero => intro s h1 _ h2 _; omega
  | succ k ih =>
    intro s h1 h2 h3 h4
    have hne : s ≠ [] := by intro h; subst h; simp at h3
    obtain ⟨t, d, rfl⟩ : ∃ t d, s = t ++ [d] := ⟨s.dropLast, s.getLast hne, (List.dropLast_concat_getLast hne).symm⟩
    have hd := figure_num (h2 d (by simp))
    simp only [List.length_append, List.length_cons, List.length_nil] at h1 h4
    have hdd : UInt8.ofNat (48 + (d.toNat - 48)) = d := by
      apply UInt8.toNat_inj.1
      simp only [UInt8.toNat_ofNat']
      have := d.toNat_lt
      omega
    by_cases ht : t = []
    · subst ht
      simp only [List.nil_append, digits]
      unfold numT
      rw [decDigits_lt (by omega), show 0 * 10 + (d.toNat - 48) = d.toNat - 48 by omega, hdd]
    · have htl := List.length_pos_iff.2 ht
      have hhead : t.head? ≠ some 48 := by
        rcases h4 with h4 | h4
        · omega
        · cases t with
          | nil => exact absurd rfl ht
          | cons x r => exact h4
      have i1 := ih t (by omega) (fun b hb => h2 b (List.mem_append_left _ hb)) htl (.inr hhead)
      have hpos : 1 ≤ digits t 0 := by
        rcases Nat.eq_zero_or_pos (digits t 0) with h | h
        · rw [h] at i1
          have : numT 0 = [48] := by unfold numT; rw [decDigits_lt (by omega)]; rfl
          rw [this] at i1
          rw [← i1] at hhead
          exact absurd rfl hhead
        · exact h
      rw [digits_app]
      simp only [digits]
      unfold numT at i1 ⊢
      rw [decDigits_ge (by omega), show (digits t 0 * 10 + (d.toNat - 48)) / 10 = digits t 0 by omega, i1, show (digits t 0 * 10 + (d.toNat - 48)) % 10 = d.toNat - 48 by omega, hdd]
theorem parseNum_sound {s : Str} {k most : Nat} (h : parseNum s most = some k) : s = numT k ∧ k ≤ most ∧ s.length ≤ 7 := by
  unfold parseNum at h
  split at h
  · rename_i hc
    obtain ⟨h1, h2, h3, h4, h5⟩ := hc
    simp only [Option.some.injEq] at h
    subst h
    exact ⟨(numT_digits _ s rfl (List.all_eq_true.1 h1) h2 h4).symm, h5, h3⟩
  · simp at h
def numV (o : Option Nat) : List AV := match o with
  | some k => [.one (Cell.int (k : Int)), .one (Cell.bool true)]
  | none => [.one (Cell.int 0), .one (Cell.bool false)]
theorem fig_sub {x : UInt8} (h : isFigure x = true) : IntKind.i64.wrap (IntKind.u8.wrap ((x.toNat : Int) - 48)) = ((x.toNat - 48 : Nat) : Int) := by
  have h1 := figure_num h
  have e : ((x.toNat : Int) - 48) = ((x.toNat - 48 : Nat) : Int) := by omega
  rw [e, wrap_u8]
  have : (UInt8.ofNat (x.toNat - 48)).toNat = x.toNat - 48 := by simp only [UInt8.toNat_ofNat']; omega
  rw [this]
  exact wrap_small (by omega) (by omega)
theorem c_fda (s : Str) (most : Nat) (hs : s.length ≤ 1073741824) (hm : most ≤ 1073741824) : out run_fda [.one (Cell.str (bs s)), .one (Cell.int most)] = some (numV (parseNum s most)) := by
  have hM := maxLen_eq
  have fin : ∀ (v : Nat), s.length ≤ 7 → s.all isFigure = true → v = digits s 0 → ((callS run_fdj [.one (Cell.int (s.length : Int)), .one (Cell.int 1), .one (Cell.int 7)] []).bind fun r14 =>
    cond (shapeOk rk_fdj r14)
    ((cB (cellsAt r14 0) 0).bind fun b15 =>
    cond (!b15)
    (some ([AV.one (Cell.int 0), AV.one (Cell.bool false)], []))
    (cond (decide ((s.length : Int) > 1))
    ((bytS (bs s) 0).bind fun i16 =>
    cond (i16 == 48)
    (some ([AV.one (Cell.int 0), AV.one (Cell.bool false)], []))
    (cond (decide ((v : Int) > (most : Int)))
    (some ([AV.one (Cell.int 0), AV.one (Cell.bool false)], []))
    (some ([AV.one (Cell.int (v : Int)), AV.one (Cell.bool true)], ([] : List Entry)))))
    (cond (decide ((v : Int) > (most : Int)))
    (some ([AV.one (Cell.int 0), AV.one (Cell.bool false)], []))
    (some ([AV.one (Cell.int (v : Int)), AV.one (Cell.bool true)], [])))))
    none) = some (numV (parseNum s most), []) := by
    intro v h7 ha hv
    simp only [c_fdj, EV0]
    unfold parseNum
    cases s with
    | nil => rfl
    | cons x r =>
      rw [show inR (((x :: r : Str).length : Nat) : Int) 1 7 = true by
        unfold inR
        rw [decide_eq_true (by simp only [List.length_cons]; omega), decide_eq_true (by omega)]
        rfl, Bool.not_true, cond_false]
      by_cases h1 : r = []
      · subst h1
        rw [decide_eq_false (by simp), cond_false]
        by_cases hm : v ≤ most
        · rw [decide_eq_false (by omega), cond_false, if_pos ⟨ha, by simp, by simp, .inl rfl, by omega⟩, hv]
          rfl
        · rw [decide_eq_true (by omega), cond_true, if_neg fun h => hm (by omega)]
          rfl
      · have hr := List.length_pos_iff.2 h1
        rw [decide_eq_true (by simp; omega), cond_true, bytS_head]
        simp only [Option.bind_some]
        rw [show ((x.toNat : Int) == 48) = (x == 48) from u8_eq x 48 (by omega)]
        cases hx : x == 48 with
        | true =>
          have : x = 48 := by simpa using hx
          rw [cond_true, if_neg]
          · rfl
          · rintro ⟨_, _, _, h, _⟩
            rcases h with h | h
            · simp only [List.length_cons] at h; omega
            · rw [this] at h; exact h rfl
        | false =>
          have : x ≠ 48 := by simpa using hx
          rw [cond_false]
          by_cases hm : v ≤ most
          · rw [decide_eq_false (by omega), cond_false, if_pos ⟨ha, by simp, h7, .inr (by simpa using this), by omega⟩, hv]
            rfl
          · rw [decide_eq_true (by omega), cond_true, if_neg fun h => hm (by omega)]
            rfl
  have loop : ∀ (r : Str) (i n a : Nat), s.drop i = r → i ≤ 8 → r.length < n → (s.take i).all isFigure = true → a = digits (s.take i) 0 → ∀ k m, fda_l0 k m n (bs s) most a i = some (numV (parseNum s most), []) := by
    intro r
    induction r with
    | nil =>
      intro i n a hd hi hn ht ha k m
      obtain ⟨n, rfl⟩ : ∃ j, n = j + 1 := ⟨n - 1, by omega⟩
      have h1 := drop_nil hd
      rw [List.take_of_length_le h1] at ht ha
      simp only [fda_l0, bs_size]
      rw [decide_eq_false (by omega), cond_false]
      by_cases h7 : s.length ≤ 7
      · exact fin a h7 ht ha
      · simp only [c_fdj, EV0]
        rw [show inR (s.length : Int) 1 7 = false by
          unfold inR
          rw [decide_eq_false (p := (s.length : Int) ≤ 7) (by omega), Bool.and_false]]
        unfold parseNum
        rw [if_neg fun h => h7 h.2.2.1]
        rfl
    | cons x r ih =>
      intro i n a hd hi hn ht ha k m
      obtain ⟨n, rfl⟩ : ∃ j, n = j + 1 := ⟨n - 1, by omega⟩
      obtain ⟨hlt, hx, hd'⟩ := drop_cons hd
      simp only [List.length_cons] at hn
      simp only [fda_l0, bs_size]
      rw [decide_eq_true (by omega), cond_true]
      by_cases h8 : i < 8
      · rw [decide_eq_true (by omega), cond_true]
        simp only [bytS_bs, hx, Option.map_some, c_fdi, EV0]
        cases hf : isFigure x with
        | false =>
          simp only [Bool.not_false, cond_true]
          unfold parseNum
          rw [if_neg]
          · rfl
          · rintro ⟨h, _⟩
            have := List.all_eq_true.1 h x (List.mem_of_getElem? hx)
            rw [hf] at this
            simp at this
        | true =>
          have hsn : s.take (i + 1) = s.take i ++ [x] := by rw [List.take_add_one, hx]; rfl
          have hal : a < 10 ^ 8 := by
            rw [ha]
            refine Nat.lt_of_lt_of_le (digits_le (s.take i) 0 0 (List.all_eq_true.1 ht) (by simp)) ?_
            rw [Nat.zero_add]
            refine Nat.pow_le_pow_right (by omega) ?_
            rw [List.length_take]
            omega
          have hf2 := figure_num hf
          simp only [Bool.not_true, cond_false]
          rw [fig_sub hf, wrap_small (n := (a : Int) * 10) (by omega) (by omega), wrap_small (by omega) (by omega), wrap_succ (by omega), show (a : Int) * 10 + ((x.toNat - 48 : Nat) : Int) = ((a * 10 + (x.toNat - 48) : Nat) : Int) by omega]
          refine ih (i + 1) n _ hd' (by omega) (by omega) ?_ ?_ k m
          · rw [hsn, List.all_append, ht, List.all_cons, hf, List.all_nil]
            rfl
          · rw [hsn, digits_app, ← ha]
            rfl
      · rw [decide_eq_false (by omega), cond_false]
        simp only [c_fdj, EV0]
        rw [show inR (s.length : Int) 1 7 = false by
          unfold inR
          rw [decide_eq_false (p := (s.length : Int) ≤ 7) (by omega), Bool.and_false]]
        unfold parseNum
        rw [if_neg fun h => by have := h.2.2.1; omega]
        rfl
  refine out_of (H := []) (run_fda_of (s.length + 1) ?_)
  have := loop s 0 (s.length + 1 + 1) 0 rfl (by omega) (by omega) (by simp) (by simp [digits]) (s.length + 1 + 1) (s.length + 1 + 1)
  simpa [fda] using this
theorem c_faj (s : Str) (most : Nat) (hs : s.length ≤ 1073741824) (hm : most ≤ 1073741824) : out run_faj [.one (Cell.str (bs s)), .one (Cell.int most)] = some (numV (parseNum s most)) := by
  have hM := maxLen_eq
  by_cases h17 : 1 ≤ s.length ∧ s.length ≤ 7
  · obtain ⟨h1, h7⟩ := h17
    have loop : ∀ (r : Str) (i n a : Nat), s.drop i = r → r.length < n → (s.take i).all isFigure = true → a = digits (s.take i) 0 → ∀ k m, faj_l0 k m n (bs s) most a i = some (numV (parseNum s most), []) := by
      intro r
      induction r with
      | nil =>
        intro i n a hd hn ht ha k m
        obtain ⟨n, rfl⟩ : ∃ j, n = j + 1 := ⟨n - 1, by omega⟩
        have h2 := drop_nil hd
        rw [List.take_of_length_le h2] at ht ha
        have hal : a < 10 ^ 7 := by
          rw [ha]
          refine Nat.lt_of_lt_of_le (digits_le s 0 0 (List.all_eq_true.1 ht) (by simp)) ?_
          rw [Nat.zero_add]
          exact Nat.pow_le_pow_right (by omega) h7
        simp only [faj_l0, bs_size]
        rw [decide_eq_false (by omega), cond_false]
        simp only [c_fai a (by omega), EV0]
        by_cases hc : s.length = 1 ∨ s.head? ≠ some 48
        · have e := numT_digits _ s rfl (List.all_eq_true.1 ht) h1 hc
          rw [ha, e, show (s == s) = true by simp, Bool.not_true, cond_false]
          unfold parseNum
          by_cases hm : digits s 0 ≤ most
          · rw [decide_eq_false (by omega), cond_false, if_pos ⟨ht, h1, h7, hc, hm⟩]
            rfl
          · rw [decide_eq_true (by omega), cond_true, if_neg fun h => hm h.2.2.2.2]
            rfl
        · have hne : (numT a == s) = false := by
            rw [beq_eq_false_iff_ne]
            intro e
            have := (numT_shape a).2.2.1
            rw [e] at this
            exact hc this
          rw [hne, Bool.not_false, cond_true]
          unfold parseNum
          rw [if_neg fun h => hc h.2.2.2.1]
          rfl
      | cons x r ih =>
        intro i n a hd hn ht ha k m
        obtain ⟨n, rfl⟩ : ∃ j, n = j + 1 := ⟨n - 1, by omega⟩
        obtain ⟨hlt, hx, hd'⟩ := drop_cons hd
        simp only [List.length_cons] at hn
        simp only [faj_l0, bs_size]
        rw [decide_eq_true (by omega), cond_true]
        simp only [bytS_bs, hx, Option.map_some, c_fay, EV0]
        cases hf : isFigure x with
        | false =>
          simp only [Bool.not_false, cond_true]
          unfold parseNum
          rw [if_neg]
          · rfl
          · rintro ⟨h, _⟩
            have := List.all_eq_true.1 h x (List.mem_of_getElem? hx)
            rw [hf] at this
            simp at this
        | true =>
          have hsn : s.take (i + 1) = s.take i ++ [x] := by rw [List.take_add_one, hx]; rfl
          have hal : a < 10 ^ 8 := by
            rw [ha]
            refine Nat.lt_of_lt_of_le (digits_le (s.take i) 0 0 (List.all_eq_true.1 ht) (by simp)) ?_
            rw [Nat.zero_add]
            refine Nat.pow_le_pow_right (by omega) ?_
            rw [List.length_take]
            omega
          have hf2 := figure_num hf
          simp only [Bool.not_true, cond_false]
          rw [fig_sub hf, wrap_small (n := (a : Int) * 10) (by omega) (by omega), wrap_small (by omega) (by omega), wrap_succ (by omega), show (a : Int) * 10 + ((x.toNat - 48 : Nat) : Int) = ((a * 10 + (x.toNat - 48) : Nat) : Int) by omega]
          refine ih (i + 1) n _ hd' (by omega) ?_ ?_ k m
          · rw [hsn, List.all_append, ht, List.all_cons, hf, List.all_nil]
            rfl
          · rw [hsn, digits_app, ← ha]
            rfl
    refine out_of (H := []) (run_faj_of (s.length + 1) ?_)
    have z := loop s 0 (s.length + 1 + 1) 0 rfl (by omega) (by simp) (by simp [digits]) (s.length + 1 + 1) (s.length + 1 + 1)
    simp only [faj, bs_size, c_fax, EV0]
    rw [show inR (s.length : Int) 1 7 = true by
      unfold inR
      rw [decide_eq_true (by omega), decide_eq_true (by omega)]
      rfl, Bool.not_true, cond_false]
    exact z
  · refine out_of (H := []) (run_faj_of 0 ?_)
    simp only [faj, bs_size, c_fax, EV0]
    rw [show inR (s.length : Int) 1 7 = false by
      unfold inR
      rcases Nat.lt_or_ge s.length 1 with h | h
      · rw [decide_eq_false (by omega), Bool.false_and]
      · rw [decide_eq_false (p := (s.length : Int) ≤ 7) (by omega), Bool.and_false]]
    unfold parseNum
    rw [if_neg fun h => h17 ⟨h.2.1, h.2.2.1⟩]
    rfl
def figV : Nat → Str → Bool
  | 0, _ => true
  | _, s => !(s == [])
def preCh (b : UInt8) : Bool := isFigure b || isSmall b || inR b.toNat 65 90 || b == 45
def preOkM (s : Str) : Bool := s.all preCh && (inR s.length 1 8 && (!s.all isFigure || s.length == 1 || s.head? != some 48))
def verOkM (a b c : Int) (pre : List Str) : Bool := pre.all preOkM && (inR a 0 9999 && (inR b 0 9999 && (inR c 0 9999 && decide (pre.length ≤ 3))))
def verTextM (a b c : Int) (pre : List Str) : Str :=
  if verOkM a b c pre then numT a.toNat ++ [46] ++ numT b.toNat ++ [46] ++ numT c.toNat ++ (if pre.length = 0 then [] else 45 :: Lib.join pre [46]) else []
theorem preOkM_len {s : Str} (h : preOkM s = true) : 1 ≤ s.length ∧ s.length ≤ 8 := by
  simp only [preOkM, Bool.and_eq_true, inR, decide_eq_true_eq] at h
  omega
theorem verOkM_inv {a b c : Int} {pre : List Str} (h : verOkM a b c pre = true) : (0 ≤ a ∧ a ≤ 9999) ∧ (0 ≤ b ∧ b ≤ 9999) ∧ (0 ≤ c ∧ c ≤ 9999) ∧ pre.length ≤ 3 ∧ ∀ x ∈ pre, x.length ≤ 8 := by
  simp only [verOkM, Bool.and_eq_true, inR, decide_eq_true_eq, List.all_eq_true] at h
  exact ⟨h.2.1, h.2.2.1, h.2.2.2.1, h.2.2.2.2, fun x hx => (preOkM_len (h.1 x hx)).2⟩
theorem joinTail_le {sep : Str} (hs : sep.length ≤ 1) : ∀ r : List Str, (∀ x ∈ r, x.length ≤ 8) → (Lib.joinTail sep r).length ≤ 9 * r.length
  | [], _ => by simp [Lib.joinTail]
  | x :: r, h => by
    have ih := joinTail_le hs r fun y hy => h y (List.mem_cons_of_mem _ hy)
    have hx := h x (List.mem_cons_self ..)
    simp only [Lib.joinTail, List.map_cons, List.flatten_cons, List.length_append, List.length_cons] at ih ⊢
    omega
theorem join_le {sep : Str} (hs : sep.length ≤ 1) (r : List Str) (h : ∀ x ∈ r, x.length ≤ 8) : (Lib.join r sep).length ≤ 9 * r.length := by
  cases r with
  | nil => simp [Lib.join_nil]
  | cons x r =>
    rw [Lib.join_cons, List.length_append]
    have := joinTail_le hs r fun y hy => h y (List.mem_cons_of_mem _ hy)
    have hx := h x (List.mem_cons_self ..)
    simp only [List.length_cons]
    omega
theorem c_fdn (s : Str) (hs : s.length ≤ 1073741824) : out run_fdn [.one (Cell.str (bs s))] = some [.one (Cell.bool (s.all isFigure && figV 0 s))] := by
  have hM := maxLen_eq
  have loop : ∀ (r : Str) (i n : Nat), s.drop i = r → r.length < n → ∀ k m, fdn_l0 k m n (bs s) i = some ([.one (Cell.bool (r.all isFigure && figV 0 s))], []) := by
    intro r
    induction r with
    | nil =>
      intro i n hd hn k m
      obtain ⟨n, rfl⟩ : ∃ j, n = j + 1 := ⟨n - 1, by omega⟩
      have := drop_nil hd
      simp only [fdn_l0, bs_size, bs_toList]
      rw [decide_eq_false (by omega), cond_false]
      simp [figV]
    | cons b r ih =>
      intro i n hd hn k m
      obtain ⟨n, rfl⟩ : ∃ j, n = j + 1 := ⟨n - 1, by omega⟩
      obtain ⟨hlt, hg, hd'⟩ := drop_cons hd
      simp only [List.length_cons] at hn
      simp only [fdn_l0, bytS_bs, hg, c_fdi, EV0]
      rw [decide_eq_true (by omega), cond_true, wrap_succ (by omega), ih (i + 1) n hd' (by omega)]
      simp only [List.all_cons]
      cases isFigure b <;> rfl
  refine out_of (H := []) (run_fdn_of (s.length + 1) ?_)
  have := loop s 0 (s.length + 1 + 1) rfl (by omega) (s.length + 1 + 1) (s.length + 1 + 1)
  simpa [fdn] using this
theorem c_faz (s : Str) (hs : s.length ≤ 1073741824) : out run_faz [.one (Cell.str (bs s))] = some [.one (Cell.bool (s.all isFigure && figV 1 s))] := by
  have hM := maxLen_eq
  have loop : ∀ (r : Str) (i n : Nat), s.drop i = r → r.length < n → ∀ k m, faz_l0 k m n (bs s) i = some ([.one (Cell.bool (r.all isFigure && figV 1 s))], []) := by
    intro r
    induction r with
    | nil =>
      intro i n hd hn k m
      obtain ⟨n, rfl⟩ : ∃ j, n = j + 1 := ⟨n - 1, by omega⟩
      have := drop_nil hd
      simp only [faz_l0, bs_size, bs_toList]
      rw [decide_eq_false (by omega), cond_false]
      simp [figV]
    | cons b r ih =>
      intro i n hd hn k m
      obtain ⟨n, rfl⟩ : ∃ j, n = j + 1 := ⟨n - 1, by omega⟩
      obtain ⟨hlt, hg, hd'⟩ := drop_cons hd
      simp only [List.length_cons] at hn
      simp only [faz_l0, bytS_bs, hg, c_fay, EV0]
      rw [decide_eq_true (by omega), cond_true, wrap_succ (by omega), ih (i + 1) n hd' (by omega)]
      simp only [List.all_cons]
      cases isFigure b <;> rfl
  refine out_of (H := []) (run_faz_of (s.length + 1) ?_)
  have := loop s 0 (s.length + 1 + 1) rfl (by omega) (s.length + 1 + 1) (s.length + 1 + 1)
  simpa [faz] using this
theorem c_fdq (s : Str) (hs : s.length ≤ 1073741824) : out run_fdq [.one (Cell.str (bs s))] = some [.one (Cell.bool (preOkM s))] := by
  have hM := maxLen_eq
  have loop : ∀ (r : Str) (i n : Nat), s.drop i = r → r.length < n → ∀ k m, fdq_l0 k m n (bs s) i = some ([.one (Cell.bool (r.all preCh && (inR s.length 1 8 && (!s.all isFigure || s.length == 1 || s.head? != some 48))))], []) := by
    intro r
    induction r with
    | nil =>
      intro i n hd hn k m
      obtain ⟨n, rfl⟩ : ∃ j, n = j + 1 := ⟨n - 1, by omega⟩
      have := drop_nil hd
      simp only [fdq_l0, bs_size]
      rw [decide_eq_false (by omega), cond_false]
      simp only [c_fdj, c_fdn s hs, figV, EV0, List.all_nil]
      cases hr : inR (s.length : Int) 1 8 with
      | false => rfl
      | true =>
        simp only [cond_true, Bool.true_and]
        cases hf : s.all isFigure with
        | false => rfl
        | true =>
          simp only [Bool.not_true, cond_false, Bool.false_or]
          cases s with
          | nil => simp [inR] at hr
          | cons x s =>
            have h0 : bytS (bs (x :: s)) 0 = some (x.toNat : Int) := by
              have := bytS_bs (x :: s) 0
              simpa using this
            have h48 : ((x.toNat : Int) != 48) = (x != 48) := u8_ne x 48 (by omega)
            have hl : (((x :: s).length : Int) == 1) = ((x :: s).length == 1) := by rw [Bool.eq_iff_iff]; simp only [beq_iff_eq]; omega
            have hh : ((x :: s).head? != some 48) = (x != 48) := by simp [bne]
            simp only [h0, h48, hl, hh, Option.bind_some]
            cases ((x :: s).length == 1) <;> simp
    | cons b r ih =>
      intro i n hd hn k m
      obtain ⟨n, rfl⟩ : ∃ j, n = j + 1 := ⟨n - 1, by omega⟩
      obtain ⟨hlt, hg, hd'⟩ := drop_cons hd
      simp only [List.length_cons] at hn
      have hb := u8_lt b
      have h45 : ((b.toNat : Int) != 45) = !(b == 45) := u8_ne b 45 (by omega)
      simp only [fdq_l0, bytS_bs, hg, c_fdi, c_fdk, c_fdj, wrap_small (n := (b.toNat : Int)) (by omega) (by omega), h45, EV0]
      rw [decide_eq_true (by omega), cond_true, wrap_succ (by omega), ih (i + 1) n hd' (by omega)]
      simp only [List.all_cons, preCh]
      cases isFigure b <;> cases isSmall b <;> cases (inR (b.toNat : Int) 65 90) <;> cases (b == 45) <;> rfl
  refine out_of (H := []) (run_fdq_of (s.length + 1) ?_)
  have := loop s 0 (s.length + 1 + 1) rfl (by omega) (s.length + 1 + 1) (s.length + 1 + 1)
  simpa [fdq, preOkM] using this
theorem c_fbh (s : Str) (hs : s.length ≤ 1073741824) : out run_fbh [.one (Cell.str (bs s))] = some [.one (Cell.bool (preOkM s))] := by
  have hM := maxLen_eq
  have loop : ∀ (r : Str) (i n : Nat), s.drop i = r → r.length < n → ∀ k m, fbh_l0 k m n (bs s) i = some ([.one (Cell.bool (r.all preCh && (inR s.length 1 8 && (!s.all isFigure || s.length == 1 || s.head? != some 48))))], []) := by
    intro r
    induction r with
    | nil =>
      intro i n hd hn k m
      obtain ⟨n, rfl⟩ : ∃ j, n = j + 1 := ⟨n - 1, by omega⟩
      have := drop_nil hd
      simp only [fbh_l0, bs_size]
      rw [decide_eq_false (by omega), cond_false]
      simp only [c_fax, c_faz s hs, figV, EV0, List.all_nil]
      cases hr : inR (s.length : Int) 1 8 with
      | false => rfl
      | true =>
        simp only [cond_true, Bool.true_and]
        cases s with
        | nil => simp [inR] at hr
        | cons x s =>
          cases hf : (x :: s).all isFigure with
          | false => rfl
          | true =>
            have h0 : bytS (bs (x :: s)) 0 = some (x.toNat : Int) := by
              have := bytS_bs (x :: s) 0
              simpa using this
            have h48 : ((x.toNat : Int) != 48) = (x != 48) := u8_ne x 48 (by omega)
            have hh : ((x :: s).head? != some 48) = (x != 48) := by simp [bne]
            simp only [h0, h48, hh, Option.bind_some]
            by_cases hx : x = 48
            · subst hx
              cases s <;> simp
            · have e1 : ((x :: s) == [48]) = false := by simp [hx]
              have e2 : (x != 48) = true := by simp [hx]
              rw [e1, e2]
              simp
    | cons b r ih =>
      intro i n hd hn k m
      obtain ⟨n, rfl⟩ : ∃ j, n = j + 1 := ⟨n - 1, by omega⟩
      obtain ⟨hlt, hg, hd'⟩ := drop_cons hd
      simp only [List.length_cons] at hn
      have hb := u8_lt b
      have h45 : ((b.toNat : Int) != 45) = !(b == 45) := u8_ne b 45 (by omega)
      simp only [fbh_l0, bytS_bs, hg, c_fay, c_fba, h45, EV0]
      rw [decide_eq_true (by omega), cond_true, wrap_succ (by omega), ih (i + 1) n hd' (by omega)]
      have hr : inR (b.toNat : Int) 65 90 = (decide ((b.toNat : Int) ≥ 65) && decide ((b.toNat : Int) ≤ 90)) := rfl
      simp only [List.all_cons, preCh, hr]
      cases isFigure b <;> cases isSmall b <;> cases (decide ((b.toNat : Int) ≥ 65)) <;> cases (decide ((b.toNat : Int) ≤ 90)) <;> cases (b == 45) <;> rfl
  refine out_of (H := []) (run_fbh_of (s.length + 1) ?_)
  have := loop s 0 (s.length + 1 + 1) rfl (by omega) (s.length + 1 + 1) (s.length + 1 + 1)
  simpa [fbh, preOkM] using this
theorem c_fdh (a b c : Int) (pre : List Str) (hp : bdL 1048576 (bdS 1048576) pre) : out run_fdh [.agg [Cell.int a, Cell.int b, Cell.int c, encL 1 eStr pre]] = some [.one (Cell.bool (verOkM a b c pre))] := by
  have hM := maxLen_eq
  have hl := hp.1
  have loop : ∀ (r : List Str) (i n : Nat), pre.drop i = r → r.length < n → ∀ k m, fdh_l0 k m n i a b c (encL 1 eStr pre) = some ([.one (Cell.bool (r.all preOkM && (inR a 0 9999 && (inR b 0 9999 && (inR c 0 9999 && decide (pre.length ≤ 3))))))], []) := by
    intro r
    induction r with
    | nil =>
      intro i n hd hn k m
      obtain ⟨n, rfl⟩ : ∃ j, n = j + 1 := ⟨n - 1, by omega⟩
      have := drop_nil hd
      simp only [fdh_l0, EV0]
      rw [decide_eq_false (by omega), cond_false]
      have h3 : decide ((pre.length : Int) ≤ 3) = decide (pre.length ≤ 3) := by rw [Bool.eq_iff_iff]; simp; omega
      simp only [c_fdj, h3, EV0, List.all_nil]
      cases inR a 0 9999 <;> cases inR b 0 9999 <;> cases inR c 0 9999 <;> rfl
    | cons x r ih =>
      intro i n hd hn k m
      obtain ⟨n, rfl⟩ : ∃ j, n = j + 1 := ⟨n - 1, by omega⟩
      obtain ⟨hlt, hg, hd'⟩ := drop_cons hd
      simp only [List.length_cons] at hn
      have hx : x.length ≤ 1073741824 := Nat.le_trans (hp.2 x (List.mem_of_getElem? hg)) (by omega)
      simp only [fdh_l0, EV0]
      rw [decide_eq_true (by omega), cond_true]
      simp only [idxA_encL, hg, eStr, c_fdq x hx, wrap_succ (show i < maxLen by omega), ih (i + 1) n hd' (by omega), EV0, List.all_cons]
      cases preOkM x <;> rfl
  refine out_of (H := []) (run_fdh_of (pre.length + 1) ?_)
  exact loop pre 0 (pre.length + 1 + 1) rfl (by omega) (pre.length + 1 + 1) (pre.length + 1 + 1)
theorem c_fao (a b c : Int) (pre : List Str) (hp : bdL 1048576 (bdS 1048576) pre) : out run_fao [.agg [Cell.int a, Cell.int b, Cell.int c, encL 1 eStr pre]] = some [.one (Cell.bool (verOkM a b c pre))] := by
  have hM := maxLen_eq
  have hl := hp.1
  have loop : ∀ (r : List Str) (i n : Nat), pre.drop i = r → r.length < n → ∀ k m, fao_l0 k m n (encL 1 eStr pre) pre.length i a b c (encL 1 eStr pre) = some ([.one (Cell.bool (r.all preOkM && (inR a 0 9999 && (inR b 0 9999 && (inR c 0 9999 && decide (pre.length ≤ 3))))))], []) := by
    intro r
    induction r with
    | nil =>
      intro i n hd hn k m
      obtain ⟨n, rfl⟩ : ∃ j, n = j + 1 := ⟨n - 1, by omega⟩
      have := drop_nil hd
      simp only [fao_l0, EV0]
      rw [decide_eq_false (by omega), cond_false]
      have h3 : decide ((pre.length : Int) ≤ 3) = decide (pre.length ≤ 3) := by rw [Bool.eq_iff_iff]; simp; omega
      simp only [c_fax, h3, EV0, List.all_nil]
      cases inR a 0 9999 <;> cases inR b 0 9999 <;> cases inR c 0 9999 <;> rfl
    | cons x r ih =>
      intro i n hd hn k m
      obtain ⟨n, rfl⟩ : ∃ j, n = j + 1 := ⟨n - 1, by omega⟩
      obtain ⟨hlt, hg, hd'⟩ := drop_cons hd
      simp only [List.length_cons] at hn
      have hx : x.length ≤ 1073741824 := Nat.le_trans (hp.2 x (List.mem_of_getElem? hg)) (by omega)
      simp only [fao_l0, EV0]
      rw [decide_eq_true (by omega), cond_true]
      simp only [idxA_encL, hg, eStr, c_fbh x hx, wrap_succ (show i < maxLen by omega), ih (i + 1) n hd' (by omega), EV0, List.all_cons]
      cases preOkM x <;> rfl
  refine out_of (H := []) (run_fao_of (pre.length + 1) ?_)
  simp only [fao, EV0]
  exact loop pre 0 (pre.length + 1 + 1) rfl (by omega) (pre.length + 1 + 1) (pre.length + 1 + 1)
theorem c_impl_VerText_join (xs : List Str) (sep : Str) (h1 : xs.length ≤ 3) (h2 : ∀ x ∈ xs, x.length ≤ 8) (h3 : sep.length ≤ 1) : out run_fel [.one (encL 1 eStr xs), .one (Cell.str (bs sep))] = some [.one (Cell.str (bs (Lib.join xs sep)))] := by
  have hj := join_le h3 xs h2
  refine out_of (H := []) ?_
  show run_join _ _ = _
  have e : strRows (xs.map eStr) = some xs := strRows_eStr xs
  simp only [encL, run_join, e, bs_data]
  rw [if_pos ⟨trivial, by omega, by omega⟩]
  rfl
theorem c_fap (a b c : Int) (pre : List Str) (hp : bdL 1048576 (bdS 1048576) pre) : out run_fap [.agg [Cell.int a, Cell.int b, Cell.int c, encL 1 eStr pre]] = some [.one (Cell.str (bs (verTextM a b c pre)))] := by
  refine out_of (H := []) (run_fap_of 0 ?_)
  simp only [fap, c_fao a b c pre hp, EV0, verTextM]
  cases ho : verOkM a b c pre with
  | false => rfl
  | true =>
    obtain ⟨h1, h2, h3, h4, h5⟩ := verOkM_inv ho
    obtain ⟨x, rfl⟩ : ∃ x : Nat, a = (x : Int) := ⟨a.toNat, by omega⟩
    obtain ⟨y, rfl⟩ : ∃ x : Nat, b = (x : Int) := ⟨b.toNat, by omega⟩
    obtain ⟨z, rfl⟩ : ∃ x : Nat, c = (x : Int) := ⟨c.toNat, by omega⟩
    have n1 := numT_le x (by omega)
    have n2 := numT_le y (by omega)
    have n3 := numT_le z (by omega)
    have j := join_le (sep := [46]) (by simp) pre h5
    have k1 : catS (bs (numT x)) (bs [46]) = some (bs (numT x ++ [46])) := catS_bs (by simp; omega)
    have k2 : catS (bs (numT x ++ [46])) (bs (numT y)) = some (bs (numT x ++ [46] ++ numT y)) := catS_bs (by simp; omega)
    have k3 : catS (bs (numT x ++ [46] ++ numT y)) (bs [46]) = some (bs (numT x ++ [46] ++ numT y ++ [46])) := catS_bs (by simp; omega)
    have k4 : catS (bs (numT x ++ [46] ++ numT y ++ [46])) (bs (numT z)) = some (bs (numT x ++ [46] ++ numT y ++ [46] ++ numT z)) := catS_bs (by simp; omega)
    have k5 : catS (bs (numT x ++ [46] ++ numT y ++ [46] ++ numT z)) (bs [45]) = some (bs (numT x ++ [46] ++ numT y ++ [46] ++ numT z ++ [45])) := catS_bs (by simp; omega)
    have k6 : catS (bs (numT x ++ [46] ++ numT y ++ [46] ++ numT z ++ [45])) (bs (Lib.join pre [46])) = some (bs (numT x ++ [46] ++ numT y ++ [46] ++ numT z ++ [45] ++ Lib.join pre [46])) := catS_bs (by simp; omega)
    have k7 : catS (bs [45]) (bs (Lib.join pre [46])) = some (bs ([45] ++ Lib.join pre [46])) := catS_bs (by simp; omega)
    have k8 : catS (bs (numT x ++ [46] ++ numT y ++ [46] ++ numT z)) (bs ([45] ++ Lib.join pre [46])) = some (bs (numT x ++ [46] ++ numT y ++ [46] ++ numT z ++ ([45] ++ Lib.join pre [46]))) := catS_bs (by simp; omega)
    simp only [Bool.not_true, cond_false, c_fai x (by omega), c_fai y (by omega), c_fai z (by omega), k1, k2, k3, k4, EV0, if_true, Int.toNat_natCast]
    by_cases hz : pre.length = 0
    · rw [decide_eq_false (by omega), cond_false, if_pos hz]
      simp
    · rw [decide_eq_true (by omega), cond_true, if_neg hz]
      simp only [c_impl_VerText_join pre [46] h4 h5 (by simp), k5, k6, k7, k8, EV0]
      try simp
theorem cut_eq {c : UInt8} : ∀ {s : Str}, c ∈ s → s = ahead c s ++ c :: behind c s
  | [], h => by simp at h
  | x :: s, h => by
    by_cases e : x = c
    · subst e
      simp [ahead, behind]
    · have h' : c ∈ s := by
        rcases List.mem_cons.1 h with h | h
        · exact absurd h.symm e
        · exact h
      have := cut_eq h'
      simp only [ahead, behind] at this ⊢
      have hx : (x != c) = true := by simp [e]
      rw [List.takeWhile_cons, List.dropWhile_cons, hx]
      simpa using this
theorem join_split (c : UInt8) : ∀ (n : Nat) (s : Str), s.length ≤ n → Lib.join (split c s) [c] = s := by
  intro n
  induction n with
  | zero =>
    intro s hs
    obtain rfl : s = [] := List.eq_nil_of_length_eq_zero (by omega)
    rw [split_not (by simp), Lib.join_one]
  | succ n ih =>
    intro s hs
    by_cases h : c ∈ s
    · have hlt : (behind c s).length ≤ n := by
        have := congrArg List.length (cut_eq h)
        simp only [List.length_append, List.length_cons] at this
        omega
      have ihb := ih (behind c s) hlt
      rw [split_cut h, Lib.join_cons]
      cases hsp : split c (behind c s) with
      | nil => exact absurd hsp (splitGo_ne _ _)
      | cons y r =>
        rw [hsp, Lib.join_cons] at ihb
        conv => rhs; rw [cut_eq h]
        rw [← ihb]
        simp [Lib.joinTail]
    · rw [split_not h, Lib.join_one]
def preOf (s : Str) : List Str := if 45 ∈ s then split 46 (behind 45 s) else []
def parseVer (s : Str) : MVer × Bool :=
  match split 46 (ahead 45 s) with
  | [x, y, z] => match parseNum x 9999, parseNum y 9999, parseNum z 9999 with
    | some a, some b, some c => if verOkM a b c (preOf s) then (⟨a, b, c, preOf s⟩, true) else (⟨0, 0, 0, []⟩, false)
    | _, _, _ => (⟨0, 0, 0, []⟩, false)
  | _ => (⟨0, 0, 0, []⟩, false)
theorem text_parse {s x y z : Str} {a b c : Nat} (h : split 46 (ahead 45 s) = [x, y, z]) (ha : parseNum x 9999 = some a) (hb : parseNum y 9999 = some b) (hc : parseNum z 9999 = some c) : (verTextM a b c (preOf s) == s) = verOkM a b c (preOf s) := by
  have hu := join_split 46 _ (ahead 45 s) (Nat.le_refl _)
  rw [h] at hu
  have hu2 : ahead 45 s = numT a ++ [46] ++ numT b ++ [46] ++ numT c := by
    rw [← hu, Lib.join_cons, (parseNum_sound ha).1, (parseNum_sound hb).1, (parseNum_sound hc).1]
    simp [Lib.joinTail]
  cases hok : verOkM a b c (preOf s) with
  | false =>
    have ht : verTextM a b c (preOf s) = [] := by rw [verTextM, hok]; rfl
    rw [ht]
    cases s with
    | nil => simp [ahead] at hu2
    | cons q s => rfl
  | true =>
    have ht : verTextM a b c (preOf s) = s := by
      rw [verTextM, hok]
      simp only [if_true, Int.toNat_natCast]
      rw [← hu2]
      by_cases hd : (45 : UInt8) ∈ s
      · have hp : preOf s = split 46 (behind 45 s) := if_pos hd
        have hne : (preOf s).length ≠ 0 := by
          rw [hp]
          intro h0
          exact splitGo_ne _ _ (List.eq_nil_of_length_eq_zero h0)
        rw [if_neg hne, hp, join_split 46 _ _ (Nat.le_refl _)]
        exact (cut_eq hd).symm
      · have hp : preOf s = [] := if_neg hd
        rw [hp, if_pos (by simp), List.append_nil, ahead_all hd]
    rw [ht]
    simp
theorem preOf_bd {s : Str} (hs : s.length ≤ 1048576) : bdL 1048576 (bdS 1048576) (preOf s) := by
  unfold preOf
  split
  · rename_i hm
    have h := splitGo_length 46 (behind 45 s) []
    have hb := behind_le 45 s
    have hlt : (behind 45 s).length + 1 ≤ s.length := by
      have := congrArg List.length (cut_eq hm)
      simp only [List.length_append, List.length_cons] at this
      omega
    refine ⟨by have := h.1; unfold split; omega, fun x hx => ?_⟩
    have := h.2 x hx
    simp only [List.length_nil, Nat.zero_add] at this
    exact Nat.le_trans this (by omega)
  · exact ⟨by simp, by simp⟩
theorem c_fdc (s : Str) (hs : s.length ≤ 1048576) : outL run_fdc [.one (Cell.str (bs s))] = some [.agg [Cell.int (parseVer s).1.A, Cell.int (parseVer s).1.B, Cell.int (parseVer s).1.C, strsC (parseVer s).1.Pre], .one (Cell.bool (parseVer s).2)] := by
  have hM := maxLen_eq
  have hal := ahead_le 45 s
  have hbl := behind_le 45 s
  have hget : ∀ i, i < (ahead 45 s).length → ∃ b : UInt8, s[i]? = some b ∧ b ≠ 45 := fun i hi => by
    have hna := ahead_not (c := 45) s
    refine ⟨(ahead 45 s)[i], ?_, fun e => by have hm := List.getElem_mem hi; rw [e] at hm; exact hna hm⟩
    have h1 : (ahead 45 s)[i]? = some (ahead 45 s)[i] := List.getElem?_eq_getElem hi
    rw [← h1, ← take_ahead 45 s, List.getElem?_take, if_pos hi]
  have loop : ∀ (d i n : Nat), i + d = (ahead 45 s).length → ∀ k m, fdc_l0 k m (n + d) (bs s) i = fdc_l0 k m n (bs s) (ahead 45 s).length := by
    intro d
    induction d with
    | zero => intro i n hi k m; obtain rfl : i = (ahead 45 s).length := by omega
              rfl
    | succ d ih =>
      intro i n hi k m
      obtain ⟨b, hb, hne⟩ := hget i (by omega)
      have h45' : ((b.toNat : Int) != 45) = !(b == 45) := u8_ne b 45 (by omega)
      have h45 : ((b.toNat : Int) != 45) = true := by rw [h45']; simp [hne]
      show fdc_l0 k m ((n + d) + 1) (bs s) i = _
      simp only [fdc_l0, bytS_bs, hb, bs_size, Option.map_some, Option.bind_some, h45, cond_true]
      rw [decide_eq_true (by have := (List.getElem?_eq_some_iff.1 hb).1; omega), cond_true, wrap_succ (by omega)]
      exact ih (i + 1) n (by omega) k m
  have hsplit : ∀ t : Str, t.length ≤ 1073741824 → outL run_fdg [.one (Cell.str (bs t)), .one (.sc (.int .u8 46))] = some [.one (strsC (split 46 t))] := fun t ht => c_fdg t 46 ht
  have hnum : ∀ x : Str, x.length ≤ 1073741824 → out run_fda [.one (Cell.str (bs x)), .one (Cell.int 9999)] = some (numV (parseNum x 9999)) := fun x hx => c_fda x 9999 hx (by omega)
  have hlen : ∀ x ∈ split 46 (ahead 45 s), x.length ≤ 1073741824 := fun x hx => by
    have := (splitGo_length 46 (ahead 45 s) []).2 x hx
    simp only [List.length_nil, Nat.zero_add] at this
    omega
  have hz : mapO (reifyAV false []) [.agg [Cell.int 0, Cell.int 0, Cell.int 0, .lst true 1 []], .one (Cell.bool false)] = some [.agg [Cell.int 0, Cell.int 0, Cell.int 0, strsC []], .one (Cell.bool false)] := rfl
  have h46 : subS (bs s) 0 ((ahead 45 s).length : Int) = some (bs (ahead 45 s)) := by
    have := subS_bs s 0 (ahead 45 s).length (Nat.zero_le _) hal
    rw [take_ahead, List.drop_zero] at this
    simpa using this
  by_cases hd : (45 : UInt8) ∈ s
  · have hlt := ahead_lt hd
    have hc : s[(ahead 45 s).length]? = some 45 := by
      have h1 := cut_eq hd
      generalize ahead 45 s = u at h1 ⊢
      generalize behind 45 s = v at h1
      rw [h1]
      simp
    have hsub : subS (bs s) (((ahead 45 s).length + 1 : Nat) : Int) (s.length : Int) = some (bs (behind 45 s)) := by
      have := subS_bs s ((ahead 45 s).length + 1) s.length (by omega) (Nat.le_refl _)
      rw [List.take_of_length_le (Nat.le_refl _), drop_behind] at this
      exact this
    have hp : preOf s = split 46 (behind 45 s) := if_pos hd
    have hv := fun a b c => c_fdh a b c (preOf s) (preOf_bd hs)
    rw [hp] at hv
    have core : ∀ k m n, ∃ xs, fdc_l0 k m (n + 1) (bs s) (ahead 45 s).length = some (xs, []) ∧ mapO (reifyAV false []) xs = some [.agg [Cell.int (parseVer s).1.A, Cell.int (parseVer s).1.B, Cell.int (parseVer s).1.C, strsC (parseVer s).1.Pre], .one (Cell.bool (parseVer s).2)] := by
      intro k m n
      simp only [fdc_l0, bytS_bs, hc, bs_size, Option.map_some, Option.bind_some, show (((45 : UInt8).toNat : Int) != 45) = false from rfl, cond_false]
      rw [decide_eq_true (by omega), cond_true, wrap_succ (by omega)]
      simp only [hsub, hsplit _ (by omega : (behind 45 s).length ≤ 1073741824), h46, hsplit _ (by omega : (ahead 45 s).length ≤ 1073741824), EV0]
      unfold parseVer
      rw [hp]
      split
      · rename_i x y z hsp
        have lx := hlen x (by rw [hsp]; simp)
        have ly := hlen y (by rw [hsp]; simp)
        have lz := hlen z (by rw [hsp]; simp)
        have i0 : idxA 1 (encL 1 eStr [x, y, z]) 0 = some (.ref (eStr x) 0) := rfl
        have i1 : idxA 1 (encL 1 eStr [x, y, z]) 1 = some (.ref (eStr y) 0) := rfl
        have i2 : idxA 1 (encL 1 eStr [x, y, z]) 2 = some (.ref (eStr z) 0) := rfl
        simp only [hsp, List.length_cons, List.length_nil, i0, i1, i2, eStr, hnum x lx, hnum y ly, hnum z lz, EV0]
        rw [show (((0 + 1 + 1 + 1 : Nat) : Int) != 3) = false from rfl, cond_false]
        cases hx : parseNum x 9999 with
        | none => cases hy : parseNum y 9999 <;> cases hzz : parseNum z 9999 <;> exact ⟨_, rfl, hz⟩
        | some a => cases hy : parseNum y 9999 with
          | none => cases hzz : parseNum z 9999 <;> exact ⟨_, rfl, hz⟩
          | some b => cases hzz : parseNum z 9999 with
            | none => exact ⟨_, rfl, hz⟩
            | some c =>
              simp only [numV, hv, EV0, Bool.not_true]
              cases hok : verOkM a b c (split 46 (behind 45 s)) with
              | false => exact ⟨_, rfl, hz⟩
              | true => exact ⟨_, rfl, mapO_canon [.agg [Cell.int a, Cell.int b, Cell.int c, strsC (split 46 (behind 45 s))], .one (Cell.bool true)] _ _⟩
      · rename_i hno
        refine ⟨_, ?_, hz⟩
        rw [show (((split 46 (ahead 45 s)).length : Int) != 3) = true by
          rw [bne_iff_ne]
          intro h3
          have h3' : (split 46 (ahead 45 s)).length = 3 := by omega
          match h : split 46 (ahead 45 s), h3' with
          | [x, y, z], _ => exact hno x y z h, cond_true]
    obtain ⟨xs, z1, z2⟩ := core ((ahead 45 s).length + 1 + 1) ((ahead 45 s).length + 1 + 1) 1
    refine outL_of (H := []) (run_fdc_of ((ahead 45 s).length + 1) ?_) z2
    have := loop (ahead 45 s).length 0 2 (by omega) ((ahead 45 s).length + 1 + 1) ((ahead 45 s).length + 1 + 1)
    rw [show 2 + (ahead 45 s).length = (ahead 45 s).length + 1 + 1 by omega] at this
    simp only [fdc]
    rw [show (0 : Int) = ((0 : Nat) : Int) from rfl, this]
    exact z1
  · have hall := ahead_all hd
    have hp : preOf s = [] := if_neg hd
    have hv := fun a b c => c_fdh a b c [] ⟨by simp, by simp⟩
    have hv' : ∀ a b c, callS run_fdh [.agg [Cell.int a, Cell.int b, Cell.int c, .lst true 1 []]] [] = some [.one (Cell.bool (verOkM a b c []))] := fun a b c => (callS_of (show mapO (reifyAV false []) [.agg [Cell.int a, Cell.int b, Cell.int c, .lst true 1 []]] = some [.agg [Cell.int a, Cell.int b, Cell.int c, strsC []]] from rfl)).trans (hv a b c)
    have core : ∀ k m n, ∃ xs, fdc_l0 k m (n + 1) (bs s) (ahead 45 s).length = some (xs, []) ∧ mapO (reifyAV false []) xs = some [.agg [Cell.int (parseVer s).1.A, Cell.int (parseVer s).1.B, Cell.int (parseVer s).1.C, strsC (parseVer s).1.Pre], .one (Cell.bool (parseVer s).2)] := by
      intro k m n
      simp only [fdc_l0, bs_size]
      rw [decide_eq_false (by rw [hall]; omega), cond_false, cond_false]
      simp only [h46, hsplit _ (by omega : (ahead 45 s).length ≤ 1073741824), EV0]
      unfold parseVer
      rw [hp]
      split
      · rename_i x y z hsp
        have lx := hlen x (by rw [hsp]; simp)
        have ly := hlen y (by rw [hsp]; simp)
        have lz := hlen z (by rw [hsp]; simp)
        have i0 : idxA 1 (encL 1 eStr [x, y, z]) 0 = some (.ref (eStr x) 0) := rfl
        have i1 : idxA 1 (encL 1 eStr [x, y, z]) 1 = some (.ref (eStr y) 0) := rfl
        have i2 : idxA 1 (encL 1 eStr [x, y, z]) 2 = some (.ref (eStr z) 0) := rfl
        simp only [hsp, List.length_cons, List.length_nil, i0, i1, i2, eStr, hnum x lx, hnum y ly, hnum z lz, EV0]
        rw [show (((0 + 1 + 1 + 1 : Nat) : Int) != 3) = false from rfl, cond_false]
        cases hx : parseNum x 9999 with
        | none => cases hy : parseNum y 9999 <;> cases hzz : parseNum z 9999 <;> exact ⟨_, rfl, hz⟩
        | some a => cases hy : parseNum y 9999 with
          | none => cases hzz : parseNum z 9999 <;> exact ⟨_, rfl, hz⟩
          | some b => cases hzz : parseNum z 9999 with
            | none => exact ⟨_, rfl, hz⟩
            | some c =>
              simp only [numV, hv', EV0, Bool.not_true]
              cases hok : verOkM a b c [] with
              | false => exact ⟨_, rfl, hz⟩
              | true => exact ⟨_, rfl, rfl⟩
      · rename_i hno
        refine ⟨_, ?_, hz⟩
        rw [show (((split 46 (ahead 45 s)).length : Int) != 3) = true by
          rw [bne_iff_ne]
          intro h3
          have h3' : (split 46 (ahead 45 s)).length = 3 := by omega
          match h : split 46 (ahead 45 s), h3' with
          | [x, y, z], _ => exact hno x y z h, cond_true]
    obtain ⟨xs, z1, z2⟩ := core ((ahead 45 s).length + 1 + 1) ((ahead 45 s).length + 1 + 1) 1
    refine outL_of (H := []) (run_fdc_of ((ahead 45 s).length + 1) ?_) z2
    have := loop (ahead 45 s).length 0 2 (by omega) ((ahead 45 s).length + 1 + 1) ((ahead 45 s).length + 1 + 1)
    rw [show 2 + (ahead 45 s).length = (ahead 45 s).length + 1 + 1 by omega] at this
    simp only [fdc]
    rw [show (0 : Int) = ((0 : Nat) : Int) from rfl, this]
    exact z1
theorem cutV_eq (c : UInt8) (s : Str) : cutV c s = [.one (Cell.str (bs (ahead c s))), .one (Cell.str (bs (behind c s))), .one (Cell.bool (decide (c ∈ s)))] := by
  unfold cutV
  split
  · rename_i h
    rw [decide_eq_true h]
  · rename_i h
    rw [decide_eq_false h, ahead_all h, behind_none h]
theorem zero_ver (H : List Entry) : Sp (Rep H true true 2) [] [Cell.int 0, Cell.int 0, Cell.int 0, .lst true 1 []] (⟨0, 0, 0, []⟩ : MVer).tr := by
  unfold MVer.tr
  exact Sp.cons (i := []) (leaf_reps _) (Sp.cons (i := []) (leaf_reps _) (Sp.cons (i := []) (leaf_reps _) (Sp.cons (i := []) (.inl ⟨rfl, rfl, true, rfl⟩) .nil)))
def verH (A : List Entry) (row : List Cell) : List Entry := A ++ [Entry.mk 4 [row] 0 false]
theorem verH_0 (A : List Entry) (p q r t v : Cell) : hStore (verH A [p, q, r, t]) (.ptr A.length 4 0 0 0) [v] = some (verH A [v, q, r, t]) := by simp [verH, hStore, entry?, splice, List.set_append]
theorem verH_1 (A : List Entry) (p q r t v : Cell) : hStore (verH A [p, q, r, t]) (.ptr A.length 4 0 1 0) [v] = some (verH A [p, v, r, t]) := by simp [verH, hStore, entry?, splice, List.set_append]
theorem verH_2 (A : List Entry) (p q r t v : Cell) : hStore (verH A [p, q, r, t]) (.ptr A.length 4 0 2 0) [v] = some (verH A [p, q, v, t]) := by simp [verH, hStore, entry?, splice, List.set_append]
theorem verH_3 (A E2 : List Entry) (p q r t v : Cell) : hStore (verH A [p, q, r, t] ++ E2) (.ptr A.length 4 0 3 0) [v] = some (verH A [p, q, r, v] ++ E2) := by simp [verH, hStore, entry?, splice, List.set_append]
theorem verH_d (A E2 : List Entry) (row : List Cell) : deref (verH A row ++ E2) (.ptr A.length 4 0 0 0) = some (row, 0) := by simp [verH, deref, entry?]
theorem verH_d0 (A : List Entry) (row : List Cell) : deref (verH A row) (.ptr A.length 4 0 0 0) = some (row, 0) := by simp [verH, deref, entry?]
theorem reify_zero (H : List Entry) (a b c : Int) : mapO (reifyAV false H) [.agg [Cell.int a, Cell.int b, Cell.int c, .lst true 1 []]] = some [.agg [Cell.int a, Cell.int b, Cell.int c, strsC []]] := rfl
theorem f_fal (s : Str) (hs : s.length ≤ 1048576) : Fresh run_fal true 2 [.one (Cell.str (bs s))] [.agg (parseVer s).1.tr, .one (.leaf (.bool (parseVer s).2))] := by
  have hM := maxLen_eq
  have hal := ahead_le 45 s
  have hbl := behind_le 45 s
  have hcut : out run_fei [.one (Cell.str (bs s)), .one (Cell.str (bs [45]))] = some [.one (Cell.str (bs (ahead 45 s))), .one (Cell.str (bs (behind 45 s))), .one (Cell.bool (decide ((45 : UInt8) ∈ s)))] := by
    rw [c_fei s 45 (by omega), cutV_eq]
  obtain ⟨c7, E, is, e1, r1, w1, _⟩ := freshO (f_fem (ahead 45 s) 46 (by omega)) ([] : List Entry) (mapO_canon [.one (Cell.str (bs (ahead 45 s))), .one (Cell.str (bs [46]))] _ _)
  generalize hA : ([] : List Entry) ++ E = A at e1 r1
  have hl := ListM.of (n := 2) r1
  have fz : ∀ H, run_fal [.one (Cell.str (bs s))] [] = some ([.agg [Cell.int 0, Cell.int 0, Cell.int 0, .lst true 1 []], .one (Cell.bool false)], H) → parseVer s = (⟨0, 0, 0, []⟩, false) → Fresh run_fal true 2 [.one (Cell.str (bs s))] [.agg (parseVer s).1.tr, .one (.leaf (.bool (parseVer s).2))] := fun H h1 h2 => by
    rw [h2]
    exact Fresh.agg1 (n := 1) h1 (zero_ver H) (by simp)
  by_cases h3 : (split 46 (ahead 45 s)).length = 3
  rotate_left
  · refine fz A (run_fal_of 0 ?_) ?_
    · simp only [fal, hcut, e1, hl.len, EV0]
      rw [show (((split 46 (ahead 45 s)).length : Int) != 3) = true by rw [bne_iff_ne]; omega, cond_true]
    · unfold parseVer
      split
      · rename_i x y z hsp
        rw [hsp] at h3
        simp at h3
      · rfl
  · obtain ⟨x, y, z, hsp⟩ : ∃ x y z, split 46 (ahead 45 s) = [x, y, z] := by
      match h : split 46 (ahead 45 s), h3 with
      | [x, y, z], _ => exact ⟨x, y, z, rfl⟩
    rw [hsp] at hl
    have hlen : ∀ x ∈ split 46 (ahead 45 s), x.length ≤ 1073741824 := fun x hx => by
      have := (splitGo_length 46 (ahead 45 s) []).2 x hx
      simp only [List.length_nil, Nat.zero_add] at this
      omega
    have lx := hlen x (by rw [hsp]; simp)
    have ly := hlen y (by rw [hsp]; simp)
    have lz := hlen z (by rw [hsp]; simp)
    have hnum : ∀ x : Str, x.length ≤ 1073741824 → out run_faj [.one (Cell.str (bs x)), .one (Cell.int 9999)] = some (numV (parseNum x 9999)) := fun x hx => c_faj x 9999 hx (by omega)
    have s0 := verH_0 A
    have s1 := verH_1 A
    have s2 := verH_2 A
    have s3 := verH_3 A
    have dv := verH_d A
    have dv0 := verH_d0 A
    have hf : ∀ row, ListM (verH A row) is c7 [x, y, z] := fun row => hl.frame fun j hj => List.getElem?_append_left (r1.lt j hj)
    have at0 : ∀ row, ∃ a rw off, idxA 1 c7 0 = some a ∧ deref (verH A row) a = some (rw, off) ∧ cS rw off = some (bs x) := fun row => by simpa using (hf row).at (i := 0) (s := x) rfl
    have at1 : ∀ row, ∃ a rw off, idxA 1 c7 1 = some a ∧ deref (verH A row) a = some (rw, off) ∧ cS rw off = some (bs y) := fun row => by simpa using (hf row).at (i := 1) (s := y) rfl
    have at2 : ∀ row, ∃ a rw off, idxA 1 c7 2 = some a ∧ deref (verH A row) a = some (rw, off) ∧ cS rw off = some (bs z) := fun row => by simpa using (hf row).at (i := 2) (s := z) rfl
    have k1 : IntKind.i64.wrap ((0 : Int) + 1) = 1 := wrap_small (by omega) (by omega)
    have k2 : IntKind.i64.wrap ((1 : Int) + 1) = 2 := wrap_small (by omega) (by omega)
    have k3 : IntKind.i64.wrap ((2 : Int) + 1) = 3 := wrap_small (by omega) (by omega)
    have fin : ∀ (a b c : Nat), parseNum x 9999 = some a → parseNum y 9999 = some b → parseNum z 9999 = some c → ∀ n k m, ∃ cs H ids, fal_l0 k m (n + 1) (bs s) (bs (behind 45 s)) (decide ((45 : UInt8) ∈ s)) c7 (.ptr A.length 4 0 0 0) (.ptr A.length 4 0 0 0) (.ptr A.length 4 0 1 0) (.ptr A.length 4 0 2 0) 3 (verH A [Cell.int a, Cell.int b, Cell.int c, .lst true 1 []]) =
        some ([.agg cs, .one (Cell.bool (parseVer s).2)], H) ∧ Sp (Rep H true true 2) ids cs (parseVer s).1.tr ∧ ids.Nodup := by
      intro a b c ha hb hc n k m
      have ht := text_parse hsp ha hb hc
      have pv : parseVer s = if verOkM a b c (preOf s) then (⟨a, b, c, preOf s⟩, true) else (⟨0, 0, 0, []⟩, false) := by
        unfold parseVer
        rw [hsp]
        simp only [ha, hb, hc]
      have hvt := c_fap a b c (preOf s) (preOf_bd hs)
      rw [pv]
      rw [fal_l0, show decide ((3 : Int) < 3) = false from rfl, cond_false]
      by_cases hd : (45 : UInt8) ∈ s
      · have hp : preOf s = split 46 (behind 45 s) := if_pos hd
        obtain ⟨c29, E2, is2, e2, r2, w2, _⟩ := freshO (f_fem (behind 45 s) 46 (by omega)) (verH A [Cell.int a, Cell.int b, Cell.int c, .lst true 1 []]) (mapO_canon [.one (Cell.str (bs (behind 45 s))), .one (Cell.str (bs [46]))] _ _)
        rw [← hp] at r2
        have r3 : Rep (verH A [Cell.int a, Cell.int b, Cell.int c, c29] ++ E2) true true 2 is2 c29 (trL 1 trStr (preOf s)) := r2.frame fun j hj => by
          have h5 := w2.lo j hj
          rw [List.getElem?_append_right (by simp [verH] at h5 ⊢; omega), List.getElem?_append_right h5]
          simp [verH]
        have hsp3 : Sp (Rep (verH A [Cell.int a, Cell.int b, Cell.int c, c29] ++ E2) true true 2) (is2 ++ []) [Cell.int a, Cell.int b, Cell.int c, c29] (⟨a, b, c, preOf s⟩ : MVer).tr := by
          unfold MVer.tr
          exact Sp.cons (i := []) (leaf_reps _) (Sp.cons (i := []) (leaf_reps _) (Sp.cons (i := []) (leaf_reps _) (Sp.cons r3 .nil)))
        have q1 : callS run_fap [.agg [Cell.int a, Cell.int b, Cell.int c, c29]] (verH A [Cell.int a, Cell.int b, Cell.int c, c29] ++ E2) = some [.one (Cell.str (bs (verTextM a b c (preOf s))))] := by
          have := mapO_c (reify_agg hsp3 (by omega)) (mapO_nil' (reifyAV false (verH A [Cell.int a, Cell.int b, Cell.int c, c29] ++ E2)))
          simp only [MVer.tr, List.map_cons, List.map_nil, leaf_cell, trL_cell] at this
          rw [callS_of this]
          exact hvt
        rw [decide_eq_true hd, cond_true]
        simp only [e2, fldA_ptr, Nat.zero_add, s3, dv, q1, ht, EV0]
        cases hok : verOkM a b c (preOf s) with
        | false => exact ⟨_, _, [], rfl, zero_ver _, by simp⟩
        | true => exact ⟨_, _, is2 ++ [], rfl, hsp3, by simpa using w2.nd⟩
      · have hp : preOf s = [] := if_neg hd
        rw [decide_eq_false hd, cond_false]
        have q1 : callS run_fap [.agg [Cell.int a, Cell.int b, Cell.int c, .lst true 1 []]] (verH A [Cell.int a, Cell.int b, Cell.int c, .lst true 1 []]) = some [.one (Cell.str (bs (verTextM a b c (preOf s))))] := by
          rw [hp] at hvt ⊢
          exact (callS_of (reify_zero _ _ _ _)).trans hvt
        simp only [dv0, q1, ht, EV0]
        cases hok : verOkM a b c (preOf s) with
        | false => exact ⟨_, _, [], rfl, zero_ver _, by simp⟩
        | true =>
          refine ⟨_, _, [], rfl, ?_, by simp⟩
          rw [hp]
          unfold MVer.tr
          exact Sp.cons (i := []) (leaf_reps _) (Sp.cons (i := []) (leaf_reps _) (Sp.cons (i := []) (leaf_reps _) (Sp.cons (i := []) (.inl ⟨rfl, rfl, true, rfl⟩) .nil)))
    have go : ∀ n k m, n = 4 → ∃ cs H ids, fal_l0 k m n (bs s) (bs (behind 45 s)) (decide ((45 : UInt8) ∈ s)) c7 (.ptr A.length 4 0 0 0) (.ptr A.length 4 0 0 0) (.ptr A.length 4 0 1 0) (.ptr A.length 4 0 2 0) 0 (verH A [Cell.int 0, Cell.int 0, Cell.int 0, .lst true 1 []]) =
        some ([.agg cs, .one (Cell.bool (parseVer s).2)], H) ∧ Sp (Rep H true true 2) ids cs (parseVer s).1.tr ∧ ids.Nodup := by
      intro n k m hn
      obtain ⟨n, rfl⟩ : ∃ q, n = q + 1 + 1 + 1 + 1 := ⟨0, hn⟩
      have bad : parseNum x 9999 = none ∨ parseNum y 9999 = none ∨ parseNum z 9999 = none → parseVer s = (⟨0, 0, 0, []⟩, false) := fun h => by
        unfold parseVer
        rw [hsp]
        rcases h with h | h | h
        · simp only [h]
        · simp only [h]
          cases parseNum x 9999 <;> rfl
        · simp only [h]
          cases parseNum x 9999 <;> cases parseNum y 9999 <;> rfl
      obtain ⟨a0, w0, o0, i0, j0, l0⟩ := at0 [Cell.int 0, Cell.int 0, Cell.int 0, .lst true 1 []]
      rw [fal_l0, show decide ((0 : Int) < 3) = true from rfl, cond_true, if_pos ⟨by omega, by omega⟩]
      simp only [show (0 : Int).toNat * 1 = 0 from rfl, i0, j0, l0, hnum x lx, EV0]
      cases hx : parseNum x 9999 with
      | none =>
        rw [bad (.inl hx)]
        exact ⟨_, _, [], rfl, zero_ver _, by simp⟩
      | some a =>
        simp only [numV, EV0, Bool.not_true, ptrC, s0, k1]
        obtain ⟨a1, w1, o1, i1, j1, l1⟩ := at1 [Cell.int a, Cell.int 0, Cell.int 0, .lst true 1 []]
        rw [fal_l0, show decide ((1 : Int) < 3) = true from rfl, cond_true, if_pos ⟨by omega, by omega⟩]
        simp only [show (1 : Int).toNat * 1 = 1 from rfl, i1, j1, l1, hnum y ly, EV0]
        cases hy : parseNum y 9999 with
        | none =>
          rw [bad (.inr (.inl hy))]
          exact ⟨_, _, [], rfl, zero_ver _, by simp⟩
        | some b =>
          simp only [numV, EV0, Bool.not_true, ptrC, s1, k2]
          obtain ⟨a2, w2, o2, i2, j2, l2⟩ := at2 [Cell.int a, Cell.int b, Cell.int 0, .lst true 1 []]
          rw [fal_l0, show decide ((2 : Int) < 3) = true from rfl, cond_true, if_pos ⟨by omega, by omega⟩]
          simp only [show (2 : Int).toNat * 1 = 2 from rfl, i2, j2, l2, hnum z lz, EV0]
          cases hzz : parseNum z 9999 with
          | none =>
            rw [bad (.inr (.inr hzz))]
            exact ⟨_, _, [], rfl, zero_ver _, by simp⟩
          | some c =>
            simp only [numV, EV0, Bool.not_true, ptrC, s2, k3]
            exact fin a b c hx hy hzz n k m
    obtain ⟨cs, H, ids, z1, z2, z3⟩ := go (3 + 1) (3 + 1) (3 + 1) rfl
    have hrun : ∀ q, fal q q (bs s) = fal_l0 q q q (bs s) (bs (behind 45 s)) (decide ((45 : UInt8) ∈ s)) c7 (.ptr A.length 4 0 0 0) (.ptr A.length 4 0 0 0) (.ptr A.length 4 0 1 0) (.ptr A.length 4 0 2 0) 0 (verH A [Cell.int 0, Cell.int 0, Cell.int 0, .lst true 1 []]) := by
      intro q
      simp only [fal, hcut, e1, hl.len, EV0]
      rw [show (((0 + 1 + 1 + 1 : Nat) : Int) != 3) = false from rfl, cond_false]
      rfl
    have z0 := (hrun (3 + 1)).trans z1
    exact Fresh.agg1 (n := 1) (run_fal_of 3 z0) z2 z3
end Go.Ev
