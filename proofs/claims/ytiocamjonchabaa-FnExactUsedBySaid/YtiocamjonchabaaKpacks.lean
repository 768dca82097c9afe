/- What the functions come to (packs). Conditions: none. -/
import Derived.Test.YtiocamjonchabaaKorder
set_option linter.unusedSimpArgs false
set_option linter.unusedVariables false
namespace Go.Ev
open Go
/-- The heap of a graph of packs. -/
def gHeap (ns : List Str) (us : List (List Str)) (H : List Entry) : Prop :=
  (ns = [] ∧ us = [] ∧ H = [Entry.mk 2 [[.lst true 1 [], .lst true 1 []]] 0 false]) ∨
    ∃ e1 e2, H = [Entry.mk 2 [[.vs 1 1 0 ns.length e1, .vs 2 1 0 us.length e2]] 0 false, Entry.mk 1 (ns.map eStr) e1 false, Entry.mk 1 (us.map eStrs) e2 false]
theorem gHeap.step {ns : List Str} {us : List (List Str)} {H : List Entry} (h : gHeap ns us H) (t : Str) (e : List Str) (h1 : ns.length < 1048576) (h2 : us.length < 1048576) :
    ∃ c0 p H1 c1 q H2, (deref H (.ptr 0 2 0 0 0)).bind (fun p => cC p.1 p.2) = some c0 ∧ app H 1 16 c0 [[Cell.str (bs t)]] = some p ∧ hStore p.2 (.ptr 0 2 0 0 0) [p.1] = some H1 ∧
      (deref H1 (.ptr 0 2 0 1 0)).bind (fun p => cC p.1 p.2) = some c1 ∧ app H1 1 24 c1 [[strsC e]] = some q ∧ hStore q.2 (.ptr 0 2 0 1 0) [q.1] = some H2 ∧ gHeap (ns ++ [t]) (us ++ [e]) H2 := by
  rcases h with ⟨rfl, rfl, rfl⟩ | ⟨e1, e2, rfl⟩
  · refine ⟨.lst true 1 [], (.vs 1 1 0 1 0, _), _, .lst true 1 [], (.vs 2 1 0 1 0, _), _, rfl, rfl, rfl, rfl, rfl, rfl, .inr ⟨0, 0, rfl⟩⟩
  · refine ⟨.vs 1 1 0 ns.length e1, (.vs 1 1 0 (ns.length + 1) (e1 + 1), [Entry.mk 2 [[.vs 1 1 0 ns.length e1, .vs 2 1 0 us.length e2]] 0 false, Entry.mk 1 (ns.map eStr ++ [eStr t]) (e1 + 1) false, Entry.mk 1 (us.map eStrs) e2 false]), _, .vs 2 1 0 us.length e2,
      (.vs 2 1 0 (us.length + 1) (e2 + 1), [Entry.mk 2 [[.vs 1 1 0 (ns.length + 1) (e1 + 1), .vs 2 1 0 us.length e2]] 0 false, Entry.mk 1 (ns.map eStr ++ [eStr t]) (e1 + 1) false, Entry.mk 1 (us.map eStrs ++ [eStrs e]) (e2 + 1) false]), _, rfl, ?_, rfl, rfl, ?_, rfl, .inr ⟨e1 + 1, e2 + 1, ?_⟩⟩
    · simp only [app, entry?, List.getElem?_cons_succ, List.getElem?_cons_zero, if_true, List.length_map, Nat.zero_add, List.length_singleton]
      rw [if_pos ⟨trivial, Nat.le_refl _, .inl trivial, by unfold bound; omega, by unfold bound; omega⟩]
      simp [eStr, List.take_of_length_le]
    · simp only [app, entry?, List.set_cons_succ, List.set_cons_zero, List.getElem?_cons_succ, List.getElem?_cons_zero, if_true, List.length_map, Nat.zero_add, List.length_singleton]
      rw [if_pos ⟨trivial, Nat.le_refl _, .inl trivial, by unfold bound; omega, by unfold bound; omega⟩]
      simp [eStrs, List.take_of_length_le, splice]
    · simp [splice]
theorem g_impl_graphOf (l : List MPack) (hl : bdL 1048576 (MPack.Bd 1048576) l) : ∃ H, gHeap (l.map (·.Name)) (l.map (·.Uses)) H ∧ run_impl_graphOf [.one (encL 4 MPack.enc l)] [] = some ([.one (.ptr 0 2 0 0 0)], H) := by
  have hM := maxLen_eq
  have hxl := hl.1
  have loop : ∀ (r : List MPack) (i n : Nat) (H : List Entry), l.drop i = r → i + r.length = l.length → r.length < n → gHeap ((l.take i).map (·.Name)) ((l.take i).map (·.Uses)) H → ∀ k m,
      ∃ H', impl_graphOf_l0 k m n (.ptr 0 2 0 0 0) (encL 4 MPack.enc l) l.length i H = some ([.one (.ptr 0 2 0 0 0)], H') ∧ gHeap (l.map (·.Name)) (l.map (·.Uses)) H' := by
    intro r
    induction r with
    | nil =>
      intro i n H hd hi hn ht k m
      obtain ⟨n, rfl⟩ : ∃ j, n = j + 1 := ⟨n - 1, by omega⟩
      have h1 := drop_nil hd
      rw [List.take_of_length_le h1] at ht
      refine ⟨H, ?_, ht⟩
      simp only [impl_graphOf_l0]
      rw [decide_eq_false (by omega), cond_false]
    | cons x r ih =>
      intro i n H hd hi hn ht k m
      obtain ⟨n, rfl⟩ : ∃ j, n = j + 1 := ⟨n - 1, by omega⟩
      obtain ⟨hlt, hx, hd'⟩ := drop_cons hd
      simp only [List.length_cons] at hn hi
      have e1 : ∀ {β : Type} (f : MPack → β), (l.take i).map f ++ [f x] = (l.take (i + 1)).map f := fun f => by rw [List.take_add_one, hx]; simp
      obtain ⟨c0, p, H1, c1, q, H2, a1, a2, a3, a4, a5, a6, ht'⟩ := ht.step x.Name x.Uses (by simp; omega) (by simp; omega)
      rw [e1, e1] at ht'
      obtain ⟨H', z1, z2⟩ := ih (i + 1) n H2 hd' (by omega) (by omega) ht' k m
      refine ⟨H', ?_, z2⟩
      have hrk : ∀ (f : List Cell → Option Res), restK [encL 1 eStr x.Uses] f = f [strsC x.Uses] := fun f => by simp [restK, mapO, pureC, encL]
      have hsr : ∀ G, srcRows G 1 (.lst true 1 (chunks 1 1 [strsC x.Uses])) = some [[strsC x.Uses]] := fun G => by simp [srcRows, rowsOf, chunks]
      obtain ⟨d1, b1, b2⟩ := Option.bind_eq_some_iff.1 a1
      obtain ⟨d4, b4, b5⟩ := Option.bind_eq_some_iff.1 a4
      simp only [impl_graphOf_l0]
      rw [decide_eq_true (by omega), cond_true]
      simp only [idxA_encL, hx, MPack.enc, callS_canon, callL_canon, Option.map_some, Option.bind_some, shape_one, shape_agg, shape_nil, cellsAt_0, cellsAt_1, cellsAt_2, cellsAt_3, cells_one, cells_agg, cB_zero, cI_zero, cS_zero, cC_zero, cB_cons, cI_cons, cS_cons, cC_cons, cond_true, cond_false, List.length_cons, List.length_nil, beq_self_eq_true, Bool.and_true, Bool.true_and, lenC_encL, lenC_lst, deref_ref, emptyK_nil, bs_size, bs_toList]
      simp only [ptrC, fldA_ptr, Nat.zero_add, Option.bind_some, b1, b2, a2, a3, b4, b5, hrk, hsr, a5, a6]
      rw [wrap_succ (by omega)]
      exact z1
  obtain ⟨H, h1, h2⟩ := loop l 0 (l.length + 1 + 1) [Entry.mk 2 [[.lst true 1 [], .lst true 1 []]] 0 false] rfl (by omega) (by omega) (.inl ⟨rfl, rfl, rfl⟩) (l.length + 1 + 1) (l.length + 1 + 1)
  refine ⟨H, h2, run_impl_graphOf_of (l.length + 1) ?_⟩
  simpa [impl_graphOf] using h1
theorem gHeap.graph {ns : List Str} {us : List (List Str)} {H : List Entry} (h : gHeap ns us H) (hl : ns.length = us.length) : ∃ ids, GraphM H ids 0 ns us := by
  rcases h with ⟨rfl, rfl, rfl⟩ | ⟨e1, e2, rfl⟩
  · exact ⟨[0], by simp, by simp, rfl, .lst true 1 [], .lst true 1 [], false, rfl, .nil _ _, .inl ⟨rfl, rfl⟩⟩
  · refine ⟨[0, 1, 2], by simp, by simp, hl, _, _, false, rfl, ?_, .inr ⟨2, e2, false, us.map eStrs, rfl, by simp, rfl, by simp, fun j xs hj => ⟨strsC xs, by rw [List.getElem?_map, hj]; rfl, (ListM.canon _ _).mono (by simp)⟩⟩⟩
    have := (GrowAt.list (A := [Entry.mk 2 [[.vs 1 1 0 ns.length e1, .vs 2 1 0 us.length e2]] 0 false]) (T := [Entry.mk 1 (ns.map eStr) e1 false]) (c := .vs 1 1 0 ns.length e1) (xs := ns) (.inr ⟨e1, by simp, rfl⟩))
    obtain ⟨is, r1, r2, r3⟩ := this
    refine ((ListM.of (n := 2) (r1.app [Entry.mk 1 (us.map eStrs) e2 false])).mono fun j hj => ?_ :)
    have := r3 j hj
    simp at this
    simp [this]
theorem packs_next {l : List MPack} (hl : bdL 1048576 (MPack.Bd 1048576) l) : ∀ d ∈ l.map (·.Uses), d.length ≤ 1073741824 := fun d hd => by
  obtain ⟨p, hp, rfl⟩ := List.mem_map.1 hd
  exact Nat.le_trans (hl.2 p hp).2.1.1 (by omega)
end Go.Ev
