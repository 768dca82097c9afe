/- Lists and graphs that lie in the owned heap or among the arguments, as they are read. Conditions: none. -/
import Derived.Test.YtiocamjonchabaaDoorEvMk
set_option linter.unusedVariables false
namespace Go.Ev
open Go
variable {H H' : List Entry}

/-- A list of texts, in memory or an argument's; ids: the entries that it lies in. -/
def ListM (H : List Entry) (ids : List Nat) (c : Cell) (xs : List Str) : Prop := c = strsC xs ∨ ∃ is, Rep H false false 2 is c (trL 1 trStr xs) ∧ ∀ j ∈ is, j ∈ ids

theorem ListM.canon (H : List Entry) (xs : List Str) : ListM H [] (strsC xs) xs := .inl rfl
theorem ListM.nil (H : List Entry) (ids : List Nat) : ListM H ids (.lst true 1 []) [] := .inr ⟨[], .inl ⟨rfl, rfl, true, rfl⟩, by simp⟩
theorem ListM.of {n : Nat} {w q : Bool} {ids : List Nat} {c : Cell} {xs : List Str} (h : Rep H w q 2 ids c (trL 1 trStr xs)) : ListM H ids c xs := .inr ⟨ids, h.weak (fun h => by simp at h) fun h => by simp at h, fun j h => h⟩
theorem ListM.mono {ids js : List Nat} {c : Cell} {xs : List Str} (h : ListM H ids c xs) (k : ∀ j ∈ ids, j ∈ js) : ListM H js c xs := by
  rcases h with rfl | ⟨is, h, hi⟩
  · exact .inl rfl
  · exact .inr ⟨is, h, fun j hj => k j (hi j hj)⟩
theorem ListM.frame {ids : List Nat} {c : Cell} {xs : List Str} (h : ListM H ids c xs) (k : ∀ j ∈ ids, H'[j]? = H[j]?) : ListM H' ids c xs := by
  rcases h with rfl | ⟨is, h, hi⟩
  · exact .inl rfl
  · exact .inr ⟨is, h.frame fun j hj => k j (hi j hj), hi⟩
theorem ListM.read {ids : List Nat} {c : Cell} {xs : List Str} (h : ListM H ids c xs) : reifyAV false H (.one c) = some (.one (strsC xs)) := by
  rcases h with rfl | ⟨is, h, hi⟩
  · exact reifyAV_canon _ _ _
  · have := reify_one h (by omega)
    rwa [trL_cell] at this
theorem ListM.len {ids : List Nat} {c : Cell} {xs : List Str} (h : ListM H ids c xs) : lenC c = some xs.length := by
  rcases h with rfl | ⟨is, h, hi⟩
  · simp
  · rcases h with ⟨h1, _, f, rfl⟩ | ⟨id, off, ep, e, fr, is', rfl, _⟩
    · simp only [List.map_eq_nil_iff] at h1
      subst h1
      rfl
    · simp
theorem ListM.at {ids : List Nat} {c : Cell} {xs : List Str} (h : ListM H ids c xs) {i : Nat} {s : Str} (hs : xs[i]? = some s) : ∃ a row off, idxA 1 c (i : Int) = some a ∧ deref H a = some (row, off) ∧ cS row off = some (bs s) := by
  have hlt := (List.getElem?_eq_some_iff.1 hs).1
  rcases h with rfl | ⟨is, h, hi⟩
  · exact ⟨.ref [Cell.str (bs s)] 0, [Cell.str (bs s)], 0, by rw [idxA_encL, hs]; rfl, rfl, rfl⟩
  · rcases h with ⟨h1, _, f, rfl⟩ | ⟨id, off, ep, e, fr, is', rfl, rfl, he, _, _, hl, hr, hsp⟩
    · simp only [List.map_eq_nil_iff] at h1
      subst h1
      simp at hs
    · obtain ⟨_, _, _, row, _, h2, h3, _⟩ := hsp.at (n := i) (b := trStr s) (by rw [List.getElem?_map, hs]; rfl)
      obtain ⟨r', e1, h4⟩ := h3.leaf_inv
      subst e1
      refine ⟨.ptr id 1 (off + i) 0 ep, Cell.str (bs s) :: r', 0, ?_, ?_, rfl⟩
      · simp only [idxA, if_true, List.length_map]
        rw [if_pos ⟨by omega, by omega⟩, Int.toNat_natCast]
      · have h5 : e[off + i]? = some (Cell.str (bs s) :: r') := by
          rw [List.getElem?_take] at h2
          split at h2
          · rw [List.getElem?_drop] at h2; exact h2
          · simp at h2
        simp [deref, entry?, he, h5]

/-- A vector at place n that grew. -/
def GrowAt (n sz : Nat) (c : Cell) (T : List Entry) (rows : List (List Cell)) : Prop :=
  (rows = [] ∧ c = .lst true sz [] ∧ T = []) ∨ ∃ ep, c = .vs n sz 0 rows.length ep ∧ T = [Entry.mk sz rows ep false]
theorem app_at {A : List Entry} {sz by' : Nat} {c : Cell} {T : List Entry} {rows : List (List Cell)} (h : GrowAt A.length sz c T rows) (y : List Cell) (h1 : (rows.length + 1) * by' ≤ bound) (h2 : rows.length + 1 ≤ bound) :
    ∃ d T', app (A ++ T) sz by' c [y] = some (d, A ++ T') ∧ GrowAt A.length sz d T' (rows ++ [y]) := by
  rcases h with ⟨rfl, rfl, rfl⟩ | ⟨ep, rfl, rfl⟩
  · refine ⟨.vs A.length sz 0 1 0, [Entry.mk sz [y] 0 false], ?_, .inr ⟨0, rfl, rfl⟩⟩
    simp only [List.length_nil] at h1 h2
    simp only [app, List.isEmpty_cons, List.length_nil, List.length_singleton, List.append_nil, List.nil_append]
    rw [if_neg (by simp), if_pos ⟨trivial, .inr trivial, h1, h2⟩]
  · refine ⟨.vs A.length sz 0 (rows.length + 1) (ep + 1), [Entry.mk sz (rows ++ [y]) (ep + 1) false], ?_, .inr ⟨ep + 1, by simp, rfl⟩⟩
    have he : entry? (A ++ [Entry.mk sz rows ep false]) A.length ep = some (Entry.mk sz rows ep false) := by simp [entry?]
    simp only [app, he, List.length_singleton]
    rw [if_pos ⟨trivial, by simp, .inr trivial, h1, h2⟩]
    simp
theorem GrowAt.rep {A T : List Entry} {sz : Nat} {c : Cell} {α : Type} {e : α → List Cell} {tr : α → List Tr} {xs : List α} (h : GrowAt A.length sz c T (xs.map e)) (hl : ∀ x ∈ xs, (e x).length = sz) (ht : ∀ x ∈ xs, ∀ H', Sp (Rep H' true true 1) [] (e x) (tr x)) :
    ∃ ids, Rep (A ++ T) true true 2 ids c (trL sz tr xs) ∧ ids.Nodup ∧ ∀ j ∈ ids, j = A.length := by
  rcases h with ⟨h1, rfl, rfl⟩ | ⟨ep, rfl, rfl⟩
  · simp only [List.map_eq_nil_iff] at h1
    subst h1
    exact ⟨[], .inl ⟨rfl, rfl, true, rfl⟩, by simp, by simp⟩
  · refine ⟨[A.length], .inr ⟨A.length, 0, ep, xs.map e, false, [], by simp, rfl, by simp, fun _ => rfl, fun _ => ⟨rfl, by simp⟩, by simp, ?_, ?_⟩, by simp, by simp⟩
    · intro r hr
      obtain ⟨x, hx, rfl⟩ := List.mem_map.1 hr
      exact hl x hx
    · rw [List.drop_zero, List.take_of_length_le (by simp)]
      have : ∀ (ys : List α) (H : List Entry), (∀ y ∈ ys, y ∈ xs) → Sp (Sp (Rep H true true 1)) [] (ys.map e) (ys.map tr) := by
        intro ys
        induction ys with
        | nil => intro H _; exact .nil
        | cons y ys ih => intro H hy; exact .cons (i := []) (is := []) (ht y (hy y List.mem_cons_self) H) (ih H fun z hz => hy z (List.mem_cons_of_mem _ hz))
      exact this xs _ fun _ h => h
theorem GrowAt.list {A T : List Entry} {c : Cell} {xs : List Str} (h : GrowAt A.length 1 c T (xs.map eStr)) : ∃ ids, Rep (A ++ T) true true 2 ids c (trL 1 trStr xs) ∧ ids.Nodup ∧ ∀ j ∈ ids, j = A.length :=
  h.rep (fun _ _ => rfl) fun _ _ _ => Sp.leaf1 _

/-- Lists of texts, one behind the other. -/
def ListsM (H : List Entry) (ids : List Nat) (c : Cell) (xss : List (List Str)) : Prop :=
  (c = .lst true 1 [] ∧ xss = []) ∨ ∃ id ep fr rows, c = .vs id 1 0 xss.length ep ∧ id ∈ ids ∧ H[id]? = some (Entry.mk 1 rows ep fr) ∧ rows.length = xss.length ∧ ∀ (j : Nat) (xs : List Str), xss[j]? = some xs → ∃ d, rows[j]? = some [d] ∧ ListM H ids d xs
theorem ListsM.frame {ids : List Nat} {c : Cell} {xss : List (List Str)} (h : ListsM H ids c xss) (k : ∀ j ∈ ids, H'[j]? = H[j]?) : ListsM H' ids c xss := by
  rcases h with h | ⟨id, ep, fr, rows, h1, h2, h3, h4, h5⟩
  · exact .inl h
  · refine .inr ⟨id, ep, fr, rows, h1, h2, by rw [k id h2, h3], h4, fun j xs hj => ?_⟩
    obtain ⟨d, h6, h7⟩ := h5 j xs hj
    exact ⟨d, h6, h7.frame k⟩
theorem ListsM.len {ids : List Nat} {c : Cell} {xss : List (List Str)} (h : ListsM H ids c xss) : lenC c = some xss.length := by
  rcases h with ⟨rfl, rfl⟩ | ⟨id, ep, fr, rows, rfl, _⟩ <;> simp
theorem ListsM.at {ids : List Nat} {c : Cell} {xss : List (List Str)} (h : ListsM H ids c xss) {i : Nat} {xs : List Str} (hs : xss[i]? = some xs) : ∃ a d, idxA 1 c (i : Int) = some a ∧ deref H a = some ([d], 0) ∧ ListM H ids d xs := by
  have hlt := (List.getElem?_eq_some_iff.1 hs).1
  rcases h with ⟨_, rfl⟩ | ⟨id, ep, fr, rows, rfl, h2, h3, h4, h5⟩
  · simp at hs
  · obtain ⟨d, h6, h7⟩ := h5 i xs hs
    exact ⟨.ptr id 1 i 0 ep, d, idxA_vs _ _ _ _ _ hlt, by simp [deref, entry?, h3, h6], h7⟩

/-- A graph in memory. -/
structure GraphM (H : List Entry) (ids : List Nat) (id : Nat) (names : List Str) (next : List (List Str)) : Prop where
  mem : id ∈ ids
  lt : ∀ j ∈ ids, j < H.length
  len : names.length = next.length
  ent : ∃ cn co fr, H[id]? = some (Entry.mk 2 [[cn, co]] 0 fr) ∧ ListM H ids cn names ∧ ListsM H ids co next
theorem GraphM.app {ids : List Nat} {id : Nat} {names : List Str} {next : List (List Str)} (h : GraphM H ids id names next) (k : ∀ j ∈ ids, H'[j]? = H[j]?) (hl : H.length ≤ H'.length) : GraphM H' ids id names next := by
  obtain ⟨h1, h2, h3, cn, co, fr, h4, h5, h6⟩ := h
  exact ⟨h1, fun j hj => Nat.lt_of_lt_of_le (h2 j hj) hl, h3, cn, co, fr, by rw [k id h1, h4], h5.frame k, h6.frame k⟩
/-- Two lists that grow side by side: texts, and lists of texts. -/
def Two (H : List Entry) (c6 c7 : Cell) (ts : List Str) (ds : List (List Str)) : Prop :=
  ∃ i6 i7, Rep H true true 2 i6 c6 (trL 1 trStr ts) ∧ Rep H true true 3 i7 c7 (trL 1 (trLs 1 trStr) ds) ∧ notLent c6 ∧ notLent c7 ∧ i6.Nodup ∧ i7.Nodup ∧ ∀ j ∈ i6, j ∉ i7
theorem Two.nil : Two [] (.lst true 1 []) (.lst true 1 []) [] [] := ⟨[], [], .inl ⟨rfl, rfl, true, rfl⟩, .inl ⟨rfl, rfl, true, rfl⟩, notLent_nil _, notLent_nil _, by simp, by simp, by simp⟩
theorem src_one (H : List Entry) (row : List Cell) : srcRows (H ++ [Entry.mk 1 [row] 0 false]) 1 (.vs H.length 1 0 1 0) = some [row] := by simp [srcRows, rowsOf, entry?]
theorem src_strs (H : List Entry) (e : List Str) : srcRows H 1 (strsC e) = some (e.map eStr) := by simp [srcRows, rowsOf, encL]
theorem Two.step {c6 c7 : Cell} {ts : List Str} {ds : List (List Str)} (h : Two H c6 c7 ts ds) (t : Str) (e : List Str) (h1 : ts.length < 1048576) (h2 : ds.length < 1048576) (h3 : e.length ≤ 1048576) :
    ∃ p q r, app (H ++ [Entry.mk 1 [[Cell.str (bs t)]] 0 false]) 1 16 c6 [[Cell.str (bs t)]] = some p ∧ app (p.2 ++ [Entry.mk 1 [] 0 false]) 1 16 (.vs p.2.length 1 0 0 0) (e.map eStr) = some q ∧
      app (q.2 ++ [Entry.mk 1 [[q.1]] 0 false]) 1 24 c7 [[q.1]] = some r ∧ Two r.2 p.1 r.1 (ts ++ [t]) (ds ++ [e]) := by
  obtain ⟨i6, i7, r6, r7, f6, f7, n6, n7, dj⟩ := h
  -- the name
  have q6 := r6.app [Entry.mk 1 [[Cell.str (bs t)]] 0 false]
  have q7 := r7.app [Entry.mk 1 [[Cell.str (bs t)]] 0 false]
  obtain ⟨c6', H1, j6, a1, r6', f6', n6', g6, l6, k6, _⟩ := q6.append (by' := 16) (ys := [[Cell.str (bs t)]]) (tys := [trStr t]) (js := []) f6 n6 (.cons (i := []) (is := []) (Sp.leaf1 _) .nil) (by simp) (by simp) (by simp) (by simp [bound]; omega) (by simp [bound]; omega)
  have q7' : Rep H1 true true 3 i7 c7 (trL 1 (trLs 1 trStr) ds) := q7.frame fun j hj => k6 j (q7.lt j hj) fun h => dj j h hj
  -- the list of its own
  have q6' := r6'.app [Entry.mk 1 [] 0 false]
  have q7'' := q7'.app [Entry.mk 1 [] 0 false]
  have rn : Rep (H1 ++ [Entry.mk 1 [] 0 false]) true true 2 [H1.length] (.vs H1.length 1 0 0 0) (.list 1 []) := .inr ⟨H1.length, 0, 0, [], false, [], rfl, rfl, by simp, fun _ => rfl, fun _ => ⟨rfl, rfl⟩, by simp, by simp, .nil⟩
  obtain ⟨c8, H2, j8, a2, r8, f8, n8, g8, l8, k8, _⟩ := rn.append (by' := 16) (ys := e.map eStr) (tys := e.map trStr) (js := []) (notLent_vs _ _ _ _ _) (by simp)
    (by
      have : ∀ (l : List Str) (G : List Entry), Sp (Sp (Rep G true true 1)) [] (l.map eStr) (l.map trStr) := by
        intro l G
        induction l with
        | nil => exact .nil
        | cons x l ih => exact .cons (i := []) (is := []) (Sp.leaf1 _) ih
      exact this e _) (by intro r hr; obtain ⟨x, _, rfl⟩ := List.mem_map.1 hr; rfl) (by simp) (by simp) (by simp [bound]; omega) (by simp [bound]; omega)
  have d8 : ∀ j ∈ j8, H1.length ≤ j := by
    intro j hj
    rcases g8 j hj with h | h | h
    · simp at h; omega
    · simp at h
    · simp at h; omega
  have p6 : Rep H2 true true 2 j6 c6' (.list 1 (ts.map trStr ++ [trStr t])) := q6'.frame fun j hj => k8 j (q6'.lt j hj) fun h => by have := r6'.lt j hj; simp at h; omega
  have p7 : Rep H2 true true 3 i7 c7 (trL 1 (trLs 1 trStr) ds) := q7''.frame fun j hj => k8 j (q7''.lt j hj) fun h => by have := q7'.lt j hj; simp at h; omega
  -- put behind the others
  have p6' := p6.app [Entry.mk 1 [[c8]] 0 false]
  have p7' := p7.app [Entry.mk 1 [[c8]] 0 false]
  have p8' := r8.app [Entry.mk 1 [[c8]] 0 false]
  obtain ⟨c9, H3, j9, a3, r9, f9, n9, g9, l9, k9, _⟩ := p7'.append (by' := 24) (ys := [[c8]]) (tys := [trLs 1 trStr e]) (js := j8 ++ []) f7 n7 (by
      have := Sp.cons (Sp.one1 p8') (Sp.nil (P := Sp (Rep (H2 ++ [Entry.mk 1 [[c8]] 0 false]) true true 2)))
      exact this) (by simp) (by simpa using n8) (by
      intro j hj h
      simp at h
      have := d8 j h
      have := q7'.lt j hj
      omega) (by simp [bound]; omega) (by simp [bound]; omega)
  have p6'' : Rep H3 true true 2 j6 c6' (trL 1 trStr (ts ++ [t])) := by
    rw [trL, List.map_append]
    refine p6'.frame fun j hj => k9 j (p6'.lt j hj) fun h => ?_
    rcases g6 j hj with h' | h' | h'
    · exact dj j h' h
    · simp at h'
    · have := r7.lt j h
      simp at h'
      omega
  have p7'' : Rep H3 true true 3 j9 c9 (trL 1 (trLs 1 trStr) (ds ++ [e])) := by
    rw [trL, List.map_append]
    exact r9
  refine ⟨(c6', H1), (c8, H2), (c9, H3), a1, a2, a3, j6, j9, p6'', p7'', f6', f9, n6', n9, ?_⟩
  intro j hj h
  rcases g9 j h with h' | h' | h'
  · rcases g6 j hj with h2 | h2 | h2
    · exact dj j h2 h'
    · simp at h2
    · have := r7.lt j h'
      simp at h2
      omega
  · simp at h'
    have := d8 j h'
    have := r6'.lt j hj
    omega
  · have := r6'.lt j hj
    simp at h'
    simp at l8
    omega
theorem Two.read {c6 c7 : Cell} {ts : List Str} {ds : List (List Str)} (h : Two H c6 c7 ts ds) : mapO (reifyAV false H) [.agg [c6, c7]] = some [.agg [strsC ts, encL 1 eStrs ds]] := by
  obtain ⟨i6, i7, r6, r7, _⟩ := h
  have := mapO_c (reify_agg (Sp.cons (r6.more (m := 3) (by omega)) (Sp.cons r7 .nil)) (by omega)) (mapO_nil' (reifyAV false H))
  simpa only [List.map_cons, List.map_nil, trL_cell] using this

/-- A loop over a list that ends early where a test fails. -/
theorem loop_all {α β : Type} (xs : List α) (L : Nat → Int → β) (p : α → Bool) (fin F : β) (hs : ∀ (n i : Nat) (x : α), xs[i]? = some x → i < xs.length → L (n + 1) (i : Int) = cond (p x) (L n ((i + 1 : Nat) : Int)) F) (he : ∀ n, L (n + 1) (xs.length : Int) = fin) :
    ∀ n, xs.length < n → L n 0 = cond (xs.all p) fin F := by
  have key : ∀ (r : List α) (i n : Nat), xs.drop i = r → i ≤ xs.length → r.length < n → L n (i : Int) = cond (r.all p) fin F := by
    intro r
    induction r with
    | nil =>
      intro i n hd hi hn
      obtain ⟨n, rfl⟩ : ∃ j, n = j + 1 := ⟨n - 1, by omega⟩
      have := drop_nil hd
      obtain rfl : i = xs.length := by omega
      exact he n
    | cons x r ih =>
      intro i n hd hi hn
      obtain ⟨n, rfl⟩ : ∃ j, n = j + 1 := ⟨n - 1, by omega⟩
      obtain ⟨hlt, hx, hd'⟩ := drop_cons hd
      simp only [List.length_cons] at hn
      rw [hs n i x hx hlt, ih (i + 1) n hd' (by omega) (by omega), List.all_cons]
      cases p x <;> rfl
  intro n hn
  exact key xs 0 n rfl (Nat.zero_le _) hn
/-- A loop over places that ends early where a test fails. -/
theorem loop_range {β : Type} (N : Nat) (L : Nat → Int → β) (P : Nat → Bool) (fin F : β) (hs : ∀ (n i : Nat), i < N → L (n + 1) (i : Int) = cond (P i) (L n ((i + 1 : Nat) : Int)) F) (he : ∀ n, L (n + 1) (N : Int) = fin) :
    ∀ n, N < n → L n 0 = cond ((List.range N).all P) fin F := by
  have key : ∀ (d i n : Nat), i + d = N → d < n → L n (i : Int) = cond ((List.range' i d).all P) fin F := by
    intro d
    induction d with
    | zero =>
      intro i n hd hn
      obtain ⟨n, rfl⟩ : ∃ j, n = j + 1 := ⟨n - 1, by omega⟩
      obtain rfl : i = N := by omega
      exact he n
    | succ d ih =>
      intro i n hd hn
      obtain ⟨n, rfl⟩ : ∃ j, n = j + 1 := ⟨n - 1, by omega⟩
      rw [hs n i (by omega), ih (i + 1) n (by omega) (by omega), List.range'_succ, List.all_cons]
      cases P i <;> rfl
  intro n hn
  have := key N 0 n (by omega) hn
  rw [← List.range_eq_range'] at this
  exact this
theorem leafC (a b : Bool) (H : List Entry) : cond a (some ([AV.one (Cell.bool b)], H)) (some ([AV.one (Cell.bool false)], H)) = some ([AV.one (Cell.bool (a && b))], H) := by cases a <;> rfl
end Go.Ev
