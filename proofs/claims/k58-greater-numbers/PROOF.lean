import PyProof.Rows.All
import HandS.ForMost
import HandS.Zip
import HandS.DictComp
import KE.GoesEnumKw
import KE.GoesMore
import KE.KDictKeyed
import KE.KDictLaw
import KE.KDictDisplayH
import HandS.TupAny
import KE.KDictPairs
import PyProof.WalksMore
import HandS.FStrTup
import HandS.Defaults
import HandS.IsInst
import PySem.Challenge.RW_waitedmeets_k58_whole_greater_numbers_pa
import HandS.Walk
import HandS.ForExc
import HandS.Flow
import HandS.More
import HandS.TupLe
import Wide.All
import OpenK.AllK
import Wide.FinOn
set_option Elab.async false
set_option linter.all false
set_option maxRecDepth 100000
set_option maxHeartbeats 4000000
/-! Plain mathematics: rows that part, a search by layers, and that its row is a shortest one. No program here. -/
namespace Wm

theorem nodup_sub_len {α : Type} [DecidableEq α] : ∀ {l m : List α}, l.Nodup → (∀ x ∈ l, x ∈ m) → l.length ≤ m.length
  | [], _, _, _ => Nat.zero_le _
  | a :: l, m, nd, sub => by
    have ha : a ∈ m := sub a List.mem_cons_self
    obtain ⟨n1, n2⟩ := List.nodup_cons.mp nd
    have ih := nodup_sub_len (m := m.erase a) n2 fun x hx => by
      have hne : x ≠ a := fun e => n1 (e ▸ hx)
      exact (List.mem_erase_of_ne hne).mpr (sub x (List.mem_cons_of_mem _ hx))
    rw [List.length_erase_of_mem ha] at ih
    have : 0 < m.length := List.length_pos_of_mem ha
    rw [List.length_cons]
    omega

section
variable {N W : Type} (ws : List W) (st : N → W → Bool × N)

/-- the row leads from p to q; behind each step the node is good, and the step tells nothing -/
def Reach (g : N → Bool) : N → List W → N → Prop
  | p, [], q => p = q
  | p, w :: r, q => w ∈ ws ∧ g (st p w).2 = true ∧ (st p w).1 = true ∧ Reach g (st p w).2 r q
/-- the row parts: behind its last step, and no other one, the step tells; all nodes on the way are good -/
def Parts (g : N → Bool) (p : N) (r : List W) : Prop :=
  ∃ r0 w q, r = r0 ++ [w] ∧ Reach ws st g p r0 q ∧ w ∈ ws ∧ g (st q w).2 = true ∧ (st q w).1 = false
variable {ws st}
theorem Reach.mono {g g' : N → Bool} (h : ∀ x, g x = true → g' x = true) : ∀ {r : List W} {p q : N}, Reach ws st g p r q → Reach ws st g' p r q
  | [], _, _, e => e
  | _ :: _, _, _, ⟨a, b, c, d⟩ => ⟨a, h _ b, c, Reach.mono h d⟩
theorem Parts.mono {g g' : N → Bool} (h : ∀ x, g x = true → g' x = true) {r : List W} {p : N} : Parts ws st g p r → Parts ws st g' p r
  | ⟨r0, w, q, e, a, b, c, d⟩ => ⟨r0, w, q, e, a.mono h, b, h _ c, d⟩
theorem Reach.snoc {g : N → Bool} {w : W} : ∀ {r : List W} {p q : N}, Reach ws st g p r q → w ∈ ws → g (st q w).2 = true → (st q w).1 = true → Reach ws st g p (r ++ [w]) (st q w).2
  | [], p, q, e, a, b, c => by
    have e' : p = q := e
    subst e'
    exact ⟨a, b, c, rfl⟩
  | _ :: _, _, _, ⟨x, y, z, d⟩, a, b, c => ⟨x, y, z, Reach.snoc d a b c⟩

/-- the search: ps the nodes found, rw a row to each, i the node that is gone through, j how many of its words are done -/
structure Bfs (ws : List W) (st : N → W → Bool × N) (g : N → Bool) (p0 : N) (ps : List N) (ro : N → List W) (i j : Nat) : Prop where
  nd : ps.Nodup
  fst : ps[0]? = some p0
  root : ro p0 = []
  rch : ∀ q ∈ ps, Reach ws st g p0 (ro q) q
  good : ∀ q ∈ ps, g q = true
  mon : ∀ (a b : Nat) (qa qb : N), a ≤ b → ps[a]? = some qa → ps[b]? = some qb → (ro qa).length ≤ (ro qb).length
  top : ∀ (qa qb : N), ps[i]? = some qa → qb ∈ ps → (ro qb).length ≤ (ro qa).length + 1
  done : ∀ (a : Nat) (qa : N), a < i → ps[a]? = some qa → ∀ w ∈ ws, g (st qa w).2 = true → (st qa w).1 = true ∧ (st qa w).2 ∈ ps ∧ (ro (st qa w).2).length ≤ (ro qa).length + 1
  now : ∀ (qa : N), ps[i]? = some qa → ∀ w ∈ ws.take j, g (st qa w).2 = true → (st qa w).1 = true ∧ (st qa w).2 ∈ ps ∧ (ro (st qa w).2).length ≤ (ro qa).length + 1

theorem Bfs.start {g : N → Bool} {p0 : N} {ro : N → List W} (h : ro p0 = []) (hg : g p0 = true) : Bfs ws st g p0 [p0] ro 0 0 where
  nd := by simp
  fst := rfl
  root := h
  rch := fun q hq => by
    have e : q = p0 := by simpa using hq
    subst e
    rw [h]
    exact rfl
  good := fun q hq => by
    have e : q = p0 := by simpa using hq
    rw [e]
    exact hg
  mon := fun a b qa qb _ ha hb => by
    have h1 : qa = p0 := by
      have := List.mem_of_getElem? ha
      simpa using this
    have h2 : qb = p0 := by
      have := List.mem_of_getElem? hb
      simpa using this
    rw [h1, h2]
    exact Nat.le_refl _
  top := fun qa qb _ hb => by
    have e : qb = p0 := by simpa using hb
    rw [e, h]
    exact Nat.zero_le _
  done := fun a _ ha => absurd ha (Nat.not_lt_zero a)
  now := fun _ _ w hw => by simp at hw

section
variable {g : N → Bool} {p0 : N} {ps : List N} {ro ro' : N → List W} {i j : Nat} {w : W} {qa : N}
theorem take_succ_mem {x : W} (hw : ws[j]? = some w) (hx : x ∈ ws.take (j + 1)) : x ∈ ws.take j ∨ x = w := by
  rw [List.take_add_one, hw] at hx
  rcases List.mem_append.mp hx with h | h
  · exact .inl h
  · exact .inr (by simpa using h)
/-- the word leads out of what is good -/
theorem Bfs.skip (B : Bfs ws st g p0 ps ro i j) (hw : ws[j]? = some w) (ha : ps[i]? = some qa) (h : ¬ g (st qa w).2 = true) : Bfs ws st g p0 ps ro i (j + 1) :=
  { B with
    now := fun q hq x hx hg => by
      have e : qa = q := Option.some.inj (ha.symm.trans hq)
      subst e
      rcases take_succ_mem hw hx with h1 | h1
      · exact B.now _ hq x h1 hg
      · subst h1
        exact absurd hg h }
/-- the word leads to a node that is there -/
theorem Bfs.seen (B : Bfs ws st g p0 ps ro i j) (hw : ws[j]? = some w) (ha : ps[i]? = some qa) (h1 : (st qa w).1 = true) (h2 : (st qa w).2 ∈ ps) : Bfs ws st g p0 ps ro i (j + 1) :=
  { B with
    now := fun q hq x hx hg => by
      have e : qa = q := Option.some.inj (ha.symm.trans hq)
      subst e
      rcases take_succ_mem hw hx with h3 | h3
      · exact B.now _ hq x h3 hg
      · subst h3
        exact ⟨h1, h2, B.top _ _ ha h2⟩ }
/-- the word leads to a new node -/
theorem Bfs.fresh (B : Bfs ws st g p0 ps ro i j) (hw : ws[j]? = some w) (ha : ps[i]? = some qa) (h1 : (st qa w).1 = true) (hg : g (st qa w).2 = true) (h2 : (st qa w).2 ∉ ps)
    (e1 : ro' (st qa w).2 = ro qa ++ [w]) (e2 : ∀ q ∈ ps, ro' q = ro q) : Bfs ws st g p0 (ps ++ [(st qa w).2]) ro' i (j + 1) := by
  have hwm : w ∈ ws := List.mem_of_getElem? hw
  have ham : qa ∈ ps := List.mem_of_getElem? ha
  have hil : i < ps.length := (List.getElem?_eq_some_iff.mp ha).1
  have hp0 : p0 ∈ ps := List.mem_of_getElem? B.fst
  have old : ∀ {a : Nat} {q : N}, a < ps.length → (ps ++ [(st qa w).2])[a]? = some q → ps[a]? = some q := fun {a q} hl h => by
    rw [List.getElem?_append_left hl] at h
    exact h
  have len_new : (ro' (st qa w).2).length = (ro qa).length + 1 := by
    rw [e1, List.length_append]
    rfl
  have at_new : ∀ {a : Nat} {q : N}, ¬ a < ps.length → (ps ++ [(st qa w).2])[a]? = some q → q = (st qa w).2 := fun {a q} hl h => by
    rw [List.getElem?_append_right (Nat.le_of_not_lt hl)] at h
    have := List.mem_of_getElem? h
    simpa using this
  have up : ∀ q ∈ ps, (ro q).length ≤ (ro qa).length + 1 := fun q hq => B.top _ _ ha hq
  refine ⟨?_, ?_, ?_, ?_, ?_, ?_, ?_, ?_, ?_⟩
  · refine List.nodup_append.mpr ⟨B.nd, by simp, fun a hb b hb' => ?_⟩
    have e : b = (st qa w).2 := by simpa using hb'
    rw [e]
    exact fun z => h2 (z ▸ hb)
  · rw [List.getElem?_append_left (by omega)]
    exact B.fst
  · rw [e2 _ hp0]
    exact B.root
  · intro q hq
    rcases List.mem_append.mp hq with h | h
    · rw [e2 _ h]
      exact B.rch _ h
    · have e : q = (st qa w).2 := by simpa using h
      rw [e, e1]
      exact (B.rch _ ham).snoc hwm hg h1
  · intro q hq
    rcases List.mem_append.mp hq with h | h
    · exact B.good _ h
    · have e : q = (st qa w).2 := by simpa using h
      rw [e]
      exact hg
  · intro a b xa xb hab hxa hxb
    by_cases hb : b < ps.length
    · have ha' : a < ps.length := by omega
      have m1 := old ha' hxa
      have m2 := old hb hxb
      rw [e2 _ (List.mem_of_getElem? m1), e2 _ (List.mem_of_getElem? m2)]
      exact B.mon _ _ _ _ hab m1 m2
    · rw [at_new hb hxb, len_new]
      by_cases ha' : a < ps.length
      · have m1 := List.mem_of_getElem? (old ha' hxa)
        rw [e2 _ m1]
        exact up _ m1
      · rw [at_new ha' hxa, len_new]
        exact Nat.le_refl _
  · intro xa xb hxa hxb
    have m1 := old hil hxa
    have e : qa = xa := Option.some.inj (ha.symm.trans m1)
    subst e
    rw [e2 _ ham]
    rcases List.mem_append.mp hxb with h | h
    · rw [e2 _ h]
      exact up _ h
    · have e : xb = (st qa w).2 := by simpa using h
      rw [e, len_new]
      exact Nat.le_refl _
  · intro a xa hai hxa x hx hgx
    have m1 := old (by omega) hxa
    obtain ⟨r1, r2, r3⟩ := B.done a xa hai m1 x hx hgx
    refine ⟨r1, List.mem_append_left _ r2, ?_⟩
    rw [e2 _ r2, e2 _ (List.mem_of_getElem? m1)]
    exact r3
  · intro xa hxa x hx hgx
    have m1 := old hil hxa
    have e : qa = xa := Option.some.inj (ha.symm.trans m1)
    subst e
    rcases take_succ_mem hw hx with h3 | h3
    · obtain ⟨r1, r2, r3⟩ := B.now _ ha x h3 hgx
      refine ⟨r1, List.mem_append_left _ r2, ?_⟩
      rw [e2 _ r2, e2 _ ham]
      exact r3
    · subst h3
      refine ⟨h1, List.mem_append_right _ (by simp), ?_⟩
      rw [len_new, e2 _ ham]
      exact Nat.le_refl _
/-- the node is gone through -/
theorem Bfs.next (B : Bfs ws st g p0 ps ro i ws.length) (hi : i < ps.length) : Bfs ws st g p0 ps ro (i + 1) 0 := by
  have ha : ps[i]? = some ps[i] := List.getElem?_eq_getElem hi
  refine { B with top := fun xa xb hxa hxb => ?_, done := fun a xa hai hxa x hx hgx => ?_, now := fun _ _ x hx => by simp at hx }
  · have h1 := B.top _ _ ha hxb
    have h2 := B.mon i (i + 1) _ _ (Nat.le_succ _) ha hxa
    omega
  · by_cases h : a < i
    · exact B.done a xa h hxa x hx hgx
    · have e : a = i := by omega
      subst e
      refine B.now _ hxa x ?_ hgx
      rw [List.take_length]
      exact hx
/-- what short rows lead to is there -/
theorem Bfs.near (B : Bfs ws st g p0 ps ro i j) {L : Nat} (hp : ∀ a q, ps[a]? = some q → (ro q).length < L → a < i) : ∀ {r : List W} {x q : N} {k : Nat}, x ∈ ps → (ro x).length ≤ k → k + r.length ≤ L → Reach ws st g x r q → q ∈ ps ∧ (ro q).length ≤ k + r.length
  | [], x, q, k, hx, hk, _, h => by
    have e : x = q := h
    subst e
    exact ⟨hx, by simpa using hk⟩
  | w :: r, x, q, k, hx, hk, hL, ⟨h1, h2, h3, h4⟩ => by
    obtain ⟨a, ha, e⟩ := List.getElem_of_mem hx
    have hxa : ps[a]? = some x := by rw [List.getElem?_eq_getElem ha, e]
    rw [List.length_cons] at hL
    obtain ⟨_, m, l⟩ := B.done a x (hp a x hxa (by omega)) hxa w h1 h2
    obtain ⟨r1, r2⟩ := B.near hp (k := k + 1) m (by omega) (by omega) h4
    refine ⟨r1, ?_⟩
    rw [List.length_cons]
    omega
/-- the row that is found parts -/
theorem Bfs.parts (B : Bfs ws st g p0 ps ro i j) (hw : w ∈ ws) (ha : ps[i]? = some qa) (hg : g (st qa w).2 = true) (h : (st qa w).1 = false) : Parts ws st g p0 (ro qa ++ [w]) :=
  ⟨ro qa, w, qa, rfl, B.rch _ (List.mem_of_getElem? ha), hw, hg, h⟩
/-- and none that parts is shorter -/
theorem Bfs.least (B : Bfs ws st g p0 ps ro i j) (ha : ps[i]? = some qa) {r : List W} (hr : Parts ws st g p0 r) : (ro qa ++ [w]).length ≤ r.length := by
  obtain ⟨r0, v, q, rfl, h1, h2, h3, h4⟩ := hr
  rw [List.length_append, List.length_append, List.length_cons, List.length_nil, List.length_cons, List.length_nil]
  by_cases hlt : r0.length < (ro qa).length
  · exfalso
    have hp : ∀ a x, ps[a]? = some x → (ro x).length < (ro qa).length → a < i := fun a x hx hl => by
      by_cases hai : a < i
      · exact hai
      · have := B.mon i a _ _ (by omega) ha hx
        omega
    obtain ⟨m, l⟩ := B.near hp (x := p0) (k := 0) (List.mem_of_getElem? B.fst) (by rw [B.root]; exact Nat.le_refl _) (by omega) h1
    obtain ⟨a, hla, e⟩ := List.getElem_of_mem m
    have hxa : ps[a]? = some q := by rw [List.getElem?_eq_getElem hla, e]
    obtain ⟨z, _⟩ := B.done a q (hp a q hxa (by omega)) hxa v h2 h3
    rw [h4] at z
    cases z
  · omega
/-- where all is gone through no row parts -/
theorem Bfs.none (B : Bfs ws st g p0 ps ro i j) (hi : ps.length ≤ i) {r : List W} (hr : Parts ws st g p0 r) : False := by
  obtain ⟨r0, v, q, rfl, h1, h2, h3, h4⟩ := hr
  have hp : ∀ (L : Nat) a x, ps[a]? = some x → (ro x).length < L → a < i := fun L a x hx _ => by
    have := (List.getElem?_eq_some_iff.mp hx).1
    omega
  obtain ⟨m, l⟩ := B.near (hp (r0.length)) (x := p0) (k := 0) (List.mem_of_getElem? B.fst) (by rw [B.root]; exact Nat.le_refl _) (by omega) h1
  obtain ⟨a, hla, e⟩ := List.getElem_of_mem m
  have hxa : ps[a]? = some q := by rw [List.getElem?_eq_getElem hla, e]
  obtain ⟨z, _⟩ := B.done a q (by omega) hxa v h2 h3
  rw [h4] at z
  cases z
end
end

/-- all lists of n numbers from 0 to 3 -/
def rows4 : Nat → List (List Int)
  | 0 => [[]]
  | n + 1 => (rows4 n).flatMap fun r => [0 :: r, 1 :: r, 2 :: r, 3 :: r]
theorem rows4_len : ∀ n, (rows4 n).length = 4 ^ n
  | 0 => rfl
  | n + 1 => by
    have h : ∀ l : List (List Int), (l.flatMap fun r => [(0 : Int) :: r, 1 :: r, 2 :: r, 3 :: r]).length = 4 * l.length := fun l => by
      induction l with
      | nil => rfl
      | cons a l ih =>
        rw [List.flatMap_cons, List.length_append, ih, List.length_cons]
        show 4 + 4 * l.length = 4 * (l.length + 1)
        omega
    show ((rows4 n).flatMap _).length = 4 ^ (n + 1)
    rw [h, rows4_len n, Nat.pow_succ, Nat.mul_comm]
theorem rows4_mem : ∀ (h : List Int), (∀ x ∈ h, 0 ≤ x ∧ x ≤ 3) → h ∈ rows4 h.length
  | [], _ => by simp [rows4]
  | a :: h, hb => by
    have ih := rows4_mem h fun x hx => hb x (List.mem_cons_of_mem _ hx)
    show a :: h ∈ (rows4 h.length).flatMap _
    rw [List.mem_flatMap]
    refine ⟨h, ih, ?_⟩
    obtain ⟨h1, h2⟩ := hb a List.mem_cons_self
    have : a = 0 ∨ a = 1 ∨ a = 2 ∨ a = 3 := by omega
    rcases this with e | e | e | e <;> subst e <;> simp
/-- so many pairs of heaps at most -/
def pairs4 (n : Nat) : List (List Int × List Int) := (rows4 n).flatMap fun a => (rows4 n).map fun b => (a, b)
theorem pairs4_len (n : Nat) : (pairs4 n).length = 4 ^ n * 4 ^ n := by
  have h : ∀ l : List (List Int), (l.flatMap fun a => (rows4 n).map fun b => (a, b)).length = l.length * 4 ^ n := fun l => by
    induction l with
    | nil => simp
    | cons a l ih => rw [List.flatMap_cons, List.length_append, ih, List.length_map, rows4_len, List.length_cons, Nat.succ_mul, Nat.add_comm]
  show ((rows4 n).flatMap _).length = _
  rw [h, rows4_len]
theorem pairs4_mem {n : Nat} {p : List Int × List Int} (h1 : p.1.length = n) (h2 : p.2.length = n) (h : ∀ x ∈ p.1 ++ p.2, 0 ≤ x ∧ x ≤ 3) : p ∈ pairs4 n := by
  have m1 := rows4_mem p.1 fun x hx => h x (List.mem_append_left _ hx)
  have m2 := rows4_mem p.2 fun x hx => h x (List.mem_append_right _ hx)
  rw [h1] at m1
  rw [h2] at m2
  show p ∈ (rows4 n).flatMap _
  rw [List.mem_flatMap]
  exact ⟨p.1, m1, List.mem_map.mpr ⟨p.2, m2, rfl⟩⟩
theorem pairs_few {n : Nat} (hn : n ≤ 3) {ps : List (List Int × List Int)} (nd : ps.Nodup) (h : ∀ p ∈ ps, p.1.length = n ∧ p.2.length = n ∧ ∀ x ∈ p.1 ++ p.2, 0 ≤ x ∧ x ≤ 3) : ps.length ≤ 4096 := by
  have h1 := nodup_sub_len nd fun p hp => pairs4_mem (h p hp).1 (h p hp).2.1 (h p hp).2.2
  rw [pairs4_len] at h1
  have h2 : 4 ^ n ≤ 4 ^ 3 := Nat.pow_le_pow_right (by decide) hn
  have h3 : 4 ^ n * 4 ^ n ≤ 4 ^ 3 * 4 ^ 3 := Nat.mul_le_mul h2 h2
  have h4 : 4 ^ 3 * 4 ^ 3 = 4096 := rfl
  omega
end Wm
/-! zip(x, y, strict=True) over two tuples, walked; enumerate(tuple), walked. -/
namespace Wm
open PySem PySem.Spec PyProof.Rows L2
open PySem.Sem (wp)

abbrev ZsAt (h : Heap) (z TI TO : Addr) (f0 : Value) : Prop :=
  h.get? z = some { cls := .type "zip", dict := none, data := .fields #[f0, .bool false, .bool true, .ref TI, .ref TO], slots := #[] }

section
variable {prog : Program} {w : World} {A : Around} {E : Value → Shared → Prop} {s : Shared}
theorem drawS_item {it : Value} {Q : Option Value → Shared → Prop} (h : wpAny (model prog w) A (Builtin.SmallTypes.nextOf it) (fun v s' => Q (some v) s') E s) (hE : ∀ e s', E e s' → False) :
    wpAny (model prog w) A (Builtin.SmallTypes.nextOrEnd it) Q E s := by
  unfold Builtin.SmallTypes.nextOrEnd
  refine wpAny_bind (wpAny_attempt (wpAny_mono h (fun v s' q => wpAny_pure q) fun e s' q => (hE e s' q).elim))
theorem drawS_some {it t : Addr} {i : Nat} {items : Array Value} {x : Value} {Q : Option Value → Shared → Prop} (hit : s.heap.IsTupleIter it t i) (ht : s.heap.IsTuple t items) (hx : items[i]? = some x)
    (hQ : ∀ h', h'.IsTupleIter it t (i + 1) → Heap.SameBut it s.heap h' → Q (some x) { s with heap := h' }) : wpAny (model prog w) A (Builtin.SmallTypes.nextOrEnd (.ref it)) Q E s := by
  unfold Builtin.SmallTypes.nextOrEnd
  exact wpAny_bind (wpAny_attempt (wpAny_nextOf_tuple_item hit ht hx fun h' a b => wpAny_pure (hQ h' a b)))
theorem drawS_none {it t : Addr} {i : Nat} {items : Array Value} {Q : Option Value → Shared → Prop} (hh : A.handled = none) (hit : s.heap.IsTupleIter it t i) (ht : s.heap.IsTuple t items) (hx : items[i]? = none)
    (hQ : ∀ h', Heap.ExtBut it s.heap h' → Q none { s with heap := h' }) : wpAny (model prog w) A (Builtin.SmallTypes.nextOrEnd (.ref it)) Q E s := by
  unfold Builtin.SmallTypes.nextOrEnd
  refine wpAny_bind (wpAny_attempt (wpAny_nextOf_tuple_end hh hit ht hx fun h' e k he => ?_))
  obtain ⟨o, ho, hc⟩ := he
  exact wpAny_bind (wpAny_isInstance (T := "StopIteration") (b := true) ⟨o, ho, hc⟩ isSubtype_stop (wpAny_pure (hQ h' k)))
/-- a new StopIteration, raised -/
theorem stop_raised {α : Type} {Q : α → Shared → Prop} (hh : A.handled = none)
    (hE : ∀ h' e, (∀ b o, s.heap.get? b = some o → h'.get? b = some o) → (∃ o, h'.get? e = some o ∧ o.cls = .type "StopIteration") → E (.ref e) { s with heap := h' }) :
    wpAny (model prog w) A (Builtin.SmallTypes.stopIteration : Sem α) Q E s := by
  unfold Builtin.SmallTypes.stopIteration
  refine wpAny_bind ?_
  simp only [newExc, newTuple]
  refine wpAny_bind (wpAny_newObj_type ?_ (by size_fits))
  refine wpAny_bind (m := firstArgMember _ _) (wpAny_of_eq (a := Value.none) (by first | rfl | (simp only [firstArgMember]; rfl)) ?_)
  refine wpAny_newObj_type ?_ (by size_fits)
  simp only [raiseNew]
  refine wpAny_bind (wpAny_handled ?_)
  first | rw [show A.in1.handled = none from hh] | rw [hh]
  refine wpAny_bind (wpAny_pure (wpAny_throw ?_))
  exact hE _ _ (fun b o e => Heap.get?_push_of_some _ (Heap.get?_push_of_some _ e)) ⟨_, Heap.get?_push_size _ rfl, rfl⟩

theorem zs_letGo {elts : List Expr} {x1} {pos : Pos} {z TI TO T : Addr} {Q : Unit → Shared → Prop} (hz : ZsAt s.heap z TI TO (rawInt T))
    (hQ : ∀ h', ZsAt h' z TI TO .none → Heap.SameBut z s.heap h' → Q () { s with heap := h' }) :
    wpAny (model prog w) A (letOwnedTupleGo (.Tuple elts x1 pos) (.ref z) (.ref T)) Q E s := by
  unfold letOwnedTupleGo
  refine wpAny_bind (wpAny_load hz ?_)
  show wpAny _ _ (if (["enumerate", "zip", "dict_itemiterator", "dict_reverseitemiterator", "odict_iterator", "itertools.zip_longest", "itertools.pairwise"].contains "zip" &&
      (#[rawInt T, .bool false, .bool true, .ref TI, .ref TO] : Array Value)[0]? == some (rawInt T)) = true then _ else _) Q E s
  rw [if_pos (by simp)]
  refine wpAny_bind (wpAny_rule ?_)
  show wpAny _ _ (setField (.ref z) 0 .none) Q E s
  exact wpAny_setField_rec hz (by simp) fun h' hz' hs' => hQ h' hz' hs'
theorem zs_iter {z TI TO : Addr} {f0 : Value} {Q : Value → Shared → Prop} (hz : ZsAt s.heap z TI TO f0) (h : Q (.ref z) s) : wpAny (model prog w) A (pyIter (.ref z)) Q E s := by
  have hT : s.TypeIs (.ref z) "zip" := ⟨_, hz, rfl⟩
  refine wpAny_pyIter_slot hT F.slot_zip_iter (wpAny_call_entry F.slot_zip_iter hT F.entry_zip_iter ?_ (F.args_zip_iter_1 _))
  show wpAny _ _ (ret (.ref z)) _ _ s
  exact wpAny_pure ⟨_, rfl, "zip", _, hT, F.slot_zip_next.lookup, h⟩

theorem zs_next {z TI TO i1 i2 l1 l2 : Addr} {k1 k2 : Nat} {xs ys : Array Value} {x y a b : Value} {Q : Option Value → Shared → Prop} (D : ZipApart z TI TO i1 i2 l1 l2)
    (hz : ZsAt s.heap z TI TO .none) (hTI : IsPair s.heap TI (.ref i1) (.ref i2)) (hTO : IsPair s.heap TO a b)
    (h1 : s.heap.IsTupleIter i1 l1 k1) (h2 : s.heap.IsTupleIter i2 l2 k2) (hl1 : s.heap.IsTuple l1 xs) (hl2 : s.heap.IsTuple l2 ys) (hx : xs[k1]? = some x) (hy : ys[k2]? = some y)
    (hQ : ∀ h', ZsAt h' z TI TO (rawInt s.heap.objs.size) → IsPair h' TO x y → h'.IsTupleIter i1 l1 (k1 + 1) → h'.IsTupleIter i2 l2 (k2 + 1) → IsPair h' s.heap.objs.size x y → h'.objs.size = s.heap.objs.size + 1 →
      (∀ c o, c ≠ z → c ≠ TO → c ≠ i1 → c ≠ i2 → s.heap.get? c = some o → h'.get? c = some o) → Q (some (.ref s.heap.objs.size)) { s with heap := h' }) :
    wpAny (model prog w) A (pyNext (.ref z)) Q E s := by
  have hT : s.TypeIs (.ref z) "zip" := ⟨_, hz, rfl⟩
  unfold pyNext
  refine wpAny_bind (wpAny_attempt (wpAny_callSpecial?_slot (name := Str.ofString "__next__") hT F.slot_zip_next
    (wpAny_call_entry F.slot_zip_next hT F.entry_zip_next ?_ (F.args_zip_next_1 _))))
  show wpAny _ _ (field (.ref z) 2 >>= _) _ _ _
  refine wpAny_bind (wpAny_field hz rfl (x := .bool true) rfl ?_)
  show wpAny _ _ (field (.ref z) 3 >>= _) _ _ _
  refine wpAny_bind (wpAny_field hz rfl (x := .ref TI) rfl ?_)
  refine wpAny_bind (wpAny_seqItems hTI rfl ?_)
  show wpAny _ _ (Builtin.SmallTypes.ownedTupleIsFree (.ref z) >>= _) _ _ _
  refine wpAny_bind ?_
  unfold Builtin.SmallTypes.ownedTupleIsFree
  refine wpAny_bind (wpAny_field hz rfl (x := .none) rfl (wpAny_pure ?_))
  simp only [if_true]
  refine wpAny_bind (wpAny_rule ?_)
  refine wpAny_bind (wpAny_field hz rfl (x := .ref TO) rfl ?_)
  refine wpAny_bind (wpAny_setField_rec hz (by simp) fun g1 hz1 hs1 => ?_)
  replace hz1 : ZsAt g1 z TI TO .ellipsis := hz1
  refine wpAny_bind ?_
  simp only [List.zipIdx_cons, List.zipIdx_nil, List.forIn_cons, List.forIn_nil]
  -- the first tuple's item
  refine wpAny_bind (wpAny_bind (wpAny_onRaise ?_))
  show wpAny _ _ (Builtin.SmallTypes.nextOrEnd (.ref i1)) _ _ _
  refine drawS_some (h1.extBut hs1.extBut D.i1z) (hl1.extBut hs1.extBut D.l1z) hx fun g2 h12 hs2 => ?_
  have hTO2 : IsPair g2 TO a b := hs2.extBut _ _ D.TOi1 (hs1.extBut _ _ D.TOz hTO)
  refine wpAny_bind (wpAny_seqItems hTO2 rfl ?_)
  refine wpAny_bind (wpAny_updateSeq_pair hTO2 fun g3 hTO3 hs3 => ?_)
  replace hTO3 : IsPair g3 TO x b := hTO3
  refine wpAny_bind (wpAny_letGo (wpAny_pure ?_))
  -- the second's
  refine wpAny_bind (wpAny_bind (wpAny_onRaise ?_))
  show wpAny _ _ (Builtin.SmallTypes.nextOrEnd (.ref i2)) _ _ _
  refine drawS_some (((h2.extBut hs1.extBut D.i2z).extBut hs2.extBut D.i12.symm).extBut hs3.extBut D.TOi2.symm)
    (((hl2.extBut hs1.extBut D.l2z).extBut hs2.extBut D.l2i1).extBut hs3.extBut D.l2TO) hy fun g4 h24 hs4 => ?_
  have hTO4 : IsPair g4 TO x b := hs4.extBut _ _ D.TOi2 hTO3
  refine wpAny_bind (wpAny_seqItems hTO4 rfl ?_)
  refine wpAny_bind (wpAny_updateSeq_pair hTO4 fun g5 hTO5 hs5 => ?_)
  replace hTO5 : IsPair g5 TO x y := hTO5
  refine wpAny_bind (wpAny_letGo (wpAny_pure (wpAny_pure ?_)))
  refine wpAny_bind (wpAny_seqItems hTO5 rfl ?_)
  refine wpAny_bind (wpAny_newTuple ?_)
  have hsz : g5.objs.size = s.heap.objs.size := by rw [hs5.1, hs4.1, hs3.1, hs2.1, hs1.1]
  have hz5 : ZsAt g5 z TI TO .ellipsis := hs5.extBut _ _ D.TOz.symm (hs4.extBut _ _ D.i2z.symm (hs3.extBut _ _ D.TOz.symm (hs2.extBut _ _ D.i1z.symm hz1)))
  have hk5 : ∀ c o, c ≠ z → c ≠ TO → c ≠ i1 → c ≠ i2 → s.heap.get? c = some o → g5.get? c = some o := fun c o c1 c2 c3 c4 e =>
    hs5.extBut _ _ c2 (hs4.extBut _ _ c4 (hs3.extBut _ _ c2 (hs2.extBut _ _ c3 (hs1.extBut _ _ c1 e))))
  have h15 : g5.IsTupleIter i1 l1 (k1 + 1) := ((h12.extBut hs3.extBut D.TOi1.symm).extBut hs4.extBut D.i12).extBut hs5.extBut D.TOi1.symm
  have h25 : g5.IsTupleIter i2 l2 (k2 + 1) := h24.extBut hs5.extBut D.TOi2.symm
  have hzlt : z < g5.objs.size := Heap.lt_size hz5
  show wpAny _ _ (Builtin.SmallTypes.ownedTupleHandOut (.ref z) (.ref g5.objs.size) >>= _) _ _ _
  refine wpAny_bind ?_
  unfold Builtin.SmallTypes.ownedTupleHandOut
  have hz6 : ZsAt (g5.push { cls := .type "tuple", data := .seq #[x, y] }) z TI TO .ellipsis := Heap.get?_push_of_some _ hz5
  refine wpAny_bind (wpAny_setField_rec hz6 (by simp) fun g7 hz7 hs7 => ?_)
  replace hz7 : ZsAt g7 z TI TO (rawInt g5.objs.size) := hz7
  refine wpAny_setField_rec hz7 (by simp) fun g8 hz8 hs8 => ?_
  replace hz8 : ZsAt g8 z TI TO (rawInt g5.objs.size) := hz8
  have up : ∀ c o, c ≠ z → g5.get? c = some o → g8.get? c = some o := fun c o c1 e => hs8.extBut _ _ c1 (hs7.extBut _ _ c1 (Heap.get?_push_of_some _ e))
  have hT8 : IsPair g8 g5.objs.size x y := hs8.extBut _ _ (Nat.ne_of_gt hzlt) (hs7.extBut _ _ (Nat.ne_of_gt hzlt) (Heap.get?_push_size _ rfl))
  have z8 : g8.objs.size = g5.objs.size + 1 := by rw [hs8.1, hs7.1, Heap.size_push]
  rw [hsz] at hz8 hT8 z8
  refine wpAny_pure ⟨_, rfl, ?_⟩
  refine wpAny_pure ?_
  rw [hsz]
  exact hQ g8 hz8 (up _ _ D.TOz hTO5) (h15.at fun o e => up _ o D.i1z e) (h25.at fun o e => up _ o D.i2z e) hT8 z8 fun c o c1 c2 c3 c4 e => up c o c1 (hk5 c o c1 c2 c3 c4 e)

theorem zs_end {z TI TO i1 i2 l1 l2 : Addr} {k1 k2 : Nat} {xs ys : Array Value} {a b : Value} {Q : Option Value → Shared → Prop} (hh : A.handled = none) (D : ZipApart z TI TO i1 i2 l1 l2)
    (hz : ZsAt s.heap z TI TO .none) (hTI : IsPair s.heap TI (.ref i1) (.ref i2)) (hTO : IsPair s.heap TO a b)
    (h1 : s.heap.IsTupleIter i1 l1 k1) (h2 : s.heap.IsTupleIter i2 l2 k2) (hl1 : s.heap.IsTuple l1 xs) (hl2 : s.heap.IsTuple l2 ys) (hx : xs[k1]? = none) (hy : ys[k2]? = none)
    (hQ : ∀ h', (∀ c o, c ≠ z → c ≠ TO → c ≠ i1 → c ≠ i2 → s.heap.get? c = some o → h'.get? c = some o) → Q none { s with heap := h' }) : wpAny (model prog w) A (pyNext (.ref z)) Q E s := by
  have hT : s.TypeIs (.ref z) "zip" := ⟨_, hz, rfl⟩
  unfold pyNext
  refine wpAny_bind (wpAny_attempt (wpAny_callSpecial?_slot (name := Str.ofString "__next__") hT F.slot_zip_next
    (wpAny_call_entry F.slot_zip_next hT F.entry_zip_next ?_ (F.args_zip_next_1 _))))
  show wpAny _ _ (field (.ref z) 2 >>= _) _ _ _
  refine wpAny_bind (wpAny_field hz rfl (x := .bool true) rfl ?_)
  show wpAny _ _ (field (.ref z) 3 >>= _) _ _ _
  refine wpAny_bind (wpAny_field hz rfl (x := .ref TI) rfl ?_)
  refine wpAny_bind (wpAny_seqItems hTI rfl ?_)
  show wpAny _ _ (Builtin.SmallTypes.ownedTupleIsFree (.ref z) >>= _) _ _ _
  refine wpAny_bind ?_
  unfold Builtin.SmallTypes.ownedTupleIsFree
  refine wpAny_bind (wpAny_field hz rfl (x := .none) rfl (wpAny_pure ?_))
  simp only [if_true]
  refine wpAny_bind (wpAny_rule ?_)
  refine wpAny_bind (wpAny_field hz rfl (x := .ref TO) rfl ?_)
  refine wpAny_bind (wpAny_setField_rec hz (by simp) fun g1 hz1 hs1 => ?_)
  replace hz1 : ZsAt g1 z TI TO .ellipsis := hz1
  refine wpAny_bind ?_
  simp only [List.zipIdx_cons, List.zipIdx_nil, List.forIn_cons, List.forIn_nil]
  refine wpAny_bind (wpAny_bind (wpAny_onRaise ?_))
  show wpAny _ _ (Builtin.SmallTypes.nextOrEnd (.ref i1)) _ _ _
  refine drawS_none hh (h1.extBut hs1.extBut D.i1z) (hl1.extBut hs1.extBut D.l1z) hx fun g2 hs2 => ?_
  have hz2 : ZsAt g2 z TI TO .ellipsis := hs2 _ _ D.i1z.symm hz1
  refine wpAny_bind (wpAny_setField_rec hz2 (by simp) fun g3 hz3 hs3 => ?_)
  refine wpAny_bind ?_
  have k3 : ∀ c o, c ≠ z → c ≠ i1 → s.heap.get? c = some o → g3.get? c = some o := fun c o c1 c2 e => hs3.extBut _ _ c1 (hs2 _ _ c2 (hs1.extBut _ _ c1 e))
  show wpAny _ _ (forIn [(Value.ref i2, 1)] PUnit.unit _ >>= _) _ _ _
  simp only [List.forIn_cons, List.forIn_nil]
  refine wpAny_bind (wpAny_bind (wpAny_bind (drawS_none hh (h2.at fun o e => k3 _ _ D.i2z D.i12.symm e) (hl2.at fun o e => k3 _ _ D.l2z D.l2i1 e) hy fun g4 hs4 => ?_)))
  refine wpAny_pure (wpAny_pure (wpAny_bind (wpAny_rule ?_)))
  refine stop_raised hh fun g5 e k5 he => ?_
  obtain ⟨o, ho, hc⟩ := he
  refine wpAny_bind (wpAny_isInstance (T := "StopIteration") (b := true) ⟨o, ho, hc⟩ isSubtype_stop ?_)
  exact wpAny_pure (hQ _ fun c o c1 c2 c3 c4 e => k5 _ _ (hs4 _ _ c4 (k3 _ _ c1 c3 e)))
end

/-! ### zip(x, y, strict=True) is made -/
theorem ty_zipS (a b c : Value) : checkTypeCall "zip" ⟨[a, b], [(Str.ofString "strict", c)]⟩ = pure () := by kernel_rfl
theorem new_zipS (a b c : Value) : checkBuiltinCall "zip.__new__" ⟨[.type "zip", a, b], [(Str.ofString "strict", c)]⟩ = pure () := by kernel_rfl
theorem init_zipS (o a b c : Value) : argsOk "object.__init__" ⟨[o, a, b], [(Str.ofString "strict", c)]⟩ := by unfold argsOk; kernel_rfl
abbrev zs1 (h : Heap) (l1 : Addr) : Heap := h.push { cls := .type "tuple_iterator", data := .fields #[.ref l1, .int 0 0] }
abbrev zs2 (h : Heap) (l1 l2 : Addr) : Heap := (zs1 h l1).push { cls := .type "tuple_iterator", data := .fields #[.ref l2, .int 0 0] }
abbrev zs3 (h : Heap) (l1 l2 : Addr) : Heap := (zs2 h l1 l2).push { cls := .type "tuple", data := .seq #[.ref h.objs.size, .ref (zs1 h l1).objs.size] }
abbrev zs4 (h : Heap) (l1 l2 : Addr) : Heap := (zs3 h l1 l2).push { cls := .type "tuple", data := .seq #[.none, .none] }
abbrev zs5 (h : Heap) (l1 l2 : Addr) : Heap := (zs4 h l1 l2).push { cls := .type "zip", data := .fields #[.none, .bool false, .bool true, .ref (zs2 h l1 l2).objs.size, .ref (zs3 h l1 l2).objs.size] }
theorem meets_zipS (l1 l2 : Addr) (xs ys : Array Value) :
    Meets (Builtin.«zip.__new__» ⟨[.type "zip", .ref l1, .ref l2], [(Str.ofString "strict", .bool true)]⟩) (fun _ R s => s.heap.IsTuple l1 xs ∧ s.heap.IsTuple l2 ys ∧
      R (.ok (.ret (.ref (zs4 s.heap l1 l2).objs.size))) { s with heap := zs5 s.heap l1 l2 }) :=
  .of_wp fun prog w A R s h => by
    obtain ⟨hp, g, d, tk, os⟩ := s; obtain ⟨hl1, hl2, h⟩ := h
    have hsub := sub_zip
    have hL1 : Heap.IsTuple (Shared.heap ⟨hp, g, d, tk, os⟩) l1 xs := hl1
    have hL2 : Heap.IsTuple (Shared.heap ⟨hp.push { cls := .type "tuple_iterator", data := .fields #[.ref l1, .int 0 0] }, g, d, tk, os⟩) l2 ys := Heap.IsTuple.push hl2 _
    have e1 : (Str.ofString "strict" == ("strict" : Str)) = true := by decide +kernel
    have e2 : (Str.ofString "strict" != ("strict" : Str)) = false := by decide +kernel
    wp_walk using wpAny_pyIter_tuple hL1, wpAny_pyIter_tuple hL2
    exact ⟨_, rfl, h⟩
section
variable {prog : Program} {w : World} {A : Around} {E : Value → Shared → Prop} {s : Shared}
theorem call_zipS {l1 l2 : Addr} {xs ys : Array Value} {Q : Value → Shared → Prop} (hl1 : s.heap.IsTuple l1 xs) (hl2 : s.heap.IsTuple l2 ys)
    (h : ∀ h', ZsAt h' (s.heap.objs.size + 4) (s.heap.objs.size + 2) (s.heap.objs.size + 3) .none → IsPair h' (s.heap.objs.size + 2) (.ref s.heap.objs.size) (.ref (s.heap.objs.size + 1)) →
      IsPair h' (s.heap.objs.size + 3) .none .none → h'.IsTupleIter s.heap.objs.size l1 0 → h'.IsTupleIter (s.heap.objs.size + 1) l2 0 →
      (∀ c o, s.heap.get? c = some o → h'.get? c = some o) → Q (.ref (s.heap.objs.size + 4)) { s with heap := h' }) :
    wpAny (model prog w) A (call (.type "zip") [.ref l1, .ref l2] [(Str.ofString "strict", .bool true)]) Q E s := by
  refine callType_newKw F.called_zip (by decide) (ty_zipS _ _ _) (new_zipS _ _ _) (fun obj => init_zipS obj _ _ _) F.entry_zip_new
    (meets_zipS l1 l2 xs ys) ⟨hl1, hl2, ?_⟩
  have z1 : (zs1 s.heap l1).objs.size = s.heap.objs.size + 1 := Heap.size_push ..
  have z2 : (zs2 s.heap l1 l2).objs.size = s.heap.objs.size + 2 := by rw [Heap.size_push, z1]
  have z3 : (zs3 s.heap l1 l2).objs.size = s.heap.objs.size + 3 := by rw [Heap.size_push, z2]
  have z4 : (zs4 s.heap l1 l2).objs.size = s.heap.objs.size + 4 := by rw [Heap.size_push, z3]
  have up4 : ∀ c o, (zs4 s.heap l1 l2).get? c = some o → (zs5 s.heap l1 l2).get? c = some o := fun c o e => Heap.get?_push_of_some _ e
  have up3 : ∀ c o, (zs3 s.heap l1 l2).get? c = some o → (zs5 s.heap l1 l2).get? c = some o := fun c o e => up4 c o (Heap.get?_push_of_some _ e)
  have up2 : ∀ c o, (zs2 s.heap l1 l2).get? c = some o → (zs5 s.heap l1 l2).get? c = some o := fun c o e => up3 c o (Heap.get?_push_of_some _ e)
  have up1 : ∀ c o, (zs1 s.heap l1).get? c = some o → (zs5 s.heap l1 l2).get? c = some o := fun c o e => up2 c o (Heap.get?_push_of_some _ e)
  have g5 : (zs5 s.heap l1 l2).get? (zs4 s.heap l1 l2).objs.size = some _ := Heap.get?_push_size _ rfl
  have g4 : (zs5 s.heap l1 l2).get? (zs3 s.heap l1 l2).objs.size = some _ := up4 _ _ (Heap.get?_push_size _ rfl)
  have g3 : (zs5 s.heap l1 l2).get? (zs2 s.heap l1 l2).objs.size = some _ := up3 _ _ (Heap.get?_push_size _ rfl)
  have g2 : (zs5 s.heap l1 l2).get? (zs1 s.heap l1).objs.size = some _ := up2 _ _ (Heap.get?_push_size _ rfl)
  have g1 : (zs5 s.heap l1 l2).get? s.heap.objs.size = some _ := up1 _ _ (Heap.get?_push_size _ rfl)
  show _ ∧ _
  rw [z2, z3, z4] at g5
  rw [z1, z2] at g3
  rw [z3] at g4
  rw [z1] at g2
  rw [z4]
  exact ⟨⟨_, g5, rfl⟩, h _ g5 g3 g4 ⟨_, g1, rfl, rfl⟩ ⟨_, g2, rfl, rfl⟩ fun c o x => up1 _ _ (Heap.get?_push_of_some _ x)⟩
end
section
variable {M : Model} {A : Around} {E : Value → Shared → Prop} {s : Shared} {env : Env}
/-- T(e, .., k = v, ..), T a built-in type -/
theorem cw_tyKw {pos : Pos} {T : String} {e : Expr} {rest : List Expr} {kws : List Keyword} {Q : Value → Shared → Prop}
    (h : wpAny M A (spliced (backTo pos (starEach (e :: rest) env))) (fun vs s₁ => wpAny M A (evalAll ((backToKw pos (keywordEach kws env)).map (·.2)))
      (fun kvs s₂ => wpAny M A (call (.type T) vs (((backToKw pos (keywordEach kws env)).filterMap (·.1)).zip kvs)) Q E s₂) E s₁) E s)
    (he : backTo pos (starEach (e :: rest) env) = (false, eval e env) :: backTo pos (starEach rest env) := by rfl)
    (hp : (backTo pos (starEach (e :: rest) env)).any (·.1) = false := by rfl)
    (hall : (backToKw pos (keywordEach kws env)).all (·.1.isSome) = true := by rfl)
    (hn : (backToKw pos (keywordEach kws env)).any (·.1.isNone) = false := by rfl) :
    wpAny M A (callWith pos (.type T) [] (backTo pos (starEach (e :: rest) env)) (backToKw pos (keywordEach kws env))) Q E s := by
  have h2 : wpAny M A (evalArgs (.type T) true (backTo pos (starEach (e :: rest) env)) (backToKw pos (keywordEach kws env))) (fun a s₁ => wpAny M A (call (.type T) ([] ++ a.pos) a.kw) Q E s₁) E s := by
    rw [he] at h ⊢
    exact evalArgs_kwB hall h
  unfold callWith
  refine wpAny_bind (wpAny_holding (wpAny_mono h2 (fun a s₁ h₁ => wpAny_bind (wpAny_standAt ?_)) fun _ _ x => x))
  simp only [hp, hn, Bool.or_false]
  refine wpAny_bind (wpAny_pure ?_)
  exact wpAny_bind (wpAny_mono h₁ (fun r s₂ hr => wpAny_bind (wpAny_holding (wpAny_point (wpAny_pure hr)))) fun _ _ x => x)
end

/-! ### as what a for or a comprehension walks -/
/-- the tuples at a and b, of one length, the items in new pairs -/
def ItS (K : PySem.W.Frag) (a b : Addr) : It :=
  ⟨fun i H => ∃ (xs ys : List V) (x y : V), SqT K H a xs ∧ SqT K H b ys ∧ xs[i]? = some x ∧ ys[i]? = some y,
    fun i H v H' => ∃ T x y, v = .ref T ∧ H T = none ∧ H' = upd H T (.tup [x, y]) ∧ (∀ xs, SqT K H a xs → xs[i]? = some x) ∧ ∀ ys, SqT K H b ys → ys[i]? = some y,
    fun i H => ∃ xs ys : List V, SqT K H a xs ∧ SqT K H b ys ∧ xs.length ≤ i ∧ ys.length ≤ i⟩
theorem five {c z TI TO i1 i2 : Addr} (h : c ∈ [z, TI, TO, i1, i2]) : c = z ∨ c = TI ∨ c = TO ∨ c = i1 ∨ c = i2 := by simpa using h
theorem not5 {c z TI TO i1 i2 : Addr} (h : c ∉ [z, TI, TO, i1, i2]) : c ≠ z ∧ c ≠ TI ∧ c ≠ TO ∧ c ≠ i1 ∧ c ≠ i2 := by simpa using h
theorem turn_zipS {P : Program} {w : World} {K : PySem.W.Frag} {elts : List Expr} {kk : Nat} {tpos : Pos} {a b z TI TO i1 i2 : Addr} (D : ZipApart z TI TO i1 i2 a b) :
    Turn P w K (.Tuple elts kk tpos) (ItS K a b) [z, TI, TO, i1, i2] z (fun i h => ZsAt h z TI TO .none ∧ IsPair h TI (.ref i1) (.ref i2) ∧ (∃ x y, IsPair h TO x y) ∧ h.IsTupleIter i1 a i ∧ h.IsTupleIter i2 b i) where
  mem := by simp
  obj := fun i h st c hc => by
    obtain ⟨hz, hTI, ⟨x, y, hTO⟩, ⟨o1, e1, _, d1⟩, ⟨o2, e2, _, d2⟩⟩ := st
    rcases five hc with q | q | q | q | q <;> subst q
    · exact ⟨_, hz, fun v q => nomatch q⟩
    · exact ⟨_, hTI, fun v q => nomatch q⟩
    · exact ⟨_, hTO, fun v q => nomatch q⟩
    · exact ⟨o1, e1, fun v q => by rw [d1] at q; cases q⟩
    · exact ⟨o2, e2, fun v q => by rw [d2] at q; cases q⟩
  keep := fun i h h' st k => by
    obtain ⟨hz, hTI, ⟨x, y, hTO⟩, h1, h2⟩ := st
    exact ⟨k z (by simp) _ hz, k TI (by simp) _ hTI, ⟨x, y, k TO (by simp) _ hTO⟩, h1.at fun o q => k i1 (by simp) o q, h2.at fun o q => k i2 (by simp) o q⟩
  item := by
    intro X hP hw hK hc i pins s σ H E I hf st hg
    subst hP hw hK
    obtain ⟨hz, hTI, ⟨x0, y0, hTO⟩, h1, h2⟩ := st
    obtain ⟨xs, ys, x, y, hqx, hqy, hx, hy⟩ := hg
    obtain ⟨its, rv, p, _⟩ := I.tuple hqx
    obtain ⟨its2, rv2, p2, _⟩ := I.tuple hqy
    obtain ⟨u, hu, ru⟩ := rv.get hx
    obtain ⟨u2, hu2, ru2⟩ := rv2.get hy
    have hzl : z < s.heap.objs.size := Heap.lt_size hz
    refine zs_next D hz hTI hTO h1 h2 p p2 (x := u) (y := u2) (by simpa using hu) (by simpa using hu2) fun h' z' TO' h1' h2' hT hsz hk => ?_
    refine ⟨_, rfl, zs_letGo (s := { s with heap := h' }) z' fun h'' z'' sb => ?_⟩
    have hT2 : h''.get? s.heap.objs.size = some { cls := .type "tuple", data := .seq #[u, u2] } := (sb.2 _ (Nat.ne_of_gt hzl)).trans hT
    have new : ObjOk X.prog X.w (upd H s.heap.objs.size (.tup [x, y])) h'' s.heap.objs.size (.tup [x, y]) :=
      ⟨by show 2 ≤ sizeLine; decide, [u, u2], .cons ru (.cons ru2 .nil), ⟨_, hT2, rfl, _, rfl⟩⟩
    have kp : ∀ c o, c ∉ [z, TI, TO, i1, i2] → s.heap.get? c = some o → h''.get? c = some o := fun c o hn q => by
      obtain ⟨n1, n2, n3, n4, n5⟩ := not5 hn
      exact (sb.2 c n1).trans (hk c o n1 n3 n4 n5 q)
    have I1 : Inv X pins σ (upd H s.heap.objs.size (.tup [x, y])) { s with heap := h'' } := I.turnedNew (t' := s.toks) (ch := [z, TI, TO, i1, i2]) kp hf (Nat.le_refl _) new
    refine ⟨.ref s.heap.objs.size, _, I1, rfl, ⟨_, x, y, rfl, I.hok.fresh (Nat.le_refl _), rfl, fun l hl => by rw [I.tuple_inj hl hqx]; exact hx, fun l hl => by rw [I.tuple_inj hl hqy]; exact hy⟩, ⟨z'', ?_, ⟨u, u2, ?_⟩, ?_, ?_⟩, fun c hcm => ?_⟩
    · exact (sb.2 _ D.TIz).trans (hk _ _ D.TIz D.TITO D.TIi1 D.TIi2 hTI)
    · exact (sb.2 _ D.TOz).trans TO'
    · exact h1'.at fun o q => (sb.2 _ D.i1z).trans q
    · exact h2'.at fun o q => (sb.2 _ D.i2z).trans q
    · have hlt : c < s.heap.objs.size := by
        rcases five hcm with q | q | q | q | q
        · rw [q]; exact hzl
        · rw [q]; exact Heap.lt_size hTI
        · rw [q]; exact Heap.lt_size hTO
        · rw [q]; obtain ⟨_, e1, _⟩ := h1; exact Heap.lt_size e1
        · rw [q]; obtain ⟨_, e2, _⟩ := h2; exact Heap.lt_size e2
      rw [upd_ne (Nat.ne_of_lt hlt)]
      exact (hf c hcm).1
  done := by
    intro X hP hw hK hc i pins s σ H E I hf st hg
    subst hP hw hK
    obtain ⟨hz, hTI, ⟨x0, y0, hTO⟩, h1, h2⟩ := st
    obtain ⟨xs, ys, hqx, hqy, l1, l2⟩ := hg
    obtain ⟨its, rv, p, _⟩ := I.tuple hqx
    obtain ⟨its2, rv2, p2, _⟩ := I.tuple hqy
    have n1 := rv.length
    have n2 := rv2.length
    exact zs_end (I.ok.hd hc) D hz hTI hTO h1 h2 p p2 (by simp; omega) (by simp; omega) fun h' hk => ⟨rfl, I.turnedL (t' := s.toks) (ch := [z, TI, TO, i1, i2]) (fun c o hb q => by
      obtain ⟨n1, n2, n3, n4, n5⟩ := not5 hb
      exact hk c o n1 n3 n4 n5 q) hf⟩
  self := fun A i s Q E st h => zs_iter st.1 h

def iZipS (K : PySem.W.Frag) (ta : TA) : TI := fun σ H R => ta σ H fun vs H1 => ∃ a b xs ys, vs = [.ref a, .ref b] ∧ SqT K H1 a xs ∧ SqT K H1 b ys ∧ R (ItS K a b) H1
theorem pi_zipS {X : Cx} {e e2 : Expr} {ta : TA} {p pos tpos kpos cpos : Pos} {elts : List Expr} {kk : Nat} {j : Nat} (hg : Gl X "zip") (hm : X.mg "zip" = none) (ha : PA X [e, e2] ta)
    (he : backTo pos (starEach [e, e2] X.env) = (false, eval e X.env) :: backTo pos (starEach [e2] X.env) := by rfl) (hp : (backTo pos (starEach [e, e2] X.env)).any (·.1) = false := by rfl) :
    PI X (.Tuple elts kk tpos) (.Call (.Name "zip" p) [e, e2] [⟨some "strict", .Constant (.bool true) j cpos, kpos⟩] pos) (iZipS X.K ta) := by
  refine ⟨fun pins s σ H R I h => ?_⟩
  refine wpAny_Call_Name_kw (ld_blt I hg hm PyProof.Rows.boot_zip (cw_tyKw (thn (ha.run pos pins s σ H _ I h) fun us s1 ⟨vs, H1, I1, r1, q1⟩ => ?_) he hp))
  refine kws_cons (Constant_bool (kws_nil ?_))
  obtain ⟨a, b, xs, ys, ex, hqx, hqy, q⟩ := q1
  subst ex
  cases r1 with
  | cons r rr =>
    cases rr with
    | cons r' rr =>
      cases rr
      cases r
      cases r'
      have fresh5 : ∀ c, c ∈ [s1.heap.objs.size + 4, s1.heap.objs.size + 2, s1.heap.objs.size + 3, s1.heap.objs.size, s1.heap.objs.size + 1] → FpOk X pins H1 c := fun c hcm => by
        have hle : s1.heap.objs.size ≤ c := by
          rcases five hcm with z | z | z | z | z <;> rw [z] <;> first | exact Nat.le_add_right _ _ | exact Nat.le_refl _
        exact I1.fpOk hle (I1.hok.fresh hle)
      obtain ⟨its, rv, p1, _⟩ := I1.tuple hqx
      obtain ⟨its2, rv2, p2, _⟩ := I1.tuple hqy
      obtain ⟨o1, ho1, _⟩ := id p1
      obtain ⟨o2, ho2, _⟩ := id p2
      refine call_zipS (show s1.heap.IsTuple a its.toArray from p1) (show s1.heap.IsTuple b its2.toArray from p2) fun h' hz hTI hTO h1 h2 hk => zs_iter hz ?_
      have I2 : Inv X pins σ H1 { s1 with heap := h' } := I1.kept (t' := s1.toks) hk
      exact ⟨s1.heap.objs.size + 4, [s1.heap.objs.size + 4, s1.heap.objs.size + 2, s1.heap.objs.size + 3, s1.heap.objs.size, s1.heap.objs.size + 1], _, _, H1, rfl, I2, turn_zipS (PySem.W.ktu_apart s1.heap.objs.size a b (Heap.lt_size ho1) (Heap.lt_size ho2)), ⟨hz, hTI, ⟨_, _, hTO⟩, h1, h2⟩, fresh5, q⟩
end Wm
/-! enumerate(tuple), walked. -/
namespace Wm
open PySem PySem.Spec PyProof.Rows L2

theorem meets_enum1 {v : Value} {o : Obj} {H : Heap → Prop} (B : Begins v o H) :
    Meets (Builtin.«enumerate.__new__» ⟨[.type "enumerate", v], []⟩) (fun _ R s => H s.heap ∧
      R (.ok (.ret (.ref (s.heap.push o).objs.size))) { s with heap := (s.heap.push o).push { cls := .type "enumerate", data := .fields #[.none, .bool false, .ref s.heap.objs.size, rawInt 0, .none, .none] } }) :=
  .of_wp fun prog w A R s h => by
    obtain ⟨hp, g, d, tk, os⟩ := s; obtain ⟨h1, h⟩ := h
    have hsub := sub_enumerate
    have q1 : ∀ {A' : Around} {E : Value → Shared → Prop} {Q : Value → Shared → Prop}, Q (.ref hp.objs.size) ⟨hp.push o, g, d, tk, os⟩ → wpAny (model prog w) A' (pyIter v) Q E ⟨hp, g, d, tk, os⟩ :=
      fun q => B.iter prog w _ _ ⟨hp, g, d, tk, os⟩ _ h1 q
    wp_walk using q1
    refine wpAny_stack_any fun st => wpAny_pure ?_
    split
    · rename_i c _ _ _ _ _
      cases (c == Value.type "enumerate") <;> (wp_walk using q1; exact ⟨_, rfl, h⟩)
    · wp_walk using q1
      exact ⟨_, rfl, h⟩
section
variable {prog : Program} {w : World} {A : Around} {E : Value → Shared → Prop} {s : Shared}
theorem call_enumerate_tuple {t : Addr} {items : Array Value} {Q : Value → Shared → Prop} (ht : s.heap.IsTuple t items)
    (h : ∀ h', IsEnum h' (s.heap.objs.size + 1) s.heap.objs.size 0 .none → h'.IsTupleIter s.heap.objs.size t 0 → h'.objs.size = s.heap.objs.size + 2 →
      (∀ b o, s.heap.get? b = some o → h'.get? b = some o) → Q (.ref (s.heap.objs.size + 1)) { s with heap := h' }) :
    wpAny (model prog w) A (call (.type "enumerate") [.ref t]) Q E s := by
  refine callType_new F.called_enumerate (by decide) (F.typeCall_enumerate_1 _) (F.newCall_enumerate_1 _) (fun obj => F.args_object_init_2 obj _) F.entry_enumerate_new
    (meets_enum1 (begins_tuple t items)) ⟨ht, ?_⟩
  have hz : (s.heap.push { cls := .type "tuple_iterator", data := .fields #[.ref t, .int 0 0] }).objs.size = s.heap.objs.size + 1 := Heap.size_push ..
  show _ ∧ _
  rw [hz]
  have he : IsEnum ((s.heap.push { cls := .type "tuple_iterator", data := .fields #[.ref t, .int 0 0] }).push
      { cls := .type "enumerate", data := .fields #[.none, .bool false, .ref s.heap.objs.size, rawInt 0, .none, .none] }) (s.heap.objs.size + 1) s.heap.objs.size 0 .none := by
    have := Heap.get?_push_size (s.heap.push { cls := .type "tuple_iterator", data := .fields #[.ref t, .int 0 0] })
      (o := { cls := .type "enumerate", data := .fields #[.none, .bool false, .ref s.heap.objs.size, rawInt 0, .none, .none] }) rfl
    rw [hz] at this
    exact this
  refine ⟨⟨_, he, rfl⟩, h _ he ⟨_, Heap.get?_push_of_some _ (Heap.get?_push_size _ rfl), rfl, rfl⟩ (by rw [Heap.size_push, hz]) fun b o x => Heap.get?_push_of_some _ (Heap.get?_push_of_some _ x)⟩
end
/-- the tuple at a, each item in a new pair -/
def ItE (K : PySem.W.Frag) (a : Addr) : It :=
  ⟨fun i H => ∃ (xs : List V) (x : V), SqT K H a xs ∧ xs[i]? = some x, fun i H v H' => ∃ T x, v = .ref T ∧ H T = none ∧ H' = upd H T (.tup [.int (i : Nat), x]) ∧ ∀ xs, SqT K H a xs → xs[i]? = some x, fun i H => ∃ xs : List V, SqT K H a xs ∧ xs.length = i⟩
theorem turn_enumT {P : Program} {w : World} {K : PySem.W.Frag} {elts : List Expr} {kk : Nat} {tpos : Pos} {a e it : Addr} (hei : e ≠ it) (hae : a ≠ e) (hai : a ≠ it) :
    Turn P w K (.Tuple elts kk tpos) (ItE K a) [e, it] e (fun i h => (∃ old, IsEnum h e it ((i : Nat) : Int) old) ∧ h.IsTupleIter it a i) where
  mem := by simp
  obj := fun i h st b hb => by
    obtain ⟨⟨old, he⟩, ⟨o, ho, hc, hd⟩⟩ := st
    have e' : b = e ∨ b = it := by simpa using hb
    rcases e' with z | z <;> subst z
    · exact ⟨_, he, fun v q => nomatch q⟩
    · exact ⟨o, ho, fun v q => by rw [hd] at q; cases q⟩
  keep := fun i h h' st k => let ⟨⟨old, he⟩, hi⟩ := st; ⟨⟨old, k e (by simp) _ he⟩, hi.at fun o q => k it (by simp) o q⟩
  item := by
    intro X hP hw hK hc i pins s σ H E I hf st hg
    subst hP hw hK
    obtain ⟨⟨old, he⟩, hit⟩ := st
    obtain ⟨xs, x, hq, hx⟩ := hg
    obtain ⟨its, rv, p, hz⟩ := I.tuple hq
    obtain ⟨u, hu, ru⟩ := rv.get hx
    have hel : e < s.heap.objs.size := Heap.lt_size he
    have hil : it < s.heap.objs.size := by obtain ⟨_, q, _⟩ := hit; exact Heap.lt_size q
    have hlt : i < its.toArray.size := by
      have := (List.getElem?_eq_some_iff.mp hu).1
      simpa using this
    have D := Draws.tuple (prog := X.prog) (w := X.w) (A := X.A.in1) (I.ok.hd hc) it a hai its.toArray
    refine wpAny_pyNext_enum_itemC D he ⟨hit, p⟩ hlt hei (by simp [hei, Ne.symm hae]) fun y h' tk hy ho hst hT hsz hk => ?_
    have ey : y = u := by
      have h1 : its.toArray[i]? = some y := hy
      rw [show its.toArray[i]? = some u by simpa using hu] at h1
      exact (Option.some.inj h1).symm
    subst ey
    refine ⟨_, rfl, wpAny_letOwnedTupleGo_enum (s := { s with heap := h', toks := tk + 1 }) ho fun h'' he' sb => ?_⟩
    have hT2 : h''.get? s.heap.objs.size = some { cls := .type "tuple", data := .seq #[.int i tk, y] } := (sb.2 _ (Nat.ne_of_gt hel)).trans hT
    have new : ObjOk X.prog X.w (upd H s.heap.objs.size (.tup [.int (i : Nat), x])) h'' s.heap.objs.size (.tup [.int (i : Nat), x]) :=
      ⟨by show 2 ≤ sizeLine; decide, [.int i tk, y], .cons ⟨_, rfl⟩ (.cons ru .nil), ⟨_, hT2, rfl, _, rfl⟩⟩
    have I1 : Inv X pins σ (upd H s.heap.objs.size (.tup [.int (i : Nat), x])) { s with heap := h'', toks := tk + 1 } :=
      I.turnedNew (ch := [e, it]) (fun b ob hb q => (sb.2 b (fun z => hb (by simp [z]))).trans (hk b ob (fun z => hb (by simp [z])) (fun z => hb (by simp [z])) q)) hf (Nat.le_refl _) new
    refine ⟨.ref s.heap.objs.size, _, I1, rfl, ⟨_, x, rfl, I.hok.fresh (Nat.le_refl _), rfl, fun ys hy => by rw [I.tuple_inj hy hq]; exact hx⟩, ⟨⟨y, ?_⟩, hst.1.at fun o q => (sb.2 it (Ne.symm hei)).trans q⟩, fun b hb => ?_⟩
    · have e1 : ((i + 1 : Nat) : Int) = (i : Int) + 1 := by omega
      rw [e1]; exact he'
    · have hb' : b < s.heap.objs.size := by
        have e' : b = e ∨ b = it := by simpa using hb
        rcases e' with z | z
        · rw [z]; exact hel
        · rw [z]; exact hil
      rw [upd_ne (Nat.ne_of_lt hb')]
      exact (hf b hb).1
  done := by
    intro X hP hw hK hc i pins s σ H E I hf st hg
    subst hP hw hK
    obtain ⟨⟨old, he⟩, hit⟩ := st
    obtain ⟨xs, hq, hx⟩ := hg
    obtain ⟨its, rv, p, hz⟩ := I.tuple hq
    have hl := rv.length
    have hn : its.toArray.size = i := by simp; omega
    have D := Draws.tuple (prog := X.prog) (w := X.w) (A := X.A.in1) (I.ok.hd hc) it a hai its.toArray
    obtain ⟨f0, f1, f2, f3, f4, f5⟩ := hf it (by simp)
    exact wpAny_pyNext_enum_endD D he (by rw [hn]; exact ⟨hit, p⟩) fun h' eb => ⟨rfl, I.turned (t' := s.toks) (fun b o hb q => eb b o hb q) f0 f1 f3 f4 f5⟩
  self := fun A i s Q E st h => let ⟨⟨_, he⟩, _⟩ := st; wpAny_pyIter_enum he h
def iEnumT (K : PySem.W.Frag) (ta : TA) : TI := fun σ H R => ta σ H fun vs H1 => ∃ a xs, vs = [.ref a] ∧ SqT K H1 a xs ∧ R (ItE K a) H1
theorem pi_enumT {X : Cx} {e : Expr} {ta : TA} {p pos tpos : Pos} {elts : List Expr} {kk : Nat} (hg : Gl X "enumerate") (hm : X.mg "enumerate" = none) (ha : PA X [e] ta) (hs : starEach [e] X.env = [(false, eval e X.env)] := by rfl) :
    PI X (.Tuple elts kk tpos) (.Call (.Name "enumerate" p) [e] [] pos) (iEnumT X.K ta) := by
  refine ⟨fun pins s σ H R I h => ?_⟩
  refine Call_ (ld_blt I hg hm boot_enumerate (PyProof.Rows.callWith_type1 (thn (ha.run pos pins s σ H _ I h) fun us s1 ⟨vs, H1, I1, r1, q1⟩ => ?_) hs rfl))
  obtain ⟨a, xs, ex, hq, q⟩ := q1
  subst ex
  cases r1 with
  | cons r rr =>
    cases rr
    cases r
    obtain ⟨its, rv, p', hz⟩ := I1.tuple hq
    have hal : a < s1.heap.objs.size := by obtain ⟨_, q, _⟩ := p'; exact Heap.lt_size q
    refine call_enumerate_tuple p' fun h' he hit hsz hk => wpAny_pyIter_enum he ?_
    have I2 : Inv X pins σ H1 { s1 with heap := h' } := I1.kept (t' := s1.toks) hk
    refine ⟨s1.heap.objs.size + 1, [s1.heap.objs.size + 1, s1.heap.objs.size], _, _, H1, rfl, I2, turn_enumT (a := a) (Nat.succ_ne_self _) (Nat.ne_of_lt (Nat.lt_succ_of_lt hal)) (Nat.ne_of_lt hal), ⟨⟨.none, he⟩, hit⟩, fun b hb => ?_, q⟩
    have e' : b = s1.heap.objs.size + 1 ∨ b = s1.heap.objs.size := by simpa using hb
    have hle : s1.heap.objs.size ≤ b := by
      rcases e' with z | z
      · rw [z]; exact Nat.le_add_right _ _
      · rw [z]; exact Nat.le_refl _
    exact I1.fpOk hle (I1.hok.fresh hle)
end Wm
/-! Dicts whose keys are pairs of tuples of ints, in the abstract heap. -/
namespace Wm
open PySem PySem.Spec PyProof.Rows L2

abbrev NP := List Int × List Int
def nk (p : NP) : NestedKey := .tup [.tup (p.1.map .num), .tup (p.2.map .num)]
theorem num_inj : ∀ {a b : List Int}, a.map NestedKey.num = b.map NestedKey.num → a = b
  | [], [], _ => rfl
  | [], _ :: _, h => by cases h
  | _ :: _, [], h => by cases h
  | x :: a, y :: b, h => by
    rw [List.map_cons, List.map_cons] at h
    injection h with h1 h2
    injection h1 with h3
    rw [h3, num_inj h2]
theorem nk_inj {p q : NP} (h : nk p = nk q) : p = q := by
  unfold nk at h
  injection h with h
  injection h with h1 h
  injection h with h2 _
  injection h1 with h1
  injection h2 with h2
  exact Prod.ext (num_inj h1) (num_inj h2)
theorem num_depth : ∀ a : List Int, NestedKey.depthAll (a.map .num) ≤ 1
  | [] => by simp [NestedKey.depthAll]
  | x :: a => by
    have := num_depth a
    rw [List.map_cons]
    simp only [NestedKey.depthAll, NestedKey.depth]
    omega
theorem nk_depth (p : NP) : (nk p).depth ≤ 8 := by
  have h1 := num_depth p.1
  have h2 := num_depth p.2
  unfold nk
  simp only [NestedKey.depth, NestedKey.depthAll]
  omega
/-- at a stands the pair of the two tuples of ints -/
def PairAt (H : Hp) (p : NP) (a : Addr) : Prop := ∃ a1 a2, H a = some (.tup [.ref a1, .ref a2]) ∧ H a1 = some (.tup (p.1.map V.int)) ∧ H a2 = some (.tup (p.2.map V.int))
theorem PairAt.same {H H' : Hp} {p : NP} {a : Addr} (e : Same H H') (h : PairAt H p a) : PairAt H' p a :=
  let ⟨a1, a2, h1, h2, h3⟩ := h
  ⟨a1, a2, e _ _ h1, e _ _ h2, e _ _ h3⟩
theorem vint_inj : ∀ {a b : List Int}, a.map V.int = b.map V.int → a = b
  | [], [], _ => rfl
  | [], _ :: _, h => by cases h
  | _ :: _, [], h => by cases h
  | x :: a, y :: b, h => by
    rw [List.map_cons, List.map_cons] at h
    injection h with h1 h2
    injection h1 with h3
    rw [h3, vint_inj h2]
theorem nestedAll {h : Heap} : ∀ {a : List Int} {us : List Value}, Vals (a.map V.int) us → NestedAll h (a.map .num) us
  | [], _, r => by
    cases r
    exact .nil
  | x :: a, _, r => by
    rw [List.map_cons] at r
    cases r with
    | cons r1 r2 =>
      obtain ⟨t, rfl⟩ := r1
      exact .cons (.int x t) (nestedAll r2)
theorem tup_nested {P : Program} {w : World} {H : Hp} {h : Heap} {a : List Int} {x : Addr} (hok : HOk P w H h) (e : H x = some (.tup (a.map V.int))) : NestedIs h (.tup (a.map .num)) (.ref x) := by
  obtain ⟨_, its, rv, o, h1, h2, n, h3⟩ := (show ObjOk P w H h x (.tup (a.map V.int)) from hok x _ e)
  exact .tup h1 h2 h3 (by simpa using nestedAll rv)
theorem PairAt.key {P : Program} {w : World} {H : Hp} {h : Heap} {p : NP} {a : Addr} (hok : HOk P w H h) (k : PairAt H p a) : (nestedKind P w).is h (nk p) a := by
  obtain ⟨a1, a2, e, e1, e2⟩ := k
  refine ⟨?_, nk_depth p⟩
  obtain ⟨_, its, rv, o, h1, h2, n, h3⟩ := (show ObjOk P w H h a (.tup [.ref a1, .ref a2]) from hok a _ e)
  refine .tup h1 h2 h3 ?_
  cases rv with
  | cons r rr =>
    cases rr with
    | cons r' rr =>
      cases rr
      cases r
      cases r'
      exact .cons (tup_nested hok e1) (.cons (tup_nested hok e2) .nil)

abbrev EN := NestedKey × Addr × Value
def dPhi (P : Program) (w : World) (d : Addr) (xs : List EN) : Heap → Prop := fun h =>
  ∃ o es ep, h.get? d = some o ∧ o.ExactDict ∧ o.data = .dict es ep ∧ es.toList = xs.map (entryOfKey (nestedKind P w)) ∧ (xs.map (·.1)).Nodup
theorem dPhi_stay {P : Program} {w : World} {d : Addr} {xs : List EN} : ∀ h1 h2 : Heap, dPhi P w d xs h1 → (∀ o, h1.get? d = some o → h2.get? d = some o) → dPhi P w d xs h2 :=
  fun _ _ ⟨o, es, ep, e, r⟩ k => ⟨o, es, ep, k o e, r⟩
def EnOk (H : Hp) (p : NP × V) (q : EN) : Prop := q.1 = nk p.1 ∧ PairAt H p.1 q.2.1 ∧ RelV p.2 q.2.2
/-- at d stands a dict with such keys -/
def RowsAt (P : Program) (w : World) (H : Hp) (d : Addr) (kvs : List (NP × V)) : Prop :=
  (d == sysModules) = false ∧ kvs.length ≤ sizeLine ∧ ∃ xs : List EN, H d = some (.ext (dPhi P w d xs)) ∧ Paired (EnOk H) kvs xs
theorem RowsAt.same {P : Program} {w : World} {H H' : Hp} {d : Addr} {kvs : List (NP × V)} (e : Same H H') (h : RowsAt P w H d kvs) : RowsAt P w H' d kvs :=
  let ⟨h1, h2, xs, h3, h4⟩ := h
  ⟨h1, h2, xs, e _ _ h3, Paired.mapP h4 fun _ _ z => ⟨z.1, z.2.1.same e, z.2.2⟩⟩
theorem en_keys {H : Hp} : ∀ {kvs : List (NP × V)} {xs : List EN}, Paired (EnOk H) kvs xs → xs.map (·.1) = kvs.map fun kv => nk kv.1
  | [], _, r => by cases r; rfl
  | p :: kvs, _, r => by
    cases r with
    | cons r1 r2 => rw [List.map_cons, List.map_cons, r1.1, en_keys r2]
theorem nodup_nk : ∀ {l : List NP}, (l.map nk).Nodup → l.Nodup
  | [], _ => List.nodup_nil
  | p :: l, h => by
    rw [List.map_cons] at h
    obtain ⟨h1, h2⟩ := List.nodup_cons.mp h
    exact List.nodup_cons.mpr ⟨fun m => h1 (List.mem_map.mpr ⟨p, m, rfl⟩), nodup_nk h2⟩
theorem en_at {H : Hp} {k : NP} : ∀ {kvs : List (NP × V)} {xs : List EN}, Paired (EnOk H) kvs xs →
    (k ∉ kvs.map (·.1) → atKey xs (nk k) = none) ∧ ∀ v, kvs.lookup k = some v → ∃ b u, atKey xs (nk k) = some (b, u) ∧ RelV v u
  | [], _, r => by
    cases r
    exact ⟨fun _ => rfl, fun v h => by cases h⟩
  | p :: kvs, _, r => by
    cases r with
    | @cons _ q _ ys r1 r2 =>
      obtain ⟨i1, i2⟩ := en_at (k := k) r2
      obtain ⟨e, _, rv⟩ := r1
      by_cases hk : p.1 = k
      · subst hk
        refine ⟨fun m => absurd (by simp) m, fun v h => ⟨q.2.1, q.2.2, by simp [atKey, e], ?_⟩⟩
        have : some p.2 = some v := by
          obtain ⟨p1, p2⟩ := p
          simpa [List.lookup] using h
        cases this
        exact rv
      · have hne : ¬ q.1 = nk k := fun z => hk (nk_inj (e.symm.trans z))
        have step : atKey (q :: ys) (nk k) = atKey ys (nk k) := by simp [atKey, hne]
        rw [step]
        refine ⟨fun m => i1 fun z => m (by simp only [List.map_cons, List.mem_cons]; exact .inr z), fun v h => i2 v ?_⟩
        obtain ⟨p1, p2⟩ := p
        have hb : (k == p1) = false := by
          rw [beq_eq_false_iff_ne]
          exact fun z => hk z.symm
        simpa [List.lookup, hb] using h

section
variable {X : Cx} {pins : List (Addr × Obj)} {σ : L2.St} {H : Hp} {s : Shared} {d : Addr} {kvs : List (NP × V)}
theorem rows_of (I : Inv X pins σ H s) (h : RowsAt X.prog X.w H d kvs) : ∃ xs : List EN, H d = some (.ext (dPhi X.prog X.w d xs)) ∧ Paired (EnOk H) kvs xs ∧ s.heap.DictOfH (nestedKind X.prog X.w) d xs := by
  obtain ⟨h1, h2, xs, h3, h4⟩ := h
  obtain ⟨⟨o, es, ep, e, ex, da, en, nd⟩, _, _⟩ := (show ObjOk X.prog X.w H s.heap d (.ext (dPhi X.prog X.w d xs)) from I.hok d _ h3)
  refine ⟨xs, h3, h4, o, es, ep, e, ex, da, en, fun x hx => ?_, nd⟩
  have : ∀ {kvs : List (NP × V)} {xs : List EN}, Paired (EnOk H) kvs xs → ∀ x ∈ xs, (nestedKind X.prog X.w).is s.heap x.1 x.2.1 := by
    intro kvs xs r
    induction r with
    | nil => intro x hx; cases hx
    | cons r _ ih =>
      intro x hx
      rcases List.mem_cons.mp hx with z | z
      · rw [z, r.1]
        exact r.2.1.key I.hok
      · exact ih x z
  exact this h4 x hx
theorem rows_nodup (I : Inv X pins σ H s) (h : RowsAt X.prog X.w H d kvs) : (kvs.map (·.1)).Nodup := by
  obtain ⟨xs, _, h4, _, _, _, _, _, _, _, _, nd⟩ := rows_of I h
  rw [en_keys h4] at nd
  refine nodup_nk ?_
  rw [List.map_map]
  exact nd
theorem nroom {A : Around} (hu : A.units + 64 < cLine) : (nestedKind X.prog X.w).room A.in1 := by
  show A.units + 1 + 8 < cLine
  omega
def rNotInR (P : Program) (w : World) : R2 := fun x y H Q => ∃ a d kvs p, x = .ref a ∧ y = .ref d ∧ PairAt H p a ∧ RowsAt P w H d kvs ∧ (p ∉ kvs.map (·.1) → Q (.bl true) H) ∧ ∀ v, kvs.lookup p = some v → Q (.bl false) H
theorem lookup_of_mem {p : NP} : ∀ {kvs : List (NP × V)}, p ∈ kvs.map (·.1) → ∃ v, kvs.lookup p = some v
  | [], h => by cases h
  | (q, v) :: kvs, h => by
    by_cases e : p = q
    · exact ⟨v, by simp [List.lookup, e]⟩
    · have hb : (p == q) = false := beq_eq_false_iff_ne.mpr e
      obtain ⟨v', h'⟩ := lookup_of_mem (kvs := kvs) (by
        rcases List.mem_cons.mp h with z | z
        · exact absurd z e
        · exact z)
      exact ⟨v', by simpa [List.lookup, hb] using h'⟩
theorem op_notInR (hu : X.A.units + 64 < cLine) : OpR X (compareOp .NotIn) (rNotInR X.prog X.w) := by
  intro pins s σ H x y v u Q I rx ry h
  obtain ⟨a, d, kvs, p, rfl, rfl, hp, hr, q1, q2⟩ := h
  cases rx
  cases ry
  obtain ⟨xs, h3, h4, dd⟩ := rows_of I hr
  refine notIn_keyed (nroom hu) (hp.key I.hok) hr.1 ⟨xs, dd, rfl⟩ ?_
  rw [valueAt_pairsH, Option.isSome_map]
  by_cases m : p ∈ kvs.map (·.1)
  · obtain ⟨v, hv⟩ := lookup_of_mem m
    obtain ⟨b, u, e, _⟩ := (en_at h4).2 v hv
    rw [e]
    exact ⟨.bl false, H, I.tok _, rfl, q2 v hv⟩
  · rw [(en_at h4).1 m]
    exact ⟨.bl true, H, I.tok _, rfl, q1 m⟩
def rIxR (P : Program) (w : World) : R2 := fun x y H Q => ∃ d a kvs p v, x = .ref d ∧ y = .ref a ∧ PairAt H p a ∧ RowsAt P w H d kvs ∧ kvs.lookup p = some v ∧ Q v H
theorem ix_rows (hu : X.A.units + 64 < cLine) : IxR X (rIxR X.prog X.w) := by
  intro value slice pins s σ H x y v u Q I rx ry h hs
  obtain ⟨d, a, kvs, p, v0, rfl, rfl, hp, hr, hv, q⟩ := h
  cases rx
  cases ry
  obtain ⟨xs, h3, h4, dd⟩ := rows_of I hr
  obtain ⟨b, u, e, rv⟩ := (en_at h4).2 v0 hv
  exact tail_any dd.typeIs slot_dict_getitem.lookup (wpAny_getItem_heap (nroom hu) (hp.key I.hok) dd e ⟨v0, H, I.tok _, rv, q⟩) hs
theorem Paired.snoc {α β : Type} {F : α → β → Prop} {a : α} {b : β} (h : F a b) : ∀ {l : List α} {m : List β}, Paired F l m → Paired F (l ++ [a]) (m ++ [b])
  | _, _, .nil => .cons h .nil
  | _, _, .cons r t => .cons r (Paired.snoc h t)
/-- d[k] = v, a new key -/
def rSetR (P : Program) (w : World) : TSet := fun o i v H Q => ∃ d a kvs p, o = .ref d ∧ i = .ref a ∧ PairAt H p a ∧ RowsAt P w H d kvs ∧ p ∉ kvs.map (·.1) ∧ kvs.length < sizeLine ∧
  ∀ o', (∀ b xs, H b = some (.tup xs) → upd H d o' b = some (.tup xs)) → RowsAt P w (upd H d o') d (kvs ++ [(p, v)]) → Q (upd H d o')
theorem set_rows (hu : X.A.units + 64 < cLine) : PSet X (rSetR X.prog X.w) := by
  intro pins s σ H o i v ov iv u Q I ro ri rv h
  obtain ⟨d, a, kvs, p, rfl, rfl, hp, hr, hm, hlt, q⟩ := h
  cases ro
  cases ri
  obtain ⟨xs, h3, h4, dd⟩ := rows_of I hr
  have hl : xs.length = kvs.length := (Paired.length h4).symm
  refine wpAny_setItem_heap (hsz := by omega) (nroom hu) (hp.key I.hok) dd fun h' dd' hs => ?_
  rw [storedH_new ((en_at h4).1 hm)] at dd'
  obtain ⟨ob, es, ep, e, ex, da, en, hk, nd⟩ := dd'
  have tups : ∀ o' b xs, H b = some (.tup xs) → upd H d o' b = some (.tup xs) := fun o' b xs z => by
    rw [upd_ne (ne_of z h3 (fun z => nomatch z))]
    exact z
  have pk : ∀ o' {p : NP} {a : Addr}, PairAt H p a → PairAt (upd H d o') p a := fun o' {p a} z =>
    let ⟨a1, a2, z1, z2, z3⟩ := z
    ⟨a1, a2, tups o' _ _ z1, tups o' _ _ z2, tups o' _ _ z3⟩
  let o' : HO := .ext (dPhi X.prog X.w d (xs ++ [(nk p, a, u)]))
  have new : ObjOk X.prog X.w (upd H d o') h' d o' := ⟨⟨ob, es, ep, e, ex, da, en, nd⟩, ⟨ob, e⟩, dPhi_stay⟩
  refine ⟨upd H d o', d_write I (by rw [h3]; exact True.intro) hs ⟨ob, e⟩ new, q o' (tups o') ⟨hr.1, by rw [List.length_append]; exact hlt, xs ++ [(nk p, a, u)], upd_same, ?_⟩⟩
  exact Paired.snoc ⟨rfl, pk o' hp, rv⟩ (Paired.mapP h4 fun _ _ z => ⟨z.1, pk o' z.2.1, z.2.2⟩)
/-- {k: v} -/
def tDisp1 (P : Program) (w : World) (tk tv : TE) : TE := fun σ H Q => ∀ d o, H d = none → tk σ (upd H d o) fun x H1 => tv σ H1 fun y H2 => H2 d = some o ∧ ∃ a p, x = .ref a ∧ PairAt H2 p a ∧
  ∀ o', (∀ b u, b ≠ d → H2 b = some u → upd H2 d o' b = some u) → RowsAt P w (upd H2 d o') d [(p, y)] → Q (.ref d) (upd H2 d o')
theorem pe_disp1 {pos : Pos} {k v : Expr} {tk tv : TE} (hu : X.A.units + 64 < cLine) (hk : PE X k tk) (hv : PE X v tv) : PE X (.Dict [some k] [v] pos) (tDisp1 X.prog X.w tk tv) := by
  refine ⟨fun pins s σ H Q I q => ?_⟩
  have hn := I.hok.fresh (Nat.le_refl s.heap.objs.size)
  have hd0 : (s.heap.objs.size == sysModules) = false := (dk_empty (P := X.prog) (w := X.w) (H := H) s.heap I.big).2.1
  have d0 : (s.heap.push { cls := .type "dict", data := .dict #[] }).DictOfH (nestedKind X.prog X.w) s.heap.objs.size [] := Heap.DictOfH.new s.heap
  obtain ⟨o0, es0, ep0, z1, z2, z3, z4, _, z5⟩ := id d0
  have new0 : ObjOk X.prog X.w (upd H s.heap.objs.size (.ext (dPhi X.prog X.w s.heap.objs.size []))) (s.heap.push { cls := .type "dict", data := .dict #[] }) s.heap.objs.size (.ext (dPhi X.prog X.w s.heap.objs.size [])) :=
    ⟨⟨o0, es0, ep0, z1, z2, z3, z4, z5⟩, ⟨o0, z1⟩, dPhi_stay⟩
  have I1 := I.laid (a := s.heap.objs.size) (h' := s.heap.push { cls := .type "dict", data := .dict #[] }) (t' := s.toks) (fun _ _ q => Heap.get?_push_of_some _ q) (Nat.le_refl _) new0
  rw [arm_eval_Dict, zip_pairTrees [some k] [v] X.env pos rfl rfl, dictDisplay_pairs (pairTrees [some k] [v] X.env pos) (by simp [pairTrees]) (by simp [pairTrees])]
  refine wpAny_bind (wpAny_standAt (wpAny_bind (wpAny_subDictH (knd := nestedKind X.prog X.w) (Q := fun d s' => wpAny (model X.prog X.w) X.A (pure (Value.ref d)) (EP X pins σ Q) X.xe s') (by show X.A.units + 8 < cLine; omega) (by simp [pairTrees]) ?_)))
  refine pairTrees_cons_walk (thn (hk.run pins _ σ _ _ I1 (q _ _ hn)) fun u1 s1 ⟨x, H1, J1, r1, q1⟩ => thn (hv.run pins s1 σ H1 _ J1 q1) fun u2 s2 ⟨y, H2, J2, r2, e, a, p, ex, hp, q2⟩ => pairTrees_nil_walk ?_)
  subst ex
  cases r1
  have h3 : H2 s.heap.objs.size = some (.ext (dPhi X.prog X.w s.heap.objs.size [])) := e
  obtain ⟨⟨o, es, ep, y1, y2, y3, y4, y5⟩, _, _⟩ := (show ObjOk X.prog X.w H2 s2.heap s.heap.objs.size (.ext (dPhi X.prog X.w s.heap.objs.size [])) from J2.hok _ _ h3)
  refine ⟨[(nk p, a, u2)], ⟨rfl, rfl, hp.key J2.hok, trivial⟩, ⟨o, es, ep, y1, y2, y3, y4, fun x hx => (nomatch hx), y5⟩, fun h' tk dk hs => wpAny_pure ?_⟩
  obtain ⟨ob, es', ep', e', ex', da', en', hk', nd'⟩ := dk
  have en2 : es'.toList = [(nk p, a, u2)].map (entryOfKey (nestedKind X.prog X.w)) := en'
  let o' : HO := .ext (dPhi X.prog X.w s.heap.objs.size [(nk p, a, u2)])
  have new : ObjOk X.prog X.w (upd H2 s.heap.objs.size o') h' s.heap.objs.size o' := ⟨⟨ob, es', ep', e', ex', da', en2, by simp⟩, ⟨ob, e'⟩, dPhi_stay⟩
  have keep : ∀ b u, b ≠ s.heap.objs.size → H2 b = some u → upd H2 s.heap.objs.size o' b = some u := fun b u hb z => by
    rw [upd_ne hb]
    exact z
  refine ⟨.ref s.heap.objs.size, upd H2 s.heap.objs.size o', d_write J2 (by rw [h3]; exact True.intro) hs ⟨ob, e'⟩ new, rfl, q2 o' keep ⟨hd0, by show 1 ≤ sizeLine; decide, [(nk p, a, u2)], upd_same, .cons ⟨rfl, ?_, r2⟩ .nil⟩⟩
  obtain ⟨a1, a2, g1, g2, g3⟩ := hp
  have nd : ∀ {b : Addr} {xs : List V}, H2 b = some (.tup xs) → upd H2 s.heap.objs.size o' b = some (.tup xs) := fun {b xs} z => keep b _ (ne_of z h3 (fun z => nomatch z)) z
  exact ⟨a1, a2, nd g1, nd g2, nd g3⟩
end
end Wm
/-! Small rules: code that is never come to; max of a tuple; tuple(list) whose object is told; dict(tuple of pairs); get of a written dict; t[::-1]. -/
namespace Wm
open PySem PySem.Spec PyProof.Rows L2

/-! ### never come to -/
def eNo : TE := fun _ _ _ => False
def cNo : TT := fun _ _ _ => False
def gNo : TG := fun _ _ _ _ => False
def iNo : TI := fun _ _ _ => False
section
variable {X : Cx} {e : Expr}
theorem pe_never : PE X e eNo := ⟨fun _ _ _ _ _ _ h => h.elim⟩
theorem pt_never : PT X e cNo := ⟨fun _ _ _ _ _ _ h => h.elim⟩
theorem pts_never {es : List Expr} : PTs X es cNo := ⟨fun _ _ _ _ _ _ h => h.elim⟩
theorem pg_never : PG X e gNo := ⟨fun _ _ _ _ _ _ _ _ _ h => h.elim⟩
theorem pi_never {tg : Expr} : PI X tg e iNo := ⟨fun _ _ _ _ _ _ h => h.elim⟩
end

/-! ### max of a tuple of ints -/
section
variable {prog : Program} {w : World} {A : Around} {E : Value → Shared → Prop} {s : Shared} {l : Addr}
theorem max_tupRaw {its : List Value} {ns : List Int} {Q : Value → Shared → Prop} (hh : A.handled = none) (hl : s.heap.IsTuple l its.toArray) (hi : IntsAre its ns) (hne : 0 < ns.length)
    (h : ∀ h' tk M t', (∀ b o, s.heap.get? b = some o → h'.get? b = some o) → M ∈ ns → (∀ a, a ∈ ns → a ≤ M) → Q (.int M t') { s with heap := h', toks := tk }) : wpAny (model prog w) A (call (.builtin "max") [.ref l]) Q E s := by
  obtain ⟨xs, e⟩ := hi.allInts.items
  have hn : numsOf (intItems xs).toList = ns := by rw [← e]; exact hi.numsOf
  rw [nums_intItems] at hn
  subst hn
  rw [e] at hl
  have hsz : 0 < xs.size := by simpa using hne
  have hlt : l < s.heap.objs.size := by obtain ⟨_, z, _⟩ := hl; exact Heap.lt_size z
  refine call_max_walk (wpAny_pyIter_tuple hl ?_)
  refine ⟨_, _, _, _, _, _, _, rfl, Walks.tuple (A := A.in1) hh _ l (Nat.ne_of_lt hlt) (intItems xs), ⟨⟨_, Heap.get?_push_size _ rfl, rfl, rfl⟩, hl.push _⟩, fun b hb => ?_, by simpa [intItems] using hsz, CmpOf.ints_gt (numAt xs) (fun _ _ => intItems_at), fun v h' tk hP hk => ?_⟩
  · show b < (s.heap.push _).objs.size
    rw [Heap.size_push]
    have e' : b = s.heap.objs.size ∨ b = l := by simpa using hb
    rcases e' with z | z <;> rw [z]
    · exact Nat.lt_succ_self _
    · exact Nat.lt_succ_of_lt hlt
  · have hv : (intItems xs)[argBest (fun i j => decide (numAt xs i > numAt xs j)) (xs.size - 1)]? = some v := by simpa [intItems] using hP
    obtain ⟨t, rfl⟩ := intItems_at hv
    obtain ⟨h1, h2⟩ := argBest_gt (numAt xs) (xs.size - 1)
    have keep : ∀ b o, s.heap.get? b = some o → h'.get? b = some o := fun b o z => by
      refine hk b o (fun hm => ?_) (Heap.get?_push_of_some _ z)
      have e1 : b = s.heap.objs.size := by simpa using hm
      exact absurd (e1 ▸ Heap.lt_size z) (Nat.lt_irrefl _)
    refine h h' tk _ t keep ?_ fun a ha => ?_
    · rw [numAt_eq]; exact PySem.getD_mem (by rw [List.length_map, Array.length_toList]; omega)
    · obtain ⟨j, hj, rfl⟩ := mem_getD ha
      rw [List.length_map, Array.length_toList] at hj
      rw [← numAt_eq]; exact h2 j (by omega)
end
def rMaxT (K : PySem.W.Frag) : List V → Hp → VK → Prop := fun vs H Q => ∃ (a : Addr) (ns : List Int), vs = [V.ref a] ∧ SqT K H a (ns.map V.int) ∧ 0 < ns.length ∧ ∀ m, m ∈ ns → (∀ y, y ∈ ns → y ≤ m) → Q (.int m) H
theorem cr_maxT {X : Cx} (hc : X.calm = true) : CallR X (.builtin "max") (rMaxT X.K) := by
  intro pins s σ H vs us Q I r h
  obtain ⟨a, ns, rfl, hs, hne, q⟩ := h
  obtain ⟨its, rv, hl, _⟩ := I.tuple hs
  rw [Vals.ref1 r]
  exact max_tupRaw (I.ok.hd hc) (show s.heap.IsTuple a its.toArray from hl) rv.ints hne fun h' tk m t' hk h1 h2 => ⟨.int _, H, I.kept hk, ⟨_, rfl⟩, q m h1 h2⟩

/-! ### tuple(list): the new tuple's object is told -/
/-- a tuple whose object bears no dict -/
def TupF (H : Hp) (a : Addr) (xs : List V) : Prop := ∃ o, o.cls = .type "tuple" ∧ o.dict = none ∧ H a = some (.frz o (.tup xs))
theorem TupF.same {H H' : Hp} {a : Addr} {xs : List V} (e : Same H H') (h : TupF H a xs) : TupF H' a xs := let ⟨o, h1, h2, h3⟩ := h; ⟨o, h1, h2, e _ _ h3⟩
theorem TupF.seq {K : PySem.W.Frag} {H : Hp} {a : Addr} {xs : List V} (h : TupF H a xs) : SqT K H a xs := let ⟨o, _, _, h3⟩ := h; .inl (.inr ⟨o, h3⟩)
section
variable {X : Cx}
theorem call_tupleF : CallR X (.type "tuple") (fun xs H Q => ∃ p ys, xs = [.ref p] ∧ SqL X.K H p ys ∧ ∀ l o, H l = none → o.cls = .type "tuple" → o.dict = none → Q (.ref l) (upd H l (.frz o (.tup ys)))) := by
  intro pins s σ H xs us Q I r h
  obtain ⟨p, ys, rfl, hx, q⟩ := h
  obtain ⟨u, rfl, rx⟩ := vals1 r
  cases rx
  obtain ⟨its, rv, pl, hz⟩ := I.list hx
  have hlen := rv.length
  refine call_tuple_list pl.isList (fun h' kp => ?_) (by simp only [List.size_toArray] <;> omega)
  have I1 : Inv X pins σ H { s with heap := h' } := I.kept (t' := s.toks) kp
  let o : Obj := { cls := .type "tuple", data := .seq its.toArray }
  have e : (h'.push o).get? h'.objs.size = some o := Heap.get?_push_size _ rfl
  have I2 : Inv X pins σ (upd H h'.objs.size (.frz o (.tup ys))) { s with heap := h'.push o } :=
    I1.laid (t' := s.toks) (fun b o e => Heap.get?_push_of_some _ e) (Nat.le_refl _) (show ObjOk X.prog X.w _ _ _ (.frz o (.tup ys)) from ⟨e, hz, its, rv, IsTup.new _ _⟩)
  exact ⟨.ref h'.objs.size, _, I2, rfl, q _ o (I1.hok.fresh (Nat.le_refl _)) rfl rfl⟩

/-! ### dict(t), t a tuple of pairs (text or int, value) -/
theorem call_dictT (hcalm : X.calm = true) : CallR X (.type "dict") (fun xs H Q => ∃ (a : Addr) (ps : List Addr) (kvs : List (Key × V)), xs = [.ref a] ∧ TupF H a (ps.map V.ref) ∧ Paired (fun p kv => SqT X.K H p [kV kv.1, kv.2]) ps kvs ∧
    ∀ p, H p = none → Q (.ref p) (upd H p (.dK (mergeK [] kvs)))) := by
  intro pins s σ H xs us Q I r q
  obtain ⟨a, ps, kvs, ex, hT, hp, q⟩ := q
  subst ex
  obtain ⟨u, eu, rx⟩ := vals1 r
  subst eu
  cases rx
  obtain ⟨o, hc, hd, hT⟩ := hT
  obtain ⟨e0, hz, its, rv, o', e1, _, n, hdat⟩ := (show ObjOk X.prog X.w H s.heap a (.frz o (.tup (ps.map V.ref))) from I.hok a _ hT)
  rw [e0] at e1
  cases e1
  have ei := refs_at rv
  subst ei
  rw [List.length_map] at hz
  obtain ⟨prs, rel, hl, hpr⟩ := pairs_of I hp
  have hpr' : ∀ j : Nat, ∃ (uu : Value × Value), ∀ q, prs[j]? = some q → ∃ b, ps[j]? = some b ∧ IsTup s.heap b #[uu.1, uu.2] ∧ keyIs q.1 uu.1 = true ∧ uu.2 = q.2 := fun j => by
    cases e : prs[j]? with
    | none => exact ⟨(.none, .none), fun q z => by cases z⟩
    | some q =>
      obtain ⟨b, u, z1, z2, z3⟩ := hpr j q e
      exact ⟨(u, q.2), fun q' z => by cases z; exact ⟨b, z1, z2, z3, rfl⟩⟩
  obtain ⟨F, hF⟩ := Classical.axiomOfChoice hpr'
  let vps : List (Value × Value) := (List.range prs.length).map F
  have hvl : vps.length = prs.length := by simp [vps]
  have P := PairArg.tuple (prog := X.prog) (w := X.w) a (ps.map Value.ref).toArray (fun j => ps.getD j 0) vps
  have hva : ∀ j q, prs[j]? = some q → vps[j]? = some (F j) := fun j q e => by
    have hj := (List.getElem?_eq_some_iff.mp e).1
    simp [vps, List.getElem?_map, List.getElem?_range hj]
  have back : ∀ (j : Nat) (k v : Value), vps[j]? = some (k, v) → ∃ q, prs[j]? = some q ∧ F j = (k, v) := fun j k v e => by
    have hj := (List.getElem?_eq_some_iff.mp e).1
    rw [hvl] at hj
    have e2 : prs[j]? = some prs[j] := List.getElem?_eq_getElem hj
    have e3 := hva j _ e2
    rw [e] at e3
    exact ⟨_, e2, (Option.some.inj e3).symm⟩
  refine call_dict_pairs (knd := mixKind X.prog X.w) (kvs := prs) P (I.ok.hd hcalm) ⟨⟨o, n, e0, hc, hd, hdat⟩, by simp [hvl, hl], fun j k v e => ?_⟩ ⟨hvl.symm, fun i k v e => ?_⟩ (by rw [hvl, hl]; exact hz) fun h' tk hd' k => ?_
  · obtain ⟨q, e1, e2⟩ := back j k v e
    obtain ⟨b, z1, z2, z3, z4⟩ := hF j q e1
    rw [e2] at z2
    refine ⟨by simp [z1], .inl ?_⟩
    have eb : ps.getD j 0 = b := by simp [z1]
    show s.heap.IsTuple (ps.getD j 0) #[k, v]
    rw [eb]
    exact z2
  · obtain ⟨q, e1, e2⟩ := back i k v e
    obtain ⟨b, z1, z2, z3, z4⟩ := hF i q e1
    rw [e2] at z3 z4
    refine ⟨q.1, ?_, z3⟩
    rw [e1]
    have : v = q.2 := z4
    rw [this]
  · have hm : (s.heap.objs.size == sysModules) = false := beq_eq_false_iff_ne.mpr (Nat.ne_of_gt I.big)
    have hlen : (mergeK [] kvs).length ≤ sizeLine := by
      refine Nat.le_trans (length_mergeK kvs []) ?_
      rw [List.length_nil, Nat.zero_add, rel.length, hl]
      exact hz
    have kk : ∀ b o, s.heap.get? b = some o → h'.get? b = some o := fun b o e => k b o (by simp) e
    exact ⟨.ref s.heap.objs.size, upd H s.heap.objs.size (.dK (mergeK [] kvs)), I.laid (t' := tk) kk (Nat.le_refl _) (show ObjOk X.prog X.w _ _ _ (.dK (mergeK [] kvs)) from ⟨hlen, hm, merged [] prs, KV.merge rel .nil, hd'⟩), rfl, q _ (I.hok.fresh (Nat.le_refl _))⟩

/-! ### D.get(k) of a written dict with text keys -/
/-- the written dict at ko -/
def KD (K : PySem.W.Frag) (w : World) (ko : Addr) : Prop := (∃ es n, K.lookup ko = some ⟨.type "dict", none, .dict es n, #[]⟩ ∧ PySem.W.KeysLit w.params es.toList) ∧ (ko == sysModules) = false
def tKGet (K : PySem.W.Frag) (ko : Addr) (te : TE) : TE := fun σ H Q => te σ H fun y H1 => ∃ (z : Str) (v : V) (u : Value), y = .str z ∧ PySem.W.nsIn K ko z = some (some u) ∧ RelV v u ∧ Q v H1
theorem pe_kget {x : Str} {e : Expr} {np apos cpos : Pos} {te : TE} {ko : Addr} (hg : Gl X x) (hx : X.mg x = some (.ref ko)) (kd : KD X.K X.w ko) (he : PE X e te) (m : M1 X (.Name x np) "get" apos e cpos) (hdb : (x == ("__debug__" : Str)) = false := by decide) :
    PE X (.Call (.Attribute (.Name x np) "get" apos) [e] [] cpos) (tKGet X.K ko te) := by
  refine ⟨fun pins s σ H Q I h => ?_⟩
  obtain ⟨⟨es, n, hl, hk⟩, hs⟩ := kd
  have ho0 := I.kIn _ _ hl
  refine wpAny_Call_method m.base m.few m.line PySem.F.plainAttrs_dict PySem.F.slot_dict_get PySem.F.type_dict_get (ld_glob I hg hx ?_ hdb)
  refine ⟨⟨_, ho0, rfl⟩, fun a ea => ?_, ?_⟩
  · cases ea
    exact ⟨_, ho0, rfl⟩
  rw [m.trees]
  refine Calls.callWith_builtin rfl (Calls.evalArgs_plain (Calls.spliced_cons (thn (he.run pins s σ H _ I h) fun iv s2 ⟨y, H2, I2, ry, z, v, u0, ey, e, ru, q2⟩ => Calls.spliced_nil ?_)))
  subst ey
  obtain ⟨t, rfl⟩ := ry
  have hm := PySem.W.mapOf_K (prog := X.prog) (w := X.w) I2.kIn hl hk
  refine call_meetsIn PySem.F.slot_dict_get hm.typeIs PySem.F.entry_dict_get (PySem.F.args_dict_get_2 _ _) (meets_dict_get (strKind X.prog X.w) ko (strKind_is X.prog X.w z t) hs) ⟨_, hm, ?_⟩
  refine ⟨v, H2, I2.tok _, ?_, q2⟩
  rw [PySem.W.find_K hl e]
  exact ru

/-! ### t[::-1] -/
theorem rev_pick (its : List Value) : ((List.range its.length).filterMap fun (m : Nat) => its.toArray[(((its.length : Int) - 1) + (m : Int) * (-1)).toNat]?).toArray = its.reverse.toArray := by
  congr 1
  have : ∀ n, n ≤ its.length → (List.range n).filterMap (fun (m : Nat) => its.toArray[(((its.length : Int) - 1) + (m : Int) * (-1)).toNat]?) = its.reverse.take n := by
    intro n
    induction n with
    | zero => intro _; rfl
    | succ n ih =>
      intro hn
      rw [List.range_succ, List.filterMap_append, ih (by omega), List.take_add_one]
      have e : (((its.length : Int) - 1) + (n : Int) * (-1)).toNat = its.length - 1 - n := by omega
      have h2 : its.reverse[n]? = its[its.length - 1 - n]? := List.getElem?_reverse (by omega)
      rw [h2]
      have h3 : its[its.length - 1 - n]? = some its[its.length - 1 - n] := List.getElem?_eq_getElem (by omega)
      rw [h3]
      congr 1
      show List.filterMap _ [n] = [its[its.length - 1 - n]]
      have h4 : its.toArray[(((its.length : Int) - 1) + (n : Int) * (-1)).toNat]? = some its[its.length - 1 - n] := by
        rw [e]
        simpa using h3
      rw [List.filterMap_cons, h4, List.filterMap_nil]
  rw [this _ (Nat.le_refl _), List.take_of_length_le (by simp)]
theorem getItem_tuple_rev {prog : Program} {w : World} {A : Around} {E : Value → Shared → Prop} {s : Shared} {t sl : Addr} {its : List Value} {u : Tok} {Q : Value → Shared → Prop} (ht : IsTup s.heap t its.toArray) (hs : s.heap.IsSliceOf sl .none .none (.int (-1) u))
    (h : Q (.ref s.heap.objs.size) { s with heap := s.heap.push { cls := .type "tuple", data := .seq its.reverse.toArray } }) (hsz : its.length ≤ sizeLine) : wpAny (model prog w) A (getItem (.ref t) (.ref sl)) Q E s := by
  have hok : sizeOk (.seq its.reverse.toArray) := by
    show its.reverse.toArray.size ≤ sizeLine
    rw [List.size_toArray, List.length_reverse]
    exact hsz
  obtain ⟨os, hos, hcs, hds⟩ := id hs
  have hTs : s.TypeIs (.ref sl) "slice" := ⟨os, hos, hcs⟩
  unfold getItem
  try with_reducible refine wpAny_holding ?_
  first | refine wpAny_bind (wpAny_pure ?_) | skip
  refine wpAny_bind (wpAny_sequenceKey ht.typeIs (by decide) ?_)
  refine wpAny_bind (wpAny_callSpecial?_slot (name := Str.ofString "__getitem__") ht.typeIs PyProof.Rows.slot_tuple_getitem
    (wpAny_call_entry PyProof.Rows.slot_tuple_getitem ht.typeIs entry_tuple_getitem ?_ (args_tuple_getitem _ _)))
  show wpAny _ _ (Builtin.Tuple.tupleItemsOf (.ref t) >>= _) _ _ s
  refine wpAny_bind (tupleItemsOf_ ht ?_)
  refine wpAny_bind (wpAny_typeOf hTs ?_)
  rw [if_pos (by decide)]
  refine wpAny_bind ?_
  unfold Builtin.Slice.sliceApplied Builtin.Slice.sliceFields
  refine wpAny_bind (wpAny_bind (wpAny_field hos hds (x := .none) rfl (wpAny_bind (wpAny_field hos hds (x := .none) rfl (wpAny_bind (wpAny_field hos hds (x := .int (-1) u) rfl (wpAny_pure ?_)))))))
  refine wpAny_bind (slicePart_int ?_)
  show wpAny _ _ (if ((-1 : Int) == 0) = true then _ else _) _ _ s
  rw [if_neg (by decide)]
  refine wpAny_bind (slicePart_none (wpAny_bind (slicePart_none (wpAny_bind (wpAny_pure ?_)))))
  have en : ((its.toArray.size : Nat) : Int) = (its.length : Int) := by simp
  have e1 : Builtin.Slice.sliceAdjust none none (-1) (its.toArray.size : Int) = ((its.length : Int) - 1, -1) := by
    rw [en]
    unfold Builtin.Slice.sliceAdjust
    simp
  have e2 : Builtin.Slice.slicePlaces ((its.length : Int) - 1) (-1) (-1) = its.length := by
    unfold Builtin.Slice.slicePlaces
    rw [if_neg (by decide)]
    have e3 : ((its.length : Int) - 1 - -1 - 1) / - -1 + 1 = (its.length : Int) := by
      rw [show (- -1 : Int) = 1 from rfl, Int.ediv_one]
      omega
    rw [e3]
    split <;> omega
  show wpAny _ _ (match Builtin.Slice.sliceAdjust none none (-1) (its.toArray.size : Int) with | (lo, hi) => pure (lo, (-1 : Int), Builtin.Slice.slicePlaces lo hi (-1))) _ _ s
  rw [e1]
  show wpAny _ _ (pure ((its.length : Int) - 1, (-1 : Int), Builtin.Slice.slicePlaces ((its.length : Int) - 1) (-1) (-1))) _ _ s
  rw [e2]
  refine wpAny_pure ?_
  show wpAny _ _ (if (((its.length : Int) - 1) == 0 && (-1 : Int) == 1 && its.length == its.toArray.size) = true then _ else _) _ _ s
  rw [if_neg (by simp), rev_pick]
  first
    | exact wpAny_bind (m := Builtin.Tuple.tupleExact _) (wpAny_newObj_type (wpAny_pure ⟨_, rfl, wpAny_pure h⟩) hok)
    | exact wpAny_bind (m := Builtin.Tuple.tupleExact _) (wpAny_newObj_type (wpAny_bind (wpAny_pure (wpAny_pure ⟨_, rfl, wpAny_pure h⟩))) hok)
    | exact wpAny_bind (wpAny_bind (m := Builtin.Tuple.tupleExact _) (wpAny_newObj_type (wpAny_pure (wpAny_pure ⟨_, rfl, wpAny_pure h⟩)) hok))
    | exact wpAny_bind (wpAny_bind (m := Builtin.Tuple.tupleExact _) (wpAny_newObj_type (wpAny_pure ⟨_, rfl, wpAny_pure h⟩) hok))
def tRevT (K : PySem.W.Frag) (te : TE) : TE := fun σ H Q => te σ H fun x H1 => ∃ a xs, x = .ref a ∧ SqT K H1 a xs ∧ ∀ p, H1 p = none → Q (.ref p) (upd H1 p (.tup xs.reverse))
theorem pe_revT {e : Expr} {te : TE} {k : Nat} {p1 p2 p3 pos : Pos} (he : PE X e te) : PE X (.Subscript e (.Slice none none (some (.UnaryOp .USub (.Constant (.int 1) k p1) p2)) p3) pos) (tRevT X.K te) := by
  refine ⟨fun pins s σ H Q I h => ?_⟩
  refine Subscript_ (thn (he.run pins s σ H _ I h) fun v s1 ⟨x, H1, I1, r1, q1⟩ => ?_)
  obtain ⟨a, xs, ex, hx, q⟩ := q1
  subst ex
  cases r1
  have hst : PO X (some (.UnaryOp .USub (.Constant (.int 1) k p1) p2)) (tPart (tUn (rU fun i => .int (-i)) (tC (.int 1)))) := po_some (pe_un un_neg pe_int)
  refine wpAny_Slice (thn (po_none.run pins s1 σ H1 (fun o H2 => o = none ∧ H2 = H1) I1 ⟨rfl, rfl⟩) fun vl s2 ⟨l, H2, I2, pl, el, e2⟩ => ?_)
  subst el e2
  refine thn (po_none.run pins s2 σ H2 (fun o H3 => o = none ∧ H3 = H2) I2 ⟨rfl, rfl⟩) fun vu s3 ⟨u, H3, I3, pu, eu, e3⟩ => ?_
  subst eu e3
  refine thn (hst.run pins s3 σ H3 (fun o H4 => o = some (-1) ∧ H4 = H3) I3 ⟨1, rfl, -1, rfl, rfl, rfl⟩) fun vs s4 ⟨o, H4, I4, ps, eo, e4⟩ => ?_
  subst eo e4
  have I5 : Inv X pins σ H4 { s4 with heap := s4.heap.push { cls := .type "slice", data := .fields #[vl, vu, vs] } } := I4.kept (t' := s4.toks) fun b ob q => Heap.get?_push_of_some _ q
  obtain ⟨its, r, ht, hz⟩ := I5.tuple hx
  have hlen := r.length
  show wpAny (model X.prog X.w) X.A (subscriptTail e (.Slice none none (some (.UnaryOp .USub (.Constant (.int 1) k p1) p2)) p3) (.ref a) (.ref s4.heap.objs.size)) (EP X pins σ Q) X.xe { s4 with heap := s4.heap.push { cls := .type "slice", data := .fields #[vl, vu, vs] } }
  refine tail_any (ops := [.ref a, .ref s4.heap.objs.size]) ht.typeIs (PyProof.Rows.slot_tuple_getitem.lookup) ?_ (by with_unfolding_all rfl)
  have hs := Heap.IsSliceOf.new s4.heap vl vu vs
  cases pl
  cases pu
  cases ps
  refine getItem_tuple_rev ht hs ?_ (by omega)
  refine ⟨.ref _, _, I5.laid (t' := s4.toks) (o := .tup xs.reverse) (fun b ob q => Heap.get?_push_of_some _ q) (Nat.le_refl _) ?_, rfl, q _ (I5.hok.fresh (Nat.le_refl _))⟩
  exact ⟨by rw [List.length_reverse]; exact hz, _, r.reverse, IsTup.new _ _⟩
end
end Wm
/-! repr of a tuple of ints and truths: told exactly where no repr is under way; defs that run only there (FnG), their calls, the law's end. -/
namespace Wm
open PySem PySem.Spec PyProof.Rows L2

/-! ### repr -/
/-- a note's data -/
def noteD : V → PyData
  | .bl b => .bool b
  | .int i => .int i
  | _ => .none
def NoteOk (x : V) : Prop := x = .int 1 ∨ x = .int 2 ∨ x = .bl true ∨ x = .int (-3) ∨ x = .int 5
/-- the text of a tuple of notes -/
def reprL (ns : List V) : Str := (PyData.tuple (ns.map noteD)).shown
theorem noteD_few {x : V} (h : NoteOk x) : (noteD x).shown.length ≤ 4 ∧ (noteD x).showable = true ∧ (noteD x).hasDict = false ∧ (noteD x).depth = 0 := by
  rcases h with h | h | h | h | h <;> subst h <;> refine ⟨by decide +kernel, by decide +kernel, rfl, rfl⟩
theorem notes_few : ∀ {ns : List V}, (∀ x ∈ ns, NoteOk x) → piled (PyData.shownAll (ns.map noteD)) ≤ 6 * ns.length ∧ PyData.showableAll (ns.map noteD) = true ∧ PyData.hasDictAll (ns.map noteD) = false ∧ PyData.depthAll (ns.map noteD) = 0
  | [], _ => ⟨Nat.le_refl _, rfl, rfl, rfl⟩
  | x :: ns, h => by
    obtain ⟨i1, i2, i3, i4⟩ := notes_few fun y hy => h y (List.mem_cons_of_mem _ hy)
    obtain ⟨k1, k2, k3, k4⟩ := noteD_few (h x List.mem_cons_self)
    rw [List.map_cons]
    refine ⟨?_, ?_, ?_, ?_⟩
    · show piled ((noteD x).shown :: PyData.shownAll (ns.map noteD)) ≤ 6 * (ns.length + 1)
      rw [piled_cons]
      omega
    · show ((noteD x).showable && PyData.showableAll (ns.map noteD)) = true
      rw [k2, i2]
      rfl
    · show ((noteD x).hasDict || PyData.hasDictAll (ns.map noteD)) = false
      rw [k3, i3]
      rfl
    · show max (noteD x).depth (PyData.depthAll (ns.map noteD)) = 0
      rw [k4, i4]
      rfl
theorem notes_dp {K : PySem.W.Frag} {H : Hp} : ∀ {ns : List V}, (∀ x ∈ ns, NoteOk x) → DpAll K H ns (ns.map noteD)
  | [], _ => .nil
  | x :: ns, h => by
    refine .cons ?_ (notes_dp fun y hy => h y (List.mem_cons_of_mem _ hy))
    rcases h x List.mem_cons_self with h | h | h | h | h <;> subst h
    · exact .int 1
    · exact .int 2
    · exact .bl true
    · exact .int (-3)
    · exact .int 5
def rReprL (K : PySem.W.Frag) : List V → Hp → VK → Prop := fun xs H Q => ∃ (a : Addr) (ns : List V), xs = [.ref a] ∧ SqT K H a ns ∧ (∀ x ∈ ns, NoteOk x) ∧ ns.length ≤ 1000 ∧ Q (.str (reprL ns)) H
theorem cr_repr {X : Cx} (hg : X.A.guards = some []) (hu : X.A.units + 64 < cLine) : CallR X (.builtin "repr") (rReprL X.K) := by
  intro pins s σ H xs us Q I r h
  obtain ⟨a, ns, rfl, ht, hn, hl, q⟩ := h
  obtain ⟨u, rfl, rx⟩ := vals1 r
  obtain ⟨as, rd⟩ := Dp.reads I (.tuple (ns.map noteD)) (.ref a) u (.tup ht (notes_dp hn)) rx
  cases rx
  obtain ⟨i1, i2, i3, i4⟩ := notes_few hn
  have hsz : (PyData.tuple (ns.map noteD)).shown.length ≤ sizeLine := by
    have h1 := fmt_text (PyData.shownAll (ns.map noteD))
    show (tupleText (PyData.shownAll (ns.map noteD))).length ≤ sizeLine
    rw [sizeLine_eq]
    omega
  refine repr_of_reads' rd i2 (PyData.noDict_hsm (d := .tuple (ns.map noteD)) i3) hg (by show X.A.units + (PyData.depthAll (ns.map noteD) + 1 + 1) < cLine; rw [i4]; omega) (fun _ _ e => e) (fun h' u tk hk => ?_) hsz
  exact ⟨.str _, H, I.kept hk, ⟨u, rfl⟩, q⟩

/-! ### defs that run where no repr is under way -/
structure FnG (P : Program) (w : World) (K : PySem.W.Frag) (mg : Str → Option Value) (base : Heap) (CX : CXT) (k : Nat) (f : Addr) (fd : FuncData) (ps : List Str) (sp : Sp) : Prop where
  len : ∀ vs H Q E, sp vs H Q E → vs.length = ps.length
  run : ∀ (A : Around) (outer : List Env) (s : Shared) (H : Hp) (args : Args) (us : List Value) (vs : List V) (Q : VK) (E : XK), Room k A → A.guards = some [] → Env0 P w K mg base A outer s H → BindsTo s fd args (ps.zip us) → Vals vs us → sp vs H Q E →
    codeAny (model P w) A (.call (.ref f) args) (CR CX outer P w H s Q E) s
section
variable {P : Program} {w : World} {K : PySem.W.Frag} {mg : Str → Option Value} {base : Heap} {CX : CXT} {k : Nat} {f : Addr} {ps : List Str} {sp : Sp}
theorem FnG.mono {j : Nat} {fd : FuncData} (F : FnG P w K mg base CX j f fd ps sp) (h : j ≤ k) : FnG P w K mg base CX k f fd ps sp :=
  ⟨F.len, fun A outer s H args us vs Q E hr => F.run A outer s H args us vs Q E (hr.mono h)⟩
/-- a def by its body -/
theorem fn_ofG {name qual : Str} {params : Arguments} {body : List Stmt} {scope : Scope} {dV kV doc pm cdv ct oc : Value} {an od : Option Addr} {osl : Array (Option Value)} {N : List Str}
    (lk : K.lookup f = some ⟨oc, od, .func (PySem.W.fnOf name qual params body scope dV kV doc pm an cdv ct), osl⟩) (hcd : PySem.W.codeIn K cdv qual = true) (S : FnScope N ps scope) (len : ∀ vs H Q E, sp vs H Q E → vs.length = ps.length)
    (hb : ∀ (A : Around) (outer : List Env) (s : Shared) (H : Hp) (vs : List V) (Q : VK) (E : XK), Room k (A.deeper (envOfC qual scope s.heap.objs.size f cdv)) → A.guards = some [] → sp vs H Q E →
      ∃ t, PSs (cxOf CX P w K mg base N qual scope f cdv A outer s H E) body t ∧ t { nx := fun _ H' => Q .non H', rt := Q } (start N vs) H) :
    FnG P w K mg base CX (k + 1) f (PySem.W.fnOf name qual params body scope dV kV doc pm an cdv ct) ps sp := by
  refine ⟨len, fun A outer s H args us vs Q E hr hg e0 hbt r hsp => ?_⟩
  have KX : K.In s.heap := e0.mod.kin.keeps fun b o e => (e0.bs b o e).1
  have lim : s.heap.NoLimit := e0.mod.nolimit.keeps fun b o e => (e0.bs b o e).1
  refine codeAny_call_function hr.depth (KX _ _ lk) rfl S.co S.gen rfl (PySem.W.codeRec_of KX hcd) (hbt _ _ _ _ ?_)
  refine wpAny_newFunctionEnv_cells S.kind (fun ⟨n, v⟩ hy => ?_) fun env he s1 x => ?_
  · rcases S.par n (List.of_mem_zip hy).1 with q | q
    · exact .inl q
    · exact .inr ⟨q, PySem.W.cellsFrom_some _ _ _ (.inl q)⟩
  · subst he
    refine ⟨lim.keeps x.toInCall.keep, codeAny_func ?_⟩
    obtain ⟨t, ht, hq⟩ := hb A outer s H vs Q E (hr.deeper _) hg hsp
    have I : Inv (cxOf CX P w K mg base N qual scope f cdv A outer s H E) [] (start N vs) H s1 := inv_start S hr.hd e0 (len _ _ _ _ hsp) r x
    refine wpAny_mono (ht.run [] s1 (start N vs) H _ I hq) (fun fl s' hs => ?_) fun e s' hs => hs
    cases fl with
    | ret u =>
      obtain ⟨v, σ', H', J, rv, q⟩ := hs
      exact ⟨v, H', J.os, J.bare, J.base, J.hok, rv, q⟩
    | next =>
      obtain ⟨σ', H', J, q⟩ := hs
      exact ⟨.non, H', J.os, J.bare, J.base, J.hok, rfl, q⟩
    | brk => exact hs.elim fun _ h => h.elim fun _ h => h.2.elim
    | cont => exact hs.elim fun _ h => h.elim fun _ h => h.2.elim
/-- a def without defaults -/
theorem okG {x qual : Str} {st : Stmt} {fd : FuncData} {N : List Str} (F : Fun K x qual st f fd) (S : FnScope N ps (defScope st)) (len : ∀ vs H Q E, sp vs H Q E → vs.length = ps.length)
    (hb : ∀ (cdv : Value) (A : Around) (outer : List Env) (s : Shared) (H : Hp) (vs : List V) (Q : VK) (E : XK), Room k (A.deeper (envOfC qual (defScope st) s.heap.objs.size f cdv)) → A.guards = some [] → sp vs H Q E →
      ∃ t, PSs (cxOf CX0 P w K mg base N qual (defScope st) f cdv A outer s H E).nox (defBody st) t ∧ t { nx := fun _ H' => Q .non H', rt := Q } (start N vs) H) : FnG P w K mg base CX0 (k + 1) f fd ps sp := by
  obtain ⟨oc, od, kV, doc, pm, an, cdv, ct, osl, rfl, lk, hcd⟩ := F.ex
  refine fn_ofG lk hcd S len fun A outer s H vs Q E hr hg hsp => ?_
  obtain ⟨t, h, q⟩ := hb cdv A outer s H vs Q E hr hg hsp
  exact ⟨t, h.nox, q⟩
end

/-! ### a def with a keyword-only default that every call gives -/
structure FunK (K : PySem.W.Frag) (x qual : Str) (st : Stmt) (f : Addr) (fd : FuncData) : Prop where
  ex : ∃ (oc : Value) (od : Option Addr) (dV kV doc pm : Value) (an : Option Addr) (cdv ct : Value) (osl : Array (Option Value)),
    fd = PySem.W.fnOf x qual (defArgs st) (defBody st) (defScope st) dV kV doc pm an cdv ct ∧ K.lookup f = some ⟨oc, od, .func fd, osl⟩ ∧ PySem.W.codeIn K cdv qual = true
  kp : PySem.W.keepIn K (.ref f) = true
theorem funK_mk {K : PySem.W.Frag} {x qual : Str} {st : Stmt} {f : Addr} {oc : Value} {od an : Option Addr} {osl : Array (Option Value)} {dV kV doc pm cdv ct : Value} (l : K.lookup f = some ⟨oc, od, .func (PySem.W.fnOf x qual (defArgs st) (defBody st) (defScope st) dV kV doc pm an cdv ct), osl⟩)
    (c : PySem.W.codeIn K cdv qual = true) (k : PySem.W.keepIn K (.ref f) = true) : FunK K x qual st f (PySem.W.fnOf x qual (defArgs st) (defBody st) (defScope st) dV kV doc pm an cdv ct) := ⟨⟨oc, od, dV, kV, doc, pm, an, cdv, ct, osl, rfl, l, c⟩, k⟩
section
variable {P : Program} {w : World} {K : PySem.W.Frag} {mg : Str → Option Value} {base : Heap} {k : Nat} {f : Addr} {ps : List Str} {sp : Sp}
theorem okGK {x qual : Str} {st : Stmt} {fd : FuncData} {N : List Str} (F : FunK K x qual st f fd) (S : FnScope N ps (defScope st)) (len : ∀ vs H Q E, sp vs H Q E → vs.length = ps.length)
    (hb : ∀ (cdv : Value) (A : Around) (outer : List Env) (s : Shared) (H : Hp) (vs : List V) (Q : VK) (E : XK), Room k (A.deeper (envOfC qual (defScope st) s.heap.objs.size f cdv)) → A.guards = some [] → sp vs H Q E →
      ∃ t, PSs (cxOf CX0 P w K mg base N qual (defScope st) f cdv A outer s H E).nox (defBody st) t ∧ t { nx := fun _ H' => Q .non H', rt := Q } (start N vs) H) : FnG P w K mg base CX0 (k + 1) f fd ps sp := by
  obtain ⟨oc, od, dV, kV, doc, pm, an, cdv, ct, osl, rfl, lk, hcd⟩ := F.ex
  refine fn_ofG lk hcd S len fun A outer s H vs Q E hr hg hsp => ?_
  obtain ⟨t, h, q⟩ := hb cdv A outer s H vs Q E hr hg hsp
  exact ⟨t, h.nox, q⟩
/-- the positional values, then the keywords' -/
theorem FunK.kb {x qual : Str} {st : Stmt} {fd : FuncData} {ks : List Str} (F : FunK K x qual st f fd)
    (h : ∀ (dV kV doc pm : Value) (an : Option Addr) (cdv ct : Value) (us ws : List Value), (us ++ ws).length = ps.length → ∀ n, us.length = n → ws.length = ks.length → bindArgs (PySem.W.fnOf x qual (defArgs st) (defBody st) (defScope st) dV kV doc pm an cdv ct) ⟨us, ks.zip ws⟩ = pure (ps.zip (us ++ ws))) (n : Nat) :
    ∀ (s : Shared) (us ws : List Value), us.length = n → ws.length = ks.length → (us ++ ws).length = ps.length → BindsTo s fd ⟨us, ks.zip ws⟩ (ps.zip (us ++ ws)) := by
  obtain ⟨oc, od, dV, kV, doc, pm, an, cdv, ct, osl, rfl, lk, hcd⟩ := F.ex
  exact fun s us ws h1 h2 h3 => .of_eq (h dV kV doc pm an cdv ct us ws h3 n h1 h2)
end

/-! ### calls -/
section
variable {X : Cx} {CX : CXT} {k : Nat} {f : Addr} {fd : FuncData} {ps : List Str} {sp : Sp} {dvs : List V} {ds : List Value} {E : XK} {x : Str} {p pos : Pos} {e : Expr} {es : List Expr} {t : TA}
theorem pe_callG (hgu : X.A.guards = some []) (F : FnG X.prog X.w X.K X.mg X.base CX k f fd ps sp) (hr : Room k X.A) (hg : Gl X x) (hm : X.mg x = some (.ref f)) (hk : PySem.W.keepIn X.K (.ref f) = true) (hb : Binds X.K fd ps []) (hx : Passes CX X E)
    (ha : PA X (e :: es) t) (hdb : (x == ("__debug__" : Str)) = false := by decide) (he : starEach (e :: es) X.env = (false, eval e X.env) :: starEach es X.env := by rfl) (hpl : (backTo pos (starEach es X.env)).any (·.1) = false := by rfl) :
    PE X (.Call (.Name x p) (e :: es) [] pos) (tCall sp [] E t) := by
  refine ⟨fun pins s σ H Q I h => ?_⟩
  refine wpAny_Call_Name_kw (ld_glob I hg hm ?_ hdb)
  refine PySem.W.callWith_K (h₀ := X.base) I.ok.mod.kin hk (thn (ha.run pos pins s σ H _ I h) fun us s1 ⟨vs, H1, I1, r, q⟩ => ⟨I1.kIn, ?_⟩) he hpl
  have q : sp (vs ++ []) H1 Q E := q
  rw [List.append_nil] at q
  have hl : (us ++ ([] : List Value)).length = ps.length := by rw [List.append_nil, ← r.length]; exact F.len _ _ _ _ q
  have hbt := hb s1 us I1.kIn hl
  rw [List.append_nil] at hbt
  refine wpAny_call (codeAny_mono (F.run X.A X.stack s1 H1 ⟨us, []⟩ us vs Q E hr hgu I1.env0 hbt r q) fun r s' hq => ?_)
  cases r with
  | error e => exact hx pins σ H1 s1 e s' I1 hq
  | ok fl =>
    cases fl with
    | ret u => exact I1.after hq
    | next => exact False.elim hq
    | brk => exact False.elim hq
    | cont => exact False.elim hq
/-- f(e, .., k = v): every parameter is given, the positional ones first -/
def tCallGK (n : Nat) (sp : Sp) (E : XK) (t tk : TA) : TE := fun σ H Q => t σ H fun vs H1 => tk σ H1 fun zs H2 => vs.length = n ∧ sp (vs ++ zs) H2 Q E
variable {kws : List Keyword} {tk : TA} {ks : List Str} {n : Nat}
theorem pe_callGK (hgu : X.A.guards = some []) (F : FnG X.prog X.w X.K X.mg X.base CX k f fd ps sp) (hr : Room k X.A) (hg : Gl X x) (hm : X.mg x = some (.ref f)) (hk : PySem.W.keepIn X.K (.ref f) = true)
    (hb : ∀ (s : Shared) (us ws : List Value), us.length = n → ws.length = ks.length → (us ++ ws).length = ps.length → BindsTo s fd ⟨us, ks.zip ws⟩ (ps.zip (us ++ ws))) (hn : n + ks.length = ps.length) (hx : Passes CX X E)
    (ha : PA X (e :: es) t) (hkw : PK X kws tk) (hall : (backToKw pos (keywordEach kws X.env)).all (·.1.isSome) = true := by rfl) (hks : (backToKw pos (keywordEach kws X.env)).filterMap (·.1) = ks := by rfl)
    (hdb : (x == ("__debug__" : Str)) = false := by decide) (he : starEach (e :: es) X.env = (false, eval e X.env) :: starEach es X.env := by rfl)
    (hpl : ((backTo pos (starEach (e :: es) X.env)).any (·.1) || (backToKw pos (keywordEach kws X.env)).any (·.1.isNone)) = false := by rfl) :
    PE X (.Call (.Name x p) (e :: es) kws pos) (tCallGK n sp E t tk) := by
  refine ⟨fun pins s σ H Q I h => ?_⟩
  refine wpAny_Call_Name_kw (ld_glob I hg hm ?_ hdb)
  refine PySem.W.callWith_KW (h₀ := X.base) I.ok.mod.kin hk hall (thn (ha.run pos pins s σ H _ I h) fun us s1 ⟨vs, H1, I1, r, q⟩ => ?_) hpl he
  refine thn (hkw.run pos pins s1 σ H1 _ I1 q) fun ws s2 ⟨zs, H2, I2, rz, hvn, q2⟩ => ⟨I2.kIn, ?_⟩
  rw [hks]
  have rr := r.append rz
  have hl : (us ++ ws).length = ps.length := by rw [← rr.length]; exact F.len _ _ _ _ q2
  have hu : us.length = n := by rw [← r.length]; exact hvn
  have hw : ws.length = ks.length := by
    rw [List.length_append] at hl
    omega
  refine wpAny_call (codeAny_mono (F.run X.A X.stack s2 H2 ⟨us, ks.zip ws⟩ (us ++ ws) (vs ++ zs) Q E hr hgu I2.env0 (hb s2 us ws hu hw hl) rr q2) fun r s' hq => ?_)
  cases r with
  | error e => exact hx pins σ H2 s2 e s' I2 hq
  | ok fl =>
    cases fl with
    | ret u => exact I2.after hq
    | next => exact False.elim hq
    | brk => exact False.elim hq
    | cont => exact False.elim hq
end
end Wm

/-! ### the law's end, for a promise of such a def -/
namespace Wm
open PySem PySem.Spec PyProof.Rows L2
section
variable {P : Program} {w : World} {K : PySem.W.Frag} {mg mb : Str → Option Value} {k : Nat} {fa a : Addr} {fd : FuncData} {x : Str} {sp : Sp} {s₁ : Shared} {vs : List Value} {ns : List Int}
/-- from an abstract heap that tracks the script at most -/
theorem law_at (KX : K.In s₁.heap) (hns : s₁.heap.Ns mainGlobals mg) (hb : s₁.heap.Ns builtinsNs mb) (hbb : ∀ x : Str, x ≠ "__name__" → mb x = bootBuiltins x) (hlim : s₁.heap.NoLimit) (hg : s₁.gens = #[])
    (ha : s₁.heap.get? a = some { cls := .type "list", data := .seq vs.toArray }) (hr : Room k callerA)
    (F : ∀ base : Heap, K.In base → base.Ns mainGlobals mg → FnG P w K mg base CX0 k fa fd [x] sp) (hbind : ∀ (s : Shared) (u : Value), BindsTo s fd ⟨[u], []⟩ [(x, u)])
    (H : Hp) (hO : Only H) (hsp : sp [.ref a] H (fun v _ => v = .bl true) fun _ _ _ => False) (hok : HOk P w H s₁.heap) (hA : ∀ b, H b ≠ none → b = a) (hK : H a ≠ none → K.lookup a = none) :
    codeAny (model P w) callerA (.call (.ref fa) ⟨[.ref a], []⟩) (fun r s' => r = .ok (.ret (.bool true)) ∧ OldK s₁.heap s'.heap ∧ s'.os = s₁.os ∧ AllBare s'.gens) s₁ := by
  have own : ∀ {b : Addr} {u : HO}, H b = some u → b = a := fun {b u} q => hA b (by rw [q]; simp)
  have nsK : ∀ {b : Addr} {m : Str → Option Value}, s₁.heap.Ns b m → (hidT s₁.heap H).Ns b m := fun {b m} ⟨o, es, ep, e, d, r⟩ => by
    refine ⟨o, es, ep, hidT_get e ?_, d, r⟩
    cases q : H b with
    | none => rfl
    | some u =>
      have e' := own q
      subst e'
      rw [ha] at e
      cases e
      have d' : Data.seq vs.toArray _ = Data.dict es ep := d
      cases d'
  have hKb : K.In (hidT s₁.heap H) := fun b o e => by
    refine hidT_get (KX b o e) ?_
    cases q : H b with
    | none => rfl
    | some u =>
      have e' := own q
      subst e'
      rw [hK (by rw [q]; simp)] at e
      cases e
  have hM : Mod K mg (hidT s₁.heap H) := ⟨hKb, nsK hns, ⟨mb, nsK hb, hbb⟩, let ⟨mc, h1, h2⟩ := hlim; ⟨mc, nsK h1, h2⟩⟩
  have e0 : Env0 P w K mg (hidT s₁.heap H) callerA [] s₁ H := ⟨rfl, hM, fun b o e => of_hidT e, Nat.le_of_eq (hidT_size _ _), trivial, fun b hb => absurd (show b ∈ ([] : List Addr) from hb) (by simp), hok, .of_eq hg⟩
  refine codeAny_mono ((F _ hKb (nsK hns)).run callerA [] s₁ H ⟨[.ref a], []⟩ [.ref a] [.ref a] _ _ hr rfl e0 (hbind s₁ (.ref a)) (.cons rfl .nil) hsp) fun r s' h => ?_
  cases r with
  | error e => exact False.elim h
  | ok fl =>
    cases fl with
    | next => exact False.elim h
    | brk => exact False.elim h
    | cont => exact False.elim h
    | ret u =>
      obtain ⟨v, H', os, bare, un, hok', r', q⟩ := h
      have q' : v = .bl true := q
      subst q'
      obtain rfl : u = Value.bool true := r'
      refine ⟨rfl, OldK.of_keep fun b o e => ?_, os, bare⟩
      rcases hO b with z | ⟨ob, xs, z⟩
      · exact un.keep b o e z (by intro z; exact absurd (show b ∈ ([] : List Addr) from z) (by simp)) (by simp)
      · have z2 := un.frzs b ob _ z
        obtain ⟨e1, _⟩ := hok b _ z
        obtain ⟨e2, _⟩ := hok' b _ z2
        rw [e] at e1; cases e1
        exact e2
theorem law_callG (KX : K.In s₁.heap) (hns : s₁.heap.Ns mainGlobals mg) (hb : s₁.heap.Ns builtinsNs mb) (hbb : ∀ x : Str, x ≠ "__name__" → mb x = bootBuiltins x) (hlim : s₁.heap.NoLimit) (hg : s₁.gens = #[])
    (ha : s₁.heap.get? a = some { cls := .type "list", data := .seq vs.toArray }) (hi : IntsAre vs ns) (hl : ns.length ≤ sizeLine) (hr : Room k callerA)
    (F : ∀ base : Heap, K.In base → base.Ns mainGlobals mg → FnG P w K mg base CX0 k fa fd [x] sp) (hbind : ∀ (s : Shared) (u : Value), BindsTo s fd ⟨[u], []⟩ [(x, u)])
    (hsp : ∀ H : Hp, SqL K H a (ns.map V.int) → sp [.ref a] H (fun v _ => v = .bl true) fun _ _ _ => False) :
    codeAny (model P w) callerA (.call (.ref fa) ⟨[.ref a], []⟩) (fun r s' => r = .ok (.ret (.bool true)) ∧ OldK s₁.heap s'.heap ∧ s'.os = s₁.os ∧ AllBare s'.gens) s₁ := by
  have rv := vals_ints hi
  have lenV := hi.length
  cases hk : K.lookup a with
  | some o =>
    have e := KX a o hk
    rw [ha] at e
    cases e
    have hS : SqL K (fun _ => none) a (ns.map V.int) := .inr ⟨_, vs.toArray, _, hk, rfl, rfl, rfl, by rw [List.size_toArray, lenV]; exact hl, by simpa using rv⟩
    exact law_at KX hns hb hbb hlim hg ha hr F hbind (fun _ => none) (fun _ => .inl rfl) (hsp _ hS) (fun b u z => nomatch z) (fun b z => absurd rfl z) fun z => absurd rfl z
  | none =>
    let o : Obj := { cls := .type "list", data := .seq vs.toArray }
    let H : Hp := fun b => if b = a then some (.frz o (.lst (ns.map V.int))) else none
    have at_a : H a = some (.frz o (.lst (ns.map V.int))) := if_pos rfl
    have off : ∀ {b}, b ≠ a → H b = none := fun {b} h => if_neg h
    refine law_at KX hns hb hbb hlim hg ha hr F hbind H (fun b => ?_) (hsp H (.inl (.inr ⟨o, at_a⟩))) (fun b u z => ?_) (fun b z => ?_) fun _ => hk
    · by_cases h : b = a
      · subst h
        exact .inr ⟨_, _, at_a⟩
      · exact .inl (off h)
    · by_cases h : b = a
      · subst h
        rw [at_a] at z
        cases z
        exact ⟨ha, by rw [List.length_map]; exact hl, vs, _, rv, ha⟩
      · rw [off h] at z
        cases z
    · by_cases h : b = a
      · exact h
      · exact absurd (off h) z
end
theorem walk_ofG {l : PySem.W.OpenLaw} {n k : Nat} {q : Program} {loose : List Str} {XP : (Str → Option Value) → Heap → Prop} {YP : World → Heap → Prop} {d : DefRec} {K : Params → PySem.W.Frag} {sp : PySem.W.Frag → World → Sp} {x : Str}
    (hn : l.most = some n) (hn2 : n ≤ sizeLine) (hdf : d.params.defaults = []) (hr : Room k callerA) (hY : ∀ (w : World) (h : Heap), YP w h → (K w.params).In h)
    (F : ∀ (w : World) (mg : Str → Option Value) (fa : Addr) (h : Heap), (K w.params).In h → h.Ns mainGlobals mg → mg d.name = some (.ref fa) →
      ∃ fd : FuncData, (∀ (s : Shared) (u : Value), BindsTo s fd ⟨[u], []⟩ [(x, u)]) ∧ ∀ base : Heap, (K w.params).In base → base.Ns mainGlobals mg → FnG l.prog w (K w.params) mg base CX0 k fa fd [x] (sp (K w.params) w))
    (hsp : ∀ (w : World) (H : Hp) (a : Addr) (ns : List Int), ns.length ≤ n → SqL (K w.params) H a (ns.map V.int) → sp (K w.params) w [.ref a] H (fun v _ => v = .bl true) fun _ _ _ => False) :
    PySem.W.WalkO q loose XP YP l.row.toRowW d [] (fun f vs => PySem.call f vs) := by
  refine Att.attach_call hn hdf fun w s₀ s₁ mg mb fa o pm cd doc a vs ns G Y ho hd hcd hmg hobj hints hlen hg => ?_
  have KX := hY w _ Y
  obtain ⟨fd, hb, hF⟩ := F w mg fa _ KX G.T.g hmg
  exact law_callG KX G.T.g G.T.b G.T.builtins G.T.nolimit hg hobj hints (Nat.le_trans hlen hn2) hr hF hb fun H hS => hsp w H a ns hlen hS
end Wm
/-! Tellers as plain data, how they stand in the abstract heap, their steps; defs that can be called. -/
namespace Wm
open PySem PySem.Spec PyProof.Rows L2

/-! ### plain data -/
structure Rul where
  heads : List Str
  notes : List V
structure Tel where
  name : Str
  places : List Str
  rules : List Rul
def signs : Str := "abcdefghijklmnopqrstuvwxyz"
structure WordOk (z : Str) : Prop where
  lo : 1 ≤ z.length
  hi : z.length ≤ 6
  sg : ∀ c ∈ z.cps.toList, c ∈ signs.cps.toList
structure RulOk (ps : List Str) (r : Rul) : Prop where
  lo : 1 ≤ r.heads.length
  hi : r.heads.length ≤ 3
  nd : r.heads.Nodup
  sub : ∀ p ∈ r.heads, p ∈ ps
  few : r.notes.length ≤ 3
  ok : ∀ x ∈ r.notes, NoteOk x
structure TelOk (t : Tel) : Prop where
  name : WordOk t.name
  lo : 1 ≤ t.places.length
  hi : t.places.length ≤ 3
  nd : t.places.Nodup
  words : ∀ p ∈ t.places, WordOk p
  few : t.rules.length ≤ 4
  rules : ∀ r ∈ t.rules, RulOk t.places r

/-! ### in the heap -/
theorem pair_mono {α β : Type} {F G : α → β → Prop} {l : List α} {m : List β} (h : Paired F l m) (f : ∀ a b, F a b → G a b) : Paired G l m := Paired.mapP h f
theorem pair_at {α β : Type} {F : α → β → Prop} : ∀ {l : List α} {m : List β} {i : Nat} {b : β}, Paired F l m → m[i]? = some b → ∃ a, l[i]? = some a ∧ F a b
  | _, _, _, _, .nil, h => by simp at h
  | _, _, 0, _, .cons r _, h => by
    simp at h
    subst h
    exact ⟨_, rfl, r⟩
  | _, _, i + 1, _, .cons _ t, h => by
    obtain ⟨a, h1, h2⟩ := pair_at (i := i) t (by simpa using h)
    exact ⟨a, by simpa using h1, h2⟩
theorem pair_get {α β : Type} {F : α → β → Prop} : ∀ {l : List α} {m : List β} {i : Nat} {a : α}, Paired F l m → l[i]? = some a → ∃ b, m[i]? = some b ∧ F a b
  | _, _, _, _, .nil, h => by simp at h
  | _, _, 0, _, .cons r _, h => by
    simp at h
    subst h
    exact ⟨_, rfl, r⟩
  | _, _, i + 1, _, .cons _ t, h => by
    obtain ⟨a, h1, h2⟩ := pair_get (i := i) t (by simpa using h)
    exact ⟨a, by simpa using h1, h2⟩
theorem pair_len {α β : Type} {F : α → β → Prop} {l : List α} {m : List β} (h : Paired F l m) : l.length = m.length := Paired.length h
theorem pair_app {α β : Type} {F : α → β → Prop} : ∀ {l l' : List α} {m m' : List β}, Paired F l m → Paired F l' m' → Paired F (l ++ l') (m ++ m')
  | _, _, _, _, .nil, s => s
  | _, _, _, _, .cons r t, s => .cons r (pair_app t s)
theorem pair_take {α β : Type} {F : α → β → Prop} : ∀ {l : List α} {m : List β} (n : Nat), Paired F l m → Paired F (l.take n) (m.take n)
  | _, _, 0, _ => .nil
  | _, _, _ + 1, .nil => .nil
  | _, _, n + 1, .cons r t => .cons r (pair_take n t)
theorem pair_drop {α β : Type} {F : α → β → Prop} : ∀ {l : List α} {m : List β} (n : Nat), Paired F l m → Paired F (l.drop n) (m.drop n)
  | _, _, 0, h => h
  | _, _, _ + 1, .nil => .nil
  | _, _, n + 1, .cons _ t => pair_drop n t
theorem pair_rev {α β : Type} {F : α → β → Prop} {l : List α} {m : List β} (h : Paired F l m) : Paired F l.reverse m.reverse := by
  induction h with
  | nil => exact .nil
  | cons r _ ih =>
    rw [List.reverse_cons, List.reverse_cons]
    exact pair_app ih (.cons r .nil)

def HeadAt (H : Hp) (p : Str) (b : Addr) : Prop := ∃ e, H b = some (.tup [.str p, .ref e]) ∧ H e = some (.tup [])
def DeedAt (H : Hp) (x : V) (b : Addr) : Prop := ∃ c, H b = some (.tup [.str "note", .ref c]) ∧ H c = some (.tup [.str "is", x])
def HeadsAt (H : Hp) (hs : List Str) (a : Addr) : Prop := ∃ as : List Addr, H a = some (.tup (as.map V.ref)) ∧ Paired (HeadAt H) hs as
def DeedsAt (H : Hp) (ns : List V) (a : Addr) : Prop := ∃ as : List Addr, H a = some (.tup (as.map V.ref)) ∧ Paired (DeedAt H) ns as
def RuleAt (H : Hp) (r : Rul) (b : Addr) : Prop := ∃ ha da, H b = some (.tup [.ref ha, .ref da]) ∧ HeadsAt H r.heads ha ∧ DeedsAt H r.notes da
def RulesAt (H : Hp) (rs : List Rul) (a : Addr) : Prop := ∃ as : List Addr, H a = some (.tup (as.map V.ref)) ∧ Paired (RuleAt H) rs as
def PlaceAt (H : Hp) (p : Str) (b : Addr) : Prop := H b = some (.tup [.str p, .int 0])
def PlacesAt (H : Hp) (ps : List Str) (a : Addr) : Prop := ∃ as : List Addr, TupF H a (as.map V.ref) ∧ Paired (PlaceAt H) ps as
def TelAt (H : Hp) (t : Tel) (a : Addr) : Prop := ∃ pa ra, H a = some (.tup [.str t.name, .ref pa, .ref ra]) ∧ PlacesAt H t.places pa ∧ RulesAt H t.rules ra
section
variable {H H' : Hp} (e : Same H H')
include e
theorem HeadAt.same {p : Str} {b : Addr} (h : HeadAt H p b) : HeadAt H' p b := let ⟨c, h1, h2⟩ := h; ⟨c, e _ _ h1, e _ _ h2⟩
theorem DeedAt.same {x : V} {b : Addr} (h : DeedAt H x b) : DeedAt H' x b := let ⟨c, h1, h2⟩ := h; ⟨c, e _ _ h1, e _ _ h2⟩
theorem HeadsAt.same {hs : List Str} {b : Addr} (h : HeadsAt H hs b) : HeadsAt H' hs b := let ⟨c, h1, h2⟩ := h; ⟨c, e _ _ h1, pair_mono h2 fun _ _ z => z.same e⟩
theorem DeedsAt.same {ns : List V} {b : Addr} (h : DeedsAt H ns b) : DeedsAt H' ns b := let ⟨c, h1, h2⟩ := h; ⟨c, e _ _ h1, pair_mono h2 fun _ _ z => z.same e⟩
theorem RuleAt.same {r : Rul} {b : Addr} (h : RuleAt H r b) : RuleAt H' r b := let ⟨x, y, h1, h2, h3⟩ := h; ⟨x, y, e _ _ h1, h2.same e, h3.same e⟩
theorem RulesAt.same {rs : List Rul} {b : Addr} (h : RulesAt H rs b) : RulesAt H' rs b := let ⟨c, h1, h2⟩ := h; ⟨c, e _ _ h1, pair_mono h2 fun _ _ z => z.same e⟩
theorem PlacesAt.same {ps : List Str} {b : Addr} (h : PlacesAt H ps b) : PlacesAt H' ps b := let ⟨c, h1, h2⟩ := h; ⟨c, h1.same e, pair_mono h2 fun _ _ z => e _ _ z⟩
theorem TelAt.same {t : Tel} {a : Addr} (h : TelAt H t a) : TelAt H' t a := let ⟨x, y, h1, h2, h3⟩ := h; ⟨x, y, e _ _ h1, h2.same e, h3.same e⟩
end
theorem same_new {H : Hp} {p : Addr} {o : HO} (h : H p = none) : Same H (upd H p o) := fun b x e => by
  rw [upd_ne (ne_of_none e h)]
  exact e
/-- a tuple that is tracked, as it is or by its object -/
def TupA (H : Hp) (a : Addr) (xs : List V) : Prop := H a = some (.tup xs) ∨ TupF H a xs
theorem TupA.seq {K : PySem.W.Frag} {H : Hp} {a : Addr} {xs : List V} (h : TupA H a xs) : SqT K H a xs := h.elim (fun z => .of z) fun z => z.seq
theorem TupA.same {H H' : Hp} (e : Same H H') {a : Addr} {xs : List V} (h : TupA H a xs) : TupA H' a xs := h.elim (fun z => .inl (e _ _ z)) fun z => .inr (z.same e)
theorem TupA.ty {K : PySem.W.Frag} {H : Hp} {a : Addr} {xs : List V} (h : TupA H a xs) : TyX K H (.ref a) (.type "tuple") := by
  rcases h with h | ⟨o, _, _, h⟩
  · exact .base (.tup h)
  · exact .fTuple h

/-! ### a teller's steps -/
def mOf (ps : List Str) (h : List Int) : Str → Int := fun w => ((ps.zip h).lookup w).getD 0
def upM (m : Str → Int) (w : Str) (k : Int) : Str → Int := fun x => if x = w then k else m x
def took (m : Str → Int) : List Str → Str → Int
  | [] => m
  | p :: r => took (upM m p (m p - 1)) r
def step1 (t : Tel) (h : List Int) (w : Str) : List V × List Int :=
  let m := upM (mOf t.places h) w (mOf t.places h w + 1)
  match t.rules.find? fun r => r.heads.all fun p => decide (0 < m p) with
  | none => ([], t.places.map m)
  | some r => (r.notes, t.places.map (took m r.heads))
def step2 (a b : Tel) (p : NP) (w : Str) : Bool × NP :=
  (decide (reprL (step1 a p.1 w).1 = reprL (step1 b p.2 w).1), ((step1 a p.1 w).2, (step1 b p.2 w).2))
def low (n : Int) (p : NP) : Bool := (p.1 ++ p.2).all fun x => decide (x ≤ n)
def zero (t : Tel) : List Int := t.places.map fun _ => 0
theorem low_mono {n m : Int} (h : n ≤ m) (p : NP) (q : low n p = true) : low m p = true := by
  unfold low at *
  rw [List.all_eq_true] at *
  intro x hx
  have := q x hx
  rw [decide_eq_true_eq] at *
  omega
theorem upM_same (m : Str → Int) (w : Str) (k : Int) : upM m w k w = k := if_pos rfl
theorem upM_ne {m : Str → Int} {w x : Str} {k : Int} (h : x ≠ w) : upM m w k x = m x := if_neg h
theorem took_nn : ∀ {hs : List Str} {m : Str → Int}, hs.Nodup → (∀ x, 0 ≤ m x) → (∀ p ∈ hs, 0 < m p) → ∀ x, 0 ≤ took m hs x
  | [], _, _, h, _, x => h x
  | p :: hs, m, nd, h, hp, x => by
    obtain ⟨n1, n2⟩ := List.nodup_cons.mp nd
    refine took_nn n2 (fun y => ?_) (fun q hq => ?_) x
    · by_cases e : y = p
      · rw [e, upM_same]
        have := hp p List.mem_cons_self
        omega
      · rw [upM_ne e]
        exact h y
    · rw [upM_ne (fun e : q = p => n1 (e ▸ hq))]
      exact hp q (List.mem_cons_of_mem _ hq)
theorem zip_lookup_nn : ∀ {ps : List Str} {h : List Int} {w : Str}, (∀ x ∈ h, 0 ≤ x) → 0 ≤ ((ps.zip h).lookup w).getD 0
  | [], _, _, _ => by simp
  | _ :: _, [], _, _ => by simp
  | p :: ps, x :: h, w, hn => by
    rw [List.zip_cons_cons]
    by_cases e : w = p
    · have hb : (w == p) = true := beq_iff_eq.mpr e
      simp only [List.lookup, hb, Option.getD_some]
      exact hn x List.mem_cons_self
    · have hb : (w == p) = false := beq_eq_false_iff_ne.mpr e
      simp only [List.lookup, hb]
      exact zip_lookup_nn fun y hy => hn y (List.mem_cons_of_mem _ hy)
theorem mOf_nn {ps : List Str} {h : List Int} (hn : ∀ x ∈ h, 0 ≤ x) (w : Str) : 0 ≤ mOf ps h w := zip_lookup_nn hn
theorem step1_len (t : Tel) (h : List Int) (w : Str) : (step1 t h w).2.length = t.places.length := by
  unfold step1
  dsimp only
  split <;> exact List.length_map ..
theorem step1_nn {t : Tel} (ok : TelOk t) {h : List Int} (hn : ∀ x ∈ h, 0 ≤ x) (w : Str) : ∀ x ∈ (step1 t h w).2, 0 ≤ x := by
  have m0 : ∀ x, 0 ≤ upM (mOf t.places h) w (mOf t.places h w + 1) x := fun x => by
    by_cases e : x = w
    · rw [e, upM_same]
      have := mOf_nn (ps := t.places) hn w
      omega
    · rw [upM_ne e]
      exact mOf_nn hn x
  unfold step1
  dsimp only
  split
  · intro x hx
    obtain ⟨p, _, rfl⟩ := List.mem_map.mp hx
    exact m0 p
  · rename_i r hr
    intro x hx
    obtain ⟨p, _, rfl⟩ := List.mem_map.mp hx
    have hall := List.find?_some hr
    rw [List.all_eq_true] at hall
    exact took_nn (ok.rules r (List.mem_of_find?_eq_some hr)).nd m0 (fun q hq => of_decide_eq_true (hall q hq)) p
theorem step1_notes {t : Tel} (ok : TelOk t) (h : List Int) (w : Str) : (∀ x ∈ (step1 t h w).1, NoteOk x) ∧ (step1 t h w).1.length ≤ 3 := by
  unfold step1
  dsimp only
  split
  · exact ⟨fun x hx => (nomatch hx), Nat.zero_le _⟩
  · rename_i r hr
    have := ok.rules r (List.mem_of_find?_eq_some hr)
    exact ⟨this.ok, this.few⟩

/-! ### defs that can be called -/
structure Callable (P : Program) (w : World) (K : PySem.W.Frag) (mg : Str → Option Value) (base : Heap) (j : Nat) (x : Str) (ps : List Str) (sp : Sp) : Prop where
  ex : ∃ f fd, FnOk P w K mg base CX0 j f fd ps sp ∧ mg x = some (.ref f) ∧ PySem.W.keepIn K (.ref f) = true ∧ Binds K fd ps []
structure DefAt (K : PySem.W.Frag) (mg : Str → Option Value) (x : Str) (st : Stmt) (ps : List Str) : Prop where
  ex : ∃ f fd, Fun K x x st f fd ∧ mg x = some (.ref f) ∧ Binds K fd ps []
section
variable {P : Program} {w : World} {K : PySem.W.Frag} {mg : Str → Option Value} {base : Heap} {j : Nat} {x : Str} {ps : List Str} {sp : Sp}
theorem Callable.of {st : Stmt} (D : DefAt K mg x st ps) (h : ∀ f fd, Fun K x x st f fd → FnOk P w K mg base CX0 j f fd ps sp) : Callable P w K mg base j x ps sp :=
  let ⟨f, fd, F, m, b⟩ := D.ex
  ⟨f, fd, h f fd F, m, F.kp, b⟩
end
theorem pe_k {X : Cx} {j k : Nat} {x : Str} {ps : List Str} {sp : Sp} {p pos : Pos} {e : Expr} {es : List Expr} {t : TA} (C : Callable X.prog X.w X.K X.mg X.base j x ps sp) (hr : Room k X.A) (hg : Gl X x) (ha : PA X (e :: es) t) (hj : j ≤ k := by decide)
    (hdb : (x == ("__debug__" : Str)) = false := by decide) (he : starEach (e :: es) X.env = (false, eval e X.env) :: starEach es X.env := by rfl) (hpl : (backTo pos (starEach es X.env)).any (·.1) = false := by rfl) :
    PE X (.Call (.Name x p) (e :: es) [] pos) (tCall sp [] E0 t) := by
  obtain ⟨f, fd, F, m, kp, b⟩ := C.ex
  exact pe_call F (hr.mono hj) hg m kp b .nil pass0 ha hdb he hpl
/-- the built-ins that the texts call: none of the module's own -/
structure Blt (mg : Str → Option Value) : Prop where
  all : mg "all" = none
  any : mg "any" = none
  dict : mg "dict" = none
  enumerate : mg "enumerate" = none
  int : mg "int" = none
  isinstance : mg "isinstance" = none
  len : mg "len" = none
  list : mg "list" = none
  max : mg "max" = none
  min : mg "min" = none
  range : mg "range" = none
  repr : mg "repr" = none
  sorted : mg "sorted" = none
  tuple : mg "tuple" = none
  zip : mg "zip" = none
  str : mg "str" = none
  bool : mg "bool" = none
abbrev topS (i : Nat) : Stmt := PySem.Challenge.pw_waitedmeets_k58_whole_greater_numbers_pa.main.body.getD i (.Pass ⟨0, 0, 0, 0⟩)
end Wm
/-! Comprehensions that make a list told item by item; walks. -/
namespace Wm
open PySem PySem.Spec PyProof.Rows L2
section
variable {J : It} {n : Nat} {G : Hp → Prop} {Y : Nat → Hp → V → Hp → Prop}
/-- behind a turn -/
def LcPost (H1 : Hp) (D : Addr) (ys : List V) (i : Nat) : VK := fun y H4 => ∃ acc, H4 D = some (.lst acc) ∧ acc.length < sizeLine ∧ Same H1 (upd H4 D (.lst (acc ++ [y]))) ∧ upd H4 D (.lst (acc ++ [y])) D = some (.lst (ys.take (i + 1)))
theorem same_over {H1 H : Hp} {D : Addr} {o : HO} (nD : H1 D = none) (e : Same H1 H) : Same H1 (upd H D o) := fun b x q => by
  rw [upd_ne (ne_of_none q nD)]
  exact e b x q
theorem lc_post {H1 H H4 : Hp} {D : Addr} {ys : List V} {i : Nat} {y : V} (nD : H1 D = none) (hi : i < 4096) (e : Same H1 H) (hD : H D = some (.lst (ys.take i))) (s : Same H H4) (hy : ys[i]? = some y) : LcPost H1 D ys i y H4 := by
  refine ⟨ys.take i, s _ _ hD, ?_, same_over nD (e.trans s), ?_⟩
  · have e : sizeLine = 16777216 := sizeLine_eq
    rw [List.length_take]
    omega
  · rw [upd_same, List.take_add_one, hy]
    rfl
/-- [e for x in ..] without a test: the new list is ys -/
theorem lc_map (w : Walk J n G Y) {g : TG} {te : TE} {vs : List Nat} {σ : L2.St} {H1 : Hp} {D : Addr} {Qd : Hp → Prop} (ys : List V) (hn : ys.length = n) (nD : H1 D = none) (hG : ∀ H, Same H1 H → G H)
    (hs : ∀ i x H H', i < n → Same H1 H → H D = some (.lst (ys.take i)) → Y i H x H' → g x (wipe σ vs) H' fun σ2 H2 => wipe σ2 vs = wipe σ vs ∧ te σ2 H2 (LcPost H1 D ys i))
    (hd : ∀ H, Same H1 H → H D = some (.lst ys) → Qd H) :
    ∃ W : Nat → Nat → Hp → Prop, (∃ m, W 0 m (upd H1 D (.lst []))) ∧ ∀ i m H, W i m H →
      (J.stop i H ∧ Qd H) ∨ (J.go i H ∧ ∃ Nx : Hp → Prop, (∀ H', Nx H' → ∃ m', m' < m ∧ W (i + 1) m' H') ∧ ∀ x H', J.yld i H x H' → g x (wipe σ vs) H' fun σ2 H2 => wipe σ2 vs = wipe σ vs ∧ tYes σ2 H2 fun b H3 =>
        if b = true then te σ2 H3 fun y H4 => ∃ acc, H4 D = some (.lst acc) ∧ acc.length < sizeLine ∧ Nx (upd H4 D (.lst (acc ++ [y]))) else Nx H3) := by
  refine ⟨fun i m H => m = n - i ∧ i ≤ n ∧ Same H1 H ∧ H D = some (.lst (ys.take i)), ⟨n, rfl, Nat.zero_le _, same_over nD (Same.refl _), upd_same⟩, ?_⟩
  rintro i m H ⟨rfl, hi, p1, p2⟩
  have q := hG H p1
  by_cases hlt : i < n
  · exact .inr ⟨w.goes i H hlt q, fun H => Same H1 H ∧ H D = some (.lst (ys.take (i + 1))), fun H' p' => ⟨n - (i + 1), by omega, rfl, hlt, p'⟩, fun x H' y => hs i x H H' hlt p1 p2 (w.yields i H x H' hlt q y)⟩
  · have e : i = n := by omega
    subst e
    refine .inl ⟨w.stops H q, hd H p1 ?_⟩
    rw [List.take_of_length_le (Nat.le_of_eq hn)] at p2
    exact p2
end
section
variable {K : PySem.W.Frag} {a b : Addr} {xs ys : List V}
theorem walk_enumT : Walk (ItE K a) xs.length (fun H => SqT K H a xs) (YPair (fun i => some (.int (i : Nat))) (fun i => xs[i]?)) := by
  refine ⟨fun i _ hi q => ⟨xs, xs[i], q, by simp [hi]⟩, fun _ q => ⟨xs, q, rfl⟩, fun i H v H' _ q y => ?_⟩
  obtain ⟨T, x, h1, h2, h3, h4⟩ := y
  exact ⟨T, .int (i : Nat), x, h1, h2, h3, rfl, h4 xs q⟩
theorem walk_zipS (hl : xs.length = ys.length) : Walk (ItS K a b) xs.length (fun H => SqT K H a xs ∧ SqT K H b ys) (YPair (fun i => xs[i]?) (fun i => ys[i]?)) := by
  refine ⟨fun i _ hi q => ⟨xs, ys, xs[i], ys[i]'(by omega), q.1, q.2, by simp [hi], by simp [show i < ys.length by omega]⟩, fun _ q => ⟨xs, ys, q.1, q.2, Nat.le_refl _, by omega⟩, fun i H v H' _ q y => ?_⟩
  obtain ⟨T, x, z, h1, h2, h3, h4, h5⟩ := y
  exact ⟨T, x, z, h1, h2, h3, h4 _ q.1, h5 _ q.2⟩
end
theorem all_rep (n : Nat) : (List.replicate n true).all id = true := by simp
theorem rep_at {n i : Nat} (h : i < n) : ((List.replicate n true).map V.bl)[i]? = some (.bl true) := by simp [h]
theorem rep_len (n : Nat) : ((List.replicate n true).map V.bl).length = n := by simp
end Wm
namespace Wm
open PySem PySem.Spec PyProof.Rows L2
section
variable {P : Program} {w : World} {K : PySem.W.Frag} {mg : Str → Option Value} {base : Heap}

/-- isinstance(slot i, T), T a built-in type -/
abbrev tIsi (K : PySem.W.Frag) (i : Nat) (T : String) : TE := tCB (rIsi K) (tCons (tVar i) (tCons (tC (.ty T)) tNil))
theorem pe_isi {X : Cx} {x n : Str} (T : String) (i : Nat) {p q r pos : Pos} (B : Blt X.mg) (hT : X.mg n = none) (hv : bootBuiltins n = some (.type T)) (hN : X.N[i]? = some x := by rfl) (hvis : Vis X.env.scope x := by first | exact Or.inl rfl | exact Or.inr (Or.inl rfl) | exact Or.inr (Or.inr rfl))
    (g1 : Gl X "isinstance" := by rfl) (g2 : Gl X n := by rfl) (hd : (x == ("__debug__" : Str)) = false := by decide) (hcd : (x == ("__classdict__" : Str)) = false := by decide)
    (hn : n ≠ "__name__" := by decide) (hdb : (n == ("__debug__" : Str)) = false := by decide) :
    PE X (.Call (.Name "isinstance" p) [.Name x q, .Name n r] [] pos) (tIsi X.K i T) :=
  pe_callB call_isi g1 B.isinstance (by decide +kernel) (pa_cons (pe_var hN hvis hd hcd) (pa_cons (pe_bltn g2 hT hv (v := .ty T) rfl hn hdb) pa_nil))

theorem kb_ii : kitB "int" "int" = some true := by decide +kernel
theorem kb_ib : kitB "int" "bool" = some false := by decide +kernel
theorem kb_bb : kitB "bool" "bool" = some true := by decide +kernel
theorem kb_ss : kitB "str" "str" = some true := by decide +kernel
theorem kb_tt : kitB "tuple" "tuple" = some true := by decide +kernel
theorem kb_ll : kitB "list" "list" = some true := by decide +kernel
theorem kb_ts : kitB "tuple" "str" = some false := by decide +kernel
theorem kb_st : kitB "str" "tuple" = some false := by decide +kernel
/-- the reading of isinstance(e, T) -/
theorem rd_isi {K : PySem.W.Frag} {T t : String} {b : Bool} {x : V} {H : Hp} {Q : VK} (ty : TyX K H x (.type t)) (h : kitB t T = some b) (q : Q (.bl b) H) : rIsi K [x, .ty T] H Q := ⟨x, .ty T, _, _, b, rfl, .ty T, ty, kit_ty h, q⟩

/-! ### is_whole -/
def spWhole : Sp := fun vs H Q _ => ∃ i : Int, vs = [.int i] ∧ Q (.bl true) H
theorem scWhole : FnScope ["thing"] ["thing"] (defScope (topS 11)) := ⟨rfl, rfl, rfl, by decide +kernel, rfl, by decide +kernel, by decide +kernel⟩
theorem c_whole (D : DefAt K mg "is_whole" (topS 11) ["thing"]) (B : Blt mg) : Callable P w K mg base 1 "is_whole" ["thing"] spWhole := by
  refine .of D fun f fd F => F.ok scWhole (fun vs H Q E h => ?_) (fun cdv A outer s H vs Q E hr h => ?_)
  · obtain ⟨i, rfl, _⟩ := h
    rfl
  · obtain ⟨i, rfl, q⟩ := h
    refine ⟨_, pss_one (ps_ret (pe_and (pe_isi "int" 0 B B.int (by decide +kernel)) (pe_one (pe_not (pe_isi "bool" 0 B B.bool (by decide +kernel)))))), ?_⟩
    refine ⟨.int i, rfl, .int i, .ty "int", _, _, true, rfl, .ty "int", .base (.int i), kit_ty kb_ii, true, rfl, iteT ?_⟩
    exact ⟨.int i, rfl, .int i, .ty "bool", _, _, false, rfl, .ty "bool", .base (.int i), kit_ty kb_ib, false, rfl, q⟩

theorem pe_gint {X : Cx} {x : Str} {i : Int} {t : Tok} {pos : Pos} (hg : Gl X x) (hm : X.mg x = some (.int i t)) (hd : (x == ("__debug__" : Str)) = false := by decide) : PE X (.Name x pos) (tC (.int i)) := pe_glob hg hm ⟨t, rfl⟩ hd
theorem pe_gstr {X : Cx} {x : Str} {z : Str} {t : Tok} {pos : Pos} (hg : Gl X x) (hm : X.mg x = some (.str z t)) (hd : (x == ("__debug__" : Str)) = false := by decide) : PE X (.Name x pos) (tC (.str z)) := pe_glob hg hm ⟨t, rfl⟩ hd
/-! ### is_from -/
def spFrom : Sp := fun vs H Q _ => ∃ i a b : Int, vs = [.int i, .int a, .int b] ∧ a ≤ i ∧ i ≤ b ∧ Q (.bl true) H
theorem scFrom : FnScope ["thing", "low", "high"] ["thing", "low", "high"] (defScope (topS 12)) := ⟨rfl, rfl, rfl, by decide +kernel, rfl, by decide +kernel, by decide +kernel⟩
theorem iteD {c A B : Prop} [Decidable c] (hc : c) (h : A) : if (decide c) = true then A else B := by
  rw [decide_eq_true hc]
  exact iteT h
theorem c_from (D : DefAt K mg "is_from" (topS 12) ["thing", "low", "high"]) (C : Callable P w K mg base 1 "is_whole" ["thing"] spWhole) : Callable P w K mg base 2 "is_from" ["thing", "low", "high"] spFrom := by
  refine .of D fun f fd F => F.ok scFrom (fun vs H Q E h => ?_) (fun cdv A outer s H vs Q E hr h => ?_)
  · obtain ⟨i, a, b, rfl, _⟩ := h
    rfl
  · obtain ⟨i, a, b, rfl, h1, h2, q⟩ := h
    refine ⟨_, pss_one (ps_ret (pe_and (pe_k C hr (by rfl) (pa_cons (pv 0) pa_nil)) (pe_one (pe_chain op_le op_le (pv 1) (pv 0) (pv 2))))), ?_⟩
    refine ⟨.int i, rfl, i, rfl, true, rfl, iteT ?_⟩
    refine ⟨.int a, rfl, .int i, rfl, a, i, rfl, rfl, _, rfl, iteD h1 ?_⟩
    refine ⟨.int b, rfl, i, b, rfl, rfl, ?_⟩
    show Q (.bl (decide (i ≤ b))) H
    rw [decide_eq_true h2]
    exact q

/-! ### is_word -/
structure Cst (mg : Str → Option Value) : Prop where
  letters : ∃ t, mg "MOST_LETTERS" = some (.int 6 t)
  signs : ∃ t, mg "SIGNS" = some (.str signs t)
  most : ∃ t, mg "MOST" = some (.int 1000000000 t)
  kinds : ∃ t, mg "MOST_KINDS" = some (.int 6 t)
  main : ∃ t, mg "MOST_MAIN" = some (.int 16 t)
  places : ∃ t, mg "MOST_PLACES" = some (.int 6 t)
  many : ∃ t, mg "MOST_MANY" = some (.int 3 t)
  rules : ∃ t, mg "MOST_RULES" = some (.int 8 t)
  heads : ∃ t, mg "MOST_HEADS" = some (.int 4 t)
  deeds : ∃ t, mg "MOST_DEEDS" = some (.int 12 t)
  within : ∃ t, mg "MOST_WITHIN" = some (.int 3 t)
def spWord : Sp := fun vs H Q _ => ∃ z : Str, vs = [.str z] ∧ WordOk z ∧ ∀ H', Same H H' → Q (.bl true) H'
theorem scWord : FnScope ["thing", "sign"] ["thing"] (defScope (topS 13)) := ⟨rfl, rfl, rfl, by decide +kernel, rfl, by decide +kernel, by decide +kernel⟩
theorem c_word (D : DefAt K mg "is_word" (topS 13) ["thing"]) (B : Blt mg) (S : Cst mg) : Callable P w K mg base 1 "is_word" ["thing"] spWord := by
  refine .of D fun f fd F => F.ok scWord (fun vs H Q E h => ?_) (fun cdv A outer s H vs Q E hr h => ?_)
  · obtain ⟨z, rfl, _⟩ := h
    rfl
  · obtain ⟨z, rfl, ok, q⟩ := h
    obtain ⟨t6, g6⟩ := S.letters
    obtain ⟨ts, gs⟩ := S.signs
    refine ⟨_, pss_one (ps_ret (pe_and (pe_isi "str" 0 B B.str (by decide +kernel)) (pe_and (pe_chain op_le op_le pe_int (pe_callB call_len (by rfl) B.len PySem.boot_len (pa_cons (pv 0) pa_nil)) (pe_gint (by rfl) g6))
      (pe_one (pe_callB (cr_all rfl) (by rfl) B.all (by decide +kernel) (pa_cons (pe_lc (own := [("sign", 1)]) (g := gName 1) rfl scWord.nd (pi_str (pv 0)) (blkOk_by (N := ["thing", "sign"]) (sc := defScope (topS 13)) (by decide +kernel))
        (fun _ _ _ _ _ => pg_name (i := 1) scWord.nd rfl (Or.inl rfl)) (fun _ _ _ _ _ => pts_nil) (fun _ _ _ _ _ => pe_cmpR op_in_sign (pv 1) (pe_gstr (by rfl) gs) rfl)) pa_nil)))))), ?_⟩
    refine ⟨.str z, rfl, .str z, .ty "str", _, _, true, rfl, .ty "str", .base (.str z), kit_ty kb_ss, true, rfl, iteT ?_⟩
    have hz6 := ok.hi
    have hz1 := ok.lo
    refine ⟨.str z, rfl, .str z, _, rfl, ⟨by rw [sizeLine_eq]; omega, rfl⟩, 1, _, rfl, rfl, _, rfl, iteD (by omega) ?_⟩
    refine ⟨_, _, rfl, rfl, _, rfl, iteD (by omega) ?_⟩
    refine ⟨.str z, rfl, z, rfl, fun L nL => lc_map walk_str ((List.replicate z.cps.size true).map V.bl) (rep_len _) nL (fun _ _ => True.intro) (fun i x H1 H' hi e hD y => ?_) (fun H1 e hL => ?_)⟩
    · obtain ⟨rfl, c, hc, rfl⟩ := y
      refine ⟨rfl, .str ⟨#[c]⟩, rfl, c, signs, rfl, rfl, ?_⟩
      have hm : c ∈ signs.cps.toList := ok.sg c (Array.mem_toList_iff.mpr (Array.mem_of_getElem? hc))
      rw [decide_eq_true hm]
      have hlen : z.cps.size ≤ 6 := hz6
      exact lc_post nL (by omega) e hD (Same.refl _) (rep_at hi)
    · refine ⟨L, _, rfl, .inl (.inl hL), ?_⟩
      rw [all_rep]
      exact q H1 e

/-! ### is_written -/
def spWritten : Sp := fun vs H Q _ => ∃ x : V, vs = [x] ∧ NoteOk x ∧ Q (.bl true) H
theorem scWritten : FnScope ["thing"] ["thing"] (defScope (topS 14)) := ⟨rfl, rfl, rfl, by decide +kernel, rfl, by decide +kernel, by decide +kernel⟩
theorem note_cases {x : V} (h : NoteOk x) : x = .bl true ∨ ∃ i : Int, x = .int i ∧ -1000000000 ≤ i ∧ i ≤ 1000000000 := by
  rcases h with h | h | h | h | h <;> subst h
  · exact .inr ⟨1, rfl, by decide, by decide⟩
  · exact .inr ⟨2, rfl, by decide, by decide⟩
  · exact .inl rfl
  · exact .inr ⟨-3, rfl, by decide, by decide⟩
  · exact .inr ⟨5, rfl, by decide, by decide⟩
theorem c_written (D : DefAt K mg "is_written" (topS 14) ["thing"]) (B : Blt mg) (S : Cst mg) (C : Callable P w K mg base 2 "is_from" ["thing", "low", "high"] spFrom) : Callable P w K mg base 3 "is_written" ["thing"] spWritten := by
  refine .of D fun f fd F => F.ok scWritten (fun vs H Q E h => ?_) (fun cdv A outer s H vs Q E hr h => ?_)
  · obtain ⟨z, rfl, _⟩ := h
    rfl
  · obtain ⟨x, rfl, ok, q⟩ := h
    obtain ⟨t6, g6⟩ := S.most
    refine ⟨_, pss_one (ps_ret (pe_or (pe_isi "bool" 0 B B.bool (by decide +kernel)) (pe_one (pe_k C hr (by rfl) (pa_cons (pv 0) (pa_cons (pe_un un_neg (pe_gint (by rfl) g6)) (pa_cons (pe_gint (by rfl) g6) pa_nil))))))), ?_⟩
    rcases note_cases ok with h | ⟨i, h, h1, h2⟩ <;> subst h
    · exact ⟨.bl true, rfl, .bl true, .ty "bool", _, _, true, rfl, .ty "bool", .base (.bl true), kit_ty kb_bb, true, rfl, iteT q⟩
    · refine ⟨.int i, rfl, .int i, .ty "bool", _, _, false, rfl, .ty "bool", .base (.int i), kit_ty kb_ib, false, rfl, iteF ?_⟩
      exact ⟨.int i, rfl, 1000000000, rfl, i, -1000000000, 1000000000, rfl, h1, h2, q⟩

/-! ### is_tuple_of -/
def spTupOf : Sp := fun vs H Q _ => ∃ (a : Addr) (xs : List V) (lo hi : Int), vs = [.ref a, .int lo, .int hi] ∧ TupA H a xs ∧ Q (.bl (decide (lo ≤ xs.length ∧ (xs.length : Int) ≤ hi))) H
theorem scTupOf : FnScope ["thing", "low", "high"] ["thing", "low", "high"] (defScope (topS 15)) := ⟨rfl, rfl, rfl, by decide +kernel, rfl, by decide +kernel, by decide +kernel⟩
theorem c_tupOf (D : DefAt K mg "is_tuple_of" (topS 15) ["thing", "low", "high"]) (B : Blt mg) : Callable P w K mg base 1 "is_tuple_of" ["thing", "low", "high"] spTupOf := by
  refine .of D fun f fd F => F.ok scTupOf (fun vs H Q E h => ?_) (fun cdv A outer s H vs Q E hr h => ?_)
  · obtain ⟨a, xs, lo, hi, rfl, _⟩ := h
    rfl
  · obtain ⟨a, xs, lo, hi, rfl, hT, q⟩ := h
    refine ⟨_, pss_one (ps_ret (pe_and (pe_isi "tuple" 0 B B.tuple (by decide +kernel)) (pe_one (pe_chain op_le op_le (pv 1) (pe_callB call_len (by rfl) B.len PySem.boot_len (pa_cons (pv 0) pa_nil)) (pv 2))))), ?_⟩
    refine ⟨.ref a, rfl, .ref a, .ty "tuple", _, _, true, rfl, .ty "tuple", hT.ty, kit_ty kb_tt, true, rfl, iteT ?_⟩
    refine ⟨.int lo, rfl, .ref a, rfl, .ref a, _, rfl, .inr ⟨xs, hT.seq, rfl⟩, lo, _, rfl, rfl, _, rfl, ?_⟩
    by_cases h1 : lo ≤ xs.length
    · refine iteD h1 ⟨.int hi, rfl, _, _, rfl, rfl, ?_⟩
      have e : decide ((xs.length : Int) ≤ hi) = decide (lo ≤ (xs.length : Int) ∧ (xs.length : Int) ≤ hi) := by
        rw [decide_eq_decide]
        exact ⟨fun z => ⟨h1, z⟩, fun z => z.2⟩
      show Q (.bl (decide ((xs.length : Int) ≤ hi))) H
      rw [e]
      exact q
    · rw [decide_eq_false h1]
      refine iteF ?_
      have e : decide (lo ≤ (xs.length : Int) ∧ (xs.length : Int) ≤ hi) = false := decide_eq_false fun z => h1 z.1
      rw [e] at q
      exact q
/-! ### begins -/
def spBegins : Sp := fun vs H Q _ => ∃ (a : Addr) (z : Str) (x : V) (m : Int) (y : Str), vs = [.ref a, .int m, .str y] ∧ H a = some (.tup [.str z, x]) ∧ Q (.bl (decide (m = 2 ∧ z = y))) H
theorem scBegins : FnScope ["thing", "many", "word"] ["thing", "many", "word"] (defScope (topS 16)) := ⟨rfl, rfl, rfl, by decide +kernel, rfl, by decide +kernel, by decide +kernel⟩
theorem c_begins (D : DefAt K mg "begins" (topS 16) ["thing", "many", "word"]) (B : Blt mg) (C : Callable P w K mg base 1 "is_tuple_of" ["thing", "low", "high"] spTupOf) : Callable P w K mg base 2 "begins" ["thing", "many", "word"] spBegins := by
  refine .of D fun f fd F => F.ok scBegins (fun vs H Q E h => ?_) (fun cdv A outer s H vs Q E hr h => ?_)
  · obtain ⟨a, z, x, m, y, rfl, _⟩ := h
    rfl
  · obtain ⟨a, z, x, m, y, rfl, hT, q⟩ := h
    refine ⟨_, pss_one (ps_ret (pe_and (pe_k C hr (by rfl) (pa_cons (pv 0) (pa_cons (pv 1) (pa_cons (pv 1) pa_nil))))
      (pe_and (pe_callB call_isi (by rfl) B.isinstance (by decide +kernel) (pa_cons (pe_ix ix_tup (pv 0) pe_int (fun _ _ => rfl)) (pa_cons (pe_bltn (by rfl) B.str (by decide +kernel) (v := .ty "str") (u := .type "str") rfl) pa_nil)))
        (pe_one (pe_cmpR op_eq (pe_ix ix_tup (pv 0) pe_int (fun _ _ => rfl)) (pv 2) (nomark _)))))), ?_⟩
    refine ⟨.ref a, rfl, .int m, rfl, .int m, rfl, a, _, m, m, rfl, .inl hT, _, rfl, ?_⟩
    have e1 : decide (m ≤ (([V.str z, x] : List V).length : Int) ∧ (([V.str z, x] : List V).length : Int) ≤ m) = decide (m = 2) := by
      rw [decide_eq_decide]
      show (m ≤ 2 ∧ 2 ≤ m) ↔ m = 2
      omega
    rw [e1]
    by_cases hm : m = 2
    · refine iteD hm ?_
      refine ⟨.ref a, rfl, a, _, 0, .str z, rfl, rfl, .of hT, rfl, .str z, .ty "str", _, _, true, rfl, .ty "str", .base (.str z), kit_ty kb_ss, true, rfl, iteT ?_⟩
      refine ⟨.ref a, rfl, a, _, 0, .str z, rfl, rfl, .of hT, rfl, .str y, rfl, rfl, ?_⟩
      have e2 : decide (V.str z = V.str y) = decide (m = 2 ∧ z = y) := by
        rw [decide_eq_decide]
        exact ⟨fun e => ⟨hm, V.str.inj e⟩, fun e => by rw [e.2]⟩
      rw [e2]
      exact q
    · rw [decide_eq_false hm]
      refine iteF ?_
      rw [decide_eq_false (fun e => hm e.1)] at q
      exact q
end
end Wm
namespace Wm
open PySem PySem.Spec PyProof.Rows L2
section
variable {P : Program} {w : World} {K : PySem.W.Frag} {mg : Str → Option Value} {base : Heap}

theorem ref_at {as : List Addr} {i : Nat} {x : V} (h : (as.map V.ref)[i]? = some x) : ∃ b, x = .ref b ∧ as[i]? = some b := by
  rw [List.getElem?_map] at h
  cases e : as[i]? with
  | none => rw [e] at h; cases h
  | some b =>
    rw [e] at h
    exact ⟨b, (Option.some.inj h).symm, rfl⟩
theorem str_at {l : List Str} {i : Nat} {x : V} (h : (l.map V.str)[i]? = some x) : ∃ b, x = .str b ∧ l[i]? = some b := by
  rw [List.getElem?_map] at h
  cases e : l[i]? with
  | none => rw [e] at h; cases h
  | some b =>
    rw [e] at h
    exact ⟨b, (Option.some.inj h).symm, rfl⟩
theorem cut_to (xs : List V) (i : Nat) : cutV xs none (some (i : Int)) = xs.take i := by
  unfold cutV
  rw [HT.sIx_none, HT.sIx_nat, List.drop_zero, Nat.sub_zero]
  by_cases h : i ≤ xs.length
  · rw [Nat.min_eq_left h]
  · rw [Nat.min_eq_right (by omega), List.take_length, List.take_of_length_le (by omega)]
theorem flat_strs (l : List Str) : (l.map V.str).all flatV = true := by
  rw [List.all_eq_true]
  intro x hx
  obtain ⟨z, _, rfl⟩ := List.mem_map.mp hx
  rfl
theorem in_strs {z : Str} : ∀ {l : List Str}, inV (.str z) (l.map V.str) = decide (z ∈ l)
  | [] => rfl
  | a :: l => by
    have ih := in_strs (z := z) (l := l)
    unfold inV at ih ⊢
    rw [List.map_cons, List.any_cons, ih]
    show ((a == z) || decide (z ∈ l)) = decide (z ∈ a :: l)
    by_cases e : a = z
    · subst e
      simp
    · have h1 : (a == z) = false := beq_eq_false_iff_ne.mpr e
      rw [h1, Bool.false_or, decide_eq_decide]
      constructor
      · exact fun h => List.mem_cons_of_mem _ h
      · intro h
        rcases List.mem_cons.mp h with q | q
        · exact absurd q.symm e
        · exact q

/-! ### are_unlike -/
def spUnlike : Sp := fun vs H Q _ => ∃ (a : Addr) (l : List Str), vs = [.ref a] ∧ H a = some (.lst (l.map V.str)) ∧ l.Nodup ∧ l.length ≤ 1000 ∧ ∀ H', Same H H' → Q (.bl true) H'
theorem scUnlike : FnScope ["some", "at", "one"] ["some"] (defScope (topS 27)) := ⟨rfl, rfl, rfl, by decide +kernel, rfl, by decide +kernel, by decide +kernel⟩
theorem nodup_at {l : List Str} {i : Nat} {z : Str} (nd : l.Nodup) (h : l[i]? = some z) : z ∉ l.take i := fun m => by
  obtain ⟨j, hj, e⟩ := List.getElem_of_mem m
  have h1 : j < i := by
    have := hj
    rw [List.length_take] at this
    omega
  rw [List.getElem_take] at e
  have hl : j < l.length := by
    have := hj
    rw [List.length_take] at this
    omega
  have e2 : l[j]? = some z := by rw [List.getElem?_eq_getElem hl, e]
  have := nodup_ix nd h e2
  omega
theorem c_unlike (D : DefAt K mg "are_unlike" (topS 27) ["some"]) (B : Blt mg) : Callable P w K mg base 1 "are_unlike" ["some"] spUnlike := by
  refine .of D fun f fd F => F.ok scUnlike (fun vs H Q E h => ?_) (fun cdv A outer s H vs Q E hr h => ?_)
  · obtain ⟨a, l, rfl, _⟩ := h
    rfl
  · obtain ⟨a, l, rfl, hA, nd, hl, q⟩ := h
    refine ⟨_, pss_one (ps_ret (pe_callB (cr_all rfl) (by rfl) B.all (by decide +kernel) (pa_cons (pe_lc (own := [("at", 1), ("one", 2)]) (g := gTup K 2 (gCons (gName 1) (gCons (gName 2) gNil))) rfl scUnlike.nd (pi_enum (by rfl) B.enumerate (pa_cons (pv 0) pa_nil)) (blkOk_by (N := ["some", "at", "one"]) (sc := defScope (topS 27)) (by decide +kernel))
      (fun _ _ _ _ _ => pg_tup rfl (pgs_cons (pg_name (i := 1) scUnlike.nd rfl (Or.inl rfl)) (pgs_cons (pg_name (i := 2) scUnlike.nd rfl (Or.inl rfl)) pgs_nil))) (fun _ _ _ _ _ => pts_nil)
      (fun _ _ _ _ _ => pe_cmpR (r := rIn K true) op_notIn_seq (pv 2) (pe_slice (r := rSlL K) sl_list (pv 0) po_none (po_some (pv 1))) (by rfl))) pa_nil))), ?_⟩
    refine ⟨.ref a, rfl, a, l.map V.str, rfl, .of hA, fun L nL => lc_map walk_enum ((List.replicate l.length true).map V.bl) (by rw [rep_len, List.length_map]) nL (fun H1 e => .of (e _ _ hA)) (fun i x H1 H2 hi e hD y => ?_) (fun H1 e hL => ?_)⟩
    · rw [List.length_map] at hi
      obtain ⟨T, x1, x2, rfl, nT, rfl, e1, e2⟩ := y
      cases e1
      obtain ⟨z, rfl, hz⟩ := str_at e2
      have s1 : Same H1 (upd H1 T (.tup [.int (i : Nat), .str z])) := same_new nT
      refine ⟨T, _, rfl, .of upd_same, rfl, _, _, rfl, _, _, rfl, rfl, rfl, ?_⟩
      refine ⟨.str z, rfl, .ref a, rfl, .int (i : Nat), rfl, _, rfl, a, _, rfl, .of (s1 _ _ (e _ _ hA)), fun p np => ?_⟩
      refine ⟨p, _, rfl, .inl (.of upd_same), rfl, ?_, ?_⟩
      · rw [cut_to, ← List.map_take]
        exact flat_strs _
      · rw [cut_to, ← List.map_take, in_strs, decide_eq_false (nodup_at nd hz)]
        exact lc_post nL (by omega) e hD (s1.trans (same_new np)) (rep_at hi)
    · refine ⟨L, _, rfl, .of hL, ?_⟩
      rw [all_rep]
      exact q H1 e

/-! ### is_named_place -/
def spNamed : Sp := fun vs H Q _ => ∃ (b : Addr) (p : Str), vs = [.ref b] ∧ PlaceAt H p b ∧ WordOk p ∧ ∀ H', Same H H' → Q (.bl true) H'
theorem scNamed : FnScope ["thing"] ["thing"] (defScope (topS 28)) := ⟨rfl, rfl, rfl, by decide +kernel, rfl, by decide +kernel, by decide +kernel⟩
theorem c_named (D : DefAt K mg "is_named_place" (topS 28) ["thing"]) (S : Cst mg) (C1 : Callable P w K mg base 1 "is_tuple_of" ["thing", "low", "high"] spTupOf) (C2 : Callable P w K mg base 1 "is_word" ["thing"] spWord)
    (C3 : Callable P w K mg base 2 "is_from" ["thing", "low", "high"] spFrom) : Callable P w K mg base 3 "is_named_place" ["thing"] spNamed := by
  refine .of D fun f fd F => F.ok scNamed (fun vs H Q E h => ?_) (fun cdv A outer s H vs Q E hr h => ?_)
  · obtain ⟨a, l, rfl, _⟩ := h
    rfl
  · obtain ⟨b, p, rfl, hP, ok, q⟩ := h
    obtain ⟨t3, g3⟩ := S.many
    refine ⟨_, pss_one (ps_ret (pe_and (pe_k C1 hr (by rfl) (pa_cons (pv 0) (pa_cons pe_int (pa_cons pe_int pa_nil)))) (pe_and (pe_k C2 hr (by rfl) (pa_cons (pe_ix ix_tup (pv 0) pe_int (fun _ _ => rfl)) pa_nil))
      (pe_one (pe_k C3 hr (by rfl) (pa_cons (pe_ix ix_tup (pv 0) pe_int (fun _ _ => rfl)) (pa_cons pe_int (pa_cons (pe_gint (by rfl) g3) pa_nil)))))))), ?_⟩
    refine ⟨.ref b, rfl, b, _, 2, 2, rfl, .inl hP, _, rfl, iteD (by show (2 : Int) ≤ 2 ∧ (2 : Int) ≤ 2; decide) ?_⟩
    refine ⟨.ref b, rfl, b, _, 0, .str p, rfl, rfl, .of hP, rfl, p, rfl, ok, fun H1 e => ⟨true, rfl, iteT ?_⟩⟩
    exact ⟨.ref b, rfl, b, _, 1, .int 0, rfl, rfl, .of (e _ _ hP), rfl, 0, 0, 3, rfl, by decide, by decide, q H1 e⟩

/-! ### is_kind -/
def spKind : Sp := fun vs H Q _ => ∃ (a : Addr) (t : Tel), vs = [.ref a] ∧ TelAt H t a ∧ TelOk t ∧ ∀ H', Same H H' → Q (.bl true) H'
theorem scKind : FnScope ["thing", "one", "word", "many"] ["thing"] (defScope (topS 29)) := ⟨rfl, rfl, rfl, by decide +kernel, rfl, by decide +kernel, by decide +kernel⟩
theorem c_kind (D : DefAt K mg "is_kind" (topS 29) ["thing"]) (B : Blt mg) (S : Cst mg) (C1 : Callable P w K mg base 1 "is_tuple_of" ["thing", "low", "high"] spTupOf) (C2 : Callable P w K mg base 1 "is_word" ["thing"] spWord)
    (C3 : Callable P w K mg base 3 "is_named_place" ["thing"] spNamed) (C4 : Callable P w K mg base 1 "are_unlike" ["some"] spUnlike) : Callable P w K mg base 4 "is_kind" ["thing"] spKind := by
  refine .of D fun f fd F => F.ok scKind (fun vs H Q E h => ?_) (fun cdv A outer s H vs Q E hr h => ?_)
  · obtain ⟨a, l, rfl, _⟩ := h
    rfl
  · obtain ⟨a, t, rfl, hT, ok, q⟩ := h
    obtain ⟨t6, g6⟩ := S.places
    obtain ⟨t8, g8⟩ := S.rules
    refine ⟨_, pss_cons (ps_if (PW.pt (pw_or (pt_not (pt_val (pe_k C1 hr (by rfl) (pa_cons (pv 0) (pa_cons pe_int (pa_cons pe_int pa_nil)))))) (pw_or (pt_not (pt_val (pe_k C2 hr (by rfl) (pa_cons (pe_ix ix_tup (pv 0) pe_int (fun _ _ => rfl)) pa_nil))))
      (pw_or1 (pt_not (pt_val (pe_k C1 hr (by rfl) (pa_cons (pe_ix ix_tup (pv 0) pe_int (fun _ _ => rfl)) (pa_cons pe_int (pa_cons (pe_gint (by rfl) g6) pa_nil)))))))))) (pss_one (ps_ret pe_bl)) pss_nil)
      (pss_cons (ps_if (PW.pt (pw_or (pt_not (pt_val (pe_callB (cr_all rfl) (by rfl) B.all (by decide +kernel) (pa_cons (pe_lc (own := [("one", 1)]) (g := gName 1) rfl scKind.nd (pi_tup (pe_ix ix_tup (pv 0) pe_int (fun _ _ => rfl))) (blkOk_by (N := ["thing", "one", "word", "many"]) (sc := defScope (topS 29)) (by decide +kernel))
          (fun _ _ _ _ _ => pg_name (i := 1) scKind.nd rfl (Or.inl rfl)) (fun _ _ _ _ _ => pts_nil) (fun _ _ _ _ _ => pe_k C3 hr (by rfl) (pa_cons (pv 1) pa_nil))) pa_nil))))
        (pw_or1 (pt_not (pt_val (pe_k C4 hr (by rfl) (pa_cons (pe_lc (own := [("word", 2), ("many", 3)]) (g := gTup K 2 (gCons (gName 2) (gCons (gName 3) gNil))) rfl scKind.nd (pi_tup (pe_ix ix_tup (pv 0) pe_int (fun _ _ => rfl))) (blkOk_by (N := ["thing", "one", "word", "many"]) (sc := defScope (topS 29)) (by decide +kernel))
          (fun _ _ _ _ _ => pg_tup rfl (pgs_cons (pg_name (i := 2) scKind.nd rfl (Or.inl rfl)) (pgs_cons (pg_name (i := 3) scKind.nd rfl (Or.inl rfl)) pgs_nil))) (fun _ _ _ _ _ => pts_nil) (fun _ _ _ _ _ => pv 2)) pa_nil))))))) (pss_one (ps_ret pe_bl)) pss_nil)
      (pss_one (ps_ret (pe_k C1 hr (by rfl) (pa_cons (pe_ix ix_tup (pv 0) pe_int (fun _ _ => rfl)) (pa_cons pe_int (pa_cons (pe_gint (by rfl) g8) pa_nil))))))), ?_⟩
    obtain ⟨pa, ra, hA, ⟨as, hF, hP⟩, ⟨rs, hRA, hR⟩⟩ := id hT
    have hlen : as.length = t.places.length := (pair_len hP).symm
    have l1 := ok.lo
    have l3 := ok.hi
    refine ⟨.ref a, rfl, a, _, 3, 3, rfl, .inl hA, _, rfl, iteNS (by show (3 : Int) ≤ 3 ∧ (3 : Int) ≤ 3; decide) ?_⟩
    refine ⟨.ref a, rfl, a, _, 0, .str t.name, rfl, rfl, .of hA, rfl, t.name, rfl, ok.name, fun H1 e1 => ⟨true, rfl, iteF ?_⟩⟩
    refine ⟨.ref a, rfl, a, _, 1, .ref pa, rfl, rfl, .of (e1 _ _ hA), rfl, pa, _, 1, 6, rfl, .inr (hF.same e1), _, rfl, iteNS (by rw [List.length_map]; omega) ?_⟩
    -- all named places
    refine ⟨.ref a, rfl, a, _, 1, .ref pa, rfl, rfl, .of (e1 _ _ hA), rfl, pa, rfl, ⟨_, (hF.same e1).seq⟩, fun L nL => lc_map (walk_tup (xs := as.map V.ref)) ((List.replicate as.length true).map V.bl) (by rw [rep_len, List.length_map]) nL (fun H2 e => ((hF.same e1).same e).seq) (fun i x H2 H3 hi e hD y => ?_) (fun H2 e2 hL => ?_)⟩
    · rw [List.length_map] at hi
      obtain ⟨rfl, hx⟩ := y
      obtain ⟨b, rfl, hb⟩ := ref_at hx
      obtain ⟨p, hp, hpb⟩ := pair_at hP hb
      refine ⟨rfl, .ref b, rfl, b, p, rfl, e _ _ (e1 _ _ hpb), ok.words p (List.mem_of_getElem? hp), fun H4 e4 => ?_⟩
      exact lc_post nL (by omega) e hD e4 (rep_at hi)
    · refine ⟨L, _, rfl, .of hL, true, ?_, iteF ?_⟩
      · rw [all_rep]
      have e12 : Same H H2 := e1.trans e2
      -- are_unlike
      refine ⟨.ref a, rfl, a, _, 1, .ref pa, rfl, rfl, .of (e12 _ _ hA), rfl, pa, rfl, ⟨_, (hF.same e12).seq⟩, fun M nM => lc_map (walk_tup (xs := as.map V.ref)) (t.places.map V.str) (by rw [List.length_map, List.length_map]; exact hlen.symm) nM (fun H3 e => ((hF.same e12).same e).seq) (fun i x H3 H4 hi e hD y => ?_) (fun H3 e3 hM => ?_)⟩
      · rw [List.length_map] at hi
        obtain ⟨rfl, hx⟩ := y
        obtain ⟨b, rfl, hb⟩ := ref_at hx
        obtain ⟨p, hp, hpb⟩ := pair_at hP hb
        refine ⟨b, _, rfl, .of (e _ _ (e12 _ _ hpb)), rfl, _, _, rfl, _, _, rfl, rfl, rfl, .str p, rfl, ?_⟩
        exact lc_post nM (by omega) e hD (Same.refl _) (by rw [List.getElem?_map, hp]; rfl)
      · refine ⟨M, t.places, rfl, hM, ok.nd, by omega, fun H4 e4 => ⟨true, rfl, iteF ?_⟩⟩
        have e14 : Same H H4 := e12.trans (e3.trans e4)
        have hlr : rs.length = t.rules.length := (pair_len hR).symm
        have few := ok.few
        refine ⟨.ref a, rfl, a, _, 2, .ref ra, rfl, rfl, .of (e14 _ _ hA), rfl, ra, _, 0, 8, rfl, .inl (e14 _ _ hRA), ?_⟩
        have e5 : decide ((0 : Int) ≤ ((rs.map V.ref).length : Int) ∧ ((rs.map V.ref).length : Int) ≤ 8) = true := decide_eq_true (by rw [List.length_map]; omega)
        show Q (.bl (decide ((0 : Int) ≤ ((rs.map V.ref).length : Int) ∧ ((rs.map V.ref).length : Int) ≤ 8))) H4
        rw [e5]
        exact q H4 e14
end
end Wm
namespace Wm
open PySem PySem.Spec PyProof.Rows L2
section
variable {P : Program} {w : World} {K : PySem.W.Frag} {mg : Str → Option Value} {base : Heap}

/-- the empty list made by a comprehension that keeps nothing, and what stood before -/
def LcNone (H1 : Hp) (D : Addr) : Hp → Prop := fun H => Same H1 H ∧ H D = some (.lst [])
/-! ### Scope -/
def spScope : Sp := fun vs H Q _ => ∃ (p C dx : Addr) (a b c : V), vs = [.ref p, a, b, c] ∧ H p = some (.ins C dx []) ∧ ∀ H', (∀ q o, H q = some o → q ≠ p → H' q = some o) → Q .non H'
structure ScopeC (P : Program) (w : World) (K : PySem.W.Frag) (mg : Str → Option Value) (base : Heap) : Prop where
  ex : ∃ C f fd, Mk K C f ∧ Fun K "__init__" "Scope.__init__" (inClass (topS 26) 0) f fd ∧ Binds K fd ["self", "kinds", "places", "heads"] [] ∧ Cls K C ∧ NoAttr K C "kinds_known" ∧ NoAttr K C "places_known" ∧ NoAttr K C "heads_known" ∧ mg "Scope" = some (.ref C)
theorem scScope : FnScope ["self", "kinds", "places", "heads"] ["self", "kinds", "places", "heads"] (defScope (inClass (topS 26) 0)) := ⟨rfl, rfl, rfl, by decide +kernel, rfl, by decide +kernel, by decide +kernel⟩
theorem ok_scope {f C : Addr} {fd : FuncData} (F : Fun K "__init__" "Scope.__init__" (inClass (topS 26) 0) f fd) (cl : Cls K C) (n1 : NoAttr K C "kinds_known") (n2 : NoAttr K C "places_known") (n3 : NoAttr K C "heads_known") :
    FnOk P w K mg base CX0 1 f fd ["self", "kinds", "places", "heads"] (fun vs H Q E => (∃ (p dx : Addr) (a b c : V), vs = [.ref p, a, b, c] ∧ H p = some (.ins C dx []) ∧ ∀ H', (∀ q o, H q = some o → q ≠ p → H' q = some o) → Q .non H')) := by
  refine F.ok scScope (fun vs H Q E h => ?_) (fun cdv A outer s H vs Q E hr h => ?_)
  · obtain ⟨p, dx, a, b, c, rfl, _⟩ := h
    rfl
  · obtain ⟨p, dx, a, b, c, rfl, hp, q⟩ := h
    refine ⟨_, pss_cons (ps_fld (pv 0) (pv 1) rfl) (pss_cons (ps_fld (pv 0) (pv 2) rfl) (pss_one (ps_fld (pv 0) (pv 3) rfl))), ?_⟩
    refine ⟨a, rfl, .ref p, rfl, p, C, dx, [], rfl, hp, cl, n1, (by show 0 < 1000; decide), b, rfl, .ref p, rfl, p, C, dx, _, rfl, upd_same, cl, n2, (by show 1 < 1000; decide), c, rfl, .ref p, rfl, p, C, dx, _, rfl, upd_same, cl, n3, (by show 2 < 1000; decide), ?_⟩
    refine q _ fun x o e hx => ?_
    rw [upd_ne hx, upd_ne hx, upd_ne hx]
    exact e

/-! ### is_head -/
def spHead : Sp := fun vs H Q _ => ∃ (d b : Addr) (kvs : List (Key × V)) (p : Str), vs = [.ref d, .ref b] ∧ H d = some (.dK kvs) ∧ HeadAt H p b ∧ WordOk p ∧ valV kvs (Sum.inr p) = some (.int 0) ∧ ∀ H', Same H H' → Q (.bl true) H'
theorem scHead : FnScope ["places", "thing", "many", "slot"] ["places", "thing"] (defScope (topS 31)) := ⟨rfl, rfl, rfl, by decide +kernel, rfl, by decide +kernel, by decide +kernel⟩
theorem c_head (D : DefAt K mg "is_head" (topS 31) ["places", "thing"]) (B : Blt mg) (C1 : Callable P w K mg base 1 "is_tuple_of" ["thing", "low", "high"] spTupOf) (C2 : Callable P w K mg base 1 "is_word" ["thing"] spWord) : Callable P w K mg base 2 "is_head" ["places", "thing"] spHead := by
  refine .of D fun f fd F => F.ok scHead (fun vs H Q E h => ?_) (fun cdv A outer s H vs Q E hr h => ?_)
  · obtain ⟨d, b, kvs, p, rfl, _⟩ := h
    rfl
  · obtain ⟨d, b, kvs, p, rfl, hD, ⟨e, hb, he⟩, ok, hv, q⟩ := h
    have hu := hu_of hr
    refine ⟨_, pss_cons (ps_if (PW.pt (pw_or (pt_not (pt_val (pe_k C1 hr (by rfl) (pa_cons (pv 1) (pa_cons pe_int (pa_cons pe_int pa_nil)))))) (pw_or (pt_not (pt_val (pe_k C2 hr (by rfl) (pa_cons (pe_ix ix_tup (pv 1) pe_int (fun _ _ => rfl)) pa_nil))))
        (pw_or1 (pt_cmp (pc_dnotin hu (pe_ix ix_tup (pv 1) pe_int (fun _ _ => rfl)) (pv 0))))))) (pss_one (ps_ret pe_bl)) pss_nil)
      (pss_cons (ps_set (i := 2) scHead.nd rfl (Or.inl rfl) (pe_dget hu (pv 0) (pe_ix ix_tup (pv 1) pe_int (fun _ _ => rfl)) (fun _ _ => rfl)))
      (pss_one (ps_ret (pe_and (pe_k C1 hr (by rfl) (pa_cons (pe_ix ix_tup (pv 1) pe_int (fun _ _ => rfl)) (pa_cons (pv 2) (pa_cons (pv 2) pa_nil))))
        (pe_one (pe_callB (cr_all rfl) (by rfl) B.all (by decide +kernel) (pa_cons (pe_lc (own := [("slot", 3)]) (g := gName 3) rfl scHead.nd (pi_tup (pe_ix ix_tup (pv 1) pe_int (fun _ _ => rfl))) (blkOk_by (N := ["places", "thing", "many", "slot"]) (sc := defScope (topS 31)) (by decide +kernel))
          (fun _ _ _ _ _ => pg_name (i := 3) scHead.nd rfl (Or.inl rfl)) (fun _ _ _ _ _ => pts_nil) (fun _ _ _ _ _ => pe_never)) pa_nil))))))), ?_⟩
    have dg : ∀ {H' : Hp}, Same H H' → DGet H' d (.str p) (some (.int 0)) := fun e' => by
      have z := DGet.k (k := Sum.inr p) (e' _ _ hD)
      rw [hv] at z
      exact z
    refine ⟨.ref b, rfl, b, _, 2, 2, rfl, .inl hb, _, rfl, iteNS (by show (2 : Int) ≤ 2 ∧ (2 : Int) ≤ 2; decide) ?_⟩
    refine ⟨.ref b, rfl, b, _, 0, .str p, rfl, rfl, .of hb, rfl, p, rfl, ok, fun H1 e1 => ⟨true, rfl, iteF ?_⟩⟩
    refine ⟨.ref b, rfl, b, _, 0, .str p, rfl, rfl, .of (e1 _ _ hb), rfl, .ref d, rfl, d, _, rfl, dg e1, _, rfl, iteF ?_⟩
    refine ⟨.ref d, rfl, .ref b, rfl, b, _, 0, .str p, rfl, rfl, .of (e1 _ _ hb), rfl, d, .int 0, rfl, dg e1, ?_⟩
    refine ⟨.ref b, rfl, b, _, 1, .ref e, rfl, rfl, .of (e1 _ _ hb), rfl, .int 0, rfl, .int 0, rfl, e, [], 0, 0, rfl, .inl (e1 _ _ he), true, rfl, iteT ?_⟩
    refine ⟨.ref b, rfl, b, _, 1, .ref e, rfl, rfl, .of (e1 _ _ hb), rfl, e, rfl, ⟨_, .of (e1 _ _ he)⟩, fun L nL => lc_map (walk_tup (xs := [])) [] rfl nL (fun H2 e2 => .of (e2 _ _ (e1 _ _ he))) (fun i x H2 H3 hi _ _ _ => absurd hi (Nat.not_lt_zero _)) (fun H2 e2 hL => ?_)⟩
    exact ⟨L, [], rfl, .of hL, q H2 (e1.trans e2)⟩

/-! ### names_in -/
def spNamesIn : Sp := fun vs H Q _ => ∃ (a : Addr) (hs : List Str), vs = [.ref a] ∧ HeadsAt H hs a ∧ ∀ H' l, Same H H' → H' l = some (.lst []) → Q (.ref l) H'
theorem scNamesIn : FnScope ["heads", "place", "slots", "slot"] ["heads"] (defScope (topS 32)) := ⟨rfl, rfl, rfl, by decide +kernel, rfl, by decide +kernel, by decide +kernel⟩
theorem c_namesIn (D : DefAt K mg "names_in" (topS 32) ["heads"]) : Callable P w K mg base 1 "names_in" ["heads"] spNamesIn := by
  refine .of D fun f fd F => F.ok scNamesIn (fun vs H Q E h => ?_) (fun cdv A outer s H vs Q E hr h => ?_)
  · obtain ⟨a, hs, rfl, _⟩ := h
    rfl
  · obtain ⟨a, hs, rfl, ⟨as, hA, hP⟩, q⟩ := h
    refine ⟨_, pss_one (ps_ret (pe_lc2 (own := [("place", 1), ("slots", 2), ("slot", 3)]) (vs1 := [3]) (g := gTup K 2 (gCons (gName 1) (gCons (gName 2) gNil))) (g1 := gNo) (tt1 := cNo) (wi1 := iTup K (tVar 2)) rfl scNamesIn.nd (pi_tup (pv 0)) (blkOk_by (N := ["heads", "place", "slots", "slot"]) (sc := defScope (topS 32)) (by decide +kernel)) (by decide)
      (fun _ _ _ _ _ => pg_tup rfl (pgs_cons (pg_name (i := 1) scNamesIn.nd rfl (Or.inl rfl)) (pgs_cons (pg_name (i := 2) scNamesIn.nd rfl (Or.inl rfl)) pgs_nil))) (fun _ _ _ _ _ => pts_nil) (fun _ _ _ _ _ => pi_tup (pv 2)) (fun _ _ _ _ _ => pg_never) (fun _ _ _ _ _ => pts_never) (fun _ _ _ _ _ => pe_never))), ?_⟩
    have wt : Walk (Itt K a) (as.map V.ref).length (fun H => SqT K H a (as.map V.ref)) (YAt (as.map V.ref)) := walk_tup
    refine ⟨.ref a, rfl, a, rfl, ⟨_, .of hA⟩, fun L nL => ⟨fun i m H2 => m = (as.map V.ref).length - i ∧ i ≤ (as.map V.ref).length ∧ LcNone H L H2, ⟨(as.map V.ref).length, by simp, Nat.zero_le _, same_over nL (Same.refl _), upd_same⟩, ?_⟩⟩
    rintro i m H2 ⟨rfl, hi, p⟩
    have hS : SqT K H2 a (as.map V.ref) := .of (p.1 _ _ hA)
    by_cases hlt : i < (as.map V.ref).length
    · refine .inr ⟨wt.goes i H2 hlt hS, LcNone H L, fun H' p' => ⟨(as.map V.ref).length - (i + 1), by omega, rfl, hlt, p'⟩, fun x H' y => ?_⟩
      obtain ⟨rfl, hx⟩ := wt.yields i H2 x H' hlt hS y
      obtain ⟨b, rfl, hb⟩ := ref_at hx
      obtain ⟨z, _, e, hzb, hze⟩ := pair_at hP hb
      refine ⟨b, _, rfl, .of (p.1 _ _ hzb), rfl, _, _, rfl, _, _, rfl, rfl, rfl, ?_⟩
      refine ⟨.ref e, rfl, e, rfl, ⟨[], .of (p.1 _ _ hze)⟩, fun j k H3 => j = 0 ∧ LcNone H L H3, ⟨0, rfl, p⟩, ?_⟩
      rintro j k H3 ⟨rfl, p3⟩
      exact .inl ⟨(walk_tup (K := K) (a := e) (xs := [])).stops H3 (.of (p3.1 _ _ hze)), p3⟩
    · have ei : i = (as.map V.ref).length := by omega
      subst ei
      exact .inl ⟨wt.stops H2 hS, q H2 L p.1 p.2⟩

/-! ### are_heads -/
def spHeads : Sp := fun vs H Q _ => ∃ (d a : Addr) (kvs : List (Key × V)) (hs : List Str), vs = [.ref d, .ref a] ∧ H d = some (.dK kvs) ∧ HeadsAt H hs a ∧ 1 ≤ hs.length ∧ hs.length ≤ 3 ∧ hs.Nodup ∧ (∀ p ∈ hs, WordOk p ∧ valV kvs (Sum.inr p) = some (.int 0)) ∧ ∀ H', Same H H' → Q (.bl true) H'
theorem scHeads : FnScope ["places", "thing", "head", "place", "slots"] ["places", "thing"] (defScope (topS 33)) := ⟨rfl, rfl, rfl, by decide +kernel, rfl, by decide +kernel, by decide +kernel⟩
theorem c_heads (D : DefAt K mg "are_heads" (topS 33) ["places", "thing"]) (B : Blt mg) (S : Cst mg) (C1 : Callable P w K mg base 1 "is_tuple_of" ["thing", "low", "high"] spTupOf) (C2 : Callable P w K mg base 2 "is_head" ["places", "thing"] spHead)
    (C3 : Callable P w K mg base 1 "are_unlike" ["some"] spUnlike) (C4 : Callable P w K mg base 1 "names_in" ["heads"] spNamesIn) : Callable P w K mg base 3 "are_heads" ["places", "thing"] spHeads := by
  refine .of D fun f fd F => F.ok scHeads (fun vs H Q E h => ?_) (fun cdv A outer s H vs Q E hr h => ?_)
  · obtain ⟨d, b, kvs, p, rfl, _⟩ := h
    rfl
  · obtain ⟨d, a, kvs, hs, rfl, hD, ⟨as, hA, hP⟩, lo, hi, nd, ok, q⟩ := h
    obtain ⟨t4, g4⟩ := S.heads
    refine ⟨_, pss_cons (ps_if (PW.pt (pw_or (pt_not (pt_val (pe_k C1 hr (by rfl) (pa_cons (pv 1) (pa_cons pe_int (pa_cons (pe_gint (by rfl) g4) pa_nil)))))) (pw_or1 (pt_not (pt_val (pe_callB (cr_all rfl) (by rfl) B.all (by decide +kernel)
        (pa_cons (pe_lc (own := [("head", 2)]) (g := gName 2) rfl scHeads.nd (pi_tup (pv 1)) (blkOk_by (N := ["places", "thing", "head", "place", "slots"]) (sc := defScope (topS 33)) (by decide +kernel))
          (fun _ _ _ _ _ => pg_name (i := 2) scHeads.nd rfl (Or.inl rfl)) (fun _ _ _ _ _ => pts_nil) (fun _ _ _ _ _ => pe_k C2 hr (by rfl) (pa_cons (pv 0) (pa_cons (pv 2) pa_nil)))) pa_nil))))))) (pss_one (ps_ret pe_bl)) pss_nil)
      (pss_one (ps_ret (pe_and (pe_k C3 hr (by rfl) (pa_cons (pe_lc (own := [("place", 3), ("slots", 4)]) (g := gTup K 2 (gCons (gName 3) (gCons (gName 4) gNil))) rfl scHeads.nd (pi_tup (pv 1)) (blkOk_by (N := ["places", "thing", "head", "place", "slots"]) (sc := defScope (topS 33)) (by decide +kernel))
          (fun _ _ _ _ _ => pg_tup rfl (pgs_cons (pg_name (i := 3) scHeads.nd rfl (Or.inl rfl)) (pgs_cons (pg_name (i := 4) scHeads.nd rfl (Or.inl rfl)) pgs_nil))) (fun _ _ _ _ _ => pts_nil) (fun _ _ _ _ _ => pv 3)) pa_nil))
        (pe_one (pe_k C3 hr (by rfl) (pa_cons (pe_k C4 hr (by rfl) (pa_cons (pv 1) pa_nil)) pa_nil)))))), ?_⟩
    have hlen : as.length = hs.length := (pair_len hP).symm
    refine ⟨.ref a, rfl, a, _, 1, 4, rfl, .inl hA, _, rfl, iteNS (by rw [List.length_map]; omega) ?_⟩
    refine ⟨.ref a, rfl, a, rfl, ⟨_, .of hA⟩, fun L nL => lc_map (walk_tup (xs := as.map V.ref)) ((List.replicate as.length true).map V.bl) (by rw [rep_len, List.length_map]) nL (fun H1 e => .of (e _ _ hA)) (fun i x H1 H2 hi e hL y => ?_) (fun H1 e1 hL => ?_)⟩
    · rw [List.length_map] at hi
      obtain ⟨rfl, hx⟩ := y
      obtain ⟨b, rfl, hb⟩ := ref_at hx
      obtain ⟨p, hp, hpb⟩ := pair_at hP hb
      have hm := ok p (List.mem_of_getElem? hp)
      refine ⟨rfl, .ref d, rfl, .ref b, rfl, d, b, kvs, p, rfl, e _ _ hD, hpb.same e, hm.1, hm.2, fun H4 e4 => ?_⟩
      exact lc_post nL (by omega) e hL e4 (rep_at hi)
    · refine ⟨L, _, rfl, .of hL, true, ?_, iteF ?_⟩
      · rw [all_rep]
      refine ⟨.ref a, rfl, a, rfl, ⟨_, .of (e1 _ _ hA)⟩, fun M nM => lc_map (walk_tup (xs := as.map V.ref)) (hs.map V.str) (by rw [List.length_map, List.length_map]; exact hlen.symm) nM (fun H2 e => .of (e _ _ (e1 _ _ hA))) (fun i x H2 H3 hi e hM y => ?_) (fun H2 e2 hM => ?_)⟩
      · rw [List.length_map] at hi
        obtain ⟨rfl, hx⟩ := y
        obtain ⟨b, rfl, hb⟩ := ref_at hx
        obtain ⟨p, hp, e3, hpb, hpe⟩ := pair_at hP hb
        refine ⟨b, _, rfl, .of (e _ _ (e1 _ _ hpb)), rfl, _, _, rfl, _, _, rfl, rfl, rfl, .str p, rfl, ?_⟩
        exact lc_post nM (by omega) e hM (Same.refl _) (by rw [List.getElem?_map, hp]; rfl)
      · refine ⟨M, hs, rfl, hM, nd, by omega, fun H3 e3 => ⟨true, rfl, iteT ?_⟩⟩
        have e13 : Same H H3 := e1.trans (e2.trans e3)
        refine ⟨.ref a, rfl, a, hs, rfl, ⟨as, e13 _ _ hA, pair_mono hP fun _ _ z => z.same e13⟩, fun H4 l e4 hl => ?_⟩
        exact ⟨l, [], rfl, hl, List.nodup_nil, by decide, fun H5 e5 => q H5 (e13.trans (e4.trans e5))⟩
end
end Wm
namespace Wm
open PySem PySem.Spec PyProof.Rows L2
section
variable {P : Program} {w : World} {K : PySem.W.Frag} {mg : Str → Option Value} {base : Heap}

/-! ### is_operand -/
def spOperand : Sp := fun vs H Q _ => ∃ (sc x : V) (c : Addr), vs = [sc, .ref c] ∧ H c = some (.tup [.str "is", x]) ∧ NoteOk x ∧ Q (.bl true) H
theorem scOperand : FnScope ["scope", "thing"] ["scope", "thing"] (defScope (topS 34)) := ⟨rfl, rfl, rfl, by decide +kernel, rfl, by decide +kernel, by decide +kernel⟩
theorem c_operand (D : DefAt K mg "is_operand" (topS 34) ["scope", "thing"]) (C1 : Callable P w K mg base 2 "begins" ["thing", "many", "word"] spBegins) (C2 : Callable P w K mg base 3 "is_written" ["thing"] spWritten) : Callable P w K mg base 4 "is_operand" ["scope", "thing"] spOperand := by
  refine .of D fun f fd F => F.ok scOperand (fun vs H Q E h => ?_) (fun cdv A outer s H vs Q E hr h => ?_)
  · obtain ⟨sc, x, c, rfl, _⟩ := h
    rfl
  · obtain ⟨sc, x, c, rfl, hc, ok, q⟩ := h
    refine ⟨_, pss_cons (ps_if (pt_val (pe_k C1 hr (by rfl) (pa_cons (pv 1) (pa_cons pe_int (pa_cons pe_str pa_nil))))) pss_never pss_nil)
      (pss_cons (ps_if (pt_val (pe_k C1 hr (by rfl) (pa_cons (pv 1) (pa_cons pe_int (pa_cons pe_str pa_nil))))) pss_never pss_nil)
      (pss_one (ps_ret (pe_and (pe_k C1 hr (by rfl) (pa_cons (pv 1) (pa_cons pe_int (pa_cons pe_str pa_nil)))) (pe_one (pe_k C2 hr (by rfl) (pa_cons (pe_ix ix_tup (pv 1) pe_int (fun _ _ => rfl)) pa_nil))))))), ?_⟩
    refine ⟨.ref c, rfl, c, "is", x, 2, "of", rfl, hc, false, rfl, iteF ?_⟩
    refine ⟨.ref c, rfl, c, "is", x, 1, "own", rfl, hc, false, rfl, iteF ?_⟩
    refine ⟨.ref c, rfl, c, "is", x, 2, "is", rfl, hc, true, rfl, iteT ?_⟩
    exact ⟨.ref c, rfl, c, _, 1, x, rfl, rfl, .of hc, rfl, x, rfl, ok, q⟩

/-! ### is_deed -/
structure SizOk (K : PySem.W.Frag) (w : World) (mg : Str → Option Value) : Prop where
  ex : ∃ ko t, mg "SIZES" = some (.ref ko) ∧ KD K w ko ∧ PySem.W.nsIn K ko "note" = some (some (.int 2 t))
def spDeed : Sp := fun vs H Q _ => ∃ (sc x n : V) (b : Addr), vs = [sc, .ref b, n] ∧ DeedAt H x b ∧ NoteOk x ∧ ∀ H', Same H H' → Q (.bl true) H'
theorem scDeed : FnScope ["scope", "thing", "behind"] ["scope", "thing", "behind"] (defScope (topS 38)) := ⟨rfl, rfl, rfl, by decide +kernel, rfl, by decide +kernel, by decide +kernel⟩
theorem note_dp {H : Hp} {x : V} (h : NoteOk x) : ∃ d, Dp K H x d ∧ SeqAt.shaped d = true := by
  rcases note_cases h with h | ⟨i, h, _, _⟩ <;> subst h
  · exact ⟨_, .bl true, rfl⟩
  · exact ⟨_, .int i, rfl⟩
theorem c_deed (D : DefAt K mg "is_deed" (topS 38) ["scope", "thing", "behind"]) (B : Blt mg) (Z : SizOk K w mg) (C1 : Callable P w K mg base 4 "is_operand" ["scope", "thing"] spOperand) : Callable P w K mg base 5 "is_deed" ["scope", "thing", "behind"] spDeed := by
  refine .of D fun f fd F => F.ok scDeed (fun vs H Q E h => ?_) (fun cdv A outer s H vs Q E hr h => ?_)
  · obtain ⟨sc, x, n, b, rfl, _⟩ := h
    rfl
  · obtain ⟨sc, x, n, b, rfl, ⟨c, hb, hc⟩, ok, q⟩ := h
    obtain ⟨ko, tz, gz, kd, hz⟩ := Z.ex
    obtain ⟨dx, hdx, sdx⟩ := note_dp (K := K) (H := H) ok
    have hu := hr.units
    refine ⟨_, pss_cons (ps_if (PW.pt (pw_or (pt_not (pt_val (pe_isi "tuple" 1 B B.tuple (by decide +kernel)))) (pw_or (pt_cmpR (op_eqD hu) (pv 1) (pe_tup pa_nil) (nomark _))
        (pw_or1 (pt_not (pt_val (pe_callB call_isi (by rfl) B.isinstance (by decide +kernel) (pa_cons (pe_ix ix_tup (pv 1) pe_int (fun _ _ => rfl)) (pa_cons (pe_bltn (by rfl) B.str (by decide +kernel) (v := .ty "str") (u := .type "str") rfl) pa_nil))))))))) pss_never pss_nil)
      (pss_cons (ps_if (pt_cmpR op_ne (pe_kget (by rfl) gz kd (pe_ix ix_tup (pv 1) pe_int (fun _ _ => rfl)) ⟨rfl, rfl, rfl, rfl⟩) (pe_callB call_len (by rfl) B.len PySem.boot_len (pa_cons (pv 1) pa_nil)) (nomark _)) pss_never pss_nil)
      (pss_cons (ps_if (pt_cmpR op_in_seq (pe_ix ix_tup (pv 1) pe_int (fun _ _ => rfl)) (pe_tup (pa_cons pe_str (pa_cons pe_str pa_nil))) (by rfl)) pss_never pss_nil)
      (pss_cons (ps_if (pt_cmpR op_eq (pe_ix ix_tup (pv 1) pe_int (fun _ _ => rfl)) pe_str (nomark _)) (pss_one (ps_ret (pe_k C1 hr (by rfl) (pa_cons (pv 0) (pa_cons (pe_ix ix_tup (pv 1) pe_int (fun _ _ => rfl)) pa_nil))))) pss_nil) pss_never))), ?_⟩
    refine ⟨.ref b, rfl, .ref b, .ty "tuple", _, _, true, rfl, .ty "tuple", .base (.tup hb), kit_ty kb_tt, true, rfl, iteF ?_⟩
    refine ⟨.ref b, rfl, (by show 0 ≤ sizeLine; decide), fun u nu => ?_⟩
    have e1 : Same H (upd H u (.tup [])) := same_new nu
    obtain ⟨dx1, hdx1, sdx1⟩ := note_dp (K := K) (H := upd H u (.tup [])) ok
    refine ⟨.tuple [.str "note", .tuple [.str "is", dx1]], .tuple [], .tup (.of (e1 _ _ hb)) (.cons (.str _) (.cons (.tup (.of (e1 _ _ hc)) (.cons (.str _) (.cons hdx1 .nil))) .nil)), .tup (.of upd_same) .nil, ?_, rfl, false, rfl, iteF ?_⟩
    · rcases note_cases ok with h | ⟨i, h, _, _⟩ <;> subst h <;> cases hdx1 <;> simp [SeqAt.shaped, PyData.canLay0, PyData.depth, PyData.canLayAll0, PyData.depthAll] <;> exact ⟨by decide +kernel, by decide +kernel⟩
    refine ⟨.ref b, rfl, b, _, 0, .str "note", rfl, rfl, .of (e1 _ _ hb), rfl, .str "note", .ty "str", _, _, true, rfl, .ty "str", .base (.str "note"), kit_ty kb_ss, true, rfl, iteF ?_⟩
    refine ⟨.ref b, rfl, b, _, 0, .str "note", rfl, rfl, .of (e1 _ _ hb), rfl, "note", .int 2, _, rfl, hz, ⟨tz, rfl⟩, .ref b, rfl, .ref b, _, rfl, .inr ⟨_, .of (e1 _ _ hb), rfl⟩, rfl, false, rfl, iteF ?_⟩
    refine ⟨.ref b, rfl, b, _, 0, .str "note", rfl, rfl, .of (e1 _ _ hb), rfl, (by show 2 ≤ sizeLine; decide), fun p np => ?_⟩
    have e2 := e1.trans (same_new (o := .tup [.str "put", .str "answer"]) np)
    refine ⟨p, _, rfl, .inr (.of upd_same), rfl, rfl, false, rfl, iteF ?_⟩
    refine ⟨.ref b, rfl, b, _, 0, .str "note", rfl, rfl, .of (e2 _ _ hb), rfl, rfl, true, rfl, iteT ?_⟩
    exact ⟨sc, rfl, .ref b, rfl, b, _, 1, .ref c, rfl, rfl, .of (e2 _ _ hb), rfl, sc, x, c, rfl, e2 _ _ hc, ok, q _ e2⟩

/-! ### wrong_deed -/
def spWrong : Sp := fun vs H Q _ => ∃ (sc : V) (a : Addr) (ns : List V), vs = [sc, .ref a] ∧ DeedsAt H ns a ∧ (∀ x ∈ ns, NoteOk x) ∧ ns.length ≤ 12 ∧ ∀ H', Same H H' → Q .non H'
theorem scWrong : FnScope ["scope", "deeds", "wrong", "at", "deed"] ["scope", "deeds"] (defScope (topS 39)) := ⟨rfl, rfl, rfl, by decide +kernel, rfl, by decide +kernel, by decide +kernel⟩
theorem c_wrong (D : DefAt K mg "wrong_deed" (topS 39) ["scope", "deeds"]) (B : Blt mg) (C1 : Callable P w K mg base 5 "is_deed" ["scope", "thing", "behind"] spDeed) : Callable P w K mg base 6 "wrong_deed" ["scope", "deeds"] spWrong := by
  refine .of D fun f fd F => F.ok scWrong (fun vs H Q E h => ?_) (fun cdv A outer s H vs Q E hr h => ?_)
  · obtain ⟨sc, a, ns, rfl, _⟩ := h
    rfl
  · obtain ⟨sc, a, ns, rfl, ⟨as, hA, hP⟩, ok, hl, q⟩ := h
    have hu := hr.units
    refine ⟨_, pss_cons (ps_setLc (i := 2) (own := [("at", 3), ("deed", 4)]) (g := gTup K 2 (gCons (gName 3) (gCons (gName 4) gNil))) rfl scWrong.nd rfl rfl (sw_true rfl rfl rfl (by decide +kernel)) (pi_enumT (by rfl) B.enumerate (pa_cons (pv 1) pa_nil)) (blkOk_by (N := ["scope", "deeds", "wrong", "at", "deed"]) (sc := defScope (topS 39)) (by decide +kernel))
        (fun _ _ _ _ _ => pg_tup rfl (pgs_cons (pg_name (i := 3) scWrong.nd rfl (Or.inl rfl)) (pgs_cons (pg_name (i := 4) scWrong.nd rfl (Or.inl rfl)) pgs_nil)))
        (fun _ _ _ _ _ => pts_one (pt_not (pt_val (pe_k C1 hr (by rfl) (pa_cons (pv 0) (pa_cons (pv 4) (pa_cons (pe_op op_sub (pe_op op_sub (pe_callB (r := fun xs H Q => ∃ x n, xs = [x] ∧ LenV K x H n ∧ Q (.int n) H) call_len (by rfl) B.len PySem.boot_len (pa_cons (pv 1) pa_nil)) (pv 3)) pe_int) pa_nil))))))) (fun _ _ _ _ _ => pe_never))
      (pss_one (ps_ret (pe_ifExp (pt_cmpR (op_neD hu) (pv 2) (pe_lst pa_nil) (nomark _)) pe_never pe_non))), ?_⟩
    have hlen : as.length = ns.length := (pair_len hP).symm
    refine ⟨.ref a, rfl, a, as.map V.ref, rfl, .of hA, fun L nL => lc_it walk_enumT (fun _ H2 => LcNone H L H2) ⟨same_over nL (Same.refl _), upd_same⟩ (fun i H2 _ p => .of (p.1 _ _ hA)) (fun i x H1 H2 hi p y => ?_) (fun H1 p => ?_)⟩
    · obtain ⟨T, x1, x2, rfl, nT, rfl, e1, e2⟩ := y
      cases e1
      obtain ⟨b, rfl, hb⟩ := ref_at e2
      obtain ⟨z, hz, hzb⟩ := pair_at hP hb
      have s1 : Same H1 (upd H1 T (.tup [.int (i : Nat), .ref b])) := same_new nT
      have s2 := p.1.trans s1
      refine ⟨T, _, rfl, .of upd_same, rfl, _, _, rfl, _, _, rfl, rfl, rfl, sc, rfl, .ref b, rfl, .ref a, rfl, .ref a, _, rfl, .inr ⟨_, .of (s2 _ _ hA), rfl⟩, .int (i : Nat), rfl, _, _, rfl, rfl, _, _, rfl, rfl, ?_⟩
      refine ⟨sc, z, _, b, rfl, hzb.same s2, ok z (List.mem_of_getElem? hz), fun H3 e3 => ⟨true, rfl, ?_⟩⟩
      exact ⟨s2.trans e3, (s1.trans e3) _ _ p.2⟩
    · refine ⟨.ref L, rfl, (by show 0 ≤ sizeLine; decide), fun M nM => ?_⟩
      have e1 : Same H1 (upd H1 M (.lst [])) := same_new nM
      refine ⟨.list [], .list [], .lst (.of (e1 _ _ p.2)) .nil, .lst (.of upd_same) .nil, rfl, rfl, false, rfl, iteF ?_⟩
      exact q _ (p.1.trans e1)
end
end Wm
namespace Wm
open PySem PySem.Spec PyProof.Rows L2
section
variable {P : Program} {w : World} {K : PySem.W.Frag} {mg : Str → Option Value} {base : Heap}

/-! ### look_at_kinds -/
def spKinds : Sp := fun vs H Q _ => ∃ (a b : Addr) (t : Tel), vs = [.ref a] ∧ H a = some (.tup [.ref b]) ∧ TelAt H t b ∧ TelOk t ∧ ∀ H', Same H H' → Q .non H'
theorem scKinds : FnScope ["kinds", "number", "kind", "name", "rest"] ["kinds"] (defScope (topS 40)) := ⟨rfl, rfl, rfl, by decide +kernel, rfl, by decide +kernel, by decide +kernel⟩
theorem c_kinds (D : DefAt K mg "look_at_kinds" (topS 40) ["kinds"]) (B : Blt mg) (C1 : Callable P w K mg base 4 "is_kind" ["thing"] spKind) : Callable P w K mg base 5 "look_at_kinds" ["kinds"] spKinds := by
  refine .of D fun f fd F => F.ok scKinds (fun vs H Q E h => ?_) (fun cdv A outer s H vs Q E hr h => ?_)
  · obtain ⟨a, b, t, rfl, _⟩ := h
    rfl
  · obtain ⟨a, b, t, rfl, hA, hT, ok, q⟩ := h
    refine ⟨_, pss_one (ps_for PassesOwn.never rfl (pi_enumT (by rfl) B.enumerate (pa_cons (pv 0) pa_nil)) (pg_tup rfl (pgs_cons (pg_name (i := 1) scKinds.nd rfl (Or.inl rfl)) (pgs_cons (pg_name (i := 2) scKinds.nd rfl (Or.inl rfl)) pgs_nil)))
      (pss_one (ps_if (PW.pt (pw_or (pt_not (pt_val (pe_k C1 hr (by rfl) (pa_cons (pv 2) pa_nil)))) (pw_or1 (pt_cmpR op_in_seq (pe_ix ix_tup (pv 2) pe_int (fun _ _ => rfl))
        (pe_lc (own := [("name", 3), ("rest", 4)]) (g := gNo) (te := eNo) rfl scKinds.nd (pi_tup (pe_slice sl_tup (pv 0) po_none (po_some (pv 1)))) (blkOk_by (N := ["kinds", "number", "kind", "name", "rest"]) (sc := defScope (topS 40)) (by decide +kernel))
          (fun _ _ _ _ _ => pg_never) (fun _ _ _ _ _ => pts_nil) (fun _ _ _ _ _ => pe_never)) (by rfl))))) pss_never pss_nil))), ?_⟩
    refine ⟨.ref a, rfl, a, [.ref b], rfl, .of hA, for_it walk_enumT (fun i σ H2 => ∃ v1 v2 : Option V, σ = [some (.ref a), v1, v2, none, none] ∧ Same H H2) ⟨none, none, rfl, Same.refl _⟩ (fun i σ H2 _ p => let ⟨_, _, _, e⟩ := p; .of (e _ _ hA)) (fun i x σ H1 H2 hi p y => ?_) (fun σ H1 p => ?_)⟩
    · have hi0 : i = 0 := by
        have : i < 1 := hi
        omega
      subst hi0
      obtain ⟨v1, v2, rfl, e0⟩ := p
      obtain ⟨T, x1, x2, rfl, nT, rfl, e1, e2⟩ := y
      cases e1
      cases e2
      have s1 : Same H (upd H1 T (.tup [.int (0 : Nat), .ref b])) := e0.trans (same_new nT)
      refine ⟨T, _, rfl, .of upd_same, rfl, _, _, rfl, _, _, rfl, rfl, .ref b, rfl, b, t, rfl, hT.same s1, ok, fun H3 e3 => ⟨true, rfl, iteF ?_⟩⟩
      have s3 : Same H H3 := s1.trans e3
      obtain ⟨pa, ra, hA1, hP1, hR1⟩ := hT.same s3
      refine ⟨.ref b, rfl, b, _, 0, .str t.name, rfl, rfl, .of hA1, rfl, .ref a, rfl, .int (0 : Nat), rfl, _, rfl, a, [.ref b], rfl, .of (s3 _ _ hA), (by rw [HT.sIx_none, HT.sIx_nat]; simp), fun p np => ?_⟩
      have s4 : Same H3 (upd H3 p (.tup (cutV [V.ref b] none (some ((0 : Nat) : Int))))) := same_new np
      rw [cut_to] at s4 ⊢
      refine ⟨p, rfl, ⟨_, .of upd_same⟩, fun L nL => lc_map (walk_tup (xs := [])) [] rfl nL (fun H4 e4 => .of (e4 _ _ upd_same)) (fun i x H4 H5 hi _ _ _ => absurd hi (Nat.not_lt_zero _)) (fun H4 e4 hL => ?_)⟩
      refine ⟨L, [], rfl, .inl (.of hL), rfl, rfl, false, rfl, iteF ?_⟩
      exact ⟨_, _, rfl, s3.trans (s4.trans e4)⟩
    · obtain ⟨v1, v2, rfl, e0⟩ := p
      exact q H1 e0

/-! ### look_at_rules -/
theorem places_val {ps : List Str} : ∀ {kvs : List (Key × V)}, (∀ p ∈ ps, valV (mergeK kvs (ps.map fun p => ((Sum.inr p : Key), V.int 0))) (Sum.inr p) = some (.int 0)) ∧ (∀ k, valV kvs k = some (.int 0) → valV (mergeK kvs (ps.map fun p => ((Sum.inr p : Key), V.int 0))) k = some (.int 0)) := by
  induction ps with
  | nil => exact fun {kvs} => ⟨fun p hp => (nomatch hp), fun k h => h⟩
  | cons p ps ih =>
    intro kvs
    have hm : mergeK kvs ((p :: ps).map fun p => ((Sum.inr p : Key), V.int 0)) = mergeK (putK kvs (Sum.inr p) (.int 0)) (ps.map fun p => ((Sum.inr p : Key), V.int 0)) := rfl
    rw [hm]
    obtain ⟨i1, i2⟩ := ih (kvs := putK kvs (Sum.inr p) (.int 0))
    constructor
    · intro q hq
      rcases List.mem_cons.mp hq with e | e
      · subst e
        exact i2 _ (by rw [valV_put, if_pos rfl])
      · exact i1 q e
    · intro k hk
      refine i2 k ?_
      rw [valV_put]
      by_cases e : k = Sum.inr p
      · rw [if_pos e]
      · rw [if_neg e]
        exact hk
def spRules : Sp := fun vs H Q _ => ∃ (x n : V) (a : Addr) (t : Tel), vs = [x, n, .ref a] ∧ TelAt H t a ∧ TelOk t ∧ ∀ H', Same H H' → Q .non H'
theorem scRules : FnScope ["names", "number", "kind", "places", "at", "rule", "wrong", "place", "slots"] ["names", "number", "kind"] (defScope (topS 41)) := ⟨rfl, rfl, rfl, by decide +kernel, rfl, by decide +kernel, by decide +kernel⟩
theorem pairs_of {H : Hp} : ∀ {ps : List Str} {as : List Addr}, Paired (PlaceAt H) ps as → Paired (fun (p : Addr) (kv : Key × V) => SqT K H p [kV kv.1, kv.2]) as (ps.map fun p => ((Sum.inr p : Key), V.int 0))
  | _, _, .nil => .nil
  | _, _, .cons r t => .cons (.of r) (pairs_of t)
theorem c_rules (D : DefAt K mg "look_at_rules" (topS 41) ["names", "number", "kind"]) (B : Blt mg) (S : Cst mg) (SC : ScopeC P w K mg base) (C1 : Callable P w K mg base 1 "is_tuple_of" ["thing", "low", "high"] spTupOf) (C2 : Callable P w K mg base 3 "are_heads" ["places", "thing"] spHeads)
    (C3 : Callable P w K mg base 6 "wrong_deed" ["scope", "deeds"] spWrong) : Callable P w K mg base 7 "look_at_rules" ["names", "number", "kind"] spRules := by
  refine .of D fun f fd F => F.ok scRules (fun vs H Q E h => ?_) (fun cdv A outer s H vs Q E hr h => ?_)
  · obtain ⟨x, n, a, t, rfl, _⟩ := h
    rfl
  · obtain ⟨x, n, a, t, rfl, hT, ok, q⟩ := h
    obtain ⟨C, fS, fdS, MS, FS, bS, clS, n1, n2, n3, mS⟩ := SC.ex
    obtain ⟨t12, g12⟩ := S.deeds
    have GS := ok_scope (P := P) (w := w) (mg := mg) (base := base) FS clS n1 n2 n3
    have hr2 : Room 2 _ := hr.mono (by decide)
    refine ⟨_, pss_cons (ps_set (i := 3) scRules.nd rfl (Or.inl rfl) (pe_callTy (call_dictT rfl) (by rfl) B.dict (by decide +kernel) (pa_cons (pe_ix ix_tup (pv 2) pe_int (fun _ _ => rfl)) pa_nil)))
      (pss_one (ps_for PassesOwn.never rfl (pi_enumT (by rfl) B.enumerate (pa_cons (pe_ix ix_tup (pv 2) pe_int (fun _ _ => rfl)) pa_nil)) (pg_tup rfl (pgs_cons (pg_name (i := 4) scRules.nd rfl (Or.inl rfl)) (pgs_cons (pg_name (i := 5) scRules.nd rfl (Or.inl rfl)) pgs_nil)))
        (pss_cons (ps_if (PW.pt (pw_or (pt_not (pt_val (pe_k C1 hr (by rfl) (pa_cons (pv 5) (pa_cons pe_int (pa_cons pe_int pa_nil)))))) (pw_or (pt_not (pt_val (pe_k C2 hr (by rfl) (pa_cons (pv 3) (pa_cons (pe_ix ix_tup (pv 5) pe_int (fun _ _ => rfl)) pa_nil)))))
            (pw_or1 (pt_not (pt_val (pe_k C1 hr (by rfl) (pa_cons (pe_ix ix_tup (pv 5) pe_int (fun _ _ => rfl)) (pa_cons pe_int (pa_cons (pe_gint (by rfl) g12) pa_nil)))))))))) pss_never pss_nil)
        (pss_cons (ps_set (i := 6) scRules.nd rfl (Or.inl rfl) (pe_k C3 hr (by rfl) (pa_cons (pe_make MS GS hr2 (by rfl) mS bS .nil pass0 (pa_cons (pv 0) (pa_cons (pv 3) (pa_cons
            (pe_lc (own := [("place", 7), ("slots", 8)]) (g := gTup K 2 (gCons (gName 7) (gCons (gName 8) gNil))) rfl scRules.nd (pi_tup (pe_ix ix_tup (pv 5) pe_int (fun _ _ => rfl))) (blkOk_by (N := ["names", "number", "kind", "places", "at", "rule", "wrong", "place", "slots"]) (sc := defScope (topS 41)) (by decide +kernel))
              (fun _ _ _ _ _ => pg_tup rfl (pgs_cons (pg_name (i := 7) scRules.nd rfl (Or.inl rfl)) (pgs_cons (pg_name (i := 8) scRules.nd rfl (Or.inl rfl)) pgs_nil))) (fun _ _ _ _ _ => pts_nil) (fun _ _ _ _ _ => pv 7)) pa_nil))))
            (pa_cons (pe_ix ix_tup (pv 5) pe_int (fun _ _ => rfl)) pa_nil))))
        (pss_one (ps_if (pt_cmpR op_notN (pv 6) pe_non (nomark _)) pss_never pss_nil)))))), ?_⟩
    obtain ⟨pa, ra, hA, ⟨as, hF, hP⟩, ⟨rs, hRA, hR⟩⟩ := id hT
    refine ⟨.ref a, rfl, a, _, 1, .ref pa, rfl, rfl, .of hA, rfl, pa, as, _, rfl, hF, pairs_of hP, fun d nd => ?_⟩
    have s0 := same_new (o := .dK (mergeK [] (t.places.map fun p => ((Sum.inr p : Key), V.int 0)))) nd
    generalize hkv : mergeK [] (t.places.map fun p => ((Sum.inr p : Key), V.int 0)) = kvs at s0 ⊢
    have hval : ∀ p ∈ t.places, valV kvs (Sum.inr p) = some (.int 0) := by
      rw [← hkv]
      exact (places_val (kvs := [])).1
    have hd : (upd H d (.dK kvs)) d = some (.dK kvs) := upd_same
    generalize upd H d (.dK kvs) = H0 at s0 hd ⊢
    refine ⟨.ref a, rfl, a, _, 2, .ref ra, rfl, rfl, .of (s0 _ _ hA), rfl, ra, rs.map V.ref, rfl, .of (s0 _ _ hRA), for_it walk_enumT (fun i σ H2 => ∃ v4 v5 v6 : Option V, σ = [some x, some n, some (.ref a), some (.ref d), v4, v5, v6, none, none] ∧ Same H0 H2) ⟨none, none, none, rfl, Same.refl _⟩
      (fun i σ H2 _ p => let ⟨_, _, _, _, e⟩ := p; .of (e _ _ (s0 _ _ hRA))) (fun i y σ H1 H2 hi p yy => ?_) (fun σ H1 p => ?_)⟩
    · obtain ⟨v4, v5, v6, rfl, e0⟩ := p
      obtain ⟨T, x1, x2, rfl, nT, rfl, e1, e2⟩ := yy
      cases e1
      obtain ⟨b, rfl, hb⟩ := ref_at e2
      obtain ⟨r, hr1, hrb⟩ := pair_at hR hb
      have rok := ok.rules r (List.mem_of_getElem? hr1)
      have s1 : Same H0 (upd H1 T (.tup [.int (i : Nat), .ref b])) := e0.trans (same_new nT)
      have s01 := s0.trans s1
      refine ⟨T, _, rfl, .of upd_same, rfl, _, _, rfl, _, _, rfl, rfl, ?_⟩
      generalize upd H1 T (.tup [.int (i : Nat), .ref b]) = H2 at s1 s01 ⊢
      obtain ⟨ha, da, hB, hH, hD⟩ := hrb.same s01
      refine ⟨.ref b, rfl, b, _, 2, 2, rfl, .inl hB, _, rfl, iteNS (by show (2 : Int) ≤ 2 ∧ (2 : Int) ≤ 2; decide) ?_⟩
      refine ⟨.ref d, rfl, .ref b, rfl, b, _, 0, .ref ha, rfl, rfl, .of hB, rfl, d, ha, kvs, r.heads, rfl, s1 _ _ hd, hH, rok.lo, rok.hi, rok.nd, fun p hp => ⟨ok.words p (rok.sub p hp), hval p (rok.sub p hp)⟩, fun H3 e3 => ⟨true, rfl, iteF ?_⟩⟩
      obtain ⟨ds, hDA, hDP⟩ := hD.same e3
      have hdl : ds.length = r.notes.length := (pair_len hDP).symm
      have few := rok.few
      refine ⟨.ref b, rfl, b, _, 1, .ref da, rfl, rfl, .of (e3 _ _ hB), rfl, da, _, 0, 12, rfl, .inl hDA, _, rfl, iteNS (by rw [List.length_map]; omega) ?_⟩
      -- the scope
      obtain ⟨hs, hHA, hHP⟩ := hH.same e3
      have hhl : hs.length = r.heads.length := (pair_len hHP).symm
      have hhi := rok.hi
      refine ⟨x, rfl, .ref d, rfl, .ref b, rfl, b, _, 0, .ref ha, rfl, rfl, .of (e3 _ _ hB), rfl, ha, rfl, ⟨_, .of hHA⟩, fun L nL => lc_map (walk_tup (xs := hs.map V.ref)) (r.heads.map V.str) (by rw [List.length_map, List.length_map]; exact hhl.symm) nL (fun H4 e => .of (e _ _ hHA)) (fun j y H4 H5 hj e hL yy => ?_) (fun H4 e4 hL => ?_)⟩
      · rw [List.length_map] at hj
        obtain ⟨rfl, hy⟩ := yy
        obtain ⟨z, rfl, hz⟩ := ref_at hy
        obtain ⟨p, hp, e6, hpz, hpe⟩ := pair_at hHP hz
        refine ⟨z, _, rfl, .of (e _ _ hpz), rfl, _, _, rfl, _, _, rfl, rfl, rfl, .str p, rfl, ?_⟩
        exact lc_post nL (by omega) e hL (Same.refl _) (by rw [List.getElem?_map, hp]; rfl)
      · intro z dz nz ndz nez
        refine ⟨z, dz, x, .ref d, .ref L, rfl, upd_same, fun H5 k5 => ⟨rfl, ?_⟩⟩
        have s5 : Same H4 H5 := Same.made nz ndz k5
        have s35 : Same H3 H5 := e4.trans s5
        refine ⟨.ref b, rfl, b, _, 1, .ref da, rfl, rfl, .of (s35 _ _ (e3 _ _ hB)), rfl, .ref z, da, r.notes, rfl, (hD.same e3).same s35, rok.ok, by omega, fun H6 e6 => ?_⟩
        refine ⟨.non, rfl, rfl, false, rfl, iteF ?_⟩
        exact ⟨_, _, _, rfl, s1.trans (e3.trans (s35.trans e6))⟩
    · obtain ⟨v4, v5, v6, rfl, e0⟩ := p
      exact q H1 (s0.trans e0)
end
end Wm
namespace Wm
open PySem PySem.Spec PyProof.Rows L2
section
variable {P : Program} {w : World} {K : PySem.W.Frag} {mg : Str → Option Value} {base : Heap}

/-! ### look_at_program -/
def spProgram : Sp := fun vs H Q _ => ∃ (a ka ma b : Addr) (t : Tel), vs = [.ref a] ∧ H a = some (.tup [.ref ka, .ref ma]) ∧ H ka = some (.tup [.ref b]) ∧ H ma = some (.tup []) ∧ TelAt H t b ∧ TelOk t ∧ ∀ H', Same H H' → Q .non H'
theorem scProgram : FnScope ["thing", "kinds", "main", "names", "number", "kind", "wrong"] ["thing"] (defScope (topS 42)) := ⟨rfl, rfl, rfl, by decide +kernel, rfl, by decide +kernel, by decide +kernel⟩
theorem c_program (D : DefAt K mg "look_at_program" (topS 42) ["thing"]) (B : Blt mg) (S : Cst mg) (SC : ScopeC P w K mg base) (C1 : Callable P w K mg base 1 "is_tuple_of" ["thing", "low", "high"] spTupOf) (C2 : Callable P w K mg base 5 "look_at_kinds" ["kinds"] spKinds)
    (C3 : Callable P w K mg base 7 "look_at_rules" ["names", "number", "kind"] spRules) (C4 : Callable P w K mg base 6 "wrong_deed" ["scope", "deeds"] spWrong) : Callable P w K mg base 8 "look_at_program" ["thing"] spProgram := by
  refine .of D fun f fd F => F.ok scProgram (fun vs H Q E h => ?_) (fun cdv A outer s H vs Q E hr h => ?_)
  · obtain ⟨a, ka, ma, b, t, rfl, _⟩ := h
    rfl
  · obtain ⟨a, ka, ma, b, t, rfl, hA, hK, hM, hT, ok, q⟩ := h
    obtain ⟨C, fS, fdS, MS, FS, bS, clS, n1, n2, n3, mS⟩ := SC.ex
    obtain ⟨t6, g6⟩ := S.kinds
    obtain ⟨t16, g16⟩ := S.main
    have GS := ok_scope (P := P) (w := w) (mg := mg) (base := base) FS clS n1 n2 n3
    have hr2 : Room 2 _ := hr.mono (by decide)
    refine ⟨_, pss_cons (ps_if (PW.pt (pw_or (pt_not (pt_val (pe_k C1 hr (by rfl) (pa_cons (pv 0) (pa_cons pe_int (pa_cons pe_int pa_nil)))))) (pw_or1 (pt_not (pt_val (pe_k C1 hr (by rfl) (pa_cons (pe_ix ix_tup (pv 0) pe_int (fun _ _ => rfl)) (pa_cons pe_int (pa_cons (pe_gint (by rfl) g6) pa_nil)))))))))
        pss_never pss_nil)
      (pss_cons (ps_asg (pv 0) (pg_tup rfl (pgs_cons (pg_name (i := 1) scProgram.nd rfl (Or.inl rfl)) (pgs_cons (pg_name (i := 2) scProgram.nd rfl (Or.inl rfl)) pgs_nil))))
      (pss_cons (ps_if (pt_not (pt_val (pe_k C1 hr (by rfl) (pa_cons (pv 2) (pa_cons pe_int (pa_cons (pe_gint (by rfl) g16) pa_nil)))))) pss_never pss_nil)
      (pss_cons (ps_expr (pe_k C2 hr (by rfl) (pa_cons (pv 1) pa_nil)))
      (pss_cons (ps_setLc (i := 3) (own := [("kind", 5)]) (g := gName 5) rfl scProgram.nd rfl rfl (sw_true rfl rfl rfl (by decide +kernel)) (pi_tup (pv 1)) (blkOk_by (N := ["thing", "kinds", "main", "names", "number", "kind", "wrong"]) (sc := defScope (topS 42)) (by decide +kernel))
        (fun _ _ _ _ _ => pg_name (i := 5) scProgram.nd rfl (Or.inl rfl)) (fun _ _ _ _ _ => pts_nil) (fun _ _ _ _ _ => pe_ix (r := rIxT K) ix_tup (pv 5) pe_int (fun _ _ => rfl)))
      (pss_cons (ps_for PassesOwn.never rfl (pi_enumT (by rfl) B.enumerate (pa_cons (pv 1) pa_nil)) (pg_tup rfl (pgs_cons (pg_name (i := 4) scProgram.nd rfl (Or.inl rfl)) (pgs_cons (pg_name (i := 5) scProgram.nd rfl (Or.inl rfl)) pgs_nil)))
        (pss_one (ps_expr (pe_k C3 hr (by rfl) (pa_cons (pv 3) (pa_cons (pv 4) (pa_cons (pv 5) pa_nil)))))))
      (pss_cons (ps_set (i := 6) scProgram.nd rfl (Or.inl rfl) (pe_k C4 hr (by rfl) (pa_cons (pe_make MS GS hr2 (by rfl) mS bS .nil pass0 (pa_cons (pv 3) (pa_cons pe_non (pa_cons (pe_lst pa_nil) pa_nil)))) (pa_cons (pv 2) pa_nil))))
      (pss_one (ps_if (pt_cmpR op_notN (pv 6) pe_non (nomark _)) pss_never pss_nil)))))))), ?_⟩
    refine ⟨.ref a, rfl, a, _, 2, 2, rfl, .inl hA, _, rfl, iteNS (by show (2 : Int) ≤ 2 ∧ (2 : Int) ≤ 2; decide) ?_⟩
    refine ⟨.ref a, rfl, a, _, 0, .ref ka, rfl, rfl, .of hA, rfl, ka, _, 1, 6, rfl, .inl hK, _, rfl, iteNS (by show (1 : Int) ≤ 1 ∧ (1 : Int) ≤ 6; decide) ?_⟩
    refine ⟨.ref a, rfl, a, _, rfl, .of hA, rfl, _, _, rfl, _, _, rfl, rfl, .ref ma, rfl, ma, _, 0, 16, rfl, .inl hM, _, rfl, iteNS (by show (0 : Int) ≤ 0 ∧ (0 : Int) ≤ 16; decide) ?_⟩
    refine ⟨.ref ka, rfl, ka, b, t, rfl, hK, hT, ok, fun H1 e1 => ?_⟩
    refine ⟨.ref ka, rfl, ka, rfl, ⟨_, .of (e1 _ _ hK)⟩, fun L nL => lc_map (walk_tup (xs := [V.ref b])) [.str t.name] rfl nL (fun H2 e => .of (e _ _ (e1 _ _ hK))) (fun i x H2 H3 hi e hL y => ?_) (fun H2 e2 hL => ?_)⟩
    · have hi0 : i = 0 := by
        have : i < 1 := hi
        omega
      subst hi0
      obtain ⟨rfl, hy⟩ := y
      cases hy
      obtain ⟨pa, ra, hA1, _, _⟩ := (hT.same e1).same e
      refine ⟨rfl, .ref b, rfl, b, _, 0, .str t.name, rfl, rfl, .of hA1, rfl, ?_⟩
      exact lc_post nL (by omega) e hL (Same.refl _) rfl
    · have e12 := e1.trans e2
      refine ⟨.ref ka, rfl, ka, [.ref b], rfl, .of (e12 _ _ hK), for_it walk_enumT (fun i σ H3 => ∃ v4 v5 : Option V, σ = [some (.ref a), some (.ref ka), some (.ref ma), some (.ref L), v4, v5, none] ∧ Same H H3) ⟨none, none, rfl, e12⟩ (fun i σ H2 _ p => let ⟨_, _, _, e⟩ := p; .of (e _ _ hK)) (fun i x σ H3 H4 hi p y => ?_) (fun σ H3 p => ?_)⟩
      · have hi0 : i = 0 := by
          have : i < 1 := hi
          omega
        subst hi0
        obtain ⟨v4, v5, rfl, e0⟩ := p
        obtain ⟨T, x1, x2, rfl, nT, rfl, e3, e4⟩ := y
        cases e3
        cases e4
        have s1 : Same H (upd H3 T (.tup [.int (0 : Nat), .ref b])) := e0.trans (same_new nT)
        refine ⟨T, _, rfl, .of upd_same, rfl, _, _, rfl, _, _, rfl, rfl, .ref L, rfl, .int (0 : Nat), rfl, .ref b, rfl, .ref L, .int (0 : Nat), b, t, rfl, hT.same s1, ok, fun H5 e5 => ?_⟩
        exact ⟨_, _, rfl, s1.trans e5⟩
      · obtain ⟨v4, v5, rfl, e0⟩ := p
        refine ⟨.ref L, rfl, (by show 0 ≤ sizeLine; decide), fun M nM => ?_⟩
        have s1 : Same H (upd H3 M (.lst [])) := e0.trans (same_new nM)
        intro z dz nz ndz nez
        refine ⟨z, dz, .ref L, .non, .ref M, rfl, upd_same, fun H5 k5 => ⟨rfl, ?_⟩⟩
        have s5 := s1.trans (Same.made nz ndz k5)
        refine ⟨.ref ma, rfl, .ref z, ma, [], rfl, ⟨[], s5 _ _ hM, .nil⟩, (fun x hx => nomatch hx), by decide, fun H6 e6 => ?_⟩
        refine ⟨.non, rfl, rfl, false, rfl, iteF ?_⟩
        exact q _ (s5.trans e6)

/-! ### is_kind_alone -/
def spAlone : Sp := fun vs H Q _ => ∃ (b : Addr) (t : Tel), vs = [.ref b] ∧ TelAt H t b ∧ TelOk t ∧ ∀ H', Same H H' → Q (.bl true) H'
theorem scAlone : FnScope ["thing"] ["thing"] (defScope (topS 44)) := ⟨rfl, rfl, rfl, by decide +kernel, rfl, by decide +kernel, by decide +kernel⟩
theorem c_alone (D : DefAt K mg "is_kind_alone" (topS 44) ["thing"]) (C1 : Callable P w K mg base 8 "look_at_program" ["thing"] spProgram) : Callable P w K mg base 9 "is_kind_alone" ["thing"] spAlone := by
  refine .of D fun f fd F => F.ok scAlone (fun vs H Q E h => ?_) (fun cdv A outer s H vs Q E hr h => ?_)
  · obtain ⟨b, t, rfl, _⟩ := h
    rfl
  · obtain ⟨b, t, rfl, hT, ok, q⟩ := h
    refine ⟨_, pss_cons (ps_try_thru0 (pss_one (ps_expr (pe_k C1 hr (by rfl) (pa_cons (pe_tup (pa_cons (pe_tup (pa_cons (pv 0) pa_nil)) (pa_cons (pe_tup pa_nil) pa_nil))) pa_nil))))) (pss_one (ps_ret pe_bl)), ?_⟩
    refine ⟨.ref b, rfl, (by show 1 ≤ sizeLine; decide), fun ka nk => ⟨(by show 0 ≤ sizeLine; decide), fun ma nm => ⟨(by show 2 ≤ sizeLine; decide), fun a na => ?_⟩⟩⟩
    have e1 := same_new (o := .tup [.ref b]) nk
    have e2 := same_new (o := .tup []) nm
    have e3 := same_new (o := .tup [.ref ka, .ref ma]) na
    have e23 := e2.trans e3
    have e := e1.trans e23
    refine ⟨a, ka, ma, b, t, rfl, upd_same, e23 _ _ upd_same, e3 _ _ upd_same, hT.same e, ok, fun H1 s1 => ?_⟩
    exact q _ (e.trans s1)

/-! ### is_teller -/
def spTeller : Sp := fun vs H Q _ => ∃ (b : Addr) (t : Tel), vs = [.ref b] ∧ TelAt H t b ∧ TelOk t ∧ ∀ H', Same H H' → Q (.bl true) H'
theorem scTeller : FnScope ["thing", "word", "many", "heads", "deeds", "deed"] ["thing"] (defScope (topS 46)) := ⟨rfl, rfl, rfl, by decide +kernel, rfl, by decide +kernel, by decide +kernel⟩
theorem any_rep (n : Nat) : (List.replicate n false).any id = false := by simp
theorem rep_atF {n i : Nat} (h : i < n) : ((List.replicate n false).map V.bl)[i]? = some (.bl false) := by simp [h]
theorem rep_lenF (n : Nat) : ((List.replicate n false).map V.bl).length = n := by simp
theorem rep_snoc (n : Nat) : (List.replicate n true).map V.bl ++ [.bl true] = (List.replicate (n + 1) true).map V.bl := by
  rw [List.replicate_succ', List.map_append]
  rfl
theorem c_teller (D : DefAt K mg "is_teller" (topS 46) ["thing"]) (B : Blt mg) (C1 : Callable P w K mg base 9 "is_kind_alone" ["thing"] spAlone) : Callable P w K mg base 10 "is_teller" ["thing"] spTeller := by
  refine .of D fun f fd F => F.ok scTeller (fun vs H Q E h => ?_) (fun cdv A outer s H vs Q E hr h => ?_)
  · obtain ⟨b, t, rfl, _⟩ := h
    rfl
  · obtain ⟨a, t, rfl, hT, ok, q⟩ := h
    refine ⟨_, pss_cons (ps_if (PW.pt (pw_or (pt_not (pt_val (pe_k C1 hr (by rfl) (pa_cons (pv 0) pa_nil)))) (pw_or1 (pt_val (pe_callB (cr_any rfl) (by rfl) B.any (by decide +kernel) (pa_cons
        (pe_lc (own := [("word", 1), ("many", 2)]) (g := gTup K 2 (gCons (gName 1) (gCons (gName 2) gNil))) rfl scTeller.nd (pi_tup (pe_ix ix_tup (pv 0) pe_int (fun _ _ => rfl))) (blkOk_by (N := ["thing", "word", "many", "heads", "deeds", "deed"]) (sc := defScope (topS 46)) (by decide +kernel))
          (fun _ _ _ _ _ => pg_tup rfl (pgs_cons (pg_name (i := 1) scTeller.nd rfl (Or.inl rfl)) (pgs_cons (pg_name (i := 2) scTeller.nd rfl (Or.inl rfl)) pgs_nil))) (fun _ _ _ _ _ => pts_nil) (fun _ _ _ _ _ => pe_cmp (pc_gt (pv 2) pe_int) rfl)) pa_nil)))))) pss_never pss_nil)
      (pss_one (ps_ret (pe_callB (cr_all rfl) (by rfl) B.all (by decide +kernel) (pa_cons
        (pe_lc2 (own := [("heads", 3), ("deeds", 4), ("deed", 5)]) (vs1 := [5]) (g := gTup K 2 (gCons (gName 3) (gCons (gName 4) gNil))) (g1 := gName 5) (wi1 := iTup K (tVar 4)) rfl scTeller.nd (pi_tup (pe_ix ix_tup (pv 0) pe_int (fun _ _ => rfl))) (blkOk_by (N := ["thing", "word", "many", "heads", "deeds", "deed"]) (sc := defScope (topS 46)) (by decide +kernel)) (by decide)
          (fun _ _ _ _ _ => pg_tup rfl (pgs_cons (pg_name (i := 3) scTeller.nd rfl (Or.inl rfl)) (pgs_cons (pg_name (i := 4) scTeller.nd rfl (Or.inl rfl)) pgs_nil))) (fun _ _ _ _ _ => pts_nil) (fun _ _ _ _ _ => pi_tup (pv 4)) (fun _ _ _ _ _ => pg_name (i := 5) scTeller.nd rfl (Or.inl rfl)) (fun _ _ _ _ _ => pts_nil)
          (fun _ _ _ _ _ => pe_and (pe_cmpR (r := rEq) op_eq (pe_ix (r := rIxT K) ix_tup (pv 5) pe_int (fun _ _ => rfl)) pe_str (nomark _)) (pe_one (pe_cmpR (r := rEq) op_eq (pe_ix (r := rIxT K) ix_tup (pe_ix (r := rIxT K) ix_tup (pv 5) pe_int (fun _ _ => rfl)) pe_int (fun _ _ => rfl)) pe_str (nomark _))))) pa_nil)))), ?_⟩
    refine ⟨.ref a, rfl, a, t, rfl, hT, ok, fun H1 e1 => ⟨true, rfl, iteF ?_⟩⟩
    obtain ⟨pa, ra, hA, ⟨as, hF, hP⟩, ⟨rs, hRA, hR⟩⟩ := hT.same e1
    have hlen : as.length = t.places.length := (pair_len hP).symm
    have l3 := ok.hi
    refine ⟨.ref a, rfl, a, _, 1, .ref pa, rfl, rfl, .of hA, rfl, pa, rfl, ⟨_, hF.seq⟩, fun L nL => lc_map (walk_tup (xs := as.map V.ref)) ((List.replicate as.length false).map V.bl) (by rw [rep_lenF, List.length_map]) nL (fun H2 e => (hF.same e).seq) (fun i x H2 H3 hi e hL y => ?_) (fun H2 e2 hL => ?_)⟩
    · rw [List.length_map] at hi
      obtain ⟨rfl, hx⟩ := y
      obtain ⟨b, rfl, hb⟩ := ref_at hx
      obtain ⟨p, hp, hpb⟩ := pair_at hP hb
      refine ⟨b, _, rfl, .of (e _ _ hpb), rfl, _, _, rfl, _, _, rfl, rfl, rfl, .int 0, rfl, 0, 0, rfl, rfl, ?_⟩
      exact lc_post nL (by omega) e hL (Same.refl _) (rep_atF hi)
    · refine ⟨L, _, rfl, .of hL, false, ?_, iteF ?_⟩
      · rw [any_rep]
      have hA2 := e2 _ _ hA
      have hRA2 := e2 _ _ hRA
      have hlr : rs.length = t.rules.length := (pair_len hR).symm
      have few := ok.few
      have wt : Walk (Itt K ra) (rs.map V.ref).length (fun H => SqT K H ra (rs.map V.ref)) (YAt (rs.map V.ref)) := walk_tup
      refine ⟨.ref a, rfl, a, _, 2, .ref ra, rfl, rfl, .of hA2, rfl, ra, rfl, ⟨_, .of hRA2⟩, fun M nM => ⟨fun i m H3 => m = (rs.map V.ref).length - i ∧ i ≤ (rs.map V.ref).length ∧ Same H2 H3 ∧ ∃ n, n ≤ 3 * i ∧ H3 M = some (.lst ((List.replicate n true).map V.bl)),
        ⟨(rs.map V.ref).length, by simp, Nat.zero_le _, same_over nM (Same.refl _), 0, Nat.le_refl _, upd_same⟩, ?_⟩⟩
      rintro i m H3 ⟨rfl, hi, e3, n, hn, hM⟩
      have hS : SqT K H3 ra (rs.map V.ref) := .of (e3 _ _ hRA2)
      have hi4 : i ≤ 4 := by
        rw [List.length_map] at hi
        omega
      by_cases hlt : i < (rs.map V.ref).length
      · refine .inr ⟨wt.goes i H3 hlt hS, fun H4 => Same H2 H4 ∧ ∃ n, n ≤ 3 * (i + 1) ∧ H4 M = some (.lst ((List.replicate n true).map V.bl)), fun H' p' => ⟨(rs.map V.ref).length - (i + 1), by omega, rfl, hlt, p'⟩, fun x H' y => ?_⟩
        obtain ⟨rfl, hx⟩ := wt.yields i H3 x H' hlt hS y
        obtain ⟨b, rfl, hb⟩ := ref_at hx
        obtain ⟨r, hr1, hrb⟩ := pair_at hR hb
        have rok := ok.rules r (List.mem_of_getElem? hr1)
        obtain ⟨ha, da, hB, hHs, ds, hDA, hDP⟩ := hrb.same (e2.trans e3)
        have hdl : ds.length = r.notes.length := (pair_len hDP).symm
        have fewn := rok.few
        refine ⟨b, _, rfl, .of hB, rfl, _, _, rfl, _, _, rfl, rfl, rfl, ?_⟩
        have wd : Walk (Itt K da) (ds.map V.ref).length (fun H => SqT K H da (ds.map V.ref)) (YAt (ds.map V.ref)) := walk_tup
        refine ⟨.ref da, rfl, da, rfl, ⟨_, .of hDA⟩, fun j k H4 => k = (ds.map V.ref).length - j ∧ j ≤ (ds.map V.ref).length ∧ Same H2 H4 ∧ (∀ q o, q ≠ M → H' q = some o → H4 q = some o) ∧ ∃ n, n ≤ 3 * i + j ∧ H4 M = some (.lst ((List.replicate n true).map V.bl)),
          ⟨(ds.map V.ref).length, by simp, Nat.zero_le _, e3, fun _ _ _ z => z, n, by omega, hM⟩, ?_⟩
        rintro j k H4 ⟨rfl, hj, e4, k4, n4, hn4, hM4⟩
        have ndM : da ≠ M := by
          intro z
          subst z
          rw [hM] at hDA
          cases hDA
        have hS4 : SqT K H4 da (ds.map V.ref) := .of (k4 _ _ ndM hDA)
        by_cases hjl : j < (ds.map V.ref).length
        · refine .inr ⟨wd.goes j H4 hjl hS4, fun H5 => Same H2 H5 ∧ (∀ q o, q ≠ M → H' q = some o → H5 q = some o) ∧ ∃ n, n ≤ 3 * i + (j + 1) ∧ H5 M = some (.lst ((List.replicate n true).map V.bl)), fun H5 p' => ⟨(ds.map V.ref).length - (j + 1), by omega, rfl, hjl, p'⟩, fun x H5 y => ?_⟩
          obtain ⟨rfl, hx⟩ := wd.yields j H4 x H5 hjl hS4 y
          obtain ⟨c, rfl, hc⟩ := ref_at hx
          obtain ⟨z, hz, c2, hc1, hc2⟩ := pair_at hDP hc
          have ncM : c ≠ M := by
            intro z
            subst z
            rw [hM] at hc1
            cases hc1
          have nc2 : c2 ≠ M := by
            intro z
            subst z
            rw [hM] at hc2
            cases hc2
          have g1 := k4 _ _ ncM hc1
          have g2 := k4 _ _ nc2 hc2
          refine ⟨rfl, .ref c, rfl, c, _, 0, .str "note", rfl, rfl, .of g1, rfl, rfl, true, rfl, iteT ?_⟩
          refine ⟨.ref c, rfl, c, _, 1, .ref c2, rfl, rfl, .of g1, rfl, c2, _, 0, .str "is", rfl, rfl, .of g2, rfl, rfl, ?_⟩
          refine ⟨_, hM4, ?_, same_over nM e4, ?_, n4 + 1, by omega, ?_⟩
          · have e : sizeLine = 16777216 := sizeLine_eq
            rw [rep_len]
            rw [List.length_map] at hjl
            omega
          · intro q o hq z
            rw [upd_ne hq]
            exact k4 q o hq z
          · rw [upd_same, ← rep_snoc]
            rfl
        · have ej : j = (ds.map V.ref).length := by omega
          subst ej
          refine .inl ⟨wd.stops H4 hS4, e4, n4, ?_, hM4⟩
          rw [List.length_map] at hn4
          omega
      · have ei : i = (rs.map V.ref).length := by omega
        subst ei
        refine .inl ⟨wt.stops H3 hS, ?_⟩
        refine ⟨M, _, rfl, .of hM, ?_⟩
        rw [all_rep]
        exact q H3 (e1.trans (e2.trans e3))

/-! ### look_at_teller -/
def spLook : Sp := fun vs H Q _ => ∃ (b : Addr) (t : Tel), vs = [.ref b] ∧ TelAt H t b ∧ TelOk t ∧ ∀ H', Same H H' → Q .non H'
theorem scLook : FnScope ["thing"] ["thing"] (defScope (topS 47)) := ⟨rfl, rfl, rfl, by decide +kernel, rfl, by decide +kernel, by decide +kernel⟩
theorem c_look (D : DefAt K mg "look_at_teller" (topS 47) ["thing"]) (C1 : Callable P w K mg base 10 "is_teller" ["thing"] spTeller) : Callable P w K mg base 11 "look_at_teller" ["thing"] spLook := by
  refine .of D fun f fd F => F.ok scLook (fun vs H Q E h => ?_) (fun cdv A outer s H vs Q E hr h => ?_)
  · obtain ⟨b, t, rfl, _⟩ := h
    rfl
  · obtain ⟨a, t, rfl, hT, ok, q⟩ := h
    refine ⟨_, pss_one (ps_if (pt_not (pt_val (pe_k C1 hr (by rfl) (pa_cons (pv 0) pa_nil)))) pss_never pss_nil), ?_⟩
    refine ⟨.ref a, rfl, a, t, rfl, hT, ok, fun H1 e1 => ⟨true, rfl, iteF ?_⟩⟩
    exact q H1 e1
end
end Wm
namespace Wm
open PySem PySem.Spec PyProof.Rows L2

/-! ### a dict of numbers by words -/
def dK (ps : List Str) (m : Str → Int) : List (Key × V) := ps.map fun p => ((Sum.inr p : Key), V.int (m p))
theorem dK_val {p : Str} {m : Str → Int} : ∀ {ps : List Str}, p ∈ ps → valV (dK ps m) (Sum.inr p) = some (.int (m p))
  | [], h => nomatch h
  | q :: ps, h => by
    by_cases e : q = p
    · subst e
      exact valV_pos rfl
    · have e2 : ¬ (Sum.inr q : Key) = Sum.inr p := fun z => e (Sum.inr.inj z)
      show valV (((Sum.inr q : Key), V.int (m q)) :: dK ps m) (Sum.inr p) = _
      rw [valV_neg e2]
      exact dK_val ((List.mem_cons.mp h).resolve_left fun z => e z.symm)
theorem dK_not {p : Str} {m : Str → Int} : ∀ {ps : List Str}, p ∉ ps → valV (dK ps m) (Sum.inr p) = none
  | [], _ => rfl
  | q :: ps, h => by
    have e2 : ¬ (Sum.inr q : Key) = Sum.inr p := fun z => h (by rw [Sum.inr.inj z]; exact List.mem_cons_self)
    show valV (((Sum.inr q : Key), V.int (m q)) :: dK ps m) (Sum.inr p) = _
    rw [valV_neg e2]
    exact dK_not fun z => h (List.mem_cons_of_mem _ z)
theorem dK_put {p : Str} {m : Str → Int} {ps : List Str} {k : Int} (h : p ∈ ps) : putK (dK ps m) (Sum.inr p) (.int k) = dK ps (upM m p k) := by
  unfold putK
  rw [valV_any, dK_val h]
  show (if true = true then _ else _) = _
  rw [if_pos rfl]
  unfold dK
  rw [List.map_map]
  refine List.map_congr_left fun q _ => ?_
  show (if (Sum.inr q : Key) = Sum.inr p then ((Sum.inr q : Key), V.int k) else ((Sum.inr q : Key), V.int (m q))) = ((Sum.inr q : Key), V.int (upM m p k q))
  unfold upM
  by_cases e : q = p
  · rw [if_pos (congrArg Sum.inr e), if_pos e]
  · rw [if_neg (fun z => e (Sum.inr.inj z)), if_neg e]
theorem dK_snoc {p : Str} {m : Str → Int} {ps : List Str} {i : Nat} (nd : ps.Nodup) (h : ps[i]? = some p) : putK (dK (ps.take i) m) (Sum.inr p) (.int (m p)) = dK (ps.take (i + 1)) m := by
  rw [putK_new _ (dK_not (nodup_at nd h)), List.take_add_one, h]
  unfold dK
  rw [List.map_append]
  rfl
theorem mOf_at : ∀ {ps : List Str} {h : List Int} {i : Nat} {p : Str} {x : Int}, ps.Nodup → ps[i]? = some p → h[i]? = some x → mOf ps h p = x
  | [], _, _, _, _, _, e, _ => by simp at e
  | _ :: _, [], _, _, _, _, _, e => by simp at e
  | q :: ps, y :: h, 0, p, x, _, e, f => by
    simp at e f
    subst e
    subst f
    unfold mOf
    simp [List.lookup]
  | q :: ps, y :: h, i + 1, p, x, nd, e, f => by
    have n1 := (List.nodup_cons.mp nd).1
    have e1 : ps[i]? = some p := by simpa using e
    have ne : (p == q) = false := beq_eq_false_iff_ne.mpr fun z => n1 (z ▸ List.mem_of_getElem? e1)
    have ih := mOf_at (i := i) (List.nodup_cons.mp nd).2 e1 (show h[i]? = some x by simpa using f)
    unfold mOf at ih ⊢
    rw [List.zip_cons_cons]
    simp only [List.lookup, ne]
    exact ih
theorem took_snoc (p : Str) : ∀ (l : List Str) (m : Str → Int), took m (l ++ [p]) = upM (took m l) p (took m l p - 1)
  | [], _ => rfl
  | _ :: l, m => took_snoc p l _
theorem find_at {α : Type} {f : α → Bool} : ∀ {l : List α} {i : Nat} {r : α}, l[i]? = some r → f r = true → (∀ x ∈ l.take i, f x = false) → l.find? f = some r
  | [], _, _, h, _, _ => by simp at h
  | a :: l, 0, r, h, hf, _ => by
    simp at h
    subst h
    simp [List.find?, hf]
  | a :: l, i + 1, r, h, hf, hn => by
    have h0 : f a = false := hn a (by simp)
    have := find_at (l := l) (i := i) (by simpa using h) hf fun x hx => hn x (by simp [hx])
    simp [List.find?, h0, this]

section
variable {P : Program} {w : World} {K : PySem.W.Frag} {mg : Str → Option Value} {base : Heap}
/-! ### empty_heap -/
def spEmpty : Sp := fun vs H Q _ => ∃ (a : Addr) (t : Tel), vs = [.ref a] ∧ TelAt H t a ∧ TelOk t ∧ ∀ H' p, Same H H' → H' p = some (.tup ((zero t).map V.int)) → Q (.ref p) H'
theorem scEmpty : FnScope ["teller", "word", "many"] ["teller"] (defScope (topS 48)) := ⟨rfl, rfl, rfl, by decide +kernel, rfl, by decide +kernel, by decide +kernel⟩
theorem c_empty (D : DefAt K mg "empty_heap" (topS 48) ["teller"]) (B : Blt mg) : Callable P w K mg base 1 "empty_heap" ["teller"] spEmpty := by
  refine .of D fun f fd F => F.ok scEmpty (fun vs H Q E h => ?_) (fun cdv A outer s H vs Q E hr h => ?_)
  · obtain ⟨a, t, rfl, _⟩ := h
    rfl
  · obtain ⟨a, t, rfl, hT, ok, q⟩ := h
    refine ⟨_, pss_one (ps_ret (pe_callTy call_tuple_of (by rfl) B.tuple (by decide +kernel) (pa_cons (pe_lc (own := [("word", 1), ("many", 2)]) (g := gTup K 2 (gCons (gName 1) (gCons (gName 2) gNil))) rfl scEmpty.nd (pi_tup (pe_ix ix_tup (pv 0) pe_int (fun _ _ => rfl))) (blkOk_by (N := ["teller", "word", "many"]) (sc := defScope (topS 48)) (by decide +kernel))
          (fun _ _ _ _ _ => pg_tup rfl (pgs_cons (pg_name (i := 1) scEmpty.nd rfl (Or.inl rfl)) (pgs_cons (pg_name (i := 2) scEmpty.nd rfl (Or.inl rfl)) pgs_nil))) (fun _ _ _ _ _ => pts_nil) (fun _ _ _ _ _ => pe_int)) pa_nil))), ?_⟩
    obtain ⟨pa, ra, hA, ⟨as, hF, hP⟩, ⟨rs, hRA, hR⟩⟩ := hT
    have hlen : as.length = t.places.length := (pair_len hP).symm
    have l3 := ok.hi
    refine ⟨.ref a, rfl, a, _, 1, .ref pa, rfl, rfl, .of hA, rfl, pa, rfl, ⟨_, hF.seq⟩, fun L nL => lc_map (walk_tup (xs := as.map V.ref)) ((zero t).map V.int) (by unfold zero; rw [List.length_map, List.length_map, List.length_map]; exact hlen.symm) nL (fun H2 e => (hF.same e).seq) (fun i x H2 H3 hi e hL y => ?_) (fun H2 e2 hL => ?_)⟩
    · rw [List.length_map] at hi
      obtain ⟨rfl, hx⟩ := y
      obtain ⟨b, rfl, hb⟩ := ref_at hx
      obtain ⟨p, hp, hpb⟩ := pair_at hP hb
      refine ⟨b, _, rfl, .of (e _ _ hpb), rfl, _, _, rfl, _, _, rfl, rfl, rfl, ?_⟩
      exact lc_post nL (by omega) e hL (Same.refl _) (by unfold zero; rw [List.getElem?_map, List.getElem?_map, hp]; rfl)
    · refine ⟨L, _, rfl, .inl ⟨.of hL, fun p np => ?_⟩⟩
      exact q _ p (e2.trans (same_new np)) upd_same

/-! ### words_of -/
def spWordsOf : Sp := fun vs H Q _ => ∃ (a : Addr) (t : Tel), vs = [.ref a] ∧ TelAt H t a ∧ TelOk t ∧ ∀ H' l, Same H H' → H l = none → H' l = some (.lst (t.places.map V.str)) → Q (.ref l) H'
theorem scWordsOf : FnScope ["teller", "word", "many"] ["teller"] (defScope (topS 52)) := ⟨rfl, rfl, rfl, by decide +kernel, rfl, by decide +kernel, by decide +kernel⟩
theorem c_wordsOf (D : DefAt K mg "words_of" (topS 52) ["teller"]) : Callable P w K mg base 1 "words_of" ["teller"] spWordsOf := by
  refine .of D fun f fd F => F.ok scWordsOf (fun vs H Q E h => ?_) (fun cdv A outer s H vs Q E hr h => ?_)
  · obtain ⟨a, t, rfl, _⟩ := h
    rfl
  · obtain ⟨a, t, rfl, hT, ok, q⟩ := h
    refine ⟨_, pss_one (ps_ret (pe_lc (own := [("word", 1), ("many", 2)]) (g := gTup K 2 (gCons (gName 1) (gCons (gName 2) gNil))) rfl scWordsOf.nd (pi_tup (pe_ix ix_tup (pv 0) pe_int (fun _ _ => rfl))) (blkOk_by (N := ["teller", "word", "many"]) (sc := defScope (topS 52)) (by decide +kernel))
          (fun _ _ _ _ _ => pg_tup rfl (pgs_cons (pg_name (i := 1) scWordsOf.nd rfl (Or.inl rfl)) (pgs_cons (pg_name (i := 2) scWordsOf.nd rfl (Or.inl rfl)) pgs_nil))) (fun _ _ _ _ _ => pts_nil) (fun _ _ _ _ _ => pv 1))), ?_⟩
    obtain ⟨pa, ra, hA, ⟨as, hF, hP⟩, ⟨rs, hRA, hR⟩⟩ := hT
    have hlen : as.length = t.places.length := (pair_len hP).symm
    have l3 := ok.hi
    refine ⟨.ref a, rfl, a, _, 1, .ref pa, rfl, rfl, .of hA, rfl, pa, rfl, ⟨_, hF.seq⟩, fun L nL => lc_map (walk_tup (xs := as.map V.ref)) (t.places.map V.str) (by rw [List.length_map, List.length_map]; exact hlen.symm) nL (fun H2 e => (hF.same e).seq) (fun i x H2 H3 hi e hL y => ?_) (fun H2 e2 hL => q H2 L e2 nL hL)⟩
    rw [List.length_map] at hi
    obtain ⟨rfl, hx⟩ := y
    obtain ⟨b, rfl, hb⟩ := ref_at hx
    obtain ⟨p, hp, hpb⟩ := pair_at hP hb
    refine ⟨b, _, rfl, .of (e _ _ hpb), rfl, _, _, rfl, _, _, rfl, rfl, rfl, .str p, rfl, ?_⟩
    exact lc_post nL (by omega) e hL (Same.refl _) (by rw [List.getElem?_map, hp]; rfl)
end
end Wm
namespace Wm
open PySem PySem.Spec PyProof.Rows L2
/-- a for that may end by a break: what holds behind it both ways -/
theorem for_brk {J : It} {n : Nat} {G : Hp → Prop} {Y : Nat → Hp → V → Hp → Prop} (w : Walk J n G Y) {g : TG} {tb : TS} {D : Ends} {σ : L2.St} {H : Hp} (Pv : Nat → L2.St → Hp → Prop) (Fin : L2.St → Hp → Prop) (h0 : Pv 0 σ H) (hG : ∀ i σ H, i ≤ n → Pv i σ H → G H)
    (hf : ∀ σ H, Fin σ H → D.nx σ H)
    (hs : (∀ σ H, Fin σ H → D.nx σ H) → ∀ i x σ H H', i < n → Pv i σ H → Y i H x H' → g x σ H' fun σ2 H2 => tb { D with nx := Pv (i + 1), ct := Pv (i + 1), bk := D.nx } σ2 H2) (hd : ∀ σ H, Pv n σ H → Fin σ H) :
    ∃ W : Nat → Nat → L2.St → Hp → Prop, (∃ m, W 0 m σ H) ∧ ∀ i m σ H, W i m σ H →
      (J.stop i H ∧ D.nx σ H) ∨ (J.go i H ∧ ∃ N : L2.St → Hp → Prop, (∀ σ' H', N σ' H' → ∃ m', m' < m ∧ W (i + 1) m' σ' H') ∧ ∀ x H', J.yld i H x H' → g x σ H' fun σ2 H2 => tb { D with nx := N, ct := N, bk := D.nx } σ2 H2) :=
  for_it w Pv h0 hG (hs hf) fun σ H p => hf σ H (hd σ H p)
theorem int_at {l : List Int} {i : Nat} {x : V} (h : (l.map V.int)[i]? = some x) : ∃ b, x = .int b ∧ l[i]? = some b := by
  rw [List.getElem?_map] at h
  cases e : l[i]? with
  | none => rw [e] at h; cases h
  | some b =>
    rw [e] at h
    exact ⟨b, (Option.some.inj h).symm, rfl⟩
theorem all_map_dec {l : List Str} {m : Str → Int} : (l.map fun p => decide (m p > 0)).all id = l.all fun p => decide (0 < m p) := by
  rw [List.all_map]
  rfl
section
variable {P : Program} {w : World} {K : PySem.W.Frag} {mg : Str → Option Value} {base : Heap}
/-! ### behind_letter -/
def spBehind : Sp := fun vs H Q _ => ∃ (a g : Addr) (z : Str) (t : Tel) (h : List Int), vs = [.ref a, .ref g, .str z] ∧ TelAt H t a ∧ TelOk t ∧ H g = some (.tup (h.map V.int)) ∧ h.length = t.places.length ∧ z ∈ t.places ∧
  ∀ H' r n g2, Same H H' → H' r = some (.tup [.ref n, .ref g2]) → H' n = some (.tup (step1 t h z).1) → H' g2 = some (.tup ((step1 t h z).2.map V.int)) → Q (.ref r) H'
abbrev nBehind : List Str := ["teller", "heap", "word", "many", "notes", "heads", "deeds", "place", "slots", "deed", "one", "things", "here"]
theorem scBehind : FnScope nBehind ["teller", "heap", "word"] (defScope (topS 49)) := ⟨rfl, rfl, rfl, by decide +kernel, rfl, by decide +kernel, by decide +kernel⟩
/-- the frame -/
def frB (a g : Addr) (z : Str) (d n : Addr) (v5 v6 v7 v8 : Option V) : L2.St := [some (.ref a), some (.ref g), some (.str z), some (.ref d), some (.ref n), v5, v6, v7, v8, none, none, none, none]
theorem c_behind (D : DefAt K mg "behind_letter" (topS 49) ["teller", "heap", "word"]) (B : Blt mg) : Callable P w K mg base 1 "behind_letter" ["teller", "heap", "word"] spBehind := by
  refine .of D fun f fd F => F.ok scBehind (fun vs H Q E h => ?_) (fun cdv A outer s H vs Q E hr h => ?_)
  · obtain ⟨a, g, z, t, h, rfl, _⟩ := h
    rfl
  · obtain ⟨a, g, z, t, h, rfl, hT, ok, hg, hl, hz, q⟩ := h
    have hu := hu_of hr
    refine ⟨_, pss_cons (ps_set (i := 3) scBehind.nd rfl (Or.inr rfl) (pe_dc (own := [("one", 10), ("things", 11), ("here", 12)]) (g := gTup K 2 (gCons (gTup K 2 (gCons (gName 10) (gCons (gName 11) gNil))) (gCons (gName 12) gNil))) rfl scBehind.nd
        (pi_zipS (by rfl) B.zip (pa_cons (pe_ix ix_tup (pv 0) pe_int (fun _ _ => rfl)) (pa_cons (pv 1) pa_nil))) (blkOk_by (N := nBehind) (sc := defScope (topS 49)) (by decide +kernel))
        (fun _ _ _ _ _ => pg_tup rfl (pgs_cons (pg_tup rfl (pgs_cons (pg_name (i := 10) scBehind.nd rfl (Or.inl rfl)) (pgs_cons (pg_name (i := 11) scBehind.nd rfl (Or.inl rfl)) pgs_nil))) (pgs_cons (pg_name (i := 12) scBehind.nd rfl (Or.inl rfl)) pgs_nil))) (fun _ _ _ _ _ => pts_nil) (fun _ _ _ _ _ => pv 10) (fun _ _ _ _ _ => pv 12)))
      (pss_cons (ps_daug hu (pv 3) (pv 2) pe_int in_add (fun _ _ _ => rfl))
      (pss_cons (ps_set (i := 4) scBehind.nd rfl (Or.inl rfl) (pe_tup pa_nil))
      (pss_cons (ps_for PassesOwn.never rfl (pi_tup (pe_ix ix_tup (pv 0) pe_int (fun _ _ => rfl))) (pg_tup rfl (pgs_cons (pg_name (i := 5) scBehind.nd rfl (Or.inl rfl)) (pgs_cons (pg_name (i := 6) scBehind.nd rfl (Or.inl rfl)) pgs_nil)))
        (pss_one (ps_if (pt_val (pe_callB (cr_all rfl) (by rfl) B.all (by decide +kernel) (pa_cons (pe_lc (own := [("place", 7), ("slots", 8)]) (g := gTup K 2 (gCons (gName 7) (gCons (gName 8) gNil))) rfl scBehind.nd (pi_tup (pv 5)) (blkOk_by (N := nBehind) (sc := defScope (topS 49)) (by decide +kernel))
              (fun _ _ _ _ _ => pg_tup rfl (pgs_cons (pg_name (i := 7) scBehind.nd rfl (Or.inl rfl)) (pgs_cons (pg_name (i := 8) scBehind.nd rfl (Or.inl rfl)) pgs_nil))) (fun _ _ _ _ _ => pts_nil) (fun _ _ _ _ _ => pe_cmp (pc_gt (pe_dget hu (pv 3) (pv 7) (fun _ _ => rfl)) pe_int) rfl)) pa_nil)))
          (pss_cons (ps_for PassesOwn.never rfl (pi_tup (pv 5)) (pg_tup rfl (pgs_cons (pg_name (i := 7) scBehind.nd rfl (Or.inl rfl)) (pgs_cons (pg_name (i := 8) scBehind.nd rfl (Or.inl rfl)) pgs_nil)))
              (pss_one (ps_daug hu (pv 3) (pv 7) pe_int in_sub (fun _ _ _ => rfl))))
            (pss_cons (ps_set (i := 4) scBehind.nd rfl (Or.inl rfl) (pe_callTy call_tuple_of (by rfl) B.tuple (by decide +kernel) (pa_cons (pe_lc (own := [("deed", 9)]) (g := gName 9) rfl scBehind.nd (pi_tup (pv 6)) (blkOk_by (N := nBehind) (sc := defScope (topS 49)) (by decide +kernel))
              (fun _ _ _ _ _ => pg_name (i := 9) scBehind.nd rfl (Or.inl rfl)) (fun _ _ _ _ _ => pts_nil) (fun _ _ _ _ _ => pe_ix (r := rIxT K) ix_tup (pe_ix (r := rIxT K) ix_tup (pv 9) pe_int (fun _ _ => rfl)) pe_int (fun _ _ => rfl))) pa_nil)))
            (pss_one ps_break)))
          pss_nil)))
      (pss_one (ps_ret (pe_tup (pa_cons (pv 4) (pa_cons (pe_callTy call_tuple_of (by rfl) B.tuple (by decide +kernel) (pa_cons (pe_lc (own := [("one", 10), ("things", 11)]) (g := gTup K 2 (gCons (gName 10) (gCons (gName 11) gNil))) rfl scBehind.nd (pi_tup (pe_ix ix_tup (pv 0) pe_int (fun _ _ => rfl))) (blkOk_by (N := nBehind) (sc := defScope (topS 49)) (by decide +kernel))
              (fun _ _ _ _ _ => pg_tup rfl (pgs_cons (pg_name (i := 10) scBehind.nd rfl (Or.inl rfl)) (pgs_cons (pg_name (i := 11) scBehind.nd rfl (Or.inl rfl)) pgs_nil))) (fun _ _ _ _ _ => pts_nil) (fun _ _ _ _ _ => pe_dget hu (pv 3) (pv 10) (fun _ _ => rfl))) pa_nil)) pa_nil)))))))), ?_⟩
    obtain ⟨pa, ra, hA, ⟨as, hF, hP⟩, ⟨rs, hRA, hR⟩⟩ := id hT
    have hlen : as.length = t.places.length := (pair_len hP).symm
    have l3 := ok.hi
    have hlen2 : (as.map V.ref).length = (h.map V.int).length := by rw [List.length_map, List.length_map, hlen, hl]
    have wz : Walk (ItS K pa g) (as.map V.ref).length (fun H => SqT K H pa (as.map V.ref) ∧ SqT K H g (h.map V.int)) (YPair (fun i => (as.map V.ref)[i]?) (fun i => (h.map V.int)[i]?)) := walk_zipS hlen2
    -- the dict
    refine ⟨.ref a, rfl, a, _, 1, .ref pa, rfl, rfl, .of hA, rfl, .ref g, rfl, pa, g, as.map V.ref, h.map V.int, rfl, hF.seq, .of hg, fun d nd => ⟨fun i m H1 => m = (as.map V.ref).length - i ∧ i ≤ (as.map V.ref).length ∧ Same H H1 ∧ H1 d = some (.dK (dK (t.places.take i) (mOf t.places h))), ⟨(as.map V.ref).length, by simp, Nat.zero_le _, same_over nd (Same.refl _), upd_same⟩, ?_⟩⟩
    rintro i m H1 ⟨rfl, hi, e1, hd⟩
    have hG : SqT K H1 pa (as.map V.ref) ∧ SqT K H1 g (h.map V.int) := ⟨(hF.same e1).seq, .of (e1 _ _ hg)⟩
    by_cases hlt : i < (as.map V.ref).length
    · refine .inr ⟨wz.goes i H1 hlt hG, fun H2 => Same H H2 ∧ H2 d = some (.dK (dK (t.places.take (i + 1)) (mOf t.places h))), fun H' p' => ⟨(as.map V.ref).length - (i + 1), by omega, rfl, hlt, p'⟩, fun x H' y => ?_⟩
      obtain ⟨T, x1, x2, rfl, nT, rfl, y1, y2⟩ := wz.yields i H1 x H' hlt hG y
      obtain ⟨b, rfl, hb⟩ := ref_at y1
      obtain ⟨c, rfl, hc⟩ := int_at y2
      obtain ⟨p, hp, hpb⟩ := pair_at hP hb
      have s1 : Same H1 (upd H1 T (.tup [.ref b, .int c])) := same_new nT
      have hm : mOf t.places h p = c := mOf_at ok.nd hp hc
      refine ⟨T, _, rfl, .of upd_same, rfl, _, _, rfl, b, _, rfl, .of (s1 _ _ (e1 _ _ hpb)), rfl, _, _, rfl, _, _, rfl, rfl, _, _, rfl, rfl, rfl, .str p, rfl, .int c, rfl, _, Sum.inr p, rfl, s1 _ _ hd, ?_, ?_, ?_⟩
      · have e : sizeLine = 16777216 := sizeLine_eq
        unfold dK
        rw [List.length_map, List.length_take]
        omega
      · exact same_over nd (e1.trans s1)
      · rw [upd_same, ← hm, dK_snoc ok.nd hp]
    · have ei : i = (as.map V.ref).length := by omega
      subst ei
      refine .inl ⟨wz.stops H1 hG, ?_⟩
      have htk : t.places.take (as.map V.ref).length = t.places := List.take_of_length_le (by rw [List.length_map]; omega)
      rw [htk] at hd
      clear hG hlt hi
      -- the letter
      have dg : ∀ {H' : Hp} {m : Str → Int} {p : Str}, p ∈ t.places → H' d = some (.dK (dK t.places m)) → DGet H' d (.str p) (some (.int (m p))) := fun {H'} {m} {p} hp hd' => by
        have zz := DGet.k (k := Sum.inr p) hd'
        rw [dK_val hp] at zz
        exact zz
      have few : ∀ m : Str → Int, (dK t.places m).length < sizeLine := fun m => by
        have e : sizeLine = 16777216 := sizeLine_eq
        unfold dK
        rw [List.length_map]
        omega
      refine ⟨.ref d, rfl, .str z, rfl, d, .int (mOf t.places h z), rfl, dg hz hd, mOf t.places h z, 1, rfl, rfl, _, DPut.k (k := Sum.inr z) hd (few _), ?_⟩
      rw [dK_put hz]
      generalize hm0 : upM (mOf t.places h) z (mOf t.places h z + 1) = m0
      have e2 : Same H (upd H1 d (.dK (dK t.places m0))) := same_over nd e1
      have hd2 : (upd H1 d (.dK (dK t.places m0))) d = some (.dK (dK t.places m0)) := upd_same
      generalize upd H1 d (.dK (dK t.places m0)) = H2 at e2 hd2 ⊢
      refine ⟨(by show 0 ≤ sizeLine; decide), fun n nn => ?_⟩
      have s3 : Same H2 (upd H2 n (.tup [])) := same_new nn
      have hd3 := s3 _ _ hd2
      have e3 := e2.trans s3
      have hn3 : (upd H2 n (.tup [])) n = some (.tup []) := upd_same
      have nnd : n ≠ d := fun zz => by rw [zz, hd2] at nn; cases nn
      generalize upd H2 n (.tup []) = H3 at e3 hd3 hn3 ⊢
      -- the rules
      refine ⟨.ref a, rfl, a, _, 2, .ref ra, rfl, rfl, .of (e3 _ _ hA), rfl, ra, rfl, ⟨_, .of (e3 _ _ hRA)⟩, ?_⟩
      refine for_brk (walk_tup (xs := rs.map V.ref))
        (fun i σ H4 => ∃ v5 v6 : Option V, σ = frB a g z d n v5 v6 none none ∧ Same H H4 ∧ H4 d = some (.dK (dK t.places m0)) ∧ H4 n = some (.tup []) ∧ ∀ r ∈ t.rules.take i, (r.heads.all fun p => decide (0 < m0 p)) = false)
        (fun σ H4 => ∃ (n2 : Addr) (v5 v6 v7 v8 : Option V) (m2 : Str → Int) (ns : List V), σ = frB a g z d n2 v5 v6 v7 v8 ∧ Same H H4 ∧ H4 d = some (.dK (dK t.places m2)) ∧ H4 n2 = some (.tup ns) ∧ step1 t h z = (ns, t.places.map m2))
        ⟨none, none, rfl, e3, hd3, hn3, by simp⟩ (fun i σ H4 _ p => let ⟨_, _, _, e, _⟩ := p; .of (e _ _ hRA)) ?fin ?turn ?done
      case done =>
        rintro σ H4 ⟨v5, v6, rfl, e4, hd4, hn4, hno⟩
        refine ⟨n, v5, v6, none, none, m0, [], rfl, e4, hd4, hn4, ?_⟩
        have hlr : rs.length = t.rules.length := (pair_len hR).symm
        have hall : t.rules.take (rs.map V.ref).length = t.rules := List.take_of_length_le (by rw [List.length_map]; omega)
        rw [hall] at hno
        have hf : (t.rules.find? fun r => r.heads.all fun p => decide (0 < m0 p)) = none := by
          rw [List.find?_eq_none]
          intro r hr' hc
          rw [hno r hr'] at hc
          cases hc
        unfold step1
        dsimp only
        rw [hm0, hf]
      case fin =>
        rintro σ H4 ⟨n2, v5, v6, v7, v8, m2, ns, rfl, e4, hd4, hn4, hst⟩
        refine ⟨.ref n2, rfl, .ref a, rfl, a, _, 1, .ref pa, rfl, rfl, .of (e4 _ _ hA), rfl, pa, rfl, ⟨_, (hF.same e4).seq⟩, fun L nL => lc_map (walk_tup (xs := as.map V.ref)) ((t.places.map m2).map V.int) (by rw [List.length_map, List.length_map, List.length_map]; exact hlen.symm) nL (fun H5 e => ((hF.same e4).same e).seq) (fun j x H5 H6 hj e hL y => ?_) (fun H5 e5 hL => ?_)⟩
        · rw [List.length_map] at hj
          obtain ⟨rfl, hx⟩ := y
          obtain ⟨b, rfl, hb⟩ := ref_at hx
          obtain ⟨p, hp, hpb⟩ := pair_at hP hb
          refine ⟨b, _, rfl, .of (e _ _ (e4 _ _ hpb)), rfl, _, _, rfl, _, _, rfl, rfl, rfl, .ref d, rfl, .str p, rfl, d, .int (m2 p), rfl, dg (List.mem_of_getElem? hp) (e _ _ hd4), ?_⟩
          exact lc_post nL (by omega) e hL (Same.refl _) (by rw [List.getElem?_map, List.getElem?_map, hp]; rfl)
        · refine ⟨L, _, rfl, .inl ⟨.of hL, fun g2 ng => ⟨(by show 2 ≤ sizeLine; decide), fun r nr => ?_⟩⟩⟩
          have s6 := same_new (o := .tup ((t.places.map m2).map V.int)) ng
          have s7 := same_new (o := .tup [.ref n2, .ref g2]) nr
          refine q _ r n2 g2 (e4.trans (e5.trans (s6.trans s7))) upd_same ?_ ?_
          · rw [hst]
            exact s7 _ _ (s6 _ _ (e5 _ _ hn4))
          · rw [hst]
            exact s7 _ _ upd_same
      case turn =>
        rintro fin i x σ H5 H4 hi ⟨v5, v6, rfl, e4, hd4, hn4, hno⟩ ⟨rfl, hx⟩
        rw [List.length_map] at hi
        obtain ⟨b, rfl, hb⟩ := ref_at hx
        obtain ⟨r, hr1, hrb⟩ := pair_at hR hb
        have rok := ok.rules r (List.mem_of_getElem? hr1)
        have hhi := rok.hi
        obtain ⟨ha, da, hB, ⟨hs, hHA, hHP⟩, ds, hDA, hDP⟩ := hrb.same e4
        have hhl : hs.length = r.heads.length := (pair_len hHP).symm
        refine ⟨b, _, rfl, .of hB, rfl, _, _, rfl, _, _, rfl, rfl, ?_⟩
        refine ⟨.ref ha, rfl, ha, rfl, ⟨_, .of hHA⟩, fun L nL => lc_map (walk_tup (xs := hs.map V.ref)) ((r.heads.map fun p => decide (m0 p > 0)).map V.bl) (by rw [List.length_map, List.length_map, List.length_map]; exact hhl.symm) nL (fun H6 e => .of (e _ _ hHA)) (fun j x H6 H7 hj e hL y => ?_) (fun H6 e6 hL => ?_)⟩
        · rw [List.length_map] at hj
          obtain ⟨rfl, hx⟩ := y
          obtain ⟨c, rfl, hc⟩ := ref_at hx
          obtain ⟨p, hp, c2, hpc, hpe⟩ := pair_at hHP hc
          refine ⟨c, _, rfl, .of (e _ _ hpc), rfl, _, _, rfl, _, _, rfl, rfl, rfl, .ref d, rfl, .str p, rfl, d, .int (m0 p), rfl, dg (rok.sub p (List.mem_of_getElem? hp)) (e _ _ hd4), m0 p, 0, rfl, rfl, ?_⟩
          exact lc_post nL (by omega) e hL (Same.refl _) (by rw [List.getElem?_map, List.getElem?_map, hp]; rfl)
        · refine ⟨L, _, rfl, .of hL, (r.heads.map fun p => decide (m0 p > 0)).all id, rfl, ?_⟩
          have e46 := e4.trans e6
          cases hc : (r.heads.map fun p => decide (m0 p > 0)).all id with
          | false =>
            refine iteF ?_
            refine ⟨_, _, rfl, e46, e6 _ _ hd4, e6 _ _ hn4, fun r' hr' => ?_⟩
            rw [List.take_add_one, hr1] at hr'
            rcases List.mem_append.mp hr' with hr2 | hr2
            · exact hno r' hr2
            · have er : r' = r := by simpa using hr2
              subst er
              rw [← all_map_dec]
              exact hc
          | true =>
            refine iteT ?_
            have hstep : step1 t h z = (r.notes, t.places.map (took m0 r.heads)) := by
              have hf : (t.rules.find? fun r => r.heads.all fun p => decide (0 < m0 p)) = some r := find_at hr1 (by rw [← all_map_dec]; exact hc) hno
              unfold step1
              dsimp only
              rw [hm0, hf]
            -- the heads are taken
            have nda : ∀ c o, H4 c = some o → (∀ k, o ≠ .dK k) → c ≠ d := fun c o hc' hk zz => by
              rw [zz, hd4] at hc'
              cases hc'
              exact hk _ rfl
            refine ⟨.ref ha, rfl, ha, rfl, ⟨_, .of (e6 _ _ hHA)⟩, ?_⟩
            refine for_it (walk_tup (xs := hs.map V.ref)) (fun j σ H7 => ∃ v7 v8 : Option V, σ = frB a g z d n (some (.ref ha)) (some (.ref da)) v7 v8 ∧ Same H H7 ∧ H7 d = some (.dK (dK t.places (took m0 (r.heads.take j)))) ∧ ∀ c o, c ≠ d → H4 c = some o → H7 c = some o)
              ⟨none, none, rfl, e46, e6 _ _ hd4, fun c o _ hc' => e6 _ _ hc'⟩ (fun j σ H7 _ p => let ⟨_, _, _, _, _, k⟩ := p; .of (k _ _ (nda _ _ hHA fun _ zz => nomatch zz) hHA)) ?_ ?_
            · rintro j x σ H8 H7 hj ⟨v7, v8, rfl, e7, hd7, k7⟩ ⟨rfl, hx⟩
              obtain ⟨c, rfl, hc'⟩ := ref_at hx
              obtain ⟨p, hp, c2, hpc, hpe⟩ := pair_at hHP hc'
              have hpp := rok.sub p (List.mem_of_getElem? hp)
              refine ⟨c, _, rfl, .of (k7 _ _ (nda _ _ hpc fun _ zz => nomatch zz) hpc), rfl, _, _, rfl, _, _, rfl, rfl, ?_⟩
              refine ⟨.ref d, rfl, .str p, rfl, d, .int (took m0 (r.heads.take j) p), rfl, dg hpp hd7, took m0 (r.heads.take j) p, 1, rfl, rfl, _, DPut.k (k := Sum.inr p) hd7 (few _), ?_⟩
              rw [dK_put hpp]
              refine ⟨_, _, rfl, same_over nd e7, ?_, fun c o hc1 hc2 => ?_⟩
              · rw [upd_same, List.take_add_one, hp]
                show _ = some (HO.dK (dK t.places (took m0 (r.heads.take j ++ [p]))))
                rw [took_snoc]
              · rw [upd_ne hc1]
                exact k7 c o hc1 hc2
            · rintro σ H7 ⟨v7, v8, rfl, e7, hd7, k7⟩
              have htk2 : r.heads.take (hs.map V.ref).length = r.heads := List.take_of_length_le (by rw [List.length_map]; omega)
              rw [htk2] at hd7
              have hDA7 := k7 _ _ (nda _ _ hDA fun _ zz => nomatch zz) hDA
              have hdl : ds.length = r.notes.length := (pair_len hDP).symm
              have fewn := rok.few
              refine ⟨.ref da, rfl, da, rfl, ⟨_, .of hDA7⟩, fun M nM => lc_map (walk_tup (xs := ds.map V.ref)) r.notes (by rw [List.length_map]; exact hdl.symm) nM (fun H8 e => .of (e _ _ hDA7)) (fun j x H8 H9 hj e hM y => ?_) (fun H8 e8 hM => ?_)⟩
              · rw [List.length_map] at hj
                obtain ⟨rfl, hx⟩ := y
                obtain ⟨c, rfl, hc'⟩ := ref_at hx
                obtain ⟨x, hx1, c2, hc1, hc2⟩ := pair_at hDP hc'
                refine ⟨rfl, .ref c, rfl, c, _, 1, .ref c2, rfl, rfl, .of (e _ _ (k7 _ _ (nda _ _ hc1 fun _ zz => nomatch zz) hc1)), rfl, c2, _, 1, x, rfl, rfl, .of (e _ _ (k7 _ _ (nda _ _ hc2 fun _ zz => nomatch zz) hc2)), rfl, ?_⟩
                exact lc_post nM (by omega) e hM (Same.refl _) hx1
              · refine ⟨M, _, rfl, .inl ⟨.of hM, fun n2 nn2 => ?_⟩⟩
                have s9 := same_new (o := .tup r.notes) nn2
                refine fin _ _ ⟨n2, _, _, v7, v8, took m0 r.heads, r.notes, rfl, e7.trans (e8.trans s9), s9 _ _ (e8 _ _ hd7), upd_same, hstep⟩
end
end Wm
namespace Wm
open PySem PySem.Spec PyProof.Rows L2

/-- defs that call repr: where no repr is under way -/
structure CallG (P : Program) (w : World) (K : PySem.W.Frag) (mg : Str → Option Value) (base : Heap) (j : Nat) (x : Str) (ps : List Str) (sp : Sp) : Prop where
  ex : ∃ f fd, FnG P w K mg base CX0 j f fd ps sp ∧ mg x = some (.ref f) ∧ PySem.W.keepIn K (.ref f) = true ∧ Binds K fd ps []
section
variable {P : Program} {w : World} {K : PySem.W.Frag} {mg : Str → Option Value} {base : Heap} {j : Nat} {x : Str} {ps : List Str} {sp : Sp}
theorem CallG.of {st : Stmt} (D : DefAt K mg x st ps) (h : ∀ f fd, Fun K x x st f fd → FnG P w K mg base CX0 j f fd ps sp) : CallG P w K mg base j x ps sp :=
  let ⟨f, fd, F, m, b⟩ := D.ex
  ⟨f, fd, h f fd F, m, F.kp, b⟩
end
theorem pe_kG {X : Cx} {j k : Nat} {x : Str} {ps : List Str} {sp : Sp} {p pos : Pos} {e : Expr} {es : List Expr} {t : TA} (hgu : X.A.guards = some []) (C : CallG X.prog X.w X.K X.mg X.base j x ps sp) (hr : Room k X.A) (hg : Gl X x) (ha : PA X (e :: es) t) (hj : j ≤ k := by decide)
    (hdb : (x == ("__debug__" : Str)) = false := by decide) (he : starEach (e :: es) X.env = (false, eval e X.env) :: starEach es X.env := by rfl) (hpl : (backTo pos (starEach es X.env)).any (·.1) = false := by rfl) :
    PE X (.Call (.Name x p) (e :: es) [] pos) (tCall sp [] E0 t) := by
  obtain ⟨f, fd, F, m, kp, b⟩ := C.ex
  exact pe_callG hgu F (hr.mono hj) hg m kp b pass0 ha hdb he hpl

section
variable {P : Program} {w : World} {K : PySem.W.Frag} {mg : Str → Option Value} {base : Heap}
/-! ### both_behind -/
/-- two tellers of the same places -/
structure Two (H : Hp) (ta tb : Tel) (a b : Addr) : Prop where
  a : TelAt H ta a
  b : TelAt H tb b
  oa : TelOk ta
  ob : TelOk tb
  pm : ta.places.Perm tb.places
theorem Two.same {H H' : Hp} {ta tb : Tel} {a b : Addr} (e : Same H H') (h : Two H ta tb a b) : Two H' ta tb a b := ⟨h.a.same e, h.b.same e, h.oa, h.ob, h.pm⟩
/-- a pair of heaps of two tellers -/
structure PairOk (ta tb : Tel) (p : NP) : Prop where
  l1 : p.1.length = ta.places.length
  l2 : p.2.length = tb.places.length
  n1 : ∀ x ∈ p.1, 0 ≤ x
  n2 : ∀ x ∈ p.2, 0 ≤ x
theorem step2_ok {ta tb : Tel} {p : NP} (oa : TelOk ta) (ob : TelOk tb) (h : PairOk ta tb p) (z : Str) : PairOk ta tb (step2 ta tb p z).2 :=
  ⟨step1_len .., step1_len .., step1_nn oa h.n1 z, step1_nn ob h.n2 z⟩
def spBoth : Sp := fun vs H Q _ => ∃ (a b c : Addr) (z : Str) (ta tb : Tel) (p : NP), vs = [.ref a, .ref b, .ref c, .str z] ∧ Two H ta tb a b ∧ PairAt H p c ∧ PairOk ta tb p ∧ z ∈ ta.places ∧
  ∀ H' r q, Same H H' → H' r = some (.tup [.bl (step2 ta tb p z).1, .ref q]) → PairAt H' (step2 ta tb p z).2 q → Q (.ref r) H'
theorem scBoth : FnScope ["one", "other", "pair", "word", "first", "heap", "second", "mate"] ["one", "other", "pair", "word"] (defScope (topS 54)) := ⟨rfl, rfl, rfl, by decide +kernel, rfl, by decide +kernel, by decide +kernel⟩
theorem c_both (D : DefAt K mg "both_behind" (topS 54) ["one", "other", "pair", "word"]) (B : Blt mg) (C1 : Callable P w K mg base 1 "behind_letter" ["teller", "heap", "word"] spBehind) : CallG P w K mg base 2 "both_behind" ["one", "other", "pair", "word"] spBoth := by
  refine .of D fun f fd F => okG F scBoth (fun vs H Q E h => ?_) (fun cdv A outer s H vs Q E hr hgd h => ?_)
  · obtain ⟨a, b, c, z, ta, tb, p, rfl, _⟩ := h
    rfl
  · obtain ⟨a, b, c, z, ta, tb, p, rfl, W, ⟨c1, c2, hc, hc1, hc2⟩, po, hz, q⟩ := h
    have hu := hr.units
    refine ⟨_, pss_cons (ps_asg (pe_k C1 hr (by rfl) (pa_cons (pv 0) (pa_cons (pe_ix ix_tup (pv 2) pe_int (fun _ _ => rfl)) (pa_cons (pv 3) pa_nil)))) (pg_tup rfl (pgs_cons (pg_name (i := 4) scBoth.nd rfl (Or.inl rfl)) (pgs_cons (pg_name (i := 5) scBoth.nd rfl (Or.inl rfl)) pgs_nil))))
      (pss_cons (ps_asg (pe_k C1 hr (by rfl) (pa_cons (pv 1) (pa_cons (pe_ix ix_tup (pv 2) pe_int (fun _ _ => rfl)) (pa_cons (pv 3) pa_nil)))) (pg_tup rfl (pgs_cons (pg_name (i := 6) scBoth.nd rfl (Or.inl rfl)) (pgs_cons (pg_name (i := 7) scBoth.nd rfl (Or.inl rfl)) pgs_nil))))
      (pss_one (ps_ret (pe_tup (pa_cons (pe_cmpR op_eq (pe_callB (cr_repr hgd hu) (by rfl) B.repr (by decide +kernel) (pa_cons (pv 4) pa_nil)) (pe_callB (cr_repr hgd hu) (by rfl) B.repr (by decide +kernel) (pa_cons (pv 6) pa_nil)) (nomark _))
        (pa_cons (pe_tup (pa_cons (pv 5) (pa_cons (pv 7) pa_nil))) pa_nil)))))), ?_⟩
    refine ⟨.ref a, rfl, .ref c, rfl, c, _, 0, .ref c1, rfl, rfl, .of hc, rfl, .str z, rfl, a, c1, z, ta, p.1, rfl, W.a, W.oa, hc1, po.l1, hz, fun H1 r1 n1 g1 e1 hr1 hn1 hg1 => ?_⟩
    refine ⟨r1, _, rfl, .of hr1, rfl, _, _, rfl, _, _, rfl, rfl, ?_⟩
    refine ⟨.ref b, rfl, .ref c, rfl, c, _, 1, .ref c2, rfl, rfl, .of (e1 _ _ hc), rfl, .str z, rfl, b, c2, z, tb, p.2, rfl, W.b.same e1, W.ob, e1 _ _ hc2, po.l2, W.pm.mem_iff.mp hz, fun H2 r2 n2 g2 e2 hr2 hn2 hg2 => ?_⟩
    obtain ⟨k1, k2⟩ := step1_notes W.oa p.1 z
    obtain ⟨k3, k4⟩ := step1_notes W.ob p.2 z
    refine ⟨r2, _, rfl, .of hr2, rfl, _, _, rfl, _, _, rfl, rfl, ?_⟩
    refine ⟨.ref n1, rfl, n1, _, rfl, .of (e2 _ _ hn1), k1, by omega, .ref n2, rfl, n2, _, rfl, .of hn2, k3, by omega, rfl, ?_⟩
    refine ⟨.ref g1, rfl, .ref g2, rfl, (by show 2 ≤ sizeLine; decide), fun q1 nq => ⟨(by show 2 ≤ sizeLine; decide), fun r nr => ?_⟩⟩
    have s3 := same_new (o := .tup [.ref g1, .ref g2]) nq
    have s4 := same_new (o := .tup [.bl (decide (V.str (reprL (step1 ta p.1 z).1) = V.str (reprL (step1 tb p.2 z).1))), .ref q1]) nr
    have e34 := s3.trans s4
    refine q _ r q1 (e1.trans (e2.trans e34)) ?_ ⟨g1, g2, s4 _ _ upd_same, e34 _ _ (e2 _ _ hg1), e34 _ _ hg2⟩
    rw [upd_same]
    have e5 : decide (V.str (reprL (step1 ta p.1 z).1) = V.str (reprL (step1 tb p.2 z).1)) = (step2 ta tb p z).1 := by
      show _ = decide (reprL (step1 ta p.1 z).1 = reprL (step1 tb p.2 z).1)
      rw [decide_eq_decide]
      exact ⟨fun e => V.str.inj e, fun e => by rw [e]⟩
    rw [e5]

/-! ### is_low -/
def spLow : Sp := fun vs H Q _ => ∃ (c : Addr) (n : Int) (p : NP), vs = [.ref c, .int n] ∧ PairAt H p c ∧ 1 ≤ p.1.length ∧ p.1.length ≤ 3 ∧ 1 ≤ p.2.length ∧ p.2.length ≤ 3 ∧ ∀ H', Same H H' → Q (.bl (low n p)) H'
theorem scLow : FnScope ["pair", "within"] ["pair", "within"] (defScope (topS 55)) := ⟨rfl, rfl, rfl, by decide +kernel, rfl, by decide +kernel, by decide +kernel⟩
theorem c_low (D : DefAt K mg "is_low" (topS 55) ["pair", "within"]) (B : Blt mg) : Callable P w K mg base 1 "is_low" ["pair", "within"] spLow := by
  refine .of D fun f fd F => F.ok scLow (fun vs H Q E h => ?_) (fun cdv A outer s H vs Q E hr h => ?_)
  · obtain ⟨c, n, p, rfl, _⟩ := h
    rfl
  · obtain ⟨c, n, p, rfl, ⟨c1, c2, hc, hc1, hc2⟩, l1, l2, l3, l4, q⟩ := h
    refine ⟨_, pss_one (ps_ret (pe_cmpR op_le (pe_callB (cr_maxT rfl) (by rfl) B.max (by decide +kernel) (pa_cons (pe_op op_catA (pe_ix ix_tup (pv 0) pe_int (fun _ _ => rfl)) (pe_ix ix_tup (pv 0) pe_int (fun _ _ => rfl))) pa_nil)) (pv 1) (nomark _))), ?_⟩
    have z1 : p.1.map V.int ≠ [] := fun e => by
      have := congrArg List.length e
      rw [List.length_map] at this
      simp at this
      rw [this] at l1
      simp at l1
    have z2 : p.2.map V.int ≠ [] := fun e => by
      have := congrArg List.length e
      rw [List.length_map] at this
      simp at this
      rw [this] at l3
      simp at l3
    refine ⟨.ref c, rfl, c, _, 0, .ref c1, rfl, rfl, .of hc, rfl, .ref c, rfl, c, _, 1, .ref c2, rfl, rfl, .of hc, rfl, c1, c2, _, _, rfl, rfl, .of hc1, .of hc2, by rw [List.length_map, List.length_map, sizeLine_eq]; omega, fun e => absurd e z1, fun _ e => absurd e z2, fun _ _ t nt => ?_⟩
    refine ⟨t, p.1 ++ p.2, rfl, .of (by rw [upd_same, List.map_append]), by rw [List.length_append]; omega, fun m hm hle => ⟨.int n, rfl, m, n, rfl, rfl, ?_⟩⟩
    have e : decide (m ≤ n) = low n p := by
      unfold low
      rw [Bool.eq_iff_iff, decide_eq_true_eq, List.all_eq_true]
      constructor
      · intro h x hx
        have := hle x hx
        rw [decide_eq_true_eq]
        omega
      · exact fun h => of_decide_eq_true (h m hm)
    show Q (.bl (decide (m ≤ n))) _
    rw [e]
    exact q _ (same_new nt)

/-! ### look_at_both -/
def spLookBoth : Sp := fun vs H Q _ => ∃ (a b : Addr) (ta tb : Tel) (n : Int), vs = [.ref a, .ref b, .int n] ∧ Two H ta tb a b ∧ 1 ≤ n ∧ n ≤ 3 ∧ ∀ H', Same H H' → Q .non H'
theorem scLookBoth : FnScope ["one", "other", "within"] ["one", "other", "within"] (defScope (topS 53)) := ⟨rfl, rfl, rfl, by decide +kernel, rfl, by decide +kernel, by decide +kernel⟩
theorem words_dp {H : Hp} : ∀ {l : List Str}, DpAll K H (l.map V.str) (l.map PyData.str)
  | [] => .nil
  | _ :: _ => .cons (.str _) words_dp
theorem word_lay {p : Str} (h : WordOk p) : PyData.strOk p = true := by
  unfold PyData.strOk
  rw [← Array.all_toList, List.all_eq_true]
  intro c hc
  have h1 := h.sg c hc
  have h2 : ∀ c ∈ signs.cps.toList, c < 0x110000 := by decide +kernel
  exact decide_eq_true (h2 c h1)
theorem words_lay {l : List Str} (h : ∀ p ∈ l, WordOk p) : PyData.canLayAll0 (l.map PyData.str) = true ∧ PyData.depthAll (l.map PyData.str) = 0 := by
  induction l with
  | nil => exact ⟨rfl, rfl⟩
  | cons p l ih =>
    obtain ⟨i1, i2⟩ := ih fun q hq => h q (List.mem_cons_of_mem _ hq)
    have hp := word_lay (h p List.mem_cons_self)
    rw [List.map_cons]
    simp [PyData.canLayAll0, PyData.depthAll, PyData.canLay0, PyData.depth, i1, i2, hp]
theorem words_shaped {l : List Str} (h : ∀ p ∈ l, WordOk p) : SeqAt.shaped (.list (l.map PyData.str)) = true := by
  obtain ⟨i1, i2⟩ := words_lay h
  simp [SeqAt.shaped, PyData.canLay0, PyData.depth, i1, i2]
theorem str_le {a b : Str} (h1 : ltCps b.cps.toList a.cps.toList = false) (h2 : ltCps a.cps.toList b.cps.toList = false) : a = b := by
  rw [ltCps_eq, decide_eq_false_iff_not] at h1 h2
  have h3 : a.cps.toList = b.cps.toList := List.le_antisymm h1 h2
  cases a
  cases b
  exact congrArg Str.mk (Array.toList_inj.mp h3)
theorem rising_pw : ∀ {p : Str} {l : List Str}, risingS p l = true → (p :: l).Pairwise fun a b => ltCps b.cps.toList a.cps.toList = false
  | p, [], _ => List.pairwise_singleton _ _
  | p, x :: r, h => by
    have h' : (!ltCps x.cps.toList p.cps.toList && risingS x r) = true := h
    rw [Bool.and_eq_true] at h'
    have ih := rising_pw h'.2
    have hx : ltCps x.cps.toList p.cps.toList = false := by simpa using h'.1
    refine List.pairwise_cons.mpr ⟨fun y hy => ?_, ih⟩
    rcases List.mem_cons.mp hy with e | e
    · rw [e]
      exact hx
    · have hy2 := (List.pairwise_cons.mp ih).1 y e
      rw [ltCps_eq, decide_eq_false_iff_not] at hx hy2 ⊢
      exact List.le_trans (l₁ := p.cps.toList) (l₂ := x.cps.toList) (l₃ := y.cps.toList) hx hy2
theorem sorted_one {l m : List Str} (h1 : sortedS l = true) (h2 : sortedS m = true) (p : l.Perm m) : l = m := by
  have pw : ∀ {l : List Str}, sortedS l = true → l.Pairwise fun a b => ltCps b.cps.toList a.cps.toList = false := fun {l} h => by
    cases l with
    | nil => exact .nil
    | cons x r => exact rising_pw h
  exact List.Perm.eq_of_pairwise (fun a b _ _ => str_le) (pw h1) (pw h2) p
theorem c_lookBoth (D : DefAt K mg "look_at_both" (topS 53) ["one", "other", "within"]) (B : Blt mg) (S : Cst mg) (C1 : Callable P w K mg base 11 "look_at_teller" ["thing"] spLook) (C2 : Callable P w K mg base 1 "words_of" ["teller"] spWordsOf) (C3 : Callable P w K mg base 1 "is_whole" ["thing"] spWhole) :
    Callable P w K mg base 12 "look_at_both" ["one", "other", "within"] spLookBoth := by
  refine .of D fun f fd F => F.ok scLookBoth (fun vs H Q E h => ?_) (fun cdv A outer s H vs Q E hr h => ?_)
  · obtain ⟨a, b, ta, tb, n, rfl, _⟩ := h
    rfl
  · obtain ⟨a, b, ta, tb, n, rfl, W, n1, n3, q⟩ := h
    have hu := hr.units
    obtain ⟨t3, g3⟩ := S.within
    refine ⟨_, pss_cons (ps_expr (pe_k C1 hr (by rfl) (pa_cons (pv 0) pa_nil))) (pss_cons (ps_expr (pe_k C1 hr (by rfl) (pa_cons (pv 1) pa_nil)))
      (pss_cons (ps_if (pt_cmpR (op_neD hu) (pe_callB cr_sortedS (by rfl) B.sorted (by decide +kernel) (pa_cons (pe_k C2 hr (by rfl) (pa_cons (pv 0) pa_nil)) pa_nil)) (pe_callB cr_sortedS (by rfl) B.sorted (by decide +kernel) (pa_cons (pe_k C2 hr (by rfl) (pa_cons (pv 1) pa_nil)) pa_nil)) (nomark _)) pss_never pss_nil)
      (pss_one (ps_if (PW.pt (pw_or (pt_not (pt_val (pe_k C3 hr (by rfl) (pa_cons (pv 2) pa_nil)))) (pw_or1 (pt_not (pt_chain op_le op_le pe_int (pv 2) (pe_gint (by rfl) g3)))))) pss_never pss_nil)))), ?_⟩
    have l3 := W.oa.hi
    have l4 := W.ob.hi
    refine ⟨.ref a, rfl, a, ta, rfl, W.a, W.oa, fun H1 e1 => ?_⟩
    refine ⟨.ref b, rfl, b, tb, rfl, W.b.same e1, W.ob, fun H2 e2 => ?_⟩
    have e12 := e1.trans e2
    refine ⟨.ref a, rfl, a, ta, rfl, W.a.same e12, W.oa, fun H3 x e3 nx hx => ?_⟩
    refine ⟨x, ta.places, rfl, .of hx, by omega, fun ys p py sy np => ?_⟩
    have s4 := same_new (o := .lst (ys.map V.str)) np
    have e4 := e12.trans (e3.trans s4)
    refine ⟨.ref b, rfl, b, tb, rfl, W.b.same e4, W.ob, fun H5 x5 e5 nx5 hx5 => ?_⟩
    refine ⟨x5, tb.places, rfl, .of hx5, by omega, fun zs p6 pz sz np6 => ?_⟩
    have s6 := same_new (o := .lst (zs.map V.str)) np6
    have eyz : zs = ys := sorted_one sz sy (pz.trans (W.pm.symm.trans py.symm))
    subst eyz
    have wl : SeqAt.shaped (.list (zs.map PyData.str)) = true := words_shaped fun p hp => W.ob.words p (pz.mem_iff.mp hp)
    have er : PyData.eqv (.list (zs.map PyData.str)) (.list (zs.map PyData.str)) = true := SeqAt.eqv_refl _ (SeqAt.canLay_of_shaped wl)
    refine ⟨.list (zs.map PyData.str), .list (zs.map PyData.str), .lst (.of (s6 _ _ (e5 _ _ upd_same))) words_dp, .lst (.of upd_same) words_dp, wl, wl, false, by rw [er]; rfl, iteF ?_⟩
    refine ⟨.int n, rfl, n, rfl, true, rfl, iteF ?_⟩
    refine ⟨.int n, rfl, 1, n, rfl, rfl, true, congrArg V.bl (decide_eq_true n1), iteT ⟨n, 3, rfl, rfl, true, congrArg V.bl (decide_eq_true n3), iteF ?_⟩⟩
    exact q _ (e4.trans (e5.trans s6))
end
end Wm
namespace Wm
open PySem PySem.Spec PyProof.Rows L2

/-! ### defs with a keyword -/
structure CallGK (P : Program) (w : World) (K : PySem.W.Frag) (mg : Str → Option Value) (base : Heap) (j : Nat) (x : Str) (ps ks : List Str) (n : Nat) (sp : Sp) : Prop where
  ex : ∃ f fd, FnG P w K mg base CX0 j f fd ps sp ∧ mg x = some (.ref f) ∧ PySem.W.keepIn K (.ref f) = true ∧ ∀ (s : Shared) (us ws : List Value), us.length = n → ws.length = ks.length → (us ++ ws).length = ps.length → BindsTo s fd ⟨us, ks.zip ws⟩ (ps.zip (us ++ ws))
structure DefAtK (K : PySem.W.Frag) (mg : Str → Option Value) (x : Str) (st : Stmt) (ps ks : List Str) (n : Nat) : Prop where
  ex : ∃ f fd, FunK K x x st f fd ∧ mg x = some (.ref f) ∧ ∀ (s : Shared) (us ws : List Value), us.length = n → ws.length = ks.length → (us ++ ws).length = ps.length → BindsTo s fd ⟨us, ks.zip ws⟩ (ps.zip (us ++ ws))
section
variable {P : Program} {w : World} {K : PySem.W.Frag} {mg : Str → Option Value} {base : Heap} {j n : Nat} {x : Str} {ps ks : List Str} {sp : Sp}
theorem CallGK.of {st : Stmt} (D : DefAtK K mg x st ps ks n) (h : ∀ f fd, FunK K x x st f fd → FnG P w K mg base CX0 j f fd ps sp) : CallGK P w K mg base j x ps ks n sp :=
  let ⟨f, fd, F, m, b⟩ := D.ex
  ⟨f, fd, h f fd F, m, F.kp, b⟩
end
theorem pe_kGK {X : Cx} {j k n : Nat} {x : Str} {ps ks : List Str} {sp : Sp} {p pos : Pos} {e : Expr} {es : List Expr} {kws : List Keyword} {t tk : TA} (hgu : X.A.guards = some []) (C : CallGK X.prog X.w X.K X.mg X.base j x ps ks n sp) (hr : Room k X.A) (hg : Gl X x)
    (ha : PA X (e :: es) t) (hkw : PK X kws tk) (hn : n + ks.length = ps.length := by rfl) (hj : j ≤ k := by decide)
    (hall : (backToKw pos (keywordEach kws X.env)).all (·.1.isSome) = true := by rfl) (hks : (backToKw pos (keywordEach kws X.env)).filterMap (·.1) = ks := by rfl)
    (hdb : (x == ("__debug__" : Str)) = false := by decide) (he : starEach (e :: es) X.env = (false, eval e X.env) :: starEach es X.env := by rfl)
    (hpl : ((backTo pos (starEach (e :: es) X.env)).any (·.1) || (backToKw pos (keywordEach kws X.env)).any (·.1.isNone)) = false := by rfl) :
    PE X (.Call (.Name x p) (e :: es) kws pos) (tCallGK n sp E0 t tk) := by
  obtain ⟨f, fd, F, m, kp, b⟩ := C.ex
  exact pe_callGK hgu F (hr.mono hj) hg m kp b hn pass0 ha hkw hall hks hdb he hpl

/-! ### the search in the heap -/
theorem RowsAt.keep {P : Program} {w : World} {H H' : Hp} {d : Addr} {kvs : List (NP × V)} (ht : ∀ b xs, H b = some (.tup xs) → H' b = some (.tup xs)) (hd : ∀ u, H d = some u → H' d = some u) (h : RowsAt P w H d kvs) : RowsAt P w H' d kvs :=
  let ⟨h1, h2, xs, h3, h4⟩ := h
  ⟨h1, h2, xs, hd _ h3, Paired.mapP h4 fun _ _ z => ⟨z.1, let ⟨a1, a2, g1, g2, g3⟩ := z.2.1; ⟨a1, a2, ht _ _ g1, ht _ _ g2, ht _ _ g3⟩, z.2.2⟩⟩
theorem lookup_mem {p : NP} {v : V} : ∀ {kvs : List (NP × V)}, kvs.lookup p = some v → (p, v) ∈ kvs
  | [], h => nomatch h
  | (q, y) :: kvs, h => by
    by_cases e : p = q
    · subst e
      simp [List.lookup] at h
      subst h
      exact List.mem_cons_self
    · have hb : (p == q) = false := beq_eq_false_iff_ne.mpr e
      simp [List.lookup, hb] at h
      exact List.mem_cons_of_mem _ (lookup_mem h)
structure SearchAt (P : Program) (w : World) (H : Hp) (L D : Addr) (ps : List NP) (ro : NP → List Str) (as : List Addr) (kvs : List (NP × V)) : Prop where
  li : H L = some (.lst (as.map V.ref))
  pa : Paired (PairAt H) ps as
  rw : RowsAt P w H D kvs
  ks : kvs.map (·.1) = ps
  vs : ∀ kv ∈ kvs, ∃ l, kv.2 = .ref l ∧ H l = some (.lst ((ro kv.1).map V.str)) ∧ l ≠ L
section
variable {P : Program} {w : World} {H H' : Hp} {L D : Addr} {ps : List NP} {ro ro' : NP → List Str} {as : List Addr} {kvs : List (NP × V)}
theorem SearchAt.same (e : Same H H') (S : SearchAt P w H L D ps ro as kvs) : SearchAt P w H' L D ps ro as kvs :=
  ⟨e _ _ S.li, pair_mono S.pa fun _ _ z => z.same e, S.rw.same e, S.ks, fun kv h => let ⟨l, h1, h2, h3⟩ := S.vs kv h; ⟨l, h1, e _ _ h2, h3⟩⟩
theorem SearchAt.row (S : SearchAt P w H L D ps ro as kvs) {p : NP} (h : p ∈ ps) : ∃ l, kvs.lookup p = some (.ref l) ∧ H l = some (.lst ((ro p).map V.str)) ∧ l ≠ L := by
  rw [← S.ks] at h
  obtain ⟨v, hv⟩ := lookup_of_mem h
  obtain ⟨l, h1, h2, h3⟩ := S.vs _ (lookup_mem hv)
  have e : v = .ref l := h1
  rw [e] at hv
  exact ⟨l, hv, h2, h3⟩
theorem SearchAt.add (S : SearchAt P w H L D ps ro as kvs) {q r : Addr} {x : NP} {o' : HO} (hq : PairAt H x q) (hr : H r = some (.lst ((ro' x).map V.str))) (rL : r ≠ L) (e2 : ∀ p ∈ ps, ro' p = ro p)
    (keep : ∀ b xs, H b = some (.tup xs) → upd H D o' b = some (.tup xs)) (hR : RowsAt P w (upd H D o') D (kvs ++ [(x, V.ref r)])) :
    SearchAt P w (upd (upd H D o') L (.lst (as.map V.ref ++ [.ref q]))) L D (ps ++ [x]) ro' (as ++ [q]) (kvs ++ [(x, V.ref r)]) := by
  obtain ⟨_, _, xs, hD, _⟩ := S.rw
  have nLD : L ≠ D := ne_of S.li hD (fun z => nomatch z)
  have tk : ∀ b xs, H b = some (.tup xs) → upd (upd H D o') L (.lst (as.map V.ref ++ [.ref q])) b = some (.tup xs) := fun b xs z => by
    rw [upd_ne (ne_of z S.li (fun z => nomatch z))]
    exact keep b xs z
  have lk : ∀ l xs, l ≠ L → H l = some (.lst xs) → upd (upd H D o') L (.lst (as.map V.ref ++ [.ref q])) l = some (.lst xs) := fun l xs hl z => by
    rw [upd_ne hl, upd_ne (ne_of z hD (fun z => nomatch z))]
    exact z
  have pk : ∀ {p : NP} {a : Addr}, PairAt H p a → PairAt (upd (upd H D o') L (.lst (as.map V.ref ++ [.ref q]))) p a := fun ⟨a1, a2, g1, g2, g3⟩ => ⟨a1, a2, tk _ _ g1, tk _ _ g2, tk _ _ g3⟩
  refine ⟨by rw [upd_same, List.map_append]; rfl, Paired.snoc (pk hq) (pair_mono S.pa fun _ _ z => pk z), ?_, by rw [List.map_append, S.ks]; rfl, fun kv h => ?_⟩
  · refine RowsAt.keep (fun b xs z => ?_) (fun u z => ?_) hR
    · by_cases hb : b = L
      · exfalso
        rw [hb, upd_ne nLD, S.li] at z
        cases z
      · rw [upd_ne hb]
        exact z
    · rw [upd_ne nLD.symm]
      exact z
  · rcases List.mem_append.mp h with h | h
    · obtain ⟨l, h1, h2, h3⟩ := S.vs kv h
      have hm : kv.1 ∈ ps := by
        rw [← S.ks]
        exact List.mem_map_of_mem h
      exact ⟨l, h1, by rw [e2 _ hm]; exact lk _ _ h3 h2, h3⟩
    · have e : kv = (x, V.ref r) := by simpa using h
      subst e
      exact ⟨r, rfl, lk _ _ rL hr, rL⟩
end

/-! ### the search by the tellers -/
abbrev p00 (ta tb : Tel) : NP := (zero ta, zero tb)
abbrev PartsT (ta tb : Tel) (n : Int) (r : List Str) : Prop := Parts ta.places (step2 ta tb) (low n) (p00 ta tb) r
structure Look (ta tb : Tel) (n : Int) (ps : List NP) (ro : NP → List Str) (i j : Nat) : Prop where
  B : Bfs ta.places (step2 ta tb) (low n) (p00 ta tb) ps ro i j
  ok : ∀ q ∈ ps, PairOk ta tb q
  sh : ∀ k q, ps[k]? = some q → (ro q).length ≤ k
theorem zero_nn (t : Tel) : ∀ x ∈ zero t, x = 0 := fun x hx => by
  obtain ⟨_, _, rfl⟩ := List.mem_map.mp hx
  rfl
theorem p00_ok (ta tb : Tel) : PairOk ta tb (p00 ta tb) :=
  ⟨List.length_map .., List.length_map .., fun x hx => by rw [zero_nn _ x hx]; exact Int.le_refl _, fun x hx => by rw [zero_nn _ x hx]; exact Int.le_refl _⟩
theorem p00_low {ta tb : Tel} {n : Int} (hn : 1 ≤ n) : low n (p00 ta tb) = true := by
  unfold low
  rw [List.all_eq_true]
  intro x hx
  have : x = 0 := (List.mem_append.mp hx).elim (zero_nn _ x) (zero_nn _ x)
  rw [decide_eq_true_eq]
  omega
theorem Look.few {ta tb : Tel} {n : Int} {ps : List NP} {ro : NP → List Str} {i j : Nat} (h : Look ta tb n ps ro i j) (oa : TelOk ta) (pm : ta.places.Perm tb.places) (n3 : n ≤ 3) : ps.length ≤ 4096 := by
  refine pairs_few oa.hi h.B.nd fun p hp => ?_
  have k := h.ok p hp
  refine ⟨k.l1, by rw [k.l2]; exact pm.length_eq.symm, fun x hx => ?_⟩
  have g := h.B.good p hp
  unfold low at g
  rw [List.all_eq_true] at g
  have g1 := g x hx
  rw [decide_eq_true_eq] at g1
  refine ⟨?_, by omega⟩
  rcases List.mem_append.mp hx with z | z
  · exact k.n1 x z
  · exact k.n2 x z
theorem Look.start {ta tb : Tel} {n : Int} (hn : 1 ≤ n) : Look ta tb n [p00 ta tb] (fun _ => []) 0 0 := by
  refine ⟨.start rfl (p00_low hn), fun q hq => ?_, fun k q _ => Nat.zero_le _⟩
  have e : q = p00 ta tb := by simpa using hq
  rw [e]
  exact p00_ok ta tb
theorem Look.fresh {ta tb : Tel} {n : Int} {ps : List NP} {ro ro' : NP → List Str} {i j : Nat} {z : Str} {p : NP} (h : Look ta tb n ps ro i j) (oa : TelOk ta) (ob : TelOk tb) (hw : ta.places[j]? = some z) (ha : ps[i]? = some p) (h1 : (step2 ta tb p z).1 = true)
    (hg : low n (step2 ta tb p z).2 = true) (h2 : (step2 ta tb p z).2 ∉ ps) (e1 : ro' (step2 ta tb p z).2 = ro p ++ [z]) (e2 : ∀ q ∈ ps, ro' q = ro q) : Look ta tb n (ps ++ [(step2 ta tb p z).2]) ro' i (j + 1) := by
  refine ⟨h.B.fresh hw ha h1 hg h2 e1 e2, fun q hq => ?_, fun k q hk => ?_⟩
  · rcases List.mem_append.mp hq with hq | hq
    · exact h.ok q hq
    · have e : q = (step2 ta tb p z).2 := by simpa using hq
      rw [e]
      exact step2_ok oa ob (h.ok p (List.mem_of_getElem? ha)) z
  · have hil : i < ps.length := (List.getElem?_eq_some_iff.mp ha).1
    by_cases hl : k < ps.length
    · rw [List.getElem?_append_left hl] at hk
      rw [e2 _ (List.mem_of_getElem? hk)]
      exact h.sh k q hk
    · rw [List.getElem?_append_right (Nat.le_of_not_lt hl)] at hk
      have e : q = (step2 ta tb p z).2 := by simpa using List.mem_of_getElem? hk
      rw [e, e1, List.length_append]
      have := h.sh i p ha
      show _ + 1 ≤ k
      omega
/-- the row function with one more -/
def roAdd (ro : NP → List Str) (x : NP) (r : List Str) : NP → List Str := fun q => if q = x then r else ro q

section
variable {P : Program} {w : World} {K : PySem.W.Frag} {mg : Str → Option Value} {base : Heap}
/-! ### likeness -/
def spLike : Sp := fun vs H Q _ => ∃ (a b : Addr) (ta tb : Tel) (n : Int), vs = [.ref a, .ref b, .int n] ∧ Two H ta tb a b ∧ 1 ≤ n ∧ n ≤ 3 ∧
  (∀ H' r l (row : List Str), Same H H' → H l = none → H' r = some (.tup [.str "parted", .ref l]) → H' l = some (.lst (row.map V.str)) → row.length ≤ 4096 → PartsT ta tb n row → (∀ r', PartsT ta tb n r' → row.length ≤ r'.length) → Q (.ref r) H') ∧
  (∀ H' r l (as : List Addr) (ps : List NP), Same H H' → H l = none → H' r = some (.tup [.str "alike", .ref l]) → H' l = some (.lst (as.map V.ref)) → Paired (PairAt H') ps as → ps ≠ [] → ps.length ≤ 4096 → (∀ p ∈ ps, PairOk ta tb p) → (∀ r', ¬ PartsT ta tb n r') → Q (.ref r) H')
abbrev nLike : List Str := ["one", "other", "within", "pairs", "rows", "at", "word", "same", "later", "row"]
theorem scLike : FnScope nLike ["one", "other", "within"] (defScope (topS 56)) := ⟨rfl, rfl, rfl, by decide +kernel, rfl, by decide +kernel, by decide +kernel⟩
def frL (a b : Addr) (n : Int) (L D : Addr) (i : Nat) (v6 v7 v8 v9 : Option V) : L2.St := [some (.ref a), some (.ref b), some (.int n), some (.ref L), some (.ref D), some (.int (i : Nat)), v6, v7, v8, v9]
/-- what stands between two steps of the search -/
def LkAt (P : Program) (w : World) (H0 : Hp) (ta tb : Tel) (a b : Addr) (n : Int) (L D : Addr) (i j : Nat) (σ : L2.St) (H : Hp) : Prop :=
  ∃ (v6 v7 v8 v9 : Option V) (ps : List NP) (ro : NP → List Str) (as : List Addr) (kvs : List (NP × V)), σ = frL a b n L D i v6 v7 v8 v9 ∧ Same H0 H ∧ SearchAt P w H L D ps ro as kvs ∧ Look ta tb n ps ro i j
theorem c_like (D : DefAtK K mg "likeness" (topS 56) ["one", "other", "within"] ["within"] 2) (B : Blt mg) (C1 : Callable P w K mg base 12 "look_at_both" ["one", "other", "within"] spLookBoth) (C2 : Callable P w K mg base 1 "empty_heap" ["teller"] spEmpty) (C3 : Callable P w K mg base 1 "words_of" ["teller"] spWordsOf)
    (C4 : CallG P w K mg base 2 "both_behind" ["one", "other", "pair", "word"] spBoth) (C5 : Callable P w K mg base 1 "is_low" ["pair", "within"] spLow) : CallGK P w K mg base 13 "likeness" ["one", "other", "within"] ["within"] 2 spLike := by
  refine .of D fun f fd F => okGK F scLike (fun vs H Q E h => ?_) (fun cdv A outer s H vs Q E hr hgd h => ?_)
  · obtain ⟨a, b, ta, tb, n, rfl, _⟩ := h
    rfl
  · obtain ⟨a, b, ta, tb, n, rfl, W, n1, n3, qp, qa⟩ := h
    have hu := hr.units
    refine ⟨_, pss_cons (ps_expr (pe_k C1 hr (by rfl) (pa_cons (pv 0) (pa_cons (pv 1) (pa_cons (pv 2) pa_nil)))))
      (pss_cons (ps_set (i := 3) scLike.nd rfl (Or.inl rfl) (pe_lst (pa_cons (pe_tup (pa_cons (pe_k C2 hr (by rfl) (pa_cons (pv 0) pa_nil)) (pa_cons (pe_k C2 hr (by rfl) (pa_cons (pv 1) pa_nil)) pa_nil))) pa_nil)))
      (pss_cons (ps_set (i := 4) scLike.nd rfl (Or.inl rfl) (pe_disp1 hu (pe_ix ix_list (pv 3) pe_int (fun _ _ => rfl)) (pe_lst pa_nil)))
      (pss_cons (ps_set (i := 5) scLike.nd rfl (Or.inl rfl) pe_int)
      (pss_cons (ps_while PassesOwn.never (pt_cmpR op_lt (pv 5) (pe_callB call_len (by rfl) B.len PySem.boot_len (pa_cons (pv 3) pa_nil)) (nomark _))
        (pss_cons (ps_for PassesOwn.never rfl (pi_list (pe_k C3 hr (by rfl) (pa_cons (pv 0) pa_nil))) (pg_name (i := 6) scLike.nd rfl (Or.inl rfl))
          (pss_cons (ps_asg (pe_kG hgd C4 hr (by rfl) (pa_cons (pv 0) (pa_cons (pv 1) (pa_cons (pe_ix ix_list (pv 3) (pv 5) (fun _ _ => rfl)) (pa_cons (pv 6) pa_nil))))) (pg_tup rfl (pgs_cons (pg_name (i := 7) scLike.nd rfl (Or.inl rfl)) (pgs_cons (pg_name (i := 8) scLike.nd rfl (Or.inl rfl)) pgs_nil))))
          (pss_one (ps_if (pt_val (pe_k C5 hr (by rfl) (pa_cons (pv 8) (pa_cons (pv 2) pa_nil))))
            (pss_cons (ps_set (i := 9) scLike.nd rfl (Or.inl rfl) (pe_op op_cat (pe_ix (ix_rows hu) (pv 4) (pe_ix ix_list (pv 3) (pv 5) (fun _ _ => rfl)) (fun _ _ => rfl)) (pe_lst (pa_cons (pv 6) pa_nil))))
            (pss_cons (ps_if (pt_not (pt_val (pv 7))) (pss_one (ps_ret (pe_tup (pa_cons pe_str (pa_cons (pv 9) pa_nil))))) pss_nil)
            (pss_one (ps_if (pt_cmpR (op_notInR hu) (pv 8) (pv 4) (by rfl))
              (pss_cons (ps_asg (pv 9) (pg_sub (pv 4) (pv 8) (set_rows hu)))
              (pss_one (ps_expr (pe_bm PySem.F.plainAttrs_list PySem.F.slot_list_append PySem.F.type_list_append mt_append (pv 3) (pa_cons (pv 8) pa_nil))))) pss_nil)))) pss_nil))))
        (pss_one (ps_aug (i := 5) scLike.nd rfl (Or.inl rfl) pe_int ip_add))))
      (pss_one (ps_ret (pe_tup (pa_cons pe_str (pa_cons (pv 3) pa_nil))))))))), ?_⟩
    refine ⟨.ref a, rfl, .ref b, rfl, .int n, rfl, a, b, ta, tb, n, rfl, W, n1, n3, fun H1 e1 => ?_⟩
    refine ⟨.ref a, rfl, a, ta, rfl, W.a.same e1, W.oa, fun H2 z1 e2 hz1 => ?_⟩
    have e12 := e1.trans e2
    refine ⟨.ref b, rfl, b, tb, rfl, W.b.same e12, W.ob, fun H3 z2 e3 hz2 => ?_⟩
    refine ⟨(by show 2 ≤ sizeLine; decide), fun q0 nq0 => ⟨(by show 1 ≤ sizeLine; decide), fun L nL => ?_⟩⟩
    have s4 := same_new (o := .tup [.ref z1, .ref z2]) nq0
    have s5 := same_new (o := .lst [.ref q0]) nL
    have e5 : Same H _ := (e12.trans e3).trans (s4.trans s5)
    have hpq : PairAt _ (p00 ta tb) q0 := ⟨z1, z2, s5 _ _ upd_same, (s4.trans s5) _ _ (e3 _ _ hz1), (s4.trans s5) _ _ hz2⟩
    have hL5 : (upd (upd H3 q0 (.tup [.ref z1, .ref z2])) L (.lst [.ref q0])) L = some (.lst [.ref q0]) := upd_same
    have nL0 : H L = none := by
      cases e : H L with
      | none => rfl
      | some o =>
        have := (e12.trans e3).trans s4 _ _ e
        rw [nL] at this
        cases this
    generalize upd (upd H3 q0 (.tup [.ref z1, .ref z2])) L (.lst [.ref q0]) = H5 at e5 hpq hL5 ⊢
    intro d o nd
    have s6 := same_new (o := o) nd
    refine ⟨.ref L, rfl, L, [.ref q0], 0, .ref q0, rfl, rfl, .of (s6 _ _ hL5), rfl, (by show 0 ≤ sizeLine; decide), fun l0 nl0 => ?_⟩
    have s7 := same_new (o := .lst []) nl0
    refine ⟨s7 _ _ upd_same, q0, p00 ta tb, rfl, hpq.same (s6.trans s7), fun o' keep hR => ?_⟩
    have nLd : L ≠ d := ne_of_none hL5 nd
    have nl0d : l0 ≠ d := fun zz => by
      rw [zz, upd_same] at nl0
      cases nl0
    have nl0L : l0 ≠ L := fun zz => by
      rw [zz, s6 _ _ hL5] at nl0
      cases nl0
    have nd0 : H d = none := by
      cases e : H d with
      | none => rfl
      | some o2 =>
        have := e5 _ _ e
        rw [nd] at this
        cases this
    have S0 : SearchAt P w (upd (upd (upd H5 d o) l0 (.lst [])) d o') L d [p00 ta tb] (fun _ => []) [q0] [(p00 ta tb, V.ref l0)] := by
      have k1 : ∀ b u, b ≠ d → H5 b = some u → upd (upd (upd H5 d o) l0 (.lst [])) d o' b = some u := fun b u hb hz => keep b u hb ((s6.trans s7) _ _ hz)
      obtain ⟨y1, y2, g1, g2, g3⟩ := id hpq
      refine ⟨k1 _ _ nLd hL5, .cons ⟨y1, y2, k1 _ _ (ne_of_none g1 nd) g1, k1 _ _ (ne_of_none g2 nd) g2, k1 _ _ (ne_of_none g3 nd) g3⟩ .nil, hR, rfl, fun kv hkv => ?_⟩
      have e : kv = (p00 ta tb, V.ref l0) := by simpa using hkv
      subst e
      exact ⟨l0, rfl, keep _ _ nl0d upd_same, nl0L⟩
    have e8 : Same H (upd (upd (upd H5 d o) l0 (.lst [])) d o') := same_over nd0 (e5.trans (s6.trans s7))
    generalize upd (upd (upd H5 d o) l0 (.lst [])) d o' = H8 at S0 e8 ⊢
    -- the search
    refine ⟨fun m σ H9 => ∃ i, m = 4097 - i ∧ LkAt P w H ta tb a b n L d i 0 σ H9, ⟨4097, 0, rfl, none, none, none, none, _, _, _, _, rfl, e8, S0, Look.start n1⟩, ?_⟩
    rintro m σ H9 ⟨i, rfl, v6, v7, v8, v9, ps, ro, as, kvs, rfl, e9, S, LK⟩
    have hlen : as.length = ps.length := (pair_len S.pa).symm
    have hfew := LK.few W.oa W.pm n3
    refine ⟨.int (i : Nat), rfl, .ref L, rfl, .ref L, _, rfl, .inl ⟨as.map V.ref, .of S.li, rfl⟩, _, _, rfl, rfl, decide ((i : Int) < ((as.map V.ref).length : Int)), rfl, ?_⟩
    have hw3 := W.oa.hi
    by_cases hil : i < ps.length
    · rw [decide_eq_true (show (i : Int) < ((as.map V.ref).length : Int) by rw [List.length_map]; omega)]
      refine iteT ⟨fun σ' H' => LkAt P w H ta tb a b n L d (i + 1) 0 σ' H', fun σ' H' h' => ⟨4097 - (i + 1), by omega, i + 1, rfl, h'⟩, ?_⟩
      -- the words
      refine ⟨.ref a, rfl, a, ta, rfl, W.a.same e9, W.oa, fun H10 M e10 nM hM => ?_⟩
      have nML : M ≠ L := fun zz => by
        rw [zz, S.li] at nM
        cases nM
      have nMd : M ≠ d := fun zz => by
        obtain ⟨_, _, _, hd, _⟩ := S.rw
        rw [zz, hd] at nM
        cases nM
      refine ⟨M, rfl, ⟨_, .of hM⟩, ?_⟩
      refine for_it (walk_list (xs := ta.places.map V.str)) (fun j σ H11 => H11 M = some (.lst (ta.places.map V.str)) ∧ ∃ (v6 v7 v8 v9 : Option V) (ps : List NP) (ro : NP → List Str) (as : List Addr) (kvs : List (NP × V)),
          σ = frL a b n L d i v6 v7 v8 v9 ∧ Same H H11 ∧ SearchAt P w H11 L d ps ro as kvs ∧ Look ta tb n ps ro i j ∧ i < ps.length)
        ⟨hM, v6, v7, v8, v9, ps, ro, as, kvs, rfl, e9.trans e10, S.same e10, LK, hil⟩ (fun j σ H11 _ p => .of p.1) ?_ ?_
      · clear v6 v7 v8 v9 S LK hil hfew hlen e9 e10
        clear kvs as ro ps
        rintro j y σ H12 H11 hj ⟨hM, v6, v7, v8, v9, ps, ro, as, kvs, rfl, e11, S, LK, hil⟩ ⟨rfl, hy⟩
        obtain ⟨z, rfl, hz⟩ := str_at hy
        have hlen : as.length = ps.length := (pair_len S.pa).symm
        have hfew := LK.few W.oa W.pm n3
        have ha : ps[i]? = some ps[i] := List.getElem?_eq_getElem hil
        generalize ps[i] = p at ha
        obtain ⟨q, hq, hpq⟩ := pair_get S.pa ha
        have hpm := List.mem_of_getElem? ha
        have hzm := List.mem_of_getElem? hz
        have hat : atI (as.map V.ref) (i : Nat) = some (.ref q) := atI_nat (by rw [List.getElem?_map, hq]; rfl)
        have kx := step2_ok W.oa W.ob (LK.ok p hpm) z
        have w1 := W.oa.lo
        have w2 := W.ob.lo
        have w4 := W.ob.hi
        refine ⟨.ref a, rfl, .ref b, rfl, .ref L, rfl, .int (i : Nat), rfl, L, _, _, .ref q, rfl, rfl, .of S.li, hat, .str z, rfl, a, b, q, z, ta, tb, p, rfl, W.same e11, hpq, LK.ok p hpm, hzm, fun H12 r x e12 hr' hx => ?_⟩
        refine ⟨r, _, rfl, .of hr', rfl, _, _, rfl, _, _, rfl, rfl, ?_⟩
        refine ⟨.ref x, rfl, .int n, rfl, x, n, (step2 ta tb p z).2, rfl, hx, by rw [kx.l1]; exact w1, by rw [kx.l1]; exact hw3, by rw [kx.l2]; exact w2, by rw [kx.l2]; exact w4, fun H13 e13 => ⟨low n (step2 ta tb p z).2, rfl, ?_⟩⟩
        have e1213 := e12.trans e13
        have eH := e11.trans e1213
        cases hlow : low n (step2 ta tb p z).2 with
        | false =>
          refine iteF ?_
          refine ⟨e1213 _ _ hM, _, _, _, _, ps, ro, as, kvs, rfl, eH, S.same e1213, ⟨LK.B.skip hz ha (by rw [hlow]; exact Bool.false_ne_true), LK.ok, LK.sh⟩, hil⟩
        | true =>
          have S13 := S.same e1213
          obtain ⟨l, hl1, hl2, hl3⟩ := S13.row hpm
          have hsh := LK.sh i p ha
          refine iteT ⟨.ref d, rfl, .ref L, rfl, .int (i : Nat), rfl, L, _, _, .ref q, rfl, rfl, .of S13.li, hat, d, q, kvs, p, .ref l, rfl, rfl, hpq.same e1213, S13.rw, hl1, .str z, rfl, (by show 1 ≤ sizeLine; decide), fun lw nlw => ?_⟩
          have s14 := same_new (o := .lst [.str z]) nlw
          refine ⟨l, lw, _, _, rfl, rfl, s14 _ _ hl2, upd_same, by rw [List.length_map, sizeLine_eq]; show _ + 1 ≤ 16777216; omega, fun rr nrr => ?_⟩
          have hrow : (ro p).map V.str ++ [V.str z] = (ro p ++ [z]).map V.str := by rw [List.map_append]; rfl
          rw [hrow]
          have s15 := same_new (o := .lst ((ro p ++ [z]).map V.str)) nrr
          have hrr : (upd (upd H13 lw (.lst [.str z])) rr (.lst ((ro p ++ [z]).map V.str))) rr = some (.lst ((ro p ++ [z]).map V.str)) := upd_same
          have s145 := s14.trans s15
          have S15 := S13.same s145
          have eH15 := eH.trans s145
          have hM15 := s145 _ _ (e1213 _ _ hM)
          have hx15 := (hx.same e13).same s145
          have nrr0 : H rr = none := (eH.trans s14).free nrr
          have nrL : rr ≠ L := fun zz => by
            rw [zz, (S13.same s14).li] at nrr
            cases nrr
          generalize upd (upd H13 lw (.lst [.str z])) rr (.lst ((ro p ++ [z]).map V.str)) = H15 at hrr S15 eH15 hM15 hx15 ⊢
          refine ⟨.bl (step2 ta tb p z).1, rfl, (step2 ta tb p z).1, rfl, ?_⟩
          cases hsame : (step2 ta tb p z).1 with
          | false =>
            refine iteT ⟨.ref rr, rfl, (by show 2 ≤ sizeLine; decide), fun t nt => ?_⟩
            have s16 := same_new (o := .tup [.str "parted", .ref rr]) nt
            refine qp _ t rr (ro p ++ [z]) (eH15.trans s16) nrr0 upd_same (s16 _ _ hrr) ?_ (LK.B.parts hzm ha hlow hsame) (fun r' h' => LK.B.least ha h')
            rw [List.length_append]
            show _ + 1 ≤ 4096
            omega
          | true =>
            refine iteF ⟨.ref x, rfl, .ref d, rfl, x, d, kvs, (step2 ta tb p z).2, rfl, rfl, hx15, S15.rw, fun hnew => ⟨true, rfl, iteT ?_⟩, fun v hv => ⟨false, rfl, iteF ?_⟩⟩
            · have hnew2 : (step2 ta tb p z).2 ∉ ps := by
                rw [← S15.ks]
                exact hnew
              have hkl : kvs.length = ps.length := by rw [← S15.ks, List.length_map]
              refine ⟨.ref rr, rfl, .ref d, rfl, .ref x, rfl, d, x, kvs, _, rfl, rfl, hx15, S15.rw, hnew, by rw [sizeLine_eq]; omega, fun o' keep hR => ?_⟩
              obtain ⟨_, _, xs, hd15, _⟩ := S15.rw
              have nLd : L ≠ d := ne_of S15.li hd15 (fun z => nomatch z)
              have hL16 : (upd H15 d o') L = some (.lst (as.map V.ref)) := by
                rw [upd_ne nLd]
                exact S15.li
              refine ⟨.ref L, rfl, .inl ⟨rfl, _, .of hL16⟩, .ref x, rfl, L, _, _, rfl, rfl, hL16, by rw [List.length_map, sizeLine_eq]; omega, ?_⟩
              have er1 : roAdd ro (step2 ta tb p z).2 (ro p ++ [z]) (step2 ta tb p z).2 = ro p ++ [z] := if_pos rfl
              have er2 : ∀ q ∈ ps, roAdd ro (step2 ta tb p z).2 (ro p ++ [z]) q = ro q := fun q hq => if_neg fun (e : q = (step2 ta tb p z).2) => hnew2 (e ▸ hq)
              have S17 := S15.add (q := x) (r := rr) (x := (step2 ta tb p z).2) (o' := o') (ro' := roAdd ro (step2 ta tb p z).2 (ro p ++ [z])) hx15 (by rw [er1]; exact hrr) nrL er2 keep hR
              refine ⟨?_, _, _, _, _, _, _, _, _, rfl, ?_, S17, LK.fresh W.oa W.ob hz ha hsame hlow hnew2 er1 er2, by rw [List.length_append]; omega⟩
              · rw [upd_ne nML, upd_ne nMd]
                exact hM15
              · exact same_over nL0 (same_over nd0 eH15)
            · have hold : (step2 ta tb p z).2 ∈ ps := by
                rw [← S15.ks]
                exact List.mem_map_of_mem (f := Prod.fst) (lookup_mem hv)
              exact ⟨hM15, _, _, _, _, ps, ro, as, kvs, rfl, eH15, S15, ⟨LK.B.seen hz ha hsame hold, LK.ok, LK.sh⟩, hil⟩
      · rintro σ H11 ⟨hM, v6, v7, v8, v9, ps, ro, as, kvs, rfl, e11, S, LK, hil⟩
        rw [List.length_map] at LK
        exact ⟨.int (i : Nat), rfl, (i : Nat), 1, rfl, rfl, v6, v7, v8, v9, ps, ro, as, kvs, rfl, e11, S, LK.B.next hil, LK.ok, LK.sh⟩
    · rw [decide_eq_false (show ¬ (i : Int) < ((as.map V.ref).length : Int) by rw [List.length_map]; omega)]
      refine iteF ⟨.ref L, rfl, (by show 2 ≤ sizeLine; decide), fun t nt => ?_⟩
      have s16 := same_new (o := .tup [.str "alike", .ref L]) nt
      refine qa _ t L as ps (e9.trans s16) nL0 upd_same (s16 _ _ S.li) (pair_mono S.pa fun _ _ z => z.same s16) ?_ hfew LK.ok (fun r' h' => LK.B.none (Nat.le_of_not_lt hil) h')
      intro e
      have := LK.B.fst
      rw [e] at this
      cases this
end
end Wm
namespace Wm
open PySem PySem.Spec PyProof.Rows L2
theorem all_repF {n : Nat} (h : n ≠ 0) : (List.replicate n false).all id = false := by
  cases n with
  | zero => exact absurd rfl h
  | succ n => simp [List.replicate_succ]
theorem cut_last (xs : List V) (v : V) : cutV (xs ++ [v]) none (some (-1)) = xs := by
  unfold cutV
  rw [HT.sIx_none]
  have e : HT.sIx (xs ++ [v]).length (xs ++ [v]).length (some (-1)) = xs.length := by
    show (if (-1 : Int) < 0 then ((-1 : Int) + ((xs ++ [v]).length : Int)).toNat else min (-1 : Int).toNat (xs ++ [v]).length) = xs.length
    rw [if_pos (by decide), List.length_append]
    show ((-1 : Int) + ((xs.length + 1 : Nat) : Int)).toNat = xs.length
    omega
  rw [e, List.drop_zero, Nat.sub_zero, List.take_left]
theorem ints_dp {K : PySem.W.Frag} {H : Hp} : ∀ {l : List Int}, DpAll K H (l.map V.int) (l.map PyData.int)
  | [] => .nil
  | _ :: _ => .cons (.int _) ints_dp
theorem ints_lay : ∀ {l : List Int}, PyData.canLayAll0 (l.map PyData.int) = true ∧ PyData.depthAll (l.map PyData.int) = 0
  | [] => ⟨rfl, rfl⟩
  | _ :: l => by
    obtain ⟨i1, i2⟩ := ints_lay (l := l)
    rw [List.map_cons]
    simp [PyData.canLayAll0, PyData.depthAll, PyData.canLay0, PyData.depth, i1, i2]
def npD (p : NP) : PyData := .tuple [.tuple (p.1.map .int), .tuple (p.2.map .int)]
theorem npD_lay (p : NP) : (npD p).canLay0 = true ∧ (npD p).depth = 2 := by
  obtain ⟨i1, i2⟩ := ints_lay (l := p.1)
  obtain ⟨i3, i4⟩ := ints_lay (l := p.2)
  simp [npD, PyData.canLay0, PyData.canLayAll0, PyData.depth, PyData.depthAll, i1, i2, i3, i4]
theorem np_dp {K : PySem.W.Frag} {H : Hp} {p : NP} {a : Addr} (h : PairAt H p a) : Dp K H (.ref a) (npD p) :=
  let ⟨_, _, g1, g2, g3⟩ := h
  .tup (.of g1) (.cons (.tup (.of g2) ints_dp) (.cons (.tup (.of g3) ints_dp) .nil))
theorem nps_dp {K : PySem.W.Frag} {H : Hp} : ∀ {ps : List NP} {as : List Addr}, Paired (PairAt H) ps as → DpAll K H (as.map V.ref) (ps.map npD)
  | _, _, .nil => .nil
  | _, _, .cons r t => .cons (np_dp r) (nps_dp t)
theorem nps_lay : ∀ {ps : List NP}, PyData.canLayAll0 (ps.map npD) = true ∧ PyData.depthAll (ps.map npD) ≤ 2
  | [] => ⟨rfl, by simp [PyData.depthAll]⟩
  | p :: ps => by
    obtain ⟨i1, i2⟩ := nps_lay (ps := ps)
    obtain ⟨i3, i4⟩ := npD_lay p
    rw [List.map_cons]
    constructor
    · simp [PyData.canLayAll0, i1, i3]
    · simp only [PyData.depthAll, i4]
      omega
theorem nps_shaped {ps : List NP} : SeqAt.shaped (.list (ps.map npD)) = true := by
  obtain ⟨i1, i2⟩ := nps_lay (ps := ps)
  simp [SeqAt.shaped, PyData.canLay0, PyData.depth, i1]
  omega
theorem PartsT.words {ta tb : Tel} {n : Int} {r : List Str} (h : PartsT ta tb n r) : (∀ p ∈ r, p ∈ ta.places) ∧ r ≠ [] := by
  obtain ⟨r0, z, q, rfl, h1, h2, _, _⟩ := h
  have hr : ∀ {r : List Str} {p q : NP}, Reach ta.places (step2 ta tb) (low n) p r q → ∀ x ∈ r, x ∈ ta.places := by
    intro r
    induction r with
    | nil => exact fun _ x hx => nomatch hx
    | cons y r ih =>
      intro p q h x hx
      rcases List.mem_cons.mp hx with e | e
      · rw [e]
        exact h.1
      · exact ih h.2.2.2 x e
  refine ⟨fun p hp => ?_, by simp⟩
  rcases List.mem_append.mp hp with h | h
  · exact hr h1 p h
  · have e : p = z := by simpa using h
    rw [e]
    exact h2
section
variable {P : Program} {w : World} {K : PySem.W.Frag} {mg : Str → Option Value} {base : Heap}
/-! ### lets_pairs: a list of words is none of pairs -/
def spLetsPairs : Sp := fun vs H Q _ => ∃ (x y v : V) (l : Addr) (row : List Str), vs = [x, y, .ref l, v] ∧ H l = some (.lst (row.map V.str)) ∧ row ≠ [] ∧ row.length ≤ 4096 ∧ ∀ H', Same H H' → Q (.bl false) H'
abbrev nLP : List Str := ["one", "other", "thing", "within", "there", "pair", "word", "same", "later"]
theorem scLP : FnScope nLP ["one", "other", "thing", "within"] (defScope (topS 58)) := ⟨rfl, rfl, rfl, by decide +kernel, rfl, by decide +kernel, by decide +kernel⟩
theorem c_letsPairs (D : DefAt K mg "lets_pairs" (topS 58) ["one", "other", "thing", "within"]) (B : Blt mg) : Callable P w K mg base 1 "lets_pairs" ["one", "other", "thing", "within"] spLetsPairs := by
  refine .of D fun f fd F => F.ok scLP (fun vs H Q E h => ?_) (fun cdv A outer s H vs Q E hr h => ?_)
  · obtain ⟨x, y, v, l, row, rfl, _⟩ := h
    rfl
  · obtain ⟨x, y, v, l, row, rfl, hl, hne, h4, q⟩ := h
    refine ⟨_, pss_cons (ps_if (PW.pt (pw_or (pt_not (pt_val (pe_isi "list" 2 B B.list (by decide +kernel)))) (pw_or1 (pt_not (pt_val (pe_callB (cr_all rfl) (by rfl) B.all (by decide +kernel) (pa_cons
        (pe_lc (own := [("pair", 5)]) (g := gName 5) rfl scLP.nd (pi_list (pv 2)) (blkOk_by (N := nLP) (sc := defScope (topS 58)) (by decide +kernel))
          (fun _ _ _ _ _ => pg_name (i := 5) scLP.nd rfl (Or.inl rfl)) (fun _ _ _ _ _ => pts_nil) (fun _ _ _ _ _ => pe_and (show PE _ _ (tIsi K 5 "tuple") from pe_isi "tuple" 5 B B.tuple (by decide +kernel)) (pe_one pe_never))) pa_nil))))))) (pss_one (ps_ret pe_bl)) pss_nil) pss_never, ?_⟩
    refine ⟨.ref l, rfl, .ref l, .ty "list", _, _, true, rfl, .ty "list", .base (.lst hl), kit_ty kb_ll, true, rfl, iteF ?_⟩
    refine ⟨.ref l, rfl, l, rfl, ⟨_, .of hl⟩, fun L nL => lc_map (walk_list (xs := row.map V.str)) ((List.replicate row.length false).map V.bl) (by rw [rep_lenF, List.length_map]) nL (fun H1 e => .of (e _ _ hl)) (fun i x H1 H2 hi e hL y => ?_) (fun H1 e hL => ?_)⟩
    · rw [List.length_map] at hi
      obtain ⟨rfl, hx⟩ := y
      obtain ⟨z, rfl, hz⟩ := str_at hx
      refine ⟨rfl, .str z, rfl, .str z, .ty "tuple", _, _, false, rfl, .ty "tuple", .base (.str z), kit_ty kb_st, false, rfl, iteF ?_⟩
      exact lc_post nL (by omega) e hL (Same.refl _) (rep_atF hi)
    · refine ⟨L, _, rfl, .of hL, false, ?_, iteT ?_⟩
      · rw [all_repF (fun e => hne (List.length_eq_zero_iff.mp e))]
      exact q H1 e

/-! ### lets_row -/
def spLetsRow : Sp := fun vs H Q _ => ∃ (a b l : Addr) (ta tb : Tel) (n : Int), vs = [.ref a, .ref b, .ref l, .int n] ∧ Two H ta tb a b ∧
  ((∃ row : List Str, H l = some (.lst (row.map V.str)) ∧ row.length ≤ 4096 ∧ PartsT ta tb n row ∧ ∀ H', Same H H' → Q (.bl true) H') ∨
   (∃ (as : List Addr) (ps : List NP), H l = some (.lst (as.map V.ref)) ∧ Paired (PairAt H) ps as ∧ ps ≠ [] ∧ ps.length ≤ 4096 ∧ ∀ H', Same H H' → Q (.bl false) H'))
abbrev nLR : List Str := ["one", "other", "thing", "within", "words", "pair", "found", "word", "same"]
theorem scLR : FnScope nLR ["one", "other", "thing", "within"] (defScope (topS 59)) := ⟨rfl, rfl, rfl, by decide +kernel, rfl, by decide +kernel, by decide +kernel⟩
def frR (a b l : Addr) (n : Int) (ws pr fo : Addr) (v7 v8 : Option V) : L2.St := [some (.ref a), some (.ref b), some (.ref l), some (.int n), some (.ref ws), some (.ref pr), some (.ref fo), v7, v8]
theorem c_letsRow (D : DefAt K mg "lets_row" (topS 59) ["one", "other", "thing", "within"]) (B : Blt mg) (C2 : Callable P w K mg base 1 "empty_heap" ["teller"] spEmpty) (C3 : Callable P w K mg base 1 "words_of" ["teller"] spWordsOf)
    (C4 : CallG P w K mg base 2 "both_behind" ["one", "other", "pair", "word"] spBoth) (C5 : Callable P w K mg base 1 "is_low" ["pair", "within"] spLow) : CallG P w K mg base 3 "lets_row" ["one", "other", "thing", "within"] spLetsRow := by
  refine .of D fun f fd F => okG F scLR (fun vs H Q E h => ?_) (fun cdv A outer s H vs Q E hr hgd h => ?_)
  · obtain ⟨a, b, l, ta, tb, n, rfl, _⟩ := h
    rfl
  · obtain ⟨a, b, l, ta, tb, n, rfl, W, h⟩ := h
    have hu := hr.units
    refine ⟨_, pss_cons (ps_set (i := 4) scLR.nd rfl (Or.inr rfl) (pe_k C3 hr (by rfl) (pa_cons (pv 0) pa_nil)))
      (pss_cons (ps_if (PW.pt (pw_or (pt_not (pt_val (pe_isi "list" 2 B B.list (by decide +kernel)))) (pw_or1 (pt_cmpR (op_eqD hu) (pv 2) (pe_lst pa_nil) (nomark _))))) pss_never pss_nil)
      (pss_cons (ps_if (pt_not (pt_val (pe_callB (cr_all rfl) (by rfl) B.all (by decide +kernel) (pa_cons
        (pe_lc (own := [("word", 7)]) (g := gName 7) rfl scLR.nd (pi_list (pv 2)) (blkOk_by (N := nLR) (sc := defScope (topS 59)) (by decide +kernel))
          (fun _ _ _ _ _ => pg_name (i := 7) scLR.nd rfl (Or.inl rfl)) (fun _ _ _ _ _ => pts_nil) (fun _ _ _ _ _ => pe_and (show PE _ _ (tIsi K 7 "str") from pe_isi "str" 7 B B.str (by decide +kernel)) (pe_one (pe_cmpR (r := rIn K false) op_in_seq (pv 7) (pv 4) (by rfl))))) pa_nil)))) (pss_one (ps_ret pe_bl)) pss_nil)
      (pss_cons (ps_par (i := 5) (j := 6) (by rfl) scLR.nd rfl rfl (by decide) rfl rfl (pa_cons (pe_tup (pa_cons (pe_k C2 hr (by rfl) (pa_cons (pv 0) pa_nil)) (pa_cons (pe_k C2 hr (by rfl) (pa_cons (pv 1) pa_nil)) pa_nil))) (pa_cons (pe_lst pa_nil) pa_nil)) (by rfl))
      (pss_cons (ps_for PassesOwn.never rfl (pi_list (pv 2)) (pg_name (i := 7) scLR.nd rfl (Or.inl rfl))
        (pss_cons (ps_asg (pe_kG hgd C4 hr (by rfl) (pa_cons (pv 0) (pa_cons (pv 1) (pa_cons (pv 5) (pa_cons (pv 7) pa_nil))))) (pg_tup rfl (pgs_cons (pg_name (i := 8) scLR.nd rfl (Or.inl rfl)) (pgs_cons (pg_name (i := 5) scLR.nd rfl (Or.inl rfl)) pgs_nil))))
        (pss_cons (ps_if (pt_not (pt_val (pe_k C5 hr (by rfl) (pa_cons (pv 5) (pa_cons (pv 3) pa_nil))))) pss_never pss_nil)
        (pss_one (ps_expr (pe_bm PySem.F.plainAttrs_list PySem.F.slot_list_append PySem.F.type_list_append mt_append (pv 6) (pa_cons (pv 8) pa_nil)))))))
      (pss_one (ps_ret (pe_and (pe_callB (cr_all rfl) (by rfl) B.all (by decide +kernel) (pa_cons (pe_slice sl_list (pv 6) po_none (po_some (pe_un un_neg pe_int))) pa_nil)) (pe_one (pe_not (pe_ix ix_list (pv 6) (pe_un un_neg pe_int) (fun _ _ => rfl))))))))))), ?_⟩
    refine ⟨.ref a, rfl, a, ta, rfl, W.a, W.oa, fun H1 ws e1 nws hws => ?_⟩
    have hw3 := W.oa.hi
    rcases h with ⟨row, hl, h4, hp, q⟩ | ⟨as, ps, hl, hP, hne, h4, q⟩
    · -- a row that parts
      obtain ⟨hpw, hne⟩ := PartsT.words hp
      have hl1 := e1 _ _ hl
      refine ⟨.ref l, rfl, .ref l, .ty "list", _, _, true, rfl, .ty "list", .base (.lst hl1), kit_ty kb_ll, true, rfl, iteF ?_⟩
      refine ⟨.ref l, rfl, (by show 0 ≤ sizeLine; decide), fun u nu => ?_⟩
      have s2 := same_new (o := .lst []) nu
      have e2 := e1.trans s2
      refine ⟨.list (row.map PyData.str), .list [], .lst (.of (e2 _ _ hl)) words_dp, .lst (.of upd_same) .nil, words_shaped (fun p hq => W.oa.words p (hpw p hq)), rfl, false, ?_, iteF ?_⟩
      · cases row with
        | nil => exact absurd rfl hne
        | cons x r => rfl
      have hws2 := s2 _ _ hws
      generalize upd H1 u (.lst []) = H2 at e2 hws2 ⊢
      clear s2 e1 hws hl1
      refine ⟨.ref l, rfl, l, rfl, ⟨_, .of (e2 _ _ hl)⟩, fun L nL => lc_map (walk_list (xs := row.map V.str)) ((List.replicate row.length true).map V.bl) (by rw [rep_len, List.length_map]) nL (fun H1 e => .of (e _ _ (e2 _ _ hl))) (fun i x H3 H4 hi e hL y => ?_) (fun H3 e3 hL => ?_)⟩
      · rw [List.length_map] at hi
        obtain ⟨rfl, hx⟩ := y
        obtain ⟨z, rfl, hz⟩ := str_at hx
        refine ⟨rfl, .str z, rfl, .str z, .ty "str", _, _, true, rfl, .ty "str", .base (.str z), kit_ty kb_ss, true, rfl, iteT ?_⟩
        refine ⟨.str z, rfl, .ref ws, rfl, ws, _, rfl, .inl (.of (e _ _ hws2)), rfl, flat_strs _, ?_⟩
        show LcPost H2 L _ i (.bl (inV (.str z) (ta.places.map V.str))) _
        rw [in_strs, decide_eq_true (hpw z (List.mem_of_getElem? hz))]
        exact lc_post nL (by omega) e hL (Same.refl _) (rep_at hi)
      · refine ⟨L, _, rfl, .of hL, true, ?_, iteF ?_⟩
        · rw [all_rep]
        have e03 := e2.trans e3
        refine ⟨.ref a, rfl, a, ta, rfl, W.a.same e03, W.oa, fun H4 z1 e4 hz1 => ?_⟩
        have e04 := e03.trans e4
        refine ⟨.ref b, rfl, b, tb, rfl, W.b.same e04, W.ob, fun H5 z2 e5 hz2 => ?_⟩
        refine ⟨(by show 2 ≤ sizeLine; decide), fun pr npr => ⟨(by show 0 ≤ sizeLine; decide), fun fo nfo => ?_⟩⟩
        have s6 := same_new (o := .tup [.ref z1, .ref z2]) npr
        have s7 := same_new (o := .lst []) nfo
        have s67 := s6.trans s7
        have e07 := (e04.trans e5).trans s67
        have hpr : PairAt (upd (upd H5 pr (.tup [.ref z1, .ref z2])) fo (.lst [])) (p00 ta tb) pr := ⟨z1, z2, s7 _ _ upd_same, s67 _ _ (e5 _ _ hz1), s67 _ _ hz2⟩
        have hfo : (upd (upd H5 pr (.tup [.ref z1, .ref z2])) fo (.lst [])) fo = some (.lst []) := upd_same
        have nfo0 : H fo = none := by
          cases e : H fo with
          | none => rfl
          | some o =>
            have := (e04.trans e5).trans s6 _ _ e
            rw [nfo] at this
            cases this
        generalize upd (upd H5 pr (.tup [.ref z1, .ref z2])) fo (.lst []) = H7 at e07 hpr hfo ⊢
        refine ⟨_, _, rfl, .ref l, rfl, l, rfl, ⟨_, .of (e07 _ _ hl)⟩, ?_⟩
        obtain ⟨r0, z, q0, erow, hre, hzm, hgz, hnz⟩ := id hp
        refine for_it (walk_list (xs := row.map V.str)) (fun j σ H8 => ∃ (pr : Addr) (v7 v8 : Option V) (p : NP) (bs : List Bool), σ = frR a b l n ws pr fo v7 v8 ∧ Same H H8 ∧ PairAt H8 p pr ∧ PairOk ta tb p ∧ H8 fo = some (.lst (bs.map V.bl)) ∧
            ((j ≤ r0.length ∧ Reach ta.places (step2 ta tb) (low n) p (r0.drop j) q0 ∧ bs = List.replicate j true) ∨ (j = r0.length + 1 ∧ bs = List.replicate r0.length true ++ [false])))
          ⟨pr, none, none, p00 ta tb, [], rfl, e07, hpr, p00_ok ta tb, hfo, .inl ⟨Nat.zero_le _, hre, rfl⟩⟩ (fun j σ H8 _ p => let ⟨_, _, _, _, _, _, e, _⟩ := p; .of (e _ _ hl)) ?_ ?_
        · rintro j y σ H9 H8 hj ⟨pr, v7, v8, p, bs, rfl, e8, hpp, pok, hfo, hc⟩ ⟨rfl, hy⟩
          obtain ⟨x, rfl, hx⟩ := str_at hy
          have hxm := hpw x (List.mem_of_getElem? hx)
          have kx := step2_ok W.oa W.ob pok x
          have w1 := W.oa.lo
          have w2 := W.ob.lo
          have w4 := W.ob.hi
          have hjl : j < row.length := by
            rw [List.length_map] at hj
            exact hj
          have hrl : row.length = r0.length + 1 := by
            rw [erow, List.length_append]
            rfl
          refine ⟨.ref a, rfl, .ref b, rfl, .ref pr, rfl, .str x, rfl, a, b, pr, x, ta, tb, p, rfl, W.same e8, hpp, pok, hxm, fun H10 r pq e10 hr' hpq => ?_⟩
          refine ⟨r, _, rfl, .of hr', rfl, _, _, rfl, _, _, rfl, rfl, ?_⟩
          have hcase : low n (step2 ta tb p x).2 = true ∧ ((j + 1 ≤ r0.length ∧ Reach ta.places (step2 ta tb) (low n) (step2 ta tb p x).2 (r0.drop (j + 1)) q0 ∧ bs ++ [(step2 ta tb p x).1] = List.replicate (j + 1) true) ∨ (j + 1 = r0.length + 1 ∧ bs ++ [(step2 ta tb p x).1] = List.replicate r0.length true ++ [false])) := by
            rcases hc with ⟨c1, c2, c3⟩ | ⟨c1, _⟩
            · by_cases hjr : j < r0.length
              · have hx0 : r0[j]? = some x := by
                  rw [erow, List.getElem?_append_left hjr] at hx
                  exact hx
                have hd : r0.drop j = x :: r0.drop (j + 1) := by
                  rw [List.drop_eq_getElem_cons hjr]
                  have := (List.getElem?_eq_some_iff.mp hx0).2
                  rw [this]
                rw [hd] at c2
                obtain ⟨_, d2, d3, d4⟩ := c2
                refine ⟨d2, .inl ⟨hjr, d4, ?_⟩⟩
                rw [c3, d3, List.replicate_succ']
              · have ej : j = r0.length := by omega
                subst ej
                have ex : x = z := by
                  rw [erow, List.getElem?_append_right (Nat.le_refl _), Nat.sub_self] at hx
                  exact (Option.some.inj hx).symm
                subst ex
                rw [List.drop_length] at c2
                have ep : p = q0 := c2
                subst ep
                refine ⟨hgz, .inr ⟨rfl, ?_⟩⟩
                rw [c3, hnz]
            · omega
          obtain ⟨hlow, hnext⟩ := hcase
          refine ⟨.ref pq, rfl, .int n, rfl, pq, n, (step2 ta tb p x).2, rfl, hpq, by rw [kx.l1]; exact w1, by rw [kx.l1]; exact hw3, by rw [kx.l2]; exact w2, by rw [kx.l2]; exact w4, fun H11 e11 => ⟨low n (step2 ta tb p x).2, rfl, ?_⟩⟩
          rw [hlow]
          refine iteF ?_
          have e1011 := e10.trans e11
          have hfo11 := e1011 _ _ hfo
          have hbl : bs.length ≤ 4096 := by
            rcases hc with ⟨c1, _, c3⟩ | ⟨c1, c3⟩
            · rw [c3, List.length_replicate]
              omega
            · omega
          refine ⟨.ref fo, rfl, .inl ⟨rfl, _, .of hfo11⟩, .bl (step2 ta tb p x).1, rfl, fo, _, _, rfl, rfl, hfo11, by rw [List.length_map, sizeLine_eq]; omega, ?_⟩
          have eb : bs.map V.bl ++ [V.bl (step2 ta tb p x).1] = (bs ++ [(step2 ta tb p x).1]).map V.bl := by rw [List.map_append]; rfl
          rw [eb]
          obtain ⟨y1, y2, g1, g2, g3⟩ := hpq.same e11
          refine ⟨pq, _, _, (step2 ta tb p x).2, bs ++ [(step2 ta tb p x).1], rfl, same_over nfo0 (e8.trans e1011), ⟨y1, y2, ?_, ?_, ?_⟩, kx, upd_same, hnext⟩
          · rw [upd_ne (ne_of g1 hfo11 (fun z => nomatch z))]
            exact g1
          · rw [upd_ne (ne_of g2 hfo11 (fun z => nomatch z))]
            exact g2
          · rw [upd_ne (ne_of g3 hfo11 (fun z => nomatch z))]
            exact g3
        · rintro σ H8 ⟨pr, v7, v8, p, bs, rfl, e8, hpp, pok, hfo, hc⟩
          have hrl : row.length = r0.length + 1 := by
            rw [erow, List.length_append]
            rfl
          rw [List.length_map, hrl] at hc
          have hbs : bs = List.replicate r0.length true ++ [false] := by
            rcases hc with ⟨c1, _⟩ | ⟨_, c2⟩
            · omega
            · exact c2
          subst hbs
          have eb : (List.replicate r0.length true ++ [false]).map V.bl = (List.replicate r0.length true).map V.bl ++ [V.bl false] := by rw [List.map_append]; rfl
          rw [eb] at hfo
          refine ⟨.ref fo, rfl, 1, rfl, -1, rfl, fo, _, rfl, .of hfo, fun t nt => ?_⟩
          have s9 := same_new (o := .lst (cutV ((List.replicate r0.length true).map V.bl ++ [V.bl false]) none (some (-1)))) nt
          refine ⟨t, List.replicate r0.length true, rfl, .of (by rw [upd_same, cut_last]), true, ?_, iteT ?_⟩
          · rw [all_rep]
          refine ⟨.ref fo, rfl, 1, rfl, fo, _, -1, .bl false, rfl, rfl, .of (s9 _ _ hfo), atI_last _ _, false, rfl, ?_⟩
          exact q _ (e8.trans s9)
    · -- a list of pairs
      have hl1 := e1 _ _ hl
      have hlen : as.length = ps.length := (pair_len hP).symm
      refine ⟨.ref l, rfl, .ref l, .ty "list", _, _, true, rfl, .ty "list", .base (.lst hl1), kit_ty kb_ll, true, rfl, iteF ?_⟩
      refine ⟨.ref l, rfl, (by show 0 ≤ sizeLine; decide), fun u nu => ?_⟩
      have s2 := same_new (o := .lst []) nu
      have e2 := e1.trans s2
      refine ⟨.list (ps.map npD), .list [], .lst (.of (e2 _ _ hl)) (nps_dp (pair_mono hP fun _ _ z => z.same e2)), .lst (.of upd_same) .nil, nps_shaped, rfl, false, ?_, iteF ?_⟩
      · cases ps with
        | nil => exact absurd rfl hne
        | cons x r => rfl
      generalize upd H1 u (.lst []) = H2 at e2 ⊢
      refine ⟨.ref l, rfl, l, rfl, ⟨_, .of (e2 _ _ hl)⟩, fun L nL => lc_map (walk_list (xs := as.map V.ref)) ((List.replicate as.length false).map V.bl) (by rw [rep_lenF, List.length_map]) nL (fun H1 e => .of (e _ _ (e2 _ _ hl))) (fun i x H3 H4 hi e hL y => ?_) (fun H3 e3 hL => ?_)⟩
      · rw [List.length_map] at hi
        obtain ⟨rfl, hx⟩ := y
        obtain ⟨z, rfl, hz⟩ := ref_at hx
        obtain ⟨p, hp, hpz⟩ := pair_at hP hz
        obtain ⟨_, _, g1, _, _⟩ := (hpz.same e2).same e
        refine ⟨rfl, .ref z, rfl, .ref z, .ty "str", _, _, false, rfl, .ty "str", .base (.tup g1), kit_ty kb_ts, false, rfl, iteF ?_⟩
        exact lc_post nL (by omega) e hL (Same.refl _) (rep_atF hi)
      · refine ⟨L, _, rfl, .of hL, false, ?_, iteT ?_⟩
        · rw [all_repF (fun e => hne (List.length_eq_zero_iff.mp (hlen ▸ e)))]
        exact q H3 (e2.trans e3)

/-! ### lets_likeness -/
def spLets : Sp := fun vs H Q _ => ∃ (a b t l : Addr) (ta tb : Tel) (n : Int), vs = [.ref a, .ref b, .ref t, .int n] ∧ Two H ta tb a b ∧ 1 ≤ n ∧ n ≤ 3 ∧
  ((∃ row : List Str, H t = some (.tup [.str "parted", .ref l]) ∧ H l = some (.lst (row.map V.str)) ∧ row.length ≤ 4096 ∧ PartsT ta tb n row ∧ ∀ H', Same H H' → Q (.bl true) H') ∨
   (∃ (as : List Addr) (ps : List NP), H t = some (.tup [.str "parted", .ref l]) ∧ H l = some (.lst (as.map V.ref)) ∧ Paired (PairAt H) ps as ∧ ps ≠ [] ∧ ps.length ≤ 4096 ∧ ∀ H', Same H H' → Q (.bl false) H') ∨
   (∃ row : List Str, H t = some (.tup [.str "alike", .ref l]) ∧ H l = some (.lst (row.map V.str)) ∧ row ≠ [] ∧ row.length ≤ 4096 ∧ ∀ H', Same H H' → Q (.bl false) H'))
abbrev nLets : List Str := ["one", "other", "thing", "within"]
theorem scLets : FnScope nLets ["one", "other", "thing", "within"] (defScope (topS 60)) := ⟨rfl, rfl, rfl, by decide +kernel, rfl, by decide +kernel, by decide +kernel⟩
theorem c_lets (D : DefAtK K mg "lets_likeness" (topS 60) nLets ["within"] 3) (B : Blt mg) (C1 : Callable P w K mg base 12 "look_at_both" ["one", "other", "within"] spLookBoth) (C2 : Callable P w K mg base 1 "lets_pairs" ["one", "other", "thing", "within"] spLetsPairs)
    (C3 : CallG P w K mg base 3 "lets_row" ["one", "other", "thing", "within"] spLetsRow) : CallGK P w K mg base 13 "lets_likeness" nLets ["within"] 3 spLets := by
  refine .of D fun f fd F => okGK F scLets (fun vs H Q E h => ?_) (fun cdv A outer s H vs Q E hr hgd h => ?_)
  · obtain ⟨a, b, t, l, ta, tb, n, rfl, _⟩ := h
    rfl
  · obtain ⟨a, b, t, l, ta, tb, n, rfl, W, n1, n3, h⟩ := h
    refine ⟨_, pss_cons (ps_expr (pe_k C1 hr (by rfl) (pa_cons (pv 0) (pa_cons (pv 1) (pa_cons (pv 3) pa_nil)))))
      (pss_cons (ps_if (PW.pt (pw_or (pt_not (pt_val (pe_isi "tuple" 2 B B.tuple (by decide +kernel)))) (pw_or (pt_cmpR op_ne (pe_callB call_len (by rfl) B.len PySem.boot_len (pa_cons (pv 2) pa_nil)) pe_int (nomark _))
        (pw_or1 (pt_not (pt_val (pe_callB call_isi (by rfl) B.isinstance (by decide +kernel) (pa_cons (pe_ix ix_tup (pv 2) pe_int (fun _ _ => rfl)) (pa_cons (pe_bltn (by rfl) B.str (by decide +kernel) (v := .ty "str") (u := .type "str") rfl) pa_nil))))))))) pss_never pss_nil)
      (pss_cons (ps_if (pt_cmpR op_eq (pe_ix ix_tup (pv 2) pe_int (fun _ _ => rfl)) pe_str (nomark _)) (pss_one (ps_ret (pe_k C2 hr (by rfl) (pa_cons (pv 0) (pa_cons (pv 1) (pa_cons (pe_ix ix_tup (pv 2) pe_int (fun _ _ => rfl)) (pa_cons (pv 3) pa_nil))))))) pss_nil)
      (pss_one (ps_ret (pe_and (pe_cmpR op_eq (pe_ix ix_tup (pv 2) pe_int (fun _ _ => rfl)) pe_str (nomark _)) (pe_one (pe_kG hgd C3 hr (by rfl) (pa_cons (pv 0) (pa_cons (pv 1) (pa_cons (pe_ix ix_tup (pv 2) pe_int (fun _ _ => rfl)) (pa_cons (pv 3) pa_nil))))))))))), ?_⟩
    refine ⟨.ref a, rfl, .ref b, rfl, .int n, rfl, a, b, ta, tb, n, rfl, W, n1, n3, fun H1 e1 => ?_⟩
    have two : ∀ {k : Str}, H t = some (.tup [.str k, .ref l]) → H1 t = some (.tup [.str k, .ref l]) := fun h => e1 _ _ h
    rcases h with ⟨row, ht, hl, h4, hp, q⟩ | ⟨as, ps, ht, hl, hP, hne, h4, q⟩ | ⟨row, ht, hl, hne, h4, q⟩
    all_goals
      have ht1 := two ht
      refine ⟨.ref t, rfl, .ref t, .ty "tuple", _, _, true, rfl, .ty "tuple", .base (.tup ht1), kit_ty kb_tt, true, rfl, iteF ?_⟩
      refine ⟨.ref t, rfl, .ref t, _, rfl, .inr ⟨_, .of ht1, rfl⟩, rfl, false, rfl, iteF ?_⟩
      refine ⟨.ref t, rfl, t, _, 0, .str _, rfl, rfl, .of ht1, rfl, .str _, .ty "str", _, _, true, rfl, .ty "str", .base (.str _), kit_ty kb_ss, true, rfl, iteF ?_⟩
    · refine ⟨.ref t, rfl, t, _, 0, .str "parted", rfl, rfl, .of ht1, rfl, rfl, false, rfl, iteF ?_⟩
      refine ⟨.ref t, rfl, t, _, 0, .str "parted", rfl, rfl, .of ht1, rfl, rfl, true, rfl, iteT ?_⟩
      refine ⟨.ref a, rfl, .ref b, rfl, .ref t, rfl, t, _, 1, .ref l, rfl, rfl, .of ht1, rfl, .int n, rfl, a, b, l, ta, tb, n, rfl, W.same e1, .inl ⟨row, e1 _ _ hl, h4, hp, fun H2 e2 => q H2 (e1.trans e2)⟩⟩
    · refine ⟨.ref t, rfl, t, _, 0, .str "parted", rfl, rfl, .of ht1, rfl, rfl, false, rfl, iteF ?_⟩
      refine ⟨.ref t, rfl, t, _, 0, .str "parted", rfl, rfl, .of ht1, rfl, rfl, true, rfl, iteT ?_⟩
      refine ⟨.ref a, rfl, .ref b, rfl, .ref t, rfl, t, _, 1, .ref l, rfl, rfl, .of ht1, rfl, .int n, rfl, a, b, l, ta, tb, n, rfl, W.same e1, .inr ⟨as, ps, e1 _ _ hl, pair_mono hP fun _ _ z => z.same e1, hne, h4, fun H2 e2 => q H2 (e1.trans e2)⟩⟩
    · refine ⟨.ref t, rfl, t, _, 0, .str "alike", rfl, rfl, .of ht1, rfl, rfl, true, rfl, iteT ?_⟩
      refine ⟨.ref a, rfl, .ref b, rfl, .ref t, rfl, t, _, 1, .ref l, rfl, rfl, .of ht1, rfl, .int n, rfl, .ref a, .ref b, .int n, l, row, rfl, e1 _ _ hl, hne, h4, fun H2 e2 => q H2 (e1.trans e2)⟩
end
end Wm
namespace Wm
open PySem PySem.Spec PyProof.Rows L2

/-! ### all but the pool stays -/
def Sx (p : Addr) (H H' : Hp) : Prop := ∀ b o, b ≠ p → H b = some o → H' b = some o
theorem Sx.refl {p : Addr} (H : Hp) : Sx p H H := fun _ _ _ z => z
theorem Sx.trans {p : Addr} {H1 H2 H3 : Hp} (e : Sx p H1 H2) (f : Sx p H2 H3) : Sx p H1 H3 := fun b o h z => f b o h (e b o h z)
theorem Sx.of {p : Addr} {H H' : Hp} (e : Same H H') : Sx p H H' := fun b o _ z => e b o z
theorem sx_over {p : Addr} {H1 H : Hp} {D : Addr} {o : HO} (nD : H1 D = none) (e : Sx p H1 H) : Sx p H1 (upd H D o) := fun b x hb q => by
  rw [upd_ne (ne_of_none q nD)]
  exact e b x hb q
def PoolAt (H : Hp) (p : Addr) : Prop := ∃ x y : Int, H p = some (.lst [.int x, .int y])
theorem PoolAt.same {H H' : Hp} {p : Addr} (e : Same H H') (h : PoolAt H p) : PoolAt H' p := let ⟨x, y, h⟩ := h; ⟨x, y, e _ _ h⟩
theorem PoolAt.over {H : Hp} {p q : Addr} {o : HO} (hq : q ≠ p) (h : PoolAt H p) : PoolAt (upd H q o) p := let ⟨x, y, h⟩ := h; ⟨x, y, by rw [upd_ne hq.symm]; exact h⟩
theorem PoolAt.ne {H : Hp} {p q : Addr} (h : PoolAt H p) (n : H q = none) : q ≠ p := fun e => by
  obtain ⟨x, y, h⟩ := h
  rw [e, h] at n
  cases n
/-- tuples stay -/
structure Tk (H H' : Hp) : Prop where
  t : ∀ b xs, H b = some (.tup xs) → H' b = some (.tup xs)
  f : ∀ b o xs, H b = some (.frz o (.tup xs)) → H' b = some (.frz o (.tup xs))
theorem Tk.of {H H' : Hp} (e : Same H H') : Tk H H' := ⟨fun b xs z => e _ _ z, fun b o xs z => e _ _ z⟩
theorem Tk.trans {H1 H2 H3 : Hp} (e : Tk H1 H2) (f : Tk H2 H3) : Tk H1 H3 := ⟨fun b xs z => f.t _ _ (e.t _ _ z), fun b o xs z => f.f _ _ _ (e.f _ _ _ z)⟩
theorem Sx.tk {p : Addr} {H H' : Hp} (e : Sx p H H') (h : PoolAt H p) : Tk H H' := by
  obtain ⟨x, y, h⟩ := h
  refine ⟨fun b xs z => e b _ (fun q => ?_) z, fun b o xs z => e b _ (fun q => ?_) z⟩
  · rw [q, h] at z
    cases z
  · rw [q, h] at z
    cases z
theorem tk_over {H : Hp} {l : Addr} {ys : List V} {o : HO} (h : H l = some (.lst ys)) : Tk H (upd H l o) := by
  refine ⟨fun b xs z => ?_, fun b o xs z => ?_⟩
  · rw [upd_ne (ne_of z h (fun q => nomatch q))]
    exact z
  · rw [upd_ne (ne_of z h (fun q => nomatch q))]
    exact z
section
variable {H H' : Hp} (e : Tk H H')
include e
theorem HeadAt.keep {p : Str} {b : Addr} (h : HeadAt H p b) : HeadAt H' p b := let ⟨c, h1, h2⟩ := h; ⟨c, e.t _ _ h1, e.t _ _ h2⟩
theorem DeedAt.keep {x : V} {b : Addr} (h : DeedAt H x b) : DeedAt H' x b := let ⟨c, h1, h2⟩ := h; ⟨c, e.t _ _ h1, e.t _ _ h2⟩
theorem HeadsAt.keep {hs : List Str} {b : Addr} (h : HeadsAt H hs b) : HeadsAt H' hs b := let ⟨c, h1, h2⟩ := h; ⟨c, e.t _ _ h1, pair_mono h2 fun _ _ z => z.keep e⟩
theorem DeedsAt.keep {ns : List V} {b : Addr} (h : DeedsAt H ns b) : DeedsAt H' ns b := let ⟨c, h1, h2⟩ := h; ⟨c, e.t _ _ h1, pair_mono h2 fun _ _ z => z.keep e⟩
theorem RuleAt.keep {r : Rul} {b : Addr} (h : RuleAt H r b) : RuleAt H' r b := let ⟨x, y, h1, h2, h3⟩ := h; ⟨x, y, e.t _ _ h1, h2.keep e, h3.keep e⟩
theorem RulesAt.keep {rs : List Rul} {b : Addr} (h : RulesAt H rs b) : RulesAt H' rs b := let ⟨c, h1, h2⟩ := h; ⟨c, e.t _ _ h1, pair_mono h2 fun _ _ z => z.keep e⟩
theorem PlacesAt.keep {ps : List Str} {b : Addr} (h : PlacesAt H ps b) : PlacesAt H' ps b := let ⟨c, ⟨o, o1, o2, o3⟩, h2⟩ := h; ⟨c, ⟨o, o1, o2, e.f _ _ _ o3⟩, pair_mono h2 fun _ _ z => e.t _ _ z⟩
theorem TelAt.keep {t : Tel} {a : Addr} (h : TelAt H t a) : TelAt H' t a := let ⟨x, y, h1, h2, h3⟩ := h; ⟨x, y, e.t _ _ h1, h2.keep e, h3.keep e⟩
end
section
variable {P : Program} {w : World} {K : PySem.W.Frag} {mg : Str → Option Value} {base : Heap}
/-! ### _law_pool -/
def spPool (K : PySem.W.Frag) : Sp := fun vs H Q _ => ∃ (a : Addr) (ns : List Int) (k : Nat), vs = [.ref a, .int (k : Nat)] ∧ SqL K H a (ns.map V.int) ∧ ns.length ≤ 63 ∧ k ≤ 6 ∧ ∀ H' p, Same H H' → H p = none → PoolAt H' p → Q (.ref p) H'
theorem scPool : FnScope ["_law_script", "_law_k", "_law_cell", "_law_size", "_law_seed"] ["_law_script", "_law_k"] (defScope (topS 62)) := ⟨rfl, rfl, rfl, by decide +kernel, rfl, by decide +kernel, by decide +kernel⟩
theorem all_ints {x : V} {l : List Int} (h : x ∈ l.map V.int) : ∃ i, x = .int i := by
  obtain ⟨i, _, rfl⟩ := List.mem_map.mp h
  exact ⟨i, rfl⟩
theorem cut_mem {x : V} {xs : List V} {a b : Option Int} (h : x ∈ cutV xs a b) : x ∈ xs := by
  unfold cutV at h
  exact List.mem_of_mem_drop (List.mem_of_mem_take h)
theorem c_pool (D : DefAt K mg "_law_pool" (topS 62) ["_law_script", "_law_k"]) (B : Blt mg) : Callable P w K mg base 1 "_law_pool" ["_law_script", "_law_k"] (spPool K) := by
  refine .of D fun f fd F => F.ok scPool (fun vs H Q E h => ?_) (fun cdv A outer s H vs Q E hr h => ?_)
  · obtain ⟨a, ns, k, rfl, _⟩ := h
    rfl
  · obtain ⟨a, ns, k, rfl, hS, hn, hk, q⟩ := h
    refine ⟨_, pss_cons (ps_set (i := 2) scPool.nd rfl (Or.inl rfl) (pe_ix ix_list (pe_op op_cat (pe_slice sl_list (pv 0) (po_some (pv 1)) (po_some (pe_op op_add (pv 1) pe_int))) (pe_lst (pa_cons pe_int pa_nil))) pe_int (fun _ _ => rfl)))
      (pss_cons (ps_set (i := 3) scPool.nd rfl (Or.inl rfl) (pe_callB (call_max2 rfl) (by rfl) B.max (by decide +kernel) (pa_cons (pv 2) (pa_cons (pe_op op_sub (pe_un un_neg pe_int) (pv 2)) pa_nil))))
      (pss_cons (ps_set (i := 4) scPool.nd rfl (Or.inl rfl) (pe_op op_mod (pe_op op_mul (pe_op op_add (pe_op op_add (pe_op op_mod (pv 3) pe_int) (pe_op op_mul pe_int (pv 1))) pe_int) pe_int) pe_int))
      (pss_one (ps_ret (pe_lst (pa_cons (pe_op op_mul (pv 3) (pe_callTy call_int1 (by rfl) B.int (by decide +kernel) (pa_cons (pe_cmpR op_ge (pv 3) (pe_op op_pow pe_int pe_int) (nomark _)) pa_nil))) (pa_cons (pv 4) pa_nil))))))), ?_⟩
    refine ⟨.ref a, rfl, .int k, rfl, k, rfl, .int k, rfl, k, 1, rfl, rfl, (k : Int) + 1, rfl, a, _, rfl, hS, fun t nt => ?_⟩
    have s1 := same_new (o := .lst (cutV (ns.map V.int) (some (k : Int)) (some ((k : Int) + 1)))) nt
    refine ⟨(by show 1 ≤ sizeLine; decide), fun u nu => ?_⟩
    have s2 := same_new (o := .lst [.int 0]) nu
    have hcl : (cutV (ns.map V.int) (some (k : Int)) (some ((k : Int) + 1))).length ≤ 63 := by
      have := cutV_length (ns.map V.int) (some (k : Int)) (some ((k : Int) + 1))
      rw [List.length_map] at this
      omega
    refine ⟨t, u, _, _, rfl, rfl, s2 _ _ upd_same, upd_same, by rw [sizeLine_eq]; show _ + 1 ≤ 16777216; omega, fun c nc => ?_⟩
    have s3 := same_new (o := .lst (cutV (ns.map V.int) (some (k : Int)) (some ((k : Int) + 1)) ++ [.int 0])) nc
    obtain ⟨v, hv⟩ : ∃ v : Int, (cutV (ns.map V.int) (some (k : Int)) (some ((k : Int) + 1)) ++ [V.int 0])[0]? = some (.int v) := by
      cases e : cutV (ns.map V.int) (some (k : Int)) (some ((k : Int) + 1)) with
      | nil => exact ⟨0, rfl⟩
      | cons y ys =>
        have hy : y ∈ cutV (ns.map V.int) (some (k : Int)) (some ((k : Int) + 1)) := by rw [e]; exact List.mem_cons_self
        obtain ⟨i, rfl⟩ := all_ints (cut_mem hy)
        exact ⟨i, rfl⟩
    refine ⟨c, _, 0, .int v, rfl, rfl, .of upd_same, atI_nat (j := 0) hv, ?_⟩
    refine ⟨.int v, rfl, 1, rfl, .int v, rfl, -1, v, rfl, rfl, v, -1 - v, rfl, ?_⟩
    generalize (if -1 - v > v then -1 - v else v) = sz
    refine ⟨.int sz, rfl, sz, 2147483629, rfl, rfl, (by show (0 : Int) < 2147483629; decide), .int k, rfl, 7919, k, rfl, rfl, .inl ⟨by decide, by decide⟩, _, _, rfl, rfl, _, 1, rfl, rfl, _, 48271, rfl, rfl, .inr ⟨by decide, by decide⟩, _, 2147483647, rfl, rfl, (by show (0 : Int) < 2147483647; decide), ?_⟩
    refine ⟨.int sz, rfl, .int sz, rfl, 10, 18, rfl, rfl, ⟨by decide, by decide, by decide⟩, sz, _, rfl, rfl, .inr ⟨_, rfl, ?_⟩⟩
    refine ⟨sz, _, rfl, rfl, .inr ?_, _, rfl, (by show 2 ≤ sizeLine; decide), fun p np => ?_⟩
    · by_cases hc : sz ≥ 10 ^ 18
      · show -(2 ^ 64) < (if decide (sz ≥ _) = true then (1 : Int) else 0) ∧ (if decide (sz ≥ _) = true then (1 : Int) else 0) < 2 ^ 64
        split <;> exact ⟨by decide, by decide⟩
      · show -(2 ^ 64) < (if decide (sz ≥ _) = true then (1 : Int) else 0) ∧ (if decide (sz ≥ _) = true then (1 : Int) else 0) < 2 ^ 64
        split <;> exact ⟨by decide, by decide⟩
    · have s4 := same_new (o := .lst [.int (sz * (if decide (sz ≥ 10 ^ (18 : Int).toNat) = true then 1 else 0)), .int ((sz % 2147483629 + 7919 * (k : Int) + 1) * 48271 % 2147483647)]) np
      have e3 := s1.trans (s2.trans s3)
      have np0 : H p = none := by
        cases e : H p with
        | none => rfl
        | some o =>
          have := e3 _ _ e
          rw [np] at this
          cases this
      exact q _ p (e3.trans s4) np0 ⟨_, _, upd_same⟩

/-! ### _law_take -/
def spTake : Sp := fun vs H Q _ => ∃ (p : Addr) (m : Int), vs = [.ref p, .int m] ∧ 1 ≤ m ∧ m ≤ 1000 ∧ PoolAt H p ∧ ∀ (H' : Hp) (r : Int), Sx p H H' → PoolAt H' p → 0 ≤ r → r < m → Q (.int r) H'
theorem scTake : FnScope ["_law_pool_here", "_law_many", "_law_found"] ["_law_pool_here", "_law_many"] (defScope (topS 63)) := ⟨rfl, rfl, rfl, by decide +kernel, rfl, by decide +kernel, by decide +kernel⟩
theorem sx_upd {p : Addr} {H : Hp} {o : HO} : Sx p H (upd H p o) := fun b x hb z => by
  rw [upd_ne hb]
  exact z
theorem c_take (D : DefAt K mg "_law_take" (topS 63) ["_law_pool_here", "_law_many"]) : Callable P w K mg base 1 "_law_take" ["_law_pool_here", "_law_many"] spTake := by
  refine .of D fun f fd F => F.ok scTake (fun vs H Q E h => ?_) (fun cdv A outer s H vs Q E hr h => ?_)
  · obtain ⟨p, m, rfl, _⟩ := h
    rfl
  · obtain ⟨p, m, rfl, m1, m2, ⟨x, y, hp⟩, q⟩ := h
    refine ⟨_, pss_cons (ps_if (pt_cmpR op_gt (pe_ix ix_list (pv 0) pe_int (fun _ _ => rfl)) pe_int (nomark _))
        (pss_cons (ps_set (i := 2) scTake.nd rfl (Or.inl rfl) (pe_op op_mod (pe_ix ix_list (pv 0) pe_int (fun _ _ => rfl)) (pv 1)))
        (pss_cons (ps_asg (pe_op op_fdiv (pe_ix ix_list (pv 0) pe_int (fun _ _ => rfl)) (pv 1)) (pg_sub (pv 0) pe_int set_list))
        (pss_one (ps_ret (pv 2))))) pss_nil)
      (pss_cons (ps_asg (pe_op op_mod (pe_op op_add (pe_op op_mul (pe_ix ix_list (pv 0) pe_int (fun _ _ => rfl)) pe_int) pe_int) pe_int) (pg_sub (pv 0) pe_int set_list))
      (pss_one (ps_ret (pe_op op_mod (pe_op op_fdiv (pe_op op_mod (pe_op op_mul (pe_ix ix_list (pv 0) pe_int (fun _ _ => rfl)) (pe_ix ix_list (pv 0) pe_int (fun _ _ => rfl))) pe_int) pe_int) (pv 1))))), ?_⟩
    refine ⟨.ref p, rfl, p, _, 0, .int x, rfl, rfl, .of hp, rfl, x, 0, rfl, rfl, _, rfl, ?_⟩
    by_cases hx : x > 0
    · refine iteD hx ?_
      refine ⟨.ref p, rfl, p, _, 0, .int x, rfl, rfl, .of hp, rfl, .int m, rfl, x, m, rfl, rfl, (by show (0 : Int) < m; omega), ?_⟩
      refine ⟨.ref p, rfl, p, _, 0, .int x, rfl, rfl, .of hp, rfl, .int m, rfl, x, m, rfl, rfl, ⟨by show (0 : Int) < m; omega, by show m < 1073741824; omega⟩, .ref p, rfl, p, _, 0, 0, rfl, rfl, hp, rfl, ?_⟩
      exact ⟨.int (x % m), rfl, q _ _ sx_upd ⟨x / m, y, upd_same⟩ (Int.emod_nonneg _ (by omega)) (Int.emod_lt_of_pos _ (by omega))⟩
    · rw [decide_eq_false hx]
      refine iteF ?_
      refine ⟨.ref p, rfl, p, _, 1, .int y, rfl, rfl, .of hp, rfl, y, 48271, rfl, rfl, .inr ⟨by decide, by decide⟩, _, 11, rfl, rfl, _, 2147483647, rfl, rfl, (by show (0 : Int) < 2147483647; decide), .ref p, rfl, p, _, 1, 1, rfl, rfl, hp, rfl, ?_⟩
      have y1 : 0 ≤ (y * 48271 + 11) % 2147483647 := Int.emod_nonneg _ (by decide)
      have y2 : (y * 48271 + 11) % 2147483647 < 2147483647 := Int.emod_lt_of_pos _ (by decide)
      obtain ⟨z, ez⟩ : ∃ z, z = (y * 48271 + 11) % 2147483647 := ⟨_, rfl⟩
      have hz : (upd H p (.lst ([V.int x, V.int y].set 1 (.int ((y * 48271 + 11) % 2147483647))))) p = some (.lst [.int x, .int z]) := by
        rw [ez]
        exact upd_same
      rw [← ez] at y1 y2
      refine ⟨.ref p, rfl, p, _, 1, .int z, rfl, rfl, .of hz, rfl, .ref p, rfl, p, _, 1, .int z, rfl, rfl, .of hz, rfl, z, z, rfl, rfl, .inl ⟨by omega, by omega⟩, _, 2147483629, rfl, rfl, (by show (0 : Int) < 2147483629; decide), _, 64, rfl, rfl, ⟨by decide, by decide⟩, .int m, rfl, _, m, rfl, rfl, (by show (0 : Int) < m; omega), ?_⟩
      exact q _ _ sx_upd ⟨x, z, hz⟩ (Int.emod_nonneg _ (by omega)) (Int.emod_lt_of_pos _ (by omega))

/-! ### _law_one -/
def spOne : Sp := fun vs H Q _ => ∃ (p l : Addr) (xs : List V), vs = [.ref p, .ref l] ∧ PoolAt H p ∧ H l = some (.lst xs) ∧ l ≠ p ∧ 1 ≤ xs.length ∧ xs.length ≤ 1000 ∧ ∀ (H' : Hp) (x : V), Sx p H H' → PoolAt H' p → x ∈ xs → Q x H'
theorem scOne : FnScope ["_law_pool_here", "_law_some"] ["_law_pool_here", "_law_some"] (defScope (topS 64)) := ⟨rfl, rfl, rfl, by decide +kernel, rfl, by decide +kernel, by decide +kernel⟩
theorem at_in {xs : List V} {r : Int} (h0 : 0 ≤ r) (h1 : r < xs.length) : ∃ x, atI xs r = some x ∧ x ∈ xs := by
  obtain ⟨n, rfl⟩ := Int.eq_ofNat_of_zero_le h0
  have hn : n < xs.length := by omega
  exact ⟨xs[n], atI_nat (List.getElem?_eq_getElem hn), List.getElem_mem hn⟩
theorem c_one (D : DefAt K mg "_law_one" (topS 64) ["_law_pool_here", "_law_some"]) (B : Blt mg) (C1 : Callable P w K mg base 1 "_law_take" ["_law_pool_here", "_law_many"] spTake) : Callable P w K mg base 2 "_law_one" ["_law_pool_here", "_law_some"] spOne := by
  refine .of D fun f fd F => F.ok scOne (fun vs H Q E h => ?_) (fun cdv A outer s H vs Q E hr h => ?_)
  · obtain ⟨p, l, xs, rfl, _⟩ := h
    rfl
  · obtain ⟨p, l, xs, rfl, hp, hl, hlp, l1, l2, q⟩ := h
    refine ⟨_, pss_one (ps_ret (pe_ix ix_list (pv 1) (pe_k C1 hr (by rfl) (pa_cons (pv 0) (pa_cons (pe_callB call_len (by rfl) B.len PySem.boot_len (pa_cons (pv 1) pa_nil)) pa_nil))) (fun _ _ => rfl))), ?_⟩
    refine ⟨.ref l, rfl, .ref p, rfl, .ref l, rfl, .ref l, _, rfl, .inl ⟨xs, .of hl, rfl⟩, p, xs.length, rfl, by omega, by omega, hp, fun H1 r e1 hp1 r0 r1 => ?_⟩
    obtain ⟨x, hx, hm⟩ := at_in r0 r1
    exact ⟨l, xs, r, x, rfl, rfl, .of (e1 _ _ hlp hl), hx, q H1 x e1 hp1 hm⟩
end
end Wm
namespace Wm
open PySem PySem.Spec PyProof.Rows L2
theorem tOrT_join {K : PySem.W.Frag} {ta tb : TE} {σ : L2.St} {H : Hp} {Q : VK} (C : V → Hp → Prop) (hQ : ∀ y H, C y H → Q y H) (h : ∀ Q' : VK, (∀ y H, C y H → Q' y H) → tOrT K ta tb σ H Q') : tOrT K ta tb σ H Q := h Q hQ
theorem PlaceAt.keep {H H' : Hp} (e : Tk H H') {p : Str} {b : Addr} (h : PlaceAt H p b) : PlaceAt H' p b := e.t _ _ h
structure WsOk (ws : List Str) : Prop where
  lo : 1 ≤ ws.length
  hi : ws.length ≤ 3
  nd : ws.Nodup
  ok : ∀ p ∈ ws, WordOk p
structure TelS (t : Tel) : Prop where
  ok : TelOk t
  fewR : t.rules.length ≤ 3
  fewN : ∀ r ∈ t.rules, r.notes.length ≤ 2
theorem cut_from (xs : List V) {k : Nat} (h : k ≤ xs.length) : cutV xs (some (k : Int)) none = xs.drop k := by
  unfold cutV
  rw [HT.sIx_nat, HT.sIx_none, Nat.min_eq_left h]
  exact List.take_of_length_le (by rw [List.length_drop]; omega)
theorem ref_take (as : List Addr) (n : Nat) : (as.map V.ref).take n = (as.take n).map V.ref := (List.map_take ..).symm
theorem map_snoc_ref (as : List Addr) (b : Addr) : as.map V.ref ++ [V.ref b] = (as ++ [b]).map V.ref := by rw [List.map_append]; rfl
section
variable {P : Program} {w : World} {K : PySem.W.Frag} {mg : Str → Option Value} {base : Heap}
/-! ### _law_teller -/
def spTel : Sp := fun vs H Q _ => ∃ (p wl : Addr) (z : Str) (ws : List Str), vs = [.ref p, .str z, .ref wl, .int 4] ∧ PoolAt H p ∧ H wl = some (.lst (ws.map V.str)) ∧ wl ≠ p ∧ WsOk ws ∧ WordOk z ∧
  ∀ (H' : Hp) (a : Addr) (t : Tel), Sx p H H' → PoolAt H' p → TelAt H' t a → TelS t → t.places.Perm ws → Q (.ref a) H'
abbrev nTel : List Str := ["_law_pool_here", "_law_name", "_law_words_here", "_law_top", "_law_places", "_law_first", "_law_rules", "_law_turn", "_law_heads", "_law_notes", "_law_place", "_law_again"]
theorem scTel : FnScope nTel ["_law_pool_here", "_law_name", "_law_words_here", "_law_top"] (defScope (topS 65)) := ⟨rfl, rfl, rfl, by decide +kernel, rfl, by decide +kernel, by decide +kernel⟩
def frT (p : Addr) (z : Str) (wl l4 : Addr) (f : Int) (l5 : Addr) (v7 v8 v9 : Option V) : L2.St := [some (.ref p), some (.str z), some (.ref wl), some (.int 4), some (.ref l4), some (.int f), some (.ref l5), v7, v8, v9, none, none]
/-- heads that a rule may have -/
structure HsOk (ps hs : List Str) : Prop where
  lo : 1 ≤ hs.length
  hi : hs.length ≤ 3
  nd : hs.Nodup
  sub : ∀ h ∈ hs, h ∈ ps
theorem c_tel (D : DefAt K mg "_law_teller" (topS 65) ["_law_pool_here", "_law_name", "_law_words_here", "_law_top"]) (B : Blt mg) (C1 : Callable P w K mg base 1 "_law_take" ["_law_pool_here", "_law_many"] spTake) (C2 : Callable P w K mg base 2 "_law_one" ["_law_pool_here", "_law_some"] spOne) :
    Callable P w K mg base 3 "_law_teller" ["_law_pool_here", "_law_name", "_law_words_here", "_law_top"] spTel := by
  refine .of D fun f fd F => F.ok scTel (fun vs H Q E h => ?_) (fun cdv A outer s H vs Q E hr h => ?_)
  · obtain ⟨p, wl, z, ws, rfl, _⟩ := h
    rfl
  · obtain ⟨p, wl, z, ws, rfl, hp, hwl, hwp, wok, zok, q⟩ := h
    refine ⟨_, pss_cons (ps_set (i := 4) scTel.nd rfl (Or.inl rfl) (pe_callTy call_list_of (by rfl) B.list (by decide +kernel) (pa_cons (pv 2) pa_nil)))
      (pss_cons (ps_set (i := 5) scTel.nd rfl (Or.inl rfl) (pe_k C1 hr (by rfl) (pa_cons (pv 0) (pa_cons (pe_callB call_len (by rfl) B.len PySem.boot_len (pa_cons (pv 4) pa_nil)) pa_nil))))
      (pss_cons (ps_set (i := 4) scTel.nd rfl (Or.inl rfl) (pe_op op_cat (pe_slice sl_list (pv 4) (po_some (pv 5)) po_none) (pe_slice sl_list (pv 4) po_none (po_some (pv 5)))))
      (pss_cons (ps_set (i := 6) scTel.nd rfl (Or.inl rfl) (pe_lst pa_nil))
      (pss_cons (ps_for PassesOwn.never rfl (pi_range1 (by rfl) B.range (pa_cons (pe_k C1 hr (by rfl) (pa_cons (pv 0) (pa_cons (pv 3) pa_nil))) pa_nil)) (pg_name (i := 7) scTel.nd rfl (Or.inl rfl))
        (pss_cons (ps_set (i := 8) scTel.nd rfl (Or.inl rfl) (pe_slice sl_list (pe_lc (own := [("_law_place", 10)]) (g := gName 10) rfl scTel.nd (pi_list (pv 4)) (blkOk_by (N := nTel) (sc := defScope (topS 65)) (by decide +kernel))
            (fun _ _ _ _ _ => pg_name (i := 10) scTel.nd rfl (Or.inl rfl)) (fun _ _ _ _ _ => pts_one (pt_cmpR (r := rEq) op_eq (pe_k C1 hr (by rfl) (pa_cons (pv 0) (pa_cons pe_int pa_nil))) pe_int (nomark _)))
            (fun _ _ _ _ _ => pe_tup (pa_cons (pv 10) (pa_cons (pe_tup pa_nil) pa_nil)))) po_none (po_some pe_int)))
        (pss_cons (ps_set (i := 8) scTel.nd rfl (Or.inl rfl) (pe_orT (pv 8) (pe_one (pe_lst (pa_cons (pe_tup (pa_cons (pe_ix ix_list (pv 4) (pe_k C1 hr (by rfl) (pa_cons (pv 0) (pa_cons (pe_callB call_len (by rfl) B.len PySem.boot_len (pa_cons (pv 4) pa_nil)) pa_nil))) (fun _ _ => rfl)) (pa_cons (pe_tup pa_nil) pa_nil))) pa_nil)))))
        (pss_cons (ps_setLc (i := 9) (own := [("_law_again", 11)]) (g := gName 11) rfl scTel.nd rfl rfl (sw_true rfl rfl rfl (by decide +kernel)) (pi_range1 (by rfl) B.range (pa_cons (pe_k C1 hr (by rfl) (pa_cons (pv 0) (pa_cons pe_int pa_nil))) pa_nil)) (blkOk_by (N := nTel) (sc := defScope (topS 65)) (by decide +kernel))
            (fun _ _ _ _ _ => pg_name (i := 11) scTel.nd rfl (Or.inl rfl)) (fun _ _ _ _ _ => pts_nil) (fun _ _ _ _ _ => pe_tup (pa_cons pe_str (pa_cons (pe_tup (pa_cons pe_str (pa_cons (pe_k C2 hr (by rfl) (pa_cons (pv 0) (pa_cons (pe_lst (pa_cons pe_int (pa_cons pe_int (pa_cons pe_bl (pa_cons (pe_un un_neg pe_int) pa_nil))))) pa_nil))) pa_nil))) pa_nil))))
        (pss_one (ps_expr (pe_bm PySem.F.plainAttrs_list PySem.F.slot_list_append PySem.F.type_list_append mt_append (pv 6) (pa_cons (pe_tup (pa_cons (pe_callTy call_tuple_of (by rfl) B.tuple (by decide +kernel) (pa_cons (pv 8) pa_nil)) (pa_cons (pe_callTy call_tuple_of (by rfl) B.tuple (by decide +kernel) (pa_cons (pv 9) pa_nil)) pa_nil))) pa_nil))))))))
      (pss_one (ps_ret (pe_tup (pa_cons (pv 1) (pa_cons (pe_callTy call_tupleF (by rfl) B.tuple (by decide +kernel) (pa_cons (pe_lc (own := [("_law_place", 10)]) (g := gName 10) rfl scTel.nd (pi_list (pv 4)) (blkOk_by (N := nTel) (sc := defScope (topS 65)) (by decide +kernel))
            (fun _ _ _ _ _ => pg_name (i := 10) scTel.nd rfl (Or.inl rfl)) (fun _ _ _ _ _ => pts_nil) (fun _ _ _ _ _ => pe_tup (pa_cons (pv 10) (pa_cons pe_int pa_nil)))) pa_nil))
        (pa_cons (pe_callTy call_tuple_of (by rfl) B.tuple (by decide +kernel) (pa_cons (pv 6) pa_nil)) pa_nil)))))))))), ?_⟩
    have w1 := wok.lo
    have w3 := wok.hi
    refine ⟨.ref wl, rfl, wl, _, rfl, .inl (.of hwl), fun l1 nl1 => ?_⟩
    have e1 : Same H _ := same_new (o := .lst (ws.map V.str)) nl1
    have hp1 := hp.same e1
    have hl1 : (upd H l1 (.lst (ws.map V.str))) l1 = some (.lst (ws.map V.str)) := upd_same
    have nl1p := hp.ne nl1
    generalize upd H l1 (.lst (ws.map V.str)) = H1 at e1 hp1 hl1 ⊢
    refine ⟨.ref p, rfl, .ref l1, rfl, .ref l1, _, rfl, .inl ⟨_, .of hl1, rfl⟩, p, _, rfl, by rw [List.length_map]; omega, by rw [List.length_map]; omega, hp1, fun H2 k e2 hp2 k0 k1 => ?_⟩
    obtain ⟨k, rfl⟩ := Int.eq_ofNat_of_zero_le k0
    rw [List.length_map] at k1
    have hk : k ≤ ws.length := by omega
    have hl2 := e2 _ _ nl1p hl1
    refine ⟨.ref l1, rfl, .int k, rfl, k, rfl, l1, _, rfl, .of hl2, fun l2 nl2 => ?_⟩
    have s3 := same_new (o := .lst (cutV (ws.map V.str) (some (k : Int)) none)) nl2
    refine ⟨.ref l1, rfl, .int k, rfl, k, rfl, l1, _, rfl, .of (s3 _ _ hl2), fun l3 nl3 => ?_⟩
    have s4 := same_new (o := .lst (cutV (ws.map V.str) none (some (k : Int)))) nl3
    refine ⟨l2, l3, _, _, rfl, rfl, s4 _ _ upd_same, upd_same, ?_, fun l4 nl4 => ?_⟩
    · have := cutV_length (ws.map V.str) (some (k : Int)) none
      have := cutV_length (ws.map V.str) none (some (k : Int))
      rw [List.length_map] at *
      rw [sizeLine_eq]
      omega
    have hps : cutV (ws.map V.str) (some (k : Int)) none ++ cutV (ws.map V.str) none (some (k : Int)) = (ws.drop k ++ ws.take k).map V.str := by
      rw [cut_from _ (by rw [List.length_map]; exact hk), cut_to, List.map_append, List.map_drop, List.map_take]
    rw [hps]
    have hperm : (ws.drop k ++ ws.take k).Perm ws := by
      have := List.perm_append_comm (l₁ := ws.drop k) (l₂ := ws.take k)
      rwa [List.take_append_drop] at this
    generalize ws.drop k ++ ws.take k = ps at hperm
    have s5 := same_new (o := .lst (ps.map V.str)) nl4
    have s35 := s3.trans (s4.trans s5)
    have e5 : Sx p H _ := (Sx.of e1).trans (e2.trans (Sx.of s35))
    have hp5 := hp2.same s35
    have nl4p : l4 ≠ p := (hp2.same (s3.trans s4)).ne nl4
    have hl4 : (upd (upd (upd H2 l2 (.lst (cutV (ws.map V.str) (some (k : Int)) none))) l3 (.lst (cutV (ws.map V.str) none (some (k : Int))))) l4 (.lst (ps.map V.str))) l4 = some (.lst (ps.map V.str)) := upd_same
    generalize upd (upd (upd H2 l2 (.lst (cutV (ws.map V.str) (some (k : Int)) none))) l3 (.lst (cutV (ws.map V.str) none (some (k : Int))))) l4 (.lst (ps.map V.str)) = H5 at e5 hp5 hl4 ⊢
    have psl : ps.length = ws.length := hperm.length_eq
    have psnd : ps.Nodup := hperm.nodup_iff.mpr wok.nd
    have psok : ∀ x ∈ ps, WordOk x := fun x hx => wok.ok x (hperm.mem_iff.mp hx)
    refine ⟨(by show 0 ≤ sizeLine; decide), fun l5 nl5 => ?_⟩
    have s6 := same_new (o := .lst []) nl5
    have e6 := e5.trans (Sx.of s6)
    have hp6 := hp5.same s6
    have hl46 := s6 _ _ hl4
    have nl5p := hp5.ne nl5
    have hl5 : (upd H5 l5 (.lst [])) l5 = some (.lst []) := upd_same
    have n45 : l4 ≠ l5 := ne_of_none hl4 nl5
    generalize upd H5 l5 (.lst []) = H6 at e6 hp6 hl46 hl5 ⊢
    refine ⟨.ref p, rfl, .int 4, rfl, p, 4, rfl, by decide, by decide, hp6, fun H7 n e7 hp7 n0 n4 => ?_⟩
    refine ⟨n, rfl, by omega, by omega, ?_⟩
    refine for_it (walk_range (lo := 0) (n := n.toNat)) (fun i σ H8 => ∃ (v7 v8 v9 : Option V) (rs : List Rul) (as : List Addr), σ = frT p z wl l4 k l5 v7 v8 v9 ∧ Sx p H H8 ∧ PoolAt H8 p ∧ H8 l4 = some (.lst (ps.map V.str)) ∧ H8 l5 = some (.lst (as.map V.ref)) ∧ Paired (RuleAt H8) rs as ∧
        rs.length = i ∧ ∀ r ∈ rs, RulOk ps r ∧ r.notes.length ≤ 2)
      ⟨none, none, none, [], [], rfl, e6.trans e7, hp7, e7 _ _ nl4p hl46, e7 _ _ nl5p hl5, .nil, rfl, fun r hr => nomatch hr⟩ (fun _ _ _ _ _ => trivial) ?turn ?done
    case done =>
      rintro σ H8 ⟨v7, v8, v9, rs, as, rfl, e8, hp8, h84, h85, hR, hlr, hrs⟩
      refine ⟨.str z, rfl, .ref l4, rfl, l4, rfl, ⟨_, .of h84⟩, fun L nL => ?_⟩
      have nLp := hp8.ne nL
      refine lc_it (walk_list (xs := ps.map V.str)) (fun j H9 => Same H8 H9 ∧ ∃ bs : List Addr, H9 L = some (.lst (bs.map V.ref)) ∧ Paired (PlaceAt H9) (ps.take j) bs) ⟨same_over nL (Same.refl _), [], upd_same, .nil⟩ (fun j H9 _ h => .of (h.1 _ _ h84)) (fun j x H9 H10 hj h y => ?_) (fun H9 h => ?_)
      · rw [List.length_map] at hj
        obtain ⟨e9, bs, hL, hB⟩ := h
        obtain ⟨rfl, hx0⟩ := y
        obtain ⟨x, rfl, hx⟩ := str_at hx0
        refine ⟨rfl, ?_⟩
        refine ⟨.str x, rfl, (by show 2 ≤ sizeLine; decide), fun b nb => ?_⟩
        have s10 := same_new (o := .tup [.str x, .int 0]) nb
        have hbl : bs.length ≤ 3 := by
          have := pair_len hB
          rw [List.length_take] at this
          omega
        refine ⟨bs.map V.ref, s10 _ _ hL, by rw [List.length_map, sizeLine_eq]; omega, same_over nL (e9.trans s10), bs ++ [b], by rw [upd_same, map_snoc_ref], ?_⟩
        rw [List.take_add_one, hx]
        have tk := tk_over (o := .lst (bs.map V.ref ++ [.ref b])) (s10 _ _ hL)
        exact Paired.snoc (F := PlaceAt _) (tk.t _ _ upd_same) (pair_mono hB fun _ _ zz => PlaceAt.keep ((Tk.of s10).trans tk) zz)
      · obtain ⟨e9, bs, hL, hB⟩ := h
        rw [List.length_map, List.take_length] at hB
        refine ⟨L, _, rfl, .of hL, fun pa o npa oc od => ?_⟩
        have s10 := same_new (o := .frz o (.tup (bs.map V.ref))) npa
        have e10 := e9.trans s10
        refine ⟨.ref l5, rfl, l5, _, rfl, .inl ⟨.of (e10 _ _ h85), fun ra nra => ⟨(by show 3 ≤ sizeLine; decide), fun a na => ?_⟩⟩⟩
        have s11 := same_new (o := .tup (as.map V.ref)) nra
        have s12 := same_new (o := .tup [.str z, .ref pa, .ref ra]) na
        have s1012 := s10.trans (s11.trans s12)
        have eA := e9.trans s1012
        refine q _ a ⟨z, ps, rs⟩ (e8.trans (Sx.of eA)) (hp8.same eA) ⟨pa, ra, upd_same, ⟨bs, ⟨o, oc, od, (s11.trans s12) _ _ upd_same⟩, pair_mono hB fun _ _ zz => PlaceAt.keep (Tk.of s1012) zz⟩, as, s12 _ _ upd_same, pair_mono hR fun _ _ zz => zz.same eA⟩ ⟨⟨zok, ?_, ?_, psnd, psok, ?_, fun r hr => (hrs r hr).1⟩, ?_, fun r hr => (hrs r hr).2⟩ hperm
        · show 1 ≤ ps.length
          omega
        · show ps.length ≤ 3
          omega
        · show rs.length ≤ 4
          omega
        · show rs.length ≤ 3
          omega
    case turn =>
      rintro i x σ H9 H8 hi ⟨v7, v8, v9, rs, as, rfl, e8, hp8, h84, h85, hR, hlr, hrs⟩ ⟨rfl, rfl⟩
      -- the heads
      refine ⟨.ref l4, rfl, l4, rfl, ⟨_, .of h84⟩, fun L nL => ?_⟩
      have nLp := hp8.ne nL
      refine lc_it (walk_list (xs := ps.map V.str)) (fun j H9 => Sx p H8 H9 ∧ PoolAt H9 p ∧ ∃ (hs : List Str) (bs : List Addr), H9 L = some (.lst (bs.map V.ref)) ∧ Paired (HeadAt H9) hs bs ∧ hs.Nodup ∧ (∀ h ∈ hs, h ∈ ps.take j) ∧ hs.length ≤ j)
        ⟨sx_over nL (Sx.refl _), hp8.over nLp, [], [], upd_same, .nil, List.nodup_nil, (fun h hh => nomatch hh), Nat.le_refl _⟩ (fun j H9 _ h => .of (h.1 _ _ nl4p h84)) (fun j x H9 H10 hj h y => ?_) (fun H9 h => ?_)
      · rw [List.length_map] at hj
        obtain ⟨e9, hp9, hs, bs, hL, hB, hnd, hsub, hlen⟩ := h
        obtain ⟨rfl, hx0⟩ := y
        obtain ⟨x, rfl, hx⟩ := str_at hx0
        refine ⟨rfl, ?_⟩
        refine ⟨.ref p, rfl, p, 2, rfl, by decide, by decide, hp9, fun H11 r e11 hp11 r0 r2 => ?_⟩
        have tk := e11.tk hp9
        have hL11 := e11 _ _ nLp hL
        have e911 := e9.trans e11
        have hB11 := pair_mono hB fun _ _ zz => HeadAt.keep tk zz
        have hsub2 : ∀ h ∈ hs, h ∈ ps.take (j + 1) := fun h hh => by
          rw [List.take_add_one]
          exact List.mem_append_left _ (hsub h hh)
        refine ⟨rfl, _, rfl, ?_⟩
        by_cases hr0 : V.int r = V.int 0
        · refine iteD hr0 ?_
          refine ⟨.str x, rfl, (by show 0 ≤ sizeLine; decide), fun c nc => ⟨(by show 2 ≤ sizeLine; decide), fun b nb => ?_⟩⟩
          have s12 := same_new (o := .tup []) nc
          have s13 := same_new (o := .tup [.str x, .ref c]) nb
          have s123 := s12.trans s13
          have hL13 := s123 _ _ hL11
          have hbl : bs.length ≤ 3 := by
            have := pair_len hB
            omega
          have tk2 := tk_over (o := .lst (bs.map V.ref ++ [.ref b])) hL13
          refine ⟨bs.map V.ref, hL13, by rw [List.length_map, sizeLine_eq]; omega, sx_over nL (e911.trans (Sx.of s123)), (hp11.same s123).over nLp, hs ++ [x], bs ++ [b], by rw [upd_same, map_snoc_ref], ?_, ?_, ?_, ?_⟩
          · exact Paired.snoc (HeadAt.keep tk2 ⟨c, upd_same, s13 _ _ upd_same⟩) (pair_mono hB11 fun _ _ zz => (zz.same s123).keep tk2)
          · refine List.nodup_append.mpr ⟨hnd, by simp, fun u hu v hv => ?_⟩
            have ev : v = x := by simpa using hv
            rw [ev]
            exact fun zz => nodup_at psnd hx (zz ▸ hsub u hu)
          · intro h hh
            rcases List.mem_append.mp hh with g | g
            · exact hsub2 h g
            · have eh : h = x := by simpa using g
              rw [eh, List.take_add_one, hx]
              exact List.mem_append_right _ (by simp)
          · rw [List.length_append]
            show hs.length + 1 ≤ j + 1
            omega
        · rw [decide_eq_false hr0]
          exact iteF ⟨e911, hp11, hs, bs, hL11, hB11, hnd, hsub2, by omega⟩
      · obtain ⟨e9, hp9, hs, bs, hL, hB, hnd, hsub, hlen⟩ := h
        rw [List.length_map] at hsub
        rw [List.take_length] at hsub
        refine ⟨3, rfl, L, _, rfl, .of hL, fun l8 nl8 => ?_⟩
        have s10 := same_new (o := .lst (cutV (bs.map V.ref) none (some 3))) nl8
        have hcut : cutV (bs.map V.ref) none (some 3) = (bs.take 3).map V.ref := by
          have := cut_to (bs.map V.ref) 3
          rw [ref_take] at this
          exact this
        rw [hcut] at s10 ⊢
        have nl8p := hp9.ne nl8
        have e10 := e9.trans (Sx.of s10)
        have hp10 := hp9.same s10
        have hl8 : (upd H9 l8 (.lst ((bs.take 3).map V.ref))) l8 = some (.lst ((bs.take 3).map V.ref)) := upd_same
        have hB10 := pair_take 3 (pair_mono hB fun _ _ zz => HeadAt.same s10 zz)
        generalize upd H9 l8 (.lst ((bs.take 3).map V.ref)) = H10 at e10 hp10 hl8 hB10 ⊢
        -- or one
        dsimp only [gName, tSeq, tAsg]
        refine tOrT_join (fun y H11 => ∃ (l9 : Addr) (hs : List Str) (bs : List Addr), y = .ref l9 ∧ l9 ≠ p ∧ Sx p H8 H11 ∧ PoolAt H11 p ∧ H11 l9 = some (.lst (bs.map V.ref)) ∧ Paired (HeadAt H11) hs bs ∧ HsOk ps hs) ?cont ?br
        case br =>
          intro Q' hQ'
          by_cases hz : hs.take 3 = []
          · have hbz : bs.take 3 = [] := by
              have := pair_len hB10
              rw [hz] at this
              exact List.length_eq_zero_iff.mp this.symm
            refine ⟨.ref l8, rfl, false, .inl ⟨_, .of hl8, by rw [hbz]; rfl⟩, iteF ?_⟩
            refine ⟨.ref l4, rfl, .ref p, rfl, .ref l4, rfl, .ref l4, _, rfl, .inl ⟨_, .of (e10 _ _ nl4p h84), rfl⟩, p, _, rfl, by rw [List.length_map]; omega, by rw [List.length_map]; omega, hp10, fun H11 r e11 hp11 r0 r1 => ?_⟩
            obtain ⟨y, hy, hym⟩ := at_in (xs := ps.map V.str) r0 r1
            obtain ⟨y, hyp, rfl⟩ := List.mem_map.mp hym
            refine ⟨l4, _, r, .str y, rfl, rfl, .of (e11 _ _ nl4p (e10 _ _ nl4p h84)), hy, (by show 0 ≤ sizeLine; decide), fun c nc => ⟨(by show 2 ≤ sizeLine; decide), fun b nb => ⟨(by show 1 ≤ sizeLine; decide), fun l9 nl9 => ?_⟩⟩⟩
            have s12 := same_new (o := .tup []) nc
            have s13 := same_new (o := .tup [.str y, .ref c]) nb
            have s14 := same_new (o := .lst [.ref b]) nl9
            have s := s12.trans (s13.trans s14)
            refine hQ' _ _ ⟨l9, [y], [b], rfl, (hp11.same (s12.trans s13)).ne nl9, (e10.trans e11).trans (Sx.of s), hp11.same s, upd_same, .cons ⟨c, s14 _ _ upd_same, (s13.trans s14) _ _ upd_same⟩ .nil, ⟨by show 1 ≤ 1; decide, by show 1 ≤ 3; decide, by simp, fun h hh => ?_⟩⟩
            have eh : h = y := by simpa using hh
            rw [eh]
            exact hyp
          · have hbz : bs.take 3 ≠ [] := fun e => hz (by
              have := pair_len hB10
              rw [e] at this
              exact List.length_eq_zero_iff.mp this)
            refine ⟨.ref l8, rfl, true, .inl ⟨_, .of hl8, ?_⟩, iteT ?_⟩
            · cases hb : bs.take 3 with
              | nil => exact absurd hb hbz
              | cons u v => rfl
            · refine hQ' _ _ ⟨l8, hs.take 3, bs.take 3, rfl, nl8p, e10, hp10, hl8, hB10, ⟨?_, by rw [List.length_take]; omega, hnd.sublist (List.take_sublist _ _), fun h hh => hsub h (List.mem_of_mem_take hh)⟩⟩
              cases hb : hs.take 3 with
              | nil => exact absurd hb hz
              | cons u v => exact Nat.succ_le_succ (Nat.zero_le _)
        case cont =>
          clear hB10 hl8 hp10 e10 nl8p hcut s10 nl8 hL hB hnd hsub hlen hp9 e9
          clear hs bs
          rintro y H11 ⟨l9, hs, bs, rfl, nl9p, e11, hp11, hl9, hB, hok⟩
          -- the notes
          refine ⟨.ref p, rfl, p, 3, rfl, by decide, by decide, hp11, fun H12 r e12 hp12 r0 r3 => ⟨r, rfl, by omega, by omega, fun M nM => ?_⟩⟩
          have nMp := hp12.ne nM
          refine lc_it (walk_range (lo := 0) (n := r.toNat)) (fun j H13 => Sx p H12 H13 ∧ PoolAt H13 p ∧ ∃ (ns : List V) (ds : List Addr), H13 M = some (.lst (ds.map V.ref)) ∧ Paired (DeedAt H13) ns ds ∧ (∀ x ∈ ns, NoteOk x) ∧ ns.length = j)
            ⟨sx_over nM (Sx.refl _), hp12.over nMp, [], [], upd_same, .nil, (fun h hh => nomatch hh), rfl⟩ (fun _ _ _ _ => trivial) (fun j x H13 H14 hj h y => ?_) (fun H13 h => ?_)
          · obtain ⟨e13, hp13, ns, ds, hM, hD, hns, hnl⟩ := h
            obtain ⟨rfl, rfl⟩ := y
            refine ⟨rfl, ?_⟩
            refine ⟨.ref p, rfl, 3, rfl, (by show 4 ≤ sizeLine; decide), fun l nl => ?_⟩
            have s14 := same_new (o := .lst [.int 1, .int 2, .bl true, .int (-3)]) nl
            refine ⟨p, l, [.int 1, .int 2, .bl true, .int (-3)], rfl, hp13.same s14, upd_same, hp13.ne nl, by decide, by decide, fun H15 x e15 hp15 hx => ?_⟩
            have hxo : NoteOk x := by
              have : x = .int 1 ∨ x = .int 2 ∨ x = .bl true ∨ x = .int (-3) := by simpa using hx
              rcases this with h | h | h | h
              · exact .inl h
              · exact .inr (.inl h)
              · exact .inr (.inr (.inl h))
              · exact .inr (.inr (.inr (.inl h)))
            refine ⟨(by show 2 ≤ sizeLine; decide), fun c nc => ⟨(by show 2 ≤ sizeLine; decide), fun b nb => ?_⟩⟩
            have s16 := same_new (o := .tup [.str "is", x]) nc
            have s17 := same_new (o := .tup [.str "note", .ref c]) nb
            have tk1 := (Tk.of s14).trans (e15.tk (hp13.same s14))
            have hM15 := e15 _ _ nMp (s14 _ _ hM)
            have hM17 := (s16.trans s17) _ _ hM15
            have tk2 := tk_over (o := .lst (ds.map V.ref ++ [.ref b])) hM17
            have hdl : ds.length ≤ 3 := by
              have := pair_len hD
              omega
            refine ⟨ds.map V.ref, hM17, by rw [List.length_map, sizeLine_eq]; omega, sx_over nM (e13.trans ((Sx.of s14).trans (e15.trans (Sx.of (s16.trans s17))))), (hp15.same (s16.trans s17)).over nMp, ns ++ [x], ds ++ [b], by rw [upd_same, map_snoc_ref], ?_, ?_, ?_⟩
            · exact Paired.snoc (DeedAt.keep tk2 ⟨c, upd_same, s17 _ _ upd_same⟩) (pair_mono hD fun _ _ zz => ((DeedAt.keep tk1 zz).same (s16.trans s17)).keep tk2)
            · intro u hu
              rcases List.mem_append.mp hu with g | g
              · exact hns u g
              · have eu : u = x := by simpa using g
                rw [eu]
                exact hxo
            · rw [List.length_append, hnl]
              rfl
          · obtain ⟨e13, hp13, ns, ds, hM, hD, hns, hnl⟩ := h
            have e1213 := e12.trans e13
            have tk := e1213.tk hp11
            have hl9' := e1213 _ _ nl9p hl9
            have hB' := pair_mono hB fun _ _ zz => HeadAt.keep tk zz
            have e813 := e11.trans e1213
            have h85' := e813 _ _ nl5p h85
            have h84' := e813 _ _ nl4p h84
            have hR' := pair_mono hR fun _ _ zz => RuleAt.keep (e813.tk hp8) zz
            refine ⟨.ref l5, rfl, .inl ⟨rfl, _, .of h85'⟩, .ref l9, rfl, l9, _, rfl, .inl ⟨.of hl9', fun ha nha => ?_⟩⟩
            have s14 := same_new (o := .tup (bs.map V.ref)) nha
            refine ⟨.ref M, rfl, M, _, rfl, .inl ⟨.of (s14 _ _ hM), fun da nda => ⟨(by show 2 ≤ sizeLine; decide), fun b nb => ?_⟩⟩⟩
            have s15 := same_new (o := .tup (ds.map V.ref)) nda
            have s16 := same_new (o := .tup [.ref ha, .ref da]) nb
            have s := s14.trans (s15.trans s16)
            have h85f := s _ _ h85'
            have tk2 := tk_over (o := .lst (as.map V.ref ++ [.ref b])) h85f
            have hal : as.length ≤ 4 := by
              have := pair_len hR
              omega
            have nl50 : ∀ o, H l5 ≠ some o := fun o ho => by
              have z5 := e5 _ _ nl5p ho
              rw [nl5] at z5
              cases z5
            have nl5H : H l5 = none := by
              cases e : H l5 with
              | none => rfl
              | some o => exact absurd e (nl50 o)
            refine ⟨l5, _, _, rfl, rfl, h85f, by rw [List.length_map, sizeLine_eq]; omega, ?_⟩
            refine ⟨_, _, _, rs ++ [⟨hs, ns⟩], as ++ [b], rfl, sx_over nl5H ((e8.trans e813).trans (Sx.of s)), (hp13.same s).over nl5p, ?_, by rw [upd_same, map_snoc_ref], ?_, by rw [List.length_append, hlr]; rfl, ?_⟩
            · rw [upd_ne n45]
              exact s _ _ h84'
            · refine Paired.snoc (RuleAt.keep tk2 ⟨ha, da, upd_same, ⟨bs, (s15.trans s16) _ _ upd_same, pair_mono hB' fun _ _ zz => zz.same s⟩, ds, s16 _ _ upd_same, pair_mono hD fun _ _ zz => zz.same s⟩) (pair_mono hR' fun _ _ zz => (zz.same s).keep tk2)
            · intro u hu
              rcases List.mem_append.mp hu with g | g
              · exact hrs u g
              · have eu : u = ⟨hs, ns⟩ := by simpa using g
                rw [eu]
                have n2 : ns.length ≤ 2 := by omega
                exact ⟨⟨hok.lo, hok.hi, hok.nd, hok.sub, by show ns.length ≤ 3; omega, hns⟩, n2⟩
end
end Wm
namespace Wm
open PySem PySem.Spec PyProof.Rows L2
section
variable {K : PySem.W.Frag} {H : Hp}
theorem cat_any {Q : VK} {a b : Addr} {xs ys : List V} (ha : H a = some (.tup xs)) (hb : H b = some (.tup ys)) (hl : xs.length + ys.length ≤ 100) (q : ∀ H' c, Same H H' → H' c = some (.tup (xs ++ ys)) → Q (.ref c) H') : rCatA K (.ref a) (.ref b) H Q := by
  refine ⟨a, b, xs, ys, rfl, rfl, .of ha, .of hb, by rw [sizeLine_eq]; omega, fun e => ?_, fun _ e => ?_, fun _ _ p np => q _ p (same_new np) upd_same⟩
  · refine q H b (Same.refl _) ?_
    rw [e]
    exact hb
  · refine q H a (Same.refl _) ?_
    rw [e, List.append_nil]
    exact ha
theorem sl_any {Q : VK} {a : Addr} {xs : List V} {lo hi : Option Int} (ha : H a = some (.tup xs)) (q : ∀ H' c, Same H H' → H' c = some (.tup (cutV xs lo hi)) → Q (.ref c) H') : rSlA K (.ref a) lo hi H Q := by
  refine ⟨a, xs, rfl, .of ha, fun e => ?_, fun _ p np => q _ p (same_new np) upd_same⟩
  refine q H a (Same.refl _) ?_
  have : cutV xs lo hi = xs := by
    unfold cutV
    rw [e.1, e.2, List.drop_zero, Nat.sub_zero, List.take_length]
  rw [this]
  exact ha
/-- data of things at addresses -/
theorem dp_all {α : Type} {F : α → Addr → Prop} {k : Nat} : ∀ {l : List α} {as : List Addr}, Paired F l as → (∀ a b, a ∈ l → F a b → ∃ d, Dp K H (.ref b) d ∧ d.canLay0 = true ∧ d.depth ≤ k) →
    ∃ ds : List PyData, DpAll K H (as.map V.ref) ds ∧ PyData.canLayAll0 ds = true ∧ PyData.depthAll ds ≤ k ∧ ds.length = as.length
  | _, _, .nil, _ => ⟨[], .nil, rfl, by simp [PyData.depthAll], rfl⟩
  | _, _, .cons r t, h => by
    obtain ⟨ds, h1, h2, h3, h4⟩ := dp_all t fun a b ha => h a b (List.mem_cons_of_mem _ ha)
    obtain ⟨d, g1, g2, g3⟩ := h _ _ List.mem_cons_self r
    refine ⟨d :: ds, .cons g1 h1, by simp [PyData.canLayAll0, g2, h2], ?_, by simp [h4]⟩
    simp only [PyData.depthAll]
    omega
theorem head_dp {p : Str} {b : Addr} (ok : WordOk p) (h : HeadAt H p b) : ∃ d, Dp K H (.ref b) d ∧ d.canLay0 = true ∧ d.depth ≤ 2 := by
  obtain ⟨e, h1, h2⟩ := h
  refine ⟨.tuple [.str p, .tuple []], .tup (.of h1) (.cons (.str _) (.cons (.tup (.of h2) .nil) .nil)), ?_, ?_⟩
  · simp [PyData.canLay0, PyData.canLayAll0, word_lay ok]
  · simp [PyData.depth, PyData.depthAll]
theorem deed_dp {x : V} {b : Addr} (ok : NoteOk x) (h : DeedAt H x b) : ∃ d, Dp K H (.ref b) d ∧ d.canLay0 = true ∧ d.depth ≤ 2 := by
  obtain ⟨e, h1, h2⟩ := h
  have s1 : PyData.strOk "note" = true := by decide +kernel
  have s2 : PyData.strOk "is" = true := by decide +kernel
  rcases note_cases ok with g | ⟨i, g, _, _⟩ <;> subst g
  · refine ⟨.tuple [.str "note", .tuple [.str "is", .bool true]], .tup (.of h1) (.cons (.str _) (.cons (.tup (.of h2) (.cons (.str _) (.cons (.bl true) .nil))) .nil)), ?_, ?_⟩
    · simp [PyData.canLay0, PyData.canLayAll0, s1, s2]
    · simp [PyData.depth, PyData.depthAll]
  · refine ⟨.tuple [.str "note", .tuple [.str "is", .int i]], .tup (.of h1) (.cons (.str _) (.cons (.tup (.of h2) (.cons (.str _) (.cons (.int i) .nil))) .nil)), ?_, ?_⟩
    · simp [PyData.canLay0, PyData.canLayAll0, s1, s2]
    · simp [PyData.depth, PyData.depthAll]
theorem rule_dp {ps : List Str} {r : Rul} {b : Addr} (hw : ∀ p ∈ ps, WordOk p) (ok : RulOk ps r) (h : RuleAt H r b) : ∃ d, Dp K H (.ref b) d ∧ d.canLay0 = true ∧ d.depth ≤ 4 := by
  obtain ⟨ha, da, h1, ⟨hs, h2, h3⟩, ds, h4, h5⟩ := h
  obtain ⟨d1, a1, a2, a3, _⟩ := dp_all (K := K) (H := H) h3 fun p b hp hb => head_dp (hw p (ok.sub p hp)) hb
  obtain ⟨d2, b1, b2, b3, _⟩ := dp_all (K := K) (H := H) h5 fun x b hx hb => deed_dp (ok.ok x hx) hb
  refine ⟨.tuple [.tuple d1, .tuple d2], .tup (.of h1) (.cons (.tup (.of h2) a1) (.cons (.tup (.of h4) b1) .nil)), ?_, ?_⟩
  · simp [PyData.canLay0, PyData.canLayAll0, a2, b2]
  · simp only [PyData.depth, PyData.depthAll]
    omega
theorem rules_dp {t : Tel} {ra : Addr} (ok : TelOk t) (h : RulesAt H t.rules ra) : ∃ ds : List PyData, Dp K H (.ref ra) (.tuple ds) ∧ SeqAt.shaped (.tuple ds) = true ∧ (ds = [] ↔ t.rules = []) := by
  obtain ⟨as, h1, h2⟩ := h
  obtain ⟨ds, a1, a2, a3, a4⟩ := dp_all (K := K) (H := H) h2 fun r b hr hb => rule_dp ok.words (ok.rules r hr) hb
  refine ⟨ds, .tup (.of h1) a1, ?_, ?_⟩
  · simp [SeqAt.shaped, PyData.canLay0, PyData.depth, a2]
    omega
  · have := pair_len h2
    constructor
    · intro e
      rw [e] at a4
      exact List.length_eq_zero_iff.mp (by rw [this, ← a4]; rfl)
    · intro e
      rw [e] at this
      exact List.length_eq_zero_iff.mp (by rw [a4, ← this]; rfl)
end
theorem cut_to_ref (as : List Addr) (k : Nat) : cutV (as.map V.ref) none (some (k : Int)) = (as.take k).map V.ref := by rw [cut_to, ref_take]
theorem cut_from_ref {as : List Addr} {k : Nat} (h : k ≤ as.length) : cutV (as.map V.ref) (some (k : Int)) none = (as.drop k).map V.ref := by
  rw [cut_from _ (by rw [List.length_map]; exact h), List.map_drop]
section
variable {K : PySem.W.Frag} {H : Hp} {Q : VK} {a b : Addr} {as bs : List Addr} {k : Nat}
theorem sl_to (ha : H a = some (.tup (as.map V.ref))) (q : ∀ H' c, Same H H' → H' c = some (.tup ((as.take k).map V.ref)) → Q (.ref c) H') : rSlA K (.ref a) none (some (k : Int)) H Q :=
  sl_any ha fun H' c e h => q H' c e (by rw [h, cut_to_ref])
theorem sl_from {σ : L2.St} (hk : k ≤ as.length) (ha : H a = some (.tup (as.map V.ref))) (q : ∀ H' c, Same H H' → H' c = some (.tup ((as.drop k).map V.ref)) → Q (.ref c) H') : tNoPart σ H fun u H3 => rSlA K (.ref a) (some (k : Int)) u H3 Q :=
  sl_any (H := H) ha fun H' c e h => q H' c e (by rw [h, cut_from_ref hk])
theorem cat_refs (ha : H a = some (.tup (as.map V.ref))) (hb : H b = some (.tup (bs.map V.ref))) (hl : as.length + bs.length ≤ 100) (q : ∀ H' c, Same H H' → H' c = some (.tup ((as ++ bs).map V.ref)) → Q (.ref c) H') : rCatA K (.ref a) (.ref b) H Q :=
  cat_any ha hb (by rw [List.length_map, List.length_map]; exact hl) fun H' c e h => q H' c e (by rw [h, List.map_append])
end
theorem RulOk.perm {ps qs : List Str} {r : Rul} (h : ps.Perm qs) (ok : RulOk ps r) : RulOk qs r := ⟨ok.lo, ok.hi, ok.nd, fun p hp => h.mem_iff.mp (ok.sub p hp), ok.few, ok.ok⟩
theorem one_at {H : Hp} {b : Addr} : [V.ref b] = [b].map V.ref := rfl
section
variable {P : Program} {w : World} {K : PySem.W.Frag} {mg : Str → Option Value} {base : Heap}
/-! ### _law_turned_teller -/
def spTurn : Sp := fun vs H Q _ => ∃ (p a : Addr) (t : Tel), vs = [.ref p, .ref a] ∧ PoolAt H p ∧ TelAt H t a ∧ TelS t ∧
  ∀ (H' : Hp) (a' : Addr) (t' : Tel), Sx p H H' → PoolAt H' p → TelAt H' t' a' → TelOk t' → t'.places.Perm t.places → Q (.ref a') H'
abbrev nTurn : List Str := ["_law_pool_here", "_law_teller_here", "_law_name", "_law_places", "_law_rules", "_law_way", "_law_some", "_law_at", "_law_heads", "_law_deeds"]
theorem scTurn : FnScope nTurn ["_law_pool_here", "_law_teller_here"] (defScope (topS 67)) := ⟨rfl, rfl, rfl, by decide +kernel, rfl, by decide +kernel, by decide +kernel⟩
theorem c_turn (D : DefAt K mg "_law_turned_teller" (topS 67) ["_law_pool_here", "_law_teller_here"]) (B : Blt mg) (C1 : Callable P w K mg base 1 "_law_take" ["_law_pool_here", "_law_many"] spTake) : Callable P w K mg base 2 "_law_turned_teller" ["_law_pool_here", "_law_teller_here"] spTurn := by
  refine .of D fun f fd F => F.ok scTurn (fun vs H Q E h => ?_) (fun cdv A outer s H vs Q E hr h => ?_)
  · obtain ⟨p, a, t, rfl, _⟩ := h
    rfl
  · obtain ⟨p, a, t, rfl, hp, hT, TS, q⟩ := h
    have hu := hr.units
    have tok := TS.ok
    refine ⟨_, pss_cons (ps_asg (pv 1) (pg_tup rfl (pgs_cons (pg_name (i := 2) scTurn.nd rfl (Or.inl rfl)) (pgs_cons (pg_name (i := 3) scTurn.nd rfl (Or.inl rfl)) (pgs_cons (pg_name (i := 4) scTurn.nd rfl (Or.inl rfl)) pgs_nil)))))
      (pss_cons (ps_set (i := 5) scTurn.nd rfl (Or.inl rfl) (pe_k C1 hr (by rfl) (pa_cons (pv 0) (pa_cons pe_int pa_nil))))
      (pss_cons (ps_set (i := 6) scTurn.nd rfl (Or.inl rfl) (pe_callTy call_list_of (by rfl) B.list (by decide +kernel) (pa_cons (pv 3) pa_nil)))
      (pss_cons (ps_expr (pe_bm PySem.F.plainAttrs_list PySem.F.slot_list_insert PySem.F.type_list_insert mt_insert (pv 6) (pa_cons (pe_k C1 hr (by rfl) (pa_cons (pv 0) (pa_cons (pe_callB call_len (by rfl) B.len PySem.boot_len (pa_cons (pv 6) pa_nil)) pa_nil)))
          (pa_cons (pe_bm PySem.F.plainAttrs_list PySem.F.slot_list_pop PySem.F.type_list_pop mt_popAt (pv 6) (pa_cons pe_int pa_nil)) pa_nil))))
      (pss_cons (ps_if (PW.pt (pw_or (pt_cmpR op_eq (pv 5) pe_int (nomark _)) (pw_or1 (pt_cmpR (op_eqD hu) (pv 4) (pe_tup pa_nil) (nomark _)))))
        (pss_one (ps_ret (pe_tup (pa_cons pe_str (pa_cons (pe_callTy call_tupleF (by rfl) B.tuple (by decide +kernel) (pa_cons (pv 6) pa_nil)) (pa_cons (pv 4) pa_nil)))))) pss_nil)
      (pss_cons (ps_set (i := 7) scTurn.nd rfl (Or.inl rfl) (pe_k C1 hr (by rfl) (pa_cons (pv 0) (pa_cons (pe_callB call_len (by rfl) B.len PySem.boot_len (pa_cons (pv 4) pa_nil)) pa_nil))))
      (pss_cons (ps_asg (pe_ix ix_tup (pv 4) (pv 7) (fun _ _ => rfl)) (pg_tup rfl (pgs_cons (pg_name (i := 8) scTurn.nd rfl (Or.inl rfl)) (pgs_cons (pg_name (i := 9) scTurn.nd rfl (Or.inl rfl)) pgs_nil))))
      (pss_cons (ps_if (pt_cmpR op_eq (pv 5) pe_int (nomark _)) (pss_one (ps_ret (pe_tup (pa_cons (pv 2) (pa_cons (pe_callTy call_tupleF (by rfl) B.tuple (by decide +kernel) (pa_cons (pv 6) pa_nil)) (pa_cons
          (pe_op op_catA (pe_op op_catA (pe_slice sl_tupA (pv 4) po_none (po_some (pv 7))) (pe_tup (pa_cons (pe_tup (pa_cons (pe_revT (pv 8)) (pa_cons (pv 9) pa_nil))) pa_nil))) (pe_slice sl_tupA (pv 4) (po_some (pe_op op_add (pv 7) pe_int)) po_none)) pa_nil)))))) pss_nil)
      (pss_cons (ps_if (pt_cmpR op_eq (pv 5) pe_int (nomark _)) (pss_one (ps_ret (pe_tup (pa_cons (pv 2) (pa_cons (pe_callTy call_tupleF (by rfl) B.tuple (by decide +kernel) (pa_cons (pv 6) pa_nil)) (pa_cons
          (pe_op op_catA (pv 4) (pe_tup (pa_cons (pe_ix ix_tup (pv 4) (pv 7) (fun _ _ => rfl)) pa_nil))) pa_nil)))))) pss_nil)
      (pss_cons (ps_if (pt_cmpR op_eq (pv 5) pe_int (nomark _)) (pss_one (ps_ret (pe_tup (pa_cons (pv 2) (pa_cons (pe_callTy call_tupleF (by rfl) B.tuple (by decide +kernel) (pa_cons (pv 6) pa_nil)) (pa_cons
          (pe_op op_catA (pe_op op_catA (pe_slice sl_tupA (pv 4) po_none (po_some (pv 7))) (pe_tup (pa_cons (pe_tup (pa_cons (pv 8) (pa_cons (pe_op op_catA (pv 9) (pe_tup (pa_cons (pe_tup (pa_cons pe_str (pa_cons (pe_tup (pa_cons pe_str (pa_cons pe_int pa_nil))) pa_nil))) pa_nil))) pa_nil))) pa_nil)))
            (pe_slice sl_tupA (pv 4) (po_some (pe_op op_add (pv 7) pe_int)) po_none)) pa_nil)))))) pss_nil)
      (pss_cons (ps_if (pt_cmpR op_eq (pv 5) pe_int (nomark _)) (pss_one (ps_ret (pe_tup (pa_cons (pv 2) (pa_cons (pe_callTy call_tupleF (by rfl) B.tuple (by decide +kernel) (pa_cons (pv 6) pa_nil)) (pa_cons
          (pe_op op_catA (pe_slice sl_tupA (pv 4) (po_some pe_int) po_none) (pe_slice sl_tupA (pv 4) po_none (po_some pe_int))) pa_nil)))))) pss_nil)
      (pss_one (ps_ret (pe_tup (pa_cons (pv 2) (pa_cons (pe_callTy call_tupleF (by rfl) B.tuple (by decide +kernel) (pa_cons (pv 6) pa_nil)) (pa_cons
          (pe_op op_catA (pe_slice sl_tupA (pv 4) po_none (po_some (pv 7))) (pe_slice sl_tupA (pv 4) (po_some (pe_op op_add (pv 7) pe_int)) po_none)) pa_nil)))))))))))))))), ?_⟩
    obtain ⟨pa, ra, hA, ⟨as, hF, hP⟩, hRs⟩ := id hT
    refine ⟨.ref a, rfl, a, _, rfl, .of hA, rfl, _, _, rfl, _, _, rfl, _, _, rfl, rfl, ?_⟩
    refine ⟨.ref p, rfl, p, 6, rfl, by decide, by decide, hp, fun H1 wy e1 hp1 w0 w6 => ?_⟩
    have tk1 := e1.tk hp
    obtain ⟨po, o1, o2, o3⟩ := hF
    refine ⟨.ref pa, rfl, pa, _, rfl, .inr (TupF.seq ⟨po, o1, o2, tk1.f _ _ _ o3⟩), fun l nl => ?_⟩
    have s2 := same_new (o := .lst (as.map V.ref)) nl
    have nlp := hp1.ne nl
    have hp2 := hp1.same s2
    have hl2 : (upd H1 l (.lst (as.map V.ref))) l = some (.lst (as.map V.ref)) := upd_same
    have nl0 : H l = none := by
      cases e : H l with
      | none => rfl
      | some o =>
        have := e1 _ _ nlp e
        rw [nl] at this
        cases this
    have hlen : as.length = t.places.length := (pair_len hP).symm
    have l1 := tok.lo
    have l3 := tok.hi
    cases as with
    | nil =>
      have : t.places.length = 0 := hlen.symm
      omega
    | cons a0 ar =>
      generalize hps : t.places = ps at hP
      cases hP with
      | @cons p0 _ pr _ hP0 hPr =>
        have hlr : ar.length = pr.length := (pair_len hPr).symm
        have hpr : pr.length ≤ 2 := by
          rw [hps, List.length_cons] at l3
          omega
        refine ⟨.ref l, rfl, .inl ⟨rfl, _, .of hl2⟩, .ref p, rfl, .ref l, rfl, .ref l, _, rfl, .inl ⟨_, .of hl2, rfl⟩, p, _, rfl, ?_, ?_, hp2, fun H3 i e3 hp3 i0 i1 => ?_⟩
        · rw [List.length_map, List.length_cons]
          omega
        · rw [List.length_map, List.length_cons]
          omega
        obtain ⟨k, rfl⟩ := Int.eq_ofNat_of_zero_le i0
        rw [List.length_map, List.length_cons] at i1
        have hl3 := e3 _ _ nlp hl2
        refine ⟨.ref l, rfl, .inl ⟨rfl, _, .of hl3⟩, l, _, 0, 0, .ref a0, rfl, rfl, hl3, by decide, by decide, seqIndex?_zero (by rw [List.length_map, List.length_cons]; omega), rfl, ?_⟩
        refine ⟨l, ar.map V.ref, k, .ref a0, rfl, rfl, upd_same, by rw [List.length_map, sizeLine_eq]; omega, by omega, by omega, ?_⟩
        have hls : (ar.map V.ref).take (k : Int).toNat ++ [V.ref a0] ++ (ar.map V.ref).drop (k : Int).toNat = (ar.take k ++ [a0] ++ ar.drop k).map V.ref := by
          rw [Int.toNat_natCast, List.map_append, List.map_append, List.map_take, List.map_drop]
          rfl
        rw [hls]
        have hPn : Paired (PlaceAt H) (pr.take k ++ [p0] ++ pr.drop k) (ar.take k ++ [a0] ++ ar.drop k) := pair_app (pair_app (pair_take k hPr) (.cons hP0 .nil)) (pair_drop k hPr)
        have hpm : (pr.take k ++ [p0] ++ pr.drop k).Perm t.places := by
          rw [hps, List.append_assoc]
          have := List.perm_middle (l₁ := pr.take k) (l₂ := pr.drop k) (a := p0)
          rwa [List.take_append_drop] at this
        generalize ar.take k ++ [a0] ++ ar.drop k = an at hPn
        generalize pr.take k ++ [p0] ++ pr.drop k = pn at hPn hpm
        have tk3 : Tk H H3 := (tk1.trans (Tk.of s2)).trans (e3.tk hp2)
        have tk4 : Tk H (upd (upd H3 l (.lst (ar.map V.ref))) l (.lst (an.map V.ref))) := (tk3.trans (tk_over hl3)).trans (tk_over upd_same)
        have e4 : Sx p H (upd (upd H3 l (.lst (ar.map V.ref))) l (.lst (an.map V.ref))) := sx_over nl0 (sx_over nl0 (e1.trans ((Sx.of s2).trans e3)))
        have hp4 : PoolAt (upd (upd H3 l (.lst (ar.map V.ref))) l (.lst (an.map V.ref))) p := (hp3.over nlp).over nlp
        have hl4 : (upd (upd H3 l (.lst (ar.map V.ref))) l (.lst (an.map V.ref))) l = some (.lst (an.map V.ref)) := upd_same
        change tSeq _ _ _ _ (upd (upd H3 l (.lst (ar.map V.ref))) l (.lst (an.map V.ref)))
        generalize upd (upd H3 l (.lst (ar.map V.ref))) l (.lst (an.map V.ref)) = H4 at tk4 e4 hp4 hl4 ⊢
        have hR4 := hRs.keep tk4
        -- what is made at the end
        have pl : ∀ {H5 : Hp} {pa' : Addr} {o : Obj}, Tk H4 H5 → H5 pa' = none → o.cls = .type "tuple" → o.dict = none → PlacesAt (upd H5 pa' (.frz o (.tup (an.map V.ref)))) pn pa' := fun tk n c d =>
          ⟨an, ⟨_, c, d, upd_same⟩, pair_mono hPn fun _ _ zz => PlaceAt.keep ((tk4.trans tk).trans (Tk.of (same_new n))) zz⟩
        have mk : ∀ {H7 : Hp} {a' : Addr} {nm : Str} {pa' ra' : Addr} {rs' : List Rul}, Sx p H H7 → PoolAt H7 p → PlacesAt H7 pn pa' → RulesAt H7 rs' ra' → WordOk nm → rs'.length ≤ 4 → (∀ r ∈ rs', RulOk t.places r) → H7 a' = none →
            Q (.ref a') (upd H7 a' (.tup [.str nm, .ref pa', .ref ra'])) := fun {H7 a' nm pa' ra' rs'} e hp hpl hr hn hl hok na => by
          have s := same_new (o := .tup [.str nm, .ref pa', .ref ra']) na
          refine q _ a' ⟨nm, pn, rs'⟩ (e.trans (Sx.of s)) (hp.same s) ⟨pa', ra', upd_same, hpl.same s, hr.same s⟩ ⟨hn, ?_, ?_, hpm.nodup_iff.mpr tok.nd, fun x hx => tok.words x (hpm.mem_iff.mp hx), hl, fun r hr => (hok r hr).perm hpm.symm⟩ hpm
          · show 1 ≤ pn.length
            rw [hpm.length_eq]
            exact l1
          · show pn.length ≤ 3
            rw [hpm.length_eq]
            exact l3
        have wOther : WordOk "other" := ⟨by decide +kernel, by decide +kernel, by decide +kernel⟩
        have few3 := TS.fewR
        refine ⟨.int wy, rfl, rfl, _, rfl, ?_⟩
        by_cases hw0 : V.int wy = V.int 0
        · refine iteD hw0 ?_
          refine ⟨.ref l, rfl, l, _, rfl, .of hl4, fun pa' o npa oc od => ⟨.ref ra, rfl, (by show 3 ≤ sizeLine; decide), fun a' na => ?_⟩⟩
          have s5 := same_new (o := .frz o (.tup (an.map V.ref))) npa
          exact mk (e4.trans (Sx.of s5)) (hp4.same s5) (pl (Tk.of (Same.refl _)) npa oc od) (hR4.same s5) wOther (by omega) tok.rules na
        · rw [decide_eq_false hw0]
          refine iteF ⟨.ref ra, rfl, (by show 0 ≤ sizeLine; decide), fun u nu => ?_⟩
          have s5 := same_new (o := .tup []) nu
          have hR5 := hR4.same s5
          obtain ⟨ds, hds, hsh, hnil⟩ := rules_dp (K := K) tok hR5
          have e5 := e4.trans (Sx.of s5)
          have hp5 := hp4.same s5
          have hl5 := s5 _ _ hl4
          have hue : (upd H4 u (.tup [])) u = some (.tup []) := upd_same
          have tk5 := Tk.of s5
          generalize upd H4 u (.tup []) = H5 at hR5 hds e5 hp5 hl5 hue tk5 ⊢
          refine ⟨.tuple ds, .tuple [], hds, .tup (.of hue) .nil, hsh, rfl, ?_⟩
          cases hdc : ds with
          | nil =>
            refine ⟨true, rfl, iteT ?_⟩
            refine ⟨.ref l, rfl, l, _, rfl, .of hl5, fun pa' o npa oc od => ⟨.ref ra, rfl, (by show 3 ≤ sizeLine; decide), fun a' na => ?_⟩⟩
            have s6 := same_new (o := .frz o (.tup (an.map V.ref))) npa
            exact mk (e5.trans (Sx.of s6)) (hp5.same s6) (pl tk5 npa oc od) (hR5.same s6) wOther (by omega) tok.rules na
          | cons dh dt =>
            refine ⟨false, rfl, iteF ?_⟩
            have hne : t.rules ≠ [] := fun e => by
              have := hnil.mpr e
              rw [hdc] at this
              cases this
            have hpos : 1 ≤ t.rules.length := by
              cases hc : t.rules with
              | nil => exact absurd hc hne
              | cons _ _ => exact Nat.succ_le_succ (Nat.zero_le _)
            obtain ⟨rs, hRA, hR⟩ := id hR5
            have hrl : rs.length = t.rules.length := (pair_len hR).symm
            refine ⟨.ref p, rfl, .ref ra, rfl, .ref ra, _, rfl, .inr ⟨_, .of hRA, rfl⟩, p, _, rfl, by rw [List.length_map]; omega, by rw [List.length_map]; omega, hp5, fun H6 at_ e6 hp6 at0 at1 => ?_⟩
            obtain ⟨k, rfl⟩ := Int.eq_ofNat_of_zero_le at0
            rw [List.length_map] at at1
            have hk : k < rs.length := by omega
            have tk6 := e6.tk hp5
            have e06 := e5.trans e6
            have hl6 := e6 _ _ nlp hl5
            have hRA6 := tk6.t _ _ hRA
            have hR6 := pair_mono hR fun _ _ zz => RuleAt.keep tk6 zz
            have tk46 := tk5.trans tk6
            have hbk : rs[k]? = some rs[k] := List.getElem?_eq_getElem hk
            generalize rs[k] = b at hbk
            obtain ⟨r, hr1, hrb⟩ := pair_at hR6 hbk
            have rm := List.mem_of_getElem? hr1
            have rok := tok.rules r rm
            obtain ⟨ha, da, hB, ⟨hs, hHA, hHP⟩, ⟨dds, hDA, hDP⟩⟩ := id hrb
            have hhi := rok.hi
            have hfn := TS.fewN r rm
            have hhl : hs.length = r.heads.length := (pair_len hHP).symm
            have hdl : dds.length = r.notes.length := (pair_len hDP).symm
            clear hdc hnil hsh hds hR4 hR5 hR hRA e4 e5 hp4 hp5 hl4 hl5 hue s5 tk5
            refine ⟨.ref ra, rfl, .int k, rfl, ra, _, k, .ref b, rfl, rfl, .of hRA6, atI_nat (by rw [List.getElem?_map, hbk]; rfl), b, _, rfl, .of hB, rfl, _, _, rfl, _, _, rfl, rfl, ?_⟩
            have ok3 : ∀ (r' : Rul), RulOk t.places r' → ∀ x ∈ t.rules.take k ++ [r'] ++ t.rules.drop (k + 1), RulOk t.places x := fun r' h' x hx => by
              rcases List.mem_append.mp hx with hx | hx
              · rcases List.mem_append.mp hx with hx | hx
                · exact tok.rules x (List.mem_of_mem_take hx)
                · have ex : x = r' := by simpa using hx
                  rw [ex]
                  exact h'
              · exact tok.rules x (List.mem_of_mem_drop hx)
            have len3 : ∀ (r' : Rul), (t.rules.take k ++ [r'] ++ t.rules.drop (k + 1)).length ≤ 4 := fun r' => by
              rw [List.length_append, List.length_append, List.length_take, List.length_drop]
              show _ + 1 + _ ≤ 4
              omega
            refine ⟨.int wy, rfl, rfl, _, rfl, ?_⟩
            by_cases hw1 : V.int wy = V.int 1
            · -- the heads turned round
              refine iteD hw1 ?_
              refine ⟨.str t.name, rfl, .ref l, rfl, l, _, rfl, .of hl6, fun pa' o npa oc od => ?_⟩
              have s7 := same_new (o := .frz o (.tup (an.map V.ref))) npa
              have hpl := pl tk46 npa oc od
              refine ⟨.ref ra, rfl, .int k, rfl, k, rfl, ?_⟩
              refine sl_to (s7 _ _ hRA6) fun H8 c1 e8 hc1 => ?_
              have s8 := s7.trans e8
              refine ⟨.ref ha, rfl, ha, _, rfl, .of (s8 _ _ hHA), fun hx nhx => ⟨.ref da, rfl, (by show 2 ≤ sizeLine; decide), fun rb nrb => ⟨(by show 1 ≤ sizeLine; decide), fun tb ntb => ?_⟩⟩⟩
              have z1 := same_new (o := .tup (hs.map V.ref).reverse) nhx
              have z2 := same_new (o := .tup [.ref hx, .ref da]) nrb
              have z3 := same_new (o := .tup [.ref rb]) ntb
              have s9 := s8.trans (z1.trans (z2.trans z3))
              refine cat_refs (as := rs.take k) (bs := [rb]) ((z1.trans (z2.trans z3)) _ _ hc1) upd_same (by rw [List.length_take]; show _ + 1 ≤ 100; omega) fun H10 c2 e10 hc2 => ?_
              have s10 := s9.trans e10
              refine ⟨.ref ra, rfl, .int k, rfl, k, 1, rfl, rfl, (k : Int) + 1, rfl, ?_⟩
              refine sl_from (k := k + 1) (by omega) (s10 _ _ hRA6) fun H11 c3 e11 hc3 => ?_
              have s11 := s10.trans e11
              refine cat_refs (e11 _ _ hc2) hc3 (by rw [List.length_append, List.length_take, List.length_drop]; show _ + 1 + _ ≤ 100; omega) fun H12 c4 e12 hc4 => ⟨(by show 3 ≤ sizeLine; decide), fun a' na => ?_⟩
              have s12 := s11.trans e12
              have y : Same _ H12 := e10.trans (e11.trans e12)
              refine mk (rs' := t.rules.take k ++ [⟨r.heads.reverse, r.notes⟩] ++ t.rules.drop (k + 1)) (e06.trans (Sx.of s12)) (hp6.same s12) (hpl.same (e8.trans ((z1.trans (z2.trans z3)).trans y))) ⟨_, hc4, ?_⟩ tok.name (len3 _) (ok3 _ ?_) na
              · refine pair_app (pair_app (pair_take k (pair_mono hR6 fun _ _ zz => zz.same s12)) (.cons ?_ .nil)) (pair_drop (k + 1) (pair_mono hR6 fun _ _ zz => zz.same s12))
                refine ⟨hx, da, (z3.trans y) _ _ upd_same, ⟨hs.reverse, ?_, pair_rev (pair_mono hHP fun _ _ zz => zz.same s12)⟩, dds, s12 _ _ hDA, pair_mono hDP fun _ _ zz => zz.same s12⟩
                rw [List.map_reverse]
                exact (z2.trans (z3.trans y)) _ _ upd_same
              · exact ⟨by show 1 ≤ r.heads.reverse.length; rw [List.length_reverse]; exact rok.lo, by show r.heads.reverse.length ≤ 3; rw [List.length_reverse]; exact rok.hi, List.pairwise_reverse.mpr (List.Pairwise.imp (fun h => Ne.symm h) rok.nd), fun p hp => rok.sub p (List.mem_reverse.mp hp), rok.few, rok.ok⟩
            · rw [decide_eq_false hw1]
              refine iteF ⟨.int wy, rfl, rfl, _, rfl, ?_⟩
              by_cases hw2 : V.int wy = V.int 2
              · -- a rule twice
                refine iteD hw2 ?_
                refine ⟨.str t.name, rfl, .ref l, rfl, l, _, rfl, .of hl6, fun pa' o npa oc od => ?_⟩
                have s7 := same_new (o := .frz o (.tup (an.map V.ref))) npa
                have hpl := pl tk46 npa oc od
                refine ⟨.ref ra, rfl, .ref ra, rfl, .int k, rfl, ra, _, k, .ref b, rfl, rfl, .of (s7 _ _ hRA6), atI_nat (by rw [List.getElem?_map, hbk]; rfl), (by show 1 ≤ sizeLine; decide), fun tb ntb => ?_⟩
                have z3 := same_new (o := .tup [.ref b]) ntb
                refine cat_refs (as := rs) (bs := [b]) ((s7.trans z3) _ _ hRA6) upd_same (by show _ + 1 ≤ 100; omega) fun H10 c2 e10 hc2 => ⟨(by show 3 ≤ sizeLine; decide), fun a' na => ?_⟩
                have s10 := s7.trans (z3.trans e10)
                refine mk (rs' := t.rules ++ [r]) (e06.trans (Sx.of s10)) (hp6.same s10) (hpl.same (z3.trans e10)) ⟨_, hc2, pair_app (pair_mono hR6 fun _ _ zz => zz.same s10) (.cons (hrb.same s10) .nil)⟩ tok.name (by rw [List.length_append]; show _ + 1 ≤ 4; omega) (fun x hx => ?_) na
                rcases List.mem_append.mp hx with hx | hx
                · exact tok.rules x hx
                · have ex : x = r := by simpa using hx
                  rw [ex]
                  exact rok
              · rw [decide_eq_false hw2]
                refine iteF ⟨.int wy, rfl, rfl, _, rfl, ?_⟩
                by_cases hw3 : V.int wy = V.int 3
                · -- a note more
                  refine iteD hw3 ?_
                  refine ⟨.str t.name, rfl, .ref l, rfl, l, _, rfl, .of hl6, fun pa' o npa oc od => ?_⟩
                  have s7 := same_new (o := .frz o (.tup (an.map V.ref))) npa
                  have hpl := pl tk46 npa oc od
                  refine ⟨.ref ra, rfl, .int k, rfl, k, rfl, ?_⟩
                  refine sl_to (s7 _ _ hRA6) fun H8 c1 e8 hc1 => ?_
                  have s8 := s7.trans e8
                  refine ⟨.ref ha, rfl, .ref da, rfl, (by show 2 ≤ sizeLine; decide), fun n1 nn1 => ⟨(by show 2 ≤ sizeLine; decide), fun n2 nn2 => ⟨(by show 1 ≤ sizeLine; decide), fun n3 nn3 => ?_⟩⟩⟩
                  have y1 := same_new (o := .tup [.str "is", .int 5]) nn1
                  have y2 := same_new (o := .tup [.str "note", .ref n1]) nn2
                  have y3 := same_new (o := .tup [.ref n2]) nn3
                  have s9 := s8.trans (y1.trans (y2.trans y3))
                  refine cat_refs (as := dds) (bs := [n2]) (s9 _ _ hDA) upd_same (by show _ + 1 ≤ 100; omega) fun H9 d2 e9 hd2 => ⟨(by show 2 ≤ sizeLine; decide), fun rb nrb => ⟨(by show 1 ≤ sizeLine; decide), fun tb ntb => ?_⟩⟩
                  have z2 := same_new (o := .tup [.ref ha, .ref d2]) nrb
                  have z3 := same_new (o := .tup [.ref rb]) ntb
                  have x1 := y1.trans (y2.trans (y3.trans (e9.trans (z2.trans z3))))
                  have s9' := s8.trans x1
                  refine cat_refs (as := rs.take k) (bs := [rb]) (x1 _ _ hc1) upd_same (by rw [List.length_take]; show _ + 1 ≤ 100; omega) fun H10 c2 e10 hc2 => ?_
                  have s10 := s9'.trans e10
                  refine ⟨.ref ra, rfl, .int k, rfl, k, 1, rfl, rfl, (k : Int) + 1, rfl, ?_⟩
                  refine sl_from (k := k + 1) (by omega) (s10 _ _ hRA6) fun H11 c3 e11 hc3 => ?_
                  have s11 := s10.trans e11
                  refine cat_refs (e11 _ _ hc2) hc3 (by rw [List.length_append, List.length_take, List.length_drop]; show _ + 1 + _ ≤ 100; omega) fun H12 c4 e12 hc4 => ⟨(by show 3 ≤ sizeLine; decide), fun a' na => ?_⟩
                  have s12 := s11.trans e12
                  have y : Same _ H12 := e10.trans (e11.trans e12)
                  refine mk (rs' := t.rules.take k ++ [⟨r.heads, r.notes ++ [.int 5]⟩] ++ t.rules.drop (k + 1)) (e06.trans (Sx.of s12)) (hp6.same s12) (hpl.same (e8.trans (x1.trans y))) ⟨_, hc4, ?_⟩ tok.name (len3 _) (ok3 _ ?_) na
                  · refine pair_app (pair_app (pair_take k (pair_mono hR6 fun _ _ zz => zz.same s12)) (.cons ?_ .nil)) (pair_drop (k + 1) (pair_mono hR6 fun _ _ zz => zz.same s12))
                    refine ⟨ha, d2, (z3.trans y) _ _ upd_same, ⟨hs, s12 _ _ hHA, pair_mono hHP fun _ _ zz => zz.same s12⟩, dds ++ [n2], (z2.trans (z3.trans y)) _ _ hd2, pair_app (pair_mono hDP fun _ _ zz => zz.same s12) (.cons ⟨n1, ?_, ?_⟩ .nil)⟩
                    · exact (y3.trans (e9.trans (z2.trans (z3.trans y)))) _ _ upd_same
                    · exact (y2.trans (y3.trans (e9.trans (z2.trans (z3.trans y))))) _ _ upd_same
                  · refine ⟨rok.lo, rok.hi, rok.nd, rok.sub, by show (r.notes ++ [V.int 5]).length ≤ 3; rw [List.length_append]; show _ + 1 ≤ 3; omega, fun x hx => ?_⟩
                    rcases List.mem_append.mp hx with hx | hx
                    · exact rok.ok x hx
                    · have ex : x = .int 5 := by simpa using hx
                      rw [ex]
                      exact .inr (.inr (.inr (.inr rfl)))
                · rw [decide_eq_false hw3]
                  refine iteF ⟨.int wy, rfl, rfl, _, rfl, ?_⟩
                  by_cases hw4 : V.int wy = V.int 4
                  · -- the first rule last
                    refine iteD hw4 ?_
                    refine ⟨.str t.name, rfl, .ref l, rfl, l, _, rfl, .of hl6, fun pa' o npa oc od => ?_⟩
                    have s7 := same_new (o := .frz o (.tup (an.map V.ref))) npa
                    have hpl := pl tk46 npa oc od
                    refine ⟨.ref ra, rfl, 1, rfl, ?_⟩
                    refine sl_from (k := 1) (by omega) (s7 _ _ hRA6) fun H8 c1 e8 hc1 => ?_
                    refine ⟨.ref ra, rfl, 1, rfl, ?_⟩
                    refine sl_to (k := 1) ((s7.trans e8) _ _ hRA6) fun H9 c2 e9 hc2 => ?_
                    refine cat_refs (e9 _ _ hc1) hc2 (by rw [List.length_drop, List.length_take]; omega) fun H10 c3 e10 hc3 => ⟨(by show 3 ≤ sizeLine; decide), fun a' na => ?_⟩
                    have y := e8.trans (e9.trans e10)
                    have s10 := s7.trans y
                    refine mk (rs' := t.rules.drop 1 ++ t.rules.take 1) (e06.trans (Sx.of s10)) (hp6.same s10) (hpl.same y) ⟨_, hc3, pair_app (pair_drop 1 (pair_mono hR6 fun _ _ zz => zz.same s10)) (pair_take 1 (pair_mono hR6 fun _ _ zz => zz.same s10))⟩ tok.name (by rw [List.length_append, List.length_drop, List.length_take]; omega) (fun x hx => ?_) na
                    rcases List.mem_append.mp hx with hx | hx
                    · exact tok.rules x (List.mem_of_mem_drop hx)
                    · exact tok.rules x (List.mem_of_mem_take hx)
                  · -- a rule less
                    rw [decide_eq_false hw4]
                    refine iteF ⟨.str t.name, rfl, .ref l, rfl, l, _, rfl, .of hl6, fun pa' o npa oc od => ?_⟩
                    have s7 := same_new (o := .frz o (.tup (an.map V.ref))) npa
                    have hpl := pl tk46 npa oc od
                    refine ⟨.ref ra, rfl, .int k, rfl, k, rfl, ?_⟩
                    refine sl_to (s7 _ _ hRA6) fun H8 c1 e8 hc1 => ?_
                    refine ⟨.ref ra, rfl, .int k, rfl, k, 1, rfl, rfl, (k : Int) + 1, rfl, ?_⟩
                    refine sl_from (k := k + 1) (by omega) ((s7.trans e8) _ _ hRA6) fun H9 c2 e9 hc2 => ?_
                    refine cat_refs (e9 _ _ hc1) hc2 (by rw [List.length_drop, List.length_take]; omega) fun H10 c3 e10 hc3 => ⟨(by show 3 ≤ sizeLine; decide), fun a' na => ?_⟩
                    have y := e8.trans (e9.trans e10)
                    have s10 := s7.trans y
                    refine mk (rs' := t.rules.take k ++ t.rules.drop (k + 1)) (e06.trans (Sx.of s10)) (hp6.same s10) (hpl.same y) ⟨_, hc3, pair_app (pair_take k (pair_mono hR6 fun _ _ zz => zz.same s10)) (pair_drop (k + 1) (pair_mono hR6 fun _ _ zz => zz.same s10))⟩ tok.name (by rw [List.length_append, List.length_drop, List.length_take]; omega) (fun x hx => ?_) na
                    rcases List.mem_append.mp hx with hx | hx
                    · exact tok.rules x (List.mem_of_mem_take hx)
                    · exact tok.rules x (List.mem_of_mem_drop hx)
end
end Wm
namespace Wm
open PySem PySem.Spec PyProof.Rows L2
/-! ### _law_right -/
/-- what likeness answers within n -/
def ResP (H : Hp) (ta tb : Tel) (n : Int) (r : Addr) (l : Addr) (row : List Str) : Prop := H r = some (.tup [.str "parted", .ref l]) ∧ H l = some (.lst (row.map V.str)) ∧ row.length ≤ 4096 ∧ PartsT ta tb n row ∧ ∀ r', PartsT ta tb n r' → row.length ≤ r'.length
def ResA (H : Hp) (ta tb : Tel) (n : Int) (r : Addr) (l : Addr) (as : List Addr) (ps : List NP) : Prop := H r = some (.tup [.str "alike", .ref l]) ∧ H l = some (.lst (as.map V.ref)) ∧ Paired (PairAt H) ps as ∧ ps ≠ [] ∧ ps.length ≤ 4096 ∧ ∀ r', ¬ PartsT ta tb n r'
/-- .., the list's address not D -/
def ResAt (H : Hp) (ta tb : Tel) (n : Int) (D r : Addr) : Prop := (∃ l row, l ≠ D ∧ ResP H ta tb n r l row) ∨ ∃ l as ps, l ≠ D ∧ ResA H ta tb n r l as ps
theorem ResAt.imp {H H' : Hp} {ta tb : Tel} {n : Int} {D r : Addr} (ht : ∀ b xs, H b = some (.tup xs) → H' b = some (.tup xs)) (hl : ∀ b xs, b ≠ D → H b = some (.lst xs) → H' b = some (.lst xs)) (h : ResAt H ta tb n D r) : ResAt H' ta tb n D r := by
  rcases h with ⟨l, row, nl, h1, h2, h3⟩ | ⟨l, as, ps, nl, h1, h2, h3, h4⟩
  · exact .inl ⟨l, row, nl, ht _ _ h1, hl _ _ nl h2, h3⟩
  · exact .inr ⟨l, as, ps, nl, ht _ _ h1, hl _ _ nl h2, pair_mono h3 fun _ _ ⟨a1, a2, g1, g2, g3⟩ => ⟨a1, a2, ht _ _ g1, ht _ _ g2, ht _ _ g3⟩, h4⟩
theorem ResAt.same {H H' : Hp} {ta tb : Tel} {n : Int} {D r : Addr} (e : Same H H') (h : ResAt H ta tb n D r) : ResAt H' ta tb n D r := h.imp (fun _ _ z => e _ _ z) fun _ _ _ z => e _ _ z
theorem PartsT.up {ta tb : Tel} {n m : Int} {r : List Str} (h : n ≤ m) (p : PartsT ta tb n r) : PartsT ta tb m r := Parts.mono (low_mono h) p
theorem walk_r0 {n : Nat} : Walk (Itr 0 n) n (fun _ => True) (fun i H x H' => H' = H ∧ x = .int (i : Nat)) := walk_range.mono (fun _ h => h) fun i H x H' _ _ y => ⟨y.1, y.2.trans (by show V.int (0 + (i : Nat)) = _; rw [Int.zero_add])⟩
theorem walk_rf {a n : Nat} : Walk (Itr (a : Nat) n) n (fun _ => True) (fun j H x H' => H' = H ∧ x = .int ((a + j : Nat) : Int)) := walk_range.mono (fun _ h => h) fun i H x H' _ _ y => ⟨y.1, y.2⟩
section
variable {P : Program} {w : World} {K : PySem.W.Frag} {mg : Str → Option Value} {base : Heap}
def spRight : Sp := fun vs H Q _ => ∃ (a b : Addr) (ta tb : Tel), vs = [.ref a, .ref b] ∧ Two H ta tb a b ∧ ∀ H', Same H H' → Q (.bl true) H'
abbrev nRight : List Str := ["_law_one_here", "_law_other", "_law_some", "_law_at", "_law_later", "_law_word", "_law_many"]
theorem scRight : FnScope nRight ["_law_one_here", "_law_other"] (defScope (topS 68)) := ⟨rfl, rfl, rfl, by decide +kernel, rfl, by decide +kernel, by decide +kernel⟩
def frG (a b L : Addr) (v3 v4 v5 : Option V) : L2.St := [some (.ref a), some (.ref b), some (.ref L), v3, v4, v5, none]
theorem c_right (D : DefAt K mg "_law_right" (topS 68) ["_law_one_here", "_law_other"]) (B : Blt mg) (C1 : CallGK P w K mg base 13 "likeness" ["one", "other", "within"] ["within"] 2 spLike) (C2 : CallGK P w K mg base 13 "lets_likeness" nLets ["within"] 3 spLets) :
    CallG P w K mg base 14 "_law_right" ["_law_one_here", "_law_other"] spRight := by
  refine .of D fun f fd F => okG F scRight (fun vs H Q E h => ?_) (fun cdv A outer s H vs Q E hr hgd h => ?_)
  · obtain ⟨a, b, ta, tb, rfl, _⟩ := h
    rfl
  · obtain ⟨a, b, ta, tb, rfl, W, q⟩ := h
    refine ⟨_, pss_cons (ps_setLc (i := 2) (own := [("_law_many", 6)]) (g := gName 6) rfl scRight.nd rfl rfl (sw_true rfl rfl rfl (by decide +kernel)) (pi_list (pe_lst (pa_cons pe_int (pa_cons pe_int (pa_cons pe_int pa_nil))))) (blkOk_by (N := nRight) (sc := defScope (topS 68)) (by decide +kernel))
        (fun _ _ _ _ _ => pg_name (i := 6) scRight.nd rfl (Or.inl rfl)) (fun _ _ _ _ _ => pts_nil) (fun _ _ _ _ _ => pe_kGK hgd C1 hr (by rfl) (pa_cons (pv 0) (pa_cons (pv 1) pa_nil)) (pk_cons (pv 6) pk_nil)))
      (pss_cons (ps_for PassesOwn.never rfl (pi_range1 (by rfl) B.range (pa_cons pe_int pa_nil)) (pg_name (i := 3) scRight.nd rfl (Or.inl rfl))
        (pss_cons (ps_for PassesOwn.never rfl (pi_range2 (by rfl) B.range (pa_cons (pv 3) (pa_cons pe_int pa_nil))) (pg_name (i := 4) scRight.nd rfl (Or.inl rfl))
          (pss_cons (ps_if (pt_cmpR op_eq (pe_ix ix_tup (pe_ix ix_list (pv 2) (pv 3) (fun _ _ => rfl)) pe_int (fun _ _ => rfl)) pe_str (nomark _))
            (pss_cons (ps_if (PW.pt (pw_or (pt_cmpR op_ne (pe_ix ix_tup (pe_ix ix_list (pv 2) (pv 4) (fun _ _ => rfl)) pe_int (fun _ _ => rfl)) pe_str (nomark _))
                (pw_or1 (pt_cmpR op_gt (pe_callB call_len (by rfl) B.len PySem.boot_len (pa_cons (pe_ix ix_tup (pe_ix ix_list (pv 2) (pv 4) (fun _ _ => rfl)) pe_int (fun _ _ => rfl)) pa_nil)) (pe_callB call_len (by rfl) B.len PySem.boot_len (pa_cons (pe_ix ix_tup (pe_ix ix_list (pv 2) (pv 3) (fun _ _ => rfl)) pe_int (fun _ _ => rfl)) pa_nil)) (nomark _))))) pss_never pss_nil)
            (pss_one (ps_if (pt_cmpR op_isnot_bl (pe_kGK hgd C2 hr (by rfl) (pa_cons (pv 0) (pa_cons (pv 1) (pa_cons (pe_ix ix_list (pv 2) (pv 3) (fun _ _ => rfl)) pa_nil))) (pk_cons (pe_op op_add (pv 4) pe_int) pk_nil)) pe_bl (nomark _)) pss_never pss_nil))) pss_nil)
          (pss_one (ps_if (PW.pt (pw_and (pt_cmpR op_eq (pe_ix ix_tup (pe_ix ix_list (pv 2) (pv 4) (fun _ _ => rfl)) pe_int (fun _ _ => rfl)) pe_str (nomark _)) (pw_and1 (pt_cmpR op_ne (pe_ix ix_tup (pe_ix ix_list (pv 2) (pv 3) (fun _ _ => rfl)) pe_int (fun _ _ => rfl)) pe_str (nomark _))))) pss_never pss_nil))))
        (pss_cons (ps_set (i := 5) scRight.nd rfl (Or.inl rfl) (pe_ix ix_list (pe_lst (pa_cons pe_str (pa_cons pe_str pa_nil))) (pe_callTy call_int1 (by rfl) B.int (by decide +kernel) (pa_cons (pe_cmpR op_eq (pe_ix ix_tup (pe_ix ix_list (pv 2) (pv 3) (fun _ _ => rfl)) pe_int (fun _ _ => rfl)) pe_str (nomark _)) pa_nil)) (fun _ _ => rfl)))
        (pss_one (ps_if (pt_val (pe_kGK hgd C2 hr (by rfl) (pa_cons (pv 0) (pa_cons (pv 1) (pa_cons (pe_tup (pa_cons (pv 5) (pa_cons (pe_ix ix_tup (pe_ix ix_list (pv 2) (pv 3) (fun _ _ => rfl)) pe_int (fun _ _ => rfl)) pa_nil))) pa_nil))) (pk_cons (pe_op op_add (pv 3) pe_int) pk_nil))) pss_never pss_nil)))))
      (pss_one (ps_ret pe_bl))), ?_⟩
    refine ⟨(by show 3 ≤ sizeLine; decide), fun l0 nl0 => ?_⟩
    have s1 := same_new (o := .lst [.int 1, .int 2, .int 3]) nl0
    have hl0 : (upd H l0 (.lst [.int 1, .int 2, .int 3])) l0 = some (.lst [.int 1, .int 2, .int 3]) := upd_same
    generalize upd H l0 (.lst [.int 1, .int 2, .int 3]) = H1 at s1 hl0 ⊢
    refine ⟨l0, rfl, ⟨_, .of hl0⟩, fun L nL => ?_⟩
    refine lc_it (walk_list (xs := [V.int 1, V.int 2, V.int 3])) (fun j H2 => Same H1 H2 ∧ ∃ rs : List Addr, H2 L = some (.lst (rs.map V.ref)) ∧ rs.length = j ∧ ∀ (i : Nat) (r : Addr), rs[i]? = some r → ResAt H2 ta tb ((i : Int) + 1) L r)
      ⟨same_over nL (Same.refl _), [], upd_same, rfl, fun i r h => by simp at h⟩ (fun j H2 _ h => .of (h.1 _ _ hl0)) (fun j x H2 H3 hj h y => ?_) (fun H2 h => ?_)
    · obtain ⟨e2, rs, hL, hlen, hres⟩ := h
      obtain ⟨rfl, hx⟩ := y
      have hj3 : j < 3 := hj
      have hxj : x = .int ((j : Int) + 1) := by
        have : j = 0 ∨ j = 1 ∨ j = 2 := by omega
        rcases this with e | e | e <;> subst e <;> exact (Option.some.inj hx).symm
      subst hxj
      have e12 := s1.trans e2
      refine ⟨rfl, ?_⟩
      -- behind the answer: one more
      have step : ∀ {H5 : Hp} {r : Addr}, Same H3 H5 → ResAt H5 ta tb ((j : Int) + 1) L r → ∃ acc, H5 L = some (.lst acc) ∧ acc.length < sizeLine ∧ (Same H1 (upd H5 L (.lst (acc ++ [.ref r]))) ∧ ∃ rs : List Addr, (upd H5 L (.lst (acc ++ [.ref r]))) L = some (.lst (rs.map V.ref)) ∧ rs.length = j + 1 ∧ ∀ (i : Nat) (r' : Addr), rs[i]? = some r' → ResAt (upd H5 L (.lst (acc ++ [.ref r]))) ta tb ((i : Int) + 1) L r') := fun {H5 r} e5 hr5 => by
        have hL5 := e5 _ _ hL
        have imp : ∀ {m : Int} {r' : Addr}, ResAt H5 ta tb m L r' → ResAt (upd H5 L (.lst (rs.map V.ref ++ [.ref r]))) ta tb m L r' := fun h => h.imp (fun b xs z => by
          rw [upd_ne (ne_of z hL5 (fun z => nomatch z))]
          exact z) fun b xs hb z => by
          rw [upd_ne hb]
          exact z
        refine ⟨_, hL5, by rw [List.length_map, sizeLine_eq]; omega, same_over nL (e2.trans e5), rs ++ [r], by rw [upd_same, map_snoc_ref], by rw [List.length_append, hlen]; rfl, fun i r' hi => ?_⟩
        by_cases hil : i < rs.length
        · rw [List.getElem?_append_left hil] at hi
          exact imp ((hres i r' hi).same e5)
        · rw [List.getElem?_append_right (Nat.le_of_not_lt hil)] at hi
          have hil2 : i < rs.length + 1 := by
            have := (List.getElem?_eq_some_iff.mp hi).1
            have : i - rs.length < 1 := this
            omega
          have hij : i = j := by omega
          have er : r' = r := by simpa using List.mem_of_getElem? hi
          rw [er, hij]
          exact imp hr5
      refine ⟨.ref a, rfl, .ref b, rfl, .int ((j : Int) + 1), rfl, rfl, a, b, ta, tb, (j : Int) + 1, rfl, W.same e12, by omega, by omega, fun H5 r l row e5 nl h1 h2 h3 h4 h5 => ?_, fun H5 r l as ps e5 nl h1 h2 h3 h4 h5 h6 h7 => ?_⟩
      · exact step e5 (.inl ⟨l, row, (ne_of_none hL nl).symm, h1, h2, h3, h4, h5⟩)
      · exact step e5 (.inr ⟨l, as, ps, (ne_of_none hL nl).symm, h1, h2, h3, h4, h5, h7⟩)
    · obtain ⟨e2, rs, hL, hlen, hres⟩ := h
      have hlen : rs.length = 3 := hlen
      have e12 := s1.trans e2
      clear hl0 nl0
      have hat : ∀ {i : Nat}, i < 3 → ∃ r, rs[i]? = some r ∧ atI (rs.map V.ref) (i : Int) = some (.ref r) ∧ ResAt H2 ta tb ((i : Int) + 1) L r := fun {i} hi => by
        have h1 : rs[i]? = some rs[i] := List.getElem?_eq_getElem (by omega)
        exact ⟨_, h1, atI_nat (by rw [List.getElem?_map, h1]; rfl), hres _ _ h1⟩
      refine ⟨3, rfl, by decide, by decide, ?_⟩
      refine for_it (walk_r0 (n := 3)) (fun i σ H3 => ∃ v3 v4 v5 : Option V, σ = frG a b L v3 v4 v5 ∧ Same H2 H3) ⟨none, none, none, rfl, Same.refl _⟩ (fun _ _ _ _ _ => trivial) ?turn ?done
      case done =>
        rintro σ H3 ⟨v3, v4, v5, rfl, e3⟩
        exact q H3 (e12.trans e3)
      case turn =>
        rintro i x σ H4 H3 hi ⟨v3, v4, v5, rfl, e3⟩ ⟨rfl, rfl⟩
        obtain ⟨ra, hra, hia, hA⟩ := hat hi
        refine ⟨.int i, rfl, i, 3, rfl, ⟨by omega, by omega, by omega, by omega⟩, ?_⟩
        refine for_it (walk_rf (a := i) (n := ((3 : Int) - i).toNat)) (fun j σ H4 => ∃ v4 : Option V, σ = frG a b L (some (.int i)) v4 v5 ∧ Same H2 H4) ⟨v4, rfl, e3⟩ (fun _ _ _ _ _ => trivial) ?turn2 ?done2
        case turn2 =>
          rintro j x σ H5 H4 hj ⟨v4, rfl, e4⟩ ⟨rfl, rfl⟩
          have hij : i + j < 3 := by omega
          obtain ⟨rl, hrl, hil, hB⟩ := hat hij
          have hL4 := e4 _ _ hL
          have hA4 := hA.same e4
          have hB4 := hB.same e4
          rcases hA4 with ⟨la, rowa, nla, a1, a2, a3, a4, a5⟩ | ⟨la, asa, psa, nla, a1, a2, a3, a4, a5, a6⟩
          · -- parted
            have up := PartsT.up (m := ((i + j : Nat) : Int) + 1) (by omega) a4
            rcases hB4 with ⟨ll, rowl, nll, b1, b2, b3, b4, b5⟩ | ⟨_, _, _, _, _, _, _, _, _, b6⟩
            · refine ⟨.ref L, rfl, .int i, rfl, L, _, i, .ref ra, rfl, rfl, .of hL4, hia, ra, _, 0, .str "parted", rfl, rfl, .of a1, rfl, rfl, true, rfl, iteT ?_⟩
              refine ⟨.ref L, rfl, .int (i + j : Nat), rfl, L, _, (i + j : Nat), .ref rl, rfl, rfl, .of hL4, hil, rl, _, 0, .str "parted", rfl, rfl, .of b1, rfl, rfl, false, rfl, iteF ?_⟩
              refine ⟨.ref L, rfl, .int (i + j : Nat), rfl, L, _, (i + j : Nat), .ref rl, rfl, rfl, .of hL4, hil, rl, _, 1, .ref ll, rfl, rfl, .of b1, rfl, .ref ll, _, rfl, .inl ⟨_, .of b2, rfl⟩, ?_⟩
              refine ⟨.ref L, rfl, .int i, rfl, L, _, i, .ref ra, rfl, rfl, .of hL4, hia, ra, _, 1, .ref la, rfl, rfl, .of a1, rfl, .ref la, _, rfl, .inl ⟨_, .of a2, rfl⟩, _, _, rfl, rfl, false, ?_, iteF ?_⟩
              · have := b5 _ up
                refine congrArg V.bl (decide_eq_false ?_)
                rw [List.length_map, List.length_map]
                omega
              refine ⟨.ref a, rfl, .ref b, rfl, .ref L, rfl, .int i, rfl, L, _, i, .ref ra, rfl, rfl, .of hL4, hia, .int (i + j : Nat), rfl, ((i + j : Nat) : Int), 1, rfl, rfl, rfl, a, b, ra, la, ta, tb, ((i + j : Nat) : Int) + 1, rfl, (W.same e12).same e4, by omega, by omega, .inl ⟨rowa, a1, a2, a3, up, fun H6 e6 => ?_⟩⟩
              refine ⟨true, true, rfl, rfl, false, rfl, iteF ?_⟩
              have e46 := e4.trans e6
              refine ⟨.ref L, rfl, .int (i + j : Nat), rfl, L, _, (i + j : Nat), .ref rl, rfl, rfl, .of (e46 _ _ hL), hil, rl, _, 0, .str "parted", rfl, rfl, .of (e6 _ _ b1), rfl, rfl, false, rfl, iteF (iteF ?_)⟩
              exact ⟨_, rfl, e46⟩
            · exact absurd up (b6 _)
          · -- alike
            refine ⟨.ref L, rfl, .int i, rfl, L, _, i, .ref ra, rfl, rfl, .of hL4, hia, ra, _, 0, .str "alike", rfl, rfl, .of a1, rfl, rfl, false, rfl, iteF ?_⟩
            rcases hB4 with ⟨ll, rowl, nll, b1, b2, b3, b4, b5⟩ | ⟨ll, asl, psl, nll, b1, _⟩
            · refine ⟨.ref L, rfl, .int (i + j : Nat), rfl, L, _, (i + j : Nat), .ref rl, rfl, rfl, .of hL4, hil, rl, _, 0, .str "parted", rfl, rfl, .of b1, rfl, rfl, false, rfl, iteF (iteF ?_)⟩
              exact ⟨_, rfl, e4⟩
            · refine ⟨.ref L, rfl, .int (i + j : Nat), rfl, L, _, (i + j : Nat), .ref rl, rfl, rfl, .of hL4, hil, rl, _, 0, .str "alike", rfl, rfl, .of b1, rfl, rfl, true, rfl, iteT ?_⟩
              refine ⟨.ref L, rfl, .int i, rfl, L, _, i, .ref ra, rfl, rfl, .of hL4, hia, ra, _, 0, .str "alike", rfl, rfl, .of a1, rfl, rfl, false, rfl, iteF ?_⟩
              exact ⟨_, rfl, e4⟩
        case done2 =>
          rintro σ H4 ⟨v4, rfl, e4⟩
          refine ⟨(by show 2 ≤ sizeLine; decide), fun wl nwl => ?_⟩
          have s5 := same_new (o := .lst [.str "alike", .str "parted"]) nwl
          have e5 := e4.trans s5
          have hwl : (upd H4 wl (.lst [.str "alike", .str "parted"])) wl = some (.lst [.str "alike", .str "parted"]) := upd_same
          have hL5 := e5 _ _ hL
          have hA5 := hA.same e5
          generalize upd H4 wl (.lst [.str "alike", .str "parted"]) = H5 at e5 hwl hL5 hA5 ⊢
          rcases hA5 with ⟨la, rowa, nla, a1, a2, a3, a4, a5⟩ | ⟨la, asa, psa, nla, a1, a2, a3, a4, a5, a6⟩
          · refine ⟨.ref L, rfl, .int i, rfl, L, _, i, .ref ra, rfl, rfl, .of hL5, hia, ra, _, 0, .str "parted", rfl, rfl, .of a1, rfl, rfl, .inr ⟨false, rfl, wl, _, 0, .str "alike", rfl, rfl, .of hwl, rfl, ?_⟩⟩
            refine ⟨.ref a, rfl, .ref b, rfl, .str "alike", rfl, .ref L, rfl, .int i, rfl, L, _, i, .ref ra, rfl, rfl, .of hL5, hia, ra, _, 1, .ref la, rfl, rfl, .of a1, rfl, (by show 2 ≤ sizeLine; decide), fun t nt => ?_⟩
            have s6 := same_new (o := .tup [.str "alike", .ref la]) nt
            have e6 := e5.trans s6
            refine ⟨.int i, rfl, i, 1, rfl, rfl, rfl, a, b, t, la, ta, tb, (i : Int) + 1, rfl, (W.same e12).same e6, by omega, by omega, .inr (.inr ⟨rowa, upd_same, s6 _ _ a2, (PartsT.words a4).2, a3, fun H7 e7 => ⟨false, rfl, iteF ?_⟩⟩)⟩
            exact ⟨_, _, _, rfl, e6.trans e7⟩
          · refine ⟨.ref L, rfl, .int i, rfl, L, _, i, .ref ra, rfl, rfl, .of hL5, hia, ra, _, 0, .str "alike", rfl, rfl, .of a1, rfl, rfl, .inr ⟨true, rfl, wl, _, 1, .str "parted", rfl, rfl, .of hwl, rfl, ?_⟩⟩
            refine ⟨.ref a, rfl, .ref b, rfl, .str "parted", rfl, .ref L, rfl, .int i, rfl, L, _, i, .ref ra, rfl, rfl, .of hL5, hia, ra, _, 1, .ref la, rfl, rfl, .of a1, rfl, (by show 2 ≤ sizeLine; decide), fun t nt => ?_⟩
            have s6 := same_new (o := .tup [.str "parted", .ref la]) nt
            have e6 := e5.trans s6
            refine ⟨.int i, rfl, i, 1, rfl, rfl, rfl, a, b, t, la, ta, tb, (i : Int) + 1, rfl, (W.same e12).same e6, by omega, by omega, .inr (.inl ⟨asa, psa, upd_same, s6 _ _ a2, pair_mono a3 fun _ _ z => z.same s6, a4, a5, fun H7 e7 => ⟨false, rfl, iteF ?_⟩⟩)⟩
            exact ⟨_, _, _, rfl, e6.trans e7⟩

/-! ### law -/
def spLaw (K : PySem.W.Frag) : Sp := fun vs H Q _ => ∃ (a : Addr) (ns : List Int), vs = [.ref a] ∧ SqL K H a (ns.map V.int) ∧ ns.length ≤ 63 ∧ ∀ H', Q (.bl true) H'
abbrev nLaw : List Str := ["_law_script", "_law_k", "_law_pool_here", "_law_words_here", "_law_one_here", "_law_other"]
theorem scLaw : FnScope nLaw ["_law_script"] (defScope (topS 69)) := ⟨rfl, rfl, rfl, by decide +kernel, rfl, by decide +kernel, by decide +kernel⟩
def frW (a : Addr) (v1 v2 v3 v4 v5 : Option V) : L2.St := [some (.ref a), v1, v2, v3, v4, v5]
theorem wsOk_of {m : Nat} (h1 : 1 ≤ m) (h3 : m ≤ 3) : WsOk ((["a", "b", "zz"] : List Str).take m) := by
  have wa : WordOk "a" := ⟨by decide +kernel, by decide +kernel, by decide +kernel⟩
  have wb : WordOk "b" := ⟨by decide +kernel, by decide +kernel, by decide +kernel⟩
  have wz : WordOk "zz" := ⟨by decide +kernel, by decide +kernel, by decide +kernel⟩
  have all : ∀ p ∈ (["a", "b", "zz"] : List Str), WordOk p := by
    intro p hp
    have : p = "a" ∨ p = "b" ∨ p = "zz" := by simpa using hp
    rcases this with e | e | e <;> rw [e]
    · exact wa
    · exact wb
    · exact wz
  have nd : (["a", "b", "zz"] : List Str).Nodup := by decide +kernel
  refine ⟨?_, ?_, nd.sublist (List.take_sublist _ _), fun p hp => all p (List.mem_of_mem_take hp)⟩
  · rw [List.length_take]
    show 1 ≤ min m 3
    omega
  · rw [List.length_take]
    show min m 3 ≤ 3
    omega
theorem c_law {f : Addr} {fd : FuncData} (F : Fun K "law" "law" (topS 69) f fd) (B : Blt mg) (C1 : Callable P w K mg base 1 "_law_pool" ["_law_script", "_law_k"] (spPool K)) (C2 : Callable P w K mg base 1 "_law_take" ["_law_pool_here", "_law_many"] spTake)
    (C3 : Callable P w K mg base 3 "_law_teller" ["_law_pool_here", "_law_name", "_law_words_here", "_law_top"] spTel) (C4 : Callable P w K mg base 2 "_law_turned_teller" ["_law_pool_here", "_law_teller_here"] spTurn) (C5 : CallG P w K mg base 14 "_law_right" ["_law_one_here", "_law_other"] spRight) :
    FnG P w K mg base CX0 15 f fd ["_law_script"] (spLaw K) := by
  refine okG F scLaw (fun vs H Q E h => ?_) (fun cdv A outer s H vs Q E hr hgd h => ?_)
  · obtain ⟨a, ns, rfl, _⟩ := h
    rfl
  · obtain ⟨a, ns, rfl, hS, hn, q⟩ := h
    refine ⟨_, pss_cons (ps_for PassesOwn.never rfl (pi_range1 (by rfl) B.range (pa_cons (pe_callB (call_max2 rfl) (by rfl) B.max (by decide +kernel) (pa_cons pe_int (pa_cons (pe_callB (call_min2 rfl) (by rfl) B.min (by decide +kernel) (pa_cons (pe_callB call_len (by rfl) B.len PySem.boot_len (pa_cons (pv 0) pa_nil)) (pa_cons pe_int pa_nil))) pa_nil))) pa_nil)) (pg_name (i := 1) scLaw.nd rfl (Or.inl rfl))
        (pss_cons (ps_set (i := 2) scLaw.nd rfl (Or.inl rfl) (pe_k C1 hr (by rfl) (pa_cons (pv 0) (pa_cons (pv 1) pa_nil))))
        (pss_cons (ps_set (i := 3) scLaw.nd rfl (Or.inl rfl) (pe_slice sl_list (pe_lst (pa_cons pe_str (pa_cons pe_str (pa_cons pe_str pa_nil)))) po_none (po_some (pe_op op_add pe_int (pe_k C2 hr (by rfl) (pa_cons (pv 2) (pa_cons pe_int pa_nil)))))))
        (pss_cons (ps_set (i := 4) scLaw.nd rfl (Or.inl rfl) (pe_k C3 hr (by rfl) (pa_cons (pv 2) (pa_cons pe_str (pa_cons (pv 3) (pa_cons pe_int pa_nil))))))
        (pss_one (ps_for PassesOwn.never rfl (pi_list (pe_lst (pa_cons (pe_k C4 hr (by rfl) (pa_cons (pv 2) (pa_cons (pv 4) pa_nil))) (pa_cons (pe_k C4 hr (by rfl) (pa_cons (pv 2) (pa_cons (pv 4) pa_nil))) (pa_cons (pe_k C3 hr (by rfl) (pa_cons (pv 2) (pa_cons pe_str (pa_cons (pv 3) (pa_cons pe_int pa_nil))))) pa_nil))))) (pg_name (i := 5) scLaw.nd rfl (Or.inl rfl))
          (pss_one (ps_if (pt_not (pt_val (pe_kG hgd C5 hr (by rfl) (pa_cons (pv 4) (pa_cons (pv 5) pa_nil))))) pss_never pss_nil))))))))
      (pss_one (ps_ret pe_bl)), ?_⟩
    refine ⟨.ref a, rfl, .ref a, _, rfl, .inl ⟨_, hS, rfl⟩, _, 6, rfl, 2, _, rfl, _, rfl, ?_, ?_, ?_⟩
    · split <;> split <;> omega
    · split <;> split <;> omega
    have hmax : ((if (if (6 : Int) < (((ns.map V.int).length : Nat) : Int) then (6 : Int) else (((ns.map V.int).length : Nat) : Int)) > 2 then (if (6 : Int) < (((ns.map V.int).length : Nat) : Int) then (6 : Int) else (((ns.map V.int).length : Nat) : Int)) else 2).toNat) ≤ 6 := by
      split <;> split <;> omega
    generalize (if (if (6 : Int) < (((ns.map V.int).length : Nat) : Int) then (6 : Int) else (((ns.map V.int).length : Nat) : Int)) > 2 then (if (6 : Int) < (((ns.map V.int).length : Nat) : Int) then (6 : Int) else (((ns.map V.int).length : Nat) : Int)) else 2).toNat = top at hmax ⊢
    refine for_it (walk_r0 (n := top)) (fun i σ H2 => ∃ v1 v2 v3 v4 v5 : Option V, σ = frW a v1 v2 v3 v4 v5 ∧ Same H H2) ⟨none, none, none, none, none, rfl, Same.refl _⟩ (fun _ _ _ _ _ => trivial) ?turn ?done
    case done =>
      rintro σ H2 ⟨v1, v2, v3, v4, v5, rfl, e2⟩
      exact q H2
    case turn =>
      rintro i x σ H3 H2 hi ⟨v1, v2, v3, v4, v5, rfl, e2⟩ ⟨rfl, rfl⟩
      refine ⟨.ref a, rfl, .int i, rfl, a, ns, i, rfl, e2.seq hS, hn, by omega, fun H4 p e4 np hp4 => ?_⟩
      refine ⟨(by show 3 ≤ sizeLine; decide), fun l1 nl1 => ?_⟩
      have s5 := same_new (o := .lst [.str "a", .str "b", .str "zz"]) nl1
      have hp5 := hp4.same s5
      have nl1p := hp4.ne nl1
      have hl1 : (upd H4 l1 (.lst [.str "a", .str "b", .str "zz"])) l1 = some (.lst [.str "a", .str "b", .str "zz"]) := upd_same
      have e25 := e4.trans s5
      generalize upd H4 l1 (.lst [.str "a", .str "b", .str "zz"]) = H5 at s5 hp5 hl1 e25 ⊢
      refine ⟨.ref p, rfl, p, 3, rfl, by decide, by decide, hp5, fun H6 r e6 hp6 r0 r3 => ?_⟩
      obtain ⟨m, rfl⟩ := Int.eq_ofNat_of_zero_le r0
      refine ⟨1, m, rfl, rfl, (1 : Int) + m, rfl, l1, _, rfl, .of (e6 _ _ nl1p hl1), fun l2 nl2 => ?_⟩
      have hcut : cutV [V.str "a", V.str "b", V.str "zz"] none (some ((1 : Int) + m)) = ((["a", "b", "zz"] : List Str).take (1 + m)).map V.str := by
        have e : ((1 : Int) + m) = ((1 + m : Nat) : Int) := by omega
        rw [e, cut_to, List.map_take]
        rfl
      rw [hcut]
      have wok : WsOk ((["a", "b", "zz"] : List Str).take (1 + m)) := wsOk_of (by omega) (by omega)
      generalize (["a", "b", "zz"] : List Str).take (1 + m) = ws at wok
      have s7 := same_new (o := .lst (ws.map V.str)) nl2
      have hp7 := hp6.same s7
      have nl2p := hp6.ne nl2
      have hl2 : (upd H6 l2 (.lst (ws.map V.str))) l2 = some (.lst (ws.map V.str)) := upd_same
      have e27 := (Sx.of e25).trans (e6.trans (Sx.of s7))
      generalize upd H6 l2 (.lst (ws.map V.str)) = H7 at hp7 hl2 e27 ⊢
      have wt : WordOk "t" := ⟨by decide +kernel, by decide +kernel, by decide +kernel⟩
      have wu : WordOk "u" := ⟨by decide +kernel, by decide +kernel, by decide +kernel⟩
      refine ⟨.ref p, rfl, .ref l2, rfl, p, l2, "t", ws, rfl, hp7, hl2, nl2p, wok, wt, fun H8 b t e8 hp8 hT TS hpm => ?_⟩
      refine ⟨.ref p, rfl, .ref b, rfl, p, b, t, rfl, hp8, hT, TS, fun H9 b1 t1 e9 hp9 hT1 ok1 pm1 => ?_⟩
      refine ⟨.ref p, rfl, .ref b, rfl, p, b, t, rfl, hp9, hT.keep (e9.tk hp8), TS, fun H10 b2 t2 e10 hp10 hT2 ok2 pm2 => ?_⟩
      have hl10 := e10 _ _ nl2p (e9 _ _ nl2p (e8 _ _ nl2p hl2))
      refine ⟨.ref p, rfl, .ref l2, rfl, p, l2, "u", ws, rfl, hp10, hl10, nl2p, wok, wu, fun H11 b3 t3 e11 hp11 hT3 TS3 pm3 => ?_⟩
      refine ⟨(by show 3 ≤ sizeLine; decide), fun lo nlo => ?_⟩
      have s12 := same_new (o := .lst [.ref b1, .ref b2, .ref b3]) nlo
      have e2_12 : Sx p H2 _ := e27.trans (e8.trans (e9.trans (e10.trans (e11.trans (Sx.of s12)))))
      have eS : Same H _ := fun c o hc => e2_12 c o (ne_of_none (e2 _ _ hc) np) (e2 _ _ hc)
      have w0 := ((hT.keep ((e9.trans (e10.trans e11)).tk hp8)).same s12)
      have w1 := ((hT1.keep ((e10.trans e11).tk hp9)).same s12)
      have w2 := ((hT2.keep (e11.tk hp10)).same s12)
      have w3 := hT3.same s12
      have hlo : (upd H11 lo (.lst [.ref b1, .ref b2, .ref b3])) lo = some (.lst [.ref b1, .ref b2, .ref b3]) := upd_same
      generalize upd H11 lo (.lst [.ref b1, .ref b2, .ref b3]) = H12 at eS w0 w1 w2 w3 hlo ⊢
      have all : ∀ (j : Nat) (y : V), ([V.ref b1, V.ref b2, V.ref b3])[j]? = some y → ∃ (c : Addr) (tc : Tel), y = .ref c ∧ Two H12 t tc b c := by
        intro j y hy
        have hm := List.mem_of_getElem? hy
        have : y = .ref b1 ∨ y = .ref b2 ∨ y = .ref b3 := by simpa using hm
        rcases this with e | e | e
        · exact ⟨b1, t1, e, w0, w1, TS.ok, ok1, pm1.symm⟩
        · exact ⟨b2, t2, e, w0, w2, TS.ok, ok2, pm2.symm⟩
        · exact ⟨b3, t3, e, w0, w3, TS.ok, TS3.ok, hpm.trans pm3.symm⟩
      refine ⟨lo, rfl, ⟨_, .of hlo⟩, ?_⟩
      refine for_it (walk_list (xs := [V.ref b1, V.ref b2, V.ref b3])) (fun j σ H13 => ∃ v5 : Option V, σ = frW a (some (.int i)) (some (.ref p)) (some (.ref l2)) (some (.ref b)) v5 ∧ Same H12 H13) ⟨v5, rfl, Same.refl _⟩ (fun j σ H13 _ h => let ⟨_, _, e⟩ := h; .of (e _ _ hlo)) ?turn2 ?done2
      case done2 =>
        rintro σ H13 ⟨v5, rfl, e13⟩
        exact ⟨_, _, _, _, _, rfl, eS.trans e13⟩
      case turn2 =>
        rintro j y σ H14 H13 hj ⟨v5, rfl, e13⟩ ⟨rfl, hy⟩
        obtain ⟨c, tc, rfl, hTwo⟩ := all j y hy
        refine ⟨.ref b, rfl, .ref c, rfl, b, c, t, tc, rfl, hTwo.same e13, fun H15 e15 => ⟨true, rfl, iteF ?_⟩⟩
        exact ⟨_, rfl, e13.trans e15⟩
end
end Wm
/-! What the top has written, and the law. -/
namespace Wm
open PySem PySem.Spec PyProof.Rows L2
section
variable {K : PySem.W.Frag} {h : Heap} {mg : Str → Option Value}
theorem defAt_mk {x : Str} {st : Stmt} {ps : List Str} {f : Addr} {oc : Value} {od an : Option Addr} {sl : Array (Option Value)} {kV dc pm cd ct : Value} (X : K.In h) (G : h.Ns mainGlobals mg)
    (b : ∀ (kV doc pm : Value) (an : Option Addr) (cdv ct : Value) (us : List Value), us.length = ps.length → bindArgs (PySem.W.fnOf x x (defArgs st) (defBody st) (defScope st) .none kV doc pm an cdv ct) ⟨us, []⟩ = pure (ps.zip us))
    (a : PySem.W.nsIn K mainGlobals x = some (some (.ref f))) (l : K.lookup f = some ⟨oc, od, .func (PySem.W.fnOf x x (defArgs st) (defBody st) (defScope st) .none kV dc pm an cd ct), sl⟩) (c : PySem.W.codeIn K cd x = true) (k : PySem.W.keepIn K (.ref f) = true) : DefAt K mg x st ps :=
  ⟨f, _, fun_mk l c k, PySem.W.mg_of X G a, (fun_mk l c k).binds b⟩
theorem defAtK_mk {x : Str} {st : Stmt} {ps ks : List Str} {n : Nat} {f : Addr} {oc : Value} {od an : Option Addr} {sl : Array (Option Value)} {kV dc pm cd ct : Value} (X : K.In h) (G : h.Ns mainGlobals mg)
    (b : ∀ (kV doc pm : Value) (an : Option Addr) (cdv ct : Value) (us ws : List Value), us.length = n → ws.length = ks.length → bindArgs (PySem.W.fnOf x x (defArgs st) (defBody st) (defScope st) .none kV doc pm an cdv ct) ⟨us, ks.zip ws⟩ = pure (ps.zip (us ++ ws)))
    (a : PySem.W.nsIn K mainGlobals x = some (some (.ref f))) (l : K.lookup f = some ⟨oc, od, .func (PySem.W.fnOf x x (defArgs st) (defBody st) (defScope st) .none kV dc pm an cd ct), sl⟩) (c : PySem.W.codeIn K cd x = true) (k : PySem.W.keepIn K (.ref f) = true) : DefAtK K mg x st ps ks n :=
  ⟨f, _, funK_mk l c k, PySem.W.mg_of X G a, fun _ us ws h1 h2 _ => .of_eq (b kV dc pm an cd ct us ws h1 h2)⟩
theorem like_b (kV doc pm : Value) (an : Option Addr) (cdv ct : Value) (us ws : List Value) (h1 : us.length = 2) (h2 : ws.length = 1) : bindArgs (PySem.W.fnOf "likeness" "likeness" (defArgs (topS 56)) (defBody (topS 56)) (defScope (topS 56)) .none kV doc pm an cdv ct) ⟨us, (["within"] : List Str).zip ws⟩ = pure ((["one", "other", "within"] : List Str).zip (us ++ ws)) :=
  match us, h1, ws, h2 with | [_, _], _, [_], _ => rfl
theorem lets_b (kV doc pm : Value) (an : Option Addr) (cdv ct : Value) (us ws : List Value) (h1 : us.length = 3) (h2 : ws.length = 1) : bindArgs (PySem.W.fnOf "lets_likeness" "lets_likeness" (defArgs (topS 60)) (defBody (topS 60)) (defScope (topS 60)) .none kV doc pm an cdv ct) ⟨us, (["within"] : List Str).zip ws⟩ = pure ((["one", "other", "thing", "within"] : List Str).zip (us ++ ws)) :=
  match us, h1, ws, h2 with | [_, _, _], _, [_], _ => rfl
/-- the class Scope, as the top has made it -/
theorem scope_mk {P : Program} {w : World} {base : Heap} {C f1 : Addr} {oc1 kV1 dc1 pm1 cd1 ct1 : Value} {od1 an1 : Option Addr} {sl1 : Array (Option Value)} (X : K.In h) (G : h.Ns mainGlobals mg)
    (aC : PySem.W.nsIn K mainGlobals "Scope" = some (some (.ref C))) (a1 : PySem.W.findIn K (.ref C) "__init__" = some (some (.ref f1))) (i1 : PySem.W.isFn K (.ref f1) = true)
    (l1 : K.lookup f1 = some ⟨oc1, od1, .func (PySem.W.fnOf "__init__" "Scope.__init__" (defArgs (inClass (topS 26) 0)) (defBody (inClass (topS 26) 0)) (defScope (inClass (topS 26) 0)) .none kV1 dc1 pm1 an1 cd1 ct1), sl1⟩)
    (c1 : PySem.W.codeIn K cd1 "Scope.__init__" = true) (k1 : PySem.W.keepIn K (.ref f1) = true)
    (pg : PySem.W.plainGet K C Str.empty = true) (hd : PySem.W.hasDictIn K C = true) (po : PySem.W.plainOver K C = true) (sa : PySem.W.findIn K (.ref C) "__setattr__" = some (some (.builtin "object.__setattr__"))) (mk : PySem.W.makesIn K C = true) (kc : PySem.W.keepIn K (.ref C) = true)
    (n1 : PySem.W.findIn K (.ref C) "kinds_known" = some none) (n2 : PySem.W.findIn K (.ref C) "places_known" = some none) (n3 : PySem.W.findIn K (.ref C) "heads_known" = some none) : ScopeC P w K mg base :=
  ⟨C, f1, _, ⟨mk, a1, i1, kc⟩, fun_mk l1 c1 k1, (fun_mk l1 c1 k1).binds (fun _ _ _ _ _ _ us hl => match us, hl with | [_, _, _, _], _ => rfl), ⟨pg, hd, po, sa⟩, n1, n2, n3, PySem.W.mg_of X G aC⟩
theorem siz_mk {w : World} {ko : Addr} {es : Array DictEntry} {n : Nat} {t : Tok} (X : K.In h) (G : h.Ns mainGlobals mg) (a : PySem.W.nsIn K mainGlobals "SIZES" = some (some (.ref ko))) (l : K.lookup ko = some ⟨.type "dict", none, .dict es n, #[]⟩) (k : PySem.W.KeysLit w.params es.toList)
    (o : (ko == sysModules) = false) (v : PySem.W.nsIn K ko "note" = some (some (.int 2 t))) : SizOk K w mg :=
  ⟨ko, t, PySem.W.mg_of X G a, ⟨⟨es, n, l, k⟩, o⟩, v⟩
theorem blt_mk (X : K.In h) (G : h.Ns mainGlobals mg)
    (z_all : PySem.W.nsIn K mainGlobals "all" = some none)
    (z_any : PySem.W.nsIn K mainGlobals "any" = some none)
    (z_dict : PySem.W.nsIn K mainGlobals "dict" = some none)
    (z_enumerate : PySem.W.nsIn K mainGlobals "enumerate" = some none)
    (z_int : PySem.W.nsIn K mainGlobals "int" = some none)
    (z_isinstance : PySem.W.nsIn K mainGlobals "isinstance" = some none)
    (z_len : PySem.W.nsIn K mainGlobals "len" = some none)
    (z_list : PySem.W.nsIn K mainGlobals "list" = some none)
    (z_max : PySem.W.nsIn K mainGlobals "max" = some none)
    (z_min : PySem.W.nsIn K mainGlobals "min" = some none)
    (z_range : PySem.W.nsIn K mainGlobals "range" = some none)
    (z_repr : PySem.W.nsIn K mainGlobals "repr" = some none)
    (z_sorted : PySem.W.nsIn K mainGlobals "sorted" = some none)
    (z_tuple : PySem.W.nsIn K mainGlobals "tuple" = some none)
    (z_zip : PySem.W.nsIn K mainGlobals "zip" = some none)
    (z_str : PySem.W.nsIn K mainGlobals "str" = some none)
    (z_bool : PySem.W.nsIn K mainGlobals "bool" = some none)
    : Blt mg :=
  ⟨PySem.W.mg_none_of X G z_all, PySem.W.mg_none_of X G z_any, PySem.W.mg_none_of X G z_dict, PySem.W.mg_none_of X G z_enumerate, PySem.W.mg_none_of X G z_int, PySem.W.mg_none_of X G z_isinstance, PySem.W.mg_none_of X G z_len, PySem.W.mg_none_of X G z_list, PySem.W.mg_none_of X G z_max, PySem.W.mg_none_of X G z_min, PySem.W.mg_none_of X G z_range, PySem.W.mg_none_of X G z_repr, PySem.W.mg_none_of X G z_sorted, PySem.W.mg_none_of X G z_tuple, PySem.W.mg_none_of X G z_zip, PySem.W.mg_none_of X G z_str, PySem.W.mg_none_of X G z_bool⟩
theorem cst_mk {t0 t1 t2 t3 t4 t5 t6 t7 t8 t9 t10 : Tok} (X : K.In h) (G : h.Ns mainGlobals mg)
    (y0 : PySem.W.nsIn K mainGlobals "MOST_LETTERS" = some (some (.int 6 t0)))
    (y1 : PySem.W.nsIn K mainGlobals "SIGNS" = some (some (.str signs t1)))
    (y2 : PySem.W.nsIn K mainGlobals "MOST" = some (some (.int 1000000000 t2)))
    (y3 : PySem.W.nsIn K mainGlobals "MOST_KINDS" = some (some (.int 6 t3)))
    (y4 : PySem.W.nsIn K mainGlobals "MOST_MAIN" = some (some (.int 16 t4)))
    (y5 : PySem.W.nsIn K mainGlobals "MOST_PLACES" = some (some (.int 6 t5)))
    (y6 : PySem.W.nsIn K mainGlobals "MOST_MANY" = some (some (.int 3 t6)))
    (y7 : PySem.W.nsIn K mainGlobals "MOST_RULES" = some (some (.int 8 t7)))
    (y8 : PySem.W.nsIn K mainGlobals "MOST_HEADS" = some (some (.int 4 t8)))
    (y9 : PySem.W.nsIn K mainGlobals "MOST_DEEDS" = some (some (.int 12 t9)))
    (y10 : PySem.W.nsIn K mainGlobals "MOST_WITHIN" = some (some (.int 3 t10)))
    : Cst mg :=
  ⟨⟨_, PySem.W.mg_of X G y0⟩, ⟨_, PySem.W.mg_of X G y1⟩, ⟨_, PySem.W.mg_of X G y2⟩, ⟨_, PySem.W.mg_of X G y3⟩, ⟨_, PySem.W.mg_of X G y4⟩, ⟨_, PySem.W.mg_of X G y5⟩, ⟨_, PySem.W.mg_of X G y6⟩, ⟨_, PySem.W.mg_of X G y7⟩, ⟨_, PySem.W.mg_of X G y8⟩, ⟨_, PySem.W.mg_of X G y9⟩, ⟨_, PySem.W.mg_of X G y10⟩⟩
end
theorem all_mk {l : PySem.W.OpenLaw} {w : World} {K : PySem.W.Frag} {h : Heap} {mg : Str → Option Value} {fa f4 : Addr} (X : K.In h) (G : h.Ns mainGlobals mg) (hfa : mg "law" = some (.ref fa)) {od4 an4 : Option Addr} {sl4 : Array (Option Value)} {oc4 kV4 dc4 pm4 cd4 ct4 : Value}
    (d11 : DefAt K mg "is_whole" (topS 11) ["thing"])
    (d12 : DefAt K mg "is_from" (topS 12) ["thing", "low", "high"])
    (d13 : DefAt K mg "is_word" (topS 13) ["thing"])
    (d14 : DefAt K mg "is_written" (topS 14) ["thing"])
    (d15 : DefAt K mg "is_tuple_of" (topS 15) ["thing", "low", "high"])
    (d16 : DefAt K mg "begins" (topS 16) ["thing", "many", "word"])
    (d27 : DefAt K mg "are_unlike" (topS 27) ["some"])
    (d28 : DefAt K mg "is_named_place" (topS 28) ["thing"])
    (d29 : DefAt K mg "is_kind" (topS 29) ["thing"])
    (d31 : DefAt K mg "is_head" (topS 31) ["places", "thing"])
    (d32 : DefAt K mg "names_in" (topS 32) ["heads"])
    (d33 : DefAt K mg "are_heads" (topS 33) ["places", "thing"])
    (d34 : DefAt K mg "is_operand" (topS 34) ["scope", "thing"])
    (d38 : DefAt K mg "is_deed" (topS 38) ["scope", "thing", "behind"])
    (d39 : DefAt K mg "wrong_deed" (topS 39) ["scope", "deeds"])
    (d40 : DefAt K mg "look_at_kinds" (topS 40) ["kinds"])
    (d41 : DefAt K mg "look_at_rules" (topS 41) ["names", "number", "kind"])
    (d42 : DefAt K mg "look_at_program" (topS 42) ["thing"])
    (d44 : DefAt K mg "is_kind_alone" (topS 44) ["thing"])
    (d46 : DefAt K mg "is_teller" (topS 46) ["thing"])
    (d47 : DefAt K mg "look_at_teller" (topS 47) ["thing"])
    (d48 : DefAt K mg "empty_heap" (topS 48) ["teller"])
    (d49 : DefAt K mg "behind_letter" (topS 49) ["teller", "heap", "word"])
    (d52 : DefAt K mg "words_of" (topS 52) ["teller"])
    (d53 : DefAt K mg "look_at_both" (topS 53) ["one", "other", "within"])
    (d54 : DefAt K mg "both_behind" (topS 54) ["one", "other", "pair", "word"])
    (d55 : DefAt K mg "is_low" (topS 55) ["pair", "within"])
    (d58 : DefAt K mg "lets_pairs" (topS 58) ["one", "other", "thing", "within"])
    (d59 : DefAt K mg "lets_row" (topS 59) ["one", "other", "thing", "within"])
    (d62 : DefAt K mg "_law_pool" (topS 62) ["_law_script", "_law_k"])
    (d63 : DefAt K mg "_law_take" (topS 63) ["_law_pool_here", "_law_many"])
    (d64 : DefAt K mg "_law_one" (topS 64) ["_law_pool_here", "_law_some"])
    (d65 : DefAt K mg "_law_teller" (topS 65) ["_law_pool_here", "_law_name", "_law_words_here", "_law_top"])
    (d67 : DefAt K mg "_law_turned_teller" (topS 67) ["_law_pool_here", "_law_teller_here"])
    (d68 : DefAt K mg "_law_right" (topS 68) ["_law_one_here", "_law_other"])
    (d56 : DefAtK K mg "likeness" (topS 56) ["one", "other", "within"] ["within"] 2)
    (d60 : DefAtK K mg "lets_likeness" (topS 60) ["one", "other", "thing", "within"] ["within"] 3)
    (B : Blt mg) (S : Cst mg) (Z : SizOk K w mg) (SC : ∀ base : Heap, ScopeC l.prog w K mg base)
    (a4 : PySem.W.nsIn K mainGlobals "law" = some (some (.ref f4))) (l4 : K.lookup f4 = some ⟨oc4, od4, .func (PySem.W.fnOf "law" "law" (defArgs (topS 69)) (defBody (topS 69)) (defScope (topS 69)) .none kV4 dc4 pm4 an4 cd4 ct4), sl4⟩) (c4 : PySem.W.codeIn K cd4 "law" = true) (k4 : PySem.W.keepIn K (.ref f4) = true) :
    ∃ fd : FuncData, (∀ (s : Shared) (u : Value), BindsTo s fd ⟨[u], []⟩ [("_law_script", u)]) ∧ ∀ base : Heap, K.In base → base.Ns mainGlobals mg → FnG l.prog w K mg base CX0 15 fa fd ["_law_script"] (spLaw K) := by
  have e := hfa.symm.trans (PySem.W.mg_of X G a4)
  cases e
  refine ⟨_, fun s v => .of_eq rfl, fun base _ _ => c_law (fun_mk l4 c4 k4) B ?_ ?_ ?_ ?_ ?_⟩
  all_goals
    have SCb := SC base
    have k11 := c_whole (P := l.prog) (w := w) (base := base) d11 B
    have k12 := c_from d12 k11
    have k13 := c_word (P := l.prog) (w := w) (base := base) d13 B S
    have k14 := c_written d14 B S k12
    have k15 := c_tupOf (P := l.prog) (w := w) (base := base) d15 B
    have k16 := c_begins d16 B k15
    have k27 := c_unlike (P := l.prog) (w := w) (base := base) d27 B
    have k28 := c_named d28 S k15 k13 k12
    have k29 := c_kind d29 B S k15 k13 k28 k27
    have k31 := c_head d31 B k15 k13
    have k32 := c_namesIn (P := l.prog) (w := w) (base := base) d32
    have k33 := c_heads d33 B S k15 k31 k27 k32
    have k34 := c_operand d34 k16 k14
    have k38 := c_deed d38 B Z k34
    have k39 := c_wrong d39 B k38
    have k40 := c_kinds d40 B k29
    have k41 := c_rules d41 B S SCb k15 k33 k39
    have k42 := c_program d42 B S SCb k15 k40 k41 k39
    have k44 := c_alone d44 k42
    have k46 := c_teller d46 B k44
    have k47 := c_look d47 k46
    have k48 := c_empty (P := l.prog) (w := w) (base := base) d48 B
    have k49 := c_behind (P := l.prog) (w := w) (base := base) d49 B
    have k52 := c_wordsOf (P := l.prog) (w := w) (base := base) d52
    have k53 := c_lookBoth d53 B S k47 k52 k11
    have k54 := c_both d54 B k49
    have k55 := c_low (P := l.prog) (w := w) (base := base) d55 B
    have k56 := c_like d56 B k53 k48 k52 k54 k55
    have k58 := c_letsPairs (P := l.prog) (w := w) (base := base) d58 B
    have k59 := c_letsRow d59 B k48 k52 k54 k55
    have k60 := c_lets d60 B k53 k58 k59
    have k62 := c_pool (P := l.prog) (w := w) (base := base) d62 B
    have k63 := c_take (P := l.prog) (w := w) (base := base) d63
    have k64 := c_one d64 B k63
    have k65 := c_tel d65 B k63 k64
    have k67 := c_turn d67 B k63
    have k68 := c_right d68 B k56 k60
    assumption
theorem walk {l : PySem.W.OpenLaw} {q : Program} {loose : List Str} {XP : (Str → Option Value) → Heap → Prop} {YP : World → Heap → Prop} {d : DefRec} {K : Params → PySem.W.Frag} (hn : l.most = some 63) (hdf : d.params.defaults = [])
    (hY : ∀ (w : World) (h : Heap), YP w h → (K w.params).In h)
    (F : ∀ (w : World) (mg : Str → Option Value) (fa : Addr) (h : Heap), (K w.params).In h → h.Ns mainGlobals mg → mg d.name = some (.ref fa) →
      ∃ fd : FuncData, (∀ (s : Shared) (u : Value), BindsTo s fd ⟨[u], []⟩ [("_law_script", u)]) ∧ ∀ base : Heap, (K w.params).In base → base.Ns mainGlobals mg → FnG l.prog w (K w.params) mg base CX0 15 fa fd ["_law_script"] (spLaw (K w.params))) :
    PySem.W.WalkO q loose XP YP l.row.toRowW d [] (fun f vs => PySem.call f vs) :=
  walk_ofG (n := 63) (k := 15) (x := "_law_script") (sp := fun K _ => spLaw K) hn (by decide) hdf ⟨rfl, by decide, by decide⟩ hY F fun _ _ a ns hl hS => ⟨a, ns, rfl, hS, hl, fun _ => rfl⟩
end Wm
open PySem PySem.W PyProof.Rows
set_option maxRecDepth 100000 in
set_option maxHeartbeats 0 in
theorem PySem.Challenge.cw_waitedmeets_k58_whole_greater_numbers_pa_holds : PySem.Challenge.rw_waitedmeets_k58_whole_greater_numbers_pa.Holds := by
  w_on; o_law; k_head; (case hw => w_witness2)
  k_fill
  refine Wm.walk (l := PySem.Challenge.rw_waitedmeets_k58_whole_greater_numbers_pa) rfl rfl (fun w h Y => PySem.W.kIn_of Y) ?F
  case F =>
    intro w mg fa h KX G hmg
    refine' Wm.all_mk KX G hmg ?d11 ?d12 ?d13 ?d14 ?d15 ?d16 ?d27 ?d28 ?d29 ?d31 ?d32 ?d33 ?d34 ?d38 ?d39 ?d40 ?d41 ?d42 ?d44 ?d46 ?d47 ?d48 ?d49 ?d52 ?d53 ?d54 ?d55 ?d58 ?d59 ?d62 ?d63 ?d64 ?d65 ?d67 ?d68 ?d56 ?d60 ?B ?S ?Z ?SC ?a4 ?l4 ?c4 ?k4
    (case d11 => refine' Wm.defAt_mk KX G (fun _ _ _ _ _ _ us hl => match us, hl with | [_], _ => rfl) ?a ?l ?c ?k; (case a => k_is); (case l => k_is); (case c => k_is); (case k => k_is))
    (case d12 => refine' Wm.defAt_mk KX G (fun _ _ _ _ _ _ us hl => match us, hl with | [_, _, _], _ => rfl) ?a ?l ?c ?k; (case a => k_is); (case l => k_is); (case c => k_is); (case k => k_is))
    (case d13 => refine' Wm.defAt_mk KX G (fun _ _ _ _ _ _ us hl => match us, hl with | [_], _ => rfl) ?a ?l ?c ?k; (case a => k_is); (case l => k_is); (case c => k_is); (case k => k_is))
    (case d14 => refine' Wm.defAt_mk KX G (fun _ _ _ _ _ _ us hl => match us, hl with | [_], _ => rfl) ?a ?l ?c ?k; (case a => k_is); (case l => k_is); (case c => k_is); (case k => k_is))
    (case d15 => refine' Wm.defAt_mk KX G (fun _ _ _ _ _ _ us hl => match us, hl with | [_, _, _], _ => rfl) ?a ?l ?c ?k; (case a => k_is); (case l => k_is); (case c => k_is); (case k => k_is))
    (case d16 => refine' Wm.defAt_mk KX G (fun _ _ _ _ _ _ us hl => match us, hl with | [_, _, _], _ => rfl) ?a ?l ?c ?k; (case a => k_is); (case l => k_is); (case c => k_is); (case k => k_is))
    (case d27 => refine' Wm.defAt_mk KX G (fun _ _ _ _ _ _ us hl => match us, hl with | [_], _ => rfl) ?a ?l ?c ?k; (case a => k_is); (case l => k_is); (case c => k_is); (case k => k_is))
    (case d28 => refine' Wm.defAt_mk KX G (fun _ _ _ _ _ _ us hl => match us, hl with | [_], _ => rfl) ?a ?l ?c ?k; (case a => k_is); (case l => k_is); (case c => k_is); (case k => k_is))
    (case d29 => refine' Wm.defAt_mk KX G (fun _ _ _ _ _ _ us hl => match us, hl with | [_], _ => rfl) ?a ?l ?c ?k; (case a => k_is); (case l => k_is); (case c => k_is); (case k => k_is))
    (case d31 => refine' Wm.defAt_mk KX G (fun _ _ _ _ _ _ us hl => match us, hl with | [_, _], _ => rfl) ?a ?l ?c ?k; (case a => k_is); (case l => k_is); (case c => k_is); (case k => k_is))
    (case d32 => refine' Wm.defAt_mk KX G (fun _ _ _ _ _ _ us hl => match us, hl with | [_], _ => rfl) ?a ?l ?c ?k; (case a => k_is); (case l => k_is); (case c => k_is); (case k => k_is))
    (case d33 => refine' Wm.defAt_mk KX G (fun _ _ _ _ _ _ us hl => match us, hl with | [_, _], _ => rfl) ?a ?l ?c ?k; (case a => k_is); (case l => k_is); (case c => k_is); (case k => k_is))
    (case d34 => refine' Wm.defAt_mk KX G (fun _ _ _ _ _ _ us hl => match us, hl with | [_, _], _ => rfl) ?a ?l ?c ?k; (case a => k_is); (case l => k_is); (case c => k_is); (case k => k_is))
    (case d38 => refine' Wm.defAt_mk KX G (fun _ _ _ _ _ _ us hl => match us, hl with | [_, _, _], _ => rfl) ?a ?l ?c ?k; (case a => k_is); (case l => k_is); (case c => k_is); (case k => k_is))
    (case d39 => refine' Wm.defAt_mk KX G (fun _ _ _ _ _ _ us hl => match us, hl with | [_, _], _ => rfl) ?a ?l ?c ?k; (case a => k_is); (case l => k_is); (case c => k_is); (case k => k_is))
    (case d40 => refine' Wm.defAt_mk KX G (fun _ _ _ _ _ _ us hl => match us, hl with | [_], _ => rfl) ?a ?l ?c ?k; (case a => k_is); (case l => k_is); (case c => k_is); (case k => k_is))
    (case d41 => refine' Wm.defAt_mk KX G (fun _ _ _ _ _ _ us hl => match us, hl with | [_, _, _], _ => rfl) ?a ?l ?c ?k; (case a => k_is); (case l => k_is); (case c => k_is); (case k => k_is))
    (case d42 => refine' Wm.defAt_mk KX G (fun _ _ _ _ _ _ us hl => match us, hl with | [_], _ => rfl) ?a ?l ?c ?k; (case a => k_is); (case l => k_is); (case c => k_is); (case k => k_is))
    (case d44 => refine' Wm.defAt_mk KX G (fun _ _ _ _ _ _ us hl => match us, hl with | [_], _ => rfl) ?a ?l ?c ?k; (case a => k_is); (case l => k_is); (case c => k_is); (case k => k_is))
    (case d46 => refine' Wm.defAt_mk KX G (fun _ _ _ _ _ _ us hl => match us, hl with | [_], _ => rfl) ?a ?l ?c ?k; (case a => k_is); (case l => k_is); (case c => k_is); (case k => k_is))
    (case d47 => refine' Wm.defAt_mk KX G (fun _ _ _ _ _ _ us hl => match us, hl with | [_], _ => rfl) ?a ?l ?c ?k; (case a => k_is); (case l => k_is); (case c => k_is); (case k => k_is))
    (case d48 => refine' Wm.defAt_mk KX G (fun _ _ _ _ _ _ us hl => match us, hl with | [_], _ => rfl) ?a ?l ?c ?k; (case a => k_is); (case l => k_is); (case c => k_is); (case k => k_is))
    (case d49 => refine' Wm.defAt_mk KX G (fun _ _ _ _ _ _ us hl => match us, hl with | [_, _, _], _ => rfl) ?a ?l ?c ?k; (case a => k_is); (case l => k_is); (case c => k_is); (case k => k_is))
    (case d52 => refine' Wm.defAt_mk KX G (fun _ _ _ _ _ _ us hl => match us, hl with | [_], _ => rfl) ?a ?l ?c ?k; (case a => k_is); (case l => k_is); (case c => k_is); (case k => k_is))
    (case d53 => refine' Wm.defAt_mk KX G (fun _ _ _ _ _ _ us hl => match us, hl with | [_, _, _], _ => rfl) ?a ?l ?c ?k; (case a => k_is); (case l => k_is); (case c => k_is); (case k => k_is))
    (case d54 => refine' Wm.defAt_mk KX G (fun _ _ _ _ _ _ us hl => match us, hl with | [_, _, _, _], _ => rfl) ?a ?l ?c ?k; (case a => k_is); (case l => k_is); (case c => k_is); (case k => k_is))
    (case d55 => refine' Wm.defAt_mk KX G (fun _ _ _ _ _ _ us hl => match us, hl with | [_, _], _ => rfl) ?a ?l ?c ?k; (case a => k_is); (case l => k_is); (case c => k_is); (case k => k_is))
    (case d58 => refine' Wm.defAt_mk KX G (fun _ _ _ _ _ _ us hl => match us, hl with | [_, _, _, _], _ => rfl) ?a ?l ?c ?k; (case a => k_is); (case l => k_is); (case c => k_is); (case k => k_is))
    (case d59 => refine' Wm.defAt_mk KX G (fun _ _ _ _ _ _ us hl => match us, hl with | [_, _, _, _], _ => rfl) ?a ?l ?c ?k; (case a => k_is); (case l => k_is); (case c => k_is); (case k => k_is))
    (case d62 => refine' Wm.defAt_mk KX G (fun _ _ _ _ _ _ us hl => match us, hl with | [_, _], _ => rfl) ?a ?l ?c ?k; (case a => k_is); (case l => k_is); (case c => k_is); (case k => k_is))
    (case d63 => refine' Wm.defAt_mk KX G (fun _ _ _ _ _ _ us hl => match us, hl with | [_, _], _ => rfl) ?a ?l ?c ?k; (case a => k_is); (case l => k_is); (case c => k_is); (case k => k_is))
    (case d64 => refine' Wm.defAt_mk KX G (fun _ _ _ _ _ _ us hl => match us, hl with | [_, _], _ => rfl) ?a ?l ?c ?k; (case a => k_is); (case l => k_is); (case c => k_is); (case k => k_is))
    (case d65 => refine' Wm.defAt_mk KX G (fun _ _ _ _ _ _ us hl => match us, hl with | [_, _, _, _], _ => rfl) ?a ?l ?c ?k; (case a => k_is); (case l => k_is); (case c => k_is); (case k => k_is))
    (case d67 => refine' Wm.defAt_mk KX G (fun _ _ _ _ _ _ us hl => match us, hl with | [_, _], _ => rfl) ?a ?l ?c ?k; (case a => k_is); (case l => k_is); (case c => k_is); (case k => k_is))
    (case d68 => refine' Wm.defAt_mk KX G (fun _ _ _ _ _ _ us hl => match us, hl with | [_, _], _ => rfl) ?a ?l ?c ?k; (case a => k_is); (case l => k_is); (case c => k_is); (case k => k_is))
    (case d56 => refine' Wm.defAtK_mk KX G Wm.like_b ?a ?l ?c ?k; (case a => k_is); (case l => k_is); (case c => k_is); (case k => k_is))
    (case d60 => refine' Wm.defAtK_mk KX G Wm.lets_b ?a ?l ?c ?k; (case a => k_is); (case l => k_is); (case c => k_is); (case k => k_is))
    (case B => refine' Wm.blt_mk KX G ?z_all ?z_any ?z_dict ?z_enumerate ?z_int ?z_isinstance ?z_len ?z_list ?z_max ?z_min ?z_range ?z_repr ?z_sorted ?z_tuple ?z_zip ?z_str ?z_bool; (case z_all => k_is); (case z_any => k_is); (case z_dict => k_is); (case z_enumerate => k_is); (case z_int => k_is); (case z_isinstance => k_is); (case z_len => k_is); (case z_list => k_is); (case z_max => k_is); (case z_min => k_is); (case z_range => k_is); (case z_repr => k_is); (case z_sorted => k_is); (case z_tuple => k_is); (case z_zip => k_is); (case z_str => k_is); (case z_bool => k_is))
    (case S => refine' Wm.cst_mk KX G ?y0 ?y1 ?y2 ?y3 ?y4 ?y5 ?y6 ?y7 ?y8 ?y9 ?y10; (case y0 => k_is); (case y1 => k_is); (case y2 => k_is); (case y3 => k_is); (case y4 => k_is); (case y5 => k_is); (case y6 => k_is); (case y7 => k_is); (case y8 => k_is); (case y9 => k_is); (case y10 => k_is))
    (case Z => refine' Wm.siz_mk KX G ?a ?l ?k ?o ?v; (case a => k_is); (case l => k_is); (case k => k_keys); (case o => decide); (case v => k_is))
    (case SC => intro base; refine' Wm.scope_mk KX G ?aC ?a1 ?i1 ?l1 ?c1 ?k1 ?pg ?hd ?po ?sa ?mk ?kc ?n1 ?n2 ?n3; (case aC => k_is); (case a1 => k_is); (case i1 => k_is); (case l1 => k_is); (case c1 => k_is); (case k1 => k_is); (case pg => k_is); (case hd => k_is); (case po => k_is); (case sa => k_is); (case mk => k_is); (case kc => k_is); (case n1 => k_is); (case n2 => k_is); (case n3 => k_is))
    (case a4 => k_is); (case l4 => k_is); (case c4 => k_is); (case k4 => k_is)
#print axioms PySem.Challenge.cw_waitedmeets_k58_whole_greater_numbers_pa_holds
