import PyProof.Rows.All
import Wide.All
import OpenK.AllK
import Wide.FinOn
import HandS.ForMost
import HandS.Strs
import HandS.Zip
import HandS.SetFor
import HandS.TupSets
import HandS.Style
import KE.GoesEnum
import KE.KDictList
import KE.KDictSum
import KE.KDictCopyH
import HandS.Evl
import HandS.IsInst
import HandS.TupLe
import HandS.TupAny
import HandS.Conv
import HandS.SortInts
import HandS.Flow
import PySem.Challenge.RW_cointakes_k76_whole_rows_of_places
set_option Elab.async false
set_option linter.all false
set_option maxRecDepth 100000
set_option maxHeartbeats 4000000
/-! ## K76Math -/
/-! The plain law: chains and antichains of a finite strict order, Kuhn's matching. Core Lean alone. -/
namespace K76

/-- a strict order, with places to show it -/
structure Ord (r : Nat → Nat → Bool) (pos : Nat → Nat) : Prop where
  lt : ∀ x y, r x y = true → pos x < pos y
  trans : ∀ x y z, r x y = true → r y z = true → r x z = true
theorem Ord.irr {r : Nat → Nat → Bool} {pos : Nat → Nat} (o : Ord r pos) (x : Nat) : r x x = false := by
  cases h : r x x with
  | false => rfl
  | true => exact absurd (o.lt x x h) (Nat.lt_irrefl _)

/-! ### lists -/
theorem nodup_le : ∀ {a b : List Nat}, a.Nodup → (∀ x ∈ a, x ∈ b) → a.length ≤ b.length
  | [], _, _, _ => Nat.zero_le _
  | x :: a, b, h, s => by
    have hx : x ∈ b := s x List.mem_cons_self
    have h' := List.nodup_cons.mp h
    have q : a.length ≤ (b.erase x).length := nodup_le h'.2 fun y hy => by
      have ne : y ≠ x := fun e => h'.1 (e ▸ hy)
      exact (List.mem_erase_of_ne ne).mpr (s y (List.mem_cons_of_mem _ hy))
    have e := List.length_erase_of_mem hx
    have p : 0 < b.length := List.length_pos_of_mem hx
    rw [List.length_cons]
    omega
theorem nd_filter {l : List Nat} (f : Nat → Bool) (h : l.Nodup) : (l.filter f).Nodup := List.Pairwise.sublist List.filter_sublist h
theorem filter_split (f : Nat → Bool) : ∀ l : List Nat, (l.filter f).length + (l.filter fun x => !f x).length = l.length
  | [] => rfl
  | x :: l => by
    have q := filter_split f l
    cases h : f x <;> simp [List.filter_cons, h] <;> omega

/-! ### the rows of places of which none goes before another one -/
def clash (r : Nat → Nat → Bool) (k x : Nat) : Bool := r x k || r k x
def rowsStep (r : Nat → Nat → Bool) (rows : List (List Nat)) (k : Nat) : List (List Nat) :=
  rows ++ (rows.filter fun one => (one.filter fun x => clash r k x).isEmpty).map fun one => one ++ [k]
def rowsOf (r : Nat → Nat → Bool) : Nat → List (List Nat)
  | 0 => [[]]
  | n + 1 => rowsStep r (rowsOf r n) n
/-- a row: rising, none before another one -/
def Anti (r : Nat → Nat → Bool) (l : List Nat) : Prop := l.Nodup ∧ ∀ x ∈ l, ∀ y ∈ l, r x y = false
theorem noClash {r : Nat → Nat → Bool} {k : Nat} {one : List Nat} (h : (one.filter fun x => clash r k x).isEmpty = true) : ∀ x ∈ one, r x k = false ∧ r k x = false := fun x hx => by
  have e : one.filter (fun x => clash r k x) = [] := List.isEmpty_iff.mp h
  have q := List.filter_eq_nil_iff.mp e x hx
  simp [clash] at q
  exact q
theorem rowsOf_anti {r : Nat → Nat → Bool} {pos : Nat → Nat} (o : Ord r pos) : ∀ (n : Nat) (l : List Nat), l ∈ rowsOf r n → Anti r l ∧ ∀ x ∈ l, x < n
  | 0, l, h => by
    have e : l = [] := by simpa [rowsOf] using h
    subst e
    exact ⟨⟨List.nodup_nil, fun x hx => nomatch hx⟩, fun x hx => nomatch hx⟩
  | n + 1, l, h => by
    rcases List.mem_append.mp h with h | h
    · obtain ⟨a, b⟩ := rowsOf_anti o n l h
      exact ⟨a, fun x hx => Nat.lt_succ_of_lt (b x hx)⟩
    · obtain ⟨one, ho, rfl⟩ := List.mem_map.mp h
      obtain ⟨h1, h2⟩ := List.mem_filter.mp ho
      obtain ⟨⟨a1, a2⟩, b⟩ := rowsOf_anti o n one h1
      have nc := noClash h2
      refine ⟨⟨?_, fun x hx y hy => ?_⟩, fun x hx => ?_⟩
      · refine List.nodup_append.mpr ⟨a1, by simp, fun x hx y hy => ?_⟩
        have e : y = n := by simpa using hy
        subst e
        exact Nat.ne_of_lt (b x hx)
      · rcases List.mem_append.mp hx with hx1 | hx1
        · rcases List.mem_append.mp hy with hy1 | hy1
          · exact a2 x hx1 y hy1
          · have e : y = n := by simpa using hy1
            rw [e]
            exact (nc x hx1).1
        · have e : x = n := by simpa using hx1
          rw [e]
          rcases List.mem_append.mp hy with hy1 | hy1
          · exact (nc y hy1).2
          · have e : y = n := by simpa using hy1
            rw [e]
            exact o.irr n
      · rcases List.mem_append.mp hx with hx | hx
        · exact Nat.lt_succ_of_lt (b x hx)
        · have e : x = n := by simpa using hx
          subst e
          exact Nat.lt_succ_self _
/-- every such set is among them -/
theorem rowsOf_all {r : Nat → Nat → Bool} (f : Nat → Bool) : ∀ (n : Nat), (∀ x y, x < n → y < n → f x = true → f y = true → r x y = false) → (List.range n).filter f ∈ rowsOf r n
  | 0, _ => by simp [rowsOf]
  | n + 1, h => by
    have ih := rowsOf_all f n fun x y hx hy => h x y (Nat.lt_succ_of_lt hx) (Nat.lt_succ_of_lt hy)
    rw [List.range_succ, List.filter_append]
    cases e : f n with
    | false =>
      have e1 : [n].filter f = [] := by simp [e]
      rw [e1, List.append_nil]
      exact List.mem_append_left _ ih
    | true =>
      have e1 : [n].filter f = [n] := by simp [e]
      rw [e1]
      refine List.mem_append_right _ (List.mem_map.mpr ⟨_, List.mem_filter.mpr ⟨ih, ?_⟩, rfl⟩)
      rw [List.isEmpty_iff, List.filter_eq_nil_iff]
      intro x hx
      obtain ⟨h1, h2⟩ := List.mem_filter.mp hx
      have hx' : x < n := List.mem_range.mp h1
      simp [clash, h x n (Nat.lt_succ_of_lt hx') (Nat.lt_succ_self _) h2 e, h n x (Nat.lt_succ_self _) (Nat.lt_succ_of_lt hx') e h2]
/-- the greatest length -/
def IsWide (r : Nat → Nat → Bool) (n m : Nat) : Prop := (∃ l ∈ rowsOf r n, l.length = m) ∧ ∀ l ∈ rowsOf r n, l.length ≤ m
theorem IsWide.one {r : Nat → Nat → Bool} {n m k : Nat} (a : IsWide r n m) (b : IsWide r n k) : m = k := by
  obtain ⟨⟨l, h1, e1⟩, q1⟩ := a
  obtain ⟨⟨l', h2, e2⟩, q2⟩ := b
  have z1 := q2 l h1
  have z2 := q1 l' h2
  omega
theorem rowsOf_congr {r s : Nat → Nat → Bool} : ∀ (n : Nat), (∀ x y, x < n → y < n → r x y = s x y) → (∀ l ∈ rowsOf r n, ∀ x ∈ l, x < n) → rowsOf r n = rowsOf s n
  | 0, _, _ => rfl
  | n + 1, h, hb => by
    have hb' : ∀ l ∈ rowsOf r n, ∀ x ∈ l, x < n + 1 := fun l hl => hb l (List.mem_append_left _ hl)
    have hs : ∀ (n : Nat) (l : List Nat), l ∈ rowsOf r n → ∀ x ∈ l, x < n := by
      intro n
      induction n with
      | zero =>
        intro l hl x hx
        have e : l = [] := by simpa [rowsOf] using hl
        subst e
        cases hx
      | succ n ih =>
        intro l hl x hx
        rcases List.mem_append.mp hl with hl | hl
        · exact Nat.lt_succ_of_lt (ih l hl x hx)
        · obtain ⟨one, ho, rfl⟩ := List.mem_map.mp hl
          rcases List.mem_append.mp hx with hx | hx
          · exact Nat.lt_succ_of_lt (ih one (List.mem_filter.mp ho).1 x hx)
          · have e : x = n := by simpa using hx
            subst e
            exact Nat.lt_succ_self _
    have ih := rowsOf_congr n (fun x y hx hy => h x y (Nat.lt_succ_of_lt hx) (Nat.lt_succ_of_lt hy)) (hs n)
    show rowsStep r (rowsOf r n) n = rowsStep s (rowsOf s n) n
    rw [← ih]
    unfold rowsStep
    congr 2
    refine List.filter_congr fun one ho => ?_
    congr 1
    refine List.filter_congr fun x hx => ?_
    have hx' := hs n one ho x hx
    simp [clash, h x n (Nat.lt_succ_of_lt hx') (Nat.lt_succ_self _), h n x (Nat.lt_succ_self _) (Nat.lt_succ_of_lt hx')]

/-! ### partings into rows -/
def rowOk (r : Nat → Nat → Bool) (p : Nat) (row : List Nat) : Bool := (row.filter fun x => !r x p && !r p x).isEmpty
theorem rowOk_iff {r : Nat → Nat → Bool} {p : Nat} {row : List Nat} : rowOk r p row = true ↔ ∀ x ∈ row, r x p = true ∨ r p x = true := by
  unfold rowOk
  rw [List.isEmpty_iff, List.filter_eq_nil_iff]
  constructor
  · intro h x hx
    have q := h x hx
    cases e1 : r x p <;> cases e2 : r p x <;> simp_all
  · intro h x hx
    rcases h x hx with e | e <;> simp [e]
def mine (rows : List (List Nat)) (at_ : Nat) : List Nat := rows.getD at_ []
def putAt (rows : List (List Nat)) (at_ p : Nat) : List (List Nat) := rows.take at_ ++ [mine rows at_ ++ [p]] ++ rows.drop (at_ + 1)
inductive Parts (r : Nat → Nat → Bool) : List Nat → List (List Nat) → Nat → Prop where
  | done (rows : List (List Nat)) : Parts r [] rows rows.length
  | put {p : Nat} {ps : List Nat} {rows : List (List Nat)} {v : Nat} (at_ : Nat) (hat : at_ ≤ rows.length) (ok : rowOk r p (mine rows at_) = true) (h : Parts r ps (putAt rows at_ p) v) : Parts r (p :: ps) rows v
/-- the least number of rows -/
def IsFewest (r : Nat → Nat → Bool) (left : List Nat) (rows : List (List Nat)) (v : Nat) : Prop := Parts r left rows v ∧ ∀ u, Parts r left rows u → v ≤ u
theorem mem_putAt {rows : List (List Nat)} {at_ p : Nat} {row : List Nat} : row ∈ putAt rows at_ p → row ∈ rows ∨ row = mine rows at_ ++ [p] := by
  intro h
  rcases List.mem_append.mp h with h | h
  · rcases List.mem_append.mp h with h | h
    · exact .inl (List.mem_of_mem_take h)
    · exact .inr (by simpa using h)
  · exact .inl (List.mem_of_mem_drop h)
theorem mem_mine {rows : List (List Nat)} {at_ : Nat} : mine rows at_ ∈ rows ∨ mine rows at_ = [] := by
  unfold mine
  rw [List.getD_eq_getElem?_getD]
  cases e : rows[at_]? with
  | none => exact .inr rfl
  | some row => exact .inl (List.mem_of_getElem? e)
/-- what a row holds is held behind, too -/
theorem putAt_holds {rows : List (List Nat)} {at_ p : Nat} {row : List Nat} (h : row ∈ rows) : ∃ row' ∈ putAt rows at_ p, ∀ x ∈ row, x ∈ row' := by
  obtain ⟨i, hi⟩ := List.mem_iff_getElem?.mp h
  by_cases e : i = at_
  · subst e
    refine ⟨mine rows i ++ [p], List.mem_append_left _ (List.mem_append_right _ (List.mem_singleton.mpr rfl)), fun x hx => List.mem_append_left _ ?_⟩
    unfold mine
    rw [List.getD_eq_getElem?_getD, hi]
    exact hx
  · refine ⟨row, ?_, fun x hx => hx⟩
    by_cases hlt : i < at_
    · refine List.mem_append_left _ (List.mem_append_left _ ?_)
      exact List.mem_iff_getElem?.mpr ⟨i, by rw [List.getElem?_take_of_lt hlt]; exact hi⟩
    · refine List.mem_append_right _ (List.mem_iff_getElem?.mpr ⟨i - (at_ + 1), ?_⟩)
      rw [List.getElem?_drop, show at_ + 1 + (i - (at_ + 1)) = i by omega]
      exact hi
def Chains (r : Nat → Nat → Bool) (rows : List (List Nat)) : Prop := ∀ row ∈ rows, ∀ x ∈ row, ∀ y ∈ row, x = y ∨ r x y = true ∨ r y x = true
theorem putAt_chains {r : Nat → Nat → Bool} {rows : List (List Nat)} {at_ p : Nat} (h : Chains r rows) (ok : rowOk r p (mine rows at_) = true) : Chains r (putAt rows at_ p) := fun row hrow x hx y hy => by
  rcases mem_putAt hrow with hr | e
  · exact h row hr x hx y hy
  · subst e
    have k := rowOk_iff.mp ok
    rcases List.mem_append.mp hx with hx1 | hx1
    · rcases List.mem_append.mp hy with hy1 | hy1
      · rcases mem_mine (rows := rows) (at_ := at_) with hm | hm
        · exact h _ hm x hx1 y hy1
        · rw [hm] at hx1
          cases hx1
      · have e : y = p := by simpa using hy1
        rw [e]
        exact .inr (k x hx1)
    · have e : x = p := by simpa using hx1
      rw [e]
      rcases List.mem_append.mp hy with hy1 | hy1
      · exact .inr (k y hy1).symm
      · have e2 : y = p := by simpa using hy1
        exact .inl e2.symm
theorem parts_chains {r : Nat → Nat → Bool} {left : List Nat} {rows : List (List Nat)} {v : Nat} (h : Parts r left rows v) : Chains r rows →
    ∃ rows' : List (List Nat), rows'.length = v ∧ Chains r rows' ∧ (∀ row ∈ rows, ∃ row' ∈ rows', ∀ x ∈ row, x ∈ row') ∧ ∀ x ∈ left, ∃ row' ∈ rows', x ∈ row' := by
  induction h with
  | done rows => exact fun c => ⟨rows, rfl, c, fun row h => ⟨row, h, fun _ hx => hx⟩, fun x hx => nomatch hx⟩
  | @put p ps rows v at_ hat ok _ ih =>
    intro c
    obtain ⟨rows', e, c', h1, h2⟩ := ih (putAt_chains c ok)
    refine ⟨rows', e, c', fun row hrow => ?_, fun x hx => ?_⟩
    · obtain ⟨ra, ha, q⟩ := putAt_holds (at_ := at_) (p := p) hrow
      obtain ⟨rb, hb, q'⟩ := h1 ra ha
      exact ⟨rb, hb, fun x hx => q' x (q x hx)⟩
    · rcases List.mem_cons.mp hx with e | hx
      · subst e
        obtain ⟨rb, hb, q'⟩ := h1 (mine rows at_ ++ [x]) (List.mem_append_left _ (List.mem_append_right _ (List.mem_singleton.mpr rfl)))
        exact ⟨rb, hb, q' x (List.mem_append_right _ (List.mem_singleton.mpr rfl))⟩
      · exact h2 x hx
/-- an antichain takes one place a row at most -/
theorem anti_le {r : Nat → Nat → Bool} : ∀ (rows : List (List Nat)) (l : List Nat), Chains r rows → Anti r l → (∀ x ∈ l, ∃ row ∈ rows, x ∈ row) → l.length ≤ rows.length
  | [], l, _, _, h => by
    cases l with
    | nil => exact Nat.le_refl _
    | cons x l =>
      obtain ⟨row, hr, _⟩ := h x List.mem_cons_self
      cases hr
  | row :: rows, l, c, ⟨nd, an⟩, h => by
    have q := anti_le rows (l.filter fun x => !row.contains x) (fun r' hr' => c r' (List.mem_cons_of_mem _ hr')) ⟨nd_filter _ nd, fun x hx y hy => an x (List.mem_filter.mp hx).1 y (List.mem_filter.mp hy).1⟩ fun x hx => by
      obtain ⟨h1, h2⟩ := List.mem_filter.mp hx
      obtain ⟨r', hr', m⟩ := h x h1
      rcases List.mem_cons.mp hr' with e | hr'
      · subst e
        simp [m] at h2
      · exact ⟨r', hr', m⟩
    have one : (l.filter fun x => row.contains x).length ≤ 1 := by
      match e : l.filter fun x => row.contains x with
      | [] => simp
      | [_] => simp
      | x :: y :: t =>
        exfalso
        have n2 : (x :: y :: t).Nodup := e ▸ nd_filter _ nd
        have hx : x ∈ l.filter fun x => row.contains x := by rw [e]; simp
        have hy : y ∈ l.filter fun x => row.contains x := by rw [e]; simp
        obtain ⟨x1, x2⟩ := List.mem_filter.mp hx
        obtain ⟨y1, y2⟩ := List.mem_filter.mp hy
        have ne : x ≠ y := fun z => by
          subst z
          simp at n2
        rcases c row List.mem_cons_self x (List.contains_iff_mem.mp x2) y (List.contains_iff_mem.mp y2) with z | z | z
        · exact ne z
        · rw [an x x1 y y1] at z
          cases z
        · rw [an y y1 x x1] at z
          cases z
    have s := filter_split (fun x => row.contains x) l
    rw [List.length_cons]
    omega
/-- places of unlike colours go into unlike rows -/
theorem parts_colour {r : Nat → Nat → Bool} {n : Nat} (c : Nat → Nat) (hc : ∀ x y, x < n → y < n → c x = c y → x = y ∨ r x y = true ∨ r y x = true) :
    ∀ (left : List Nat) (rows : List (List Nat)) (cols : List Nat), cols.length = rows.length → cols.Nodup → left.Nodup → (∀ x ∈ left, x < n) → (∀ (i : Nat) (row : List Nat), rows[i]? = some row → ∀ x ∈ row, x < n ∧ x ∉ left ∧ cols[i]? = some (c x)) →
      ∃ (v : Nat) (cols' : List Nat), Parts r left rows v ∧ cols'.Nodup ∧ cols'.length = v ∧ ∀ e ∈ cols', e ∈ cols ∨ ∃ x ∈ left, e = c x
  | [], rows, cols, hl, nd, _, _, _ => ⟨rows.length, cols, .done rows, nd, hl, fun e he => .inl he⟩
  | p :: ps, rows, cols, hl, nd, ln, lt, hr => by
    have ln' := List.nodup_cons.mp ln
    have hp : p < n := lt p List.mem_cons_self
    by_cases hm : c p ∈ cols
    · obtain ⟨i, hi⟩ := List.mem_iff_getElem?.mp hm
      have hil : i < rows.length := by rw [← hl]; exact (List.getElem?_eq_some_iff.mp hi).1
      have hrow : rows[i]? = some (mine rows i) := by
        unfold mine
        rw [List.getD_eq_getElem?_getD, List.getElem?_eq_getElem hil]
        rfl
      have ok : rowOk r p (mine rows i) = true := rowOk_iff.mpr fun x hx => by
        obtain ⟨h1, h2, h3⟩ := hr i _ hrow x hx
        rw [hi] at h3
        rcases hc x p h1 hp (Option.some.inj h3).symm with e | e | e
        · subst e
          exact absurd List.mem_cons_self h2
        · exact .inl e
        · exact .inr e
      have hget : ∀ (j : Nat), (putAt rows i p)[j]? = if j = i then some (mine rows i ++ [p]) else rows[j]? := fun j => by
        have lt_ : (rows.take i).length = i := by rw [List.length_take]; omega
        unfold putAt
        by_cases hji : j < i
        · rw [if_neg (by omega), List.append_assoc, List.getElem?_append_left (by omega), List.getElem?_take_of_lt hji]
        · by_cases hji2 : j = i
          · subst hji2
            rw [if_pos rfl, List.append_assoc, List.getElem?_append_right (by omega), lt_, Nat.sub_self]
            rfl
          · rw [if_neg hji2, List.getElem?_append_right (by rw [List.length_append, lt_, List.length_singleton]; omega), List.length_append, lt_, List.length_singleton, List.getElem?_drop]
            congr 1
            omega
      have hlen : (putAt rows i p).length = rows.length := by
        unfold putAt
        rw [List.length_append, List.length_append, List.length_take, List.length_singleton, List.length_drop]
        omega
      obtain ⟨v, cols', h1, h2, h3, h4⟩ := parts_colour c hc ps (putAt rows i p) cols (by rw [hlen, hl]) nd ln'.2 (fun x hx => lt x (List.mem_cons_of_mem _ hx)) fun j row hj x hx => by
        rw [hget j] at hj
        by_cases hji : j = i
        · subst hji
          rw [if_pos rfl] at hj
          cases hj
          rcases List.mem_append.mp hx with hx | hx
          · obtain ⟨a1, a2, a3⟩ := hr j _ hrow x hx
            exact ⟨a1, fun z => a2 (List.mem_cons_of_mem _ z), a3⟩
          · have e : x = p := by simpa using hx
            subst e
            exact ⟨hp, ln'.1, hi⟩
        · rw [if_neg hji] at hj
          obtain ⟨a1, a2, a3⟩ := hr j row hj x hx
          exact ⟨a1, fun z => a2 (List.mem_cons_of_mem _ z), a3⟩
      refine ⟨v, cols', .put i (Nat.le_of_lt hil) ok h1, h2, h3, fun e he => ?_⟩
      rcases h4 e he with z | ⟨x, hx, z⟩
      · exact .inl z
      · exact .inr ⟨x, List.mem_cons_of_mem _ hx, z⟩
    · have hmine : mine rows rows.length = [] := by
        unfold mine
        rw [List.getD_eq_getElem?_getD, List.getElem?_eq_none (Nat.le_refl _)]
        rfl
      have hput : putAt rows rows.length p = rows ++ [[p]] := by
        unfold putAt
        rw [hmine, List.take_length, List.drop_eq_nil_of_le (Nat.le_succ _), List.append_nil, List.nil_append]
      obtain ⟨v, cols', h1, h2, h3, h4⟩ := parts_colour c hc ps (rows ++ [[p]]) (cols ++ [c p]) (by simp [hl]) (List.nodup_append.mpr ⟨nd, by simp, fun a ha b hb => by
          have e : b = c p := by simpa using hb
          subst e
          exact fun z => hm (z ▸ ha)⟩) ln'.2 (fun x hx => lt x (List.mem_cons_of_mem _ hx)) fun j row hj x hx => by
        by_cases hjl : j < rows.length
        · rw [List.getElem?_append_left hjl] at hj
          obtain ⟨a1, a2, a3⟩ := hr j row hj x hx
          exact ⟨a1, fun z => a2 (List.mem_cons_of_mem _ z), by rw [List.getElem?_append_left (by rw [hl]; exact hjl)]; exact a3⟩
        · rw [List.getElem?_append_right (by omega)] at hj
          have e0 : j - rows.length = 0 := by
            cases e : j - rows.length with
            | zero => rfl
            | succ k => rw [e] at hj; simp at hj
          rw [e0] at hj
          have er : [p] = row := by simpa using hj
          subst er
          have e : x = p := by simpa using hx
          subst e
          refine ⟨hp, ln'.1, ?_⟩
          rw [List.getElem?_append_right (by omega), hl, e0]
          rfl
      refine ⟨v, cols', .put rows.length (Nat.le_refl _) (by rw [hmine]; rfl) (by rw [hput]; exact h1), h2, h3, fun e he => ?_⟩
      rcases h4 e he with z | ⟨x, hx, z⟩
      · rcases List.mem_append.mp z with z | z
        · exact .inl z
        · exact .inr ⟨p, List.mem_cons_self, by simpa using z⟩
      · exact .inr ⟨x, List.mem_cons_of_mem _ hx, z⟩

/-! ### the matching -/
def gv (M : List (Nat × Nat)) (k : Nat) : Option Nat := (M.find? fun q => decide (q.1 = k)).map (·.2)
def ptv (M : List (Nat × Nat)) (k p : Nat) : List (Nat × Nat) := if (gv M k).isSome = true then M.map (fun q => if q.1 = k then (q.1, p) else q) else M ++ [(k, p)]
theorem gv_cons_pos {q : Nat × Nat} {M : List (Nat × Nat)} {k : Nat} (h : q.1 = k) : gv (q :: M) k = some q.2 := by simp [gv, List.find?_cons, h]
theorem gv_cons_neg {q : Nat × Nat} {M : List (Nat × Nat)} {k : Nat} (h : ¬ q.1 = k) : gv (q :: M) k = gv M k := by simp [gv, List.find?_cons, h]
theorem gv_none : ∀ {M : List (Nat × Nat)} {k : Nat}, gv M k = none ↔ k ∉ M.map (·.1)
  | [], k => by simp [gv]
  | q :: M, k => by
    by_cases h : q.1 = k
    · rw [gv_cons_pos h]
      simp [h]
    · rw [gv_cons_neg h, gv_none (M := M)]
      simp [show ¬ k = q.1 from fun e => h e.symm]
theorem gv_mem : ∀ {M : List (Nat × Nat)} {k p : Nat}, gv M k = some p → (k, p) ∈ M
  | [], k, p, h => by simp [gv] at h
  | q :: M, k, p, h => by
    by_cases e : q.1 = k
    · rw [gv_cons_pos e] at h
      have e2 : q.2 = p := Option.some.inj h
      rw [← e, ← e2]
      exact List.mem_cons_self
    · rw [gv_cons_neg e] at h
      exact List.mem_cons_of_mem _ (gv_mem h)
theorem gv_of_mem : ∀ {M : List (Nat × Nat)} {k p : Nat}, (M.map (·.1)).Nodup → (k, p) ∈ M → gv M k = some p
  | q :: M, k, p, nd, h => by
    rw [List.map_cons, List.nodup_cons] at nd
    rcases List.mem_cons.mp h with e | h
    · subst e
      exact gv_cons_pos rfl
    · rw [gv_cons_neg fun e => nd.1 (e ▸ List.mem_map.mpr ⟨(k, p), h, rfl⟩)]
      exact gv_of_mem nd.2 h
theorem snd_inj : ∀ {M : List (Nat × Nat)} {a b p : Nat}, (M.map (·.2)).Nodup → (a, p) ∈ M → (b, p) ∈ M → a = b
  | q :: M, a, b, p, nd, ha, hb => by
    rw [List.map_cons, List.nodup_cons] at nd
    rcases List.mem_cons.mp ha with ea | ha
    · rcases List.mem_cons.mp hb with eb | hb
      · exact congrArg (·.1) (ea.trans eb.symm)
      · exact absurd (List.mem_map.mpr ⟨(b, p), hb, by rw [← ea]⟩) nd.1
    · rcases List.mem_cons.mp hb with eb | hb
      · exact absurd (List.mem_map.mpr ⟨(a, p), ha, by rw [← eb]⟩) nd.1
      · exact snd_inj nd.2 ha hb
theorem gv_append : ∀ {M : List (Nat × Nat)} {k p j : Nat}, gv M k = none → gv (M ++ [(k, p)]) j = if j = k then some p else gv M j
  | [], k, p, j, _ => by
    by_cases h : j = k
    · subst h; simp [gv]
    · simp [gv, h, show ¬ k = j from fun e => h e.symm]
  | q :: M, k, p, j, h => by
    have hk : ¬ q.1 = k := fun e => by rw [gv_cons_pos e] at h; cases h
    rw [gv_cons_neg hk] at h
    rw [List.cons_append]
    by_cases e : q.1 = j
    · rw [gv_cons_pos e, gv_cons_pos e, if_neg fun z => hk (e.trans z)]
    · rw [gv_cons_neg e, gv_cons_neg e]
      exact gv_append h
theorem gv_map : ∀ {M : List (Nat × Nat)} {k p j : Nat}, gv (M.map fun q => if q.1 = k then (q.1, p) else q) j = if j = k then (gv M k).map fun _ => p else gv M j
  | [], k, p, j => by by_cases h : j = k <;> simp [gv, h]
  | q :: M, k, p, j => by
    rw [List.map_cons]
    have ih := gv_map (M := M) (k := k) (p := p) (j := j)
    by_cases e : q.1 = k
    · rw [if_pos e]
      by_cases ej : j = k
      · subst ej
        rw [if_pos rfl, gv_cons_pos (q := (q.1, p)) e, gv_cons_pos e]
        rfl
      · rw [if_neg ej, gv_cons_neg (q := (q.1, p)) (fun z => ej (z.symm.trans e)), gv_cons_neg (fun z => ej (z.symm.trans e)), ih, if_neg ej]
    · rw [if_neg e]
      by_cases ej : q.1 = j
      · rw [gv_cons_pos ej, gv_cons_pos ej, if_neg fun z => e (ej.trans z)]
      · rw [gv_cons_neg ej, gv_cons_neg ej, ih]
        by_cases ek : j = k
        · rw [if_pos ek, if_pos ek, gv_cons_neg e]
        · rw [if_neg ek, if_neg ek]
theorem gv_put (M : List (Nat × Nat)) (k p j : Nat) : gv (ptv M k p) j = if j = k then some p else gv M j := by
  unfold ptv
  cases h : gv M k with
  | none =>
    rw [if_neg (by simp)]
    exact gv_append h
  | some q =>
    rw [if_pos (by rfl), gv_map, h]
    rfl
theorem ptv_new {M : List (Nat × Nat)} {k p : Nat} (h : gv M k = none) : ptv M k p = M ++ [(k, p)] := by
  unfold ptv
  rw [if_neg (by rw [h]; simp)]
theorem ptv_old {M : List (Nat × Nat)} {k p q : Nat} (h : gv M k = some q) : ptv M k p = M.map fun z => if z.1 = k then (z.1, p) else z := by
  unfold ptv
  rw [if_pos (by rw [h]; rfl)]
theorem ptv_keys {M : List (Nat × Nat)} {k p q : Nat} (h : gv M k = some q) : (ptv M k p).map (·.1) = M.map (·.1) := by
  rw [ptv_old h, List.map_map]
  refine List.map_congr_left fun z _ => ?_
  show (if z.1 = k then (z.1, p) else z).1 = z.1
  by_cases e : z.1 = k
  · rw [if_pos e]
  · rw [if_neg e]
theorem map_id_of : ∀ {M : List (Nat × Nat)} {k p : Nat}, k ∉ M.map (·.1) → (M.map fun z => if z.1 = k then (z.1, p) else z) = M
  | [], _, _, _ => rfl
  | z :: M, k, p, h => by
    rw [List.map_cons, List.mem_cons, not_or] at h
    rw [List.map_cons, if_neg fun e => h.1 e.symm, map_id_of h.2]
/-- the values: one taken out, one put in -/
theorem ptv_vals : ∀ {M : List (Nat × Nat)} {k p q : Nat} {L : List Nat}, (M.map (·.1)).Nodup → gv M k = some q → (M.map (·.2)).Perm (q :: L) → ((ptv M k p).map (·.2)).Perm (p :: L) := by
  intro M k p q L nd h hp
  rw [ptv_old h]
  have go : ∀ (M : List (Nat × Nat)), (M.map (·.1)).Nodup → gv M k = some q → (q :: ((M.map fun z => if z.1 = k then (z.1, p) else z).map (·.2))).Perm (p :: M.map (·.2)) := by
    intro M
    induction M with
    | nil => intro _ h; simp [gv] at h
    | cons z M ih =>
      intro nd h
      rw [List.map_cons, List.nodup_cons] at nd
      by_cases e : z.1 = k
      · rw [gv_cons_pos e] at h
        have e2 : z.2 = q := Option.some.inj h
        rw [List.map_cons, if_pos e, map_id_of (e ▸ nd.1), List.map_cons, List.map_cons, e2]
        exact List.Perm.swap ..
      · rw [gv_cons_neg e] at h
        rw [List.map_cons, if_neg e, List.map_cons, List.map_cons]
        have ih' := ih nd.2 h
        exact (List.Perm.swap ..).trans ((List.Perm.cons _ ih').trans (List.Perm.swap ..))
  have g := go M nd h
  have g2 : (q :: ((M.map fun z => if z.1 = k then (z.1, p) else z).map (·.2))).Perm (q :: p :: L) := g.trans ((List.Perm.cons _ hp).trans (List.Perm.swap ..))
  exact List.Perm.cons_inv g2

/-- mates that may be: k has p only if p goes before k -/
structure Valid (r : Nat → Nat → Bool) (n : Nat) (M : List (Nat × Nat)) : Prop where
  nd : (M.map (·.1)).Nodup
  ok : ∀ k p, (k, p) ∈ M → k < n ∧ p < n ∧ r p k = true
theorem Valid.nil {r : Nat → Nat → Bool} {n : Nat} : Valid r n [] := ⟨List.nodup_nil, fun _ _ h => nomatch h⟩
theorem Valid.put {r : Nat → Nat → Bool} {n : Nat} {M : List (Nat × Nat)} (v : Valid r n M) {k p : Nat} (hk : k < n) (hp : p < n) (h : r p k = true) : Valid r n (ptv M k p) := by
  cases e : gv M k with
  | none =>
    rw [ptv_new e]
    refine ⟨?_, fun a b hm => ?_⟩
    · rw [List.map_append]
      refine List.nodup_append.mpr ⟨v.nd, by simp, fun a ha b hb => ?_⟩
      have eb : b = k := by simpa using hb
      subst eb
      exact fun z => gv_none.mp e (z ▸ ha)
    · rcases List.mem_append.mp hm with hm | hm
      · exact v.ok a b hm
      · have z : (a, b) = (k, p) := by simpa using hm
        cases z
        exact ⟨hk, hp, h⟩
  | some q =>
    refine ⟨by rw [ptv_keys e]; exact v.nd, fun a b hm => ?_⟩
    rw [ptv_old e] at hm
    obtain ⟨z, hz, ez⟩ := List.mem_map.mp hm
    by_cases e1 : z.1 = k
    · rw [if_pos e1] at ez
      cases ez
      exact ⟨e1 ▸ hk, hp, e1 ▸ h⟩
    · rw [if_neg e1] at ez
      subst ez
      exact v.ok _ _ hz

/-- places that are held, whose mates lead to held places alone -/
def Closed (r : Nat → Nat → Bool) (n : Nat) (M : List (Nat × Nat)) (R : Nat → Prop) : Prop := ∀ k, R k → ∃ p, gv M k = some p ∧ ∀ j, j < n → r p j = true → R j

/-- what grown(before, mates, place, seen) brings: its answer b, what is seen then, the mates then -/
structure Grew (r : Nat → Nat → Bool) (n place : Nat) (S : List Nat) (M : List (Nat × Nat)) (b : Bool) (S' : List Nat) (M' : List (Nat × Nat)) : Prop where
  sub : ∀ k ∈ S, k ∈ S'
  nd : S'.Nodup
  lt : ∀ k ∈ S', k < n
  no : b = false → M' = M ∧ (∀ k, k < n → r place k = true → k ∈ S') ∧ ∀ k ∈ S', k ∉ S → ∃ p, gv M k = some p ∧ ∀ j, j < n → r p j = true → j ∈ S'
  yes : b = true → Valid r n M' ∧ (M'.map (·.2)).Perm (place :: M.map (·.2)) ∧ (∀ k ∈ S, gv M' k = gv M k) ∧ ∀ R, Closed r n M R → (∀ k, R k → gv M' k = gv M k) ∧ ∃ k, k < n ∧ r place k = true ∧ ¬ R k
/-- ahead of turn i: all seen since are walked to the end, none of them helps -/
structure GI (r : Nat → Nat → Bool) (n place : Nat) (S : List Nat) (M : List (Nat × Nat)) (i : Nat) (S' : List Nat) : Prop where
  sub : ∀ k ∈ S, k ∈ S'
  nd : S'.Nodup
  lt : ∀ k ∈ S', k < n
  past : ∀ k, k < i → r place k = true → k ∈ S'
  done : ∀ k ∈ S', k ∉ S → ∃ p, gv M k = some p ∧ ∀ j, j < n → r p j = true → j ∈ S'
section
variable {r : Nat → Nat → Bool} {n place i : Nat} {S S' : List Nat} {M : List (Nat × Nat)}
theorem GI.start (nd : S.Nodup) (lt : ∀ k ∈ S, k < n) : GI r n place S M 0 S := ⟨fun _ h => h, nd, lt, fun k h => absurd h (Nat.not_lt_zero _), fun k h h' => absurd h h'⟩
theorem GI.skip (g : GI r n place S M i S') (h : r place i = false ∨ i ∈ S') : GI r n place S M (i + 1) S' :=
  ⟨g.sub, g.nd, g.lt, fun k hk hr => by
    rcases Nat.lt_or_eq_of_le (Nat.lt_succ_iff.mp hk) with hk | hk
    · exact g.past k hk hr
    · subst hk
      rcases h with h | h
      · rw [h] at hr; cases hr
      · exact h, g.done⟩
theorem GI.last (g : GI r n place S M n S') : Grew r n place S M false S' M :=
  ⟨g.sub, g.nd, g.lt, fun _ => ⟨rfl, fun k hk hr => g.past k hk hr, g.done⟩, fun h => nomatch h⟩
theorem nd_snoc {l : List Nat} {x : Nat} (h : l.Nodup) (hx : x ∉ l) : (l ++ [x]).Nodup := List.nodup_append.mpr ⟨h, by simp, fun a ha b hb => by
  have e : b = x := by simpa using hb
  subst e
  exact fun z => hx (z ▸ ha)⟩
theorem lt_snoc {l : List Nat} {x : Nat} (h : ∀ k ∈ l, k < n) (hx : x < n) : ∀ k ∈ l ++ [x], k < n := fun k hk => by
  rcases List.mem_append.mp hk with hk | hk
  · exact h k hk
  · have e : k = x := by simpa using hk
    rw [e]
    exact hx
/-- the place is free -/
theorem GI.free (g : GI r n place S M i S') (v : Valid r n M) (hi : i < n) (hp : place < n) (hr : r place i = true) (hs : i ∉ S') (hm : gv M i = none) : Grew r n place S M true (S' ++ [i]) (ptv M i place) :=
  ⟨fun k hk => List.mem_append_left _ (g.sub k hk), nd_snoc g.nd hs, lt_snoc g.lt hi, (fun h => (nomatch h)), fun _ => ⟨v.put hi hp hr, by
    rw [ptv_new hm, List.map_append]
    exact List.perm_append_comm, fun k hk => by
    rw [gv_put, if_neg (fun (e : k = i) => hs (e ▸ g.sub k hk))], fun R hR => by
    have ni : ¬ R i := fun h => by
      obtain ⟨p, e, _⟩ := hR i h
      rw [hm] at e
      cases e
    exact ⟨fun k hk => by rw [gv_put, if_neg (fun (e : k = i) => ni (e ▸ hk))], i, hi, hr, ni⟩⟩⟩
/-- its mate has found another one -/
theorem GI.taken {q : Nat} {S2 : List Nat} {M2 : List (Nat × Nat)} (g : GI r n place S M i S') (v : Valid r n M) (hi : i < n) (hp : place < n) (hr : r place i = true) (hs : i ∉ S') (hm : gv M i = some q) (w : Grew r n q (S' ++ [i]) M true S2 M2) :
    Grew r n place S M true S2 (ptv M2 i place) := by
  obtain ⟨v2, pm, ks, cl⟩ := w.yes rfl
  have e2 : gv M2 i = some q := by rw [ks i (List.mem_append_right _ (List.mem_singleton.mpr rfl)), hm]
  refine ⟨fun k hk => w.sub k (List.mem_append_left _ (g.sub k hk)), w.nd, w.lt, (fun h => (nomatch h)), fun _ => ⟨v2.put hi hp hr, ptv_vals v2.nd e2 pm, fun k hk => ?_, fun R hR => ?_⟩⟩
  · rw [gv_put, if_neg (fun (e : k = i) => hs (e ▸ g.sub k hk))]
    exact ks k (List.mem_append_left _ (g.sub k hk))
  · obtain ⟨c1, j, hj, hrj, nj⟩ := cl R hR
    have ni : ¬ R i := fun h => by
      obtain ⟨p, e, hc⟩ := hR i h
      rw [hm] at e
      cases e
      exact nj (hc j hj hrj)
    exact ⟨fun k hk => by rw [gv_put, if_neg (fun (e : k = i) => ni (e ▸ hk))]; exact c1 k hk, i, hi, hr, ni⟩
/-- its mate has found none -/
theorem GI.stuck {q : Nat} {S2 : List Nat} {M2 : List (Nat × Nat)} (g : GI r n place S M i S') (hm : gv M i = some q) (w : Grew r n q (S' ++ [i]) M false S2 M2) : M2 = M ∧ GI r n place S M (i + 1) S2 := by
  obtain ⟨e, c1, c2⟩ := w.no rfl
  refine ⟨e, fun k hk => w.sub k (List.mem_append_left _ (g.sub k hk)), w.nd, w.lt, fun k hk hr => ?_, fun k hk hn => ?_⟩
  · rcases Nat.lt_or_eq_of_le (Nat.lt_succ_iff.mp hk) with hk | hk
    · exact w.sub k (List.mem_append_left _ (g.past k hk hr))
    · subst hk
      exact w.sub _ (List.mem_append_right _ (List.mem_singleton.mpr rfl))
  · by_cases h1 : k ∈ S' ++ [i]
    · rcases List.mem_append.mp h1 with h1 | h1
      · obtain ⟨p, ep, hp⟩ := g.done k h1 hn
        exact ⟨p, ep, fun j hj hr => w.sub j (List.mem_append_left _ (hp j hj hr))⟩
      · have ek : k = i := by simpa using h1
        subst ek
        exact ⟨q, hm, c1⟩
    · exact c2 k hk h1
end

/-- ahead of place p: F have found no mate, R are closed -/
structure LI (r : Nat → Nat → Bool) (n p : Nat) (M : List (Nat × Nat)) : Prop where
  v : Valid r n M
  ex : ∃ F R : List Nat, (F ++ M.map (·.2)).Perm (List.range p) ∧ R.Nodup ∧ (∀ k ∈ R, k < n) ∧ Closed r n M (· ∈ R) ∧ ∀ f ∈ F, ∀ k, k < n → r f k = true → k ∈ R
theorem LI.start {r : Nat → Nat → Bool} {n : Nat} : LI r n 0 [] := ⟨Valid.nil, [], [], by simp, List.nodup_nil, fun _ h => (nomatch h), fun _ h => (nomatch h), fun _ h => (nomatch h)⟩
theorem LI.turn {r : Nat → Nat → Bool} {n p : Nat} {M M' : List (Nat × Nat)} {b : Bool} {S' : List Nat} (l : LI r n p M) (g : Grew r n p [] M b S' M') : LI r n (p + 1) M' := by
  obtain ⟨v, F, R, pm, nd, lt, cl, hF⟩ := l
  cases b with
  | true =>
    obtain ⟨v', pv, _, c⟩ := g.yes rfl
    obtain ⟨c1, _⟩ := c _ cl
    refine ⟨v', F, R, ?_, nd, lt, fun k hk => ?_, hF⟩
    · rw [List.range_succ]
      have e1 : (F ++ M'.map (·.2)).Perm (F ++ (p :: M.map (·.2))) := List.Perm.append_left F pv
      have e2 : (F ++ (p :: M.map (·.2))).Perm (p :: (F ++ M.map (·.2))) := List.perm_middle
      exact (e1.trans e2).trans ((List.Perm.cons _ pm).trans (by simpa using (List.perm_append_comm (l₁ := [p]) (l₂ := List.range p))))
    · obtain ⟨q, e, h⟩ := cl k hk
      exact ⟨q, by rw [c1 k hk]; exact e, h⟩
  | false =>
    obtain ⟨e, c1, c2⟩ := g.no rfl
    subst e
    refine ⟨v, F ++ [p], R ++ S'.filter (fun k => !R.contains k), ?_, ?_, fun k hk => ?_, fun k hk => ?_, fun f hf k hk hr => ?_⟩
    · rw [List.range_succ]
      have e1 : (F ++ [p] ++ M'.map (·.2)).Perm (p :: (F ++ M'.map (·.2))) := by
        rw [List.append_assoc]
        exact List.perm_middle
      exact e1.trans ((List.Perm.cons _ pm).trans (by simpa using (List.perm_append_comm (l₁ := [p]) (l₂ := List.range p))))
    · refine List.nodup_append.mpr ⟨nd, nd_filter _ g.nd, fun a ha b' hb => ?_⟩
      have q := (List.mem_filter.mp hb).2
      intro z
      subst z
      simp [ha] at q
    · rcases List.mem_append.mp hk with hk | hk
      · exact lt k hk
      · exact g.lt k (List.mem_filter.mp hk).1
    · have up : ∀ j, j ∈ S' → j ∈ R ++ S'.filter (fun k => !R.contains k) := fun j hj => by
        by_cases h : j ∈ R
        · exact List.mem_append_left _ h
        · exact List.mem_append_right _ (List.mem_filter.mpr ⟨hj, by simp [h]⟩)
      rcases List.mem_append.mp hk with hk | hk
      · obtain ⟨q, e, h⟩ := cl k hk
        exact ⟨q, e, fun j hj hr => List.mem_append_left _ (h j hj hr)⟩
      · obtain ⟨q, e, h⟩ := c2 k (List.mem_filter.mp hk).1 (fun z => nomatch z)
        exact ⟨q, e, fun j hj hr => up j (h j hj hr)⟩
    · rcases List.mem_append.mp hf with hf | hf
      · exact List.mem_append_left _ (hF f hf k hk hr)
      · have ef : f = p := by simpa using hf
        subst ef
        have hs := c1 k hk hr
        by_cases h : k ∈ R
        · exact List.mem_append_left _ h
        · exact List.mem_append_right _ (List.mem_filter.mpr ⟨hs, by simp [h]⟩)

/-! ### the two bounds -/
/-- a set as wide as the rows that the mates leave -/
theorem LI.wide {r : Nat → Nat → Bool} {n m : Nat} {M : List (Nat × Nat)} (l : LI r n n M) (w : IsWide r n m) : n ≤ m + M.length := by
  obtain ⟨v, F, R, pm, nd, lt, cl, hF⟩ := l
  have hlen := pm.length_eq
  rw [List.length_append, List.length_map, List.length_range] at hlen
  have ndA : (F ++ M.map (·.2)).Nodup := pm.nodup_iff.mpr List.nodup_range
  obtain ⟨ndF, ndV, dis⟩ := List.nodup_append.mp ndA
  -- the mates of R
  have hm : ∀ k ∈ R, gv M k = some ((gv M k).getD 0) := fun k hk => by
    obtain ⟨p, e, _⟩ := cl k hk
    rw [e]
    rfl
  have ndL : (F ++ R.map fun k => (gv M k).getD 0).Nodup := by
    refine List.nodup_append.mpr ⟨ndF, ?_, fun a ha b hb => ?_⟩
    · rw [List.Nodup, List.pairwise_map]
      refine List.Pairwise.imp_of_mem (fun {a b} ha hb ne e => ne ?_) nd
      have e1 := gv_mem (hm a ha)
      have e2 := gv_mem (hm b hb)
      rw [e] at e1
      exact snd_inj ndV e1 e2
    · obtain ⟨k, hk, rfl⟩ := List.mem_map.mp hb
      exact dis a ha _ (List.mem_map.mpr ⟨_, gv_mem (hm k hk), rfl⟩)
  have nb : ∀ x ∈ F ++ R.map (fun k => (gv M k).getD 0), ∀ j, j < n → r x j = true → j ∈ R := fun x hx j hj hr => by
    rcases List.mem_append.mp hx with hx | hx
    · exact hF x hx j hj hr
    · obtain ⟨k, hk, rfl⟩ := List.mem_map.mp hx
      obtain ⟨p, e, h⟩ := cl k hk
      have e2 := hm k hk
      rw [e] at e2 hr
      exact h j hj hr
  have hltx : ∀ x ∈ F ++ R.map (fun k => (gv M k).getD 0), x < n := fun x hx => by
    have q : x ∈ F ++ M.map (·.2) := by
      rcases List.mem_append.mp hx with hx | hx
      · exact List.mem_append_left _ hx
      · obtain ⟨k, hk, rfl⟩ := List.mem_map.mp hx
        exact List.mem_append_right _ (List.mem_map.mpr ⟨_, gv_mem (hm k hk), rfl⟩)
    exact List.mem_range.mp (pm.mem_iff.mp q)
  generalize hL : F ++ R.map (fun k => (gv M k).getD 0) = L at ndL nb hltx
  have lenL : L.length = F.length + R.length := by rw [← hL, List.length_append, List.length_map]
  -- those of L that are not in R
  let f : Nat → Bool := fun x => L.contains x && !R.contains x
  have anti : ∀ x y, x < n → y < n → f x = true → f y = true → r x y = false := fun x y hx hy fx fy => by
    cases h : r x y with
    | false => rfl
    | true =>
      simp only [f, Bool.and_eq_true, List.contains_iff_mem, Bool.not_eq_true'] at fx fy
      have q := nb x fx.1 y hy h
      have q2 := fy.2
      simp [q] at q2
  have hrow := w.2 _ (rowsOf_all f n anti)
  have h1 : (L.filter fun x => !R.contains x).length ≤ ((List.range n).filter f).length := nodup_le (nd_filter _ ndL) fun x hx => by
    obtain ⟨a, b⟩ := List.mem_filter.mp hx
    refine List.mem_filter.mpr ⟨List.mem_range.mpr (hltx x a), ?_⟩
    show (L.contains x && !R.contains x) = true
    rw [b, List.contains_iff_mem.mpr a]
    rfl
  have h2 : (L.filter fun x => R.contains x).length ≤ R.length := nodup_le (nd_filter _ ndL) fun x hx => List.contains_iff_mem.mp (List.mem_filter.mp hx).2
  have h3 := filter_split (fun x => R.contains x) L
  omega
/-! the rows that the mates make -/
inductive Climb (M : List (Nat × Nat)) : Nat → Nat → Prop where
  | refl (x : Nat) : Climb M x x
  | up {x y p : Nat} (h : Climb M x y) (e : gv M y = some p) : Climb M x p
theorem Climb.first {M : List (Nat × Nat)} {x p y : Nat} (e : gv M x = some p) (h : Climb M p y) : Climb M x y := by
  induction h with
  | refl => exact .up (.refl x) e
  | up _ e2 ih => exact .up ih e2
theorem Climb.rel {r : Nat → Nat → Bool} {pos : Nat → Nat} {n : Nat} {M : List (Nat × Nat)} (o : Ord r pos) (v : Valid r n M) {x y : Nat} (h : Climb M x y) : x = y ∨ r y x = true := by
  induction h with
  | refl => exact .inl rfl
  | @up y p h e ih =>
    have q := (v.ok _ _ (gv_mem e)).2.2
    rcases ih with ih | ih
    · subst ih
      exact .inr q
    · exact .inr (o.trans _ _ _ q ih)
inductive Top (M : List (Nat × Nat)) : Nat → Nat → Prop where
  | top {x : Nat} (e : gv M x = none) : Top M x x
  | step {x p t : Nat} (e : gv M x = some p) (h : Top M p t) : Top M x t
theorem Top.climb {M : List (Nat × Nat)} {x t : Nat} (h : Top M x t) : Climb M x t := by
  induction h with
  | top => exact .refl _
  | step e _ ih => exact ih.first e
theorem Top.end {M : List (Nat × Nat)} {x t : Nat} (h : Top M x t) : gv M t = none := by
  induction h with
  | top e => exact e
  | step _ _ ih => exact ih
theorem top_same {M : List (Nat × Nat)} (nd : (M.map (·.2)).Nodup) {x t : Nat} (h : Top M x t) : ∀ {y : Nat}, Top M y t → Climb M x y ∨ Climb M y x := by
  induction h with
  | top e => exact fun hy => .inr hy.climb
  | @step x p t e h ih =>
    intro y hy
    rcases ih hy with c | c
    · exact .inl (c.first e)
    · cases c with
      | refl => exact .inl (.up (.refl x) e)
      | @up z p' c e2 =>
        have ez : x = z := snd_inj nd (gv_mem e) (gv_mem e2)
        subst ez
        exact .inr c
theorem top_ex {r : Nat → Nat → Bool} {pos : Nat → Nat} {n : Nat} {M : List (Nat × Nat)} (o : Ord r pos) (v : Valid r n M) : ∀ (f x : Nat), pos x < f → x < n → ∃ t, Top M x t ∧ t < n
  | 0, _, h, _ => absurd h (Nat.not_lt_zero _)
  | f + 1, x, h, hx => by
    cases e : gv M x with
    | none => exact ⟨x, .top e, hx⟩
    | some p =>
      obtain ⟨_, hp, q⟩ := v.ok _ _ (gv_mem e)
      have l := o.lt _ _ q
      obtain ⟨t, ht, hn⟩ := top_ex o v f p (by omega) hp
      exact ⟨t, .step e ht, hn⟩
theorem Top.one {M : List (Nat × Nat)} {x t u : Nat} (h : Top M x t) : Top M x u → t = u := by
  induction h with
  | top e =>
    intro h2
    cases h2 with
    | top _ => rfl
    | step e2 _ => rw [e] at e2; cases e2
  | step e _ ih =>
    intro h2
    cases h2 with
    | top e2 => rw [e] at e2; cases e2
    | step e2 h3 =>
      rw [e] at e2
      cases e2
      exact ih h3
theorem LI.fewest {r : Nat → Nat → Bool} {pos : Nat → Nat} {n v : Nat} {M : List (Nat × Nat)} (o : Ord r pos) (l : LI r n n M) (w : IsFewest r (List.range n) [] v) : v + M.length ≤ n := by
  obtain ⟨va, F, R, pm, _⟩ := l
  have ndA : (F ++ M.map (·.2)).Nodup := pm.nodup_iff.mpr List.nodup_range
  have ndV := (List.nodup_append.mp ndA).2.1
  have hc : ∃ c : Nat → Nat, ∀ x, x < n → Top M x (c x) ∧ c x < n := by
    refine ⟨fun x => if h : x < n then (top_ex o va (pos x + 1) x (Nat.lt_succ_self _) h).choose else 0, fun x hx => ?_⟩
    simp only [hx, dif_pos]
    exact (top_ex o va (pos x + 1) x (Nat.lt_succ_self _) hx).choose_spec
  obtain ⟨c, hc⟩ := hc
  obtain ⟨u, cols, h1, h2, h3, h4⟩ := parts_colour (r := r) (n := n) c (fun x y hx hy e => by
    have tx := (hc x hx).1
    have ty := (hc y hy).1
    rw [← e] at ty
    rcases top_same ndV tx ty with q | q
    · rcases q.rel o va with z | z
      · exact .inl z
      · exact .inr (.inr z)
    · rcases q.rel o va with z | z
      · exact .inl z.symm
      · exact .inr (.inl z)) (List.range n) [] [] rfl List.nodup_nil List.nodup_range (fun x hx => List.mem_range.mp hx) (fun i row h => by simp at h)
  have q1 := w.2 u h1
  -- the colours have no mate
  have ndall : (cols ++ M.map (·.1)).Nodup := by
    refine List.nodup_append.mpr ⟨h2, va.nd, fun a ha b hb => ?_⟩
    rcases h4 a ha with z | ⟨x, hx, z⟩
    · cases z
    · have t := (hc x (List.mem_range.mp hx)).1.end
      rw [← z] at t
      exact fun e => gv_none.mp t (e ▸ hb)
  have q2 : (cols ++ M.map (·.1)).length ≤ (List.range n).length := nodup_le ndall fun x hx => by
    rcases List.mem_append.mp hx with hx | hx
    · rcases h4 x hx with z | ⟨y, hy, z⟩
      · cases z
      · rw [z]
        exact List.mem_range.mpr (hc y (List.mem_range.mp hy)).2
    · obtain ⟨q, hq, rfl⟩ := List.mem_map.mp hx
      exact List.mem_range.mpr (va.ok q.1 q.2 hq).1
  rw [List.length_append, List.length_map, List.length_range] at q2
  omega
/-- the three are one number -/
theorem all_one {r : Nat → Nat → Bool} {pos : Nat → Nat} {n m v : Nat} {M : List (Nat × Nat)} (o : Ord r pos) (l : LI r n n M) (w : IsWide r n m) (f : IsFewest r (List.range n) [] v) : m = v ∧ n = m + M.length := by
  have h1 := l.wide w
  have h2 := l.fewest o f
  obtain ⟨⟨row, hrow, e⟩, _⟩ := w
  obtain ⟨anti, lt⟩ := rowsOf_anti o n row hrow
  obtain ⟨rows', e', c, _, cover⟩ := parts_chains f.1 (fun row h => nomatch h)
  have h3 := anti_le rows' row c anti fun x hx => cover x (List.mem_range.mpr (lt x hx))
  omega
end K76

/-! ## K76Graph -/
/-! The plain law, second part: arcs, what goes before, by rounds. Core Lean alone. -/
namespace K76
/-- arcs of places below n, each to a greater position -/
structure Open (n : Nat) (A : List (Nat × Nat)) (pos : Nat → Nat) : Prop where
  lt : ∀ x y, (x, y) ∈ A → x < n ∧ y < n ∧ pos x < pos y
  pos : ∀ x, x < n → pos x < n
/-- goes before -/
inductive Anc (A : List (Nat × Nat)) : Nat → Nat → Prop where
  | one {x y : Nat} (h : (x, y) ∈ A) : Anc A x y
  | step {w x y : Nat} (h : Anc A w x) (a : (x, y) ∈ A) : Anc A w y
theorem Anc.trans {A : List (Nat × Nat)} {w x y : Nat} (a : Anc A w x) (b : Anc A x y) : Anc A w y := by
  induction b with
  | one h => exact .step a h
  | step _ h ih => exact .step ih h
theorem Anc.lt {n : Nat} {A : List (Nat × Nat)} {pos : Nat → Nat} (o : Open n A pos) {x y : Nat} (a : Anc A x y) : x < n ∧ y < n ∧ pos x < pos y := by
  induction a with
  | one h => exact o.lt _ _ h
  | step _ h ih =>
    obtain ⟨a1, a2, a3⟩ := ih
    obtain ⟨b1, b2, b3⟩ := o.lt _ _ h
    exact ⟨a1, b2, Nat.lt_trans a3 b3⟩
/-- the places below n that stand in a list, ascending -/
def uni (n : Nat) (ys : List Nat) : List Nat := (List.range n).filter fun k => ys.contains k
theorem mem_uni {n k : Nat} {ys : List Nat} : k ∈ uni n ys ↔ k < n ∧ k ∈ ys := by
  unfold uni
  rw [List.mem_filter, List.mem_range, List.contains_iff_mem]
theorem uni_len (n : Nat) (ys : List Nat) : (uni n ys).length ≤ n := by
  unfold uni
  have h := List.length_filter_le (fun k => ys.contains k) (List.range n)
  rwa [List.length_range] at h
theorem uni_inc (n : Nat) (ys : List Nat) : (uni n ys).Pairwise (· < ·) := List.Pairwise.sublist List.filter_sublist List.pairwise_lt_range
theorem inc_ext : ∀ {a b : List Int}, a.Pairwise (· < ·) → b.Pairwise (· < ·) → (∀ k, k ∈ a ↔ k ∈ b) → a = b
  | [], [], _, _, _ => rfl
  | [], y :: b, _, _, h => absurd ((h y).mpr List.mem_cons_self) (fun m => nomatch m)
  | x :: a, [], _, _, h => absurd ((h x).mp List.mem_cons_self) (fun m => nomatch m)
  | x :: a, y :: b, ha, hb, h => by
    rw [List.pairwise_cons] at ha hb
    have e : x = y := by
      rcases List.mem_cons.mp ((h x).mp List.mem_cons_self) with e | m
      · exact e
      · rcases List.mem_cons.mp ((h y).mpr List.mem_cons_self) with e | m2
        · exact e.symm
        · have q1 := hb.1 x m
          have q2 := ha.1 y m2
          omega
    subst e
    have t := inc_ext ha.2 hb.2 fun k => by
      constructor
      · intro m
        rcases List.mem_cons.mp ((h k).mp (List.mem_cons_of_mem _ m)) with e | m2
        · have q := ha.1 k m
          omega
        · exact m2
      · intro m
        rcases List.mem_cons.mp ((h k).mpr (List.mem_cons_of_mem _ m)) with e | m2
        · have q := hb.1 k m
          omega
        · exact m2
    rw [t]

/-! ### before_in: rounds over places and arcs -/
structure Sound (n : Nat) (A : List (Nat × Nat)) (B : Nat → List Nat) : Prop where
  ok : ∀ i, i < n → ∀ k ∈ B i, Anc A k i
/-- all before those of position t at most -/
def Full (n : Nat) (A : List (Nat × Nat)) (pos : Nat → Nat) (t : Nat) (B : Nat → List Nat) : Prop := ∀ i, i < n → pos i ≤ t → ∀ k, Anc A k i → k ∈ B i
/-- y and all before it are told of i -/
def Told (A : List (Nat × Nat)) (B : Nat → List Nat) (y i : Nat) : Prop := y ∈ B i ∧ ∀ w, Anc A w y → w ∈ B i
structure BK (n : Nat) (A : List (Nat × Nat)) (pos : Nat → Nat) (t k : Nat) (B : Nat → List Nat) : Prop where
  sound : Sound n A B
  full : Full n A pos t B
  told : ∀ y, y < k → ∀ i, (y, i) ∈ A → pos i ≤ t + 1 → Told A B y i
structure BX (n : Nat) (A : List (Nat × Nat)) (pos : Nat → Nat) (t k : Nat) (xs : List Nat) (B : Nat → List Nat) : Prop extends BK n A pos t k B where
  here : ∀ i ∈ xs, pos i ≤ t + 1 → Told A B k i
def bset (n : Nat) (B : Nat → List Nat) (k x : Nat) : Nat → List Nat := fun i => if i = x then uni n (B x ++ [k] ++ B k) else B i
section
variable {n : Nat} {A : List (Nat × Nat)} {pos : Nat → Nat} {t k x : Nat} {xs : List Nat} {B : Nat → List Nat}
theorem Full.start (o : Open n A pos) : Full n A pos 0 (fun _ => []) := fun i hi hp k a => by
  have q := (a.lt o).2.2
  omega
theorem BK.start (s : Sound n A B) (f : Full n A pos t B) : BK n A pos t 0 B := ⟨s, f, fun y hy => absurd hy (Nat.not_lt_zero _)⟩
theorem BX.start (b : BK n A pos t k B) : BX n A pos t k [] B := ⟨b, fun _ h => nomatch h⟩
theorem BX.step (o : Open n A pos) (b : BX n A pos t k xs B) (a : (k, x) ∈ A) : BX n A pos t k (xs ++ [x]) (bset n B k x) := by
  obtain ⟨hk, hx, hp⟩ := o.lt _ _ a
  have up : ∀ i w, i < n → w ∈ B i → w ∈ bset n B k x i := fun i w hi hw => by
    unfold bset
    by_cases e : i = x
    · rw [if_pos e, mem_uni]
      subst e
      exact ⟨((b.sound.ok _ hi w hw).lt o).1, List.mem_append_left _ (List.mem_append_left _ hw)⟩
    · rw [if_neg e]
      exact hw
  have upT : ∀ y i, i < n → Told A B y i → Told A (bset n B k x) y i := fun y i hi h => ⟨up i y hi h.1, fun w hw => up i w hi (h.2 w hw)⟩
  refine ⟨⟨⟨fun i hi w hw => ?_⟩, fun i hi hp w hw => up i w hi (b.full i hi hp w hw), fun y hy i hi hpi => upT y i (o.lt _ _ hi).2.1 (b.told y hy i hi hpi)⟩, fun i hi hpi => ?_⟩
  · unfold bset at hw
    by_cases e : i = x
    · rw [if_pos e, mem_uni] at hw
      subst e
      rcases List.mem_append.mp hw.2 with m | m
      · rcases List.mem_append.mp m with m | m
        · exact b.sound.ok _ hi w m
        · have ew : w = k := by simpa using m
          rw [ew]
          exact .one a
      · exact .step (b.sound.ok _ hk w m) a
    · rw [if_neg e] at hw
      exact b.sound.ok _ hi w hw
  · have new : pos x ≤ t + 1 → Told A (bset n B k x) k x := fun hq => by
      have e : bset n B k x x = uni n (B x ++ [k] ++ B k) := by unfold bset; rw [if_pos rfl]
      refine ⟨by rw [e, mem_uni]; exact ⟨hk, by simp⟩, fun w hw => ?_⟩
      rw [e, mem_uni]
      exact ⟨(hw.lt o).1, List.mem_append_right _ (b.full k hk (by omega) w hw)⟩
    rcases List.mem_append.mp hi with m | m
    · by_cases e : i = x
      · subst e
        exact new hpi
      · have q := b.here i m hpi
        have z : bset n B k x i = B i := by unfold bset; rw [if_neg e]
        exact ⟨by rw [z]; exact q.1, fun w hw => by rw [z]; exact q.2 w hw⟩
    · have e : i = x := by simpa using m
      subst e
      exact new hpi
theorem BX.last (b : BX n A pos t k xs B) (h : ∀ i, (k, i) ∈ A → i ∈ xs) : BK n A pos t (k + 1) B :=
  ⟨b.sound, b.full, fun y hy i hi hp => by
    rcases Nat.lt_or_eq_of_le (Nat.lt_succ_iff.mp hy) with hy | hy
    · exact b.told y hy i hi hp
    · subst hy
      exact b.here i (h i hi) hp⟩
theorem BK.last (o : Open n A pos) (b : BK n A pos t n B) : Full n A pos (t + 1) B := fun i hi hp k a => by
  cases a with
  | one h => exact (b.told _ (o.lt _ _ h).1 i h hp).1
  | step a h => exact (b.told _ (o.lt _ _ h).1 i h hp).2 k a
end
/-- what goes before, told by lists -/
structure IsBefore (n : Nat) (A : List (Nat × Nat)) (B : Nat → List Nat) : Prop where
  iff : ∀ i, i < n → ∀ k, k ∈ B i ↔ Anc A k i
  out : ∀ i, n ≤ i → B i = []
/-- nothing is told of places that are not -/
def norm (n : Nat) (B : Nat → List Nat) : Nat → List Nat := fun i => if i < n then B i else []
theorem norm_map (n : Nat) (B : Nat → List Nat) : (List.range n).map (norm n B) = (List.range n).map B := List.map_congr_left fun i hi => by
  unfold norm
  rw [if_pos (List.mem_range.mp hi)]
theorem before_of {n : Nat} {A : List (Nat × Nat)} {pos : Nat → Nat} {B : Nat → List Nat} (o : Open n A pos) (s : Sound n A B) (f : Full n A pos n B) : IsBefore n A (norm n B) :=
  ⟨fun i hi k => by
    unfold norm
    rw [if_pos hi]
    exact ⟨s.ok i hi k, fun a => f i hi (Nat.le_of_lt (o.pos i hi)) k a⟩, fun i hi => by
    unfold norm
    rw [if_neg (Nat.not_lt.mpr hi)]⟩

/-! ### the law's own: all joined at once -/
theorem join_step {n : Nat} {A : List (Nat × Nat)} {pos : Nat → Nat} {t : Nat} {B B' : Nat → List Nat} (o : Open n A pos) (s : Sound n A B) (p : ∀ x y, (x, y) ∈ A → x ∈ B y) (f : Full n A pos t B)
    (h : ∀ i, i < n → ∀ k, k ∈ B' i ↔ k ∈ B i ∨ ∃ y ∈ B i, k ∈ B y) : Sound n A B' ∧ (∀ x y, (x, y) ∈ A → x ∈ B' y) ∧ Full n A pos (t + 1) B' := by
  refine ⟨⟨fun i hi k hk => ?_⟩, fun x y a => (h y (o.lt _ _ a).2.1 x).mpr (.inl (p x y a)), fun i hi hp k a => ?_⟩
  · rcases (h i hi k).mp hk with m | ⟨y, hy, m⟩
    · exact s.ok i hi k m
    · have a := s.ok i hi y hy
      exact (s.ok y (a.lt o).1 k m).trans a
  · refine (h i hi k).mpr ?_
    cases a with
    | one a => exact .inl (p _ _ a)
    | @step x _ a b =>
      obtain ⟨hx, _, hlt⟩ := o.lt _ _ b
      exact .inr ⟨x, p _ _ b, f x hx (by omega) k a⟩

/-! ### is_open: those without one ahead are taken out -/
def src (A : List (Nat × Nat)) (left : List Nat) : List Nat := left.filter fun k => (left.filter fun x => decide ((x, k) ∈ A)).isEmpty
def cut (left some : List Nat) : List Nat := left.filter fun k => !some.contains k
theorem least_of (pos : Nat → Nat) : ∀ l : List Nat, l ≠ [] → ∃ k ∈ l, ∀ x ∈ l, pos k ≤ pos x
  | [], h => absurd rfl h
  | [k], _ => ⟨k, List.mem_cons_self, fun x hx => by rw [List.mem_singleton.mp hx]; exact Nat.le_refl _⟩
  | k :: y :: l, _ => by
    obtain ⟨m, hm, q⟩ := least_of pos (y :: l) (by simp)
    by_cases c : pos k ≤ pos m
    · refine ⟨k, List.mem_cons_self, fun x hx => ?_⟩
      rcases List.mem_cons.mp hx with e | hx
      · rw [e]
        exact Nat.le_refl _
      · exact Nat.le_trans c (q x hx)
    · refine ⟨m, List.mem_cons_of_mem _ hm, fun x hx => ?_⟩
      rcases List.mem_cons.mp hx with e | hx
      · rw [e]
        omega
      · exact q x hx
theorem src_none {n : Nat} {A : List (Nat × Nat)} {pos : Nat → Nat} (o : Open n A pos) {left : List Nat} (h : src A left = []) : left = [] := by
  cases left with
  | nil => rfl
  | cons a l =>
    exfalso
    obtain ⟨k, hk, q⟩ := least_of pos (a :: l) (by simp)
    have m : k ∈ src A (a :: l) := List.mem_filter.mpr ⟨hk, by
      rw [List.isEmpty_iff, List.filter_eq_nil_iff]
      intro x hx e
      have z := (o.lt _ _ (of_decide_eq_true e)).2.2
      have := q x hx
      omega⟩
    rw [h] at m
    cases m
theorem cut_less {left some : List Nat} {k : Nat} (h1 : k ∈ some) (h2 : k ∈ left) : (cut left some).length < left.length := by
  have key : ∀ (l : List Nat), k ∈ l → (l.filter fun k => !some.contains k).length < l.length := by
    intro l
    induction l with
    | nil => intro h; cases h
    | cons a l ih =>
      intro h
      rw [List.filter_cons]
      by_cases c : some.contains a = true
      · rw [if_neg (by rw [c]; decide)]
        exact Nat.lt_succ_of_le (List.length_filter_le _ _)
      · rcases List.mem_cons.mp h with e | h
        · subst e
          exact absurd (List.contains_iff_mem.mpr h1) c
        · rw [if_pos (by simpa using c), List.length_cons, List.length_cons]
          exact Nat.succ_lt_succ (ih h)
  exact key left h2
end K76

/-! ## K76RulesA -/
/-! Rules of our own: enumerate of a tuple, t.index(k), a pair reversed by a slice. -/
namespace KR
open PySem PySem.Spec PyProof.Rows L2
/-! ### enumerate(t) -/
theorem enum_new (l : Addr) (items : Array Value) (n : Nat) (dct : Option Addr) (sl : Array (Option Value)) :
    Meets (Builtin.«enumerate.__new__» ⟨[.type "enumerate", .ref l], []⟩) (fun _ R s => s.heap.get? l = some { cls := .type "tuple", dict := dct, data := .seq items n, slots := sl } ∧
      R (.ok (.ret (.ref (s.heap.push { cls := .type "tuple_iterator", data := .fields #[.ref l, .int 0 0] }).objs.size)))
        { s with heap := (s.heap.push { cls := .type "tuple_iterator", data := .fields #[.ref l, .int 0 0] }).push { cls := .type "enumerate", data := .fields #[.none, .bool false, .ref s.heap.objs.size, rawInt 0, .none, .none] } }) :=
  .of_wp fun prog w A R s h => by
    obtain ⟨hp, g, d, tk, os⟩ := s
    obtain ⟨hl, h⟩ := h
    have sub0 := sub_enumerate
    have isT : Heap.IsTuple (Shared.heap ⟨hp, g, d, tk, os⟩) l items := ⟨_, hl, rfl, n, rfl⟩
    wp_walk using AutoSeq1.wpAny_loadPart' hl
    refine wpAny_stack_any fun st => wpAny_pure ?_
    split
    · rename_i c _ _ _ _ _
      cases (c == Value.type "enumerate") <;>
        (wp_walk using AutoSeq1.wpAny_loadPart' hl, wpAny_pyIter_tuple isT
         exact ⟨_, rfl, h⟩)
    · wp_walk using AutoSeq1.wpAny_loadPart' hl, wpAny_pyIter_tuple isT
      exact ⟨_, rfl, h⟩
section
variable {prog : Program} {w : World} {A : Around} {E : Value → Shared → Prop} {s : Shared}
theorem call_enum {l : Addr} {items : Array Value} {Q : Value → Shared → Prop} (ht : s.heap.IsTuple l items)
    (h : ∀ h', IsEnum h' (s.heap.objs.size + 1) s.heap.objs.size 0 .none → h'.IsTupleIter s.heap.objs.size l 0 → (∀ b o, s.heap.get? b = some o → h'.get? b = some o) → Q (.ref (s.heap.objs.size + 1)) { s with heap := h' }) :
    wpAny (model prog w) A (call (.type "enumerate") [.ref l]) Q E s := by
  obtain ⟨⟨c, dct, dt, sl⟩, hl, hc, n, hd⟩ := ht
  simp only at hc hd
  subst hc
  subst hd
  refine callType_new F.called_enumerate (by decide) (F.typeCall_enumerate_1 _) (F.newCall_enumerate_1 _) (fun obj => F.args_object_init_2 obj _) F.entry_enumerate_new (enum_new l items n dct sl) ⟨hl, ?_⟩
  generalize hi : ({ cls := .type "tuple_iterator", data := .fields #[.ref l, .int 0 0] } : Obj) = oi
  have fr : oi.isFreed = false := by subst hi; rfl
  have z1 : (s.heap.push oi).objs.size = s.heap.objs.size + 1 := Heap.size_push ..
  show _ ∧ _
  rw [z1]
  have g2 : ((s.heap.push oi).push { cls := .type "enumerate", data := .fields #[.none, .bool false, .ref s.heap.objs.size, rawInt 0, .none, .none] }).get? (s.heap.objs.size + 1) = some { cls := .type "enumerate", data := .fields #[.none, .bool false, .ref s.heap.objs.size, rawInt 0, .none, .none] } := by
    rw [← z1]
    exact Heap.get?_push_size _ rfl
  have g1 : ((s.heap.push oi).push { cls := .type "enumerate", data := .fields #[.none, .bool false, .ref s.heap.objs.size, rawInt 0, .none, .none] }).get? s.heap.objs.size = some oi := Heap.get?_push_of_some _ (Heap.get?_push_size _ fr)
  have g1' : ((s.heap.push oi).push { cls := .type "enumerate", data := .fields #[.none, .bool false, .ref s.heap.objs.size, rawInt 0, .none, .none] }).IsTupleIter s.heap.objs.size l 0 := ⟨oi, g1, by subst hi; rfl, by subst hi; rfl⟩
  exact ⟨⟨_, g2, rfl⟩, h _ g2 g1' fun b o e => Heap.get?_push_of_some _ (Heap.get?_push_of_some _ e)⟩
end
/-- the tuple at a as it stands, its items in new pairs with their places -/
def ItE (K : PySem.W.Frag) (a : Addr) : It :=
  ⟨fun i H => ∃ (xs : List V) (x : V), SqT K H a xs ∧ xs[i]? = some x, fun i H v H' => ∃ T x, v = .ref T ∧ H T = none ∧ H' = upd H T (.tup [.int (i : Nat), x]) ∧ ∀ xs, SqT K H a xs → xs[i]? = some x, fun i H => ∃ xs : List V, SqT K H a xs ∧ xs.length ≤ i⟩
theorem turnE {P : Program} {w : World} {K : PySem.W.Frag} {elts : List Expr} {kk : Nat} {tpos : Pos} (a e it : Addr) :
    Turn P w K (.Tuple elts kk tpos) (ItE K a) [e, it] e (fun i h => (∃ old, IsEnum h e it ((i : Nat) : Int) old) ∧ h.IsTupleIter it a i ∧ e ≠ it ∧ a ≠ it) where
  mem := List.mem_cons_self
  obj := fun i h st b hb => by
    obtain ⟨⟨old, he⟩, ⟨o, ho, hc, hd⟩, _⟩ := st
    rcases List.mem_cons.mp hb with z | z
    · rw [z]
      exact ⟨_, he, fun v q => nomatch q⟩
    · rw [List.mem_singleton.mp z]
      exact ⟨o, ho, fun v q => by rw [hd] at q; cases q⟩
  keep := fun i h h' st k => by
    obtain ⟨⟨old, he⟩, hi, hne⟩ := st
    exact ⟨⟨old, k e List.mem_cons_self _ he⟩, hi.at fun o q => k it (List.mem_cons_of_mem _ List.mem_cons_self) o q, hne⟩
  item := by
    intro X hP hw hK hc i pins s σ H E I hf st hg
    subst hP hw hK
    obtain ⟨⟨old, he⟩, hit, hne, hna⟩ := st
    obtain ⟨xs, x, hq, hx⟩ := hg
    obtain ⟨its, rv, p, hz⟩ := I.tuple hq
    obtain ⟨u, hu, ru⟩ := rv.get hx
    have hui : its.toArray[i]? = some u := by simpa using hu
    have lt_e : e < s.heap.objs.size := Heap.lt_size he
    have lt_i : it < s.heap.objs.size := by
      obtain ⟨_, q, _⟩ := hit
      exact Heap.lt_size q
    have pT : s.heap.IsTuple a its.toArray := p
    have D := Draws.tuple (prog := X.prog) (w := X.w) (A := X.A.in1) (I.ok.hd hc) it a hna its.toArray
    have hlt : i < its.toArray.size := (Array.getElem?_eq_some_iff.mp hui).1
    have hef : e ∉ [it, a] := fun z => by
      rcases List.mem_cons.mp z with z | z
      · exact hne z
      · have z' : e = a := List.mem_singleton.mp z
        obtain ⟨o, ho, hcl, _⟩ := p
        rw [← z'] at ho
        have he' : s.heap.get? e = some _ := he
        rw [ho] at he'
        have eo := Option.some.inj he'
        rw [eo] at hcl
        have hcl' : Value.type "enumerate" = Value.type "tuple" := hcl
        injection hcl' with hcl'
        exact absurd hcl' (by decide)
    refine wpAny_pyNext_enum_itemD D he ⟨hit, pT⟩ hlt hne hef fun y h' tk hP ho st' hT hsz hk => ?_
    have ey : y = u := by
      have q : its.toArray[i]? = some y := hP
      rw [hui] at q
      exact (Option.some.inj q).symm
    subst ey
    refine ⟨_, rfl, wpAny_letOwnedTupleGo_enum (s := { s with heap := h', toks := tk + 1 }) ho fun h'' he' sb => ?_⟩
    have hT2 : h''.get? s.heap.objs.size = some { cls := .type "tuple", data := .seq #[.int i tk, y] } := (sb.2 _ (Nat.ne_of_gt lt_e)).trans hT
    have new : ObjOk X.prog X.w (upd H s.heap.objs.size (.tup [.int (i : Nat), x])) h'' s.heap.objs.size (.tup [.int (i : Nat), x]) :=
      ⟨by show 2 ≤ sizeLine; decide, [.int i tk, y], .cons ⟨_, rfl⟩ (.cons ru .nil), ⟨_, hT2, rfl, _, rfl⟩⟩
    have I1 : Inv X pins σ (upd H s.heap.objs.size (.tup [.int (i : Nat), x])) { s with heap := h'', toks := tk + 1 } :=
      I.turnedNew (ch := [e, it]) (fun b ob hb q => by
        have h1 : b ≠ e := fun z => hb (z ▸ List.mem_cons_self)
        have h2 : b ≠ it := fun z => hb (z ▸ List.mem_cons_of_mem _ List.mem_cons_self)
        exact (sb.2 b h1).trans (hk b ob h1 h2 q)) hf (Nat.le_refl _) new
    refine ⟨.ref s.heap.objs.size, _, I1, rfl, ⟨_, x, rfl, I.hok.fresh (Nat.le_refl _), rfl, fun ys hy => by rw [I.tuple_inj hy hq]; exact hx⟩, ⟨⟨y, ?_⟩, st'.1.at fun o q => (sb.2 it (Ne.symm hne)).trans q, hne, hna⟩, fun b hb => ?_⟩
    · rw [show ((i + 1 : Nat) : Int) = (i : Int) + 1 by omega]
      exact he'
    · have hlb : b < s.heap.objs.size := by
        rcases List.mem_cons.mp hb with z | z
        · rw [z]; exact lt_e
        · rw [List.mem_singleton.mp z]; exact lt_i
      rw [upd_ne (Nat.ne_of_lt hlb)]
      exact (hf b hb).1
  done := by
    intro X hP hw hK hc i pins s σ H E I hf st hg
    subst hP hw hK
    obtain ⟨⟨old, he⟩, hit, hne, hna⟩ := st
    obtain ⟨xs, hq, hx⟩ := hg
    obtain ⟨its, rv, p, hz⟩ := I.tuple hq
    have pT : s.heap.IsTuple a its.toArray := p
    obtain ⟨f0, f1, f2, f3, f4, f5⟩ := hf it (List.mem_cons_of_mem _ List.mem_cons_self)
    have hl := rv.length
    have hi : its.toArray[i]? = none := by
      rw [Array.getElem?_eq_none]
      rw [List.size_toArray]
      omega
    have hT : s.TypeIs (.ref e) "enumerate" := ⟨_, he, rfl⟩
    unfold pyNext
    refine wpAny_bind (wpAny_attempt (wpAny_callSpecial?_slot (name := Str.ofString "__next__") hT PySem.F.slot_enumerate_next
      (wpAny_call_entry PySem.F.slot_enumerate_next hT PySem.F.entry_enumerate_next ?_ (PySem.F.args_enumerate_next_1 _))))
    show wpAny _ _ (field (.ref e) 2 >>= _) _ _ _
    refine wpAny_bind (wpAny_field he rfl (x := .ref it) rfl ?_)
    refine wpAny_bind (wpAny_nextOf_tuple_end (A := X.A.in1) (I.ok.hd hc) hit pT hi fun h' x he' hx' => ?_)
    obtain ⟨o, ho, hcl⟩ := hx'
    refine wpAny_bind (wpAny_isInstance (T := "StopIteration") (b := true) ⟨o, ho, hcl⟩ isSubtype_stop ?_)
    exact wpAny_pure ⟨rfl, I.turned (t' := s.toks) (fun b o hb q => he' b o hb q) f0 f1 f3 f4 f5⟩
  self := fun A i s Q E st h => by
    obtain ⟨⟨_, he⟩, _⟩ := st
    exact wpAny_pyIter_enum he h
def iEnumT (K : PySem.W.Frag) (ta : TA) : TI := fun σ H R => ta σ H fun vs H1 => ∃ a xs, vs = [.ref a] ∧ SqT K H1 a xs ∧ R (ItE K a) H1
theorem pi_enumT {X : Cx} {e : Expr} {ta : TA} {p pos tpos : Pos} {elts : List Expr} {kk : Nat} (hg : Gl X "enumerate") (hm : X.mg "enumerate" = none) (ha : PA X [e] ta) (hs : starEach [e] X.env = [(false, eval e X.env)] := by rfl) :
    PI X (.Tuple elts kk tpos) (.Call (.Name "enumerate" p) [e] [] pos) (iEnumT X.K ta) := by
  refine ⟨fun pins s σ H R I h => ?_⟩
  refine Call_ (ld_blt I hg hm boot_enumerate (PyProof.Rows.callWith_type1 (thn (ha.run pos pins s σ H _ I h) fun us s1 ⟨vs, H1, I1, r1, q1⟩ => ?_) hs rfl))
  obtain ⟨a, xs, ex, hq, q⟩ := q1
  subst ex
  rw [Vals.ref1 r1]
  obtain ⟨its, rv, p', hz⟩ := I1.tuple hq
  have pT : s1.heap.IsTuple a its.toArray := p'
  have lt_a : a < s1.heap.objs.size := by
    obtain ⟨o, ho, _⟩ := p'
    exact Heap.lt_size ho
  refine call_enum pT fun h' he hit hk => wpAny_pyIter_enum he ?_
  refine ⟨s1.heap.objs.size + 1, [s1.heap.objs.size + 1, s1.heap.objs.size], _, _, H1, rfl, I1.kept (t' := s1.toks) hk, turnE a (s1.heap.objs.size + 1) s1.heap.objs.size, ⟨⟨.none, he⟩, hit, Nat.succ_ne_self _, Nat.ne_of_lt lt_a⟩, fun b hb => ?_, q⟩
  have hle : s1.heap.objs.size ≤ b := by
    rcases List.mem_cons.mp hb with z | z
    · rw [z]; exact Nat.le_succ _
    · rw [List.mem_singleton.mp z]; exact Nat.le_refl _
  exact I1.fpOk hle (I1.hok.fresh hle)
/-- the loop over it -/
theorem for_enumT {K : PySem.W.Frag} {a : Addr} {xs : List V} {g : TG} {tb : TS} {D : Ends} {σ : L2.St} {H : Hp} (Pv : Nat → L2.St → Hp → Prop) (h0 : Pv 0 σ H) (hl : ∀ i σ H, Pv i σ H → SqT K H a xs)
    (hs : ∀ i x T σ H, xs[i]? = some x → Pv i σ H → H T = none → g (.ref T) σ (upd H T (.tup [.int (i : Nat), x])) fun σ2 H2 => tb { D with nx := Pv (i + 1), ct := Pv (i + 1), bk := D.nx } σ2 H2) (hd : ∀ σ H, Pv xs.length σ H → D.nx σ H) :
    ∃ W : Nat → Nat → L2.St → Hp → Prop, (∃ m, W 0 m σ H) ∧ ∀ i m σ H, W i m σ H →
      ((ItE K a).stop i H ∧ D.nx σ H) ∨ ((ItE K a).go i H ∧ ∃ N : L2.St → Hp → Prop, (∀ σ' H', N σ' H' → ∃ m', m' < m ∧ W (i + 1) m' σ' H') ∧ ∀ v H', (ItE K a).yld i H v H' → g v σ H' fun σ2 H2 => tb { D with nx := N, ct := N, bk := D.nx } σ2 H2) := by
  refine ⟨fun i m σ H => m = xs.length - i ∧ i ≤ xs.length ∧ Pv i σ H, ⟨xs.length, rfl, Nat.zero_le _, h0⟩, ?_⟩
  rintro i m σ H ⟨rfl, hi, pv⟩
  have q := hl i σ H pv
  rcases Nat.lt_or_eq_of_le hi with hlt | heq
  · refine .inr ⟨⟨xs, _, q, List.getElem?_eq_getElem hlt⟩, Pv (i + 1), fun σ' H' p' => ⟨xs.length - (i + 1), by omega, rfl, hlt, p'⟩, fun v H' y => ?_⟩
    obtain ⟨T, x, rfl, hT, rfl, f⟩ := y
    exact hs i x T σ H (f xs q) pv hT
  · subst heq
    exact .inl ⟨⟨xs, q, Nat.le_refl _⟩, hd σ H pv⟩
/-! ### t.index(k), t a tuple of ints: the first place -/
theorem intsAll_flat (ys : List Int) : (ys.map V.int).all flatV = true := by
  rw [List.all_map]
  exact List.all_eq_true.mpr fun _ _ => rfl
section
variable {X : Cx}
def rIdxI (K : PySem.W.Frag) : V → List V → Hp → VK → Prop := fun x xs H Q => ∃ (p : Addr) (ys : List Int) (z : Int) (j : Nat), x = .ref p ∧ xs = [.int z] ∧ SqT K H p (ys.map V.int) ∧ ys[j]? = some z ∧ (∀ m, m < j → ys[m]? ≠ some z) ∧ Q (.int (j : Nat)) H
theorem mt_idxI : MtR X "tuple.index" (rIdxI X.K) := by
  intro pins s σ H x xs v us Q I rx rs h
  obtain ⟨p, ys, z, j, rfl, rfl, hq, hy, hno, q⟩ := h
  cases rx
  obtain ⟨u, rfl, t, rfl⟩ := vals1 rs
  obtain ⟨its, r, ⟨⟨cls, dd, dt, sl⟩, ho, hc, n, hd⟩, hz⟩ := I.tuple hq
  simp only at hc hd
  subst hc
  subst hd
  have sz : its.toArray.size = ys.length := by rw [List.size_toArray, ← r.length, List.length_map]
  have item : ∀ (m : Nat) (hm : m < its.toArray.size), ∃ (y : Int) (t' : Tok), ys[m]? = some y ∧ its.toArray[m] = Value.int y t' := fun m hm => by
    have hm' : m < ys.length := by omega
    obtain ⟨w, hw, t', hw'⟩ := r.get (i := m) (x := .int ys[m]) (by simp [hm'])
    refine ⟨ys[m], t', List.getElem?_eq_getElem hm', ?_⟩
    rw [← hw', ← (List.getElem?_eq_some_iff.mp hw).2]
    simp
  have hj : j < its.toArray.size := by rw [sz]; exact (List.getElem?_eq_some_iff.mp hy).1
  refine call_meets PySem.F.slot_tuple_index ⟨_, ho, rfl⟩ PySem.F.entry_tuple_index (PySem.F.args_tuple_index_2 _ _) (TI.tuple_indexAt p its.toArray n dd sl (.int z t) (eqU (.int z)) j hj ?_ ?_)
    ⟨ho, fun w hw => mem_eqAt (x := .int z) ⟨t, rfl⟩ rfl r (intsAll_flat ys) w (by simpa using hw), ⟨.int (j : Nat), H, I.tok _, ⟨_, rfl⟩, q⟩⟩
  · obtain ⟨y, t', h1, h2⟩ := item j hj
    rw [hy] at h1
    cases h1
    rw [h2]
    show (z == z) = true
    exact beq_self_eq_true z
  · intro m hm hmj
    obtain ⟨y, t', h1, h2⟩ := item m hm
    rw [h2]
    show (y == z) = false
    exact beq_eq_false_iff_ne.mpr fun e => hno m hmj (e ▸ h1)
/-! ### p[::-1], p a pair -/
def tRev2 (K : PySem.W.Frag) (te : TE) : TE := fun σ H Q => te σ H fun x H1 => ∃ a y z, x = .ref a ∧ SqT K H1 a [y, z] ∧ ∀ p, H1 p = none → Q (.ref p) (upd H1 p (.tup [z, y]))
end
section
variable {prog : Program} {w : World} {A : Around} {E : Value → Shared → Prop} {s : Shared}
open HT in
theorem getItem_rev2 {t sl : Addr} {u v : Value} {tk : Tok} {Q : Value → Shared → Prop} (ht : IsTup s.heap t #[u, v]) (hs : s.heap.IsSliceOf sl .none .none (.int (-1) tk))
    (h : Q (.ref s.heap.objs.size) { s with heap := s.heap.push { cls := .type "tuple", data := .seq [v, u].toArray } }) : wpAny (model prog w) A (getItem (.ref t) (.ref sl)) Q E s := by
  obtain ⟨os, hos, hcs, hds⟩ := id hs
  have hTs : s.TypeIs (.ref sl) "slice" := ⟨os, hos, hcs⟩
  unfold getItem
  try with_reducible refine wpAny_holding ?_
  first | refine wpAny_bind (wpAny_pure ?_) | skip
  refine wpAny_bind (wpAny_sequenceKey ht.typeIs (by decide) ?_)
  refine wpAny_bind (wpAny_callSpecial?_slot (name := Str.ofString "__getitem__") ht.typeIs PyProof.Rows.slot_tuple_getitem (wpAny_call_entry PyProof.Rows.slot_tuple_getitem ht.typeIs entry_tuple_getitem ?_ (args_tuple_getitem _ _)))
  show wpAny _ _ (Builtin.Tuple.tupleItemsOf (.ref t) >>= _) _ _ s
  refine wpAny_bind (tupleItemsOf_ ht ?_)
  refine wpAny_bind (wpAny_typeOf hTs ?_)
  rw [if_pos (by decide)]
  refine wpAny_bind ?_
  unfold Builtin.Slice.sliceApplied Builtin.Slice.sliceFields
  refine wpAny_bind (wpAny_bind (wpAny_field hos hds (x := .none) rfl (wpAny_bind (wpAny_field hos hds (x := .none) rfl (wpAny_bind (wpAny_field hos hds (x := .int (-1) tk) rfl (wpAny_pure ?_)))))))
  refine wpAny_bind (slicePart_int ?_)
  show wpAny _ _ (if ((-1 : Int) == 0) = true then _ else _) _ _ s
  rw [if_neg (by decide)]
  refine wpAny_bind (slicePart_none (wpAny_bind (slicePart_none (wpAny_bind (wpAny_pure ?_)))))
  have e1 : Builtin.Slice.sliceAdjust none none (-1) 2 = (1, -1) := by decide
  have e2 : Builtin.Slice.slicePlaces 1 (-1) (-1) = 2 := by decide
  show wpAny _ _ (match Builtin.Slice.sliceAdjust none none (-1) (2 : Int) with | (lo, hi) => pure (lo, (-1 : Int), Builtin.Slice.slicePlaces lo hi (-1))) _ _ s
  rw [e1]
  show wpAny _ _ (pure ((1 : Int), (-1 : Int), Builtin.Slice.slicePlaces 1 (-1) (-1))) _ _ s
  rw [e2]
  refine wpAny_pure ?_
  show wpAny _ _ (if ((1 : Int) == 0 && (-1 : Int) == 1 && (2 : Nat) == 2) = true then _ else _) _ _ s
  rw [if_neg (by decide)]
  show wpAny _ _ (Builtin.Tuple.tupleExact [v, u].toArray >>= _) _ _ s
  have sz2 : sizeOk (.seq ([v, u] : List Value).toArray) := by show 2 ≤ sizeLine; decide
  exact wpAny_bind (m := Builtin.Tuple.tupleExact _) (wpAny_newObj_type (wpAny_pure ⟨_, rfl, wpAny_pure h⟩) sz2)
end
section
variable {X : Cx}
theorem pe_rev2 {e : Expr} {te : TE} {k : Nat} {p1 p2 p3 pos : Pos} (he : PE X e te) : PE X (.Subscript e (.Slice none none (some (.UnaryOp .USub (.Constant (.int 1) k p1) p2)) p3) pos) (tRev2 X.K te) := by
  refine ⟨fun pins s σ H Q I h => ?_⟩
  refine Subscript_ (thn (he.run pins s σ H _ I h) fun v s1 ⟨x, H1, I1, r1, q1⟩ => ?_)
  obtain ⟨a, y, z, ex, hx, q⟩ := q1
  subst ex
  cases r1
  have third : PO X (some (.UnaryOp .USub (.Constant (.int 1) k p1) p2)) (tPart (tUn (rU fun i => .int (-i)) (tC (.int 1)))) := po_some (pe_un un_neg pe_int)
  refine wpAny_Slice ?_
  rw [evalPart_none]
  refine wpAny_pure ?_
  refine wpAny_pure ?_
  refine thn (third.run pins s1 σ H1 (fun o H4 => o = some (-1) ∧ H4 = H1) I1 ⟨1, rfl, -1, rfl, rfl, rfl⟩) fun vs s4 ⟨o, H4, I4, ps, eo, e4⟩ => ?_
  subst eo e4
  obtain ⟨tk, rfl⟩ : ∃ tk, vs = .int (-1) tk := by
    cases ps with
    | int i t => exact ⟨t, rfl⟩
  have I5 : Inv X pins σ H4 { s4 with heap := s4.heap.push { cls := .type "slice", data := .fields #[.none, .none, .int (-1) tk] } } := I4.kept (t' := s4.toks) fun b ob q => Heap.get?_push_of_some _ q
  obtain ⟨its, r, ht, hz⟩ := I5.tuple hx
  obtain ⟨u1, u2, rfl, ry, rz⟩ := vals2 r
  show wpAny (model X.prog X.w) X.A (subscriptTail e (.Slice none none (some (.UnaryOp .USub (.Constant (.int 1) k p1) p2)) p3) (.ref a) (.ref s4.heap.objs.size)) (EP X pins σ Q) X.xe { s4 with heap := s4.heap.push { cls := .type "slice", data := .fields #[.none, .none, .int (-1) tk] } }
  refine tail_any (ops := [.ref a, .ref s4.heap.objs.size]) ht.typeIs (PyProof.Rows.slot_tuple_getitem.lookup) ?_ (by with_unfolding_all rfl)
  refine getItem_rev2 ht (Heap.IsSliceOf.new _ .none .none (.int (-1) tk)) ?_
  refine ⟨.ref _, _, I5.laid (t' := s4.toks) (o := .tup [z, y]) (fun b ob q => Heap.get?_push_of_some _ q) (Nat.le_refl _) ?_, rfl, q _ (I5.hok.fresh (Nat.le_refl _))⟩
  exact ⟨by show 2 ≤ sizeLine; decide, _, .cons rz (.cons ry .nil), IsTup.new _ _⟩
end
end KR

/-! ## K76RulesB -/
/-! Rules of our own: set(xs) of a list of ints; d.keys() as a value, its length, sorted of it. -/
namespace KR
open PySem PySem.Spec PyProof.Rows L2
section
variable {P : Program} {w : World} {A : Around} {E : Value → Shared → Prop} {s : Shared}
/-- the empty set as it is made -/
abbrev oSet (w : World) : Obj := { cls := .type "set", dict := none, data := .set #[] 0 (.fresh 0 0 (!w.params.followText "set-order")) }
/-- what the filling leaves -/
abbrev SetDone (w : World) (s : Shared) (ns : List Int) (s2 : Shared) : Prop := ∃ h' tk c, s2 = { s with heap := h', toks := tk } ∧ SetR w h' s.heap.objs.size (fun j => decide (j ∈ ns)) c ∧ c ≤ ns.length ∧ ∀ b o, s.heap.get? b = some o → h'.get? b = some o
theorem fill_list {l : Addr} {us : List Value} {dd : Option Addr} {n : Nat} {sl : Array (Option Value)} (ns : List Int) (hh : A.handled = none)
    (hl : s.heap.get? l = some { cls := .type "list", dict := dd, data := .seq us.toArray n, slots := sl }) (hi : IntsAre us ns) (hb : ns.length + 1 < scanBound) {R : Result → Shared → Prop}
    (hR : ∀ s2, SetDone w s ns s2 → R (.ok (.ret .none)) s2) :
    codeAny (model P w) A (.builtin "set.update.loop" ⟨[.ref s.heap.objs.size, .ref (s.heap.push (oSet w)).objs.size], []⟩) R
      { s with heap := (s.heap.push (oSet w)).push { cls := .type "list_iterator", data := .fields #[.ref l, .int 0 0] } } := by
  have len : us.toArray.size = ns.length := by
    rw [List.size_toArray]
    exact IntsAre.length hi
  have l_old : l < s.heap.objs.size := Heap.lt_size hl
  have z1 : (s.heap.push (oSet w)).objs.size = s.heap.objs.size + 1 := Heap.size_push ..
  have apart : l ≠ (s.heap.push (oSet w)).objs.size := by rw [z1]; exact Nat.ne_of_lt (Nat.lt_succ_of_lt l_old)
  have notS : s.heap.objs.size ∉ [(s.heap.push (oSet w)).objs.size, l] := fun m => by
    rw [z1] at m
    rcases List.mem_cons.mp m with q | q
    · exact absurd q (Nat.ne_of_lt (Nat.lt_succ_self _))
    · exact absurd (List.mem_singleton.mp q) (Nat.ne_of_gt l_old)
  have val : ∀ (i : Nat) (v : Value), us.toArray[i]? = some v → ∃ k t, ns[i]? = some k ∧ v = .int k t := fun i v hv => by
    have hlt : i < ns.length := by rw [← len]; exact (Array.getElem?_eq_some_iff.mp hv).1
    obtain ⟨t, e⟩ := PyProof.Rows.IntsAre.int_at hi i v (by simpa using hv)
    refine ⟨ns[i], t, List.getElem?_eq_getElem hlt, ?_⟩
    rw [e, List.getD_eq_getElem?_getD, List.getElem?_eq_getElem hlt]
    all_goals rfl
  have g1 : (s.heap.push (oSet w)).get? l = some { cls := .type "list", dict := dd, data := .seq us.toArray n, slots := sl } := Heap.get?_push_of_some _ hl
  have isL : Heap.IsList (s.heap.push (oSet w)) l us.toArray := ⟨_, g1, rfl, n, rfl⟩
  have gS : ((s.heap.push (oSet w)).push { cls := .type "list_iterator", data := .fields #[.ref l, .int 0 0] }).get? s.heap.objs.size = some (oSet w) := Heap.get?_push_of_some _ (Heap.get?_push_size _ rfl)
  refine set_update_ints ((Walks.list (A := A.in1) (by simpa using hh) _ l apart us.toArray).toS) s.heap.objs.size notS ns len hb val (us.toArray.size - 0) 0 _ (by omega) (Nat.zero_le _)
    ⟨⟨_, Heap.get?_push_size _ rfl, rfl, rfl⟩, isL.push _⟩ ⟨0, Nat.le_refl 0, setR_new_at gS⟩ fun s2 c mv hc hS => ?_
  obtain ⟨h', g2, d2, tk2, os2⟩ := s2
  have eg : g2 = s.gens := mv.gens
  have ed : d2 = s.drawn := mv.drawn
  have eo : os2 = s.os := mv.os
  subst eg ed eo
  refine hR _ ⟨h', tk2, c, rfl, hS, by rw [← len]; exact hc, fun b o e => mv.heap b o (fun m => ?_) (Heap.get?_push_of_some _ (Heap.get?_push_of_some _ e))⟩
  have b_old := Heap.lt_size e
  rcases List.mem_cons.mp m with q | q
  · exact absurd q (Nat.ne_of_lt b_old)
  · rw [z1] at q
    exact absurd (List.mem_singleton.mp q) (Nat.ne_of_lt (Nat.lt_succ_of_lt b_old))
theorem set_of_list {l : Addr} {us : List Value} {dd : Option Addr} {n : Nat} {sl : Array (Option Value)} (ns : List Int) {Q : Value → Shared → Prop} (hh : A.handled = none)
    (hl : s.heap.get? l = some { cls := .type "list", dict := dd, data := .seq us.toArray n, slots := sl }) (hi : IntsAre us ns) (hb : ns.length + 1 < scanBound)
    (h : ∀ s2, SetDone w s ns s2 → Q (.ref s.heap.objs.size) s2) : wpAny (model P w) A (call (.type "set") [.ref l]) Q E s := by
  obtain ⟨c, tl, hmro⟩ := F.called_set.mro
  have m1 := F.called_set.made
  have m2 := F.called_set.sub
  refine wpAny_call (codeAny_of_tree ?_)
  show wpAny _ _ (callAny (.type "set") _) _ _ _
  refine wpAny_pure ⟨Code.quiet_builtin _ (by decide +kernel), codeAny_builtin F.entry_type_call ?_⟩
  rw [Around.under_plain (weight_type_call_type "set" [.ref l] []) rfl]
  have m3 := F.called_set.notType
  have m4 := F.called_set.canCreate
  have m5 := F.typeCall_set_1 (.ref l)
  repeat (any_goals (first | assumption | wp_step))
  refine codeAny_mono (code_set_led1 (.ref l) (E := E) (Q₁ := fun obj s₁ => obj = .ref s.heap.objs.size ∧ s₁ = { s with heap := s.heap.push (oSet w) }) ⟨rfl, rfl⟩) fun r s₁ hr => ?_
  match r, hr with
  | .error e, hr => exact hr
  | .ok (.ret obj), hr =>
    obtain ⟨rfl, rfl⟩ := hr
    have tS : Shared.TypeIs { s with heap := s.heap.push (oSet w) } (.ref s.heap.objs.size) "set" := ⟨_, Heap.get?_push_size _ rfl, rfl⟩
    have m6 := F.called_set.init.lookup
    have m7 := F.called_set.init.bind (.ref s.heap.objs.size)
    repeat (any_goals (first | assumption | wp_step))
    refine codeAny_mono (codeAny_call_builtin (R := wants (fun r s₂ => r = .none ∧ SetDone w s ns s₂) E) F.called_set.init.plain F.entry_set_init (check_set_init_1 tS ?_)) fun r₂ s₂ hr₂ => ?_
    · have g1 : (s.heap.push (oSet w)).get? l = some { cls := .type "list", dict := dd, data := .seq us.toArray n, slots := sl } := Heap.get?_push_of_some _ hl
      have k1 := F.sub_list_set
      have k2 := F.sub_list_frozenset
      have k3 : (Value.type "list" == Value.type "dict") = false := by decide
      have isL : Heap.IsList (s.heap.push (oSet w)) l us.toArray := ⟨_, g1, rfl, n, rfl⟩
      unfold Builtin.«set.__init__» noKeywords Builtin.Frozenset.updateFrom
      generalize hPI : pyIter = PI
      wp_walk
      subst hPI
      refine wpAny_pyIter_list isL ?_
      refine wpAny_bind (wpAny_runValue ?_)
      refine fill_list ns (by simpa using hh) hl hi hb fun s2 hd => ?_
      show wpAny _ _ _ _ _ _
      refine wpAny_pure ?_
      show wpAny _ _ (ret Value.none) _ _ _
      exact wpAny_pure ⟨rfl, hd⟩
    · match r₂, hr₂ with
      | .error e, hr₂ => exact hr₂
      | .ok (.ret r), hr₂ =>
        obtain ⟨rfl, hd⟩ := hr₂
        obtain ⟨h', tk, c', rfl, hS, hc, hk⟩ := hd
        repeat (any_goals (first | assumption | wp_step))
        exact h _ ⟨h', tk, c', rfl, hS, hc, hk⟩
      | .ok .next, hr₂ => exact hr₂.elim
      | .ok .brk, hr₂ => exact hr₂.elim
      | .ok .cont, hr₂ => exact hr₂.elim
  | .ok .next, hr => exact hr.elim
  | .ok .brk, hr => exact hr.elim
  | .ok .cont, hr => exact hr.elim
end
section
variable {X : Cx}
/-- set(xs), xs a list of ints -/
def rSetL (K : PySem.W.Frag) (w : World) : List V → Hp → VK → Prop := fun vs H Q => ∃ (l : Addr) (ns : List Int), vs = [.ref l] ∧ SqL K H l (ns.map V.int) ∧ ns.length ≤ 1000 ∧ ∀ (a : Addr) (c : Nat), c ≤ ns.length → H a = none → Q (.ref a) (upd H a (SetO w a (fun j => decide (j ∈ ns)) c))
theorem cr_setL (hc : X.calm = true) : CallR X (.type "set") (rSetL X.K X.w) := by
  intro pins s σ H vs us Q I r h
  obtain ⟨l, ns, rfl, hl, hz, q⟩ := h
  rw [Vals.ref1 r]
  obtain ⟨its, rv, ⟨o, n, ho, hcl, hdc, hdt⟩, _⟩ := I.list hl
  obtain ⟨ocls, odict, odata, oslots⟩ := o
  simp only at hcl hdc hdt
  subst hcl hdc hdt
  refine set_of_list ns (I.ok.hd hc) ho (ints_of_vals rv) (by unfold scanBound; omega) fun s2 hd => ?_
  obtain ⟨h', tk, c, rfl, hS, hcn, hk⟩ := hd
  exact ⟨.ref _, _, I.laid (t' := tk) hk (Nat.le_refl _) (setO_new hS), rfl, q _ c hcn (I.hok.fresh (Nat.le_refl _))⟩
end
end KR

/-! ## K76RulesC -/
/-! Rules of our own: d.keys() as a value, its length, sorted of it (keys pairs of ints). -/
namespace KR
open PySem PySem.Spec PyProof.Rows L2
theorem slot_kv_len : Slot "dict_keys" "__len__" "dict_keys.__len__" :=
  .of (owner := "dict_keys") (n := "__len__") PySem.W.kdl_len_keys (by decide +kernel) (by decide +kernel) (by decide +kernel) (.inl (by decide +kernel)) (by rw [isSubtype_type]; kernel_rfl)
theorem entry_kv_len : entryFor table "dict_keys.__len__" = some Builtin.«dict_items.__len__» := 
  entryFor_alias (id' := "dict_items.__len__") (by kernel_rfl) rfl (by decide +kernel) (by kernel_rfl)
theorem args_kv_len (a : Value) : argsOk "dict_keys.__len__" ⟨[a], []⟩ := by unfold argsOk; kernel_rfl
/-- the view at v of the dict at d -/
def keysO (v d : Addr) : HO := .ext fun h => PySem.W.KdlKeysView h v d
theorem keysO_ok {P : Program} {w : World} {H : Hp} {h : Heap} {v d : Addr} (x : PySem.W.KdlKeysView h v d) : ObjOk P w H h v (keysO v d) := by
  have ⟨o, ho, _⟩ := x
  refine ⟨x, ⟨o, ho⟩, fun h1 h2 p k => ?_⟩
  have ⟨o', ho', r⟩ := (show PySem.W.KdlKeysView h1 v d from p)
  exact ⟨o', k o' ho', r⟩
section
variable {X : Cx}
/-- a dict as it lies -/
def IsDict (H : Hp) (d : Addr) : Prop := (∃ kvs, H d = some (.dK kvs)) ∨ ∃ kvs, H d = some (.dT kvs)
theorem isDict_raw {pins : List (Addr × Obj)} {σ : L2.St} {H : Hp} {s : Shared} {d : Addr} (I : Inv X pins σ H s) (h : IsDict H d) : (d == sysModules) = false ∧ ∃ es ep, s.heap.DictRaw d es ep := by
  rcases h with ⟨kvs, h⟩ | ⟨kvs, h⟩
  · obtain ⟨_, hd, vs, _, o, es, ep, ho, hx, hdat, _⟩ := dk_of I.hok h
    exact ⟨hd, es, ep, o, ho, hx, hdat⟩
  · obtain ⟨_, hd, xs, _, o, es, ep, ho, hx, hdat, _⟩ := dt_of I.hok h
    exact ⟨hd, es, ep, o, ho, hx, hdat⟩
def rKeysV : V → List V → Hp → VK → Prop := fun x xs H Q => ∃ d, x = .ref d ∧ xs = [] ∧ IsDict H d ∧ ∀ v, H v = none → Q (.ref v) (upd H v (keysO v d))
theorem mt_keysV : MtR X "dict.keys" rKeysV := by
  intro pins s σ H x xs v us Q I rx rxs h
  obtain ⟨d, rfl, rfl, hd, q⟩ := h
  cases rx
  cases rxs
  obtain ⟨hs, es, ep, raw⟩ := isDict_raw I hd
  refine call_meetsIn PySem.F.slot_dict_keys raw.typeIs PySem.F.entry_dict_keys (PySem.F.args_dict_keys_1 _) (meets_dict_keys_raw d hs) ⟨⟨es, ep, raw⟩, ?_⟩
  have g : (s.heap.push { cls := .type "dict_keys", data := .fields #[.ref d] }).get? s.heap.objs.size = some { cls := .type "dict_keys", data := .fields #[.ref d] } := Heap.get?_push_size _ rfl
  exact ⟨.ref _, _, I.laid (t' := s.toks) (fun b u e => Heap.get?_push_of_some _ e) (Nat.le_refl _) (keysO_ok ⟨_, g, rfl, rfl⟩), rfl, q _ (I.hok.fresh (Nat.le_refl _))⟩
/-- len of the view, int keys -/
def rLenV : List V → Hp → VK → Prop := fun vs H Q => ∃ (v d : Addr) (kvs : List (Key × V)), vs = [.ref v] ∧ H v = some (keysO v d) ∧ H d = some (.dK kvs) ∧ Q (.int (kvs.length : Nat)) H
theorem cr_lenV : CallR X (.builtin "len") rLenV := by
  intro pins s σ H vs us Q I r h
  obtain ⟨v, d, kvs, rfl, hv, hd, q⟩ := h
  rw [Vals.ref1 r]
  have view : PySem.W.KdlKeysView s.heap v d := (I.hok v _ hv).1
  obtain ⟨z, _, ws, rel, o, es, ep, ho, hx, hdat, hko, hpr, _⟩ := dk_of I.hok hd
  have len : es.size = kvs.length := by
    have l1 := hpr.length
    have l2 := Paired.length rel
    simp only [Array.length_toList] at l1
    omega
  obtain ⟨ov, hov, hcv, hdv⟩ := id view
  refine call_len_slot (n := (kvs.length : Nat)) view.typeIs slot_kv_len (fun Q' hq => ?_) (by omega) (by rw [sizeLine_eq] at z; omega) ⟨.int (kvs.length : Nat), H, I.tok _, ⟨_, rfl⟩, q⟩
  refine wpAny_call_entry slot_kv_len view.typeIs entry_kv_len ?_ (args_kv_len _)
  unfold Builtin.«dict_items.__len__»
  refine wpAny_bind (wpAny_pure ?_)
  refine wpAny_bind ?_
  unfold Builtin.Dict_items.dictOf
  refine wpAny_bind (wpAny_field hov hdv (x := .ref d) rfl (wpAny_pure ?_))
  refine wpAny_bind (wpAny_dictEntries ho hdat ?_)
  refine wpAny_bind (wpAny_mkInt (wpAny_pure ⟨_, rfl, ?_⟩))
  rw [len]
  exact hq
/-- sorted of the view: pairs of ints in [0, 64) -/
def rSortV (K : PySem.W.Frag) : List V → Hp → VK → Prop := fun vs H Q => ∃ (v d : Addr) (ps : List ((Int × Int) × V)), vs = [.ref v] ∧ H v = some (keysO v d) ∧ H d = some (.dT (ps.map fun p => ([Sum.inl p.1.1, Sum.inl p.1.2], p.2))) ∧ ps.length < 64 ∧
  (∀ p ∈ ps, (0 ≤ p.1.1 ∧ p.1.1 < 64) ∧ (0 ≤ p.1.2 ∧ p.1.2 < 64)) ∧
  ∀ (l : Addr) (qs : List (Addr × Int × Int)), H l = none → (qs.map (·.2)).Perm (ps.map (·.1)) → qs.Pairwise (fun a b => a.2.1 < b.2.1 ∨ (a.2.1 = b.2.1 ∧ a.2.2 < b.2.2)) → (∀ q ∈ qs, H q.1 = some (.tup [.int q.2.1, .int q.2.2])) → Q (.ref l) (upd H l (.lst (qs.map fun q => V.ref q.1)))
theorem collect_src {prog : Program} {w : World} {A : Around} {E : Value → Shared → Prop} {s : Shared} {T : String} {r d : Addr} {n : Nat} {Pv : Nat → Value → Prop} {OK : Heap → Prop} {R : List Value → Shared → Prop}
    (K : PySem.W.KdlSrc prog w T r d n Pv OK) (hh : A.handled = none) (hok : OK s.heap) (hn : n ≤ sizeLine)
    (h : ∀ (h' : Heap) (tk : Nat) (acc : Array Value), (∀ b o, s.heap.get? b = some o → h'.get? b = some o) → s.heap.objs.size ≤ h'.objs.size → ItemsOf Pv acc n → R acc.toList { s with heap := h', toks := tk }) :
    wpAny (model prog w) A (collect (.ref r)) R E s := by
  have old := K.there _ hok
  generalize hp1 : s.heap.push { cls := .type "list", data := .seq ([] : List Value).toArray } = p1
  have g1 : p1.get? s.heap.objs.size = some { cls := .type "list", data := .seq #[] } := by rw [← hp1]; exact Heap.get?_push_size _ rfl
  have k1 : ∀ b o, s.heap.get? b = some o → p1.get? b = some o := fun b o e => by rw [← hp1]; exact Heap.get?_push_of_some _ e
  -- what the filling ends in
  have fill := PySem.W.kdl_extend (A := A) (s := { s with heap := p1 })
    (R := fun (q : Result) (s' : Shared) => q = .ok (.ret (.ref s.heap.objs.size)) ∧ ∃ (tk : Nat) (acc : Array Value) (c : Nat) (h' : Heap), s' = { s with heap := h', toks := tk } ∧ (∀ b o, s.heap.get? b = some o → h'.get? b = some o) ∧
      h'.get? s.heap.objs.size = some { cls := .type "list", dict := none, data := .seq acc c, slots := #[] } ∧ ItemsOf Pv acc n)
    K hh (K.keep _ _ hok fun b _ o e => k1 b o e) s.heap.objs.size (Nat.ne_of_gt old.1) (Nat.ne_of_gt old.2) (.ref s.heap.objs.size) 0 g1
    (fun h' tk acc c hk hS it => ⟨rfl, tk, acc, c, h', rfl, fun b o e => hk b o (Nat.ne_of_lt (Heap.lt_size e)) (k1 b o e), hS, it⟩) hn
  have finish : ∀ (q : Result) (s' : Shared), (q = .ok (.ret (.ref s.heap.objs.size)) ∧ ∃ (tk : Nat) (acc : Array Value) (c : Nat) (h' : Heap), s' = { s with heap := h', toks := tk } ∧ (∀ b o, s.heap.get? b = some o → h'.get? b = some o) ∧
      h'.get? s.heap.objs.size = some { cls := .type "list", dict := none, data := .seq acc c, slots := #[] } ∧ ItemsOf Pv acc n) →
      ∃ acc : Array Value, q = .ok (.ret (.ref s.heap.objs.size)) ∧ (∃ c, s'.heap.get? s.heap.objs.size = some { cls := .type "list", dict := none, data := .seq acc c, slots := #[] }) ∧ R acc.toList s' := fun q s' hq => by
    obtain ⟨e, tk, acc, c, h', rfl, hk, hS, it⟩ := hq
    exact ⟨acc, e, ⟨c, hS⟩, h h' tk acc hk (Nat.le_of_lt (Heap.lt_size hS)) it⟩
  unfold collect
  refine wpAny_bind (wpAny_runValue (codeAny_builtin PyProof.Rows.entry_proto_collect' ?_))
  rw [Around.under_plainId PySem.F.plain_proto_collect _]
  show wpAny _ A.in1 (newList [] >>= fun l => again (.builtin "list.__iadd__" ⟨[l, .ref r], []⟩)) _ _ s
  refine wpAny_bind (wpAny_newObj_type ?_)
  rw [hp1]
  refine wpAny_pure ⟨plainId_quiet PySem.F.plain_list_iadd _, codeAny_builtin PyProof.Rows.entry_list_iadd' ?_⟩
  rw [Around.under_plainId PySem.F.plain_list_iadd _]
  show wpAny _ A.in1 (Builtin.List.listExtendWith (.ref s.heap.objs.size) (.ref r) (.ref s.heap.objs.size)) _ _ _
  refine wpAny_mono fill (fun fin s' x => ?_) fun e s' x => ?_
  · cases fin with
    | done f =>
      obtain ⟨acc, e, ⟨c, hS⟩, hr⟩ := finish _ _ x
      cases e
      show wpAny _ A (load s.heap.objs.size >>= _) _ _ _
      exact wpAny_bind (wpAny_load hS (wpAny_pure hr))
    | again c1 =>
      refine ⟨x.1, codeAny_mono x.2 fun q s2 y => ?_⟩
      obtain ⟨acc, e, ⟨c, hS⟩, hr⟩ := finish _ _ y
      subst e
      show wpAny _ A (load s.heap.objs.size >>= _) _ _ _
      exact wpAny_bind (wpAny_load hS (wpAny_pure hr))
  · obtain ⟨e', _⟩ := x
    cases e'
theorem perm_map_inv {α β : Type} (f : α → β) : ∀ {l m : List β}, l.Perm m → ∀ xs : List α, m = List.map f xs → ∃ ys : List α, List.Perm ys xs ∧ l = List.map f ys := by
  intro l m h
  induction h with
  | nil =>
    intro xs e
    cases xs with
    | nil => exact ⟨[], .nil, rfl⟩
    | cons x xs => simp at e
  | cons a h ih =>
    intro xs e
    cases xs with
    | nil => simp at e
    | cons x xs =>
      rw [List.map_cons] at e
      injection e with e1 e2
      obtain ⟨ys, p, e3⟩ := ih xs e2
      exact ⟨x :: ys, p.cons x, by rw [List.map_cons, e1, e3]⟩
  | swap a b l =>
    intro xs e
    match xs, e with
    | x :: y :: xs, e =>
      rw [List.map_cons, List.map_cons] at e
      injection e with e1 e2
      injection e2 with e2 e3
      exact ⟨y :: x :: xs, .swap .., by rw [List.map_cons, List.map_cons, e1, e2, e3]⟩
    | [], e => simp at e
    | [_], e => simp at e
  | trans _ _ ih1 ih2 =>
    intro xs e
    obtain ⟨ys, p, e2⟩ := ih2 xs e
    obtain ⟨zs, p2, e3⟩ := ih1 ys e2
    exact ⟨zs, p2.trans p, e3⟩
theorem vals_refs3 : ∀ qs : List (Addr × Int × Int), Vals (qs.map fun w => V.ref w.1) (qs.map fun w => Value.ref w.1)
  | [] => .nil
  | q :: qs => .cons rfl (vals_refs3 qs)
abbrev key2 (p : Int × Int) : List Key := [Sum.inl p.1, Sum.inl p.2]
theorem key2_inj {p q : Int × Int} (h : key2 p = key2 q) : p = q := by
  injection h with h1 h2
  injection h2 with h2 _
  exact Prod.ext (Sum.inl.inj h1) (Sum.inl.inj h2)
theorem zs_of {H : Hp} : ∀ {ps : List ((Int × Int) × V)} {xs : List (List Key × Addr × Value)}, KT H (ps.map fun p => (key2 p.1, p.2)) xs →
    ∃ zs : List (Addr × Int × Int), zs.map (·.1) = xs.map (·.2.1) ∧ zs.map (·.2) = ps.map (·.1) ∧ (ps.map (·.1)).map key2 = xs.map (·.1) ∧ ∀ z ∈ zs, H z.1 = some (.tup [.int z.2.1, .int z.2.2])
  | [], xs, r => by
    cases r
    exact ⟨[], rfl, rfl, rfl, fun _ h => nomatch h⟩
  | p :: ps, xs, r => by
    rw [List.map_cons] at r
    cases r with
    | @cons _ q _ qs h t =>
      obtain ⟨zs, e1, e2, e3, e4⟩ := zs_of t
      refine ⟨(q.2.1, p.1) :: zs, by rw [List.map_cons, List.map_cons, e1], by rw [List.map_cons, List.map_cons, e2], by rw [List.map_cons, List.map_cons, List.map_cons, e3, ← h.1], fun z hz => ?_⟩
      rcases List.mem_cons.mp hz with rfl | hz
      · exact h.2.1
      · exact e4 z hz
theorem cr_sortV (hc : X.calm = true) : CallR X (.builtin "sorted") (rSortV X.K) := by
  intro pins s σ H vs us Q I r h
  obtain ⟨v, d, ps, rfl, hv, hd, h64, hb, q⟩ := h
  rw [Vals.ref1 r]
  have view : PySem.W.KdlKeysView s.heap v d := (I.hok v _ hv).1
  obtain ⟨z, hsys, xs, rel, o, es, ep, ho, hx, hdat, hes, his, hnd⟩ := dt_of I.hok hd
  obtain ⟨zs, e1, e2, e3, e4⟩ := zs_of rel
  have raw : s.heap.DictRaw d es ep := ⟨o, ho, hx, hdat⟩
  have lz : zs.length = ps.length := by have := congrArg List.length e2; simpa using this
  have lx : zs.length = xs.length := by have := congrArg List.length e1; simpa using this
  have le : es.size = xs.length := by
    have := congrArg List.length hes
    simpa using this
  refine Calls.call_function_entry kind_sorted plain_sorted entry_sorted (args_sorted1 _) ?_
  unfold Builtin.«sorted»
  refine wpAny_bind (m := checkCount "sorted" 1 1 _) (wpAny_pure ?_)
  refine wpAny_bind (collect_src (A := X.A.in1) (KdlSrc.rawKeys (es := es) (ep := ep)) (I.ok.hd hc) ⟨view, raw⟩ (by rw [sizeLine_eq]; omega) fun h' tk acc hk hge hacc => ?_)
  have eacc : acc.toList = zs.map fun w => Value.ref w.1 := by
    apply List.ext_getElem?
    intro j
    rw [List.getElem?_map]
    cases hj : acc.toList[j]? with
    | none =>
      have h1 := List.getElem?_eq_none_iff.mp hj
      have h2 : acc.toList.length = es.size := by rw [Array.length_toList]; exact hacc.1
      rw [List.getElem?_eq_none (by omega)]
      rfl
    | some u =>
      obtain ⟨hi, eu⟩ := hacc.2 j u (by rw [← Array.getElem?_toList]; exact hj)
      have q1 := entry_at hes j
      rw [Array.getElem?_eq_getElem hi] at q1
      cases hx1 : xs[j]? with
      | none => rw [hx1] at q1; cases q1
      | some x1 =>
        rw [hx1] at q1
        have q2 : es[j] = entryOfKey (tupleKind (mixKind X.prog X.w)) x1 := Option.some.inj q1
        have q3 : (zs.map (·.1))[j]? = some x1.2.1 := by rw [e1, List.getElem?_map, hx1]; rfl
        rw [List.getElem?_map] at q3
        cases hz1 : zs[j]? with
        | none => rw [hz1] at q3; cases q3
        | some z1 =>
          rw [hz1] at q3
          have q4 : z1.1 = x1.2.1 := Option.some.inj q3
          rw [eu, q2]
          show some (Value.ref x1.2.1) = some (Value.ref z1.1)
          rw [q4]
  rw [eacc]
  refine wpAny_bind (wpAny_newList ?_ (by rw [sizeLine_eq, List.length_map]; omega))
  have hoL : (h'.push (seqObj "list" (zs.map fun w => Value.ref w.1).toArray 0)).get? h'.objs.size = some (seqObj "list" (zs.map fun w => Value.ref w.1).toArray 0) := Heap.get?_push_size _ rfl
  have kL : ∀ b u, s.heap.get? b = some u → (h'.push (seqObj "list" (zs.map fun w => Value.ref w.1).toArray 0)).get? b = some u := fun b u e => Heap.get?_push_of_some _ (hk b u e)
  have hbz : ∀ w ∈ zs, (0 ≤ w.2.1 ∧ w.2.1 < 64) ∧ (0 ≤ w.2.2 ∧ w.2.2 < 64) := fun w hw => by
    have m : w.2 ∈ ps.map (·.1) := by rw [← e2]; exact List.mem_map.mpr ⟨w, hw, rfl⟩
    obtain ⟨p, hp, ep⟩ := List.mem_map.mp m
    rw [← ep]
    exact hb p hp
  have tk2 : ∀ w ∈ zs, TS.TupInts (h'.push (seqObj "list" (zs.map fun w => Value.ref w.1).toArray 0)) (.ref w.1) [w.2.1, w.2.2] := fun w hw => by
    obtain ⟨_, its, rv, o1, ho1, hc1, n1, hd1⟩ := (show ObjOk X.prog X.w H s.heap w.1 (.tup [.int w.2.1, .int w.2.2]) from I.hok _ _ (e4 w hw))
    obtain ⟨u1, u2, rfl, ⟨t1, rfl⟩, t2, rfl⟩ := vals2 rv
    exact ⟨w.1, _, rfl, ⟨o1, kL _ _ ho1, hc1, n1, hd1⟩, .cons _ _ (.cons _ _ .nil)⟩
  have ok : TS.TupsOk (h'.push (seqObj "list" (zs.map fun w => Value.ref w.1).toArray 0)) 2 64 (zs.map fun w => Value.ref w.1) := fun u hu => by
    obtain ⟨w, hw, rfl⟩ := List.mem_map.mp hu
    obtain ⟨b1, b2⟩ := hbz w hw
    refine ⟨_, tk2 w hw, rfl, ?_⟩
    intro x hx
    rcases List.mem_cons.mp hx with rfl | hx
    · exact b1
    · rw [List.mem_singleton.mp hx]
      exact b2
  refine wpAny_bind (wpAny_holding (TS.call_sort_tups (s := { s with heap := h'.push (seqObj "list" (zs.map fun w => Value.ref w.1).toArray 0), toks := tk }) hoL (by rw [List.length_map]; omega) (by decide) ok fun out a1 a2 => ?_))
  obtain ⟨c, hcat⟩ := sortedHeap_at (vs := zs.map fun w => Value.ref w.1) (out := out) hoL
  obtain ⟨qs, pq, eq⟩ := perm_map_inv (fun w : Addr × Int × Int => Value.ref w.1) a1 zs rfl
  have mem : ∀ w, w ∈ qs → w ∈ zs := fun w hw => pq.mem_iff.mp hw
  have ndz : (qs.map (·.2)).Nodup := by
    have n1 : ((ps.map (·.1)).map key2).Nodup := by rw [e3]; exact hnd
    have n2 : (ps.map (·.1)).Nodup := nodup_of_map n1
    rw [← e2] at n2
    exact (pq.map (·.2)).nodup_iff.mpr n2
  have pw : qs.Pairwise (fun a b => a.2.1 < b.2.1 ∨ (a.2.1 = b.2.1 ∧ a.2.2 < b.2.2)) := by
    rw [eq] at a2
    have a3 := List.pairwise_map.mp a2
    have n3 : qs.Pairwise (fun a b => a.2 ≠ b.2) := List.pairwise_map.mp ndz
    refine List.Pairwise.imp_of_mem (fun {a b} ha hb h => ?_) (List.Pairwise.and a3 n3)
    obtain ⟨h1, h2⟩ := h
    rw [(tk2 a (mem a ha)).ints, (tk2 b (mem b hb)).ints] at h1
    obtain ⟨x1, x2⟩ := hbz a (mem a ha)
    obtain ⟨y1, y2⟩ := hbz b (mem b hb)
    exact pair_lt h1 (fun e => h2 (by
      injection e with e1 e2
      injection e2 with e2 _
      exact Prod.ext e1 e2)) x1 x2 y1 y2
  refine wpAny_pure ⟨_, rfl, ?_⟩
  have kF : ∀ b u, s.heap.get? b = some u → (sortedHeap (h'.push (seqObj "list" (zs.map fun w => Value.ref w.1).toArray 0)) h'.objs.size (zs.map fun w => Value.ref w.1) out).get? b = some u := fun b u e => by
    have hlt := Heap.lt_size (hk b u e)
    rw [sortedHeap_old (Nat.ne_of_lt hlt) (by rw [size_push']; exact Nat.lt_succ_of_lt hlt)]
    exact kL b u e
  have hlen : (qs.map fun w => V.ref w.1).length ≤ sizeLine := by rw [List.length_map, sizeLine_eq, pq.length_eq]; omega
  have rv : Vals (qs.map fun w => V.ref w.1) out.toList := by
    rw [eq]
    exact vals_refs3 qs
  exact ⟨.ref h'.objs.size, upd H h'.objs.size (.lst (qs.map fun w => V.ref w.1)), I.laid (t' := tk) kF hge ⟨hlen, out.toList, c, rv, hcat⟩, rfl, q _ qs (I.hok.fresh hge) (by rw [← e2]; exact pq.map (·.2)) pw fun w hw => e4 w (mem w hw)⟩
end
end KR

/-! ## K76RulesD -/
/-! Rules of our own: a tuple of whole numbers that is known to have no dict, its index. -/
namespace KR
open PySem PySem.Spec PyProof.Rows L2
def tupO (a : Addr) (ys : List Int) : HO := .ext fun h => ∃ (its : List Value) (n : Nat), Vals (ys.map V.int) its ∧ h.get? a = some { cls := .type "tuple", data := .seq its.toArray n }
theorem tupO_ok {P : Program} {w : World} {H : Hp} {h : Heap} {a : Addr} {ys : List Int} {its : List Value} {n : Nat} (r : Vals (ys.map V.int) its) (g : h.get? a = some { cls := .type "tuple", data := .seq its.toArray n }) : ObjOk P w H h a (tupO a ys) :=
  ⟨⟨its, n, r, g⟩, ⟨_, g⟩, fun h1 h2 p k => by
    obtain ⟨its, n, r, g⟩ := (show ∃ (its : List Value) (n : Nat), Vals (ys.map V.int) its ∧ h1.get? a = some { cls := .type "tuple", data := .seq its.toArray n } from p)
    exact ⟨its, n, r, k _ g⟩⟩
section
variable {X : Cx}
def rTupX (K : PySem.W.Frag) : List V → Hp → VK → Prop := fun xs H Q => ∃ (p : Addr) (ys : List Int), xs = [.ref p] ∧ SqL K H p (ys.map V.int) ∧ ∀ l, H l = none → Q (.ref l) (upd H l (tupO l ys))
theorem cr_tupX : CallR X (.type "tuple") (rTupX X.K) := by
  intro pins s σ H xs us Q I r h
  obtain ⟨p, ys, rfl, hq, q⟩ := h
  obtain ⟨u, rfl, rx⟩ := vals1 r
  cases rx
  obtain ⟨its, r', pl, hz⟩ := I.list hq
  have hlen := r'.length
  refine call_tuple_list pl.isList (fun h' kp => ?_) (by simp only [List.size_toArray] <;> omega)
  have I1 : Inv X pins σ H { s with heap := h' } := I.kept (t' := s.toks) kp
  have I2 : Inv X pins σ (upd H h'.objs.size (tupO h'.objs.size ys)) { s with heap := h'.push { cls := .type "tuple", data := .seq its.toArray } } :=
    I1.laid (t' := s.toks) (fun b o e => Heap.get?_push_of_some _ e) (Nat.le_refl _) (tupO_ok r' (Heap.get?_push_size _ rfl))
  exact ⟨.ref h'.objs.size, _, I2, rfl, q _ (I1.hok.fresh (Nat.le_refl _))⟩
def rIdxE : V → List V → Hp → VK → Prop := fun x xs H Q => ∃ (p : Addr) (ys : List Int) (z : Int) (j : Nat), x = .ref p ∧ xs = [.int z] ∧ H p = some (tupO p ys) ∧ ys[j]? = some z ∧ (∀ m, m < j → ys[m]? ≠ some z) ∧ Q (.int (j : Nat)) H
theorem mt_idxE : MtR X "tuple.index" rIdxE := by
  intro pins s σ H x xs v us Q I rx rs h
  obtain ⟨p, ys, z, j, rfl, rfl, hq, hy, hno, q⟩ := h
  cases rx
  obtain ⟨u, rfl, t, rfl⟩ := vals1 rs
  obtain ⟨its, n, r, ho⟩ : ∃ (its : List Value) (n : Nat), Vals (ys.map V.int) its ∧ s.heap.get? p = some { cls := .type "tuple", data := .seq its.toArray n } := (I.hok p _ hq).1
  have sz : its.toArray.size = ys.length := by rw [List.size_toArray, ← r.length, List.length_map]
  have item : ∀ (m : Nat) (hm : m < its.toArray.size), ∃ (y : Int) (t' : Tok), ys[m]? = some y ∧ its.toArray[m] = Value.int y t' := fun m hm => by
    have hm' : m < ys.length := by omega
    obtain ⟨w, hw, t', hw'⟩ := r.get (i := m) (x := .int ys[m]) (by simp [hm'])
    refine ⟨ys[m], t', List.getElem?_eq_getElem hm', ?_⟩
    rw [← hw', ← (List.getElem?_eq_some_iff.mp hw).2]
    simp
  have hj : j < its.toArray.size := by rw [sz]; exact (List.getElem?_eq_some_iff.mp hy).1
  refine call_meets PySem.F.slot_tuple_index ⟨_, ho, rfl⟩ PySem.F.entry_tuple_index (PySem.F.args_tuple_index_2 _ _) (TI.tuple_indexAt p its.toArray n none #[] (.int z t) (eqU (.int z)) j hj ?_ ?_)
    ⟨ho, fun w hw => mem_eqAt (x := .int z) ⟨t, rfl⟩ rfl r (intsAll_flat ys) w (by simpa using hw), ⟨.int (j : Nat), H, I.tok _, ⟨_, rfl⟩, q⟩⟩
  · obtain ⟨y, t', h1, h2⟩ := item j hj
    rw [hy] at h1
    cases h1
    rw [h2]
    show (z == z) = true
    exact beq_self_eq_true z
  · intro m hm hmj
    obtain ⟨y, t', h1, h2⟩ := item m hm
    rw [h2]
    show (y == z) = false
    exact beq_eq_false_iff_ne.mpr fun e => hno m hmj (e ▸ h1)
def tBME (r : V → List V → Hp → VK → Prop) (to : TE) (t : TA) : TE := fun σ H Q => to σ H fun x H1 => (∃ p ys, x = .ref p ∧ H1 p = some (tupO p ys)) ∧ t σ H1 fun xs H2 => r x xs H2 Q
variable {o e : Expr} {es : List Expr} {to : TE} {t : TA} {name : Str} {apos cpos : Pos} {id : String} {r : V → List V → Hp → VK → Prop}
theorem pe_bmE (slot : Slot "tuple" name id) (hty : typeOf (.builtin id) = pure (.type "method_descriptor")) (hm : MtR X id r) (ho : PE X o to) (ha : PA X (e :: es) t)
    (hbase : attributeBase o name X.env (eval o X.env) = eval o X.env := by rfl)
    (hfew : ((backTo cpos (starEach (e :: es) X.env)).all (fun x => !x.1) && (backToKw cpos (keywordEach [] X.env)).all (fun x => x.1.isSome)
      && decide ((e :: es).length + ([] : List Keyword).length + (if ([] : List Keyword).isEmpty then 0 else 1) < 30)) = true := by rfl)
    (hline : (apos.endLine == cpos.line) = true := by rfl) (hs : starEach (e :: es) X.env = (false, eval e X.env) :: starEach es X.env := by rfl) (hplain : (backTo cpos (starEach es X.env)).any (·.1) = false := by rfl) :
    PE X (.Call (.Attribute o name apos) (e :: es) [] cpos) (tBME r to t) := by
  refine ⟨fun pins s σ H Q I h => ?_⟩
  refine wpAny_Call_method_late hbase hfew hline rfl (thn (ho.run pins s σ H _ I h) fun v s1 ⟨x, H1, I1, r1, ⟨p, ys, ex, hp⟩, q1⟩ => ?_)
  subst ex
  cases r1
  obtain ⟨its, n, _, g⟩ : ∃ (its : List Value) (n : Nat), Vals (ys.map V.int) its ∧ s1.heap.get? p = some { cls := .type "tuple", data := .seq its.toArray n } := (I1.hok p _ hp).1
  refine ⟨"tuple", id, PySem.F.plainAttrs_tuple, slot, hty, ⟨_, g, rfl⟩, (fun a ea => by cases ea; exact ⟨_, g, rfl⟩), ?_⟩
  have hA := ha.run cpos pins s1 σ H1 _ I1 q1
  rw [hs] at hA ⊢
  refine Calls.callWith_builtin (by show (false || (backTo cpos (starEach es X.env)).any (·.1)) = false; rw [hplain] <;> rfl) (Calls.evalArgs_plain ?_)
  exact thn hA fun us s2 ⟨vs, H2, I2, r2, q2⟩ => hm pins s2 σ H2 (.ref p) vs (.ref p) us Q I2 rfl r2 q2
end
end KR

/-! ## K76Base -/
namespace K76
open PySem L2 Evl
/-! ### the text by places -/
def top (i : Nat) : Stmt := PySem.Challenge.pw_cointakes_k76_whole_rows_of_places.main.body.getD i (.Pass ⟨0, 0, 0, 0⟩)
abbrev sIsIn : Stmt := top 5
abbrev sIsEdge : Stmt := top 8
abbrev sNeedWeb : Stmt := top 9
abbrev sLaterIn : Stmt := top 11
abbrev sIsOpen : Stmt := top 12
abbrev sNeedWay : Stmt := top 14
abbrev sNeedWebway : Stmt := top 16
abbrev sBeforeIn : Stmt := top 17
abbrev sNeedOpenway : Stmt := top 18
abbrev sWidestIn : Stmt := top 19
abbrev sWidest : Stmt := top 20
abbrev sGrown : Stmt := top 21
abbrev sLinesOf : Stmt := top 22
abbrev sTaken : Stmt := top 24
abbrev sOrder : Stmt := top 25
abbrev sWeb : Stmt := top 26
abbrev sJoined : Stmt := top 27
abbrev sAlike : Stmt := top 28
abbrev sFewest : Stmt := top 29
abbrev sLaw : Stmt := top 30

/-! ### what the heap holds -/
/-- whole numbers as values -/
def NL (xs : List Nat) : List V := xs.map fun (n : Nat) => V.int ((n : Nat) : Int)
theorem NL_len (xs : List Nat) : (NL xs).length = xs.length := List.length_map _
theorem NL_get {xs : List Nat} {i : Nat} {x : V} (h : (NL xs)[i]? = some x) : ∃ n, xs[i]? = some n ∧ x = V.int (n : Int) := by
  unfold NL at h
  rw [List.getElem?_map] at h
  cases e : xs[i]? with
  | none => rw [e] at h; cases h
  | some n => rw [e] at h; exact ⟨n, rfl, (Option.some.inj h).symm⟩
theorem NL_at {xs : List Nat} {i n : Nat} (h : xs[i]? = some n) : (NL xs)[i]? = some (V.int (n : Int)) := by
  unfold NL
  rw [List.getElem?_map, h]
  rfl
theorem NL_app (xs ys : List Nat) : NL (xs ++ ys) = NL xs ++ NL ys := List.map_append
theorem NL_flat (xs : List Nat) : (NL xs).all flatV = true := by
  unfold NL
  rw [List.all_map]
  exact List.all_eq_true.mpr fun _ _ => rfl
theorem NL_in (n : Nat) (xs : List Nat) : inV (V.int (n : Int)) (NL xs) = xs.contains n := by
  unfold inV NL
  rw [List.any_map]
  induction xs with
  | nil => rfl
  | cons x xs ih =>
    rw [List.any_cons, List.contains_cons, ih]
    congr 1
    by_cases h : x = n
    · subst h; simp [eqV]
    · have h2 : ¬ n = x := fun e => h e.symm
      show ((x : Int) == (n : Int)) = (n == x)
      rw [beq_eq_false_iff_ne.mpr h2, beq_eq_false_iff_ne.mpr (by omega)]
abbrev LAt (H : Hp) (a : Addr) (xs : List Nat) : Prop := H a = some (.lst (NL xs))
/-- a list of lists -/
def LLAt (H : Hp) (a : Addr) (xss : List (List Nat)) : Prop := ∃ as : List Addr, H a = some (.lst (as.map V.ref)) ∧ as.length = xss.length ∧ ∀ (i : Nat) (b : Addr) (xs : List Nat), as[i]? = some b → xss[i]? = some xs → LAt H b xs
theorem LLAt.mono {H H' : Hp} (e : Ex H H') {a : Addr} {xss : List (List Nat)} (h : LLAt H a xss) : LLAt H' a xss := by
  obtain ⟨as, h1, h2, h3⟩ := h
  exact ⟨as, e _ _ h1, h2, fun i b xs hb hx => e _ _ (h3 i b xs hb hx)⟩
/-- a list of tuples -/
def LTAt (H : Hp) (a : Addr) (xss : List (List Nat)) : Prop := ∃ as : List Addr, H a = some (.lst (as.map V.ref)) ∧ as.length = xss.length ∧ ∀ (i : Nat) (b : Addr) (xs : List Nat), as[i]? = some b → xss[i]? = some xs → H b = some (.tup (NL xs))
def EdgesAt (H : Hp) (te : Addr) (es : List (Nat × Nat)) : Prop := ∃ as : List Addr, H te = some (.tup (as.map V.ref)) ∧ as.length = es.length ∧ ∀ (i : Nat) (b : Addr) (e : Nat × Nat), as[i]? = some b → es[i]? = some e → H b = some (.tup [.int (e.1 : Int), .int (e.2 : Int)])
structure WebAt (H : Hp) (t : Addr) (n : Nat) (es : List (Nat × Nat)) : Prop where
  ex : ∃ te, H t = some (.tup [.int (n : Int), .ref te]) ∧ EdgesAt H te es
theorem EdgesAt.mono {H H' : Hp} (e : Ex H H') {a : Addr} {es : List (Nat × Nat)} (h : EdgesAt H a es) : EdgesAt H' a es := by
  obtain ⟨as, h1, h2, h3⟩ := h
  exact ⟨as, e _ _ h1, h2, fun i b x hb hx => e _ _ (h3 i b x hb hx)⟩
theorem WebAt.mono {H H' : Hp} (e : Ex H H') {t : Addr} {n : Nat} {es : List (Nat × Nat)} (h : WebAt H t n es) : WebAt H' t n es := by
  obtain ⟨te, h1, h2⟩ := h.ex
  exact ⟨te, e _ _ h1, h2.mono e⟩
/-- marks: 1 for true -/
def BL (ms : List Bool) : List V := ms.map fun b => V.int (if b = true then 1 else 0)
/-- a web -/
structure Web (n : Nat) (es : List (Nat × Nat)) : Prop where
  one : 1 ≤ n
  six : n ≤ 6
  lt : ∀ e ∈ es, e.1 < e.2 ∧ e.2 < n
  up : es.Pairwise fun e f => e.1 < f.1 ∨ (e.1 = f.1 ∧ e.2 < f.2)
  few : es.length ≤ 36
theorem add_ex {H H' H2 : Hp} (a : Ex H H') (b : Ex H' H2) : Ex H H2 := a.trans b
theorem at_nat {xs : List V} {i : Nat} {v : V} (h : xs[i]? = some v) : atI xs (i : Int) = some v := atI_nat h
/-- names of the built-in part -/
structure Mg (mg : Str → Option Value) : Prop where
  isi : mg "isinstance" = none
  int : mg "int" = none
  bool : mg "bool" = none
  tuple : mg "tuple" = none
  len : mg "len" = none
  enum : mg "enumerate" = none
  range : mg "range" = none
  zip : mg "zip" = none
  list : mg "list" = none
  sorted : mg "sorted" = none
  set : mg "set" = none
  max : mg "max" = none
  min : mg "min" = none
  str : mg "str" = none
section
variable {P : Program} {w : World} {K : PySem.W.Frag} {mg : Str → Option Value} {base : Heap}
/-! ### isinstance of whole numbers and tuples -/
variable {σ : L2.St} {H : Hp} {ta tb te : TE}
theorem kit_ty' {t c : String} {b : Bool} (h : PySem.W.kitOne K (.type t) (.type c) = some b) : PySem.W.kitOne K (.type t) (.type c) = some b := h
theorem ev_isi {x : V} {t : Value} {c : String} {b : Bool} (ha : Ev ta σ H x) (ty : ∀ H', Ex H H' → TyX K H' x t) (hk : PySem.W.kitOne K t (.type c) = some b) : Ev (tCB (rIsi K) (tCons ta (tCons (tC (.ty c)) tNil))) σ H (.bl b) := fun H1 e Q q =>
  ha H1 e _ fun H2 e2 => ⟨x, .ty c, t, .type c, b, rfl, .ty c, ty H2 (e.trans e2), hk, q H2 e2⟩
theorem ty_int (H : Hp) (i : Int) : TyX K H (.int i) (.type "int") := .base (.int i)
theorem ty_tup {H : Hp} {a : Addr} {xs : List V} (h : H a = some (.tup xs)) : TyX K H (.ref a) (.type "tuple") := .base (.tup h)
theorem ev_chain {r r' : R2} {tc : TE} {x y z : V} {c : V} (ha : Ev ta σ H x) (hb : Ev tb σ H y) (hc : Ev tc σ H z) (h1 : RV r x y H (.bl true)) (h2 : RV r' y z H c) : Ev (tChain r r' ta tb tc) σ H c := fun H1 e Q q =>
  ha H1 e _ fun H2 e2 => hb H2 (e.trans e2) _ fun H3 e3 => h1 H3 ((e.trans e2).trans e3) _ fun H4 e4 => ⟨true, rfl, by
    show tc σ H4 _
    exact hc H4 (((e.trans e2).trans e3).trans e4) _ fun H5 e5 => h2 H5 ((((e.trans e2).trans e3).trans e4).trans e5) _ fun H6 e6 => q H6 ((((e2.trans e3).trans e4).trans e5).trans e6)⟩
/-! ### is_in -/
def spIsIn : Sp := fun vs H Q _ => ∃ v l m : Int, vs = [.int v, .int l, .int m] ∧ l ≤ v ∧ v ≤ m ∧ RetV (.bl true) H Q
theorem scIsIn : FnScope ["value", "least", "most"] ["value", "least", "most"] (defScope sIsIn) := ⟨rfl, rfl, rfl, by decide +kernel, rfl, by decide +kernel, by decide +kernel⟩
theorem ok_isin {f : Addr} {fd : FuncData} (T : Mg mg) (F : Fun K "is_in" "is_in" sIsIn f fd) : FnOk P w K mg base CX0 1 f fd ["value", "least", "most"] spIsIn := by
  refine F.ok scIsIn (fun vs H Q E h => ?_) (fun cdv A outer s H vs Q E hr h => ?_)
  · obtain ⟨v, l, m, rfl, _⟩ := h
    rfl
  · obtain ⟨v, l, m, rfl, h1, h2, q⟩ := h
    refine ⟨_, pss_one (ps_ret (pe_and (pe_callB call_isi (by rfl) T.isi (by decide +kernel) (pa_cons (pv 0) (pa_cons (pe_bltn (v := .ty "int") (by rfl) T.int (by decide +kernel) rfl) pa_nil)))
      (pe_and (pe_not (pe_callB call_isi (by rfl) T.isi (by decide +kernel) (pa_cons (pv 0) (pa_cons (pe_bltn (v := .ty "bool") (by rfl) T.bool (by decide +kernel) rfl) pa_nil))))
      (pe_one (pe_chain op_le op_le (pv 1) (pv 0) (pv 2)))))), ?_⟩
    have hv : ∀ H', Ev (tVar 0) (start ["value", "least", "most"] [.int v, .int l, .int m]) H' (.int v) := fun H' => ev_var rfl
    refine s_ret (v := .bl true) (ev_andV (a := true) (b := true) (ev_isi (hv _) (fun H' _ => ty_int H' v) (kit_ty (by decide +kernel))) fun _ =>
      ev_andV (a := true) (b := true) (ev_notV (a := false) (ev_isi (hv _) (fun H' _ => ty_int H' v) (kit_ty (by decide +kernel)))) fun _ =>
      ev_is (ev_chain (ev_var rfl) (hv _) (ev_var rfl) (by rw [← decide_eq_true h1]; exact rv_I0) rv_I0) (by rw [decide_eq_true h2])) fun H1 e => q H1 e

/-! ### a def as its callers see it -/
structure Df (P : Program) (w : World) (K : PySem.W.Frag) (mg : Str → Option Value) (base : Heap) (k : Nat) (x : Str) (ps : List Str) (sp : Sp) : Prop where
  ex : ∃ (g : Addr) (gd : FuncData), FnOk P w K mg base CX0 k g gd ps sp ∧ Binds K gd ps [] ∧ PySem.W.keepIn K (.ref g) = true ∧ mg x = some (.ref g)
theorem call_v {sp : Sp} {vs : List V} {z : V} {E : XK} {tA : TA} (h : EvA tA σ H vs) (hs : SpV sp vs H z) : Ev (tCall sp [] E tA) σ H z := ev_call h (by rw [List.append_nil]; exact hs)
/-! ### lengths, items, comparisons -/
theorem ev_lenT {p : Addr} {xs : List V} (ha : Ev ta σ H (.ref p)) (h : H p = some (.tup xs)) : Ev (tCB (rLenS K) (tCons ta tNil)) σ H (.int (xs.length : Int)) := fun H1 e Q q =>
  ha H1 e _ fun H2 e2 => ⟨p, xs, rfl, .inr (SqT.of (e2 _ _ (e _ _ h))), q H2 e2⟩
theorem ev_lenL {p : Addr} {xs : List V} (ha : Ev ta σ H (.ref p)) (h : H p = some (.lst xs)) : Ev (tCB (rLenS K) (tCons ta tNil)) σ H (.int (xs.length : Int)) := ev_len ha (SqL.of h)
theorem ev_ixT {p : Addr} {xs : List V} {i : Int} {v : V} (ha : Ev ta σ H (.ref p)) (hb : Ev tb σ H (.int i)) (h : H p = some (.tup xs)) (hv : atI xs i = some v) : Ev (tOp (rIxT K) ta tb) σ H v := ev_op ha hb (rv_ixT (SqT.of h) hv)
theorem ev_ixL {p : Addr} {xs : List V} {i : Int} {v : V} (ha : Ev ta σ H (.ref p)) (hb : Ev tb σ H (.int i)) (h : H p = some (.lst xs)) (hv : atI xs i = some v) : Ev (tOp (rIxL K) ta tb) σ H v := ev_op ha hb (rv_ixL (SqL.of h) hv)
def DI (xs : List Nat) : List PyData := xs.map fun (n : Nat) => PyData.int (n : Int)
theorem DI_shaped (xs : List Nat) : SeqAt.shaped (.list (DI xs)) = true := by
  have h1 : PyData.canLayAll0 (DI xs) = true := by
    induction xs with
    | nil => rfl
    | cons x xs ih =>
      show (PyData.canLay0 (.int x) && PyData.canLayAll0 (DI xs)) = true
      rw [ih]
      rfl
  have h2 : PyData.depthAll (DI xs) = 0 := by
    induction xs with
    | nil => rfl
    | cons x xs ih =>
      show max (PyData.depth (.int x)) (PyData.depthAll (DI xs)) = 0
      rw [ih (by
        have e : (PyData.canLay0 (.int x) && PyData.canLayAll0 (DI xs)) = true := h1
        exact (Bool.and_eq_true_iff.mp e).2)]
      rfl
  show (PyData.canLayAll0 (DI xs) && decide (PyData.depthAll (DI xs) + 1 ≤ 64)) = true
  rw [h1, h2]
  rfl
theorem DI_all (K : PySem.W.Frag) (H : Hp) : ∀ xs : List Nat, DpAll K H (NL xs) (DI xs)
  | [] => .nil
  | x :: xs => .cons (.int _) (DI_all K H xs)
theorem DI_nil (xs : List Nat) : PyData.eqv (.list (DI xs)) (.list (DI [])) = xs.isEmpty := by
  cases xs <;> rfl
/-- a list of whole numbers against [] -/
theorem rv_neNil {xs : List Nat} {p q : Addr} {H : Hp} (h1 : LAt H p xs) (h2 : LAt H q []) : RV (rNeD K) (.ref p) (.ref q) H (.bl (!xs.isEmpty)) := fun H1 e Q k =>
  ⟨.list (DI xs), .list (DI []), .lst (SqL.of (e _ _ h1)) (DI_all K H1 xs), .lst (SqL.of (e _ _ h2)) (DI_all K H1 []), DI_shaped xs, DI_shaped [], by rw [DI_nil]; exact k H1 (Ex.refl H1)⟩
theorem rv_eqNil {xs : List Nat} {p q : Addr} {H : Hp} (h1 : LAt H p xs) (h2 : LAt H q []) : RV (rEqD K) (.ref p) (.ref q) H (.bl xs.isEmpty) := fun H1 e Q k =>
  ⟨.list (DI xs), .list (DI []), .lst (SqL.of (e _ _ h1)) (DI_all K H1 xs), .lst (SqL.of (e _ _ h2)) (DI_all K H1 []), DI_shaped xs, DI_shaped [], by rw [DI_nil]; exact k H1 (Ex.refl H1)⟩
theorem el_nil : EvL (tLst tNil) σ H (NL []) := el_lst ea_nil (Nat.zero_le _)
theorem ev_neNil {xs : List Nat} (h : EvL ta σ H (NL xs)) : Ev (tOp (rNeD K) ta (tLst tNil)) σ H (.bl (!xs.isEmpty)) := ev_opLL h el_nil fun _ _ _ h1 h2 _ => rv_neNil h1 h2
theorem ev_eqNil {xs : List Nat} (h : EvL ta σ H (NL xs)) : Ev (tOp (rEqD K) ta (tLst tNil)) σ H (.bl xs.isEmpty) := ev_opLL h el_nil fun _ _ _ h1 h2 _ => rv_eqNil h1 h2
theorem ev_neNilV {xs : List Nat} {p : Addr} (ha : Ev ta σ H (.ref p)) (h : LAt H p xs) : Ev (tOp (rNeD K) ta (tLst tNil)) σ H (.bl (!xs.isEmpty)) := ev_opL ha el_nil fun _ _ hq e => rv_neNil (e _ _ h) hq
theorem ev_eqNilV {xs : List Nat} {p : Addr} (ha : Ev ta σ H (.ref p)) (h : LAt H p xs) : Ev (tOp (rEqD K) ta (tLst tNil)) σ H (.bl xs.isEmpty) := ev_opL ha el_nil fun _ _ hq e => rv_eqNil (e _ _ h) hq
/-! ### comprehensions over a tuple -/
theorem el_lcT {a : Addr} {xs : List V} {tl : TE} {g : TG} {t : TT} {vs : List Nat} (f : Nat → Bool) (v : Nat → V) (h : Ev tl σ H (.ref a)) (hx : H a = some (.tup xs)) (hz : xs.length ≤ 40000)
    (hs : ∀ (i : Nat) (x : V) H1 (Q : L2.St → Hp → Prop), Ex H H1 → xs[i]? = some x → (∀ σ2, wipe σ2 vs = wipe σ vs → EvT t σ2 H1 (f i) → (f i = true → Ev te σ2 H1 (v i)) → Q σ2 H1) → g x (wipe σ vs) H1 Q) :
    EvL (tLc (iTup K tl) g t te vs) σ H (given xs.length f v) := fun H0 e Q q => h H0 e _ fun H1 e1 => ⟨a, rfl, ⟨xs, SqT.of (e1 _ _ (e _ _ hx))⟩, fun Dl hD =>
  lc_tup (xs := xs) (Cw H1 f v Dl) ⟨hD, Ex.new hD, upd_same⟩ (fun i H' _ p => SqT.of (p.2.1 _ _ (e1 _ _ (e _ _ hx)))) (fun i x H' hi p => hs i x H' _ ((e.trans e1).trans p.2.1) hi fun σ2 hw ht he =>
    ⟨hw, by
      obtain ⟨p1, p2, p3⟩ := p
      refine ht H' (Ex.refl H') _ fun H3 e3 => ?_
      cases hf : f i with
      | true =>
        show te σ2 H3 fun y H4 => ∃ acc, H4 Dl = some (.lst acc) ∧ acc.length < sizeLine ∧ Cw H1 f v Dl (i + 1) (upd H4 Dl (.lst (acc ++ [y])))
        refine he hf H3 e3 _ fun H4 e4 => ⟨given i f v, e4 Dl _ (e3 Dl _ p3), sz_lt (by have := given_len i f v; have := (List.getElem?_eq_some_iff.mp hi).1; omega), p1, Ex.mut ((p2.trans e3).trans e4) p1, ?_⟩
        rw [given_yes hf]
        exact upd_same
      | false =>
        show Cw H1 f v Dl (i + 1) H3
        refine ⟨p1, p2.trans e3, ?_⟩
        rw [given_no hf]
        exact e3 Dl _ p3⟩)
    (fun H' p => q Dl H' (fresh_back e1 p.1) (e1.trans p.2.1) p.2.2)⟩
theorem given_none {n : Nat} {f : Nat → Bool} {v : Nat → V} (h : ∀ i, i < n → f i = false) : given n f v = [] := by
  unfold given
  rw [List.filter_eq_nil_iff.mpr fun i hi => by rw [h i (List.mem_range.mp hi)]; decide]
  rfl
end
end K76

/-! ## K76W1 -/
namespace K76
open PySem L2 Evl
section
variable {P : Program} {w : World} {K : PySem.W.Frag} {mg : Str → Option Value} {base : Heap} {f : Addr} {fd : FuncData}
/-! ### is_edge -/
def spIsEdge : Sp := fun vs H Q _ => ∃ (b : Addr) (x y n : Nat), vs = [.ref b, .int (n : Int)] ∧ H b = some (.tup [.int (x : Int), .int (y : Int)]) ∧ x < y ∧ y < n ∧ RetV (.bl true) H Q
theorem scIsEdge : FnScope ["value", "many"] ["value", "many"] (defScope sIsEdge) := ⟨rfl, rfl, rfl, by decide +kernel, rfl, by decide +kernel, by decide +kernel⟩
abbrev psIsIn : List Str := ["value", "least", "most"]
theorem isin_yes {v l m : Int} {H : Hp} (h1 : l ≤ v) (h2 : v ≤ m) : SpV spIsIn [.int v, .int l, .int m] H (.bl true) := fun H1 e Q q E => ⟨v, l, m, rfl, h1, h2, q⟩
theorem ok_isedge (T : Mg mg) (F : Fun K "is_edge" "is_edge" sIsEdge f fd) (D1 : Df P w K mg base 1 "is_in" psIsIn spIsIn) : FnOk P w K mg base CX0 2 f fd ["value", "many"] spIsEdge := by
  obtain ⟨g, gd, G, bG, kG, mG⟩ := D1.ex
  refine F.ok scIsEdge (fun vs H Q E h => ?_) (fun cdv A outer s H vs Q E hr h => ?_)
  · obtain ⟨b, x, y, n, rfl, _⟩ := h
    rfl
  · obtain ⟨b, x, y, n, rfl, hb, hxy, hyn, q⟩ := h
    refine ⟨_, pss_cons (ps_if (PW.pt (pw_or (pt_not (pt_val (pe_callB call_isi (by rfl) T.isi (by decide +kernel) (pa_cons (pv 0) (pa_cons (pe_bltn (v := .ty "tuple") (by rfl) T.tuple (by decide +kernel) rfl) pa_nil)))))
        (pw_or1 (pt_cmpR op_ne (pe_callB call_len_seq (by rfl) T.len PySem.boot_len (pa_cons (pv 0) pa_nil)) pe_int (nomark _))))) (pss_one (ps_ret pe_bl)) pss_nil)
      (pss_one (ps_ret (pe_and (pe_call G hr rfl mG kG bG .nil pass0 (pa_cons (pe_ix ix_tup (pv 0) pe_int (fun _ _ => rfl)) (pa_cons pe_int (pa_cons (pe_op op_sub (pv 1) pe_int) pa_nil))))
        (pe_one (pe_call G hr rfl mG kG bG .nil pass0 (pa_cons (pe_ix ix_tup (pv 0) pe_int (fun _ _ => rfl)) (pa_cons (pe_op op_add (pe_ix ix_tup (pv 0) pe_int (fun _ _ => rfl)) pe_int) (pa_cons (pe_op op_sub (pv 1) pe_int) pa_nil)))))))), ?_⟩
    refine q_when (b := false) (et_or (a := false) (et_not (a := true) (et_B (ev_isi (ev_var rfl) (fun H' e => ty_tup (e _ _ hb)) (kit_ty (by decide +kernel))))) fun _ => et_test (ev_is (ev_op (ev_lenT (ev_var rfl) hb) ev_c (rv_ne rfl)) rfl)) (fun h => by cases h) fun _ H1 e1 => ?_
    have hb1 := e1 _ _ hb
    have i0 : Ev (tOp (rIxT K) (tVar 0) (tC (.int 0))) (start ["value", "many"] [.ref b, .int (n : Int)]) H1 (.int (x : Int)) := ev_ixT (ev_var rfl) ev_c hb1 rfl
    have i1 : Ev (tOp (rIxT K) (tVar 0) (tC (.int 1))) (start ["value", "many"] [.ref b, .int (n : Int)]) H1 (.int (y : Int)) := ev_ixT (ev_var rfl) ev_c hb1 rfl
    refine s_ret (v := .bl true) (ev_andV (a := true) (b := true) (call_v (ea_cons i0 (ea_cons ev_c (ea_cons (ev_op (ev_var rfl) ev_c rv_I0) ea_nil))) (isin_yes (by omega) (by omega))) fun _ =>
      call_v (ea_cons i1 (ea_cons (ev_op i0 ev_c rv_I0) (ea_cons (ev_op (ev_var rfl) ev_c rv_I0) ea_nil))) (isin_yes (by omega) (by omega))) fun H2 e2 => q H2 (e1.trans e2)
end
end K76

/-! ## K76W2 -/
namespace K76
open PySem L2 Evl
section
variable {P : Program} {w : World} {K : PySem.W.Frag} {mg : Str → Option Value} {base : Heap} {f : Addr} {fd : FuncData}
theorem web_edge {n : Nat} {es : List (Nat × Nat)} (h : Web n es) {i : Nat} {e : Nat × Nat} (he : es[i]? = some e) : e.1 < e.2 ∧ e.2 < n := h.lt e (List.mem_of_getElem? he)
/-- a tuple is not ahead of a lesser one -/
theorem le_pair {x y x' y' : Nat} (h : x' < x ∨ (x' = x ∧ y' < y)) :
    Ob.lexAt (fun j => decide (([(x : Int), (y : Int)] : List Int).getD j 0 = ([(x' : Int), (y' : Int)] : List Int).getD j 0)) (fun j => decide (([(x : Int), (y : Int)] : List Int).getD j 0 ≤ ([(x' : Int), (y' : Int)] : List Int).getD j 0)) (decide (2 ≤ 2)) 0 2 = false := by
  rw [Ob.lexAt_succ, Ob.lexAt_succ, Ob.lexAt_zero]
  show (if decide ((x : Int) = (x' : Int)) = true then (if decide ((y : Int) = (y' : Int)) = true then _ else decide ((y : Int) ≤ (y' : Int))) else decide ((x : Int) ≤ (x' : Int))) = false
  rcases h with h | ⟨h1, h2⟩
  · rw [if_neg (by simp; omega)]
    exact decide_eq_false (by omega)
  · rw [if_pos (by simp; omega), if_neg (by simp; omega)]
    exact decide_eq_false (by omega)
/-! ### need_web -/
def spNeedWeb : Sp := fun vs H Q _ => ∃ (t : Addr) (n : Nat) (es : List (Nat × Nat)), vs = [.ref t] ∧ WebAt H t n es ∧ Web n es ∧ RetV .non H Q
theorem scNeedWeb : FnScope ["web", "index", "one"] ["web"] (defScope sNeedWeb) := ⟨rfl, rfl, rfl, by decide +kernel, rfl, by decide +kernel, by decide +kernel⟩
theorem ok_needweb {mt : Tok} (T : Mg mg) (F : Fun K "need_web" "need_web" sNeedWeb f fd) (D1 : Df P w K mg base 1 "is_in" psIsIn spIsIn) (D2 : Df P w K mg base 2 "is_edge" ["value", "many"] spIsEdge) (m9 : mg "MOST_PLACES" = some (.int 9 mt)) : FnOk P w K mg base CX0 3 f fd ["web"] spNeedWeb := by
  obtain ⟨g1, gd1, G1, bG1, kG1, mG1⟩ := D1.ex
  obtain ⟨g2, gd2, G2, bG2, kG2, mG2⟩ := D2.ex
  refine F.ok scNeedWeb (fun vs H Q E h => ?_) (fun cdv A outer s H vs Q E hr h => ?_)
  · obtain ⟨t, n, es, rfl, _⟩ := h
    rfl
  · obtain ⟨t, n, es, rfl, hw, W, q⟩ := h
    have hr1 : Room 1 _ := hr.mono (by decide)
    obtain ⟨te, ht, as, hte, hlen, hedge⟩ := id hw.ex
    refine ⟨_, pss_cons (ps_if (PW.pt (pw_or (pt_not (pt_val (pe_callB call_isi (by rfl) T.isi (by decide +kernel) (pa_cons (pv 0) (pa_cons (pe_bltn (v := .ty "tuple") (by rfl) T.tuple (by decide +kernel) rfl) pa_nil)))))
        (pw_or (pt_cmpR op_ne (pe_callB call_len_seq (by rfl) T.len PySem.boot_len (pa_cons (pv 0) pa_nil)) pe_int (nomark _))
        (pw_or1 (pt_not (pt_val (pe_call G1 hr1 rfl mG1 kG1 bG1 .nil pass0 (pa_cons (pe_ix ix_tup (pv 0) pe_int (fun _ _ => rfl)) (pa_cons pe_int (pa_cons (pe_glob (v := .int 9) rfl m9 ⟨_, rfl⟩) pa_nil))))))))))
        (pss_one ps_never) pss_nil)
      (pss_cons (ps_if (pt_not (pt_val (pe_callB call_isi (by rfl) T.isi (by decide +kernel) (pa_cons (pe_ix ix_tup (pv 0) pe_int (fun _ _ => rfl)) (pa_cons (pe_bltn (v := .ty "tuple") (by rfl) T.tuple (by decide +kernel) rfl) pa_nil)))))
        (pss_one ps_never) pss_nil)
      (pss_one (ps_for PassesOwn.never rfl (KR.pi_enumT (by rfl) T.enum (pa_cons (pe_ix ix_tup (pv 0) pe_int (fun _ _ => rfl)) pa_nil))
        (pg_tup rfl (pgs_cons (pg_name (i := 1) scNeedWeb.nd rfl (.inl rfl)) (pgs_cons (pg_name (i := 2) scNeedWeb.nd rfl (.inl rfl)) pgs_nil)))
        (pss_one (ps_if (PW.pt (pw_or (pt_not (pt_val (pe_call G2 hr rfl mG2 kG2 bG2 .nil pass0 (pa_cons (pv 2) (pa_cons (pe_ix ix_tup (pv 0) pe_int (fun _ _ => rfl)) pa_nil)))))
          (pw_or1 (PW.pt (pw_and (pt_cmpR op_gt (pv 1) pe_int (nomark _)) (pw_and1 (pt_cmpR (op_leT hr.units0) (pv 2) (pe_ix ix_tup (pe_ix ix_tup (pv 0) pe_int (fun _ _ => rfl)) (pe_op op_sub (pv 1) pe_int) (fun _ _ => rfl)) (nomark _))))))))
          (pss_one ps_never) pss_nil))))), ?_⟩
    have w0 : ∀ H', Ex H H' → Ev (tOp (rIxT K) (tVar 0) (tC (.int 0))) (start ["web", "index", "one"] [.ref t]) H' (.int (n : Int)) := fun H' e => ev_ixT (ev_var rfl) ev_c (e _ _ ht) rfl
    have w1 : ∀ H', Ex H H' → Ev (tOp (rIxT K) (tVar 0) (tC (.int 1))) (start ["web", "index", "one"] [.ref t]) H' (.ref te) := fun H' e => ev_ixT (ev_var rfl) ev_c (e _ _ ht) rfl
    refine q_when (b := false) (et_or (a := false) (et_not (a := true) (et_B (ev_isi (ev_var rfl) (fun H' e => ty_tup (e _ _ ht)) (kit_ty (by decide +kernel))))) fun _ =>
      et_or (a := false) (et_test (ev_is (ev_op (ev_lenT (ev_var rfl) ht) ev_c (rv_ne rfl)) rfl)) fun _ =>
      et_not (a := true) (et_B (call_v (ea_cons (w0 H (Ex.refl H)) (ea_cons ev_c (ea_cons ev_c ea_nil))) (isin_yes (by have := W.one; omega) (by have := W.six; omega))))) (fun h => by cases h) fun _ H1 e1 => ?_
    refine q_when (b := false) (et_not (a := true) (et_B (ev_isi (w1 H1 e1) (fun H' e => ty_tup (e _ _ (e1 _ _ hte))) (kit_ty (by decide +kernel))))) (fun h => by cases h) fun _ H2 e2 => ?_
    have e12 := e1.trans e2
    refine w1 H2 e12 H2 (Ex.refl H2) _ fun H3 e3 => ⟨te, as.map V.ref, rfl, SqT.of (e3 _ _ (e12 _ _ hte)), KR.for_enumT (fun i σ H' => ∃ x1 x2, σ = [some (.ref t), x1, x2] ∧ Ex H H') ⟨_, _, rfl, e12.trans e3⟩ (fun i σ H' ⟨_, _, _, e⟩ => SqT.of (e _ _ hte)) ?_ ?_⟩
    · rintro i x T' σ H' hx ⟨x1, x2, rfl, eH⟩ hT
      -- the pair of the place and the edge
      rw [List.getElem?_map] at hx
      obtain ⟨b, hb, rfl⟩ := Option.map_eq_some_iff.mp hx
      have hi : i < es.length := by rw [← hlen]; exact (List.getElem?_eq_some_iff.mp hb).1
      obtain ⟨ed, hed⟩ : ∃ ed, es[i]? = some ed := ⟨es[i], List.getElem?_eq_getElem hi⟩
      have hbe := hedge i b ed hb hed
      obtain ⟨l1, l2⟩ := web_edge W hed
      refine ⟨T', [.int (i : Nat), .ref b], rfl, SqT.of upd_same, rfl, ?_⟩
      refine ⟨_, _, rfl, _, _, rfl, rfl, ?_⟩
      have eH2 : Ex H (upd H' T' (.tup [.int (i : Nat), .ref b])) := eH.trans (Ex.new hT)
      refine s_when (b := false) (et_or (a := false) (et_not (a := true) (et_B (call_v (ea_cons (ev_var rfl) (ea_cons (ev_ixT (ev_var rfl) ev_c (eH2 _ _ ht) rfl) ea_nil)) fun H4 e4 Q4 q4 E4 => ⟨b, ed.1, ed.2, n, rfl, e4 _ _ (eH2 _ _ hbe), l1, l2, q4⟩))) fun _ => ?_) (fun h => by cases h) fun _ H4 e4 => ⟨_, _, rfl, eH2.trans e4⟩
      -- one above the one before it
      cases i with
      | zero => exact et_and (a := false) (b := false) (et_test (ev_is (ev_op (ev_var rfl) ev_c rv_I0) rfl)) fun h => by cases h
      | succ i =>
        have hi' : i < es.length := Nat.lt_of_succ_lt hi
        obtain ⟨pd, hpd⟩ : ∃ pd, es[i]? = some pd := ⟨es[i], List.getElem?_eq_getElem hi'⟩
        have hia : i < as.length := by rw [hlen]; exact hi'
        have hpb := hedge i as[i] pd (List.getElem?_eq_getElem hia) hpd
        have up : pd.1 < ed.1 ∨ (pd.1 = ed.1 ∧ pd.2 < ed.2) := by
          have e1 := (List.getElem?_eq_some_iff.mp hpd).2
          have e2 := (List.getElem?_eq_some_iff.mp hed).2
          rw [← e1, ← e2]
          exact List.pairwise_iff_getElem.mp W.up i (i + 1) hi' hi (Nat.lt_succ_self i)
        have hat : atI (as.map V.ref) (((i + 1 : Nat) : Int) - 1) = some (.ref as[i]) := by
          rw [show (((i + 1 : Nat) : Int) - 1) = (i : Int) by omega]
          refine at_nat ?_
          rw [List.getElem?_map, List.getElem?_eq_getElem hia]
          rfl
        refine et_is (a := true && false) (et_and (et_test (ev_is (ev_op (ev_var rfl) ev_c rv_I0) (by rw [decide_eq_true (by omega)]))) fun _ => et_test (ev_op (ev_var rfl) (ev_ixT (ev_ixT (ev_var rfl) ev_c (eH2 _ _ ht) rfl) (ev_op (ev_var rfl) ev_c rv_I0) (eH2 _ _ hte) hat) ?_)) rfl
        intro H5 e5 Q5 q5
        refine ⟨b, as[i], [(ed.1 : Int), (ed.2 : Int)], [(pd.1 : Int), (pd.2 : Int)], rfl, rfl, SqT.of (e5 _ _ (eH2 _ _ hbe)), SqT.of (e5 _ _ (eH2 _ _ hpb)), ?_⟩
        show Q5 (.bl (Ob.lexAt _ _ (decide (2 ≤ 2)) 0 2)) H5
        rw [le_pair up]
        exact q5 H5 (Ex.refl H5)
    · rintro σ H' ⟨x1, x2, rfl, eH⟩
      exact q H' eH
end
end K76

/-! ## K76W3 -/
namespace K76
open PySem L2 Evl
section
variable {P : Program} {w : World} {K : PySem.W.Frag} {mg : Str → Option Value} {base : Heap} {f : Addr} {fd : FuncData}
/-! ### need_way, need_webway -/
structure Way (H : Hp) (t a : Addr) (n : Nat) (es : List (Nat × Nat)) (ms : List Bool) : Prop where
  web : WebAt H t n es
  ok : Web n es
  way : H a = some (.tup (BL ms))
  len : ms.length = es.length
theorem Way.mono {H H' : Hp} {t a : Addr} {n : Nat} {es : List (Nat × Nat)} {ms : List Bool} (h : Way H t a n es ms) (e : Ex H H') : Way H' t a n es ms := ⟨h.web.mono e, h.ok, e _ _ h.way, h.len⟩
theorem BL_len (ms : List Bool) : (BL ms).length = ms.length := List.length_map _
theorem BL_get {ms : List Bool} {i : Nat} {x : V} (h : (BL ms)[i]? = some x) : ∃ b, ms[i]? = some b ∧ x = V.int (if b = true then 1 else 0) := by
  unfold BL at h
  rw [List.getElem?_map] at h
  obtain ⟨b, hb, e⟩ := Option.map_eq_some_iff.mp h
  exact ⟨b, hb, e.symm⟩
def spWay : Sp := fun vs H Q _ => ∃ (t a : Addr) (n : Nat) (es : List (Nat × Nat)) (ms : List Bool), vs = [.ref t, .ref a] ∧ Way H t a n es ms ∧ RetV .non H Q
theorem way_len {vs : List V} {H : Hp} {Q : VK} {E : XK} (h : spWay vs H Q E) : vs.length = 2 := by
  obtain ⟨t, a, n, es, ms, rfl, _⟩ := h
  rfl
abbrev ps2 : List Str := ["web", "way"]
theorem scNeedWay : FnScope ["web", "way", "one"] ps2 (defScope sNeedWay) := ⟨rfl, rfl, rfl, by decide +kernel, rfl, by decide +kernel, by decide +kernel⟩
theorem ok_needway (T : Mg mg) (F : Fun K "need_way" "need_way" sNeedWay f fd) (D1 : Df P w K mg base 1 "is_in" psIsIn spIsIn) : FnOk P w K mg base CX0 2 f fd ps2 spWay := by
  obtain ⟨g1, gd1, G1, bG1, kG1, mG1⟩ := D1.ex
  refine F.ok scNeedWay (fun vs H Q E h => way_len h) (fun cdv A outer s H vs Q E hr h => ?_)
  obtain ⟨t, a, n, es, ms, rfl, hw, q⟩ := h
  obtain ⟨te, ht, as, hte, hlen, hedge⟩ := id hw.web.ex
  refine ⟨_, pss_one (ps_if (PW.pt (pw_or (pt_not (pt_val (pe_callB call_isi (by rfl) T.isi (by decide +kernel) (pa_cons (pv 1) (pa_cons (pe_bltn (v := .ty "tuple") (by rfl) T.tuple (by decide +kernel) rfl) pa_nil)))))
      (pw_or (pt_cmpR op_ne (pe_callB call_len_seq (by rfl) T.len PySem.boot_len (pa_cons (pv 1) pa_nil)) (pe_callB call_len_seq (by rfl) T.len PySem.boot_len (pa_cons (pe_ix ix_tup (pv 0) pe_int (fun _ _ => rfl)) pa_nil)) (nomark _))
      (pw_or1 (pt_cmpR (op_neD hr.units) (pe_lc (own := [("one", 2)]) (g := gName 2) (by rfl) scNeedWay.nd (pi_tup (pv 1)) (blkOk_by (own := [("one", 2)]) (N := ["web", "way", "one"]) (sc := defScope sNeedWay) (by decide +kernel))
          (fun _ _ _ _ _ => pg_name (i := 2) scNeedWay.nd rfl (Or.inl rfl)) (fun _ _ _ _ _ => pts_one (pt_not (pt_val (pe_call G1 hr rfl mG1 kG1 bG1 .nil pass0 (pa_cons (pv 2) (pa_cons pe_int (pa_cons pe_int pa_nil))))))) (fun _ _ _ _ _ => pv 2)) (pe_lst pa_nil) (nomark _))))))
    (pss_one ps_never) pss_nil), ?_⟩
  have hl : ((BL ms).length : Int) = ((as.map V.ref).length : Int) := by rw [BL_len, List.length_map, hw.len, hlen]
  refine s_when (b := false) (et_or (a := false) (et_not (a := true) (et_B (ev_isi (ev_var rfl) (fun H' e => ty_tup (e _ _ hw.way)) (kit_ty (by decide +kernel))))) fun _ =>
    et_or (a := false) (et_test (ev_is (ev_op (ev_lenT (ev_var rfl) hw.way) (ev_lenT (ev_ixT (ev_var rfl) ev_c ht rfl) hte) (rv_ne rfl)) (by rw [hl]; simp))) fun _ =>
    et_test (ev_is (ev_neNil (xs := []) ?_) rfl)) (fun h => by cases h) fun _ H1 e1 => q H1 e1
  have z : given (BL ms).length (fun _ => false) (fun _ => V.non) = NL [] := given_none fun _ _ => rfl
  rw [← z]
  refine el_lcT (fun _ => false) (fun _ => V.non) (ev_var rfl) hw.way (by rw [BL_len, hw.len]; have := hw.ok.few; omega) fun i x H1 Q1 e1 hx k => ?_
  obtain ⟨b, _, rfl⟩ := BL_get hx
  refine k _ rfl (et_not (a := true) (et_B (call_v (ea_cons (ev_var rfl) (ea_cons ev_c (ea_cons ev_c ea_nil))) (isin_yes ?_ ?_)))) (fun h => by cases h)
  · cases b <;> decide
  · cases b <;> decide
theorem scNeedWebway : FnScope ps2 ps2 (defScope sNeedWebway) := ⟨rfl, rfl, rfl, by decide +kernel, rfl, by decide +kernel, by decide +kernel⟩
theorem ok_needwebway (F : Fun K "need_webway" "need_webway" sNeedWebway f fd) (D1 : Df P w K mg base 3 "need_web" ["web"] spNeedWeb) (D2 : Df P w K mg base 2 "need_way" ps2 spWay) : FnOk P w K mg base CX0 4 f fd ps2 spWay := by
  obtain ⟨g1, gd1, G1, bG1, kG1, mG1⟩ := D1.ex
  obtain ⟨g2, gd2, G2, bG2, kG2, mG2⟩ := D2.ex
  refine F.ok scNeedWebway (fun vs H Q E h => way_len h) (fun cdv A outer s H vs Q E hr h => ?_)
  obtain ⟨t, a, n, es, ms, rfl, hw, q⟩ := h
  have hr2 : Room 2 _ := hr.mono (by decide)
  refine ⟨_, pss_cons (ps_expr (pe_call G1 hr rfl mG1 kG1 bG1 .nil pass0 (pa_cons (pv 0) pa_nil))) (pss_one (ps_expr (pe_call G2 hr2 rfl mG2 kG2 bG2 .nil pass0 (pa_cons (pv 0) (pa_cons (pv 1) pa_nil))))), ?_⟩
  refine q_drop (call_v (z := .non) (ea_cons (ev_var rfl) ea_nil) fun H1 e1 Q1 q1 E1 => ⟨t, n, es, rfl, hw.web.mono e1, hw.ok, q1⟩) fun H2 e2 => ?_
  exact s_drop (call_v (z := .non) (ea_cons (ev_var rfl) (ea_cons (ev_var rfl) ea_nil)) fun H1 e1 Q1 q1 E1 => ⟨t, a, n, es, ms, rfl, (hw.mono e2).mono e1, q1⟩) fun H3 e3 => q H3 (e2.trans e3)
/-! ### later_in -/
/-- an edge as it is directed -/
def arc (e : Nat × Nat) (m : Bool) : Nat × Nat := if m = true then (e.2, e.1) else e
def arcs (es : List (Nat × Nat)) (ms : List Bool) : List (Nat × Nat) := (es.zip ms).map fun p => arc p.1 p.2
def latAt (l : List (Nat × Nat)) (x : Nat) : List Nat := (l.filter fun p => decide (p.1 = x)).map (·.2)
theorem latAt_snoc (l : List (Nat × Nat)) (p : Nat × Nat) (x : Nat) : latAt (l ++ [p]) x = if p.1 = x then latAt l x ++ [p.2] else latAt l x := by
  unfold latAt
  rw [List.filter_append, List.map_append]
  by_cases h : p.1 = x <;> simp [h]
theorem mem_latAt {l : List (Nat × Nat)} {x y : Nat} : y ∈ latAt l x ↔ (x, y) ∈ l := by
  unfold latAt
  rw [List.mem_map]
  constructor
  · rintro ⟨p, hp, rfl⟩
    obtain ⟨h1, h2⟩ := List.mem_filter.mp hp
    have e : p.1 = x := of_decide_eq_true h2
    rw [← e]
    exact h1
  · intro h
    exact ⟨(x, y), List.mem_filter.mpr ⟨h, decide_eq_true rfl⟩, rfl⟩
/-- rows of one's own: the list at p, its rows at as, told by their places -/
structure Rows (H0 H : Hp) (p : Addr) (as : List Addr) (n : Nat) (xss : Nat → List Nat) : Prop where
  lst : H p = some (.lst (as.map V.ref))
  len : as.length = n
  nd : as.Nodup
  np : p ∉ as
  at_ : ∀ (i : Nat) (b : Addr), as[i]? = some b → LAt H b (xss i)
  new : ∀ b ∈ as, H0 b = none
  newp : H0 p = none
  ex : Ex H0 H
theorem Rows.mono {H0 H H' : Hp} {p : Addr} {as : List Addr} {n : Nat} {xss : Nat → List Nat} (r : Rows H0 H p as n xss) (e : Ex H H') : Rows H0 H' p as n xss :=
  ⟨e _ _ r.lst, r.len, r.nd, r.np, fun i b hb => e _ _ (r.at_ i b hb), r.new, r.newp, r.ex.trans e⟩
theorem Rows.congr {H0 H : Hp} {p : Addr} {as : List Addr} {n : Nat} {xss yss : Nat → List Nat} (r : Rows H0 H p as n xss) (e : ∀ i, i < n → xss i = yss i) : Rows H0 H p as n yss :=
  ⟨r.lst, r.len, r.nd, r.np, fun i b hb => by
    have hi : i < n := by rw [← r.len]; exact (List.getElem?_eq_some_iff.mp hb).1
    rw [← e i hi]
    exact r.at_ i b hb, r.new, r.newp, r.ex⟩
theorem Rows.ll {H0 H : Hp} {p : Addr} {as : List Addr} {n : Nat} {xss : Nat → List Nat} (r : Rows H0 H p as n xss) : LLAt H p ((List.range n).map xss) :=
  ⟨as, r.lst, by rw [List.length_map, List.length_range, r.len], fun i b xs hb hx => by
    rw [List.getElem?_map] at hx
    obtain ⟨j, hj, e⟩ := Option.map_eq_some_iff.mp hx
    have e2 : i = j := by
      obtain ⟨h1, h2⟩ := List.getElem?_eq_some_iff.mp hj
      rw [List.getElem_range] at h2
      exact h2
    rw [← e, ← e2]
    exact r.at_ i b hb⟩
theorem Rows.put {H0 H : Hp} {p : Addr} {as : List Addr} {n : Nat} {xss : Nat → List Nat} (r : Rows H0 H p as n xss) {j : Nat} {b : Addr} (hb : as[j]? = some b) (ys : List Nat) : Rows H0 (upd H b (.lst (NL ys))) p as n (fun i => if i = j then ys else xss i) := by
  have hbm : b ∈ as := List.mem_of_getElem? hb
  have hpb : p ≠ b := fun e => r.np (e ▸ hbm)
  refine ⟨by rw [upd_ne hpb]; exact r.lst, r.len, r.nd, r.np, fun i c hc => ?_, r.new, r.newp, r.ex.mut (r.new b hbm)⟩
  by_cases e : i = j
  · subst e
    rw [hb] at hc
    cases hc
    show (upd H b _) b = _
    rw [upd_same, if_pos rfl]
  · have ne : c ≠ b := fun z => e (nd_ix r.nd hc (z ▸ hb))
    show (upd H b _) c = _
    rw [upd_ne ne, if_neg e]
    exact r.at_ i c hc
theorem yes_of {σ : L2.St} {H : Hp} {Q : Bool → Hp → Prop} (h : Q true H) : tYes σ H Q := h
/-- [[] for k in range(n)] -/
theorem rows_lc {σ : L2.St} {H : Hp} {ta : TA} {j : Nat} {vs : List Nat} {n : Nat} (h : EvA ta σ H [.int (n : Int)]) (hn : n ≤ 40000) (hw : ∀ x, wipe ((wipe σ vs).set j (some x)) vs = wipe σ vs) (Q : VK)
    (q : ∀ (p : Addr) (as : List Addr) (H1 : Hp), Rows H H1 p as n (fun _ => []) → Q (.ref p) H1) : tLc (iRng1 ta) (gName j) tYes (tLst tNil) vs σ H Q :=
  h H (Ex.refl H) _ fun H0 e0 => ⟨n, rfl, by omega, by omega, fun D hD => by
    have hnn : ((n : Int)).toNat = n := by omega
    rw [hnn]
    refine lc_range (lo := 0) (n := n) (fun i H' => ∃ as, Rows H H' D as i (fun _ => []) ∧ Ex H0 H') ⟨[], ⟨upd_same, rfl, List.nodup_nil, (fun h => nomatch h), (fun i b h => by simp at h), (fun b h => nomatch h), fresh_back e0 hD, e0.trans (Ex.new hD)⟩, Ex.new hD⟩ (fun i H' hi p => ?_) fun H' p => ?_
    · obtain ⟨as, r, e2⟩ := p
      refine ⟨hw _, ?_⟩
      refine yes_of (iteT ?_)
      refine ⟨(by show 0 ≤ sizeLine; decide), fun b hb => ?_⟩
      have hbD : D ≠ b := ne_of_none r.lst hb
      have hba : b ∉ as := fun m => by
        obtain ⟨k, hk⟩ := List.mem_iff_getElem?.mp m
        have z : H' b = some (.lst (NL [])) := r.at_ k b hk
        rw [hb] at z
        cases z
      refine ⟨as.map V.ref, by rw [upd_ne hbD]; exact r.lst, sz_lt (by rw [List.length_map, r.len]; omega), as ++ [b], ?_, ?_⟩
      · refine ⟨by rw [upd_same, List.map_append]; rfl, by rw [List.length_append, r.len]; rfl, List.nodup_append.mpr ⟨r.nd, by simp, fun x hx y hy => ?_⟩, ?_, fun k c hc => ?_, fun c hc => ?_, r.newp, ?_⟩
        · have e : y = b := by simpa using hy
          rw [e]
          exact fun z => hba (z ▸ hx)
        · intro m
          rcases List.mem_append.mp m with m | m
          · exact r.np m
          · exact hbD (by simpa using m)
        · have cD : c ≠ D := by
            intro z
            have m := List.mem_of_getElem? hc
            rcases List.mem_append.mp m with m | m
            · exact r.np (z ▸ m)
            · exact hbD (z ▸ (by simpa using m : c = b))
          show (upd _ D _) c = _
          rw [upd_ne cD]
          by_cases hk : k < as.length
          · rw [List.getElem?_append_left hk] at hc
            have ne : c ≠ b := fun z => hba (z ▸ List.mem_of_getElem? hc)
            rw [upd_ne ne]
            exact r.at_ k c hc
          · rw [List.getElem?_append_right (by omega)] at hc
            have e : b = c := by
              cases z : k - as.length with
              | zero => rw [z] at hc; simpa using hc
              | succ m => rw [z] at hc; simp at hc
            rw [← e]
            exact upd_same
        · rcases List.mem_append.mp hc with m | m
          · exact r.new c m
          · have e : c = b := by simpa using m
            rw [e]
            exact fresh_back r.ex hb
        · exact Ex.mut (r.ex.trans (Ex.new hb)) r.newp
      · exact Ex.mut (e2.trans (Ex.new hb)) hD
    · obtain ⟨as, r, _⟩ := p
      exact q D as H' r⟩
theorem q_rows {σ : L2.St} {H : Hp} {ta : TA} {i j : Nat} {vs : List Nat} {n : Nat} {tz : TS} {D : Ends} (h : EvA ta σ H [.int (n : Int)]) (hn : n ≤ 40000) (hw : ∀ x, wipe ((wipe σ vs).set j (some x)) vs = wipe σ vs)
    (q : ∀ (p : Addr) (as : List Addr) (H1 : Hp), Rows H H1 p as n (fun _ => []) → tz D (σ.set i (some (.ref p))) H1) : tSeq (tAsg (tLc (iRng1 ta) (gName j) tYes (tLst tNil) vs) (gName i)) tz D σ H :=
  rows_lc h hn hw (fun v H1 => gName i v σ H1 (tz D)) fun p as H1 r => q p as H1 r
def spLater : Sp := fun vs H Q _ => ∃ (t a : Addr) (n : Nat) (es : List (Nat × Nat)) (ms : List Bool), vs = [.ref t, .ref a] ∧ Way H t a n es ms ∧
  ∀ p H2, H p = none → Ex H H2 → LLAt H2 p ((List.range n).map (latAt (arcs es ms))) → Q (.ref p) H2
abbrev nsLater : List Str := ["web", "way", "found", "a", "b", "mark", "k"]
theorem scLater : FnScope nsLater ps2 (defScope sLaterIn) := ⟨rfl, rfl, rfl, by decide +kernel, rfl, by decide +kernel, by decide +kernel⟩
theorem ok_later (T : Mg mg) (F : Fun K "later_in" "later_in" sLaterIn f fd) : FnOk P w K mg base CX0 1 f fd ps2 spLater := by
  refine F.ok scLater (fun vs H Q E h => ?_) (fun cdv A outer s H vs Q E hr h => ?_)
  · obtain ⟨t, a, n, es, ms, rfl, _⟩ := h
    rfl
  obtain ⟨t, a, n, es, ms, rfl, hw, q⟩ := h
  obtain ⟨te, ht, as, hte, hlen, hedge⟩ := id hw.web.ex
  refine ⟨_, pss_cons (ps_setLc (i := 2) (own := [("k", 6)]) (g := gName 6) (tt := tYes) (by rfl) scLater.nd rfl rfl (sw_true rfl rfl rfl (by decide +kernel)) (pi_range1 (by rfl) T.range (pa_cons (pe_ix ix_tup (pv 0) pe_int (fun _ _ => rfl)) pa_nil))
      (blkOk_by (own := [("k", 6)]) (N := nsLater) (sc := defScope sLaterIn) (by decide +kernel)) (fun _ _ _ _ _ => pg_name (i := 6) scLater.nd rfl (Or.inl rfl)) (fun _ _ _ _ _ => pts_nil) (fun _ _ _ _ _ => pe_lst pa_nil))
    (pss_cons (ps_for PassesOwn.never rfl (RZ.pi_zipA (by rfl) T.zip (pa_cons (pe_ix ix_tup (pv 0) pe_int (fun _ _ => rfl)) (pa_cons (pv 1) pa_nil)))
      (pg_tup rfl (pgs_cons (pg_tup rfl (pgs_cons (pg_name (i := 3) scLater.nd rfl (.inl rfl)) (pgs_cons (pg_name (i := 4) scLater.nd rfl (.inl rfl)) pgs_nil))) (pgs_cons (pg_name (i := 5) scLater.nd rfl (.inl rfl)) pgs_nil)))
      (pss_one (ps_expr (pe_bm PySem.F.plainAttrs_list PySem.F.slot_list_append PySem.F.type_list_append mt_append (pe_ix ix_list (pv 2) (pe_ifExp (pt_cmpR op_eq (pv 5) pe_int (nomark _)) (pv 4) (pv 3)) (fun _ _ => rfl))
        (pa_cons (pe_ifExp (pt_cmpR op_eq (pv 5) pe_int (nomark _)) (pv 3) (pv 4)) pa_nil)))))
    (pss_one (ps_ret (pv 2)))), ?_⟩
  refine q_rows (n := n) (ea_cons (ev_ixT (ev_var rfl) ev_c ht rfl) ea_nil) (by have := hw.ok.six; omega) (by intro _; rfl) fun p bs H1 r1 => ?_
  -- for (a, b), mark in zip(..)
  have l1 : (as.map V.ref).length = (BL ms).length := by rw [List.length_map, BL_len, hlen, hw.len]
  refine (ev_ixT (ev_var rfl) ev_c (r1.ex _ _ ht) rfl : Ev _ _ H1 (.ref te)) H1 (Ex.refl H1) _ fun H2 e2 => ⟨_, rfl, te, a, as.map V.ref, BL ms, rfl, .inr ⟨SqT.of (e2 _ _ (r1.ex _ _ hte)), SqT.of (e2 _ _ (r1.ex _ _ hw.way)), RZ.for_zipT l1
    (fun i σ H' => ∃ x3 x4 x5, σ = [some (.ref t), some (.ref a), some (.ref p), x3, x4, x5, none] ∧ Rows H H' p bs n (latAt ((arcs es ms).take i)))
    ⟨_, _, _, rfl, r1.mono e2⟩ (fun i σ H' ⟨_, _, _, _, r⟩ => ⟨SqT.of (r.ex _ _ hte), SqT.of (r.ex _ _ hw.way)⟩) ?_ ?_⟩⟩
  · rintro i x y T' σ H' hx hy ⟨x3, x4, x5, rfl, r⟩ hT
    rw [List.getElem?_map] at hx
    obtain ⟨b, hb, rfl⟩ := Option.map_eq_some_iff.mp hx
    obtain ⟨m, hm, rfl⟩ := BL_get hy
    have hi : i < es.length := by rw [← hlen]; exact (List.getElem?_eq_some_iff.mp hb).1
    obtain ⟨ed, hed⟩ : ∃ ed, es[i]? = some ed := ⟨es[i], List.getElem?_eq_getElem hi⟩
    obtain ⟨lt1, lt2⟩ := web_edge hw.ok hed
    have r2 := r.mono (Ex.new (o := .tup [.ref b, .int (if m = true then 1 else 0)]) hT)
    have hbe := r2.ex _ _ (hedge i b ed hb hed)
    refine ⟨T', _, rfl, SqT.of upd_same, rfl, _, _, rfl, ⟨b, _, rfl, SqT.of hbe, rfl, _, _, rfl, _, _, rfl, rfl, ?_⟩⟩
    refine ⟨_, _, rfl, rfl, ?_⟩
    -- the arc
    have harc : (arcs es ms)[i]? = some (arc ed m) := by
      unfold arcs
      rw [List.getElem?_map, (List.getElem?_zip_eq_some (z := (ed, m))).mpr ⟨hed, hm⟩]
      rfl
    have tk : (arcs es ms).take (i + 1) = (arcs es ms).take i ++ [arc ed m] := by
      rw [List.take_add_one, harc]
      rfl
    generalize hHH : upd H' T' (.tup [.ref b, .int (if m = true then 1 else 0)]) = H3 at r2
    have tst : ∀ (ta tb : TE) (v u : V) (H4 : Hp), Ev ta [some (.ref t), some (.ref a), some (.ref p), some (.int (ed.1 : Int)), some (.int (ed.2 : Int)), some (.int (if m = true then 1 else 0)), none] H4 v → Ev tb [some (.ref t), some (.ref a), some (.ref p), some (.int (ed.1 : Int)), some (.int (ed.2 : Int)), some (.int (if m = true then 1 else 0)), none] H4 u →
        Ev (tIf (tTest (tOp rEq (tVar 5) (tC (.int 1)))) ta tb) [some (.ref t), some (.ref a), some (.ref p), some (.int (ed.1 : Int)), some (.int (ed.2 : Int)), some (.int (if m = true then 1 else 0)), none] H4 (if m = true then v else u) := fun ta tb v u H4 hv hu => by
      refine ev_if (b := m) (et_test (ev_is (ev_op (ev_var rfl) ev_c (rv_eq rfl)) (by cases m <;> rfl))) (fun h => by subst h; exact hv) (fun h => by subst h; exact hu)
    -- found[..].append(..)
    obtain ⟨src, dst, e1, e2, ls, ld⟩ : ∃ src dst : Nat, V.int (src : Int) = (if m = true then V.int (ed.2 : Int) else V.int (ed.1 : Int)) ∧ V.int (dst : Int) = (if m = true then V.int (ed.1 : Int) else V.int (ed.2 : Int)) ∧ arc ed m = (src, dst) ∧ src < n := by
      cases m with
      | true => exact ⟨ed.2, ed.1, rfl, rfl, rfl, lt2⟩
      | false => exact ⟨ed.1, ed.2, rfl, rfl, rfl, by omega⟩
    have hsl : src < bs.length := by rw [r2.len]; exact ld
    obtain ⟨c, hc⟩ : ∃ c, bs[src]? = some c := ⟨bs[src], List.getElem?_eq_getElem hsl⟩
    refine s_app (l := c) (xs := NL (latAt ((arcs es ms).take i) src)) (v := V.int (dst : Int)) (r2.at_ src c hc)
      (ev_ixL (ev_var rfl) (ev_is (tst _ _ _ _ _ (ev_var rfl) (ev_var rfl)) e1.symm) r2.lst (at_nat (by rw [List.getElem?_map, hc]; rfl)))
      (ev_is (tst _ _ _ _ _ (ev_var rfl) (ev_var rfl)) e2.symm) ?_ fun H5 e5 => ⟨_, _, _, rfl, ?_⟩
    · rw [NL_len]
      have z1 : (latAt ((arcs es ms).take i) src).length ≤ ((arcs es ms).take i).length := by
        unfold latAt
        rw [List.length_map]
        exact List.length_filter_le _ _
      have z2 : ((arcs es ms).take i).length ≤ i := List.length_take_le _ _
      have := hw.ok.few
      omega
    · have r6 := (r2.mono e5).put hc (latAt ((arcs es ms).take i) src ++ [dst])
      rw [NL_app] at r6
      refine r6.congr fun j _ => ?_
      rw [tk, latAt_snoc, ls]
      by_cases hj : j = src
      · rw [if_pos hj, if_pos hj.symm, hj]
      · rw [if_neg hj, if_neg (fun z => hj z.symm)]
  · rintro σ H' ⟨x3, x4, x5, rfl, r⟩
    have full : (arcs es ms).take (as.map V.ref).length = arcs es ms := by
      refine List.take_of_length_le ?_
      unfold arcs
      rw [List.length_map, List.length_zip, List.length_map, hlen]
      exact Nat.min_le_left _ _
    rw [full] at r
    exact s_ret (ev_var rfl) fun H5 e5 => q p H5 r.newp (r.mono e5).ex (r.mono e5).ll
end
end K76

/-! ## K76W4 -/
namespace K76
open PySem L2 Evl
section
variable {P : Program} {w : World} {K : PySem.W.Frag} {mg : Str → Option Value} {base : Heap} {f : Addr} {fd : FuncData}
variable {σ : L2.St} {H : Hp} {ta tb te : TE}
/-! ### lists put together -/
theorem rcat {p q : Addr} {xs ys : List V} {H : Hp} (hp : H p = some (.lst xs)) (hq : H q = some (.lst ys)) (hz : xs.length + ys.length ≤ 100000) : ∀ H1, Ex H H1 → ∀ Q : VK, (∀ r H2, H1 r = none → Ex H1 H2 → H2 r = some (.lst (xs ++ ys)) → Q (.ref r) H2) → rCat (.ref p) (.ref q) H1 Q := fun H1 e Q k =>
  ⟨p, q, xs, ys, rfl, rfl, e _ _ hp, e _ _ hq, sz_of hz, fun r hr => k r _ hr (Ex.new hr) upd_same⟩
theorem el_catVV {p q : Addr} {xs ys : List V} (ha : Ev ta σ H (.ref p)) (hp : H p = some (.lst xs)) (hb : Ev tb σ H (.ref q)) (hq : H q = some (.lst ys)) (hz : xs.length + ys.length ≤ 100000) : EvL (tOp rCat ta tb) σ H (xs ++ ys) := fun H1 e Q k =>
  ha H1 e _ fun H2 e2 => hb H2 (e.trans e2) _ fun H3 e3 => rcat (e3 _ _ (e2 _ _ (e _ _ hp))) (e3 _ _ (e2 _ _ (e _ _ hq))) hz H3 (Ex.refl H3) Q fun r H4 hr e4 h4 => k r H4 (fresh_back (e2.trans e3) hr) ((e2.trans e3).trans e4) h4
theorem el_catLV {q : Addr} {xs ys : List V} (ha : EvL ta σ H xs) (hb : Ev tb σ H (.ref q)) (hq : H q = some (.lst ys)) (hz : xs.length + ys.length ≤ 100000) : EvL (tOp rCat ta tb) σ H (xs ++ ys) := fun H1 e Q k =>
  ha H1 e _ fun p H2 hp0 e2 hp => hb H2 (e.trans e2) _ fun H3 e3 => rcat (e3 _ _ hp) (e3 _ _ (e2 _ _ (e _ _ hq))) hz H3 (Ex.refl H3) Q fun r H4 hr e4 h4 => k r H4 (fresh_back (e2.trans e3) hr) ((e2.trans e3).trans e4) h4
theorem el_catVL {p : Addr} {xs ys : List V} (ha : Ev ta σ H (.ref p)) (hp : H p = some (.lst xs)) (hb : EvL tb σ H ys) (hz : xs.length + ys.length ≤ 100000) : EvL (tOp rCat ta tb) σ H (xs ++ ys) := fun H1 e Q k =>
  ha H1 e _ fun H2 e2 => hb H2 (e.trans e2) _ fun q H3 hq0 e3 hq => rcat (e3 _ _ (e2 _ _ (e _ _ hp))) hq hz H3 (Ex.refl H3) Q fun r H4 hr e4 h4 => k r H4 (fresh_back (e2.trans e3) hr) ((e2.trans e3).trans e4) h4
theorem el_catLL {xs ys : List V} (ha : EvL ta σ H xs) (hb : EvL tb σ H ys) (hz : xs.length + ys.length ≤ 100000) : EvL (tOp rCat ta tb) σ H (xs ++ ys) := fun H1 e Q k =>
  ha H1 e _ fun p H2 hp0 e2 hp => hb H2 (e.trans e2) _ fun q H3 hq0 e3 hq => rcat (e3 _ _ hp) hq hz H3 (Ex.refl H3) Q fun r H4 hr e4 h4 => k r H4 (fresh_back (e2.trans e3) hr) ((e2.trans e3).trans e4) h4
theorem el_is {xs ys : List V} (h : EvL te σ H xs) (e : xs = ys) : EvL te σ H ys := by
  rw [← e]
  exact h
/-! ### sorted(set(..)) -/
def IL (ys : List Nat) : List Int := ys.map fun (n : Nat) => (n : Int)
theorem NL_IL (ys : List Nat) : NL ys = (IL ys).map V.int := by
  unfold NL IL
  rw [List.map_map]
  rfl
theorem mem_IL {ys : List Nat} {k : Int} : k ∈ IL ys ↔ ∃ n : Nat, n ∈ ys ∧ (n : Int) = k := List.mem_map
theorem el_sortset {wd : World} {n : Nat} {ys : List Nat} (h : EvL tb σ H (NL ys)) (hl : ys.length < 64) (hb : ∀ k ∈ ys, k < n) : EvL (tCB (rSortedSet wd) (tCons (tCB (KR.rSetL K wd) (tCons tb tNil)) tNil)) σ H (NL (uni n ys)) := fun H1 e Q q =>
  h H1 e _ fun p H2 hp e2 h2 => ⟨p, IL ys, rfl, SqL.of (by rw [← NL_IL]; exact h2), (by unfold IL; rw [List.length_map]; omega), fun a c hc ha => ⟨a, _, c, rfl, upd_same, (by unfold IL at hc; rw [List.length_map] at hc; omega), fun ns p3 inc mem _ hp3 => by
    have ens : ns = IL (uni n ys) := inc_ext inc (by
      unfold IL
      rw [List.pairwise_map]
      exact List.Pairwise.imp (fun h => by omega) (uni_inc n ys)) fun k => by
      rw [mem k, decide_eq_true_eq, mem_IL, mem_IL]
      constructor
      · rintro ⟨m, hm, rfl⟩
        exact ⟨m, mem_uni.mpr ⟨hb m hm, hm⟩, rfl⟩
      · rintro ⟨m, hm, rfl⟩
        exact ⟨m, (mem_uni.mp hm).2, rfl⟩
    have e3 : Ex H2 (upd H2 a (SetO wd a (fun j => decide (j ∈ IL ys)) c)) := Ex.new ha
    refine q p3 _ (fresh_back e2 (fresh_back e3 hp3)) ((e2.trans e3).trans (Ex.new hp3)) ?_
    rw [upd_same, ens, NL_IL]⟩⟩
/-- xs[i] = a new list -/
theorem s_setNew {D : Ends} {l : Addr} {xs ys : List V} {j : Nat} (hl : H l = some (.lst xs)) (h : EvL te σ H ys) (ho : Ev ta σ H (.ref l)) (hi : Ev tb σ H (.int (j : Int))) (hj : j < xs.length)
    (k : ∀ q H1, H q = none → Ex H H1 → H1 q = some (.lst ys) → D.nx σ (upd H1 l (.lst (xs.set j (.ref q))))) : tAsg te (gSub ta tb rSetL) D σ H := h H (Ex.refl H) _ fun q H1 hq e1 h1 => ho H1 e1 _ fun H2 e2 => hi H2 (e1.trans e2) _ fun H3 e3 =>
  ⟨l, xs, (j : Int), j, rfl, rfl, ((e1.trans e2).trans e3) l _ hl, ixN_nat hj, k q H3 hq ((e1.trans e2).trans e3) ((e2.trans e3) _ _ h1)⟩
/-! ### what comes is told by a word -/
def EvG (te : TE) (σ : L2.St) (H : Hp) (G : V → Hp → Prop) : Prop := ∀ H1, Ex H H1 → ∀ Q : VK, (∀ v H2, Ex H1 H2 → G v H2 → Q v H2) → te σ H1 Q
theorem call_g {sp : Sp} {vs : List V} {G : V → Hp → Prop} {E : XK} {tA : TA} (h : EvA tA σ H vs) (hs : ∀ H1, Ex H H1 → ∀ (Q : VK) (E : XK), (∀ v H2, Ex H1 H2 → G v H2 → Q v H2) → sp vs H1 Q E) : EvG (tCall sp [] E tA) σ H G := fun H1 e Q q =>
  h H1 e _ fun H2 e2 => by
    rw [List.append_nil]
    exact hs H2 (e.trans e2) Q E fun v H3 e3 g => q v H3 (e2.trans e3) g
theorem q_asgG {G : V → Hp → Prop} {D : Ends} {tz : TS} {i : Nat} (h : EvG te σ H G) (k : ∀ v H1, Ex H H1 → G v H1 → tz D (σ.set i (some v)) H1) : tSeq (tAsg te (gName i)) tz D σ H := h H (Ex.refl H) _ fun v H1 e g => k v H1 e g
theorem s_retG {G : V → Hp → Prop} {D : Ends} (h : EvG te σ H G) (k : ∀ v H1, Ex H H1 → G v H1 → D.rt v H1) : tRet te D σ H := h H (Ex.refl H) _ fun v H1 e g => k v H1 e g
/-! ### before_in -/
/-- the list at p, whose rows are changed one for another -/
structure Tab (H0 H : Hp) (p : Addr) (n : Nat) (B : Nat → List Nat) : Prop where
  newp : H0 p = none
  ex : Ex H0 H
  as : ∃ as : List Addr, H p = some (.lst (as.map V.ref)) ∧ as.length = n ∧ p ∉ as ∧ ∀ (i : Nat) (b : Addr), as[i]? = some b → LAt H b (B i)
theorem Rows.tab {H0 H : Hp} {p : Addr} {as : List Addr} {n : Nat} {xss : Nat → List Nat} (r : Rows H0 H p as n xss) : Tab H0 H p n xss := ⟨r.newp, r.ex, as, r.lst, r.len, r.np, r.at_⟩
theorem Tab.mono {H0 H H' : Hp} {p : Addr} {n : Nat} {B : Nat → List Nat} (t : Tab H0 H p n B) (e : Ex H H') : Tab H0 H' p n B := by
  obtain ⟨as, h1, h2, h3, h4⟩ := t.as
  exact ⟨t.newp, t.ex.trans e, as, e _ _ h1, h2, h3, fun i b hb => e _ _ (h4 i b hb)⟩
theorem Tab.ll {H0 H : Hp} {p : Addr} {n : Nat} {B : Nat → List Nat} (t : Tab H0 H p n B) : LLAt H p ((List.range n).map B) := by
  obtain ⟨as, h1, h2, h3, h4⟩ := t.as
  refine ⟨as, h1, by rw [List.length_map, List.length_range, h2], fun i b xs hb hx => ?_⟩
  rw [List.getElem?_map] at hx
  obtain ⟨j, hj, e⟩ := Option.map_eq_some_iff.mp hx
  obtain ⟨q1, q2⟩ := List.getElem?_eq_some_iff.mp hj
  rw [List.getElem_range] at q2
  rw [← e, ← q2]
  exact h4 i b hb
theorem Tab.set {H0 H H1 : Hp} {p q : Addr} {n j : Nat} {B : Nat → List Nat} {ys : List Nat} {as : List Addr} (newp : H0 p = none) (ex : Ex H0 H) (h1 : H p = some (.lst (as.map V.ref))) (h2 : as.length = n) (h3 : p ∉ as) (h4 : ∀ (i : Nat) (b : Addr), as[i]? = some b → LAt H b (B i))
    (hq : H q = none) (e : Ex H H1) (hy : LAt H1 q ys) (hj : j < n) : Tab H0 (upd H1 p (.lst ((as.map V.ref).set j (.ref q)))) p n (fun i => if i = j then ys else B i) := by
  have pq : p ≠ q := ne_of_none h1 hq
  refine ⟨newp, (ex.trans e).mut newp, as.set j q, by rw [upd_same, List.map_set], by rw [List.length_set, h2], fun m => ?_, fun i b hb => ?_⟩
  · rcases List.mem_or_eq_of_mem_set m with m | m
    · exact h3 m
    · exact pq m
  · by_cases c : i = j
    · subst c
      have hi : i < as.length := by omega
      rw [List.getElem?_set_self hi] at hb
      cases hb
      show (upd H1 p _) q = _
      rw [upd_ne pq.symm, if_pos rfl]
      exact hy
    · rw [List.getElem?_set_ne (fun z => c z.symm)] at hb
      have nb : b ≠ p := fun z => h3 (z ▸ List.mem_of_getElem? hb)
      show (upd H1 p _) b = _
      rw [upd_ne nb, if_neg c]
      exact e _ _ (h4 i b hb)
/-- what is told of a way whose arcs do not lead around -/
structure WayO (H : Hp) (t a : Addr) (n : Nat) (es : List (Nat × Nat)) (ms : List Bool) (pos : Nat → Nat) : Prop where
  way : Way H t a n es ms
  o : Open n (arcs es ms) pos
theorem WayO.mono {H H' : Hp} {t a : Addr} {n : Nat} {es : List (Nat × Nat)} {ms : List Bool} {pos : Nat → Nat} (h : WayO H t a n es ms pos) (e : Ex H H') : WayO H' t a n es ms pos := ⟨h.way.mono e, h.o⟩
def spBefore : Sp := fun vs H Q _ => ∃ (t a : Addr) (n : Nat) (es : List (Nat × Nat)) (ms : List Bool) (pos : Nat → Nat), vs = [.ref t, .ref a] ∧ WayO H t a n es ms pos ∧
  ∀ (p : Addr) (H2 : Hp) (B : Nat → List Nat), H p = none → Ex H H2 → LLAt H2 p ((List.range n).map B) → IsBefore n (arcs es ms) B → Q (.ref p) H2
abbrev nsBefore : List Str := ["web", "way", "later", "found", "turn", "k", "x"]
theorem scBefore : FnScope nsBefore ps2 (defScope sBeforeIn) := ⟨rfl, rfl, rfl, by decide +kernel, rfl, by decide +kernel, by decide +kernel⟩
/-- the rows hold places below n, each once -/
def Fits (n : Nat) (B : Nat → List Nat) : Prop := ∀ i, i < n → (B i).length ≤ n
theorem Fits.set {n k x : Nat} {B : Nat → List Nat} (h : Fits n B) : Fits n (bset n B k x) := fun i hi => by
  unfold bset
  by_cases e : i = x
  · rw [if_pos e]
    exact uni_len _ _
  · rw [if_neg e]
    exact h i hi
theorem LLAt.get {H : Hp} {p : Addr} {n i : Nat} {g : Nat → List Nat} (h : LLAt H p ((List.range n).map g)) (hi : i < n) : ∃ (as : List Addr) (b : Addr), H p = some (.lst (as.map V.ref)) ∧ as[i]? = some b ∧ LAt H b (g i) := by
  obtain ⟨as, h1, h2, h3⟩ := h
  rw [List.length_map, List.length_range] at h2
  have hb : as[i]? = some as[i] := List.getElem?_eq_getElem (by omega)
  exact ⟨as, as[i], h1, hb, h3 i _ _ hb (by rw [List.getElem?_map, List.getElem?_range hi]; rfl)⟩
theorem ref_at {as : List Addr} {i : Nat} {b : Addr} (h : as[i]? = some b) : atI (as.map V.ref) (i : Int) = some (.ref b) := at_nat (by rw [List.getElem?_map, h]; rfl)
theorem ok_before (T : Mg mg) (F : Fun K "before_in" "before_in" sBeforeIn f fd) (D1 : Df P w K mg base 1 "later_in" ps2 spLater) : FnOk P w K mg base CX0 2 f fd ps2 spBefore := by
  obtain ⟨g1, gd1, G1, bG1, kG1, mG1⟩ := D1.ex
  refine F.ok scBefore (fun vs H Q E h => ?_) (fun cdv A outer s H vs Q E hr h => ?_)
  · obtain ⟨t, a, n, es, ms, pos, rfl, _⟩ := h
    rfl
  obtain ⟨t, a, n, es, ms, pos, rfl, hwo, q⟩ := h
  obtain ⟨te, ht, _⟩ := hwo.way.web.ex
  have o := hwo.o
  have n6 := hwo.way.ok.six
  refine ⟨_, pss_cons (ps_set (i := 2) scBefore.nd rfl (Or.inl rfl) (pe_call G1 hr rfl mG1 kG1 bG1 .nil pass0 (pa_cons (pv 0) (pa_cons (pv 1) pa_nil))))
    (pss_cons (ps_setLc (i := 3) (own := [("k", 5)]) (g := gName 5) (tt := tYes) (by rfl) scBefore.nd rfl rfl (sw_true rfl rfl rfl (by decide +kernel)) (pi_range1 (by rfl) T.range (pa_cons (pe_ix ix_tup (pv 0) pe_int (fun _ _ => rfl)) pa_nil))
      (blkOk_by (own := [("k", 5)]) (N := nsBefore) (sc := defScope sBeforeIn) (by decide +kernel)) (fun _ _ _ _ _ => pg_name (i := 5) scBefore.nd rfl (Or.inl rfl)) (fun _ _ _ _ _ => pts_nil) (fun _ _ _ _ _ => pe_lst pa_nil))
    (pss_cons (ps_for PassesOwn.never rfl (pi_range1 (by rfl) T.range (pa_cons (pe_ix ix_tup (pv 0) pe_int (fun _ _ => rfl)) pa_nil)) (pg_name (i := 4) scBefore.nd rfl (.inl rfl))
      (pss_one (ps_for PassesOwn.never rfl (pi_range1 (by rfl) T.range (pa_cons (pe_ix ix_tup (pv 0) pe_int (fun _ _ => rfl)) pa_nil)) (pg_name (i := 5) scBefore.nd rfl (.inl rfl))
        (pss_one (ps_for PassesOwn.never rfl (pi_list (pe_ix ix_list (pv 2) (pv 5) (fun _ _ => rfl))) (pg_name (i := 6) scBefore.nd rfl (.inl rfl))
          (pss_one (ps_asg (pe_callB (cr_sortedSet rfl) (by rfl) T.sorted (by decide +kernel) (pa_cons (pe_callTy (KR.cr_setL rfl) (by rfl) T.set (by decide +kernel)
            (pa_cons (pe_op op_cat (pe_op op_cat (pe_ix ix_list (pv 3) (pv 6) (fun _ _ => rfl)) (pe_lst (pa_cons (pv 5) pa_nil))) (pe_ix ix_list (pv 3) (pv 5) (fun _ _ => rfl))) pa_nil)) pa_nil)) (pg_sub (pv 3) (pv 6) set_list))))))))
    (pss_one (ps_ret (pv 3))))), ?_⟩
  refine q_asgG (G := fun v H2 => ∃ p, v = .ref p ∧ H p = none ∧ LLAt H2 p ((List.range n).map (latAt (arcs es ms)))) (call_g (ea_cons (ev_var rfl) (ea_cons (ev_var rfl) ea_nil)) fun H1 e1 Q1 E1 q1 => ⟨t, a, n, es, ms, rfl, hwo.way.mono e1, fun p H2 hp e2 h2 => q1 (.ref p) H2 e2 ⟨p, rfl, fresh_back e1 hp, h2⟩⟩) fun v H1 e1 hv => ?_
  obtain ⟨pl, rfl, _, hlat⟩ := hv
  refine q_rows (n := n) (ea_cons (ev_ixT (ev_var rfl) ev_c (e1 _ _ ht) rfl) ea_nil) (by omega) (by intro _; rfl) fun p bs H2 r2 => ?_
  have hnew : H p = none := fresh_back e1 r2.newp
  -- the rounds
  refine q_forR1 (n := (n : Int)) (ea_cons (ev_ixT (ev_var rfl) ev_c (r2.ex _ _ (e1 _ _ ht)) rfl) ea_nil) ⟨by omega, by omega⟩
    (fun i σ H' => ∃ (B : Nat → List Nat) (x4 x5 x6 : Option V), σ = [some (.ref t), some (.ref a), some (.ref pl), some (.ref p), x4, x5, x6] ∧ Tab H1 H' p n B ∧ Fits n B ∧ Sound n (arcs es ms) B ∧ Full n (arcs es ms) pos i B)
    (fun H3 e3 => ⟨fun _ => [], _, _, _, rfl, r2.tab.mono e3, fun i hi => Nat.zero_le _, ⟨fun i hi k hk => nomatch hk⟩, Full.start o⟩) ?_ ?_
  · rintro i σ H' hi ⟨B, x4, x5, x6, rfl, tab, fits, snd, full⟩
    have exT := tab.ex
    refine s_forR1 (n := (n : Int)) (ea_cons (ev_ixT (ev_var rfl) ev_c (exT _ _ (e1 _ _ ht)) rfl) ea_nil) ⟨by omega, by omega⟩
      (fun k σ H' => ∃ (B : Nat → List Nat) (x5 x6 : Option V), σ = [some (.ref t), some (.ref a), some (.ref pl), some (.ref p), some (.int (i : Int)), x5, x6] ∧ Tab H1 H' p n B ∧ Fits n B ∧ BK n (arcs es ms) pos i k B)
      (fun H3 e3 => ⟨B, _, _, rfl, tab.mono e3, fits, BK.start snd full⟩) ?_ ?_
    · rintro k σ H' hk ⟨B, x5, x6, rfl, tab, fits, bk⟩
      have hkn : k < n := by omega
      obtain ⟨las, lb, hl1, hl2, hl3⟩ := hlat.get hkn
      have ext := tab.ex
      refine s_forLn (a := lb) (xs := NL (latAt (arcs es ms) k)) (ev_ixL (ev_var rfl) (ev_var rfl) (ext _ _ hl1) (ref_at hl2)) (SqL.of (ext _ _ hl3))
        (fun j σ H' => ∃ (B : Nat → List Nat) (x6 : Option V), σ = [some (.ref t), some (.ref a), some (.ref pl), some (.ref p), some (.int (i : Int)), some (.int (k : Int)), x6] ∧ Tab H1 H' p n B ∧ Fits n B ∧ BX n (arcs es ms) pos i k ((latAt (arcs es ms) k).take j) B)
        (fun H3 e3 => ⟨B, _, rfl, tab.mono e3, fits, by rw [List.take_zero]; exact BX.start bk⟩) ?_ ?_ ?_
      · rintro j σ H' hj ⟨B, x6, rfl, tab, _, _⟩
        exact SqL.of (tab.ex _ _ hl3)
      · rintro j x σ H' hx ⟨B, x6, rfl, tab, fits, bx⟩
        obtain ⟨y, hy, rfl⟩ := NL_get hx
        have harc : (k, y) ∈ arcs es ms := mem_latAt.mp (List.mem_of_getElem? hy)
        obtain ⟨_, hyn, _⟩ := o.lt _ _ harc
        have bx2 := bx.step o harc
        have tk : (latAt (arcs es ms) k).take (j + 1) = (latAt (arcs es ms) k).take j ++ [y] := by rw [List.take_add_one, hy]; rfl
        rw [← tk] at bx2
        obtain ⟨as, a1, a2, a3, a4⟩ := tab.as
        obtain ⟨bx', hbx⟩ : ∃ b, as[y]? = some b := ⟨as[y], List.getElem?_eq_getElem (by omega)⟩
        obtain ⟨bk', hbk⟩ : ∃ b, as[k]? = some b := ⟨as[k], List.getElem?_eq_getElem (by omega)⟩
        have lx := a4 y bx' hbx
        have lk := a4 k bk' hbk
        have f1 := fits y hyn
        have f2 := fits k hkn
        have mem : ∀ z ∈ B y ++ [k] ++ B k, z < n := fun z hz => by
          rcases List.mem_append.mp hz with m | m
          · rcases List.mem_append.mp m with m | m
            · exact ((bx.sound.ok y hyn z m).lt o).1
            · rw [List.mem_singleton.mp m]
              exact hkn
          · exact ((bx.sound.ok k hkn z m).lt o).1
        refine s_setNew a1 (el_sortset (n := n) (ys := B y ++ [k] ++ B k) (el_is (el_catLV (el_catVL (ev_ixL (ev_var rfl) (ev_var rfl) a1 (ref_at hbx)) lx (el_lst (ea_cons (ev_var rfl) ea_nil) (by simp)) (by rw [NL_len]; simp; omega)) (ev_ixL (ev_var rfl) (ev_var rfl) a1 (ref_at hbk)) lk
          (by rw [List.length_append, NL_len, NL_len]; simp; omega)) (by rw [NL_app, NL_app]; rfl)) (by simp; omega) mem) (ev_var rfl) (ev_var rfl) (by rw [List.length_map, a2]; exact hyn) fun r H3 hr e3 h3 => ⟨bset n B k y, _, rfl, Tab.set tab.newp tab.ex a1 a2 a3 a4 hr e3 h3 hyn, fits.set, bx2⟩
      · rintro σ H' ⟨B, x6, rfl, tab, fits, bx⟩
        refine ⟨B, _, _, rfl, tab, fits, bx.last fun i hi => ?_⟩
        rw [List.take_of_length_le (by rw [NL_len]; exact Nat.le_refl _)]
        exact mem_latAt.mpr hi
    · rintro σ H' ⟨B, x5, x6, rfl, tab, fits, bk⟩
      have en : ((n : Int)).toNat = n := by omega
      rw [en] at bk
      exact ⟨B, _, _, _, rfl, tab, fits, bk.sound, bk.last o⟩
  · rintro σ H' ⟨B, x4, x5, x6, rfl, tab, fits, snd, full⟩
    have en : ((n : Int)).toNat = n := by omega
    rw [en] at full
    exact s_ret (ev_var rfl) fun H3 e3 => q p H3 (norm n B) hnew (e1.trans (tab.mono e3).ex) (by rw [norm_map]; exact (tab.mono e3).ll) (before_of o snd full)
end
end K76

/-! ## K76W5 -/
namespace K76
open PySem L2 Evl
/-- a comprehension's own scope -/
def lcScope : Expr → Scope
  | .ListComp _ _ sc _ => sc
  | _ => { kind := .function, names := [], isGenerator := false, isCoroutine := false }
def lcIfs : Expr → List Expr
  | .ListComp _ (c :: _) _ _ => c.ifs
  | _ => []
def lcElt : Expr → Expr
  | .ListComp e _ _ _ => e
  | e => e
def asgVal : Stmt → Expr
  | .Assign _ e _ => e
  | _ => .Constant .none 0 ⟨0, 0, 0, 0⟩
def cmpLeft : Expr → Expr
  | .Compare e _ _ _ => e
  | e => e
def whBody : Stmt → List Stmt
  | .While _ b _ _ => b
  | .For _ _ b _ _ => b
  | _ => []
def nthS (l : List Stmt) (i : Nat) : Stmt := l.getD i (.Pass ⟨0, 0, 0, 0⟩)
/-! ### the rules with the written part told: for a comprehension's block -/
section
variable {X : Cx}
theorem op_inK (K : PySem.W.Frag) (h : X.K = K := by rfl) : OpR X (compareOp .In) (rIn K false) := h ▸ op_in_seq
theorem op_notInK (K : PySem.W.Frag) (h : X.K = K := by rfl) : OpR X (compareOp .NotIn) (rIn K true) := h ▸ op_notIn_seq
theorem ix_listK (K : PySem.W.Frag) (h : X.K = K := by rfl) : IxR X (rIxL K) := h ▸ ix_list
theorem ix_tupK (K : PySem.W.Frag) (h : X.K = K := by rfl) : IxR X (rIxT K) := h ▸ ix_tup
theorem op_eqDK (K : PySem.W.Frag) (hu : X.A.units + 64 < cLine) (h : X.K = K := by rfl) : OpR X (compareOp .Eq) (rEqD K) := h ▸ op_eqD hu
theorem pi_listK (K : PySem.W.Frag) {tg l : Expr} {tl : TE} (hl : PE X l tl) (h : X.K = K := by rfl) : PI X tg l (iList K tl) := h ▸ pi_list hl
theorem pi_tupK (K : PySem.W.Frag) {tg l : Expr} {tl : TE} (hl : PE X l tl) (h : X.K = K := by rfl) : PI X tg l (iTup K tl) := h ▸ pi_tup hl
theorem call_lenK (K : PySem.W.Frag) (h : X.K = K := by rfl) : CallR X (.builtin "len") (rLenS K) := h ▸ call_len_seq
end
section
variable {P : Program} {w : World} {K : PySem.W.Frag} {mg : Str → Option Value} {base : Heap} {f : Addr} {fd : FuncData}
variable {σ : L2.St} {H : Hp} {ta tb te : TE}
/-! ### comprehensions over a list of whole numbers -/
theorem given_take (xs : List Nat) (p : Nat → Bool) : ∀ i, i ≤ xs.length → given i (fun i => p (xs.getD i 0)) (fun i => V.int ((xs.getD i 0 : Nat) : Int)) = NL ((xs.take i).filter p)
  | 0, _ => rfl
  | i + 1, h => by
    have ih := given_take xs p i (Nat.le_of_lt h)
    have hx : xs[i]? = some (xs.getD i 0) := by
      rw [List.getD_eq_getElem?_getD, List.getElem?_eq_getElem h]
      rfl
    rw [List.take_add_one, hx, List.filter_append]
    cases hp : p (xs.getD i 0) with
    | true =>
      rw [given_yes (f := fun i => p (xs.getD i 0)) hp, ih, NL_app]
      congr 1
      show [V.int ((xs.getD i 0 : Nat) : Int)] = NL ([xs.getD i 0].filter p)
      rw [List.filter_cons, if_pos hp]
      rfl
    | false =>
      rw [given_no (f := fun i => p (xs.getD i 0)) hp, ih]
      show NL (List.filter p (xs.take i)) = NL (List.filter p (xs.take i) ++ [xs.getD i 0].filter p)
      rw [List.filter_cons, if_neg (by rw [hp]; decide)]
      show _ = NL (_ ++ [])
      rw [List.append_nil]
theorem el_lcN {a : Addr} {xs : List Nat} {tl : TE} {t : TT} {j : Nat} {vs : List Nat} (p : Nat → Bool) (h : Ev tl σ H (.ref a)) (hx : LAt H a xs) (hz : xs.length ≤ 40000) (hw : ∀ x, wipe ((wipe σ vs).set j (some x)) vs = wipe σ vs)
    (ht : ∀ (x : Nat) H1, Ex H H1 → x ∈ xs → EvT t ((wipe σ vs).set j (some (.int (x : Int)))) H1 (p x)) (he : ∀ (x : Nat) H1, Ex H H1 → x ∈ xs → p x = true → Ev te ((wipe σ vs).set j (some (.int (x : Int)))) H1 (.int (x : Int))) :
    EvL (tLc (iList K tl) (gName j) t te vs) σ H (NL (xs.filter p)) := by
  have q := el_lcL (K := K) (t := t) (te := te) (j := j) (vs := vs) (fun i => p (xs.getD i 0)) (fun i => V.int ((xs.getD i 0 : Nat) : Int)) h (SqL.of hx) (by rw [NL_len]; exact hz) hw
    (fun i x H1 e hi => by
      obtain ⟨n, hn, rfl⟩ := NL_get hi
      have en : xs.getD i 0 = n := by rw [List.getD_eq_getElem?_getD, hn]; rfl
      show EvT t _ H1 (p (xs.getD i 0))
      rw [en]
      exact ht n H1 e (List.mem_of_getElem? hn))
    (fun i x H1 e hi hp => by
      obtain ⟨n, hn, rfl⟩ := NL_get hi
      have en : xs.getD i 0 = n := by rw [List.getD_eq_getElem?_getD, hn]; rfl
      have hp' : p (xs.getD i 0) = true := hp
      rw [en] at hp'
      show Ev te _ H1 (V.int ((xs.getD i 0 : Nat) : Int))
      rw [en]
      exact he n H1 e (List.mem_of_getElem? hn) hp')
  rw [NL_len, given_take xs p xs.length (Nat.le_refl _), List.take_length] at q
  exact q
theorem et_in {x : Nat} {xs : List Nat} {p : Addr} (ha : Ev ta σ H (.int (x : Int))) (hb : Ev tb σ H (.ref p)) (h : LAt H p xs) : EvT (tTest (tOp (rIn K false) ta tb)) σ H (xs.contains x) := et_test (ev_is (ev_op ha hb (rv_isL (SqL.of h) rfl (NL_flat xs))) (by rw [NL_in]))
theorem et_notin {x : Nat} {xs : List Nat} {p : Addr} (ha : Ev ta σ H (.int (x : Int))) (hb : Ev tb σ H (.ref p)) (h : LAt H p xs) : EvT (tTest (tOp (rIn K true) ta tb)) σ H (!xs.contains x) := et_test (ev_is (ev_op ha hb (rv_niL (SqL.of h) rfl (NL_flat xs))) (by rw [NL_in]))
theorem rgV_nat (n : Nat) : rgV 0 (n : Int) = NL (List.range n) := by
  unfold rgV NL
  rw [show ((n : Int) - 0).toNat = n by omega]
  refine List.map_congr_left fun i _ => ?_
  rw [Int.zero_add]
theorem el_listRg {n : Nat} (h : Ev ta σ H (.int (n : Int))) (hn : n ≤ 10000) : EvL (tLstRg (tRg1 ta)) σ H (NL (List.range n)) := fun H1 e Q q =>
  h H1 e _ fun H2 e2 => ⟨n, rfl, RgOk.of_le (by omega) (by omega) (by omega) (by omega), fun p hp => q p _ (fresh_back e2 hp) (e2.trans (Ex.new hp)) (by rw [upd_same, rgV_nat])⟩
/-! ### is_open, need_openway -/
def spOpen : Sp := fun vs H Q _ => ∃ (t a : Addr) (n : Nat) (es : List (Nat × Nat)) (ms : List Bool) (pos : Nat → Nat), vs = [.ref t, .ref a] ∧ WayO H t a n es ms pos ∧ RetV (.bl true) H Q
abbrev nsOpen : List Str := ["web", "way", "left", "later", "some", "k", "x"]
theorem scOpen : FnScope nsOpen ps2 (defScope sIsOpen) := ⟨rfl, rfl, rfl, by decide +kernel, rfl, by decide +kernel, by decide +kernel⟩
abbrev lcO1 : Expr := asgVal (nthS (whBody (nthS (defBody sIsOpen) 3)) 0)
theorem src_mem {A : List (Nat × Nat)} {l : List Nat} {k : Nat} (h : k ∈ src A l) : k ∈ l := (List.mem_filter.mp h).1
theorem ok_open (T : Mg mg) (F : Fun K "is_open" "is_open" sIsOpen f fd) (D1 : Df P w K mg base 1 "later_in" ps2 spLater) : FnOk P w K mg base CX0 2 f fd ps2 spOpen := by
  obtain ⟨g1, gd1, G1, bG1, kG1, mG1⟩ := D1.ex
  refine F.ok scOpen (fun vs H Q E h => ?_) (fun cdv A outer s H vs Q E hr h => ?_)
  · obtain ⟨t, a, n, es, ms, pos, rfl, _⟩ := h
    rfl
  obtain ⟨t, a, n, es, ms, pos, rfl, hwo, q⟩ := h
  obtain ⟨te, ht, _⟩ := hwo.way.web.ex
  have o := hwo.o
  have n6 := hwo.way.ok.six
  have n1 := hwo.way.ok.one
  refine ⟨_, pss_cons (ps_set (i := 2) scOpen.nd rfl (Or.inr rfl) (pe_listRg rfl (by rfl) T.list (prg_1 (by rfl) T.range (pe_ix ix_tup (pv 0) pe_int (fun _ _ => rfl)))))
    (pss_cons (ps_set (i := 3) scOpen.nd rfl (Or.inr rfl) (pe_call G1 hr rfl mG1 kG1 bG1 .nil pass0 (pa_cons (pv 0) (pa_cons (pv 1) pa_nil))))
    (pss_cons (ps_set (i := 4) scOpen.nd rfl (Or.inr rfl) (pv 2))
    (pss_cons (ps_while PassesOwn.never (pt_cmpR (op_neD hr.units) (pv 4) (pe_lst pa_nil) (nomark _))
      (pss_cons (ps_set (i := 4) scOpen.nd rfl (Or.inr rfl) (pe_lc (own := [("k", 5)]) (g := gName 5) (by rfl) scOpen.nd (pi_list (pv 2)) (blkOk_by (own := [("k", 5)]) (N := nsOpen) (sc := defScope sIsOpen) (by decide +kernel))
          (fun _ _ _ _ _ => pg_name (i := 5) scOpen.nd rfl (Or.inr rfl))
          (fun _ _ _ _ _ => pts_one (pt_cmpR (op_eqDK K hr.units) (pe_lc (own := [("x", 6)]) (g := gName 6) (by rfl) scOpen.nd (pi_listK K (pv 2)) (blkOk_by (own := [("x", 6)]) (N := nsOpen) (sc := relS (lcScope lcO1) (defScope sIsOpen)) (by decide +kernel))
            (fun _ _ _ _ _ => pg_name (i := 6) scOpen.nd rfl (Or.inl rfl)) (fun _ _ _ _ _ => pts_one (pt_cmpR (op_inK K) (pv 5) (pe_ix (ix_listK K) (pv 3) (pv 6) (fun _ _ => rfl)) (by rfl))) (fun _ _ _ _ _ => pv 6)) (pe_lst pa_nil) (nomark _)))
          (fun _ _ _ _ _ => pv 5)))
      (pss_one (ps_set (i := 2) scOpen.nd rfl (Or.inr rfl) (pe_lc (own := [("k", 5)]) (g := gName 5) (by rfl) scOpen.nd (pi_list (pv 2)) (blkOk_by (own := [("k", 5)]) (N := nsOpen) (sc := defScope sIsOpen) (by decide +kernel))
          (fun _ _ _ _ _ => pg_name (i := 5) scOpen.nd rfl (Or.inl rfl)) (fun _ _ _ _ _ => pts_one (pt_cmpR (op_notInK K) (pv 5) (pv 4) (by rfl))) (fun _ _ _ _ _ => pv 5))))))
    (pss_one (ps_ret (pe_cmpR (op_eqD hr.units) (pv 2) (pe_lst pa_nil) (nomark _))))))), ?_⟩
  refine q_asgL (el_listRg (n := n) (ev_ixT (ev_var rfl) ev_c ht rfl) (by omega)) fun pl H1 hpl e1 hl1 => ?_
  refine q_asgG (G := fun v H2 => ∃ p, v = .ref p ∧ LLAt H2 p ((List.range n).map (latAt (arcs es ms)))) (call_g (ea_cons (ev_var rfl) (ea_cons (ev_var rfl) ea_nil)) fun H2 e2 Q1 E1 q1 => ⟨t, a, n, es, ms, rfl, (hwo.way.mono e1).mono e2, fun p H3 hp e3 h3 => q1 (.ref p) H3 e3 ⟨p, rfl, h3⟩⟩) fun v H2 e2 hv => ?_
  obtain ⟨pt, rfl, hlat⟩ := hv
  refine q_asg (ev_var rfl) fun H3 e3 => ?_
  have hlat3 := hlat.mono e3
  -- the rounds: left is l, some is s
  refine q_while (fun m σ H' => ∃ (pl ps : Addr) (l s : List Nat), σ = [some (.ref t), some (.ref a), some (.ref pl), some (.ref pt), some (.ref ps), none, none] ∧ Ex H3 H' ∧ LAt H' pl l ∧ LAt H' ps s ∧ (∀ x ∈ l, x < n) ∧ l.length ≤ n ∧ (s = [] → l = []) ∧ m = 2 * l.length + (if s = [] then 0 else 1))
    (2 * n + 1) ⟨pl, pl, List.range n, List.range n, rfl, Ex.refl _, e3 _ _ (e2 _ _ hl1), e3 _ _ (e2 _ _ hl1), fun x hx => List.mem_range.mp hx, by rw [List.length_range]; exact Nat.le_refl _, fun h => h, by
      rw [List.length_range, if_neg (fun h => by have := congrArg List.length h; rw [List.length_range] at this; simp at this; omega)]⟩ fun m σ' H' ⟨pl, ps, l, s', e, ex, hl, hs, lt, len, emp, em⟩ => ⟨!s'.isEmpty, ?_, ?_, ?_⟩
  · subst e
    exact et_test (ev_neNilV (ev_var rfl) hs)
  · subst e
    intro hne H4 e4
    have ns : s' ≠ [] := fun z => by subst z; cases hne
    have hlat4 := (hlat3.mono ex).mono e4
    have hl4 := e4 _ _ hl
    refine ⟨fun σ' H' => ∃ m', m' < m ∧ ∃ (pl ps : Addr) (l s : List Nat), σ' = [some (.ref t), some (.ref a), some (.ref pl), some (.ref pt), some (.ref ps), none, none] ∧ Ex H3 H' ∧ LAt H' pl l ∧ LAt H' ps s ∧ (∀ x ∈ l, x < n) ∧ l.length ≤ n ∧ (s = [] → l = []) ∧ m' = 2 * l.length + (if s = [] then 0 else 1), fun _ _ h => h, ?_⟩
    -- some = [..]
    refine q_asgL (xs := NL (src (arcs es ms) l)) (el_lcN (fun k => (l.filter fun x => decide ((x, k) ∈ arcs es ms)).isEmpty) (ev_var rfl) hl4 (by omega) (by intro _; rfl) (fun k H5 e5 hk => ?_) (fun k H5 e5 hk _ => ev_var rfl)) fun p2 H5 hp2 e5 h5 => ?_
    · -- no x of left with k in later[x]
      refine et_test (ev_eqNil (el_lcN (fun x => decide ((x, k) ∈ arcs es ms)) (ev_var rfl) (e5 _ _ hl4) (by omega) (by intro _; rfl) (fun x H6 e6 hx => ?_) (fun x H6 e6 hx _ => ev_var rfl)))
      obtain ⟨las, lb, h6, h7, h8⟩ := ((hlat4.mono e5).mono e6).get (lt x hx)
      refine et_is (et_in (ev_var rfl) (ev_ixL (ev_var rfl) (ev_var rfl) h6 (ref_at h7)) h8) ?_
      by_cases c : (x, k) ∈ arcs es ms
      · rw [decide_eq_true c, List.contains_iff_mem]
        exact mem_latAt.mpr c
      · rw [decide_eq_false c]
        exact Bool.eq_false_iff.mpr fun z => c (mem_latAt.mp (List.contains_iff_mem.mp z))
    · -- left = [..]
      refine s_asgL (xs := NL (cut l (src (arcs es ms) l))) (el_lcN (fun k => !(src (arcs es ms) l).contains k) (ev_var rfl) (e5 _ _ hl4) (by omega) (by intro _; rfl) (fun k H6 e6 hk => et_notin (ev_var rfl) (ev_var rfl) (e6 _ _ h5)) (fun k H6 e6 hk _ => ev_var rfl)) fun p3 H6 hp3 e6 h6 => ?_
      have sub : ∀ x ∈ cut l (src (arcs es ms) l), x ∈ l := fun x hx => (List.mem_filter.mp hx).1
      refine ⟨_, ?_, p3, p2, _, _, rfl, ((ex.trans e4).trans e5).trans e6, h6, e6 _ _ h5, fun x hx => lt x (sub x hx), Nat.le_trans (List.length_filter_le _ _) len, fun h => ?_, rfl⟩
      · rw [em, if_neg ns]
        by_cases c : src (arcs es ms) l = []
        · have el := src_none o c
          rw [if_pos c]
          subst el
          show 2 * (cut [] _).length + 0 < _
          simp [cut]
        · rw [if_neg c]
          obtain ⟨k, r, ek⟩ : ∃ k r, src (arcs es ms) l = k :: r := by
            cases z : src (arcs es ms) l with
            | nil => exact absurd z c
            | cons k r => exact ⟨k, r, rfl⟩
          have hk : k ∈ src (arcs es ms) l := by rw [ek]; exact List.mem_cons_self
          have less := cut_less hk (src_mem hk)
          omega
      · have el := src_none o h
        subst el
        rfl
  · subst e
    intro hemp H4 e4
    have es' : s' = [] := by
      cases s' with
      | nil => rfl
      | cons x r => cases hemp
    have el := emp es'
    subst el
    exact s_ret (v := .bl true) (ev_eqNilV (ev_var rfl) (e4 _ _ hl)) fun H5 e5 => q H5 ((((e1.trans e2).trans e3).trans ex).trans (e4.trans e5))
def spOpenway : Sp := fun vs H Q _ => ∃ (t a : Addr) (n : Nat) (es : List (Nat × Nat)) (ms : List Bool) (pos : Nat → Nat), vs = [.ref t, .ref a] ∧ WayO H t a n es ms pos ∧ RetV .non H Q
theorem scOpenway : FnScope ps2 ps2 (defScope sNeedOpenway) := ⟨rfl, rfl, rfl, by decide +kernel, rfl, by decide +kernel, by decide +kernel⟩
theorem ok_openway (F : Fun K "need_openway" "need_openway" sNeedOpenway f fd) (D1 : Df P w K mg base 4 "need_webway" ps2 spWay) (D2 : Df P w K mg base 2 "is_open" ps2 spOpen) : FnOk P w K mg base CX0 5 f fd ps2 spOpenway := by
  obtain ⟨g1, gd1, G1, bG1, kG1, mG1⟩ := D1.ex
  obtain ⟨g2, gd2, G2, bG2, kG2, mG2⟩ := D2.ex
  refine F.ok scOpenway (fun vs H Q E h => ?_) (fun cdv A outer s H vs Q E hr h => ?_)
  · obtain ⟨t, a, n, es, ms, pos, rfl, _⟩ := h
    rfl
  obtain ⟨t, a, n, es, ms, pos, rfl, hw, q⟩ := h
  have hr2 : Room 2 _ := hr.mono (by decide)
  refine ⟨_, pss_cons (ps_expr (pe_call G1 hr rfl mG1 kG1 bG1 .nil pass0 (pa_cons (pv 0) (pa_cons (pv 1) pa_nil))))
    (pss_one (ps_if (pt_not (pt_val (pe_call G2 hr2 rfl mG2 kG2 bG2 .nil pass0 (pa_cons (pv 0) (pa_cons (pv 1) pa_nil))))) (pss_one ps_never) pss_nil)), ?_⟩
  refine q_drop (call_v (z := .non) (ea_cons (ev_var rfl) (ea_cons (ev_var rfl) ea_nil)) fun H1 e1 Q1 q1 E1 => ⟨t, a, n, es, ms, rfl, hw.way.mono e1, q1⟩) fun H2 e2 => ?_
  exact s_when (b := false) (et_not (a := true) (et_B (call_v (ea_cons (ev_var rfl) (ea_cons (ev_var rfl) ea_nil)) fun H1 e1 Q1 q1 E1 => ⟨t, a, n, es, ms, pos, rfl, (hw.mono e2).mono e1, q1⟩))) (fun h => by cases h) fun _ H3 e3 => q H3 (e2.trans e3)
end
end K76

/-! ## K76W6 -/
namespace K76
open PySem L2 Evl
section
variable {X : Cx}
theorem op_catAK (K : PySem.W.Frag) (h : X.K = K := by rfl) : OpR X (binaryOp .Add) (rCatA K) := h ▸ op_catA
end
section
variable {P : Program} {w : World} {K : PySem.W.Frag} {mg : Str → Option Value} {base : Heap} {f : Addr} {fd : FuncData}
variable {σ : L2.St} {H : Hp} {ta tb te : TE}
/-! ### lists of objects, told by what each is -/
def RAt {β : Type} (ob : β → HO) (H : Hp) (a : Addr) (ys : List β) : Prop := ∃ as : List Addr, H a = some (.lst (as.map V.ref)) ∧ as.length = ys.length ∧ ∀ (i : Nat) (b : Addr) (y : β), as[i]? = some b → ys[i]? = some y → H b = some (ob y)
theorem RAt.mono {β : Type} {ob : β → HO} {H H' : Hp} (e : Ex H H') {a : Addr} {ys : List β} (h : RAt ob H a ys) : RAt ob H' a ys := by
  obtain ⟨as, h1, h2, h3⟩ := h
  exact ⟨as, e _ _ h1, h2, fun i b y hb hy => e _ _ (h3 i b y hb hy)⟩
abbrev obL : List Nat → HO := fun xs => .lst (NL xs)
abbrev obT : List Nat → HO := fun xs => .tup (NL xs)
theorem RAt.ll {H : Hp} {a : Addr} {xss : List (List Nat)} (h : RAt obL H a xss) : LLAt H a xss := h
theorem LLAt.r {H : Hp} {a : Addr} {xss : List (List Nat)} (h : LLAt H a xss) : RAt obL H a xss := h
def EvR {β : Type} (ob : β → HO) (te : TE) (σ : L2.St) (H : Hp) (ys : List β) : Prop := ∀ H1, Ex H H1 → ∀ Q : VK, (∀ p H2, H1 p = none → Ex H1 H2 → RAt ob H2 p ys → Q (.ref p) H2) → te σ H1 Q
theorem q_asgR {β : Type} {ob : β → HO} {ys : List β} {D : Ends} {tz : TS} {i : Nat} (h : EvR ob te σ H ys) (k : ∀ p H1, H p = none → Ex H H1 → RAt ob H1 p ys → tz D (σ.set i (some (.ref p))) H1) : tSeq (tAsg te (gName i)) tz D σ H := h H (Ex.refl H) _ fun p H1 hp e h1 => k p H1 hp e h1
theorem s_asgR {β : Type} {ob : β → HO} {ys : List β} {D : Ends} {i : Nat} (h : EvR ob te σ H ys) (k : ∀ p H1, H p = none → Ex H H1 → RAt ob H1 p ys → D.nx (σ.set i (some (.ref p))) H1) : tAsg te (gName i) D σ H := h H (Ex.refl H) _ fun p H1 hp e h1 => k p H1 hp e h1
/-- rows + rows -/
theorem er_cat {β : Type} {ob : β → HO} {p : Addr} {xs ys : List β} (ha : Ev ta σ H (.ref p)) (hp : RAt ob H p xs) (hb : EvR ob tb σ H ys) (hz : xs.length + ys.length ≤ 100000) : EvR ob (tOp rCat ta tb) σ H (xs ++ ys) := fun H1 e Q k =>
  ha H1 e _ fun H2 e2 => hb H2 (e.trans e2) _ fun q H3 hq0 e3 hq => by
    obtain ⟨as, a1, a2, a3⟩ := hp.mono ((e.trans e2).trans e3)
    obtain ⟨bs, b1, b2, b3⟩ := hq
    refine ⟨p, q, _, _, rfl, rfl, a1, b1, sz_of (by rw [List.length_map, List.length_map, a2, b2]; exact hz), fun r hr => k r _ (fresh_back (e2.trans e3) hr) ((e2.trans e3).trans (Ex.new hr)) ⟨as ++ bs, by rw [upd_same, List.map_append], by rw [List.length_append, List.length_append, a2, b2], fun i b y hb hy => ?_⟩⟩
    refine Ex.new hr _ _ ?_
    by_cases c : i < as.length
    · rw [List.getElem?_append_left c] at hb
      rw [List.getElem?_append_left (by omega)] at hy
      exact a3 i b y hb hy
    · rw [List.getElem?_append_right (by omega)] at hb
      rw [List.getElem?_append_right (by omega), ← a2] at hy
      exact b3 _ b y hb hy
/-! ### comprehensions whose elements are objects -/
structure CR {β : Type} (ob : β → HO) (H0 H : Hp) (D : Addr) (ys : List β) : Prop where
  new : H0 D = none
  ex : Ex H0 H
  at_ : ∃ as : List Addr, H D = some (.lst (as.map V.ref)) ∧ as.length = ys.length ∧ D ∉ as ∧ ∀ (i : Nat) (b : Addr) (y : β), as[i]? = some b → ys[i]? = some y → H b = some (ob y)
theorem CR.rat {β : Type} {ob : β → HO} {H0 H : Hp} {D : Addr} {ys : List β} (c : CR ob H0 H D ys) : RAt ob H D ys := by
  obtain ⟨as, h1, h2, _, h3⟩ := c.at_
  exact ⟨as, h1, h2, h3⟩
theorem CR.start {β : Type} {ob : β → HO} {H : Hp} {D : Addr} (h : H D = none) : CR ob H (upd H D (.lst [])) D [] := ⟨h, Ex.new h, [], upd_same, rfl, (fun m => nomatch m), fun i b y hb => by simp at hb⟩
theorem cr_turn {β : Type} {ob : β → HO} {H0 H' : Hp} {D : Addr} {ys : List β} {y : β} {b : Bool} {t : TT} {σ2 : L2.St} {zs : List β} (c : CR ob H0 H' D ys) (hz : ys.length < 50000) (ht : EvT t σ2 H0 b) (hzs : zs = if b = true then ys ++ [y] else ys)
    (he : b = true → ∀ H3, Ex H0 H3 → (∃ o, H3 D = some o) → ∀ Q : VK, (∀ c H4, Ex H3 H4 → H4 c = some (ob y) → c ≠ D → Q (.ref c) H4) → te σ2 H3 Q) :
    t σ2 H' fun b H3 => if b = true then te σ2 H3 fun v H4 => ∃ acc, H4 D = some (.lst acc) ∧ acc.length < sizeLine ∧ CR ob H0 (upd H4 D (.lst (acc ++ [v]))) D zs else CR ob H0 H3 D zs := by
  refine ht H' c.ex _ fun H3 e3 => ?_
  obtain ⟨as, a1, a2, an, a3⟩ := c.at_
  have a1 := e3 _ _ a1
  cases hb : b with
  | true =>
    rw [hb, if_pos rfl] at hzs
    show te σ2 H3 fun v H4 => ∃ acc, H4 D = some (.lst acc) ∧ acc.length < sizeLine ∧ CR ob H0 (upd H4 D (.lst (acc ++ [v]))) D zs
    refine he hb H3 (c.ex.trans e3) ⟨_, a1⟩ _ fun d H4 e4 h4 nd => ⟨_, e4 _ _ a1, sz_lt (by rw [List.length_map, a2]; omega), c.new, ((c.ex.trans e3).trans e4).mut c.new, as ++ [d], by rw [upd_same, List.map_append]; rfl, by rw [hzs, List.length_append, List.length_append, a2]; rfl, fun m => ?_, fun i b y' hb' hy' => ?_⟩
    · rcases List.mem_append.mp m with m | m
      · exact an m
      · exact nd (by simpa using m : D = d).symm
    rw [hzs] at hy'
    by_cases k : i < as.length
    · rw [List.getElem?_append_left k] at hb'
      rw [List.getElem?_append_left (by omega)] at hy'
      have nb : b ≠ D := fun z => an (z ▸ List.mem_of_getElem? hb')
      rw [upd_ne nb]
      exact e4 _ _ (e3 _ _ (a3 i b y' hb' hy'))
    · rw [List.getElem?_append_right (by omega)] at hb'
      rw [List.getElem?_append_right (by omega), ← a2] at hy'
      have z : i - as.length = 0 := by
        cases z : i - as.length with
        | zero => rfl
        | succ m => rw [z] at hb'; simp at hb'
      rw [z] at hb' hy'
      have e1 : d = b := by simpa using hb'
      have e2 : y = y' := by simpa using hy'
      subst e1 e2
      rw [upd_ne nd]
      exact h4
  | false =>
    rw [hb, if_neg (by decide)] at hzs
    show CR ob H0 H3 D zs
    rw [hzs]
    exact ⟨c.new, c.ex.trans e3, as, a1, a2, an, fun i b y hb hy => e3 _ _ (a3 i b y hb hy)⟩
/-- the turns that give, one more -/
theorem pick_succ {β : Type} (n : Nat) (f : Nat → Bool) (u : Nat → β) : ((List.range (n + 1)).filter f).map u = if f n = true then ((List.range n).filter f).map u ++ [u n] else ((List.range n).filter f).map u := by
  rw [List.range_succ, List.filter_append, List.map_append]
  cases h : f n with
  | true =>
    rw [if_pos rfl, List.filter_cons, if_pos h]
    rfl
  | false =>
    rw [if_neg (by decide), List.filter_cons, if_neg (by rw [h]; decide)]
    show _ ++ [] = _
    rw [List.append_nil]
theorem pick_len {β : Type} (n : Nat) (f : Nat → Bool) (u : Nat → β) : (((List.range n).filter f).map u).length ≤ n := by
  rw [List.length_map]
  have h := List.length_filter_le f (List.range n)
  rwa [List.length_range] at h
/-- what an element's reading has to bring: an object as ob y says, not the list that is being made -/
def Elt {β : Type} (ob : β → HO) (te : TE) (σ : L2.St) (H : Hp) (y : β) : Prop := ∀ (D : Addr) H3, H D = none → Ex H H3 → (∃ o, H3 D = some o) → ∀ Q : VK, (∀ c H4, Ex H3 H4 → H4 c = some (ob y) → c ≠ D → Q (.ref c) H4) → te σ H3 Q
theorem Elt.of_new {β : Type} {ob : β → HO} {y : β} (h : ∀ H1, Ex H H1 → ∀ Q : VK, (∀ p H2, H1 p = none → Ex H1 H2 → H2 p = some (ob y) → Q (.ref p) H2) → te σ H1 Q) : Elt ob te σ H y := fun D H3 hD e3 h3 Q q =>
  h H3 e3 Q fun p H4 hp e4 h4 => q p H4 e4 h4 (by
    obtain ⟨o, h3⟩ := h3
    exact (ne_of_none h3 hp).symm)
theorem Elt.of_l {xs : List Nat} (h : EvL te σ H (NL xs)) : Elt obL te σ H xs := .of_new h
theorem Elt.of_u {xs : List Nat} (h : EvU te σ H (NL xs)) : Elt obT te σ H xs := .of_new h
theorem Elt.of_old {β : Type} {ob : β → HO} {y : β} {c : Addr} (h : Ev te σ H (.ref c)) (hc : H c = some (ob y)) : Elt ob te σ H y := fun D H3 hD e3 _ Q q =>
  h H3 e3 Q fun H4 e4 => q c H4 e4 (e4 _ _ (e3 _ _ hc)) (ne_of_none hc hD)
theorem er_lcR1 {β : Type} {ob : β → HO} {tA : TA} {t : TT} {j : Nat} {vs : List Nat} {n : Nat} (f : Nat → Bool) (u : Nat → β) (h : EvA tA σ H [.int (n : Int)]) (hn : n ≤ 40000) (hw : ∀ x, wipe ((wipe σ vs).set j (some x)) vs = wipe σ vs)
    (ht : ∀ (i : Nat) H1, Ex H H1 → i < n → EvT t ((wipe σ vs).set j (some (.int (i : Int)))) H1 (f i)) (he : ∀ (i : Nat) H1, Ex H H1 → i < n → f i = true → Elt ob te ((wipe σ vs).set j (some (.int (i : Int)))) H1 (u i)) :
    EvR ob (tLc (iRng1 tA) (gName j) t te vs) σ H (((List.range n).filter f).map u) := fun H0 e Q q => h H0 e _ fun H1 e1 => ⟨n, rfl, by omega, by omega, fun D hD => by
  rw [show ((n : Int)).toNat = n by omega]
  exact lc_range (lo := 0) (n := n) (fun i H' => CR ob H1 H' D (((List.range i).filter f).map u)) (CR.start hD) (fun i H' hi c => ⟨hw _, by
    show t ((wipe σ vs).set j (some (.int ((0 : Int) + (i : Int))))) H' fun b H3 => if b = true then te ((wipe σ vs).set j (some (.int ((0 : Int) + (i : Int))))) H3 fun y H4 => ∃ acc, H4 D = some (.lst acc) ∧ acc.length < sizeLine ∧ CR ob H1 (upd H4 D (.lst (acc ++ [y]))) D (((List.range (i + 1)).filter f).map u) else CR ob H1 H3 D (((List.range (i + 1)).filter f).map u)
    rw [Int.zero_add]
    exact cr_turn (y := u i) c (by have := pick_len i f u; omega) (ht i H1 (e.trans e1) hi) (pick_succ i f u) fun hf H3 e3 h3 => he i H1 (e.trans e1) hi hf D H3 hD e3 h3⟩) fun H' c => q D H' (fresh_back e1 hD) (e1.trans c.ex) c.rat⟩
theorem er_lcV {β : Type} {ob : β → HO} {a : Addr} {xs : List V} {tl : TE} {t : TT} {j : Nat} {vs : List Nat} (f : Nat → Bool) (u : Nat → β) (h : Ev tl σ H (.ref a)) (hx : H a = some (.lst xs)) (hz : xs.length ≤ 40000) (hw : ∀ x, wipe ((wipe σ vs).set j (some x)) vs = wipe σ vs)
    (ht : ∀ (i : Nat) (x : V) H1, Ex H H1 → xs[i]? = some x → EvT t ((wipe σ vs).set j (some x)) H1 (f i)) (he : ∀ (i : Nat) (x : V) H1, Ex H H1 → xs[i]? = some x → f i = true → Elt ob te ((wipe σ vs).set j (some x)) H1 (u i)) :
    EvR ob (tLc (iList K tl) (gName j) t te vs) σ H (((List.range xs.length).filter f).map u) := fun H0 e Q q => h H0 e _ fun H1 e1 => ⟨a, rfl, ⟨xs, SqL.of (e1 _ _ (e _ _ hx))⟩, fun D hD =>
  lc_list (xs := xs) (fun i H' => CR ob H1 H' D (((List.range i).filter f).map u)) (CR.start hD) (fun i H' _ c => SqL.of (c.ex _ _ (e1 _ _ (e _ _ hx)))) (fun i x H' hi c => ⟨hw x,
    cr_turn (y := u i) c (by have := pick_len i f u; have := (List.getElem?_eq_some_iff.mp hi).1; omega) (ht i x H1 (e.trans e1) hi) (pick_succ i f u) fun hf H3 e3 h3 => he i x H1 (e.trans e1) hi hf D H3 hD e3 h3⟩) fun H' c => q D H' (fresh_back e1 hD) (e1.trans c.ex) c.rat⟩
theorem range_getD {α : Type} [Inhabited α] (xs : List α) : (List.range xs.length).map (fun i => xs.getD i default) = xs := by
  apply List.ext_getElem?
  intro i
  rw [List.getElem?_map]
  by_cases h : i < xs.length
  · rw [List.getElem?_range h, List.getElem?_eq_getElem h, Option.map_some, List.getD_eq_getElem?_getD, List.getElem?_eq_getElem h]
    rfl
  · rw [List.getElem?_eq_none (by rw [List.length_range]; omega), List.getElem?_eq_none (by omega)]
    rfl
theorem pick_all {α β : Type} [Inhabited α] (xs : List α) (p : α → Bool) (u : α → β) : ((List.range xs.length).filter fun i => p (xs.getD i default)).map (fun i => u (xs.getD i default)) = (xs.filter p).map u := by
  have e := range_getD xs
  have h1 : (((List.range xs.length).map fun i => xs.getD i default).filter p).map u = (xs.filter p).map u := by rw [e]
  rw [← h1, List.filter_map, List.map_map]
  rfl
/-- over a list of objects -/
theorem er_lcR {α β : Type} [Inhabited α] {oa : α → HO} {ob : β → HO} {a : Addr} {xs : List α} {tl : TE} {t : TT} {j : Nat} {vs : List Nat} (p : α → Bool) (u : α → β) (h : Ev tl σ H (.ref a)) (hx : RAt oa H a xs) (hz : xs.length ≤ 40000) (hw : ∀ x, wipe ((wipe σ vs).set j (some x)) vs = wipe σ vs)
    (ht : ∀ (c : Addr) (x : α) H1, Ex H H1 → H1 c = some (oa x) → x ∈ xs → EvT t ((wipe σ vs).set j (some (.ref c))) H1 (p x)) (he : ∀ (c : Addr) (x : α) H1, Ex H H1 → H1 c = some (oa x) → x ∈ xs → p x = true → Elt ob te ((wipe σ vs).set j (some (.ref c))) H1 (u x)) :
    EvR ob (tLc (iList K tl) (gName j) t te vs) σ H ((xs.filter p).map u) := by
  obtain ⟨as, h1, h2, h3⟩ := hx
  have q := er_lcV (K := K) (ob := ob) (t := t) (te := te) (j := j) (vs := vs) (fun i => p (xs.getD i default)) (fun i => u (xs.getD i default)) h h1 (by rw [List.length_map, h2]; exact hz) hw
    (fun i x H1 e hi => by
      rw [List.getElem?_map] at hi
      obtain ⟨c, hc, rfl⟩ := Option.map_eq_some_iff.mp hi
      have hil : i < xs.length := by rw [← h2]; exact (List.getElem?_eq_some_iff.mp hc).1
      have hxi : xs[i]? = some (xs.getD i default) := by rw [List.getD_eq_getElem?_getD, List.getElem?_eq_getElem hil]; rfl
      exact ht c _ H1 e (e _ _ (h3 i c _ hc hxi)) (List.mem_of_getElem? hxi))
    (fun i x H1 e hi hp => by
      rw [List.getElem?_map] at hi
      obtain ⟨c, hc, rfl⟩ := Option.map_eq_some_iff.mp hi
      have hil : i < xs.length := by rw [← h2]; exact (List.getElem?_eq_some_iff.mp hc).1
      have hxi : xs[i]? = some (xs.getD i default) := by rw [List.getD_eq_getElem?_getD, List.getElem?_eq_getElem hil]; rfl
      exact he c _ H1 e (e _ _ (h3 i c _ hc hxi)) (List.mem_of_getElem? hxi) hp)
  rw [List.length_map, h2, pick_all xs p u] at q
  exact q
/-- numbers out of a list of objects -/
theorem el_lcO {α : Type} [Inhabited α] {oa : α → HO} {a : Addr} {xs : List α} {tl : TE} {j : Nat} {vs : List Nat} (u : α → Nat) (h : Ev tl σ H (.ref a)) (hx : RAt oa H a xs) (hz : xs.length ≤ 40000) (hw : ∀ x, wipe ((wipe σ vs).set j (some x)) vs = wipe σ vs)
    (he : ∀ (c : Addr) (x : α) H1, Ex H H1 → H1 c = some (oa x) → x ∈ xs → Ev te ((wipe σ vs).set j (some (.ref c))) H1 (.int (u x : Int))) :
    EvL (tLc (iList K tl) (gName j) tYes te vs) σ H (NL (xs.map u)) := by
  obtain ⟨as, h1, h2, h3⟩ := hx
  have q := el_lcL (K := K) (t := tYes) (te := te) (j := j) (vs := vs) (fun _ => true) (fun i => V.int ((u (xs.getD i default) : Nat) : Int)) h (SqL.of h1) (by rw [List.length_map, h2]; exact hz) hw
    (fun i x H1 e hi => fun H2 e2 Q q => q H2 (Ex.refl H2))
    (fun i x H1 e hi _ => by
      rw [List.getElem?_map] at hi
      obtain ⟨c, hc, rfl⟩ := Option.map_eq_some_iff.mp hi
      have hil : i < xs.length := by rw [← h2]; exact (List.getElem?_eq_some_iff.mp hc).1
      have hxi : xs[i]? = some (xs.getD i default) := by rw [List.getD_eq_getElem?_getD, List.getElem?_eq_getElem hil]; rfl
      exact he c _ H1 e (e _ _ (h3 i c _ hc hxi)) (List.mem_of_getElem? hxi))
  have z : given (as.map V.ref).length (fun _ => true) (fun i => V.int ((u (xs.getD i default) : Nat) : Int)) = NL (xs.map u) := by
    unfold given NL
    have e := range_getD xs
    rw [List.length_map, h2, List.filter_eq_self.mpr (fun _ _ => rfl), List.map_map]
    have h1 : ((List.range xs.length).map fun i => xs.getD i default).map (fun x => V.int ((u x : Nat) : Int)) = xs.map (fun x => V.int ((u x : Nat) : Int)) := by rw [e]
    rw [List.map_map] at h1
    exact h1
  rw [z] at q
  exact q
/-- over a tuple of whole numbers -/
theorem el_lcNT {a : Addr} {xs : List Nat} {tl : TE} {t : TT} {j : Nat} {vs : List Nat} (p : Nat → Bool) (h : Ev tl σ H (.ref a)) (hx : H a = some (.tup (NL xs))) (hz : xs.length ≤ 40000) (hw : ∀ x, wipe ((wipe σ vs).set j (some x)) vs = wipe σ vs)
    (ht : ∀ (x : Nat) H1, Ex H H1 → x ∈ xs → EvT t ((wipe σ vs).set j (some (.int (x : Int)))) H1 (p x)) (he : ∀ (x : Nat) H1, Ex H H1 → x ∈ xs → p x = true → Ev te ((wipe σ vs).set j (some (.int (x : Int)))) H1 (.int (x : Int))) :
    EvL (tLc (iTup K tl) (gName j) t te vs) σ H (NL (xs.filter p)) := by
  have q := el_lcT (K := K) (t := t) (te := te) (g := gName j) (vs := vs) (fun i => p (xs.getD i 0)) (fun i => V.int ((xs.getD i 0 : Nat) : Int)) h hx (by rw [NL_len]; exact hz)
    (fun i x H1 Q e hi k => by
      obtain ⟨n, hn, rfl⟩ := NL_get hi
      have en : xs.getD i 0 = n := by rw [List.getD_eq_getElem?_getD, hn]; rfl
      refine k _ (hw _) ?_ fun hp => ?_
      · show EvT t _ H1 (p (xs.getD i 0))
        rw [en]
        exact ht n H1 e (List.mem_of_getElem? hn)
      · have hp' : p (xs.getD i 0) = true := hp
        rw [en] at hp'
        show Ev te _ H1 (V.int ((xs.getD i 0 : Nat) : Int))
        rw [en]
        exact he n H1 e (List.mem_of_getElem? hn) hp')
  rw [NL_len, given_take xs p xs.length (Nat.le_refl _), List.take_length] at q
  exact q
/-! ### tuples put together, the greatest -/
theorem eu_catA {p : Addr} {xs : List V} {y : V} (ha : Ev ta σ H (.ref p)) (hp : H p = some (.tup xs)) (hb : Ev tb σ H y) (hz : xs.length ≤ 10000) : ∀ H1, Ex H H1 → ∀ Q : VK, (∀ q H2, H1 q = none → Ex H1 H2 → H2 q = some (.tup (xs ++ [y])) → Q (.ref q) H2) → tOp (rCatA K) ta (tTup (tCons tb tNil)) σ H1 Q := fun H1 e Q k =>
  ha H1 e _ fun H2 e2 => hb H2 (e.trans e2) _ fun H3 e3 => ⟨(by show 1 ≤ sizeLine; decide), fun q hq => by
    have eq := Ex.new (o := .tup [y]) hq
    have h5 : (upd H3 q (.tup [y])) p = some (.tup xs) := eq _ _ (e3 _ _ (e2 _ _ (e _ _ hp)))
    refine ⟨p, q, xs, [y], rfl, rfl, SqT.of h5, SqT.of upd_same, sz_of (by simp; omega), fun hn => ?_, fun _ h => (nomatch h), fun _ _ r hr => ?_⟩
    · subst hn
      exact k q _ (fresh_back (e2.trans e3) hq) ((e2.trans e3).trans eq) upd_same
    · exact k r _ (fresh_back (e2.trans e3) (fresh_back eq hr)) (((e2.trans e3).trans eq).trans (Ex.new hr)) upd_same⟩
theorem eg_max {ys : List Nat} (h : EvL tb σ H (NL ys)) (hl : ys ≠ []) : EvG (tCB (rMax K) (tCons tb tNil)) σ H (fun v _ => ∃ m : Nat, v = .int (m : Int) ∧ m ∈ ys ∧ ∀ y ∈ ys, y ≤ m) := fun H1 e Q q =>
  h H1 e _ fun p H2 hp e2 h2 => ⟨p, IL ys, rfl, SqL.of (by rw [← NL_IL]; exact h2), (by
    unfold IL
    rw [List.length_map]
    exact List.length_pos_iff.mpr hl), fun m hm hle => by
    obtain ⟨k, hk, rfl⟩ := mem_IL.mp hm
    exact q _ H2 e2 ⟨k, rfl, hk, fun y hy => by
      have := hle (y : Int) (mem_IL.mpr ⟨y, hy, rfl⟩)
      omega⟩⟩
theorem rowsOf_lt (r : Nat → Nat → Bool) : ∀ (n : Nat) (l : List Nat), l ∈ rowsOf r n → ∀ x ∈ l, x < n
  | 0, l, h, x, hx => by
    have e : l = [] := by simpa [rowsOf] using h
    subst e
    cases hx
  | n + 1, l, h, x, hx => by
    rcases List.mem_append.mp h with h | h
    · exact Nat.lt_succ_of_lt (rowsOf_lt r n l h x hx)
    · obtain ⟨one, ho, rfl⟩ := List.mem_map.mp h
      rcases List.mem_append.mp hx with hx | hx
      · exact Nat.lt_succ_of_lt (rowsOf_lt r n one (List.mem_filter.mp ho).1 x hx)
      · have e : x = n := by simpa using hx
        rw [e]
        exact Nat.lt_succ_self _
theorem rowsOf_len (r : Nat → Nat → Bool) : ∀ n : Nat, (rowsOf r n).length ≤ 2 ^ n ∧ ∀ l ∈ rowsOf r n, l.length ≤ n
  | 0 => ⟨by simp [rowsOf], fun l h => by
    have e : l = [] := by simpa [rowsOf] using h
    rw [e]
    exact Nat.le_refl _⟩
  | n + 1 => by
    obtain ⟨h1, h2⟩ := rowsOf_len r n
    constructor
    · show (rowsStep r (rowsOf r n) n).length ≤ _
      unfold rowsStep
      rw [List.length_append, List.length_map, Nat.pow_succ]
      have q := List.length_filter_le (fun one => (one.filter fun x => clash r n x).isEmpty) (rowsOf r n)
      omega
    · intro l h
      rcases List.mem_append.mp h with h | h
      · exact Nat.le_succ_of_le (h2 l h)
      · obtain ⟨one, ho, rfl⟩ := List.mem_map.mp h
        have q := h2 one (List.mem_filter.mp ho).1
        rw [List.length_append]
        exact Nat.succ_le_succ q
theorem rowsOf_ne (r : Nat → Nat → Bool) : ∀ n : Nat, rowsOf r n ≠ []
  | 0 => by simp [rowsOf]
  | n + 1 => fun h => rowsOf_ne r n (List.append_eq_nil_iff.mp h).1
theorem pow6 {n : Nat} (h : n ≤ 6) : 2 ^ n ≤ 64 := Nat.pow_le_pow_right (by decide) h
/-! ### widest_in, widest -/
/-- goes before, by lists -/
def rel (B : Nat → List Nat) (x y : Nat) : Bool := (B y).contains x
def spWidestIn : Sp := fun vs H Q _ => ∃ (p : Addr) (n : Nat) (B : Nat → List Nat), vs = [.ref p] ∧ LLAt H p ((List.range n).map B) ∧ n ≤ 6 ∧ ∀ (m : Nat) H2, Ex H H2 → IsWide (rel B) n m → Q (.int (m : Int)) H2
abbrev nsWidest : List Str := ["before", "rows", "k", "one", "x"]
theorem scWidestIn : FnScope nsWidest ["before"] (defScope sWidestIn) := ⟨rfl, rfl, rfl, by decide +kernel, rfl, by decide +kernel, by decide +kernel⟩
def binR : Expr → Expr
  | .BinOp _ _ e _ => e
  | e => e
abbrev lcW1 : Expr := binR (asgVal (nthS (whBody (nthS (defBody sWidestIn) 1)) 0))
theorem LLAt.lenEq {H : Hp} {p : Addr} {n : Nat} {B : Nat → List Nat} (h : LLAt H p ((List.range n).map B)) : ∃ as : List Addr, H p = some (.lst (as.map V.ref)) ∧ as.length = n := by
  obtain ⟨as, h1, h2, _⟩ := h
  exact ⟨as, h1, by rw [h2, List.length_map, List.length_range]⟩
theorem ok_widestin (T : Mg mg) (F : Fun K "widest_in" "widest_in" sWidestIn f fd) : FnOk P w K mg base CX0 1 f fd ["before"] spWidestIn := by
  refine F.ok scWidestIn (fun vs H Q E h => ?_) (fun cdv A outer s H vs Q E hr h => ?_)
  · obtain ⟨p, n, B, rfl, _⟩ := h
    rfl
  obtain ⟨p, n, B, rfl, hB, n6, q⟩ := h
  obtain ⟨as, hp, hal⟩ := hB.lenEq
  refine ⟨_, pss_cons (ps_set (i := 1) scWidestIn.nd rfl (Or.inl rfl) (pe_lst (pa_cons (pe_tup pa_nil) pa_nil)))
    (pss_cons (ps_for PassesOwn.never rfl (pi_range1 (by rfl) T.range (pa_cons (pe_callB (call_lenK K) (by rfl) T.len PySem.boot_len (pa_cons (pv 0) pa_nil)) pa_nil)) (pg_name (i := 2) scWidestIn.nd rfl (.inr rfl))
      (pss_one (ps_set (i := 1) scWidestIn.nd rfl (Or.inl rfl) (pe_op op_cat (pv 1) (pe_lc (own := [("one", 3)]) (g := gName 3) (by rfl) scWidestIn.nd (pi_listK K (pv 1)) (blkOk_by (own := [("one", 3)]) (N := nsWidest) (sc := defScope sWidestIn) (by decide +kernel))
        (fun _ _ _ _ _ => pg_name (i := 3) scWidestIn.nd rfl (Or.inl rfl))
        (fun _ _ _ _ _ => pts_one (pt_cmpR (op_eqDK K hr.units) (pe_lc (own := [("x", 4)]) (g := gName 4) (by rfl) scWidestIn.nd (pi_tupK K (pv 3)) (blkOk_by (own := [("x", 4)]) (N := nsWidest) (sc := relS (lcScope lcW1) (defScope sWidestIn)) (by decide +kernel))
          (fun _ _ _ _ _ => pg_name (i := 4) scWidestIn.nd rfl (Or.inl rfl))
          (fun _ _ _ _ _ => pts_one (PW.pt (pw_or (pt_cmpR (op_inK K) (pv 4) (pe_ix (ix_listK K) (pv 0) (pv 2) (fun _ _ => rfl)) (by rfl)) (pw_or1 (pt_cmpR (op_inK K) (pv 2) (pe_ix (ix_listK K) (pv 0) (pv 4) (fun _ _ => rfl)) (by rfl))))))
          (fun _ _ _ _ _ => pv 4)) (pe_lst pa_nil) (nomark _)))
        (fun _ _ _ _ _ => pe_op (op_catAK K) (pv 3) (pe_tup (pa_cons (pv 2) pa_nil))))))))
    (pss_one (ps_ret (pe_callB (cr_max rfl) (by rfl) T.max (by decide +kernel) (pa_cons (pe_lc (own := [("one", 3)]) (g := gName 3) (tt := tYes) (by rfl) scWidestIn.nd (pi_listK K (pv 1)) (blkOk_by (own := [("one", 3)]) (N := nsWidest) (sc := defScope sWidestIn) (by decide +kernel))
      (fun _ _ _ _ _ => pg_name (i := 3) scWidestIn.nd rfl (Or.inl rfl)) (fun _ _ _ _ _ => pts_nil) (fun _ _ _ _ _ => pe_callB (call_lenK K) (by rfl) T.len PySem.boot_len (pa_cons (pv 3) pa_nil))) pa_nil))))), ?_⟩
  -- rows = [()]
  refine q_asgR (ob := obT) (ys := rowsOf (rel B) 0) (fun H1 e1 Q1 q1 => ⟨(by show 0 ≤ sizeLine; decide), fun c hc => ⟨(by show 1 ≤ sizeLine; decide), fun l hl => ?_⟩⟩) fun p1 H1 hp1 e1 h1 => ?_
  · have ec := Ex.new (o := .tup []) hc
    refine q1 l _ (fresh_back ec hl) (ec.trans (Ex.new hl)) ⟨[c], upd_same, rfl, fun i b y hb hy => ?_⟩
    match i, hb, hy with
    | 0, hb, hy =>
      have eb : c = b := by simpa using hb
      have ey : y = [] := by simpa [rowsOf] using hy.symm
      subst eb ey
      exact Ex.new hl _ _ upd_same
    | i + 1, hb, hy => simp at hb
  -- for k in range(len(before))
  have hlen : Ev (tCB (rLenS K) (tCons (tVar 0) tNil)) ((start nsWidest [.ref p]).set 1 (some (.ref p1))) H1 (.int (n : Int)) := ev_is (ev_lenL (ev_var rfl) (e1 _ _ hp)) (by rw [List.length_map, hal])
  refine q_forR1 (n := (n : Int)) (ea_cons hlen ea_nil) ⟨by omega, by omega⟩
    (fun i σ H' => ∃ (p2 : Addr) (x2 : Option V), σ = [some (.ref p), some (.ref p2), x2, none, none] ∧ Ex H H' ∧ RAt obT H' p2 (rowsOf (rel B) i)) (fun H2 e2 => ⟨p1, _, rfl, e1.trans e2, h1.mono e2⟩) ?_ ?_
  · rintro i σ H' hi ⟨p2, x2, rfl, ex, hrow⟩
    have hin : i < n := by omega
    have l64 : (rowsOf (rel B) i).length ≤ 64 := Nat.le_trans (rowsOf_len (rel B) i).1 (pow6 (by omega))
    have hBat : ∀ (H4 : Hp) (y : Nat), Ex H' H4 → y < n → ∃ (as : List Addr) (b : Addr), H4 p = some (.lst (as.map V.ref)) ∧ as[y]? = some b ∧ LAt H4 b (B y) := fun H4 y e4 hy => (hB.mono (ex.trans e4)).get hy
    have hcomp := er_lcR (K := K) (ob := obT) (oa := obT) (t := tTest (tOp (rEqD K) (tLc (iTup K (tVar 3)) (gName 4) (tOr (tTest (tOp (rIn K false) (tVar 4) (tOp (rIxL K) (tVar 0) (tVar 2)))) (tTest (tOp (rIn K false) (tVar 2) (tOp (rIxL K) (tVar 0) (tVar 4))))) (tVar 4) [4]) (tLst tNil)))
      (te := tOp (rCatA K) (tVar 3) (tTup (tCons (tVar 2) tNil))) (σ := [some (.ref p), some (.ref p2), some (.int (i : Int)), none, none]) (H := H') (j := 3) (vs := [3]) (tl := tVar 1)
      (fun one => (one.filter fun x => clash (rel B) i x).isEmpty) (fun one => one ++ [i]) (ev_var rfl) hrow (by omega) (by intro _; rfl)
      (fun c one H3 e3 hc hm => by
        have lt1 := rowsOf_lt (rel B) i one hm
        refine et_test (ev_eqNil (el_lcNT (fun x => clash (rel B) i x) (ev_var rfl) hc (by have := (rowsOf_len (rel B) i).2 one hm; omega) (by intro _; rfl) (fun x H4 e4 hx => ?_) (fun x H4 e4 hx _ => ev_var rfl)))
        have hxi := lt1 x hx
        obtain ⟨bs, bi, b1, b2, b3⟩ := hBat H4 i (e3.trans e4) hin
        obtain ⟨cs, bx, c1, c2, c3⟩ := hBat H4 x (e3.trans e4) (by omega)
        exact et_or (a := rel B x i) (b := rel B i x) (et_in (ev_var rfl) (ev_ixL (ev_var rfl) (ev_var rfl) b1 (ref_at b2)) b3) fun _ => et_in (ev_var rfl) (ev_ixL (ev_var rfl) (ev_var rfl) c1 (ref_at c2)) c3)
      (fun c one H3 e3 hc hm _ => .of_new (fun H4 e4 Q4 q4 => eu_catA (xs := NL one) (y := .int (i : Int)) (ev_var rfl) hc (ev_var rfl) (by rw [NL_len]; have := (rowsOf_len (rel B) i).2 one hm; omega) H4 e4 Q4 fun r H5 hr e5 h5 => q4 r H5 hr e5 (by
        rw [h5]
        show _ = some (HO.tup (NL (one ++ [i])))
        rw [NL_app]
        rfl)))
    refine s_asgR (er_cat (ev_var rfl) hrow hcomp (by
      rw [List.length_map]
      have := List.length_filter_le (fun one => (one.filter fun x => clash (rel B) i x).isEmpty) (rowsOf (rel B) i)
      omega)) fun p3 H3 hp3 e3 h3 => ⟨p3, _, rfl, ex.trans e3, h3⟩
  · rintro σ H' ⟨p2, x2, rfl, ex, hrow⟩
    rw [show ((n : Int)).toNat = n by omega] at hrow
    have l64 : (rowsOf (rel B) n).length ≤ 64 := Nat.le_trans (rowsOf_len (rel B) n).1 (pow6 n6)
    refine s_retG (eg_max (ys := (rowsOf (rel B) n).map List.length) (el_lcO List.length (ev_var rfl) hrow (by omega) (by intro _; rfl) (fun c one H3 e3 hc hm => ev_is (ev_lenT (ev_var rfl) hc) (by rw [NL_len]))) (fun h => rowsOf_ne _ _ (List.map_eq_nil_iff.mp h))) fun v H3 e3 hv => ?_
    obtain ⟨m, rfl, hm, hle⟩ := hv
    obtain ⟨l, hl, el⟩ := List.mem_map.mp hm
    exact q m H3 (ex.trans e3) ⟨⟨l, hl, el⟩, fun l' hl' => hle _ (List.mem_map.mpr ⟨l', hl', rfl⟩)⟩
end
end K76

/-! ## K76W7 -/
namespace K76
open PySem L2 Evl
section
variable {P : Program} {w : World} {K : PySem.W.Frag} {mg : Str → Option Value} {base : Heap} {f : Addr} {fd : FuncData}
variable {σ : L2.St} {H : Hp} {ta tb td ti te : TE} {D : Ends}
/-! ### widest -/
/-- a call one of whose arguments is told by a word -/
theorem call1_g {sp : Sp} {G0 G : V → Hp → Prop} {E : XK} (h : EvG te σ H G0) (hs : ∀ v H1, Ex H H1 → G0 v H1 → ∀ (Q : VK) (E : XK), (∀ z H2, Ex H1 H2 → G z H2 → Q z H2) → sp [v] H1 Q E) : EvG (tCall sp [] E (tCons te tNil)) σ H G := fun H1 e Q q =>
  h H1 e _ fun v H2 e2 g => hs v H2 (e.trans e2) g Q E fun z H3 e3 gz => q z H3 (e2.trans e3) gz
def spWidest : Sp := fun vs H Q _ => ∃ (t a : Addr) (n : Nat) (es : List (Nat × Nat)) (ms : List Bool) (pos : Nat → Nat), vs = [.ref t, .ref a] ∧ WayO H t a n es ms pos ∧
  ∀ (m : Nat) H2 (B : Nat → List Nat), Ex H H2 → IsBefore n (arcs es ms) B → IsWide (rel B) n m → Q (.int (m : Int)) H2
theorem scWidest : FnScope ps2 ps2 (defScope sWidest) := ⟨rfl, rfl, rfl, by decide +kernel, rfl, by decide +kernel, by decide +kernel⟩
theorem ok_widest (F : Fun K "widest" "widest" sWidest f fd) (D1 : Df P w K mg base 5 "need_openway" ps2 spOpenway) (D2 : Df P w K mg base 2 "before_in" ps2 spBefore) (D3 : Df P w K mg base 1 "widest_in" ["before"] spWidestIn) : FnOk P w K mg base CX0 6 f fd ps2 spWidest := by
  obtain ⟨g1, gd1, G1, bG1, kG1, mG1⟩ := D1.ex
  obtain ⟨g2, gd2, G2, bG2, kG2, mG2⟩ := D2.ex
  obtain ⟨g3, gd3, G3, bG3, kG3, mG3⟩ := D3.ex
  refine F.ok scWidest (fun vs H Q E h => ?_) (fun cdv A outer s H vs Q E hr h => ?_)
  · obtain ⟨t, a, n, es, ms, pos, rfl, _⟩ := h
    rfl
  obtain ⟨t, a, n, es, ms, pos, rfl, hw, q⟩ := h
  have hr2 : Room 2 _ := hr.mono (by decide)
  have hr1 : Room 1 _ := hr.mono (by decide)
  refine ⟨_, pss_cons (ps_expr (pe_call G1 hr rfl mG1 kG1 bG1 .nil pass0 (pa_cons (pv 0) (pa_cons (pv 1) pa_nil))))
    (pss_one (ps_ret (pe_call G3 hr1 rfl mG3 kG3 bG3 .nil pass0 (pa_cons (pe_call G2 hr2 rfl mG2 kG2 bG2 .nil pass0 (pa_cons (pv 0) (pa_cons (pv 1) pa_nil))) pa_nil)))), ?_⟩
  refine q_drop (call_v (z := .non) (ea_cons (ev_var rfl) (ea_cons (ev_var rfl) ea_nil)) fun H1 e1 Q1 q1 E1 => ⟨t, a, n, es, ms, pos, rfl, hw.mono e1, q1⟩) fun H2 e2 => ?_
  refine s_retG (G := fun v _ => ∃ (m : Nat) (B : Nat → List Nat), v = .int (m : Int) ∧ IsBefore n (arcs es ms) B ∧ IsWide (rel B) n m)
    (call1_g (G0 := fun v H3 => ∃ (p : Addr) (B : Nat → List Nat), v = .ref p ∧ LLAt H3 p ((List.range n).map B) ∧ IsBefore n (arcs es ms) B)
      (call_g (ea_cons (ev_var rfl) (ea_cons (ev_var rfl) ea_nil)) fun H1 e1 Q1 E1 q1 => ⟨t, a, n, es, ms, pos, rfl, (hw.mono e2).mono e1, fun p H3 B hp e3 h3 hB => q1 (.ref p) H3 e3 ⟨p, B, rfl, h3, hB⟩⟩)
      fun v H3 e3 hv Q1 E1 q1 => ?_) fun v H3 e3 hv => ?_
  · obtain ⟨p, B, rfl, hl, hB⟩ := hv
    exact ⟨p, n, B, rfl, hl, hw.way.ok.six, fun m H4 e4 hm => q1 _ H4 e4 ⟨m, B, rfl, hB, hm⟩⟩
  · obtain ⟨m, B, rfl, hB, hm⟩ := hv
    exact q m H3 B (e2.trans e3) hB hm
theorem ea_go {ta : TA} {vs : List V} {Q : List V → Hp → Prop} (h : EvA ta σ H vs) (k : ∀ H1, Ex H H1 → Q vs H1) : ta σ H Q := h H (Ex.refl H) _ k
theorem tB_call {sp : Sp} {E : XK} {ta : TA} {vs : List V} {Q : Bool → Hp → Prop} (h : EvA ta σ H vs) (k : ∀ H1, Ex H H1 → sp vs H1 (fun x H2 => ∃ b, x = .bl b ∧ Q b H2) E) : tB (tCall sp [] E ta) σ H Q := h H (Ex.refl H) _ fun H1 e1 => by
  show sp (vs ++ []) H1 _ E
  rw [List.append_nil]
  exact k H1 e1
/-! ### dicts -/
theorem ev_dnot {a : Addr} {kvs : List (Key × V)} {k : Key} {x : V} (ha : Ev ta σ H x) (hx : x = kV k) (hd : Ev td σ H (.ref a)) (h : H a = some (.dK kvs)) : Ev (tDNotIn ta td) σ H (.bl (!(valV kvs k).isSome)) := fun H1 e Q q =>
  ha H1 e _ fun H2 e2 => hd H2 (e.trans e2) _ fun H3 e3 => ⟨a, _, rfl, by rw [hx]; exact DGet.k (((e.trans e2).trans e3) _ _ h), q H3 (e2.trans e3)⟩
theorem ev_dget {a : Addr} {kvs : List (Key × V)} {k : Key} {x v : V} (hd : Ev td σ H (.ref a)) (ha : Ev ta σ H x) (hx : x = kV k) (h : H a = some (.dK kvs)) (hv : valV kvs k = some v) : Ev (tDGet td ta) σ H v := fun H1 e Q q =>
  hd H1 e _ fun H2 e2 => ha H2 (e.trans e2) _ fun H3 e3 => ⟨a, v, rfl, by rw [hx, ← hv]; exact DGet.k (((e.trans e2).trans e3) _ _ h), q H3 (e2.trans e3)⟩
theorem s_dput {a : Addr} {kvs : List (Key × V)} {k : Key} {x v : V} (hv : Ev te σ H v) (hd : Ev td σ H (.ref a)) (ha : Ev ta σ H x) (hx : x = kV k) (h : H a = some (.dK kvs)) (hl : kvs.length < 100000) (q : ∀ H1, Ex H H1 → D.nx σ (upd H1 a (.dK (putK kvs k v)))) : sDPut td ta te D σ H :=
  hv H (Ex.refl H) _ fun H1 e1 => hd H1 e1 _ fun H2 e2 => ha H2 (e1.trans e2) _ fun H3 e3 => ⟨a, _, rfl, by rw [hx]; exact DPut.k (((e1.trans e2).trans e3) _ _ h) (sz_lt hl), q H3 ((e1.trans e2).trans e3)⟩
theorem q_dput {tz : TS} {a : Addr} {kvs : List (Key × V)} {k : Key} {x v : V} (hv : Ev te σ H v) (hd : Ev td σ H (.ref a)) (ha : Ev ta σ H x) (hx : x = kV k) (h : H a = some (.dK kvs)) (hl : kvs.length < 100000) (q : ∀ H1, Ex H H1 → tz D σ (upd H1 a (.dK (putK kvs k v)))) : tSeq (sDPut td ta te) tz D σ H :=
  s_dput (D := { D with nx := tz D }) hv hd ha hx h hl q
/-- the mates as they lie, what is seen as it lies -/
def encM (M : List (Nat × Nat)) : List (Key × V) := M.map fun q => (Sum.inl ((q.1 : Nat) : Int), V.int ((q.2 : Nat) : Int))
def encS (S : List Nat) : List (Key × V) := S.map fun k => (Sum.inl ((k : Nat) : Int), V.bl true)
theorem encM_len (M : List (Nat × Nat)) : (encM M).length = M.length := List.length_map _
theorem encS_len (S : List Nat) : (encS S).length = S.length := List.length_map _
theorem inl_ne {a b : Nat} (h : ¬ a = b) : ¬ (Sum.inl ((a : Nat) : Int) : Key) = Sum.inl ((b : Nat) : Int) := fun e => h (by
  have e2 : ((a : Nat) : Int) = ((b : Nat) : Int) := Sum.inl.inj e
  omega)
theorem encM_val : ∀ (M : List (Nat × Nat)) (k : Nat), valV (encM M) (Sum.inl ((k : Nat) : Int)) = (gv M k).map fun p => V.int ((p : Nat) : Int)
  | [], _ => rfl
  | q :: M, k => by
    show valV ((Sum.inl ((q.1 : Nat) : Int), V.int ((q.2 : Nat) : Int)) :: encM M) _ = _
    by_cases h : q.1 = k
    · rw [valV_pos (by rw [h]), gv_cons_pos h]
      rfl
    · rw [valV_neg (inl_ne h), gv_cons_neg h]
      exact encM_val M k
theorem encM_put (M : List (Nat × Nat)) (k p : Nat) : putK (encM M) (Sum.inl ((k : Nat) : Int)) (V.int ((p : Nat) : Int)) = encM (ptv M k p) := by
  unfold putK
  rw [valV_any, encM_val]
  unfold ptv
  by_cases h : (gv M k).isSome = true
  · rw [if_pos (by rw [Option.isSome_map]; exact h), if_pos h]
    unfold encM
    rw [List.map_map, List.map_map]
    refine List.map_congr_left fun q _ => ?_
    show (if (Sum.inl ((q.1 : Nat) : Int) : Key) = Sum.inl ((k : Nat) : Int) then _ else _) = ((Sum.inl ((((if q.1 = k then (q.1, p) else q) : Nat × Nat).1 : Nat) : Int), V.int ((((if q.1 = k then (q.1, p) else q) : Nat × Nat).2 : Nat) : Int)) : Key × V)
    by_cases e : q.1 = k
    · rw [if_pos e, if_pos (by rw [e])]
    · rw [if_neg e, if_neg (inl_ne e)]
  · rw [if_neg (by rw [Option.isSome_map]; exact h), if_neg h]
    unfold encM
    rw [List.map_append]
    rfl
theorem encS_val : ∀ (S : List Nat) (k : Nat), (valV (encS S) (Sum.inl ((k : Nat) : Int))).isSome = S.contains k
  | [], _ => rfl
  | q :: S, k => by
    show (valV ((Sum.inl ((q : Nat) : Int), V.bl true) :: encS S) _).isSome = _
    by_cases h : q = k
    · rw [valV_pos (by rw [h]), h]
      simp
    · rw [valV_neg (inl_ne h), encS_val S k, List.contains_cons]
      have e : (k == q) = false := beq_eq_false_iff_ne.mpr fun z => h z.symm
      rw [e]
      rfl
theorem encS_put {S : List Nat} {k : Nat} (h : k ∉ S) : putK (encS S) (Sum.inl ((k : Nat) : Int)) (V.bl true) = encS (S ++ [k]) := by
  have n : valV (encS S) (Sum.inl ((k : Nat) : Int)) = none := by
    cases e : valV (encS S) (Sum.inl ((k : Nat) : Int)) with
    | none => rfl
    | some v =>
      have z := encS_val S k
      rw [e] at z
      exact absurd (List.contains_iff_mem.mp z.symm) h
  rw [putK_new _ n]
  unfold encS
  rw [List.map_append]
  rfl
/-- all stands but what lies at a and b -/
def Kp (a b : Addr) (H H' : Hp) : Prop := ∀ c o, c ≠ a → c ≠ b → H c = some o → H' c = some o
theorem Kp.trans {a b : Addr} {H H1 H2 : Hp} (h : Kp a b H H1) (k : Kp a b H1 H2) : Kp a b H H2 := fun c o h1 h2 e => k c o h1 h2 (h c o h1 h2 e)
theorem Kp.ex {a b : Addr} {H H1 : Hp} (e : Ex H H1) : Kp a b H H1 := fun c o _ _ h => e c o h
theorem Kp.l {a b : Addr} {H H1 : Hp} {u : HO} (e : Ex H H1) : Kp a b H (upd H1 a u) := fun c o h1 _ h => by rw [upd_ne h1]; exact e c o h
theorem Kp.r {a b : Addr} {H H1 : Hp} {u : HO} (e : Ex H H1) : Kp a b H (upd H1 b u) := fun c o _ h2 h => by rw [upd_ne h2]; exact e c o h
theorem Kp.ll {a b p : Addr} {H H1 : Hp} {xss : List (List Nat)} {ka kb : List (Key × V)} (k : Kp a b H H1) (h : LLAt H p xss) (ha : H a = some (.dK ka)) (hb : H b = some (.dK kb)) : LLAt H1 p xss := by
  obtain ⟨as, h1, h2, h3⟩ := h
  have no : ∀ (c : Addr) (xs : List V), H c = some (.lst xs) → c ≠ a ∧ c ≠ b := fun c xs hc => ⟨(fun e => by rw [e, ha] at hc; cases hc), (fun e => by rw [e, hb] at hc; cases hc)⟩
  exact ⟨as, k p _ (no _ _ h1).1 (no _ _ h1).2 h1, h2, fun i c xs hc hx => by
    have z : H c = some (.lst (NL xs)) := h3 i c xs hc hx
    exact k c _ (no _ _ z).1 (no _ _ z).2 z⟩
/-! ### grown -/
def spGrown (m : Nat) : Sp := fun vs H Q _ => ∃ (p dm ds : Addr) (n place : Nat) (B : Nat → List Nat) (M : List (Nat × Nat)) (S : List Nat), vs = [.ref p, .ref dm, .int (place : Int), .ref ds] ∧ LLAt H p ((List.range n).map B) ∧
  H dm = some (.dK (encM M)) ∧ H ds = some (.dK (encS S)) ∧ dm ≠ ds ∧ n ≤ 6 ∧ Valid (rel B) n M ∧ S.Nodup ∧ (∀ k ∈ S, k < n) ∧ place < n ∧ n + 1 ≤ S.length + m ∧
  ∀ (b : Bool) (S' : List Nat) (M' : List (Nat × Nat)) (H' : Hp), Grew (rel B) n place S M b S' M' → H' dm = some (.dK (encM M')) → H' ds = some (.dK (encS S')) → Kp dm ds H H' → Q (.bl b) H'
abbrev psGrown : List Str := ["before", "mates", "place", "seen"]
abbrev nsGrown : List Str := ["before", "mates", "place", "seen", "k"]
theorem scGrown : FnScope nsGrown psGrown (defScope sGrown) := ⟨rfl, rfl, rfl, by decide +kernel, rfl, by decide +kernel, by decide +kernel⟩
theorem nd_lt {l : List Nat} {n : Nat} (h : l.Nodup) (k : ∀ x ∈ l, x < n) : l.length ≤ n := by
  have z := nodup_le h (b := List.range n) fun x hx => List.mem_range.mpr (k x hx)
  rwa [List.length_range] at z
theorem Valid.few {r : Nat → Nat → Bool} {n : Nat} {M : List (Nat × Nat)} (v : Valid r n M) : M.length ≤ n := by
  have z := nd_lt (n := n) v.nd fun x hx => by
    obtain ⟨q, hq, rfl⟩ := List.mem_map.mp hx
    exact (v.ok q.1 q.2 hq).1
  rwa [List.length_map] at z
theorem ok_grown {m : Nat} (T : Mg mg) (F : Fun K "grown" "grown" sGrown f fd) (G : FnOk P w K mg base CX0 m f fd psGrown (spGrown m)) (bG : Binds K fd psGrown []) (mG : mg "grown" = some (.ref f)) : FnOk P w K mg base CX0 (m + 1) f fd psGrown (spGrown (m + 1)) := by
  have kG := F.kp
  refine F.ok scGrown (fun vs H Q E h => ?_) (fun cdv A outer s H vs Q E hr h => ?_)
  · obtain ⟨p, dm, ds, n, place, B, M, S, rfl, _⟩ := h
    rfl
  obtain ⟨p, dm, ds, n, place, B, M, S, rfl, hB, hM, hS, dne, n6, vM, ndS, ltS, hp, room, q⟩ := h
  have hu := hu_of hr
  obtain ⟨as, hpl, hal⟩ := hB.lenEq
  refine ⟨_, pss_cons (ps_for PassesOwn.never rfl (pi_range1 (by rfl) T.range (pa_cons (pe_callB (call_lenK K) (by rfl) T.len PySem.boot_len (pa_cons (pv 0) pa_nil)) pa_nil)) (pg_name (i := 4) scGrown.nd rfl (.inl rfl))
      (pss_one (ps_if (PW.pt (pw_and (pt_cmpR op_in_seq (pv 2) (pe_ix ix_list (pv 0) (pv 4) (fun _ _ => rfl)) (by rfl)) (pw_and1 (pt_cmp (pc_dnotin hu (pv 4) (pv 3))))))
        (pss_cons (ps_dput hu (pv 3) (pv 4) pe_bl rfl)
          (pss_one (ps_if (PW.pt (pw_or (pt_cmp (pc_dnotin hu (pv 4) (pv 1))) (pw_or1 (pt_val (pe_call G hr rfl mG kG bG .nil pass0 (pa_cons (pv 0) (pa_cons (pv 1) (pa_cons (pe_dget hu (pv 1) (pv 4) (fun _ _ => rfl)) (pa_cons (pv 3) pa_nil)))))))))
            (pss_cons (ps_dput hu (pv 1) (pv 4) (pv 2) rfl) (pss_one (ps_ret pe_bl))) pss_nil)))
        pss_nil)))
    (pss_one (ps_ret pe_bl)), ?_⟩
  have hlen : Ev (tCB (rLenS K) (tCons (tVar 0) tNil)) (start nsGrown [.ref p, .ref dm, .int (place : Int), .ref ds]) H (.int (n : Int)) := ev_is (ev_lenL (ev_var rfl) hpl) (by rw [List.length_map, hal])
  refine q_forR1 (n := (n : Int)) (ea_cons hlen ea_nil) ⟨by omega, by omega⟩
    (fun i σ H' => ∃ (S' : List Nat) (x4 : Option V), σ = [some (.ref p), some (.ref dm), some (.int (place : Int)), some (.ref ds), x4] ∧ Kp dm ds H H' ∧ H' dm = some (.dK (encM M)) ∧ H' ds = some (.dK (encS S')) ∧ GI (rel B) n place S M i S')
    (fun H1 e1 => ⟨S, _, rfl, Kp.ex e1, e1 _ _ hM, e1 _ _ hS, GI.start ndS ltS⟩) ?_ ?_
  · rintro i σ H' hi ⟨S', x4, rfl, kp, hM', hS', gi⟩
    have hin : i < n := by omega
    obtain ⟨bs, bi, b1, b2, b3⟩ := (kp.ll hB hM hS).get hin
    refine s_when (b := rel B place i && !(S'.contains i)) (et_and (et_in (ev_var rfl) (ev_ixL (ev_var rfl) (ev_var rfl) b1 (ref_at b2)) b3) fun _ => et_B (ev_is (ev_dnot (k := Sum.inl ((i : Nat) : Int)) (ev_var rfl) rfl (ev_var rfl) hS') (by rw [encS_val]))) (fun hc H1 e1 => ?_) fun hc H1 e1 => ?_
    · obtain ⟨hrel, hns⟩ := Bool.and_eq_true_iff.mp hc
      have hs : i ∉ S' := fun hm => by
        rw [List.contains_iff_mem.mpr hm] at hns
        cases hns
      have ndS' := nd_snoc gi.nd hs
      have ltS' := lt_snoc gi.lt hin
      have fewS := nd_lt gi.nd gi.lt
      have fewM := vM.few
      -- seen[k] = True
      refine q_dput (k := Sum.inl ((i : Nat) : Int)) ev_c (ev_var rfl) (ev_var rfl) rfl (e1 _ _ hS') (by rw [encS_len]; omega) fun H2 e2 => ?_
      rw [encS_put hs]
      have kp2 : Kp dm ds H (upd H2 ds (.dK (encS (S' ++ [i])))) := kp.trans (Kp.r (e1.trans e2))
      have hM2 : (upd H2 ds (.dK (encS (S' ++ [i])))) dm = some (.dK (encM M)) := by rw [upd_ne dne]; exact e2 _ _ (e1 _ _ hM')
      have hS2 : (upd H2 ds (.dK (encS (S' ++ [i])))) ds = some (.dK (encS (S' ++ [i]))) := upd_same
      generalize upd H2 ds (.dK (encS (S' ++ [i]))) = H3 at kp2 hM2 hS2
      have evn := ev_dnot (td := tVar 1) (ta := tVar 4) (σ := [some (.ref p), some (.ref dm), some (.int (place : Int)), some (.ref ds), some (.int (i : Int))]) (x := .int (i : Int)) (k := Sum.inl ((i : Nat) : Int)) (ev_var rfl) rfl (ev_var rfl) hM2
      cases hg : gv M i with
      | none =>
        refine s_when (b := true) (et_or (a := true) (b := true) (et_B (ev_is evn (by rw [encM_val, hg]; rfl))) (fun h => by cases h)) (fun _ H4 e4 => ?_) (fun h => by cases h)
        refine q_dput (k := Sum.inl ((i : Nat) : Int)) (v := .int (place : Int)) (ev_var rfl) (ev_var rfl) (ev_var rfl) rfl (e4 _ _ hM2) (by rw [encM_len]; omega) fun H5 e5 => ?_
        rw [encM_put]
        refine s_ret (v := .bl true) ev_c fun H6 e6 => q true (S' ++ [i]) (ptv M i place) H6 (gi.free vM hin hp hrel hs hg) (e6 _ _ upd_same) (e6 _ _ ?_) ((kp2.trans (Kp.l (e4.trans e5))).trans (Kp.ex e6))
        rw [upd_ne dne.symm]
        exact e5 _ _ (e4 _ _ hS2)
      | some qm =>
        obtain ⟨_, hq, _⟩ := vM.ok i qm (gv_mem hg)
        have sub := nodup_le ndS (b := S') gi.sub
        -- the first half of the or says no
        refine (et_B (ev_is (w := .bl false) evn (by rw [encM_val, hg]; rfl)) : EvT _ _ H3 false) H3 (Ex.refl H3) _ fun H4 e4 => ?_
        refine iteF ?_
        have hM4 := e4 _ _ hM2
        have hS4 := e4 _ _ hS2
        have kp4 := kp2.trans (Kp.ex (a := dm) (b := ds) e4)
        refine tB_call (vs := [.ref p, .ref dm, .int (qm : Int), .ref ds]) (ea_cons (ev_var rfl) (ea_cons (ev_var rfl) (ea_cons (ev_dget (k := Sum.inl ((i : Nat) : Int)) (v := .int (qm : Int)) (ev_var rfl) (ev_var rfl) rfl hM4 (by rw [encM_val, hg]; rfl)) (ea_cons (ev_var rfl) ea_nil)))) fun H5 e5 => ?_
        have hM5 := e5 _ _ hM4
        have hS5 := e5 _ _ hS4
        have kp5 := kp4.trans (Kp.ex (a := dm) (b := ds) e5)
        refine ⟨p, dm, ds, n, qm, B, M, S' ++ [i], rfl, kp5.ll hB hM hS, hM5, hS5, dne, n6, vM, ndS', ltS', hq, by rw [List.length_append, List.length_singleton]; omega, fun b S2 M2 H6 gr hM6 hS6 kp6 => ⟨b, rfl, ?_⟩⟩
        cases b with
        | true =>
          refine iteT ?_
          have v2 := (gr.yes rfl).1
          have few2 := v2.few
          refine q_dput (k := Sum.inl ((i : Nat) : Int)) (v := .int (place : Int)) (ev_var rfl) (ev_var rfl) (ev_var rfl) rfl hM6 (by rw [encM_len]; omega) fun H7 e7 => ?_
          rw [encM_put]
          refine s_ret (v := .bl true) ev_c fun H8 e8 => q true S2 (ptv M2 i place) H8 (gi.taken vM hin hp hrel hs hg gr) (e8 _ _ upd_same) (e8 _ _ ?_) (((kp5.trans kp6).trans (Kp.l e7)).trans (Kp.ex e8))
          rw [upd_ne dne.symm]
          exact e7 _ _ hS6
        | false =>
          obtain ⟨eM, gi2⟩ := gi.stuck hg gr
          subst eM
          exact iteF ⟨S2, _, rfl, kp5.trans kp6, hM6, hS6, gi2⟩
    · refine ⟨S', _, rfl, kp.trans (Kp.ex e1), e1 _ _ hM', e1 _ _ hS', gi.skip ?_⟩
      cases hr1 : rel B place i with
      | false => exact .inl rfl
      | true =>
        rw [hr1] at hc
        refine .inr (List.contains_iff_mem.mp ?_)
        cases z : S'.contains i with
        | true => rfl
        | false => rw [z] at hc; cases hc
  · rintro σ H' ⟨S', x4, rfl, kp, hM', hS', gi⟩
    rw [show ((n : Int)).toNat = n by omega] at gi
    exact s_ret (v := .bl false) ev_c fun H1 e1 => q false S' M H1 gi.last (e1 _ _ hM') (e1 _ _ hS') (kp.trans (Kp.ex e1))
theorem grown_none : FnOk P w K mg base CX0 0 f fd psGrown (spGrown 0) := by
  have no : ∀ vs H Q E, ¬ spGrown 0 vs H Q E := fun vs H Q E h => by
    obtain ⟨p, dm, ds, n, place, B, M, S, _, _, _, _, _, _, _, nd, lt, _, room, _⟩ := h
    have z := nd_lt nd lt
    omega
  exact ⟨fun vs H Q E h => absurd h (no vs H Q E), fun A outer s H args us vs Q E _ _ _ _ h => absurd h (no vs H Q E)⟩
theorem all_grown (T : Mg mg) (F : Fun K "grown" "grown" sGrown f fd) (bG : Binds K fd psGrown []) (mG : mg "grown" = some (.ref f)) : ∀ m : Nat, FnOk P w K mg base CX0 m f fd psGrown (spGrown m)
  | 0 => grown_none
  | m + 1 => ok_grown T F (all_grown T F bG mG m) bG mG
/-! ### lines_of -/
def spLines : Sp := fun vs H Q _ => ∃ (t a : Addr) (n : Nat) (es : List (Nat × Nat)) (ms : List Bool) (pos : Nat → Nat), vs = [.ref t, .ref a] ∧ WayO H t a n es ms pos ∧
  ∀ (B : Nat → List Nat) (M : List (Nat × Nat)) H2, Ex H H2 → IsBefore n (arcs es ms) B → LI (rel B) n n M → Q (.int ((n : Int) - (M.length : Int))) H2
abbrev nsLines : List Str := ["web", "way", "before", "mates", "place"]
theorem scLines : FnScope nsLines ps2 (defScope sLinesOf) := ⟨rfl, rfl, rfl, by decide +kernel, rfl, by decide +kernel, by decide +kernel⟩
theorem ok_lines (T : Mg mg) (F : Fun K "lines_of" "lines_of" sLinesOf f fd) (D1 : Df P w K mg base 5 "need_openway" ps2 spOpenway) (D2 : Df P w K mg base 2 "before_in" ps2 spBefore) (D3 : Df P w K mg base 7 "grown" psGrown (spGrown 7)) : FnOk P w K mg base CX0 8 f fd ps2 spLines := by
  obtain ⟨g1, gd1, G1, bG1, kG1, mG1⟩ := D1.ex
  obtain ⟨g2, gd2, G2, bG2, kG2, mG2⟩ := D2.ex
  obtain ⟨g3, gd3, G3, bG3, kG3, mG3⟩ := D3.ex
  refine F.ok scLines (fun vs H Q E h => ?_) (fun cdv A outer s H vs Q E hr h => ?_)
  · obtain ⟨t, a, n, es, ms, pos, rfl, _⟩ := h
    rfl
  obtain ⟨t, a, n, es, ms, pos, rfl, hw, q⟩ := h
  obtain ⟨te, ht, _⟩ := hw.way.web.ex
  have n6 := hw.way.ok.six
  have hr2 : Room 2 _ := hr.mono (by decide)
  have hr5 : Room 5 _ := hr.mono (by decide)
  refine ⟨_, pss_cons (ps_expr (pe_call G1 hr5 rfl mG1 kG1 bG1 .nil pass0 (pa_cons (pv 0) (pa_cons (pv 1) pa_nil))))
    (pss_cons (ps_par (i := 2) (j := 3) (by rfl) scLines.nd rfl rfl (by decide) rfl rfl (pa_cons (pe_call G2 hr2 rfl mG2 kG2 bG2 .nil pass0 (pa_cons (pv 0) (pa_cons (pv 1) pa_nil))) (pa_cons pe_dnewK pa_nil)) (by rfl))
    (pss_cons (ps_for PassesOwn.never rfl (pi_range1 (by rfl) T.range (pa_cons (pe_ix ix_tup (pv 0) pe_int (fun _ _ => rfl)) pa_nil)) (pg_name (i := 4) scLines.nd rfl (.inl rfl))
      (pss_one (ps_expr (pe_call G3 hr rfl mG3 kG3 bG3 .nil pass0 (pa_cons (pv 2) (pa_cons (pv 3) (pa_cons (pv 4) (pa_cons pe_dnewK pa_nil))))))))
    (pss_one (ps_ret (pe_op op_sub (pe_ix ix_tup (pv 0) pe_int (fun _ _ => rfl)) (pe_callB KR.cr_lenV (by rfl) T.len PySem.boot_len (pa_cons (pe_bm0 PySem.F.plainAttrs_dict PySem.F.slot_dict_keys PySem.F.type_dict_keys KR.mt_keysV (pv 3)) pa_nil))))))), ?_⟩
  refine q_drop (call_v (z := .non) (ea_cons (ev_var rfl) (ea_cons (ev_var rfl) ea_nil)) fun H1 e1 Q1 q1 E1 => ⟨t, a, n, es, ms, pos, rfl, hw.mono e1, q1⟩) fun H1 e1 => ?_
  -- before, mates = before_in(web, way), {}
  refine (call_g (G := fun v H2 => ∃ (p : Addr) (B : Nat → List Nat), v = .ref p ∧ LLAt H2 p ((List.range n).map B) ∧ IsBefore n (arcs es ms) B) (ea_cons (ev_var rfl) (ea_cons (ev_var rfl) ea_nil)) (fun H2 e2 Q1 E1 q1 => ⟨t, a, n, es, ms, pos, rfl, (hw.mono e1).mono e2, fun p H3 B hp e3 h3 hB => q1 (.ref p) H3 e3 ⟨p, B, rfl, h3, hB⟩⟩) : EvG _ _ H1 _) H1 (Ex.refl H1) _ fun v H2 e2 hv => ?_
  obtain ⟨p, B, rfl, hB, isB⟩ := hv
  intro dm hdm
  refine ⟨_, _, rfl, ?_⟩
  have ed : Ex H2 (upd H2 dm (.dK [])) := Ex.new hdm
  have e02 := e1.trans e2
  refine q_forR1 (n := (n : Int)) (ea_cons (ev_ixT (ev_var rfl) ev_c (ed _ _ (e02 _ _ ht)) rfl) ea_nil) ⟨by omega, by omega⟩
    (fun i σ H' => ∃ (M : List (Nat × Nat)) (x4 : Option V), σ = [some (.ref t), some (.ref a), some (.ref p), some (.ref dm), x4] ∧ Ex H2 H' ∧ H' dm = some (.dK (encM M)) ∧ LI (rel B) n i M)
    (fun H3 e3 => ⟨[], _, rfl, ed.trans e3, e3 _ _ upd_same, LI.start⟩) ?_ ?_
  · rintro i σ H' hi ⟨M, x4, rfl, ex, hM, li⟩
    refine ⟨_, rfl, _, rfl, _, rfl, fun ds hds => ?_⟩
    have dne : dm ≠ ds := ne_of_none hM hds
    have es' : Ex H' (upd H' ds (.dK [])) := Ex.new hds
    refine ⟨p, dm, ds, n, i, B, M, [], rfl, (hB.mono ex).mono es', es' _ _ hM, upd_same, dne, n6, li.v, List.nodup_nil, (fun _ h => (nomatch h)), by omega, by simp; omega, fun b S' M' H3 gr hM3 hS3 kp => ?_⟩
    refine ⟨M', _, rfl, fun c o hc => ?_, hM3, li.turn gr⟩
    have hc1 := ex c o hc
    exact kp c o (fun e => by rw [e, hdm] at hc; cases hc) (fun e => by rw [e, hds] at hc1; cases hc1) (es' c o hc1)
  · rintro σ H' ⟨M, x4, rfl, ex, hM, li⟩
    rw [show ((n : Int)).toNat = n by omega] at li
    refine (ev_ixT (ev_var rfl) ev_c (ex _ _ (e02 _ _ ht)) rfl : Ev _ _ H' (.int (n : Int))) H' (Ex.refl H') _ fun H3 e3 => ?_
    refine ⟨_, rfl, .inr (.inr (.inl ⟨rfl, .inl ⟨_, e3 _ _ hM⟩⟩)), dm, rfl, rfl, .inl ⟨_, e3 _ _ hM⟩, fun v hv => ?_⟩
    have ev := Ex.new (o := KR.keysO v dm) hv
    refine ⟨v, dm, _, rfl, upd_same, ev _ _ (e3 _ _ hM), _, _, rfl, rfl, ?_⟩
    rw [encM_len]
    exact q B M _ (((e02.trans ex).trans e3).trans ev) isB li
end
end K76

/-! ## K76W8a -/
namespace K76
open PySem L2 Evl
section
variable {P : Program} {w : World} {K : PySem.W.Frag} {mg : Str → Option Value} {base : Heap} {f : Addr} {fd : FuncData}
variable {σ : L2.St} {H : Hp} {ta tb td ti te : TE} {D : Ends}
/-! ### the row from which the law takes -/
def RowAt (K : PySem.W.Frag) (H : Hp) (r a : Addr) (ns : List Int) : Prop := ∃ (i : Nat) (c d : Int), H r = some (.lst [.ref a, .int (i : Int), .int c, .int d]) ∧ SqL K H a (ns.map V.int)
/-- all stands but what lies at r -/
def Kr (r : Addr) (H H' : Hp) : Prop := ∀ c o, c ≠ r → H c = some o → H' c = some o
theorem Kr.trans {a : Addr} {H H1 H2 : Hp} (h : Kr a H H1) (k : Kr a H1 H2) : Kr a H H2 := fun c o h1 e => k c o h1 (h c o h1 e)
theorem Kr.ex {a : Addr} {H H1 : Hp} (e : Ex H H1) : Kr a H H1 := fun c o _ h => e c o h
theorem Kr.l {a : Addr} {H H1 : Hp} {u : HO} (e : Ex H H1) : Kr a H (upd H1 a u) := fun c o h1 h => by rw [upd_ne h1]; exact e c o h
theorem row_ne {H : Hp} {r p x : Addr} {ys : List V} {ns : List Int} (h : H r = some (.lst (.ref x :: ys))) (h2 : H p = some (.lst (ns.map V.int))) : p ≠ r := fun e => by
  rw [e, h] at h2
  cases ns with
  | nil => cases h2
  | cons n ns => cases h2
theorem row_neN {H : Hp} {r p x : Addr} {ys : List V} {ns : List Nat} (h : H r = some (.lst (.ref x :: ys))) (h2 : LAt H p ns) : p ≠ r := row_ne (ns := IL ns) h (by rw [← NL_IL]; exact h2)
theorem Kr.sq {H H' : Hp} {r a x : Addr} {ys : List V} {ns : List Int} (k : Kr r H H') (h : H r = some (.lst (.ref x :: ys))) (s : SqL K H a (ns.map V.int)) : SqL K H' a (ns.map V.int) := by
  rcases s with s | s
  · rcases s with s | ⟨o, s⟩
    · exact .inl (.inl (k a _ (row_ne h s) s))
    · exact .inl (.inr ⟨o, k a _ (fun e => by rw [e, h] at s; cases s) s⟩)
  · exact .inr s
theorem RowAt.put {H H' : Hp} {r a : Addr} {ns : List Int} {ys : List V} (i : Nat) (c d : Int) (h : H r = some (.lst (.ref a :: ys))) (s : SqL K H a (ns.map V.int)) (e : Ex H H') : RowAt K (upd H' r (.lst [.ref a, .int (i : Int), .int c, .int d])) r a ns :=
  ⟨i, c, d, upd_same, (Kr.l e).sq h s⟩
theorem RowAt.mono {H H' : Hp} {r a : Addr} {ns : List Int} (h : RowAt K H r a ns) (e : Ex H H') : RowAt K H' r a ns := by
  obtain ⟨i, c, d, h1, h2⟩ := h
  exact ⟨i, c, d, e _ _ h1, ex_l e h2⟩
/-- all that stood at first stands yet but the row -/
theorem Kr.fresh {r p : Addr} {H H' : Hp} {u : HO} (k : Kr r H H') (hp : H p = none) : Kr r H (upd H' p u) := fun c o h1 e => by
  rw [upd_ne (ne_of_none e hp)]
  exact k c o h1 e
theorem RowAt.fresh {H H' : Hp} {r a p : Addr} {ns : List Int} {u : HO} (h0 : RowAt K H r a ns) (h : RowAt K H' r a ns) (k : Kr r H H') (hp : H p = none) : RowAt K (upd H' p u) r a ns := by
  obtain ⟨i0, c0, d0, h01, h02⟩ := h0
  obtain ⟨i, c, d, h1, h2⟩ := h
  exact ⟨i, c, d, by rw [upd_ne (ne_of_none h01 hp)]; exact h1, (k.fresh hp).sq h01 h02⟩
theorem RowAt.ne {H : Hp} {r a p : Addr} {ns : List Int} {xs : List Nat} (h : RowAt K H r a ns) (hp : LAt H p xs) : p ≠ r := by
  obtain ⟨i, c, d, h1, h2⟩ := h
  exact row_neN h1 hp
def spTaken (K : PySem.W.Frag) : Sp := fun vs H Q _ => ∃ (r a : Addr) (ns : List Int) (many : Nat), vs = [.ref r, .int (many : Int)] ∧ RowAt K H r a ns ∧ 1 ≤ many ∧ many ≤ 1000 ∧
  ∀ (v : Nat) H', v < many → RowAt K H' r a ns → Kr r H H' → Q (.int (v : Int)) H'
abbrev psTaken : List Str := ["_law_row", "_law_many"]
abbrev nsTaken : List Str := ["_law_row", "_law_many", "_law_found", "_law_cell"]
theorem scTaken : FnScope nsTaken psTaken (defScope sTaken) := ⟨rfl, rfl, rfl, by decide +kernel, rfl, by decide +kernel, by decide +kernel⟩
theorem rc_int (i : Int) : RC (fun xs H Q => (∃ i, xs = [V.int i] ∧ Q (.int i) H) ∨ ∃ k, xs = [V.bl k] ∧ Q (.int (if k then 1 else 0)) H) [.int i] H (.int i) := fun H1 e Q q => .inl ⟨i, rfl, q H1 (Ex.refl _)⟩
theorem rc_intB (b : Bool) : RC (fun xs H Q => (∃ i, xs = [V.int i] ∧ Q (.int i) H) ∨ ∃ k, xs = [V.bl k] ∧ Q (.int (if k then 1 else 0)) H) [.bl b] H (.int (if b then 1 else 0)) := fun H1 e Q q => .inr ⟨b, rfl, q H1 (Ex.refl _)⟩
theorem mod_nat (x : Int) {many : Nat} (h : 1 ≤ many) : ∃ v : Nat, v < many ∧ x % (many : Int) = (v : Int) := by
  have h1 := Int.emod_nonneg x (b := (many : Int)) (by omega)
  have h2 := Int.emod_lt_of_pos x (b := (many : Int)) (by omega)
  exact ⟨(x % (many : Int)).toNat, by omega, by omega⟩
theorem ok_taken (T : Mg mg) (F : Fun K "_law_taken" "_law_taken" sTaken f fd) : FnOk P w K mg base CX0 1 f fd psTaken (spTaken K) := by
  refine F.ok scTaken (fun vs H Q E h => ?_) (fun cdv A outer s H vs Q E hr h => ?_)
  · obtain ⟨r, a, ns, many, rfl, _⟩ := h
    rfl
  obtain ⟨r, a, ns, many, rfl, ⟨i, c, d, h1, h2⟩, m1, m2, q⟩ := h
  refine ⟨_, pss_cons (ps_if (pt_cmpR op_gt (pe_ix ix_list (pv 0) pe_int (fun _ _ => rfl)) pe_int (nomark _))
      (pss_cons (ps_set (i := 2) scTaken.nd rfl (Or.inl rfl) (pe_op op_mod (pe_callTy call_int1 (by rfl) T.int (by decide +kernel) (pa_cons (pe_ix ix_list (pv 0) pe_int (fun _ _ => rfl)) pa_nil)) (pv 1)))
      (pss_cons (ps_asg (pe_op op_fdiv (pe_ix ix_list (pv 0) pe_int (fun _ _ => rfl)) (pv 1)) (pg_sub (pv 0) pe_int set_list))
      (pss_one (ps_ret (pv 2))))) pss_nil)
    (pss_cons (ps_asg (pe_op op_add (pe_ix ix_list (pv 0) pe_int (fun _ _ => rfl)) pe_int) (pg_sub (pv 0) pe_int set_list))
    (pss_cons (ps_if (pt_cmpR op_gt (pe_ix ix_list (pv 0) pe_int (fun _ _ => rfl)) (pe_callB (call_lenK K) (by rfl) T.len PySem.boot_len (pa_cons (pe_ix ix_list (pv 0) pe_int (fun _ _ => rfl)) pa_nil)) (nomark _))
      (pss_cons (ps_asg (pe_op op_mod (pe_callTy call_int1 (by rfl) T.int (by decide +kernel) (pa_cons (pe_op op_add (pe_op op_mul (pe_ix ix_list (pv 0) pe_int (fun _ _ => rfl)) pe_int) pe_int) pa_nil)) pe_int) (pg_sub (pv 0) pe_int set_list))
      (pss_one (ps_ret (pe_op op_mod (pe_callTy call_int1 (by rfl) T.int (by decide +kernel) (pa_cons (pe_op op_fdiv (pe_ix ix_list (pv 0) pe_int (fun _ _ => rfl)) pe_int) pa_nil)) (pv 1))))) pss_nil)
    (pss_cons (ps_set (i := 3) scTaken.nd rfl (Or.inl rfl) (pe_ix ix_list (pe_ix ix_list (pv 0) pe_int (fun _ _ => rfl)) (pe_op op_sub (pe_ix ix_list (pv 0) pe_int (fun _ _ => rfl)) pe_int) (fun _ _ => rfl)))
    (pss_cons (ps_asg (pe_op op_mod (pe_callTy call_int1 (by rfl) T.int (by decide +kernel) (pa_cons (pe_op op_add (pe_op op_add (pe_op op_mul (pe_ix ix_list (pv 0) pe_int (fun _ _ => rfl)) pe_int) (pv 3)) pe_int) pa_nil)) pe_int) (pg_sub (pv 0) pe_int set_list))
    (pss_cons (ps_if (pt_cmpR op_ge (pv 3) (pe_op op_pow pe_int pe_int) (nomark _)) (pss_one (ps_asg (pe_op op_fdiv (pv 3) (pv 1)) (pg_sub (pv 0) pe_int set_list))) pss_nil)
    (pss_one (ps_ret (pe_op op_mod (pe_callTy call_int1 (by rfl) T.int (by decide +kernel) (pa_cons (pv 3) pa_nil)) (pv 1))))))))), ?_⟩
  have hm : (0 : Int) < (many : Int) := by omega
  have hdv : CDiv d (many : Int) := ⟨hm, by omega⟩
  -- one item of the row
  have it : ∀ {H' : Hp} {i' : Nat} {c' d' : Int} {x2 x3 : Option V} {k : Int} {v : V}, H' r = some (.lst [.ref a, .int (i' : Int), .int c', .int d']) → atI [.ref a, .int (i' : Int), .int c', .int d'] k = some v → Ev (tOp (rIxL K) (tVar 0) (tC (.int k))) [some (.ref r), some (.int (many : Int)), x2, x3] H' v := fun h hv => ev_ixL (ev_var rfl) ev_c h hv
  refine q_when (b := decide (0 < d)) (et_test (ev_op (it h1 rfl) ev_c rv_I0)) (fun hd H1 e1 => ?_) fun hd H1 e1 => ?_
  · obtain ⟨v, hv, ev⟩ := mod_nat d m1
    refine q_asg (v := .int (d % (many : Int))) (ev_op (ev_cb (ea_cons (it (e1 _ _ h1) rfl) ea_nil) (rc_int _)) (ev_var rfl) (rv_I hm)) fun H2 e2 => ?_
    refine q_setL (j := 3) (v := .int (d / (many : Int))) (e2 _ _ (e1 _ _ h1)) (ev_op (it (e2 _ _ (e1 _ _ h1)) rfl) (ev_var rfl) (rv_I hdv)) (ev_var rfl) ev_c (by show 3 < 4; decide) fun H3 e3 => ?_
    refine s_ret (v := .int (v : Int)) (ev_is (ev_var rfl) (by rw [ev])) fun H4 e4 => ?_
    refine q v H4 hv ((RowAt.put i c (d / (many : Int)) (e3 _ _ (e2 _ _ (e1 _ _ h1))) (ex_l ((e1.trans e2).trans e3) h2) (Ex.refl _)).mono e4) ((Kr.l ((e1.trans e2).trans e3)).trans (Kr.ex e4))
  · have r1 := e1 _ _ h1
    refine q_setL (j := 1) (v := .int ((i : Int) + 1)) r1 (ev_op (it r1 rfl) ev_c rv_I0) (ev_var rfl) ev_c (by show 1 < 4; decide) fun H2 e2 => ?_
    have kr2 : Kr r H (upd H2 r (.lst [.ref a, .int ((i : Int) + 1), .int c, .int d])) := Kr.l (e1.trans e2)
    have r2 : (upd H2 r (.lst [.ref a, .int ((i : Int) + 1), .int c, .int d])) r = some (.lst [.ref a, .int ((i + 1 : Nat) : Int), .int c, .int d]) := upd_same
    have s2 := kr2.sq (K := K) h1 h2
    show tSeq _ _ _ _ (upd H2 r (.lst [.ref a, .int ((i : Int) + 1), .int c, .int d]))
    generalize upd H2 r (.lst [.ref a, .int ((i : Int) + 1), .int c, .int d]) = H3 at kr2 r2 s2
    refine q_when (b := decide (((ns.map V.int).length : Int) < ((i + 1 : Nat) : Int))) (et_test (ev_op (it r2 rfl) (ev_len (it r2 rfl) s2) rv_I0)) (fun hl H4 e4 => ?_) fun hl H4 e4 => ?_
    · have r4 := e4 _ _ r2
      have s4 := ex_l e4 s2
      refine q_setL (j := 2) (v := .int ((c * 48271 + 11) % 2147483647)) r4 (ev_op (ev_cb (ea_cons (ev_op (ev_op (it r4 rfl) ev_c (rv_I (.inr ⟨by decide, by decide⟩))) ev_c rv_I0) ea_nil) (rc_int _)) ev_c (rv_I (by decide))) (ev_var rfl) ev_c (by show 2 < 4; decide) fun H5 e5 => ?_
      obtain ⟨v, hv, ev⟩ := mod_nat ((c * 48271 + 11) % 2147483647 / 7) m1
      have r5 : (upd H5 r (.lst [.ref a, .int ((i + 1 : Nat) : Int), .int ((c * 48271 + 11) % 2147483647), .int d])) r = some (.lst [.ref a, .int ((i + 1 : Nat) : Int), .int ((c * 48271 + 11) % 2147483647), .int d]) := upd_same
      refine s_ret (v := .int (v : Int)) (ev_is (ev_op (ev_cb (ea_cons (ev_op (it r5 rfl) ev_c (rv_I ⟨by decide, by decide⟩)) ea_nil) (rc_int _)) (ev_var rfl) (rv_I hm)) (by rw [ev])) fun H6 e6 => ?_
      exact q v H6 hv ((RowAt.put (i + 1) _ d r4 s4 e5).mono e6) (((kr2.trans (Kr.ex e4)).trans (Kr.l e5)).trans (Kr.ex e6))
    · have r4 := e4 _ _ r2
      have s4 := ex_l e4 s2
      have hi : i < ns.length := by
        have z := of_decide_eq_false hl
        rw [List.length_map] at z
        omega
      have hx : atI (ns.map V.int) (((i + 1 : Nat) : Int) - 1) = some (.int ns[i]) := by
        rw [show ((i + 1 : Nat) : Int) - 1 = (i : Int) by omega]
        exact atI_nat (by rw [List.getElem?_map, List.getElem?_eq_getElem hi]; rfl)
      refine q_asg (v := .int ns[i]) (ev_op (it r4 rfl) (ev_op (it r4 rfl) ev_c rv_I0) (rv_ixL s4 hx)) fun H5 e5 => ?_
      have r5 := e5 _ _ r4
      have s5 := ex_l e5 s4
      generalize ns[i] = cell
      obtain ⟨v, hv, ev⟩ := mod_nat cell m1
      refine q_setL (j := 2) (v := .int ((c * 48271 + cell + 11) % 2147483647)) r5 (ev_op (ev_cb (ea_cons (ev_op (ev_op (ev_op (it r5 rfl) ev_c (rv_I (.inr ⟨by decide, by decide⟩))) (ev_var rfl) rv_I0) ev_c rv_I0) ea_nil) (rc_int _)) ev_c (rv_I (by decide))) (ev_var rfl) ev_c (by show 2 < 4; decide) fun H6 e6 => ?_
      have kr6 := (kr2.trans (Kr.ex (e4.trans e5))).trans (Kr.l (u := .lst [.ref a, .int ((i + 1 : Nat) : Int), .int ((c * 48271 + cell + 11) % 2147483647), .int d]) e6)
      have r6 : (upd H6 r (.lst [.ref a, .int ((i + 1 : Nat) : Int), .int ((c * 48271 + cell + 11) % 2147483647), .int d])) r = some (.lst [.ref a, .int ((i + 1 : Nat) : Int), .int ((c * 48271 + cell + 11) % 2147483647), .int d]) := upd_same
      have s6 := kr6.sq (K := K) h1 h2
      show tSeq _ _ _ _ (upd H6 r (.lst [.ref a, .int ((i + 1 : Nat) : Int), .int ((c * 48271 + cell + 11) % 2147483647), .int d]))
      generalize upd H6 r (.lst [.ref a, .int ((i + 1 : Nat) : Int), .int ((c * 48271 + cell + 11) % 2147483647), .int d]) = H7 at kr6 r6 s6
      have fin : ∀ {H8 : Hp} {x2 : Option V}, RowAt K H8 r a ns → Kr r H H8 → tRet (tOp (rI (fun _ j => 0 < j) fun i j => V.int (i % j)) (tCB (fun xs H Q => (∃ i, xs = [V.int i] ∧ Q (.int i) H) ∨ ∃ k, xs = [V.bl k] ∧ Q (.int (if k then 1 else 0)) H) (tCons (tVar 3) tNil)) (tVar 1)) { nx := fun _ H' => Q V.non H', rt := Q } [some (.ref r), some (.int (many : Int)), x2, some (.int cell)] H8 := fun hr8 k8 =>
        s_ret (v := .int (v : Int)) (ev_is (ev_op (ev_cb (ea_cons (ev_var rfl) ea_nil) (rc_int _)) (ev_var rfl) (rv_I hm)) (by rw [ev])) fun H9 e9 => q v H9 hv (hr8.mono e9) (k8.trans (Kr.ex e9))
      refine q_when (b := decide ((10 : Int) ^ 18 ≤ cell)) (et_test (ev_op (ev_var rfl) (ev_op ev_c ev_c (rv_I ⟨by decide, by decide, by decide⟩)) rv_I0)) (fun _ H8 e8 => ?_) fun _ H8 e8 => ?_
      · refine s_setL (j := 3) (v := .int (cell / (many : Int))) (e8 _ _ r6) (ev_op (ev_var rfl) (ev_var rfl) (rv_I ⟨hm, by omega⟩)) (ev_var rfl) ev_c (by show 3 < 4; decide) fun H9 e9 => ?_
        exact fin (RowAt.put (i + 1) _ _ (e8 _ _ r6) (ex_l e8 s6) e9) ((kr6.trans (Kr.ex e8)).trans (Kr.l e9))
      · exact fin ⟨i + 1, _, _, e8 _ _ r6, ex_l e8 s6⟩ (kr6.trans (Kr.ex e8))
end
end K76

/-! ## K76W8b -/
namespace K76
open PySem L2 Evl
section
variable {P : Program} {w : World} {K : PySem.W.Frag} {mg : Str → Option Value} {base : Heap} {f : Addr} {fd : FuncData}
variable {σ : L2.St} {H : Hp} {ta tb td ti te : TE} {D : Ends}
theorem taken_go {E : XK} {Q : VK} {tA : TA} {r a : Addr} {ns : List Int} {many : Nat} (h : EvA tA σ H [.ref r, .int (many : Int)]) (hr : RowAt K H r a ns) (h1 : 1 ≤ many) (h2 : many ≤ 1000) (k : ∀ (v : Nat) H', v < many → RowAt K H' r a ns → Kr r H H' → Q (.int (v : Int)) H') : tCall (spTaken K) [] E tA σ H Q :=
  h H (Ex.refl H) _ fun H1 e1 => by
    rw [List.append_nil]
    exact ⟨r, a, ns, many, rfl, hr.mono e1, h1, h2, fun v H' hv hr' k' => k v H' hv hr' ((Kr.ex e1).trans k')⟩
theorem q_taken {E : XK} {tA : TA} {tz : TS} {i : Nat} {r a : Addr} {ns : List Int} {many : Nat} (h : EvA tA σ H [.ref r, .int (many : Int)]) (hr : RowAt K H r a ns) (h1 : 1 ≤ many) (h2 : many ≤ 1000) (k : ∀ (v : Nat) H', v < many → RowAt K H' r a ns → Kr r H H' → tz D (σ.set i (some (.int (v : Int)))) H') :
    tSeq (tAsg (tCall (spTaken K) [] E tA) (gName i)) tz D σ H := taken_go h hr h1 h2 k
theorem cut_take (xs : List V) (k : Nat) : cutV xs none (some (k : Int)) = xs.take k := by
  unfold cutV
  rw [HT.sIx_nat, HT.sIx_none, List.drop_zero, Nat.sub_zero]
  by_cases h : k ≤ xs.length
  · rw [Nat.min_eq_left h]
  · rw [Nat.min_eq_right (by omega), List.take_of_length_le (Nat.le_refl _), List.take_of_length_le (by omega)]
theorem cut_drop (xs : List V) (k : Nat) : cutV xs (some (k : Int)) none = xs.drop k := by
  unfold cutV
  rw [HT.sIx_nat, HT.sIx_none]
  by_cases h : k ≤ xs.length
  · rw [Nat.min_eq_left h, List.take_of_length_le (by rw [List.length_drop]; exact Nat.le_refl _)]
  · rw [Nat.min_eq_right (by omega), List.drop_of_length_le (Nat.le_refl _), List.drop_of_length_le (by omega), List.take_nil]
theorem el_take {p : Addr} {xs : List V} {k : Nat} (h : Ev te σ H (.ref p)) (hk : Ev ta σ H (.int (k : Int))) (hp : H p = some (.lst xs)) : EvL (tSl (rSlL K) te tNoPart (tPart ta)) σ H (xs.take k) := by
  have q := el_sl (K := K) h eo_none (eo_some hk) (SqL.of hp)
  rw [cut_take] at q
  exact q
theorem el_drop {p : Addr} {xs : List V} {k : Nat} (h : Ev te σ H (.ref p)) (hk : Ev ta σ H (.int (k : Int))) (hp : H p = some (.lst xs)) : EvL (tSl (rSlL K) te (tPart ta) tNoPart) σ H (xs.drop k) := by
  have q := el_sl (K := K) h (eo_some hk) eo_none (SqL.of hp)
  rw [cut_drop] at q
  exact q
theorem NL_take (xs : List Nat) (k : Nat) : (NL xs).take k = NL (xs.take k) := by
  unfold NL
  rw [List.map_take]
theorem NL_drop (xs : List Nat) (k : Nat) : (NL xs).drop k = NL (xs.drop k) := by
  unfold NL
  rw [List.map_drop]
theorem Kr.lat {r p : Addr} {H H' : Hp} {xs : List Nat} (k : Kr r H H') (n : p ≠ r) (h : LAt H p xs) : LAt H' p xs := k p _ n h
theorem q_parX {i j : Nat} {tz : TS} (h : ta σ H fun v H1 => tb σ H1 fun w H2 => ∃ v' w', [v, w] = [v', w'] ∧ tz D ((σ.set i (some v')).set j (some w')) H2) : tSeq (tPar i j (tCons ta (tCons tb tNil))) tz D σ H := h
/-! ### the order -/
def spOrder (K : PySem.W.Frag) : Sp := fun vs H Q _ => ∃ (r a : Addr) (ns : List Int) (many : Nat), vs = [.ref r, .int (many : Int)] ∧ RowAt K H r a ns ∧ many ≤ 6 ∧
  ∀ (p : Addr) (l : List Nat) H', H p = none → LAt H' p l → l.Perm (List.range many) → RowAt K H' r a ns → Kr r H H' → Q (.ref p) H'
abbrev nsOrder : List Str := ["_law_row", "_law_many", "_law_left", "_law_found", "_law_turn", "_law_at"]
theorem scOrder : FnScope nsOrder psTaken (defScope sOrder) := ⟨rfl, rfl, rfl, by decide +kernel, rfl, by decide +kernel, by decide +kernel⟩
theorem ok_order (T : Mg mg) (F : Fun K "_law_order" "_law_order" sOrder f fd) (D1 : Df P w K mg base 1 "_law_taken" psTaken (spTaken K)) : FnOk P w K mg base CX0 2 f fd psTaken (spOrder K) := by
  obtain ⟨g1, gd1, G1, bG1, kG1, mG1⟩ := D1.ex
  refine F.ok scOrder (fun vs H Q E h => ?_) (fun cdv A outer s H vs Q E hr h => ?_)
  · obtain ⟨r, a, ns, many, rfl, _⟩ := h
    rfl
  obtain ⟨r, a, ns, many, rfl, hrow, m2, q⟩ := h
  refine ⟨_, pss_cons (ps_par (i := 2) (j := 3) (by rfl) scOrder.nd rfl rfl (by decide) rfl rfl (pa_cons (pe_listRg rfl (by rfl) T.list (prg_1 (by rfl) T.range (pv 1))) (pa_cons (pe_lst pa_nil) pa_nil)) (by rfl))
    (pss_cons (ps_for PassesOwn.never rfl (pi_range1 (by rfl) T.range (pa_cons (pv 1) pa_nil)) (pg_name (i := 4) scOrder.nd rfl (.inl rfl))
      (pss_cons (ps_set (i := 5) scOrder.nd rfl (Or.inl rfl) (pe_call G1 hr rfl mG1 kG1 bG1 .nil pass0 (pa_cons (pv 0) (pa_cons (pe_callB (call_lenK K) (by rfl) T.len PySem.boot_len (pa_cons (pv 2) pa_nil)) pa_nil))))
      (pss_cons (ps_expr (pe_bm PySem.F.plainAttrs_list PySem.F.slot_list_append PySem.F.type_list_append mt_append (pv 3) (pa_cons (pe_ix ix_list (pv 2) (pv 5) (fun _ _ => rfl)) pa_nil)))
      (pss_one (ps_set (i := 2) scOrder.nd rfl (Or.inl rfl) (pe_op op_cat (pe_slice sl_list (pv 2) po_none (po_some (pv 5))) (pe_slice sl_list (pv 2) (po_some (pe_op op_add (pv 5) pe_int)) po_none)))))))
    (pss_one (ps_ret (pv 3)))), ?_⟩
  refine q_parX ?_
  refine el_listRg (n := many) (σ := start nsOrder [.ref r, .int (many : Int)]) (ta := tVar 1) (ev_var rfl) (by omega) H (Ex.refl H) _ fun pl H1 hpl e1 hl1 => ?_
  refine el_nil (σ := start nsOrder [.ref r, .int (many : Int)]) H1 (Ex.refl H1) _ fun pf H2 hpf1 e2 h2 => ⟨_, _, rfl, ?_⟩
  have hpf : H pf = none := fresh_back e1 hpf1
  have lpl : LAt H2 pl (List.range many) := e2 _ _ hl1
  refine q_forR1 (n := (many : Int)) (ea_cons (ev_var rfl) ea_nil) ⟨by omega, by omega⟩
    (fun i σ H' => ∃ (pl : Addr) (l found : List Nat) (x4 x5 : Option V), σ = [some (.ref r), some (.int (many : Int)), some (.ref pl), some (.ref pf), x4, x5] ∧ LAt H' pl l ∧ LAt H' pf found ∧ pl ≠ pf ∧ (found ++ l).Perm (List.range many) ∧ found.length = i ∧ RowAt K H' r a ns ∧ Kr r H H')
    (fun H3 e3 => ⟨pl, List.range many, [], _, _, rfl, e3 _ _ lpl, e3 _ _ h2, ne_of_none hl1 hpf1, List.Perm.refl _, rfl, hrow.mono ((e1.trans e2).trans e3), Kr.ex ((e1.trans e2).trans e3)⟩) ?_ ?_
  · rintro i σ H' hi ⟨pl, l, found, x4, x5, rfl, hl, hf, ne, pm, fl, row, kr⟩
    have hlen : found.length + l.length = many := by
      have z := pm.length_eq
      rw [List.length_append, List.length_range] at z
      exact z
    refine q_taken (many := l.length) (ea_cons (ev_var rfl) (ea_cons (ev_is (ev_lenL (ev_var rfl) hl) (by rw [NL_len])) ea_nil)) row (by omega) (by omega) fun v H1 hv row1 kr1 => ?_
    have hl1 := kr1.lat (row.ne hl) hl
    have hf1 := kr1.lat (row.ne hf) hf
    obtain ⟨y, hy⟩ : ∃ y, l[v]? = some y := ⟨l[v], List.getElem?_eq_getElem hv⟩
    refine q_app (v := .int (y : Int)) hf1 (ev_var rfl) (ev_ixL (ev_var rfl) (ev_var rfl) hl1 (at_nat (NL_at hy))) (by rw [NL_len]; omega) fun H2 e2 => ?_
    have kr2 : Kr r H H2 := (kr.trans kr1).trans (Kr.ex e2)
    have row2 : RowAt K H2 r a ns := row1.mono e2
    have eap : NL found ++ [V.int (y : Int)] = NL (found ++ [y]) := by rw [NL_app]; rfl
    rw [eap]
    have row3 := hrow.fresh (u := .lst (NL (found ++ [y]))) row2 kr2 hpf
    have kr3 : Kr r H (upd H2 pf (.lst (NL (found ++ [y])))) := kr2.fresh hpf
    have hl3 : LAt (upd H2 pf (.lst (NL (found ++ [y])))) pl l := by
      show (upd H2 pf _) pl = _
      rw [upd_ne ne]
      exact e2 _ _ hl1
    have hf3 : LAt (upd H2 pf (.lst (NL (found ++ [y])))) pf (found ++ [y]) := upd_same
    show tAsg _ _ _ _ (upd H2 pf (.lst (NL (found ++ [y]))))
    generalize upd H2 pf (.lst (NL (found ++ [y]))) = H3 at row3 kr3 hl3 hf3
    refine s_asgL (xs := NL (l.take v ++ l.drop (v + 1))) (el_is (el_catLL (el_take (k := v) (ev_var rfl) (ev_var rfl) hl3) (el_drop (k := v + 1) (ev_var rfl) (ev_op (ev_var rfl) ev_c rv_I0) hl3) (by
      rw [List.length_take, List.length_drop, NL_len]
      omega)) (by rw [NL_take, NL_drop, ← NL_app])) fun p4 H4 hp4 e4 h4 => ?_
    refine ⟨p4, _, found ++ [y], _, _, rfl, h4, e4 _ _ hf3, (ne_of_none hf3 hp4).symm, ?_, by rw [List.length_append, fl]; rfl, row3.mono e4, kr3.trans (Kr.ex e4)⟩
    have el : l = l.take v ++ y :: l.drop (v + 1) := by
      obtain ⟨hv', ey⟩ := List.getElem?_eq_some_iff.mp hy
      rw [← ey, ← List.drop_eq_getElem_cons hv', List.take_append_drop]
    refine List.Perm.trans ?_ pm
    conv => rhs; rw [el]
    rw [List.append_assoc]
    exact List.Perm.append_left found (show (y :: (l.take v ++ l.drop (v + 1))).Perm _ from List.perm_middle.symm)
  · rintro σ H' ⟨pl, l, found, x4, x5, rfl, hl, hf, ne, pm, fl, row, kr⟩
    rw [show ((many : Int)).toNat = many by omega] at fl
    have hlen : found.length + l.length = many := by
      have z := pm.length_eq
      rw [List.length_append, List.length_range] at z
      exact z
    have el : l = [] := List.eq_nil_of_length_eq_zero (by omega)
    subst el
    rw [List.append_nil] at pm
    exact s_ret (ev_var rfl) fun H1 e1 => q pf found H1 hpf (e1 _ _ hf) pm (row.mono e1) (kr.trans (Kr.ex e1))
theorem order_go {E : XK} {Q : VK} {tA : TA} {r a : Addr} {ns : List Int} {many : Nat} (h : EvA tA σ H [.ref r, .int (many : Int)]) (hr : RowAt K H r a ns) (h2 : many ≤ 6) (k : ∀ (p : Addr) (l : List Nat) H', H p = none → LAt H' p l → l.Perm (List.range many) → RowAt K H' r a ns → Kr r H H' → Q (.ref p) H') : tCall (spOrder K) [] E tA σ H Q :=
  h H (Ex.refl H) _ fun H1 e1 => by
    rw [List.append_nil]
    exact ⟨r, a, ns, many, rfl, hr.mono e1, h2, fun p l H' hp hl pm hr' k' => k p l H' (fresh_back e1 hp) hl pm hr' ((Kr.ex e1).trans k')⟩
end
end K76

/-! ## K76W8c -/
namespace K76
open PySem L2 Evl
section
variable {P : Program} {w : World} {K : PySem.W.Frag} {mg : Str → Option Value} {base : Heap} {f : Addr} {fd : FuncData}
variable {σ : L2.St} {H : Hp} {ta tb td ti te : TE} {D : Ends}
/-! ### edges in a dict -/
structure Eds (n : Nat) (E : List (Nat × Nat)) : Prop where
  nd : E.Nodup
  lt : ∀ e ∈ E, e.1 < e.2 ∧ e.2 < n
theorem Eds.few {n : Nat} {E : List (Nat × Nat)} (h : Eds n E) (n6 : n ≤ 6) : E.length ≤ 36 := by
  have z := nd_lt (n := 36) (l := E.map fun e => 6 * e.1 + e.2) (by
    unfold List.Nodup
    rw [List.pairwise_map]
    refine List.Pairwise.imp_of_mem (fun {a b} ha hb hab => ?_) h.nd
    have h1 := h.lt a ha
    have h2 := h.lt b hb
    intro e
    exact hab (Prod.ext (by omega) (by omega))) fun x hx => by
    obtain ⟨e, he, rfl⟩ := List.mem_map.mp hx
    have h1 := h.lt e he
    omega
  rwa [List.length_map] at z
def kE (e : Nat × Nat) : List Key := [Sum.inl ((e.1 : Nat) : Int), Sum.inl ((e.2 : Nat) : Int)]
theorem kE_inj {a b : Nat × Nat} (h : kE a = kE b) : a = b := by
  unfold kE at h
  have h1 := List.cons.inj h
  have h2 := List.cons.inj h1.2
  have e1 : ((a.1 : Nat) : Int) = ((b.1 : Nat) : Int) := Sum.inl.inj h1.1
  have e2 : ((a.2 : Nat) : Int) = ((b.2 : Nat) : Int) := Sum.inl.inj h2.1
  exact Prod.ext (by omega) (by omega)
def encE (E : List (Nat × Nat)) : List (List Key × V) := E.map fun e => (kE e, V.bl true)
theorem encE_len (E : List (Nat × Nat)) : (encE E).length = E.length := List.length_map _
theorem encE_val : ∀ (E : List (Nat × Nat)) (e : Nat × Nat), (valV (encE E) (kE e)).isSome = decide (e ∈ E)
  | [], _ => rfl
  | x :: E, e => by
    show (valV ((kE x, V.bl true) :: encE E) _).isSome = _
    by_cases h : x = e
    · rw [valV_pos (by rw [h]), h, decide_eq_true List.mem_cons_self]
      rfl
    · rw [valV_neg (fun z => h (kE_inj z)), encE_val E e]
      by_cases c : e ∈ E
      · rw [decide_eq_true c, decide_eq_true (List.mem_cons_of_mem _ c)]
      · rw [decide_eq_false c, decide_eq_false fun z => by
          rcases List.mem_cons.mp z with z | z
          · exact h z.symm
          · exact c z]
theorem encE_put {n : Nat} {E : List (Nat × Nat)} (h : Eds n E) {e : Nat × Nat} (he : e.1 < e.2 ∧ e.2 < n) : ∃ E', Eds n E' ∧ putK (encE E) (kE e) (V.bl true) = encE E' := by
  by_cases c : e ∈ E
  · refine ⟨E, h, ?_⟩
    unfold putK
    rw [valV_any, encE_val, if_pos (decide_eq_true c)]
    unfold encE
    rw [List.map_map]
    refine List.map_congr_left fun x _ => ?_
    show (if kE x = kE e then (kE x, V.bl true) else (kE x, V.bl true)) = _
    by_cases z : kE x = kE e
    · rw [if_pos z]
    · rw [if_neg z]
  · refine ⟨E ++ [e], ⟨List.nodup_append.mpr ⟨h.nd, by simp, fun a ha b hb => by
      have eb : b = e := by simpa using hb
      subst eb
      exact fun z => c (z ▸ ha)⟩, fun x hx => by
      rcases List.mem_append.mp hx with hx | hx
      · exact h.lt x hx
      · have ex : x = e := by simpa using hx
        subst ex
        exact he⟩, ?_⟩
    have nn : valV (encE E) (kE e) = none := by
      cases z : valV (encE E) (kE e) with
      | none => rfl
      | some v =>
        have y := encE_val E e
        rw [z, decide_eq_false c] at y
        cases y
    rw [putK_new _ nn]
    unfold encE
    rw [List.map_append]
    rfl
def rMin2 : List V → Hp → VK → Prop := fun xs H Q => ∃ i j, xs = [.int i, .int j] ∧ Q (.int (if j < i then j else i)) H
theorem ev_min2 {i j : Int} (ha : Ev ta σ H (.int i)) (hb : Ev tb σ H (.int j)) : Ev (tCB rMin2 (tCons ta (tCons tb tNil))) σ H (.int (if j < i then j else i)) := fun H1 e Q q =>
  ha H1 e _ fun H2 e2 => hb H2 (e.trans e2) _ fun H3 e3 => ⟨i, j, rfl, q H3 (e2.trans e3)⟩
abbrev tKey : TE := tTup (tCons (tCB rMin2 (tCons (tVar 7) (tCons (tVar 8) tNil))) (tCons (tCB rMax2 (tCons (tVar 7) (tCons (tVar 8) tNil))) tNil))
theorem pair_of {a b n : Nat} (ab : a ≠ b) (ha : a < n) (hb : b < n) : ∃ e : Nat × Nat, (e.1 < e.2 ∧ e.2 < n) ∧ (if (b : Int) < (a : Int) then (b : Int) else (a : Int)) = (e.1 : Int) ∧ (if (b : Int) > (a : Int) then (b : Int) else (a : Int)) = (e.2 : Int) := by
  by_cases h : b < a
  · exact ⟨(b, a), ⟨h, ha⟩, if_pos (by omega), if_neg (by omega)⟩
  · exact ⟨(a, b), ⟨by show a < b; omega, hb⟩, if_neg (by omega), if_pos (by omega)⟩
theorem s_dputT {a : Addr} {kvs : List (List Key × V)} {k : List Key} {v : V} (hv : Ev te σ H v) (hd : Ev td σ H (.ref a)) (hi : EvU ti σ H (k.map kV)) (h : H a = some (.dT kvs)) (hl : kvs.length < 100000) (q : ∀ H1, Ex H H1 → D.nx σ (upd H1 a (.dT (putK kvs k v)))) : sDPut td ti te D σ H :=
  hv H (Ex.refl H) _ fun H1 e1 => hd H1 e1 _ fun H2 e2 => hi H2 (e1.trans e2) _ fun b H3 hb e3 h3 => ⟨a, _, rfl, DPut.t (((e1.trans e2).trans e3) _ _ h) h3 (sz_lt hl), q H3 ((e1.trans e2).trans e3)⟩
theorem s_edge {de : Addr} {E : List (Nat × Nat)} {a b n : Nat} (h3 : σ[3]? = some (some (.ref de))) (h7 : σ[7]? = some (some (.int (a : Int)))) (h8 : σ[8]? = some (some (.int (b : Int)))) (hd : H de = some (.dT (encE E))) (hE : Eds n E) (n6 : n ≤ 6) (ab : a ≠ b) (ha : a < n) (hb : b < n)
    (k : ∀ E' H1, Ex H H1 → Eds n E' → D.nx σ (upd H1 de (.dT (encE E')))) : sDPut (tVar 3) tKey (tC (.bl true)) D σ H := by
  obtain ⟨e, he, e1, e2⟩ := pair_of ab ha hb
  obtain ⟨E', hE', ep⟩ := encE_put hE he
  refine s_dputT (k := kE e) ev_c (ev_var h3) (eu_tup (ea_cons (ev_is (ev_min2 (ev_var h7) (ev_var h8)) (by rw [e1]; rfl)) (ea_cons (ev_is (ev_max2 (ev_var h7) (ev_var h8)) (by rw [e2]; rfl)) ea_nil)) (by show 2 ≤ 100000; decide)) hd (by rw [encE_len]; have := hE.few n6; omega) fun H1 e1' => ?_
  rw [ep]
  exact k E' H1 e1' hE'
/-! ### tests and loops that take -/
theorem s_whenOr {t u : TT} {tu : TS} {a : Bool} (hA : EvT t σ H a) (h1 : a = true → ∀ H1, Ex H H1 → tu D σ H1) (h2 : a = false → ∀ H1, Ex H H1 → u σ H1 fun c H2 => if c = true then tu D σ H2 else D.nx σ H2) : tIfS (tOr t u) tu tNext D σ H := hA H (Ex.refl H) _ fun H1 e1 => by
  cases a with
  | true => exact iteT (iteT (h1 rfl H1 e1))
  | false => exact iteF (h2 rfl H1 e1)
theorem t_takenGt {E : XK} {Q : Bool → Hp → Prop} {tA : TA} {r a : Addr} {ns : List Int} {many : Nat} (h : EvA tA σ H [.ref r, .int (many : Int)]) (hr : RowAt K H r a ns) (h1 : 1 ≤ many) (h2 : many ≤ 1000) (k : ∀ (v : Nat) H', v < many → RowAt K H' r a ns → Kr r H H' → Q (decide ((0 : Int) < (v : Int))) H') :
    tTest (tOp (rI0 fun i j => V.bl (decide (j < i))) (tCall (spTaken K) [] E tA) (tC (.int 0))) σ H Q := taken_go h hr h1 h2 fun v H' hv r k' => ⟨(v : Int), 0, rfl, rfl, _, rfl, k v H' hv r k'⟩
theorem q_forIf {E : XK} {t : TT} {tA : TA} {tu tz : TS} {j : Nat} {r a : Addr} {ns : List Int} {c : Bool} (hc : EvT t σ H c) (hA : EvA tA σ H [.ref r, .int ((4 : Nat) : Int)]) (row : RowAt K H r a ns) (Pv : Nat → L2.St → Hp → Prop) (h0 : ∀ H1, RowAt K H1 r a ns → Kr r H H1 → Pv 0 σ H1)
    (hs : ∀ (i : Nat) σ' H', i < 4 → Pv i σ' H' → tu { D with nx := Pv (i + 1), ct := Pv (i + 1), bk := tz D } (σ'.set j (some (.int (i : Int)))) H') (hd : ∀ n σ' H', Pv n σ' H' → tz D σ' H') :
    tSeq (tFor (iRng1 (tCons (tIf t (tCall (spTaken K) [] E tA) (tC (.int 0))) tNil)) (gName j) tu) tz D σ H := hc H (Ex.refl H) _ fun H1 e1 => by
  cases c with
  | true =>
    refine iteT ?_
    exact taken_go (many := 4) (fun H2 e2 Q2 q2 => hA H2 (e1.trans e2) Q2 q2) (row.mono e1) (by decide) (by decide) fun v H2 hv row2 kr2 => ⟨(v : Int), rfl, by omega, by omega, for_range (lo := 0) (n := ((v : Int)).toNat) Pv (h0 H2 row2 ((Kr.ex e1).trans kr2)) (fun i σ' H' hi p => by
      have e0 : (0 : Int) + (i : Int) = (i : Int) := Int.zero_add _
      show tu { D with nx := Pv (i + 1), ct := Pv (i + 1), bk := tz D } (σ'.set j (some (.int ((0 : Int) + (i : Int))))) H'
      rw [e0]
      exact hs i σ' H' (by omega) p) fun σ' H' p => hd _ σ' H' p⟩
  | false =>
    refine iteF ?_
    exact ⟨0, rfl, by omega, by omega, for_range (lo := 0) (n := 0) Pv (h0 H1 (row.mono e1) (Kr.ex e1)) (fun i σ' H' hi p => absurd hi (Nat.not_lt_zero i)) fun σ' H' p => hd _ σ' H' p⟩
theorem s_retTup2 (h : ta σ H fun x H1 => tb σ H1 fun y H2 => ([x, y] : List V).length ≤ sizeLine ∧ ∀ p, H2 p = none → D.rt (.ref p) (upd H2 p (.tup [x, y]))) : tRet (tTup (tCons ta (tCons tb tNil))) D σ H := h
/-! ### the web that is drawn -/
def spWebL (K : PySem.W.Frag) : Sp := fun vs H Q _ => ∃ (r a : Addr) (ns : List Int), vs = [.ref r, .int 6] ∧ RowAt K H r a ns ∧
  ∀ (t : Addr) (n : Nat) (es : List (Nat × Nat)) H', Web n es → WebAt H' t n es → RowAt K H' r a ns → Kr r H H' → Q (.ref t) H'
abbrev psWebL : List Str := ["_law_row", "_law_most"]
abbrev nsWebL : List Str := ["_law_row", "_law_most", "_law_many", "_law_edges", "_law_way", "_law_names", "_law_k", "_law_a", "_law_b", "_law_turn"]
theorem scWebL : FnScope nsWebL psWebL (defScope sWeb) := ⟨rfl, rfl, rfl, by decide +kernel, rfl, by decide +kernel, by decide +kernel⟩
theorem ok_webl (T : Mg mg) (F : Fun K "_law_web" "_law_web" sWeb f fd) (D1 : Df P w K mg base 1 "_law_taken" psTaken (spTaken K)) (D2 : Df P w K mg base 2 "_law_order" psTaken (spOrder K)) : FnOk P w K mg base CX0 3 f fd psWebL (spWebL K) := by
  obtain ⟨g1, gd1, G1, bG1, kG1, mG1⟩ := D1.ex
  obtain ⟨g2, gd2, G2, bG2, kG2, mG2⟩ := D2.ex
  refine F.ok scWebL (fun vs H Q E h => ?_) (fun cdv A outer s H vs Q E hr h => ?_)
  · obtain ⟨r, a, ns, rfl, _⟩ := h
    rfl
  obtain ⟨r, a, ns, rfl, hrow, q⟩ := h
  have hu := hu_of hr
  have hr1 : Room 1 _ := hr.mono (by decide)
  refine ⟨_, pss_cons (ps_par (i := 2) (j := 3) (by rfl) scWebL.nd rfl rfl (by decide) rfl rfl (pa_cons (pe_op op_add pe_int (pe_call G1 hr1 rfl mG1 kG1 bG1 .nil pass0 (pa_cons (pv 0) (pa_cons (pv 1) pa_nil)))) (pa_cons pe_dnewT pa_nil)) (by rfl))
    (pss_cons (ps_set (i := 4) scWebL.nd rfl (Or.inl rfl) (pe_call G1 hr1 rfl mG1 kG1 bG1 .nil pass0 (pa_cons (pv 0) (pa_cons pe_int pa_nil))))
    (pss_cons (ps_set (i := 5) scWebL.nd rfl (Or.inl rfl) (pe_call G2 hr rfl mG2 kG2 bG2 .nil pass0 (pa_cons (pv 0) (pa_cons (pv 2) pa_nil))))
    (pss_cons (ps_for PassesOwn.never rfl (pi_range2 (by rfl) T.range (pa_cons pe_int (pa_cons (pv 2) pa_nil))) (pg_name (i := 6) scWebL.nd rfl (.inl rfl))
      (pss_one (ps_if (PW.pt (pw_or (pt_cmpR op_ne (pv 4) pe_int (nomark _)) (pw_or1 (pt_cmpR op_gt (pe_call G1 hr1 rfl mG1 kG1 bG1 .nil pass0 (pa_cons (pv 0) (pa_cons pe_int pa_nil))) pe_int (nomark _)))))
        (pss_cons (ps_par (i := 7) (j := 8) (by rfl) scWebL.nd rfl rfl (by decide) rfl rfl (pa_cons (pe_ix ix_list (pv 5) (pv 6) (fun _ _ => rfl)) (pa_cons (pe_ix ix_list (pv 5) (pe_call G1 hr1 rfl mG1 kG1 bG1 .nil pass0 (pa_cons (pv 0) (pa_cons (pv 6) pa_nil))) (fun _ _ => rfl)) pa_nil)) (by rfl))
          (pss_one (ps_dput hu (pv 3) (pe_tup (pa_cons (pe_callB (r := rMin2) (call_min2 rfl) (by rfl) T.min (by decide +kernel) (pa_cons (pv 7) (pa_cons (pv 8) pa_nil))) (pa_cons (pe_callB (r := rMax2) (call_max2 rfl) (by rfl) T.max (by decide +kernel) (pa_cons (pv 7) (pa_cons (pv 8) pa_nil))) pa_nil))) pe_bl rfl))) pss_nil)))
    (pss_cons (ps_for PassesOwn.never rfl (pi_range1 (by rfl) T.range (pa_cons (pe_ifExp (pt_cmpR op_eq (pv 4) pe_int (nomark _)) (pe_call G1 hr1 rfl mG1 kG1 bG1 .nil pass0 (pa_cons (pv 0) (pa_cons pe_int pa_nil))) pe_int) pa_nil)) (pg_name (i := 9) scWebL.nd rfl (.inl rfl))
      (pss_cons (ps_par (i := 7) (j := 8) (by rfl) scWebL.nd rfl rfl (by decide) rfl rfl (pa_cons (pe_call G1 hr1 rfl mG1 kG1 bG1 .nil pass0 (pa_cons (pv 0) (pa_cons (pv 2) pa_nil))) (pa_cons (pe_call G1 hr1 rfl mG1 kG1 bG1 .nil pass0 (pa_cons (pv 0) (pa_cons (pv 2) pa_nil))) pa_nil)) (by rfl))
      (pss_one (ps_if (pt_cmpR op_ne (pv 7) (pv 8) (nomark _))
          (pss_one (ps_dput hu (pv 3) (pe_tup (pa_cons (pe_callB (r := rMin2) (call_min2 rfl) (by rfl) T.min (by decide +kernel) (pa_cons (pv 7) (pa_cons (pv 8) pa_nil))) (pa_cons (pe_callB (r := rMax2) (call_max2 rfl) (by rfl) T.max (by decide +kernel) (pa_cons (pv 7) (pa_cons (pv 8) pa_nil))) pa_nil))) pe_bl rfl)) pss_nil))))
    (pss_one (ps_ret (pe_tup (pa_cons (pv 2) (pa_cons (pe_callTy call_tuple_of (by rfl) T.tuple (by decide +kernel) (pa_cons (pe_callB (KR.cr_sortV rfl) (by rfl) T.sorted (by decide +kernel) (pa_cons (pe_bm0 PySem.F.plainAttrs_dict PySem.F.slot_dict_keys PySem.F.type_dict_keys KR.mt_keysV (pv 3)) pa_nil)) pa_nil)) pa_nil))))))))), ?_⟩
  refine q_parX ?_
  refine (ev_c : Ev (tC (.int 1)) (start nsWebL [.ref r, .int 6]) H (.int 1)) H (Ex.refl H) _ fun H1 e1 => ?_
  refine taken_go (many := 6) (ea_cons (ev_var rfl) (ea_cons (ev_var rfl) ea_nil)) (hrow.mono e1) (by decide) (by decide) fun v H2 hv row2 kr2 => ⟨1, (v : Int), rfl, rfl, fun de hde2 => ⟨.int ((1 : Int) + (v : Int)), .ref de, rfl, ?_⟩⟩
  have kr02 : Kr r H H2 := (Kr.ex e1).trans kr2
  have ed : Ex H2 (upd H2 de (.dT [])) := Ex.new hde2
  obtain ⟨n, en, n1, n6⟩ : ∃ n : Nat, (1 : Int) + (v : Int) = (n : Int) ∧ 1 ≤ n ∧ n ≤ 6 := ⟨1 + v, by omega, by omega, by omega⟩
  rw [en]
  have rne : de ≠ r := fun e => by
    obtain ⟨_, _, _, z, _⟩ := row2
    rw [← e, hde2] at z
    cases z
  have hde : H de = none := by
    cases z : H de with
    | none => rfl
    | some o =>
      have y := kr02 de o rne z
      rw [hde2] at y
      cases y
  -- way, names
  refine q_taken (many := 4) (ea_cons (ev_var rfl) (ea_cons ev_c ea_nil)) (row2.mono ed) (by decide) (by decide) fun way H3 hway row3 kr3 => ?_
  have d3 : H3 de = some (.dT (encE [])) := kr3 de _ rne upd_same
  have kr03 : Kr r H H3 := kr02.trans ((Kr.ex ed).trans kr3)
  refine order_go (many := n) (ea_cons (ev_var rfl) (ea_cons (ev_var rfl) ea_nil)) row3 n6 fun pn names H4 hpn hnm pm row4 kr4 => ?_
  have d4 : H4 de = some (.dT (encE [])) := kr4 de _ rne d3
  have kr04 : Kr r H H4 := kr03.trans kr4
  have pnde : pn ≠ de := fun e => by rw [e, d3] at hpn; cases hpn
  have lenN : names.length = n := by
    have z := pm.length_eq
    rwa [List.length_range] at z
  have ndN : names.Nodup := pm.nodup_iff.mpr List.nodup_range
  have ltN : ∀ x ∈ names, x < n := fun x hx => List.mem_range.mp (pm.mem_iff.mp hx)
  -- what is put
  have put : ∀ {H5 : Hp} {E' : List (Nat × Nat)}, RowAt K H5 r a ns → Kr r H H5 → LAt H5 pn names → RowAt K (upd H5 de (.dT (encE E'))) r a ns ∧ Kr r H (upd H5 de (.dT (encE E'))) ∧ LAt (upd H5 de (.dT (encE E'))) pn names := fun r5 k5 l5 =>
    ⟨hrow.fresh r5 k5 hde, k5.fresh hde, by show (upd _ de _) pn = _; rw [upd_ne pnde]; exact l5⟩
  refine q_forR2 (lo := 1) (n := (n : Int)) (ea_cons ev_c (ea_cons (ev_var rfl) ea_nil)) ⟨by omega, by omega, by omega, by omega⟩
    (fun i σ H' => ∃ (E : List (Nat × Nat)) (x6 x7 x8 x9 : Option V), σ = [some (.ref r), some (.int 6), some (.int (n : Int)), some (.ref de), some (.int (way : Int)), some (.ref pn), x6, x7, x8, x9] ∧ H' de = some (.dT (encE E)) ∧ Eds n E ∧ LAt H' pn names ∧ RowAt K H' r a ns ∧ Kr r H H')
    (fun H5 e5 => ⟨[], _, _, _, _, rfl, e5 _ _ d4, ⟨List.nodup_nil, fun _ h => nomatch h⟩, e5 _ _ hnm, row4.mono e5, kr04.trans (Kr.ex e5)⟩) ?_ ?_
  · rintro i σ H' hi ⟨E, x6, x7, x8, x9, rfl, hd, hE, hl, row, kr⟩
    have hi' : i + 1 < n := by omega
    rw [show (1 : Int) + (i : Int) = ((i + 1 : Nat) : Int) by omega]
    obtain ⟨y, hy⟩ : ∃ y, names[i + 1]? = some y := ⟨names[i + 1], List.getElem?_eq_getElem (by omega)⟩
    have body : ∀ {D' : Ends} {H1 : Hp}, RowAt K H1 r a ns → Kr r H H1 → LAt H1 pn names → H1 de = some (.dT (encE E)) →
        (∀ E' x7 x8 H2, Eds n E' → RowAt K H2 r a ns → Kr r H H2 → LAt H2 pn names → H2 de = some (.dT (encE E')) → D'.nx [some (.ref r), some (.int 6), some (.int (n : Int)), some (.ref de), some (.int (way : Int)), some (.ref pn), some (.int ((i + 1 : Nat) : Int)), x7, x8, x9] H2) →
        tSeq (tPar 7 8 (tCons (tOp (rIxL K) (tVar 5) (tVar 6)) (tCons (tOp (rIxL K) (tVar 5) (tCall (spTaken K) [] E0 (tCons (tVar 0) (tCons (tVar 6) tNil)))) tNil))) (sDPut (tVar 3) tKey (tC (.bl true))) D' [some (.ref r), some (.int 6), some (.int (n : Int)), some (.ref de), some (.int (way : Int)), some (.ref pn), some (.int ((i + 1 : Nat) : Int)), x7, x8, x9] H1 := fun {D' H1} row1 kr1 hl1 hd1 k => by
      refine q_parX ?_
      refine (ev_ixL (ev_var rfl) (ev_var rfl) hl1 (at_nat (NL_at hy)) : Ev (tOp (rIxL K) (tVar 5) (tVar 6)) [some (.ref r), some (.int 6), some (.int (n : Int)), some (.ref de), some (.int (way : Int)), some (.ref pn), some (.int ((i + 1 : Nat) : Int)), x7, x8, x9] H1 (.int (y : Int))) H1 (Ex.refl H1) _ fun H2 e2 => ?_
      refine (ev_var rfl : Ev (tVar 5) [some (.ref r), some (.int 6), some (.int (n : Int)), some (.ref de), some (.int (way : Int)), some (.ref pn), some (.int ((i + 1 : Nat) : Int)), x7, x8, x9] H2 (.ref pn)) H2 (Ex.refl H2) _ fun H3 e3 => ?_
      have e23 := e2.trans e3
      refine taken_go (many := i + 1) (ea_cons (ev_var rfl) (ea_cons (ev_var rfl) ea_nil)) (row1.mono e23) (by omega) (by omega) fun v H4 hv row4 kr4 => ?_
      have hl4 := kr4.lat ((row1.mono e23).ne (e23 _ _ hl1)) (e23 _ _ hl1)
      have hd4 := kr4 de _ rne (e23 _ _ hd1)
      have kr04 := kr1.trans ((Kr.ex e23).trans kr4)
      obtain ⟨z, hz⟩ : ∃ z, names[v]? = some z := ⟨names[v], List.getElem?_eq_getElem (by omega)⟩
      refine (rv_ixL (SqL.of hl4) (at_nat (NL_at hz)) : RV (rIxL K) (.ref pn) (.int (v : Int)) H4 (.int (z : Int))) H4 (Ex.refl H4) _ fun H5 e5 => ⟨_, _, rfl, ?_⟩
      have yz : y ≠ z := fun e => by
        have q1 := nd_ix ndN hy (e ▸ hz)
        omega
      refine s_edge (a := y) (b := z) (n := n) rfl rfl rfl (e5 _ _ hd4) hE n6 yz (ltN y (List.mem_of_getElem? hy)) (ltN z (List.mem_of_getElem? hz)) fun E' H6 e6 hE' => ?_
      have e56 := e5.trans e6
      obtain ⟨p1, p2, p3⟩ := put (E' := E') (row4.mono e56) (kr04.trans (Kr.ex e56)) (e56 _ _ hl4)
      exact k E' _ _ _ hE' p1 p2 p3 upd_same
    refine s_whenOr (a := !decide ((V.int (way : Int)) = V.int 3)) (et_test (ev_op (ev_var rfl) ev_c (rv_ne rfl))) (fun _ H1 e1 => ?_) (fun _ H1 e1 => ?_)
    · exact body (row.mono e1) (kr.trans (Kr.ex e1)) (e1 _ _ hl) (e1 _ _ hd) fun E' x7 x8 H2 hE' p1 p2 p3 p4 => ⟨E', _, _, _, _, rfl, p4, hE', p3, p1, p2⟩
    · refine t_takenGt (many := 4) (ea_cons (ev_var rfl) (ea_cons ev_c ea_nil)) (row.mono e1) (by decide) (by decide) fun v H2 hv row2 kr2 => ?_
      have hl2 := kr2.lat ((row.mono e1).ne (e1 _ _ hl)) (e1 _ _ hl)
      have hd2 := kr2 de _ rne (e1 _ _ hd)
      have kr02 := kr.trans ((Kr.ex e1).trans kr2)
      refine ite2 (fun _ => ?_) fun _ => ?_
      · exact body row2 kr02 hl2 hd2 fun E' x7 x8 H2 hE' p1 p2 p3 p4 => ⟨E', _, _, _, _, rfl, p4, hE', p3, p1, p2⟩
      · exact ⟨E, _, _, _, _, rfl, hd2, hE, hl2, row2, kr02⟩
  · rintro σ H' ⟨E, x6, x7, x8, x9, rfl, hd, hE, hl, row, kr⟩
    refine q_forIf (c := decide ((V.int (way : Int)) = V.int 2)) (et_test (ev_op (ev_var rfl) ev_c (rv_eq rfl))) (ea_cons (ev_var rfl) (ea_cons ev_c ea_nil)) row
      (fun i σ H' => ∃ (E : List (Nat × Nat)) (x6 x7 x8 x9 : Option V), σ = [some (.ref r), some (.int 6), some (.int (n : Int)), some (.ref de), some (.int (way : Int)), some (.ref pn), x6, x7, x8, x9] ∧ H' de = some (.dT (encE E)) ∧ Eds n E ∧ LAt H' pn names ∧ RowAt K H' r a ns ∧ Kr r H H')
      (fun H1 row1 kr1 => ⟨E, _, _, _, _, rfl, kr1 de _ rne hd, hE, kr1.lat (row.ne hl) hl, row1, kr.trans kr1⟩) ?_ ?_
    · rintro i σ H' hi ⟨E, x6, x7, x8, x9, rfl, hd, hE, hl, row, kr⟩
      refine q_parX ?_
      refine taken_go (σ := [some (.ref r), some (.int 6), some (.int (n : Int)), some (.ref de), some (.int (way : Int)), some (.ref pn), x6, x7, x8, some (.int (i : Int))]) (tA := tCons (tVar 0) (tCons (tVar 2) tNil)) (many := n) (ea_cons (ev_var rfl) (ea_cons (ev_var rfl) ea_nil)) row n1 (by omega) fun y H1 hy row1 kr1 => ?_
      refine taken_go (σ := [some (.ref r), some (.int 6), some (.int (n : Int)), some (.ref de), some (.int (way : Int)), some (.ref pn), x6, x7, x8, some (.int (i : Int))]) (tA := tCons (tVar 0) (tCons (tVar 2) tNil)) (many := n) (ea_cons (ev_var rfl) (ea_cons (ev_var rfl) ea_nil)) row1 n1 (by omega) fun z H2 hz row2 kr2 => ⟨_, _, rfl, ?_⟩
      have hl2 := kr2.lat (row1.ne (kr1.lat (row.ne hl) hl)) (kr1.lat (row.ne hl) hl)
      have hd2 := kr2 de _ rne (kr1 de _ rne hd)
      have kr02 := (kr.trans kr1).trans kr2
      refine s_when (b := !decide ((V.int (y : Int)) = V.int (z : Int))) (et_test (ev_op (ev_var rfl) (ev_var rfl) (rv_ne rfl))) (fun hc H3 e3 => ?_) fun _ H3 e3 => ?_
      · have yz : y ≠ z := fun e => by
          subst e
          simp at hc
        refine s_edge (a := y) (b := z) (n := n) rfl rfl rfl (e3 _ _ hd2) hE n6 yz hy hz fun E' H6 e6 hE' => ?_
        have e36 := e3.trans e6
        obtain ⟨p1, p2, p3⟩ := put (E' := E') (row2.mono e36) (kr02.trans (Kr.ex e36)) (e36 _ _ hl2)
        exact ⟨E', _, _, _, _, rfl, upd_same, hE', p3, p1, p2⟩
      · exact ⟨E, _, _, _, _, rfl, e3 _ _ hd2, hE, e3 _ _ hl2, row2.mono e3, kr02.trans (Kr.ex e3)⟩
    · rintro m σ H' ⟨E, x6, x7, x8, x9, rfl, hd, hE, hl, row, kr⟩
      have few := hE.few n6
      -- (many, tuple(sorted(edges.keys())))
      refine s_retTup2 ?_
      refine (ev_var rfl : Ev (tVar 2) [some (.ref r), some (.int 6), some (.int (n : Int)), some (.ref de), some (.int (way : Int)), some (.ref pn), x6, x7, x8, x9] H' (.int (n : Int))) H' (Ex.refl H') _ fun H1 e1 => ?_
      refine ⟨_, rfl, .inr (.inr (.inl ⟨rfl, .inr ⟨_, e1 _ _ hd⟩⟩)), de, rfl, rfl, .inr ⟨_, e1 _ _ hd⟩, fun v hv => ?_⟩
      have ev := Ex.new (o := KR.keysO v de) hv
      refine ⟨v, de, E.map fun e => ((((e.1 : Nat) : Int), ((e.2 : Nat) : Int)), V.bl true), rfl, upd_same, ?_, by rw [List.length_map]; omega, ?_, fun l qs hl pmq inc there => ?_⟩
      · rw [ev _ _ (e1 _ _ hd), List.map_map]
        rfl
      · intro p hp
        obtain ⟨e, he, rfl⟩ := List.mem_map.mp hp
        have z := hE.lt e he
        exact ⟨⟨by show (0 : Int) ≤ ((e.1 : Nat) : Int); omega, by show ((e.1 : Nat) : Int) < 64; omega⟩, by show (0 : Int) ≤ ((e.2 : Nat) : Int); omega, by show ((e.2 : Nat) : Int) < 64; omega⟩
      · have el := Ex.new (o := .lst (qs.map fun q => V.ref q.1)) hl
        refine ⟨l, _, rfl, .inl ⟨SqL.of upd_same, fun tq htq => ?_⟩⟩
        have et := Ex.new (o := .tup (qs.map fun q => V.ref q.1)) htq
        refine ⟨by show 2 ≤ sizeLine; decide, fun t ht => ?_⟩
        have ett := Ex.new (o := .tup [.int (n : Int), .ref tq]) ht
        have all := (((e1.trans ev).trans el).trans et).trans ett
        -- the pairs as they lie are the edges
        have mem : ∀ q ∈ qs, ∃ e ∈ E, q.2 = (((e.1 : Nat) : Int), ((e.2 : Nat) : Int)) := fun q hq => by
          have z := pmq.mem_iff.mp (List.mem_map.mpr ⟨q, hq, rfl⟩)
          rw [List.map_map] at z
          obtain ⟨e, he, ee⟩ := List.mem_map.mp z
          exact ⟨e, he, ee.symm⟩
        have lenq : qs.length = E.length := by
          have z := pmq.length_eq
          rwa [List.length_map, List.length_map, List.length_map] at z
        refine q t n (qs.map fun q => (q.2.1.toNat, q.2.2.toNat)) _ ⟨n1, n6, fun e he => ?_, ?_, by rw [List.length_map]; omega⟩ ⟨tq, upd_same, qs.map (·.1), ?_, by rw [List.length_map, List.length_map], fun i b e hb hi => ?_⟩ (row.mono all) (kr.trans (Kr.ex all))
        · obtain ⟨p, hp, rfl⟩ := List.mem_map.mp he
          obtain ⟨e', he', ee⟩ := mem p hp
          have z := hE.lt e' he'
          rw [ee]
          show (((e'.1 : Nat) : Int)).toNat < (((e'.2 : Nat) : Int)).toNat ∧ (((e'.2 : Nat) : Int)).toNat < n
          omega
        · rw [List.pairwise_map]
          refine List.Pairwise.imp_of_mem (fun {p p'} hp hp' hlt => ?_) inc
          obtain ⟨e, he, ee⟩ := mem p hp
          obtain ⟨e', he', ee'⟩ := mem p' hp'
          rw [ee, ee'] at hlt ⊢
          have hlt' : ((e.1 : Nat) : Int) < ((e'.1 : Nat) : Int) ∨ (((e.1 : Nat) : Int) = ((e'.1 : Nat) : Int) ∧ ((e.2 : Nat) : Int) < ((e'.2 : Nat) : Int)) := hlt
          show (((e.1 : Nat) : Int)).toNat < (((e'.1 : Nat) : Int)).toNat ∨ ((((e.1 : Nat) : Int)).toNat = (((e'.1 : Nat) : Int)).toNat ∧ (((e.2 : Nat) : Int)).toNat < (((e'.2 : Nat) : Int)).toNat)
          omega
        · rw [List.map_map]
          exact ett _ _ upd_same
        · rw [List.getElem?_map] at hb hi
          obtain ⟨p, hp, rfl⟩ := Option.map_eq_some_iff.mp hb
          rw [hp] at hi
          have ei : e = (p.2.1.toNat, p.2.2.toNat) := (Option.some.inj hi).symm
          obtain ⟨e', he', ee⟩ := mem p (List.mem_of_getElem? hp)
          have z := there p (List.mem_of_getElem? hp)
          have z2 := (el.trans (et.trans ett)) _ _ z
          rw [z2, ei, ee]
          show some (HO.tup [V.int ((e'.1 : Nat) : Int), V.int ((e'.2 : Nat) : Int)]) = some (HO.tup [V.int (((((e'.1 : Nat) : Int)).toNat : Nat) : Int), V.int (((((e'.2 : Nat) : Int)).toNat : Nat) : Int)])
          rw [Int.toNat_natCast, Int.toNat_natCast]
end
end K76

/-! ## K76W8d -/
namespace K76
open PySem L2 Evl
section
variable {P : Program} {w : World} {K : PySem.W.Frag} {mg : Str → Option Value} {base : Heap} {f : Addr} {fd : FuncData}
variable {σ : L2.St} {H : Hp} {ta tb td ti te : TE} {D : Ends}
/-! ### joined -/
def spJoined : Sp := fun vs H Q _ => ∃ (p : Addr) (xss : List (List Nat)), vs = [.ref p] ∧ LLAt H p xss ∧ xss.flatten.length ≤ 1000 ∧
  ∀ (q : Addr) H', H q = none → Ex H H' → LAt H' q xss.flatten → Q (.ref q) H'
abbrev nsJoined : List Str := ["_law_some", "_law_found", "_law_one"]
theorem scJoined : FnScope nsJoined ["_law_some"] (defScope sJoined) := ⟨rfl, rfl, rfl, by decide +kernel, rfl, by decide +kernel, by decide +kernel⟩
theorem ok_joined (T : Mg mg) (F : Fun K "_law_joined" "_law_joined" sJoined f fd) : FnOk P w K mg base CX0 1 f fd ["_law_some"] spJoined := by
  refine F.ok scJoined (fun vs H Q E h => ?_) (fun cdv A outer s H vs Q E hr h => ?_)
  · obtain ⟨p, xss, rfl, _⟩ := h
    rfl
  obtain ⟨p, xss, rfl, hll, few, q⟩ := h
  refine ⟨_, pss_cons (ps_set (i := 1) scJoined.nd rfl (Or.inl rfl) (pe_lst pa_nil))
    (pss_cons (ps_for PassesOwn.never rfl (pi_list (pv 0)) (pg_name (i := 2) scJoined.nd rfl (.inl rfl))
      (pss_one (ps_set (i := 1) scJoined.nd rfl (Or.inl rfl) (pe_op op_cat (pv 1) (pe_callTy (r := rListS K) call_list_of (by rfl) T.list (by decide +kernel) (pa_cons (pv 2) pa_nil))))))
    (pss_one (ps_ret (pv 1)))), ?_⟩
  obtain ⟨as, h1, h2, h3⟩ := id hll
  refine q_asgL (xs := NL []) el_nil fun pf H1 hpf e1 hf => ?_
  refine q_forLn (a := p) (xs := as.map V.ref) (ev_var rfl) (SqL.of (e1 _ _ h1))
    (fun i σ H' => ∃ (pf : Addr) (x2 : Option V), σ = [some (.ref p), some (.ref pf), x2] ∧ Ex H H' ∧ H pf = none ∧ LAt H' pf (xss.take i).flatten)
    (fun H2 e2 => ⟨pf, _, rfl, e1.trans e2, hpf, e2 _ _ hf⟩) ?_ ?_ ?_
  · rintro i σ H' hi ⟨pf, x2, rfl, ex, _, _⟩
    exact SqL.of (ex _ _ h1)
  · rintro i x σ H' hx ⟨pf, x2, rfl, ex, hpf, hf⟩
    rw [List.getElem?_map] at hx
    obtain ⟨c, hc, rfl⟩ := Option.map_eq_some_iff.mp hx
    have hi : i < xss.length := by rw [← h2]; exact (List.getElem?_eq_some_iff.mp hc).1
    obtain ⟨y, hy⟩ : ∃ y, xss[i]? = some y := ⟨xss[i], List.getElem?_eq_getElem hi⟩
    have hcy : LAt H' c y := ex _ _ (h3 i c y hc hy)
    have et : (xss.take (i + 1)).flatten = (xss.take i).flatten ++ y := by rw [List.take_add_one, hy, List.flatten_append]; simp
    have len : ((xss.take i).flatten ++ y).length ≤ 1000 := by
      have z : (xss.take (i + 1)).flatten ++ (xss.drop (i + 1)).flatten = xss.flatten := by rw [← List.flatten_append, List.take_append_drop]
      have z2 := congrArg List.length z
      rw [List.length_append, et] at z2
      omega
    rw [List.length_append] at len
    refine s_asgL (xs := NL (xss.take (i + 1)).flatten) (el_is (el_catVL (ev_var rfl) hf (el_list (ev_var rfl) (SqL.of hcy)) (by rw [NL_len, NL_len]; omega)) (by rw [et, NL_app])) fun p2 H2 hp2 e2 h2 => ⟨p2, _, rfl, ex.trans e2, fresh_back ex hp2, h2⟩
  · rintro σ H' ⟨pf, x2, rfl, ex, hpf, hf⟩
    rw [List.length_map, h2, List.take_length] at hf
    exact s_ret (ev_var rfl) fun H2 e2 => q pf H2 hpf (ex.trans e2) (e2 _ _ hf)
/-! ### alike, of whole numbers -/
theorem ev_isiT {x : V} {t : Value} {c d : String} (ha : Ev ta σ H x) (ty : ∀ H', Ex H H' → TyX K H' x t) (hk : PySem.W.kitOne K t (.type c) = some false) (hd : PySem.W.kitOne K t (.type d) = some false) :
    Ev (tCB (rIsiT K) (tCons ta (tCons (tTup (tCons (tC (.ty c)) (tCons (tC (.ty d)) tNil))) tNil))) σ H (.bl false) := fun H1 e Q q =>
  ha H1 e _ fun H2 e2 => ⟨(by show 2 ≤ sizeLine; decide), fun p hp => ⟨x, p, [.ty c, .ty d], t, [.type c, .type d], false, rfl, upd_same, .cons (.ty c) (.cons (.ty d) .nil), ty _ ((e.trans e2).trans (Ex.new hp)),
    kitAny_cons hk (fun _ => kitAny_cons hd (fun _ => kitAny_nil) fun h => by cases h) (fun h => by cases h), q _ (e2.trans (Ex.new hp))⟩⟩
theorem ev_isN {x : V} (ha : Ev ta σ H x) : Ev (tIsN ta) σ H (.bl (decide (x = .non))) := fun H1 e Q q => ha H1 e _ fun H2 e2 => q H2 e2
def spAlike : Sp := fun vs H Q _ => ∃ f d : Int, vs = [.int f, .int d] ∧ RetV (.bl (decide (f = d))) H Q
abbrev psAlike : List Str := ["_law_found", "_law_due"]
abbrev nsAlike : List Str := ["_law_found", "_law_due", "_law_k"]
theorem scAlike : FnScope nsAlike psAlike (defScope sAlike) := ⟨rfl, rfl, rfl, by decide +kernel, rfl, by decide +kernel, by decide +kernel⟩
theorem ok_alike (T : Mg mg) (F : Fun K "_law_alike" "_law_alike" sAlike f fd) : FnOk P w K mg base CX0 1 f fd psAlike spAlike := by
  refine F.ok scAlike (fun vs H Q E h => ?_) (fun cdv A outer s H vs Q E hr h => ?_)
  · obtain ⟨f, d, rfl, _⟩ := h
    rfl
  obtain ⟨f, d, rfl, q⟩ := h
  refine ⟨_, pss_cons (ps_if (pt_val (pe_callB call_isiT (by rfl) T.isi (by decide +kernel) (pa_cons (pv 1) (pa_cons (pe_tup (pa_cons (pe_bltn (v := .ty "tuple") (by rfl) T.tuple (by decide +kernel) rfl) (pa_cons (pe_bltn (v := .ty "list") (by rfl) T.list (by decide +kernel) rfl) pa_nil))) pa_nil)))) pss_never pss_nil)
    (pss_cons (ps_if (PW.pt (pw_or (pt_cmp (pc_isN (pv 1))) (pw_or1 (pt_val (pe_callB call_isi (by rfl) T.isi (by decide +kernel) (pa_cons (pv 1) (pa_cons (pe_bltn (v := .ty "str") (by rfl) T.str (by decide +kernel) rfl) pa_nil))))))) pss_never pss_nil)
    (pss_one (ps_ret (pe_and (pe_callB call_isi (by rfl) T.isi (by decide +kernel) (pa_cons (pv 0) (pa_cons (pe_bltn (v := .ty "int") (by rfl) T.int (by decide +kernel) rfl) pa_nil)))
      (pe_and (pe_cmpR op_eq (pe_callB call_isi (by rfl) T.isi (by decide +kernel) (pa_cons (pv 0) (pa_cons (pe_bltn (v := .ty "bool") (by rfl) T.bool (by decide +kernel) rfl) pa_nil))) (pe_callB call_isi (by rfl) T.isi (by decide +kernel) (pa_cons (pv 1) (pa_cons (pe_bltn (v := .ty "bool") (by rfl) T.bool (by decide +kernel) rfl) pa_nil))) (nomark _))
      (pe_one (pe_cmpR op_eq (pv 0) (pv 1) (nomark _)))))))), ?_⟩
  refine q_when (b := false) (et_B (ev_isiT (ev_var rfl) (fun H' _ => ty_int H' d) (kit_ty (by decide +kernel)) (kit_ty (by decide +kernel)))) (fun h => by cases h) fun _ H1 e1 => ?_
  refine q_when (b := false) (et_or (a := false) (et_B (ev_is (ev_isN (x := .int d) (ev_var rfl)) rfl)) fun _ => et_B (ev_isi (ev_var rfl) (fun H' _ => ty_int H' d) (kit_ty (by decide +kernel)))) (fun h => by cases h) fun _ H2 e2 => ?_
  refine s_ret (v := .bl (decide (f = d))) (ev_is (ev_andV (a := true) (b := true && decide (f = d)) (ev_isi (ev_var rfl) (fun H' _ => ty_int H' f) (kit_ty (by decide +kernel))) fun _ =>
    ev_andV (a := true) (b := decide (f = d)) (ev_is (ev_op (ev_isi (b := false) (ev_var rfl) (fun H' _ => ty_int H' f) (kit_ty (by decide +kernel))) (ev_isi (b := false) (ev_var rfl) (fun H' _ => ty_int H' d) (kit_ty (by decide +kernel))) (rv_eq rfl)) rfl) fun _ =>
    ev_is (ev_op (ev_var rfl) (ev_var rfl) (rv_eq rfl)) (by rw [dec_int]; congr 1)) rfl) fun H3 e3 => q H3 ((e1.trans e2).trans e3)
end
end K76

/-! ## K76W8e -/
namespace K76
open PySem L2 Evl
section
variable {P : Program} {w : World} {K : PySem.W.Frag} {mg : Str → Option Value} {base : Heap} {f : Addr} {fd : FuncData}
variable {σ : L2.St} {H : Hp} {ta tb td ti te : TE} {D : Ends}
/-! ### rows of objects: parts of a list, lists of one -/
theorem er_takeR {β : Type} {ob : β → HO} {p : Addr} {xs : List β} {k : Nat} (h : Ev te σ H (.ref p)) (hk : Ev ta σ H (.int (k : Int))) (hp : RAt ob H p xs) : EvR ob (tSl (rSlL K) te tNoPart (tPart ta)) σ H (xs.take k) := fun H1 e Q q => by
  obtain ⟨as, a1, a2, a3⟩ := hp
  refine el_take (K := K) h hk a1 H1 e Q fun r H2 hr e2 h2 => q r H2 hr e2 ⟨as.take k, by rw [h2, List.map_take], by rw [List.length_take, List.length_take, a2], fun i b y hb hy => ?_⟩
  have hi : i < k := by
    have z := (List.getElem?_eq_some_iff.mp hb).1
    rw [List.length_take] at z
    omega
  rw [List.getElem?_take_of_lt hi] at hb hy
  exact e2 _ _ (e _ _ (a3 i b y hb hy))
theorem er_dropR {β : Type} {ob : β → HO} {p : Addr} {xs : List β} {k : Nat} (h : Ev te σ H (.ref p)) (hk : Ev ta σ H (.int (k : Int))) (hp : RAt ob H p xs) : EvR ob (tSl (rSlL K) te (tPart ta) tNoPart) σ H (xs.drop k) := fun H1 e Q q => by
  obtain ⟨as, a1, a2, a3⟩ := hp
  refine el_drop (K := K) h hk a1 H1 e Q fun r H2 hr e2 h2 => q r H2 hr e2 ⟨as.drop k, by rw [h2, List.map_drop], by rw [List.length_drop, List.length_drop, a2], fun i b y hb hy => ?_⟩
  rw [List.getElem?_drop] at hb hy
  exact e2 _ _ (e _ _ (a3 (k + i) b y hb hy))
theorem er_catRR {β : Type} {ob : β → HO} {xs ys : List β} (ha : EvR ob ta σ H xs) (hb : EvR ob tb σ H ys) (hz : xs.length + ys.length ≤ 100000) : EvR ob (tOp rCat ta tb) σ H (xs ++ ys) := fun H1 e Q k =>
  ha H1 e _ fun p H2 hp0 e2 hp => hb H2 (e.trans e2) _ fun q H3 hq0 e3 hq => by
    obtain ⟨as, a1, a2, a3⟩ := hp.mono e3
    obtain ⟨bs, b1, b2, b3⟩ := hq
    refine ⟨p, q, _, _, rfl, rfl, a1, b1, sz_of (by rw [List.length_map, List.length_map, a2, b2]; exact hz), fun r hr => k r _ (fresh_back (e2.trans e3) hr) ((e2.trans e3).trans (Ex.new hr)) ⟨as ++ bs, by rw [upd_same, List.map_append], by rw [List.length_append, List.length_append, a2, b2], fun i b y hb hy => ?_⟩⟩
    refine Ex.new hr _ _ ?_
    by_cases c : i < as.length
    · rw [List.getElem?_append_left c] at hb
      rw [List.getElem?_append_left (by omega)] at hy
      exact a3 i b y hb hy
    · rw [List.getElem?_append_right (by omega)] at hb
      rw [List.getElem?_append_right (by omega), ← a2] at hy
      exact b3 _ b y hb hy
theorem er_one {ys : List Nat} (h : EvL te σ H (NL ys)) : EvR obL (tLst (tCons te tNil)) σ H [ys] := fun H1 e Q q =>
  h H1 e _ fun p H2 hp e2 h2 => ⟨(by show 1 ≤ sizeLine; decide), fun l hl => q l _ (fresh_back e2 hl) (e2.trans (Ex.new hl)) ⟨[p], upd_same, rfl, fun i b y hb hy => by
    match i, hb, hy with
    | 0, hb, hy =>
      have eb : p = b := by simpa using hb
      have ey : ys = y := by simpa using hy
      subst eb ey
      exact Ex.new hl _ _ h2
    | i + 1, hb, hy => simp at hb⟩⟩
theorem er_if {β : Type} {ob : β → HO} {t : TT} {b : Bool} {ys : List β} (h : EvT t σ H b) (h1 : b = true → EvR ob ta σ H ys) (h2 : b = false → EvR ob tb σ H ys) : EvR ob (tIf t ta tb) σ H ys := fun H1 e Q q => h H1 e _ fun H2 e2 => by
  cases b with
  | true => exact iteT (h1 rfl H2 (e.trans e2) Q fun p H3 hp e3 h3 => q p H3 (fresh_back e2 hp) (e2.trans e3) h3)
  | false => exact iteF (h2 rfl H2 (e.trans e2) Q fun p H3 hp e3 h3 => q p H3 (fresh_back e2 hp) (e2.trans e3) h3)
theorem er_is {β : Type} {ob : β → HO} {xs ys : List β} (h : EvR ob te σ H xs) (e : xs = ys) : EvR ob te σ H ys := e ▸ h
theorem eg_if {t : TT} {b : Bool} {G : V → Hp → Prop} (h : EvT t σ H b) (h1 : b = true → EvG ta σ H G) (h2 : b = false → EvG tb σ H G) : EvG (tIf t ta tb) σ H G := fun H1 e Q q => h H1 e _ fun H2 e2 => by
  cases b with
  | true => exact iteT (h1 rfl H2 (e.trans e2) Q fun v H3 e3 g => q v H3 (e2.trans e3) g)
  | false => exact iteF (h2 rfl H2 (e.trans e2) Q fun v H3 e3 g => q v H3 (e2.trans e3) g)
theorem eg_of {G : V → Hp → Prop} {v : V} (h : Ev te σ H v) (g : ∀ H1, Ex H H1 → G v H1) : EvG te σ H G := fun H1 e Q q => h H1 e _ fun H2 e2 => q v H2 e2 (g H2 (e.trans e2))
theorem eg_ofL {G : V → Hp → Prop} {xs : List V} (h : EvL te σ H xs) (g : ∀ p H1, H1 p = some (.lst xs) → G (.ref p) H1) : EvG te σ H G := fun H1 e Q q => h H1 e _ fun p H2 hp e2 h2 => q _ H2 e2 (g p H2 h2)
theorem q_asgX {g : TG} {tz : TS} (h : te σ H fun v H1 => g v σ H1 (tz D)) : tSeq (tAsg te g) tz D σ H := h
theorem call3_gL {sp : Sp} {G : V → Hp → Prop} {E : XK} {x z : V} {ys : List V} {tc : TE} (ha : Ev ta σ H x) (hb : EvL tb σ H ys) (hc : Ev tc σ H z) (hs : ∀ p H1, H1 p = some (.lst ys) → Ex H H1 → ∀ (Q : VK) (E : XK), (∀ v H2, Ex H1 H2 → G v H2 → Q v H2) → sp [x, .ref p, z] H1 Q E) :
    EvG (tCall sp [] E (tCons ta (tCons tb (tCons tc tNil)))) σ H G := fun H1 e Q q => ha H1 e _ fun H2 e2 => hb H2 (e.trans e2) _ fun p H3 hp e3 h3 => hc H3 ((e.trans e2).trans e3) _ fun H4 e4 =>
  hs p H4 (e4 _ _ h3) (((e.trans e2).trans e3).trans e4) Q E fun v H5 e5 g => q v H5 (((e2.trans e3).trans e4).trans e5) g
theorem g2_go {i j : Nat} {x y : V} {Q : L2.St → Hp → Prop} (h : Q ((σ.set i (some x)).set j (some y)) H) : gCons (gName i) (gCons (gName j) gNil) [x, y] σ H Q := ⟨x, [y], rfl, y, [], rfl, rfl, h⟩
/-! ### the fewest rows -/
/-- the best of the turns before i -/
def bV : Option Nat → V
  | none => .non
  | some x => .int (x : Int)
structure Best (r : Nat → Nat → Bool) (p : Nat) (rest : List Nat) (rows : List (List Nat)) (i : Nat) (bo : Option Nat) : Prop where
  is : ∀ x, bo = some x → Parts r (p :: rest) rows x
  le : ∀ at_, at_ < i → rowOk r p (mine rows at_) = true → bo ≠ none ∧ ∀ u, Parts r rest (putAt rows at_ p) u → ∃ x, bo = some x ∧ x ≤ u
theorem Best.start {r : Nat → Nat → Bool} {p : Nat} {rest : List Nat} {rows : List (List Nat)} : Best r p rest rows 0 none := ⟨(fun _ h => nomatch h), (fun _ h => absurd h (Nat.not_lt_zero _))⟩
theorem Best.skip {r : Nat → Nat → Bool} {p i : Nat} {rest : List Nat} {rows : List (List Nat)} {bo : Option Nat} (b : Best r p rest rows i bo) (no : rowOk r p (mine rows i) = false) : Best r p rest rows (i + 1) bo :=
  ⟨b.is, fun at_ h ok => by
    rcases Nat.lt_or_eq_of_le (Nat.lt_succ_iff.mp h) with h | h
    · exact b.le at_ h ok
    · subst h
      rw [no] at ok
      cases ok⟩
def least (bo : Option Nat) (x : Nat) : Nat := match bo with
  | none => x
  | some y => if x < y then x else y
theorem Best.put {r : Nat → Nat → Bool} {p i x : Nat} {rest : List Nat} {rows : List (List Nat)} {bo : Option Nat} (b : Best r p rest rows i bo) (hi : i ≤ rows.length) (ok : rowOk r p (mine rows i) = true) (f : IsFewest r rest (putAt rows i p) x) : Best r p rest rows (i + 1) (some (least bo x)) := by
  refine ⟨fun z hz => ?_, fun at_ h okk => ⟨(fun h => nomatch h), fun u hu => ⟨_, rfl, ?_⟩⟩⟩
  · cases hz
    cases hb : bo with
    | none => exact .put i hi ok f.1
    | some y =>
      show Parts r (p :: rest) rows (if x < y then x else y)
      by_cases c : x < y
      · rw [if_pos c]
        exact .put i hi ok f.1
      · rw [if_neg c]
        exact b.is y hb
  · rcases Nat.lt_or_eq_of_le (Nat.lt_succ_iff.mp h) with h | h
    · obtain ⟨_, hle⟩ := b.le at_ h okk
      obtain ⟨y, hy, hyu⟩ := hle u hu
      rw [hy]
      show (if x < y then x else y) ≤ u
      by_cases c : x < y
      · rw [if_pos c]; omega
      · rw [if_neg c]; exact hyu
    · subst h
      have z := f.2 u hu
      cases hb : bo with
      | none => exact z
      | some y =>
        show (if x < y then x else y) ≤ u
        by_cases c : x < y
        · rw [if_pos c]; exact z
        · rw [if_neg c]; omega
theorem mine_len {rows : List (List Nat)} : mine rows rows.length = [] := by
  unfold mine
  rw [List.getD_eq_getElem?_getD, List.getElem?_eq_none (Nat.le_refl _)]
  rfl
theorem Best.last {r : Nat → Nat → Bool} {p : Nat} {rest : List Nat} {rows : List (List Nat)} {bo : Option Nat} (b : Best r p rest rows (rows.length + 1) bo) : ∃ x, bo = some x ∧ IsFewest r (p :: rest) rows x := by
  have h := (b.le rows.length (Nat.lt_succ_self _) (by rw [mine_len]; rfl)).1
  cases hb : bo with
  | none => exact absurd hb h
  | some x =>
    refine ⟨x, rfl, b.is x hb, fun u hu => ?_⟩
    cases hu with
    | put at_ hat ok hp =>
      obtain ⟨_, hle⟩ := b.le at_ (Nat.lt_succ_of_le hat) ok
      obtain ⟨y, hy, hyu⟩ := hle u hp
      rw [hb] at hy
      cases hy
      exact hyu
/-- rows that stay small -/
def Small (n : Nat) (left : List Nat) (rows : List (List Nat)) : Prop := rows.length + left.length ≤ 6 ∧ (∀ x ∈ left, x < n) ∧ ∀ row ∈ rows, row.length + left.length ≤ 6 ∧ ∀ x ∈ row, x < n
theorem putAt_len {rows : List (List Nat)} {i p : Nat} (h : i ≤ rows.length) : (putAt rows i p).length ≤ rows.length + 1 := by
  unfold putAt
  rw [List.length_append, List.length_append, List.length_take, List.length_drop]
  simp
  omega
theorem mine_small {n i : Nat} {left : List Nat} {rows : List (List Nat)} (s : Small n left rows) : (mine rows i).length + left.length ≤ 6 ∧ ∀ x ∈ mine rows i, x < n := by
  rcases mem_mine (rows := rows) (at_ := i) with h | h
  · exact s.2.2 _ h
  · rw [h]
    exact ⟨by have := s.1; simp; omega, (fun x hx => nomatch hx)⟩
theorem Small.put {n i p : Nat} {rest : List Nat} {rows : List (List Nat)} (s : Small n (p :: rest) rows) (hi : i ≤ rows.length) : Small n rest (putAt rows i p) := by
  obtain ⟨s1, s2, s3⟩ := s
  have hm := mine_small (i := i) ⟨s1, s2, s3⟩
  rw [List.length_cons] at s1
  have hl := putAt_len (p := p) hi
  refine ⟨by omega, fun x hx => s2 x (List.mem_cons_of_mem _ hx), fun row hrow => ?_⟩
  rcases mem_putAt hrow with h | h
  · have z := s3 row h
    rw [List.length_cons] at z
    exact ⟨by omega, z.2⟩
  · rw [h]
    rw [List.length_cons] at hm
    refine ⟨by rw [List.length_append, List.length_singleton]; omega, fun x hx => ?_⟩
    rcases List.mem_append.mp hx with hx | hx
    · exact hm.2 x hx
    · rw [List.mem_singleton.mp hx]
      exact s2 p List.mem_cons_self
def spFewest (m : Nat) : Sp := fun vs H Q _ => ∃ (pb pl pr : Addr) (n : Nat) (B : Nat → List Nat) (left : List Nat) (rows : List (List Nat)), vs = [.ref pb, .ref pl, .ref pr] ∧ LLAt H pb ((List.range n).map B) ∧ LAt H pl left ∧ RAt obL H pr rows ∧ Small n left rows ∧ left.length + 1 ≤ m ∧
  ∀ (v : Nat) H2, Ex H H2 → IsFewest (rel B) left rows v → Q (.int (v : Int)) H2
abbrev psFewest : List Str := ["_law_before", "_law_left", "_law_rows"]
abbrev nsFewest : List Str := ["_law_before", "_law_left", "_law_rows", "_law_place", "_law_best", "_law_at", "_law_here", "_law_mine", "_law_told", "_law_x"]
theorem scFewest : FnScope nsFewest psFewest (defScope sFewest) := ⟨rfl, rfl, rfl, by decide +kernel, rfl, by decide +kernel, by decide +kernel⟩
theorem ok_fewest {m : Nat} (T : Mg mg) (F : Fun K "_law_fewest" "_law_fewest" sFewest f fd) (G : FnOk P w K mg base CX0 m f fd psFewest (spFewest m)) (bG : Binds K fd psFewest []) (mG : mg "_law_fewest" = some (.ref f)) : FnOk P w K mg base CX0 (m + 1) f fd psFewest (spFewest (m + 1)) := by
  have kG := F.kp
  refine F.ok scFewest (fun vs H Q E h => ?_) (fun cdv A outer s H vs Q E hr h => ?_)
  · obtain ⟨pb, pl, pr, n, B, left, rows, rfl, _⟩ := h
    rfl
  obtain ⟨pb, pl, pr, n, B, left, rows, rfl, hB, hl, hrw, sm, room, q⟩ := h
  refine ⟨_, pss_cons (ps_if (pt_cmpR (op_eqD hr.units) (pv 1) (pe_lst pa_nil) (nomark _)) (pss_one (ps_ret (pe_callB (call_lenK K) (by rfl) T.len PySem.boot_len (pa_cons (pv 2) pa_nil)))) pss_nil)
    (pss_cons (ps_asg (pe_tup (pa_cons (pe_ix ix_list (pv 1) pe_int (fun _ _ => rfl)) (pa_cons pe_non pa_nil))) (pg_tup rfl (pgs_cons (pg_name (i := 3) scFewest.nd rfl (.inr rfl)) (pgs_cons (pg_name (i := 4) scFewest.nd rfl (.inl rfl)) pgs_nil))))
    (pss_cons (ps_for PassesOwn.never rfl (pi_range1 (by rfl) T.range (pa_cons (pe_op op_add (pe_callB (call_lenK K) (by rfl) T.len PySem.boot_len (pa_cons (pv 2) pa_nil)) pe_int) pa_nil)) (pg_name (i := 5) scFewest.nd rfl (.inl rfl))
      (pss_cons (ps_set (i := 6) scFewest.nd rfl (Or.inl rfl) (pe_op op_cat (pe_op op_cat (pe_slice sl_list (pv 2) po_none (po_some (pv 5)))
          (pe_ifExp (pt_cmpR op_lt (pv 5) (pe_callB (call_lenK K) (by rfl) T.len PySem.boot_len (pa_cons (pv 2) pa_nil)) (nomark _)) (pe_lst (pa_cons (pe_op op_cat (pe_ix ix_list (pv 2) (pv 5) (fun _ _ => rfl)) (pe_lst (pa_cons (pv 3) pa_nil))) pa_nil)) (pe_lst (pa_cons (pe_lst (pa_cons (pv 3) pa_nil)) pa_nil))))
          (pe_slice sl_list (pv 2) (po_some (pe_op op_add (pv 5) pe_int)) po_none)))
      (pss_cons (ps_set (i := 7) scFewest.nd rfl (Or.inl rfl) (pe_ifExp (pt_cmpR op_lt (pv 5) (pe_callB (call_lenK K) (by rfl) T.len PySem.boot_len (pa_cons (pv 2) pa_nil)) (nomark _)) (pe_ix ix_list (pv 2) (pv 5) (fun _ _ => rfl)) (pe_lst pa_nil)))
      (pss_one (ps_if (pt_cmpR (op_eqD hr.units) (pe_lc (own := [("_law_x", 9)]) (g := gName 9) (by rfl) scFewest.nd (pi_list (pv 7)) (blkOk_by (own := [("_law_x", 9)]) (N := nsFewest) (sc := defScope sFewest) (by decide +kernel))
            (fun _ _ _ _ _ => pg_name (i := 9) scFewest.nd rfl (Or.inl rfl))
            (fun _ _ _ _ _ => pts_one (PW.pt (pw_and (pt_cmpR (op_notInK K) (pv 9) (pe_ix (ix_listK K) (pv 0) (pv 3) (fun _ _ => rfl)) (by rfl)) (pw_and1 (pt_cmpR (op_notInK K) (pv 3) (pe_ix (ix_listK K) (pv 0) (pv 9) (fun _ _ => rfl)) (by rfl))))))
            (fun _ _ _ _ _ => pv 9)) (pe_lst pa_nil) (nomark _))
        (pss_cons (ps_set (i := 8) scFewest.nd rfl (Or.inl rfl) (pe_call G hr rfl mG kG bG .nil pass0 (pa_cons (pv 0) (pa_cons (pe_slice sl_list (pv 1) (po_some pe_int) po_none) (pa_cons (pv 6) pa_nil)))))
        (pss_one (ps_set (i := 4) scFewest.nd rfl (Or.inl rfl) (pe_ifExp (PW.pt (pw_or (pt_cmp (pc_isN (pv 4))) (pw_or1 (pt_cmpR op_lt (pv 8) (pv 4) (nomark _))))) (pv 8) (pv 4))))) pss_nil)))))
    (pss_one (ps_ret (pv 4))))), ?_⟩
  obtain ⟨ras, ra1, ra2, ra3⟩ := id hrw
  refine q_when (b := left.isEmpty) (et_test (ev_eqNilV (ev_var rfl) hl)) (fun he H1 e1 => ?_) fun he H1 e1 => ?_
  · have el : left = [] := List.isEmpty_iff.mp he
    subst el
    refine s_ret (v := .int (rows.length : Int)) (ev_is (ev_lenL (ev_var rfl) (e1 _ _ ra1)) (by rw [List.length_map, ra2])) fun H2 e2 => q rows.length H2 (e1.trans e2) ⟨.done rows, fun u hu => ?_⟩
    cases hu
    exact Nat.le_refl _
  · obtain ⟨p, rest, rfl⟩ : ∃ p rest, left = p :: rest := by
      cases left with
      | nil => cases he
      | cons p rest => exact ⟨p, rest, rfl⟩
    have hpn : p < n := sm.2.1 p List.mem_cons_self
    have s6 := sm.1
    rw [List.length_cons] at s6 room
    -- place, best = left[0], None
    refine q_asgX ?_
    refine (eu_tup (vs := [.int (p : Int), .non]) (ea_cons (ev_ixL (ev_var rfl) ev_c (e1 _ _ hl) (show atI (NL (p :: rest)) 0 = some (.int (p : Int)) from at_nat (i := 0) rfl)) (ea_cons ev_c ea_nil)) (by show 2 ≤ 100000; decide) : EvU _ _ H1 _) H1 (Ex.refl H1) _ fun tq H2 htq e2 h2 => ?_
    refine ⟨tq, [.int (p : Int), .non], rfl, SqT.of h2, rfl, g2_go ?_⟩
    have e12 := e1.trans e2
    have hlen : ∀ {H' : Hp} {x3 x4 x5 x6 x7 x8 x9 : Option V}, Ex H H' → Ev (tCB (rLenS K) (tCons (tVar 2) tNil)) [some (.ref pb), some (.ref pl), some (.ref pr), x3, x4, x5, x6, x7, x8, x9] H' (.int (rows.length : Int)) := fun e => ev_is (ev_lenL (ev_var rfl) (e _ _ ra1)) (by rw [List.length_map, ra2])
    have hcnt : ∀ {x3 x4 x5 x6 x7 x8 x9 : Option V}, Ev (tOp (rI0 fun i j => V.int (i + j)) (tCB (rLenS K) (tCons (tVar 2) tNil)) (tC (.int 1))) [some (.ref pb), some (.ref pl), some (.ref pr), x3, x4, x5, x6, x7, x8, x9] H2 (.int ((rows.length + 1 : Nat) : Int)) := fun {x3 x4 x5 x6 x7 x8 x9} => ev_is (v := .int ((rows.length : Int) + 1)) (ev_op (r := rI0 fun i j => V.int (i + j)) (hlen e12) ev_c rv_I0) (congrArg V.int (by omega))
    refine q_forR1 (n := ((rows.length + 1 : Nat) : Int)) (ea_cons hcnt ea_nil) ⟨by omega, by omega⟩
      (fun i σ H' => ∃ (bo : Option Nat) (x5 x6 x7 x8 : Option V), σ = [some (.ref pb), some (.ref pl), some (.ref pr), some (.int (p : Int)), some (bV bo), x5, x6, x7, x8, none] ∧ Ex H H' ∧ Best (rel B) p rest rows i bo)
      (fun H3 e3 => ⟨none, _, _, _, _, rfl, e12.trans e3, Best.start⟩) ?_ ?_
    · rintro i σ H' hi ⟨bo, x5, x6, x7, x8, rfl, ex, best⟩
      have hir : i ≤ rows.length := by omega
      have hrw' := hrw.mono ex
      have hmine : ∀ {b : Bool}, b = decide ((i : Int) < (rows.length : Int)) → b = false → mine rows i = [] := fun eb hb => by
        rw [hb] at eb
        have z := of_decide_eq_false eb.symm
        have e : i = rows.length := by omega
        rw [e]
        exact mine_len
      have hrow : ∀ {b : Bool}, b = decide ((i : Int) < (rows.length : Int)) → b = true → ∃ c, ras[i]? = some c ∧ LAt H' c (mine rows i) := fun eb hb => by
        rw [hb] at eb
        have z := of_decide_eq_true eb.symm
        have hi' : i < rows.length := by omega
        have hc : ras[i]? = some ras[i] := List.getElem?_eq_getElem (by omega)
        refine ⟨ras[i], hc, ex _ _ (ra3 i _ _ hc ?_)⟩
        unfold mine
        rw [List.getD_eq_getElem?_getD, List.getElem?_eq_getElem hi']
        rfl
      have tst : ∀ {x6 x7 x8 x9 : Option V} {H1 : Hp}, Ex H' H1 → EvT (tTest (tOp (rI0 fun i j => V.bl (decide (i < j))) (tVar 5) (tCB (rLenS K) (tCons (tVar 2) tNil)))) [some (.ref pb), some (.ref pl), some (.ref pr), some (.int (p : Int)), some (bV bo), some (.int (i : Int)), x6, x7, x8, x9] H1 (decide ((i : Int) < (rows.length : Int))) := fun e =>
        et_test (ev_op (ev_var rfl) (hlen (ex.trans e)) rv_I0)
      refine q_asgR (ob := obL) (ys := putAt rows i p) (er_catRR (er_catRR (er_takeR (k := i) (ev_var rfl) (ev_var rfl) hrw') (er_if (ys := [mine rows i ++ [p]]) (tst (Ex.refl _)) (fun hb => ?_) fun hb => ?_) ?_) (er_dropR (k := i + 1) (ev_var rfl) (ev_op (ev_var rfl) ev_c rv_I0) hrw') ?_) fun ph H3 hph e3 h3 => ?_
      · obtain ⟨c, hc, hcl⟩ := hrow rfl hb
        exact er_one (el_is (el_catVL (ev_ixL (ev_var rfl) (ev_var rfl) (ex _ _ ra1) (ref_at hc)) hcl (el_lst (ea_cons (ev_var rfl) ea_nil) (by simp)) (by rw [NL_len]; have := (mine_small (i := i) sm).1; simp; omega)) (by rw [NL_app]; rfl))
      · rw [hmine rfl hb]
        exact er_one (el_lst (ea_cons (ev_var rfl) ea_nil) (by show 1 ≤ 100000; decide))
      · rw [List.length_take]; simp; omega
      · rw [List.length_append, List.length_take, List.length_drop]; simp; omega
      · -- mine
        refine q_asgG (G := fun v H4 => ∃ c, v = .ref c ∧ LAt H4 c (mine rows i)) (eg_if (tst e3) (fun hb => ?_) fun hb => ?_) fun v H4 e4 hv => ?_
        · obtain ⟨c, hc, hcl⟩ := hrow rfl hb
          exact eg_of (ev_ixL (ev_var rfl) (ev_var rfl) (e3 _ _ (ex _ _ ra1)) (ref_at hc)) fun H5 e5 => ⟨c, rfl, e5 _ _ (e3 _ _ hcl)⟩
        · rw [hmine rfl hb]
          exact eg_ofL el_nil fun c H5 h5 => ⟨c, rfl, h5⟩
        · obtain ⟨pm, rfl, hm⟩ := hv
          have e04 : Ex H H4 := (ex.trans e3).trans e4
          have msm := mine_small (i := i) sm
          have hBat : ∀ (H5 : Hp) (y : Nat), Ex H4 H5 → y < n → ∃ (as : List Addr) (b : Addr), H5 pb = some (.lst (as.map V.ref)) ∧ as[y]? = some b ∧ LAt H5 b (B y) := fun H5 y e5 hy => (hB.mono (e04.trans e5)).get hy
          refine s_when (b := rowOk (rel B) p (mine rows i)) (et_test (ev_eqNil (el_lcN (fun x => !rel B x p && !rel B p x) (ev_var rfl) hm (by have := msm.1; omega) (by intro _; rfl) (fun x H5 e5 hx => ?_) (fun x H5 e5 hx _ => ev_var rfl)))) (fun hok H5 e5 => ?_) fun hok H5 e5 => ?_
          · obtain ⟨bs, bi, b1, b2, b3⟩ := hBat H5 p e5 hpn
            obtain ⟨cs, bx, c1, c2, c3⟩ := hBat H5 x e5 (msm.2 x hx)
            exact et_and (a := !rel B x p) (b := !rel B p x) (et_notin (ev_var rfl) (ev_ixL (ev_var rfl) (ev_var rfl) b1 (ref_at b2)) b3) fun _ => et_notin (ev_var rfl) (ev_ixL (ev_var rfl) (ev_var rfl) c1 (ref_at c2)) c3
          · have e05 := e04.trans e5
            refine q_asgG (G := fun v _ => ∃ x : Nat, v = .int (x : Int) ∧ IsFewest (rel B) rest (putAt rows i p) x) (call3_gL (ev_var rfl) (el_is (el_drop (k := 1) (ev_var rfl) ev_c (e05 _ _ hl)) (by rw [NL_drop])) (ev_var rfl) fun pr2 H6 h6 e6 Q1 E1 q1 => ?_) fun v H6 e6 hv => ?_
            · exact ⟨pb, pr2, ph, n, B, rest, putAt rows i p, rfl, hB.mono (e05.trans e6), h6, h3.mono ((e4.trans e5).trans e6), sm.put hir, by omega, fun x H7 e7 hf => q1 _ H7 e7 ⟨x, rfl, hf⟩⟩
            · obtain ⟨x, rfl, hf⟩ := hv
              refine s_asg (v := bV (some (least bo x))) ?_ fun H7 e7 => ⟨some (least bo x), _, _, _, _, rfl, (e05.trans e6).trans e7, best.put hir hok hf⟩
              cases bo with
              | none => exact ev_if (b := true) (et_or (a := true) (b := true) (et_B (ev_is (ev_isN (x := .non) (ev_var rfl)) rfl)) fun h => by cases h) (fun _ => ev_var rfl) fun h => by cases h
              | some y =>
                refine ev_if (b := decide ((x : Int) < (y : Int))) (et_is (et_or (a := false) (b := decide ((x : Int) < (y : Int))) (et_B (ev_is (ev_isN (x := .int (y : Int)) (ev_var rfl)) rfl)) fun _ => et_test (ev_op (ev_var rfl) (ev_var rfl) rv_I0)) rfl) (fun hb => ?_) fun hb => ?_
                · have c : x < y := by have := of_decide_eq_true hb; omega
                  exact ev_is (ev_var rfl) (by show V.int (x : Int) = V.int ((if x < y then x else y : Nat) : Int); rw [if_pos c])
                · have c : ¬ x < y := by have := of_decide_eq_false hb; omega
                  exact ev_is (ev_var (v := .int (y : Int)) rfl) (by show V.int (y : Int) = V.int ((if x < y then x else y : Nat) : Int); rw [if_neg c])
          · exact ⟨bo, _, _, _, _, rfl, e04.trans e5, best.skip hok⟩
    · rintro σ H' ⟨bo, x5, x6, x7, x8, rfl, ex, best⟩
      rw [show (((rows.length + 1 : Nat) : Int)).toNat = rows.length + 1 by omega] at best
      obtain ⟨x, rfl, hf⟩ := best.last
      exact s_ret (v := .int (x : Int)) (ev_var rfl) fun H3 e3 => q x H3 (ex.trans e3) hf
theorem fewest_none : FnOk P w K mg base CX0 0 f fd psFewest (spFewest 0) := by
  have no : ∀ vs H Q E, ¬ spFewest 0 vs H Q E := fun vs H Q E h => by
    obtain ⟨pb, pl, pr, n, B, left, rows, _, _, _, _, _, room, _⟩ := h
    omega
  exact ⟨fun vs H Q E h => absurd h (no vs H Q E), fun A outer s H args us vs Q E _ _ _ _ h => absurd h (no vs H Q E)⟩
theorem all_fewest (T : Mg mg) (F : Fun K "_law_fewest" "_law_fewest" sFewest f fd) (bG : Binds K fd psFewest []) (mG : mg "_law_fewest" = some (.ref f)) : ∀ m : Nat, FnOk P w K mg base CX0 m f fd psFewest (spFewest m)
  | 0 => fewest_none
  | m + 1 => ok_fewest T F (all_fewest T F bG mG m) bG mG
end
end K76

/-! ## K76W9a -/
namespace K76
open PySem L2 Evl
/-! ### the order's places, the arcs -/
def ixOf : List Nat → Nat → Nat
  | [], _ => 0
  | a :: l, x => if a = x then 0 else ixOf l x + 1
theorem ixOf_get : ∀ {l : List Nat} {x : Nat}, x ∈ l → l[ixOf l x]? = some x
  | [], x, h => nomatch h
  | a :: l, x, h => by
    unfold ixOf
    by_cases e : a = x
    · rw [if_pos e, e]
      rfl
    · rw [if_neg e, List.getElem?_cons_succ]
      refine ixOf_get ?_
      rcases List.mem_cons.mp h with h | h
      · exact absurd h.symm e
      · exact h
theorem ixOf_first : ∀ {l : List Nat} {x m : Nat}, m < ixOf l x → l[m]? ≠ some x
  | [], x, m, h => fun z => by simp at z
  | a :: l, x, m, h => by
    unfold ixOf at h
    by_cases e : a = x
    · rw [if_pos e] at h
      omega
    · rw [if_neg e] at h
      cases m with
      | zero =>
        intro z
        exact e (Option.some.inj z)
      | succ m =>
        rw [List.getElem?_cons_succ]
        exact ixOf_first (by omega)
theorem arcs_map (f : Nat × Nat → Bool) : ∀ es : List (Nat × Nat), arcs es (es.map f) = es.map fun e => arc e (f e)
  | [] => rfl
  | e :: es => by
    have ih := arcs_map f es
    unfold arcs at ih ⊢
    rw [List.map_cons, List.zip_cons_cons, List.map_cons, List.map_cons, ih]
/-- marked where the order has the later place first -/
def mark (l : List Nat) (e : Nat × Nat) : Bool := decide (ixOf l e.2 < ixOf l e.1)
theorem open_of {n : Nat} {es : List (Nat × Nat)} {l : List Nat} (W : Web n es) (pm : l.Perm (List.range n)) : Open n (arcs es (es.map (mark l))) (ixOf l) := by
  have mem : ∀ x, x < n → x ∈ l := fun x hx => pm.mem_iff.mpr (List.mem_range.mpr hx)
  have len : l.length = n := by
    have z := pm.length_eq
    rwa [List.length_range] at z
  have lt : ∀ x, x < n → ixOf l x < n := fun x hx => by
    have z := (List.getElem?_eq_some_iff.mp (ixOf_get (mem x hx))).1
    omega
  refine ⟨fun x y h => ?_, lt⟩
  rw [arcs_map] at h
  obtain ⟨e, he, ee⟩ := List.mem_map.mp h
  obtain ⟨h1, h2⟩ := W.lt e he
  have m1 := mem e.1 (by omega)
  have m2 := mem e.2 h2
  have ne : ixOf l e.1 ≠ ixOf l e.2 := fun z => by
    have g1 := ixOf_get m1
    rw [z, ixOf_get m2] at g1
    have := Option.some.inj g1
    omega
  unfold arc mark at ee
  by_cases c : ixOf l e.2 < ixOf l e.1
  · rw [if_pos (decide_eq_true c)] at ee
    cases ee
    exact ⟨h2, by omega, c⟩
  · rw [if_neg (by rw [decide_eq_false c]; decide)] at ee
    have e1 : e.1 = x := congrArg Prod.fst ee
    have e2 : e.2 = y := congrArg Prod.snd ee
    rw [← e1, ← e2]
    exact ⟨by omega, h2, by omega⟩
/-- those that go right before k -/
def toAt (A : List (Nat × Nat)) (k : Nat) : List Nat := (A.filter fun p => decide (p.2 = k)).map (·.1)
theorem mem_toAt {A : List (Nat × Nat)} {x y : Nat} : x ∈ toAt A y ↔ (x, y) ∈ A := by
  unfold toAt
  rw [List.mem_map]
  constructor
  · rintro ⟨p, hp, rfl⟩
    obtain ⟨h1, h2⟩ := List.mem_filter.mp hp
    have e : p.2 = y := of_decide_eq_true h2
    rw [← e]
    exact h1
  · intro h
    exact ⟨(x, y), List.mem_filter.mpr ⟨h, decide_eq_true rfl⟩, rfl⟩
theorem toAt_len {n k : Nat} {A : List (Nat × Nat)} {pos : Nat → Nat} (o : Open n A pos) (nd : A.Nodup) : (toAt A k).length ≤ n := by
  refine nd_lt ?_ fun x hx => (o.lt _ _ (mem_toAt.mp hx)).1
  unfold toAt List.Nodup
  rw [List.pairwise_map]
  refine List.Pairwise.imp_of_mem (fun {p q} hp hq hne => ?_) (List.Pairwise.sublist List.filter_sublist nd)
  have e1 : p.2 = k := of_decide_eq_true (List.mem_filter.mp hp).2
  have e2 : q.2 = k := of_decide_eq_true (List.mem_filter.mp hq).2
  exact fun e => hne (Prod.ext e (e1.trans e2.symm))
theorem arcs_nd {n : Nat} {es : List (Nat × Nat)} (W : Web n es) (f : Nat × Nat → Bool) : (arcs es (es.map f)).Nodup := by
  rw [arcs_map]
  unfold List.Nodup
  rw [List.pairwise_map]
  refine List.Pairwise.imp_of_mem (fun {a b} ha hb hlt e => ?_) W.up
  have h1 := W.lt a ha
  have h2 := W.lt b hb
  unfold arc at e
  cases ha : f a <;> cases hb : f b <;> rw [ha, hb] at e
  · have e1 := congrArg Prod.fst e
    have e2 := congrArg Prod.snd e
    simp at e1 e2
    omega
  · have e1 := congrArg Prod.fst e
    have e2 := congrArg Prod.snd e
    simp at e1 e2
    omega
  · have e1 := congrArg Prod.fst e
    have e2 := congrArg Prod.snd e
    simp at e1 e2
    omega
  · have e1 := congrArg Prod.fst e
    have e2 := congrArg Prod.snd e
    simp at e1 e2
    omega
/-- one round of the law -/
def joinB (n : Nat) (B : Nat → List Nat) (k : Nat) : List Nat := uni n (B k ++ ((B k).map B).flatten)
structure LR (n : Nat) (A : List (Nat × Nat)) (pos : Nat → Nat) (t : Nat) (B : Nat → List Nat) : Prop where
  sound : Sound n A B
  one : ∀ x y, (x, y) ∈ A → x ∈ B y
  full : Full n A pos t B
  fit : ∀ k, k < n → (B k).length ≤ n
theorem LR.start {n : Nat} {A : List (Nat × Nat)} {pos : Nat → Nat} (o : Open n A pos) (nd : A.Nodup) : LR n A pos 0 (toAt A) :=
  ⟨⟨fun i hi k hk => .one (mem_toAt.mp hk)⟩, fun x y h => mem_toAt.mpr h, fun i hi hp k a => by
    have q := (a.lt o).2.2
    omega, fun k _ => toAt_len o nd⟩
theorem LR.lt {n t : Nat} {A : List (Nat × Nat)} {pos : Nat → Nat} {B : Nat → List Nat} (o : Open n A pos) (l : LR n A pos t B) {k x : Nat} (hk : k < n) (hx : x ∈ B k) : x < n := ((l.sound.ok k hk x hx).lt o).1
theorem LR.step {n t : Nat} {A : List (Nat × Nat)} {pos : Nat → Nat} {B : Nat → List Nat} (o : Open n A pos) (l : LR n A pos t B) : LR n A pos (t + 1) (joinB n B) := by
  obtain ⟨h1, h2, h3⟩ := join_step (B' := joinB n B) o l.sound l.one l.full fun i hi k => by
    unfold joinB
    rw [mem_uni, List.mem_append, List.mem_flatten]
    constructor
    · rintro ⟨_, h | ⟨ys, hys, hk⟩⟩
      · exact .inl h
      · obtain ⟨y, hy, rfl⟩ := List.mem_map.mp hys
        exact .inr ⟨y, hy, hk⟩
    · rintro (h | ⟨y, hy, hk⟩)
      · exact ⟨l.lt o hi h, .inl h⟩
      · exact ⟨l.lt o (l.lt o hi hy) hk, .inr ⟨B y, List.mem_map.mpr ⟨y, hy, rfl⟩, hk⟩⟩
  exact ⟨h1, h2, h3, fun k _ => uni_len _ _⟩
theorem flat_len (m : Nat) : ∀ xss : List (List Nat), (∀ xs ∈ xss, xs.length ≤ m) → xss.flatten.length ≤ xss.length * m
  | [], _ => by simp
  | xs :: xss, h => by
    have ih := flat_len m xss fun x hx => h x (List.mem_cons_of_mem _ hx)
    have h1 := h xs List.mem_cons_self
    rw [List.flatten_cons, List.length_append, List.length_cons, Nat.succ_mul]
    omega
theorem LR.flat {n t k : Nat} {A : List (Nat × Nat)} {pos : Nat → Nat} {B : Nat → List Nat} (o : Open n A pos) (l : LR n A pos t B) (n6 : n ≤ 6) (hk : k < n) : ((B k).map B).flatten.length ≤ 36 := by
  have h := flat_len n ((B k).map B) fun xs hx => by
    obtain ⟨y, hy, rfl⟩ := List.mem_map.mp hx
    exact l.fit y (l.lt o hk hy)
  rw [List.length_map] at h
  have h1 := l.fit k hk
  have h2 : (B k).length * n ≤ 6 * 6 := Nat.mul_le_mul (by omega) n6
  omega
/-! ### one relation for all -/
theorem rel_same {n : Nat} {A : List (Nat × Nat)} {B B' : Nat → List Nat} (h : IsBefore n A B) (h' : IsBefore n A B') : rel B = rel B' := by
  funext x y
  unfold rel
  by_cases c : y < n
  · rw [Bool.eq_iff_iff, List.contains_iff_mem, List.contains_iff_mem, h.iff y c, h'.iff y c]
  · rw [h.out y (by omega), h'.out y (by omega)]
theorem rel_ord {n : Nat} {A : List (Nat × Nat)} {B : Nat → List Nat} {pos : Nat → Nat} (o : Open n A pos) (h : IsBefore n A B) : Ord (rel B) pos := by
  have to : ∀ x y, rel B x y = true → y < n ∧ Anc A x y := fun x y e => by
    have m : x ∈ B y := List.contains_iff_mem.mp e
    by_cases c : y < n
    · exact ⟨c, (h.iff y c x).mp m⟩
    · rw [h.out y (by omega)] at m
      cases m
  exact ⟨fun x y e => ((to x y e).2.lt o).2.2, fun x y z e1 e2 => List.contains_iff_mem.mpr ((h.iff z (to y z e2).1 x).mpr ((to x y e1).2.trans (to y z e2).2))⟩
/-! ### more rules with the written part told -/
section
variable {X : Cx}
theorem pg_tupK (K : PySem.W.Frag) {es : List Expr} {k : Nat} {t : TGs} {n : Nat} {pos : Pos} (hc : X.calm = true) (h : PGs X es t)
    (hn : (assignEach es X.env).length = n := by rfl) (hst : (assignEach es X.env).findIdx? (·.1) = none := by rfl) (hk : X.K = K := by rfl) : PG X (.Tuple es k pos) (gTup K n t) := hk ▸ pg_tup hc h hn hst
theorem pe_rev2K (K : PySem.W.Frag) {e : Expr} {te : TE} {k : Nat} {p1 p2 p3 pos : Pos} (he : PE X e te) (hk : X.K = K := by rfl) : PE X (.Subscript e (.Slice none none (some (.UnaryOp .USub (.Constant (.int 1) k p1) p2)) p3) pos) (KR.tRev2 K te) := hk ▸ KR.pe_rev2 he
theorem cr_sortedSetK (w : World) (hc : X.calm = true) (hk : X.w = w := by rfl) : CallR X (.builtin "sorted") (rSortedSet w) := hk ▸ cr_sortedSet hc
theorem cr_setLK (K : PySem.W.Frag) (w : World) (hc : X.calm = true) (hk : X.K = K := by rfl) (hw : X.w = w := by rfl) : CallR X (.type "set") (KR.rSetL K w) := hk ▸ hw ▸ KR.cr_setL hc
end
section
variable {P : Program} {w : World} {K : PySem.W.Frag} {mg : Str → Option Value} {base : Heap} {f : Addr} {fd : FuncData}
variable {σ : L2.St} {H : Hp} {ta tb td ti te : TE} {D : Ends}
theorem et_yes : EvT tYes σ H true := fun H1 e Q q => q H1 (Ex.refl H1)
/-- over a list, any target -/
theorem el_lcLg {a : Addr} {xs : List V} {tl : TE} {g : TG} {t : TT} {vs : List Nat} (f : Nat → Bool) (v : Nat → V) (h : Ev tl σ H (.ref a)) (hx : H a = some (.lst xs)) (hz : xs.length ≤ 40000)
    (hs : ∀ (i : Nat) (x : V) H1 (Q : L2.St → Hp → Prop), Ex H H1 → xs[i]? = some x → (∀ σ2, wipe σ2 vs = wipe σ vs → EvT t σ2 H1 (f i) → (f i = true → Ev te σ2 H1 (v i)) → Q σ2 H1) → g x (wipe σ vs) H1 Q) :
    EvL (tLc (iList K tl) g t te vs) σ H (given xs.length f v) := fun H0 e Q q => h H0 e _ fun H1 e1 => ⟨a, rfl, ⟨xs, SqL.of (e1 _ _ (e _ _ hx))⟩, fun Dl hD =>
  lc_list (xs := xs) (Cw H1 f v Dl) ⟨hD, Ex.new hD, upd_same⟩ (fun i H' _ p => SqL.of (p.2.1 _ _ (e1 _ _ (e _ _ hx)))) (fun i x H' hi p => hs i x H' _ ((e.trans e1).trans p.2.1) hi fun σ2 hw ht he =>
    ⟨hw, by
      obtain ⟨p1, p2, p3⟩ := p
      refine ht H' (Ex.refl H') _ fun H3 e3 => ?_
      cases hf : f i with
      | true =>
        show te σ2 H3 fun y H4 => ∃ acc, H4 Dl = some (.lst acc) ∧ acc.length < sizeLine ∧ Cw H1 f v Dl (i + 1) (upd H4 Dl (.lst (acc ++ [y])))
        refine he hf H3 e3 _ fun H4 e4 => ⟨given i f v, e4 Dl _ (e3 Dl _ p3), sz_lt (by have := given_len i f v; have := (List.getElem?_eq_some_iff.mp hi).1; omega), p1, Ex.mut ((p2.trans e3).trans e4) p1, ?_⟩
        rw [given_yes hf]
        exact upd_same
      | false =>
        show Cw H1 f v Dl (i + 1) H3
        refine ⟨p1, p2.trans e3, ?_⟩
        rw [given_no hf]
        exact e3 Dl _ p3⟩)
    (fun H' p => q Dl H' (fresh_back e1 p.1) (e1.trans p.2.1) p.2.2)⟩
/-- a list of things out of a list of whole numbers -/
theorem er_lcNR {β : Type} {ob : β → HO} {a : Addr} {xs : List Nat} {tl : TE} {j : Nat} {vs : List Nat} (u : Nat → β) (h : Ev tl σ H (.ref a)) (hx : LAt H a xs) (hz : xs.length ≤ 40000) (hw : ∀ x, wipe ((wipe σ vs).set j (some x)) vs = wipe σ vs)
    (he : ∀ (x : Nat) H1, Ex H H1 → x ∈ xs → Elt ob te ((wipe σ vs).set j (some (.int (x : Int)))) H1 (u x)) : EvR ob (tLc (iList K tl) (gName j) tYes te vs) σ H (xs.map u) := by
  have q := er_lcV (K := K) (ob := ob) (t := tYes) (te := te) (j := j) (vs := vs) (fun i => (fun _ => true) (xs.getD i default)) (fun i => u (xs.getD i default)) h hx (by rw [NL_len]; exact hz) hw
    (fun i x H1 e hi => et_yes)
    (fun i x H1 e hi _ => by
      obtain ⟨n, hn, rfl⟩ := NL_get hi
      have en : xs.getD i default = n := by rw [List.getD_eq_getElem?_getD, hn]; rfl
      rw [en]
      exact he n H1 e (List.mem_of_getElem? hn))
  rw [NL_len, pick_all xs (fun _ => true) u, List.filter_eq_self.mpr fun _ _ => rfl] at q
  exact q
theorem el_joined {E : XK} {ys : List (List Nat)} (h : EvR obL te σ H ys) (hl : ys.flatten.length ≤ 1000) : EvL (tCall spJoined [] E (tCons te tNil)) σ H (NL ys.flatten) := fun H1 e Q q =>
  h H1 e _ fun p H2 hp e2 h2 => ⟨p, ys, rfl, h2, hl, fun r H3 hr e3 h3 => q r H3 (fresh_back e2 hr) (e2.trans e3) h3⟩
theorem elt_if {β : Type} {ob : β → HO} {t : TT} {b : Bool} {y : β} (h : EvT t σ H b) (h1 : b = true → Elt ob ta σ H y) (h2 : b = false → Elt ob tb σ H y) : Elt ob (tIf t ta tb) σ H y := fun D H3 hD e3 hs Q q => h H3 e3 _ fun H4 e4 => by
  obtain ⟨o, hs⟩ := hs
  cases b with
  | true => exact iteT (h1 rfl D H4 hD (e3.trans e4) ⟨o, e4 _ _ hs⟩ Q fun c H5 e5 h5 nd => q c H5 (e4.trans e5) h5 nd)
  | false => exact iteF (h2 rfl D H4 hD (e3.trans e4) ⟨o, e4 _ _ hs⟩ Q fun c H5 e5 h5 nd => q c H5 (e4.trans e5) h5 nd)
theorem elt_rev {p : Addr} {x y : Nat} (h : Ev te σ H (.ref p)) (hp : H p = some (obT [x, y])) : Elt obT (KR.tRev2 K te) σ H [y, x] := .of_new fun H1 e Q q =>
  h H1 e _ fun H2 e2 => ⟨p, .int (x : Int), .int (y : Int), rfl, SqT.of (e2 _ _ (e _ _ hp)), fun r hr => q r _ (fresh_back e2 hr) (e2.trans (Ex.new hr)) upd_same⟩
theorem ev_idx {i j : Nat} {po : Addr} {l : List Nat} {x : Nat} (hi : σ[i]? = some (some (.ref po))) (hj : σ[j]? = some (some (.int (x : Int)))) (ho : H po = some (KR.tupO po (IL l))) (hx : x ∈ l) : Ev (KR.tBME KR.rIdxE (tVar i) (tCons (tVar j) tNil)) σ H (.int ((ixOf l x : Nat) : Int)) := fun H1 e Q q => by
  refine (ev_var hi : Ev (tVar i) σ H (.ref po)) H1 e _ fun H2 e2 => ⟨⟨po, IL l, rfl, e2 _ _ (e _ _ ho)⟩, ?_⟩
  refine (ev_var hj : Ev (tVar j) σ H (.int (x : Int))) H2 (e.trans e2) _ fun H3 e3 => ⟨po, IL l, (x : Int), ixOf l x, rfl, rfl, e3 _ _ (e2 _ _ (e _ _ ho)), ?_, fun m hm => ?_, q H3 (e2.trans e3)⟩
  · unfold IL
    rw [List.getElem?_map, ixOf_get hx]
    rfl
  · unfold IL
    rw [List.getElem?_map]
    intro z
    obtain ⟨y, hy, ey⟩ := Option.map_eq_some_iff.mp z
    have e : y = x := by omega
    rw [e] at hy
    exact ixOf_first hm hy
theorem tup2_go {Q : VK} (h : ta σ H fun x H1 => tb σ H1 fun y H2 => ([x, y] : List V).length ≤ sizeLine ∧ ∀ p, H2 p = none → Q (.ref p) (upd H2 p (.tup [x, y]))) : tTup (tCons ta (tCons tb tNil)) σ H Q := h
theorem cb1_go {r : List V → Hp → VK → Prop} {Q : VK} (h : ta σ H fun x H1 => r [x] H1 Q) : tCB r (tCons ta tNil) σ H Q := h
theorem s_retX (h : te σ H D.rt) : tRet te D σ H := h
theorem andV_alike {E : XK} {G1 G2 : V → Hp → Prop} {tz : TE} {Q : VK} (h1 : EvG ta σ H G1) (h2 : ∀ H1, Ex H H1 → EvG tb σ H1 G2) (k : ∀ v1 v2 H1 H2, Ex H H2 → G1 v1 H1 → G2 v2 H2 → ∃ f d : Int, v1 = .int f ∧ v2 = .int d ∧ f = d ∧ ∀ H3, Ex H2 H3 → tz σ H3 Q) :
    tAndV (tCall spAlike [] E (tCons ta (tCons tb tNil))) tz σ H Q := h1 H (Ex.refl H) _ fun v1 H1 e1 g1 => h2 H1 e1 H1 (Ex.refl H1) _ fun v2 H2 e2 g2 => by
  obtain ⟨f, d, rfl, rfl, e, q⟩ := k v1 v2 H1 H2 (e1.trans e2) g1 g2
  refine ⟨f, d, rfl, fun H3 e3 => ⟨_, rfl, ?_⟩⟩
  rw [decide_eq_true e]
  exact iteT (q H3 e3)
theorem alike_v {E : XK} {f d : Int} (ha : Ev ta σ H (.int f)) (hb : Ev tb σ H (.int d)) (e : f = d) : Ev (tCall spAlike [] E (tCons ta (tCons tb tNil))) σ H (.bl true) := call_v (ea_cons ha (ea_cons hb ea_nil)) fun H1 e1 Q q E1 => ⟨f, d, rfl, fun H2 e2 => by
  rw [decide_eq_true e]
  exact q H2 e2⟩
theorem WebAt.kr {H H' : Hp} {r t : Addr} {n : Nat} {es : List (Nat × Nat)} {zs : List V} (h : WebAt H t n es) (k : Kr r H H') (hr : H r = some (.lst zs)) : WebAt H' t n es := by
  obtain ⟨te, h1, as, h2, h3, h4⟩ := h.ex
  have no : ∀ (c : Addr) (xs : List V), H c = some (.tup xs) → c ≠ r := fun c xs hc e => by rw [e, hr] at hc; cases hc
  exact ⟨te, k _ _ (no _ _ h1) h1, as, k _ _ (no _ _ h2) h2, h3, fun i b e hb he => by
    have z := h4 i b e hb he
    exact k _ _ (no _ _ z) z⟩
end
end K76

/-! ## K76W9 -/
namespace K76
open PySem L2 Evl
section
variable {P : Program} {w : World} {K : PySem.W.Frag} {mg : Str → Option Value} {base : Heap} {f : Addr} {fd : FuncData}
variable {σ : L2.St} {H : Hp} {ta tb td ti te : TE} {D : Ends}
def rTupOf (K : PySem.W.Frag) : List V → Hp → VK → Prop := fun xs H Q => ∃ p ys, xs = [.ref p] ∧ ((SqL K H p ys ∧ ∀ l, H l = none → Q (.ref l) (upd H l (.tup ys))) ∨ (SqT K H p ys ∧ Q (.ref p) H))
theorem eu_tupOf {xs : List V} (h : EvL te σ H xs) : EvU (tCB (rTupOf K) (tCons te tNil)) σ H xs := fun H1 e Q q =>
  h H1 e _ fun p H2 hp e2 h2 => ⟨p, xs, rfl, .inl ⟨SqL.of h2, fun l hl => q l _ (fresh_back e2 hl) (e2.trans (Ex.new hl)) upd_same⟩⟩
theorem webl_go {E : XK} {Q : VK} {tA : TA} {r a : Addr} {ns : List Int} (h : EvA tA σ H [.ref r, .int 6]) (hr : RowAt K H r a ns) (k : ∀ (t : Addr) (n : Nat) (es : List (Nat × Nat)) H', Web n es → WebAt H' t n es → RowAt K H' r a ns → Kr r H H' → Q (.ref t) H') : tCall (spWebL K) [] E tA σ H Q :=
  h H (Ex.refl H) _ fun H1 e1 => by
    rw [List.append_nil]
    exact ⟨r, a, ns, rfl, hr.mono e1, fun t n es H' W wa hr' k' => k t n es H' W wa hr' ((Kr.ex e1).trans k')⟩
theorem q_webl {E : XK} {tA : TA} {tz : TS} {i : Nat} {r a : Addr} {ns : List Int} (h : EvA tA σ H [.ref r, .int 6]) (hr : RowAt K H r a ns) (k : ∀ (t : Addr) (n : Nat) (es : List (Nat × Nat)) H', Web n es → WebAt H' t n es → RowAt K H' r a ns → Kr r H H' → tz D (σ.set i (some (.ref t))) H') : tSeq (tAsg (tCall (spWebL K) [] E tA) (gName i)) tz D σ H := webl_go h hr k
theorem call3_gLL {sp : Sp} {G : V → Hp → Prop} {E : XK} {x : V} {ys zs : List V} {tc : TE} (ha : Ev ta σ H x) (hb : EvL tb σ H ys) (hc : EvL tc σ H zs) (hs : ∀ p r H1, H1 p = some (.lst ys) → H1 r = some (.lst zs) → Ex H H1 → ∀ (Q : VK) (E : XK), (∀ v H2, Ex H1 H2 → G v H2 → Q v H2) → sp [x, .ref p, .ref r] H1 Q E) :
    EvG (tCall sp [] E (tCons ta (tCons tb (tCons tc tNil)))) σ H G := fun H1 e Q q => ha H1 e _ fun H2 e2 => hb H2 (e.trans e2) _ fun p H3 hp e3 h3 => hc H3 ((e.trans e2).trans e3) _ fun r H4 hr e4 h4 =>
  hs p r H4 (e4 _ _ h3) h4 (((e.trans e2).trans e3).trans e4) Q E fun v H5 e5 g => q v H5 (((e2.trans e3).trans e4).trans e5) g
theorem RowAt.l {H : Hp} {r a : Addr} {ns : List Int} (h : RowAt K H r a ns) : ∃ zs, H r = some (.lst zs) := by
  obtain ⟨i, c, d, h1, _⟩ := h
  exact ⟨_, h1⟩
theorem all_true {α β : Type} (xs : List α) (u : α → β) : (xs.filter fun _ => true).map u = xs.map u := by rw [List.filter_eq_self.mpr fun _ _ => rfl]
abbrev nsLaw : List Str := ["_law_script", "_law_row", "_law_web_here", "_law_order_here", "_law_many", "_law_way", "_law_pairs", "_law_before", "_law_turn", "_law_sets", "_law_best", "_law_k", "_law_a", "_law_b", "_law_at", "_law_x", "_law_one"]
theorem scLaw : FnScope nsLaw ["_law_script"] (defScope sLaw) := ⟨rfl, rfl, rfl, by decide +kernel, rfl, by decide +kernel, by decide +kernel⟩
abbrev lcL3 : Expr := asgVal (nthS (defBody sLaw) 5)
abbrev lcL4 : Expr := asgVal (nthS (whBody (nthS (defBody sLaw) 6)) 0)
abbrev lcL5 : Expr := binR (asgVal (nthS (whBody (nthS (defBody sLaw) 8)) 0))
def spLaw (K : PySem.W.Frag) : Sp := fun vs H Q _ => ∃ (a : Addr) (ns : List Int), vs = [.ref a] ∧ SqL K H a (ns.map V.int) ∧ ns.length ≤ 63 ∧ ∀ H', Q (.bl true) H'
theorem ok_law (T : Mg mg) (F : Fun K "law" "law" sLaw f fd) (DW : Df P w K mg base 3 "_law_web" psWebL (spWebL K)) (DO : Df P w K mg base 2 "_law_order" psTaken (spOrder K)) (DJ : Df P w K mg base 1 "_law_joined" ["_law_some"] spJoined)
    (DA : Df P w K mg base 1 "_law_alike" psAlike spAlike) (DF : Df P w K mg base 7 "_law_fewest" psFewest (spFewest 7)) (DX : Df P w K mg base 6 "widest" ps2 spWidest) (DL : Df P w K mg base 8 "lines_of" ps2 spLines) : FnOk P w K mg base CX0 9 f fd ["_law_script"] (spLaw K) := by
  obtain ⟨gW, gdW, GW, bGW, kGW, mGW⟩ := DW.ex
  obtain ⟨gO, gdO, GO, bGO, kGO, mGO⟩ := DO.ex
  obtain ⟨gJ, gdJ, GJ, bGJ, kGJ, mGJ⟩ := DJ.ex
  obtain ⟨gA, gdA, GA, bGA, kGA, mGA⟩ := DA.ex
  obtain ⟨gF, gdF, GF, bGF, kGF, mGF⟩ := DF.ex
  obtain ⟨gX, gdX, GX, bGX, kGX, mGX⟩ := DX.ex
  obtain ⟨gL, gdL, GL, bGL, kGL, mGL⟩ := DL.ex
  refine F.ok scLaw (fun vs H Q E h => ?_) (fun cdv A outer s H vs Q E hr h => ?_)
  · obtain ⟨a, ns, rfl, _⟩ := h
    rfl
  obtain ⟨a, ns, rfl, hS, _, q⟩ := h
  have hr1 : Room 1 _ := hr.mono (by decide)
  have hr2 : Room 2 _ := hr.mono (by decide)
  have hr3 : Room 3 _ := hr.mono (by decide)
  have hr6 : Room 6 _ := hr.mono (by decide)
  have hr7 : Room 7 _ := hr.mono (by decide)
  refine ⟨_, pss_cons (ps_set (i := 1) scLaw.nd rfl (Or.inl rfl) (pe_lst (pa_cons (pv 0) (pa_cons pe_int (pa_cons pe_int (pa_cons pe_int pa_nil))))))
    (pss_cons (ps_set (i := 2) scLaw.nd rfl (Or.inr rfl) (pe_call GW hr3 rfl mGW kGW bGW .nil pass0 (pa_cons (pv 1) (pa_cons pe_int pa_nil))))
    (pss_cons (ps_asg (pe_tup (pa_cons (pe_callTy (KR.cr_tupX) (by rfl) T.tuple (by decide +kernel) (pa_cons (pe_call GO hr2 rfl mGO kGO bGO .nil pass0 (pa_cons (pv 1) (pa_cons (pe_ix ix_tup (pv 2) pe_int (fun _ _ => rfl)) pa_nil))) pa_nil)) (pa_cons (pe_ix ix_tup (pv 2) pe_int (fun _ _ => rfl)) pa_nil)))
      (pg_tup rfl (pgs_cons (pg_name (i := 3) scLaw.nd rfl (.inr rfl)) (pgs_cons (pg_name (i := 4) scLaw.nd rfl (.inl rfl)) pgs_nil))))
    (pss_cons (ps_set (i := 5) scLaw.nd rfl (Or.inr rfl) (pe_callTy (r := rTupOf K) call_tuple_of (by rfl) T.tuple (by decide +kernel) (pa_cons
      (pe_lc (own := [("_law_a", 12), ("_law_b", 13)]) (g := gTup K 2 (gCons (gName 12) (gCons (gName 13) gNil))) (tt := tYes) (by rfl) scLaw.nd (pi_tupK K (pe_ix ix_tup (pv 2) pe_int (fun _ _ => rfl))) (blkOk_by (own := [("_law_a", 12), ("_law_b", 13)]) (N := nsLaw) (sc := defScope sLaw) (by decide +kernel))
        (fun _ _ _ _ _ => pg_tupK K (by rfl) (pgs_cons (pg_name (i := 12) scLaw.nd rfl (Or.inl rfl)) (pgs_cons (pg_name (i := 13) scLaw.nd rfl (Or.inl rfl)) pgs_nil))) (fun _ _ _ _ _ => pts_nil)
        (fun _ _ _ _ _ => pe_callTy call_int1 (by rfl) T.int (by decide +kernel) (pa_cons (pe_cmpR op_lt (KR.pe_bmE PySem.F.slot_tuple_index PySem.F.type_tuple_index KR.mt_idxE (pv 3) (pa_cons (pv 13) pa_nil)) (KR.pe_bmE PySem.F.slot_tuple_index PySem.F.type_tuple_index KR.mt_idxE (pv 3) (pa_cons (pv 12) pa_nil)) (nomark _)) pa_nil))) pa_nil)))
    (pss_cons (ps_set (i := 6) scLaw.nd rfl (Or.inr rfl) (pe_lc (own := [("_law_at", 14)]) (g := gName 14) (tt := tYes) (by rfl) scLaw.nd (pi_range1 (by rfl) T.range (pa_cons (pe_callB (call_lenK K) (by rfl) T.len PySem.boot_len (pa_cons (pv 5) pa_nil)) pa_nil)) (blkOk_by (own := [("_law_at", 14)]) (N := nsLaw) (sc := defScope sLaw) (by decide +kernel))
        (fun _ _ _ _ _ => pg_name (i := 14) scLaw.nd rfl (Or.inl rfl)) (fun _ _ _ _ _ => pts_nil)
        (fun _ _ _ _ _ => pe_ifExp (pt_cmpR op_eq (pe_ix (ix_tupK K) (pv 5) (pv 14) (fun _ _ => rfl)) pe_int (nomark _)) (pe_ix (ix_tupK K) (pe_ix (ix_tupK K) (pv 2) pe_int (fun _ _ => rfl)) (pv 14) (fun _ _ => rfl)) (pe_rev2K K (pe_ix (ix_tupK K) (pe_ix (ix_tupK K) (pv 2) pe_int (fun _ _ => rfl)) (pv 14) (fun _ _ => rfl))))))
    (pss_cons (ps_set (i := 7) scLaw.nd rfl (Or.inr rfl) (pe_lc (own := [("_law_k", 11)]) (g := gName 11) (tt := tYes) (by rfl) scLaw.nd (pi_range1 (by rfl) T.range (pa_cons (pv 4) pa_nil)) (blkOk_by (own := [("_law_k", 11)]) (N := nsLaw) (sc := defScope sLaw) (by decide +kernel))
        (fun _ _ _ _ _ => pg_name (i := 11) scLaw.nd rfl (Or.inr rfl)) (fun _ _ _ _ _ => pts_nil)
        (fun _ _ _ _ _ => pe_lc (own := [("_law_a", 12), ("_law_b", 13)]) (g := gTup K 2 (gCons (gName 12) (gCons (gName 13) gNil))) (by rfl) scLaw.nd (pi_listK K (pv 6)) (blkOk_by (own := [("_law_a", 12), ("_law_b", 13)]) (N := nsLaw) (sc := relS (lcScope lcL3) (defScope sLaw)) (by decide +kernel))
          (fun _ _ _ _ _ => pg_tupK K (by rfl) (pgs_cons (pg_name (i := 12) scLaw.nd rfl (Or.inl rfl)) (pgs_cons (pg_name (i := 13) scLaw.nd rfl (Or.inl rfl)) pgs_nil)))
          (fun _ _ _ _ _ => pts_one (pt_cmpR op_eq (pv 13) (pv 11) (nomark _))) (fun _ _ _ _ _ => pv 12))))
    (pss_cons (ps_for PassesOwn.never rfl (pi_range1 (by rfl) T.range (pa_cons (pv 4) pa_nil)) (pg_name (i := 8) scLaw.nd rfl (.inl rfl))
      (pss_one (ps_set (i := 7) scLaw.nd rfl (Or.inr rfl) (pe_lc (own := [("_law_one", 16)]) (g := gName 16) (tt := tYes) (by rfl) scLaw.nd (pi_listK K (pv 7)) (blkOk_by (own := [("_law_one", 16)]) (N := nsLaw) (sc := defScope sLaw) (by decide +kernel))
        (fun _ _ _ _ _ => pg_name (i := 16) scLaw.nd rfl (Or.inl rfl)) (fun _ _ _ _ _ => pts_nil)
        (fun _ _ _ _ _ => pe_callB (cr_sortedSetK w (by rfl)) (by rfl) T.sorted (by decide +kernel) (pa_cons (pe_callTy (cr_setLK K w (by rfl)) (by rfl) T.set (by decide +kernel)
          (pa_cons (pe_op op_cat (pv 16) (pe_call GJ hr1 rfl mGJ kGJ bGJ .nil pass0 (pa_cons (pe_lc (own := [("_law_x", 15)]) (g := gName 15) (tt := tYes) (by rfl) scLaw.nd (pi_listK K (pv 16)) (blkOk_by (own := [("_law_x", 15)]) (N := nsLaw) (sc := relS (lcScope lcL4) (defScope sLaw)) (by decide +kernel))
            (fun _ _ _ _ _ => pg_name (i := 15) scLaw.nd rfl (Or.inl rfl)) (fun _ _ _ _ _ => pts_nil) (fun _ _ _ _ _ => pe_ix (ix_listK K) (pv 7) (pv 15) (fun _ _ => rfl))) pa_nil))) pa_nil)) pa_nil))))))
    (pss_cons (ps_par (i := 9) (j := 10) (by rfl) scLaw.nd rfl rfl (by decide) rfl rfl (pa_cons (pe_lst (pa_cons (pe_lst pa_nil) pa_nil)) (pa_cons pe_int pa_nil)) (by rfl))
    (pss_cons (ps_for PassesOwn.never rfl (pi_range1 (by rfl) T.range (pa_cons (pv 4) pa_nil)) (pg_name (i := 11) scLaw.nd rfl (.inr rfl))
      (pss_one (ps_set (i := 9) scLaw.nd rfl (Or.inl rfl) (pe_op op_cat (pv 9) (pe_lc (own := [("_law_one", 16)]) (g := gName 16) (by rfl) scLaw.nd (pi_listK K (pv 9)) (blkOk_by (own := [("_law_one", 16)]) (N := nsLaw) (sc := defScope sLaw) (by decide +kernel))
        (fun _ _ _ _ _ => pg_name (i := 16) scLaw.nd rfl (Or.inl rfl))
        (fun _ _ _ _ _ => pts_one (pt_cmpR (op_eqDK K hr.units) (pe_lc (own := [("_law_x", 15)]) (g := gName 15) (by rfl) scLaw.nd (pi_listK K (pv 16)) (blkOk_by (own := [("_law_x", 15)]) (N := nsLaw) (sc := relS (lcScope lcL5) (defScope sLaw)) (by decide +kernel))
          (fun _ _ _ _ _ => pg_name (i := 15) scLaw.nd rfl (Or.inl rfl))
          (fun _ _ _ _ _ => pts_one (PW.pt (pw_or (pt_cmpR (op_inK K) (pv 15) (pe_ix (ix_listK K) (pv 7) (pv 11) (fun _ _ => rfl)) (by rfl)) (pw_or1 (pt_cmpR (op_inK K) (pv 11) (pe_ix (ix_listK K) (pv 7) (pv 15) (fun _ _ => rfl)) (by rfl))))))
          (fun _ _ _ _ _ => pv 15)) (pe_lst pa_nil) (nomark _)))
        (fun _ _ _ _ _ => pe_op op_cat (pv 16) (pe_lst (pa_cons (pv 11) pa_nil))))))))
    (pss_cons (ps_set (i := 10) scLaw.nd rfl (Or.inl rfl) (pe_callB (cr_max rfl) (by rfl) T.max (by decide +kernel) (pa_cons (pe_lc (own := [("_law_one", 16)]) (g := gName 16) (tt := tYes) (by rfl) scLaw.nd (pi_listK K (pv 9)) (blkOk_by (own := [("_law_one", 16)]) (N := nsLaw) (sc := defScope sLaw) (by decide +kernel))
      (fun _ _ _ _ _ => pg_name (i := 16) scLaw.nd rfl (Or.inl rfl)) (fun _ _ _ _ _ => pts_nil) (fun _ _ _ _ _ => pe_callB (call_lenK K) (by rfl) T.len PySem.boot_len (pa_cons (pv 16) pa_nil))) pa_nil)))
    (pss_cons (ps_if (pt_not (pt_val (pe_call GA hr1 rfl mGA kGA bGA .nil pass0 (pa_cons (pe_call GX hr6 rfl mGX kGX bGX .nil pass0 (pa_cons (pv 2) (pa_cons (pv 5) pa_nil))) (pa_cons (pv 10) pa_nil))))) (pss_one ps_never) pss_nil)
    (pss_one (ps_ret (pe_and (pe_call GA hr1 rfl mGA kGA bGA .nil pass0 (pa_cons (pe_call GL hr rfl mGL kGL bGL .nil pass0 (pa_cons (pv 2) (pa_cons (pv 5) pa_nil)))
        (pa_cons (pe_call GF hr7 rfl mGF kGF bGF .nil pass0 (pa_cons (pv 7) (pa_cons (pe_listRg rfl (by rfl) T.list (prg_1 (by rfl) T.range (pv 4))) (pa_cons (pe_lst pa_nil) pa_nil)))) pa_nil)))
      (pe_one (pe_cmpR op_eq (pe_call GL hr rfl mGL kGL bGL .nil pass0 (pa_cons (pv 2) (pa_cons (pv 5) pa_nil))) (pv 10) (nomark _)))))))))))))))), ?_⟩
  -- the row, the web
  refine q_asgL (xs := [.ref a, .int 0, .int 8976, .int 0]) (el_lst (ea_cons (ev_var rfl) (ea_cons ev_c (ea_cons ev_c (ea_cons ev_c ea_nil)))) (by show 4 ≤ 100000; decide)) fun r H1 hr1' e1 h1 => ?_
  have row1 : RowAt K H1 r a ns := ⟨0, 8976, 0, h1, ex_l e1 hS⟩
  refine q_webl (ea_cons (ev_var rfl) (ea_cons ev_c ea_nil)) row1 fun t n es H2 W wa2 row2 kr2 => ?_
  obtain ⟨te, ht2, _⟩ := id wa2.ex
  -- the order
  refine q_asgX (tup2_go (cb1_go ?_))
  refine order_go (many := n) (ea_cons (ev_var rfl) (ea_cons (ev_ixT (ev_var rfl) ev_c ht2 rfl) ea_nil)) row2 W.six fun pl l H3 hpl hl pm row3 kr3 => ?_
  obtain ⟨zs, hzs⟩ := row2.l
  have wa3 := wa2.kr kr3 hzs
  refine ⟨pl, IL l, rfl, SqL.of (by rw [← NL_IL]; exact hl), fun po hpo => ?_⟩
  have e4 := Ex.new (o := KR.tupO po (IL l)) hpo
  have ho4 : (upd H3 po (KR.tupO po (IL l))) po = some (KR.tupO po (IL l)) := upd_same
  have wa4 := wa3.mono e4
  generalize upd H3 po (KR.tupO po (IL l)) = H4 at e4 ho4 wa4
  obtain ⟨te, ht4, _⟩ := id wa4.ex
  refine (ev_ixT (ev_var rfl) ev_c ht4 rfl : Ev (tOp (rIxT K) (tVar 2) (tC (.int 0))) (((start nsLaw [.ref a]).set 1 (some (.ref r))).set 2 (some (.ref t))) H4 (.int (n : Int))) H4 (Ex.refl H4) _ fun H5 e5 => ⟨(by show 2 ≤ sizeLine; decide), fun tq htq => ?_⟩
  have e6 := Ex.new (o := .tup [.ref po, .int (n : Int)]) htq
  refine ⟨tq, [.ref po, .int (n : Int)], rfl, SqT.of upd_same, rfl, g2_go ?_⟩
  have ho := e6 _ _ (e5 _ _ ho4)
  have wa := wa4.mono (e5.trans e6)
  show tSeq _ _ _ _ (upd H5 tq (.tup [.ref po, .int (n : Int)]))
  generalize upd H5 tq (.tup [.ref po, .int (n : Int)]) = H6 at ho wa
  clear e4 e5 e6 wa4 wa3 ho4 ht4 ht2 wa2
  obtain ⟨te, ht, as, hte, hlen, hedge⟩ := id wa.ex
  have n6 := W.six
  have few := W.few
  have inl : ∀ x, x < n → x ∈ l := fun x hx => pm.mem_iff.mpr (List.mem_range.mpr hx)
  -- the way
  refine q_asgU (xs := BL (es.map (mark l))) (eu_tupOf (el_is (el_lcT (fun _ => true) (fun i => V.int (if mark l (es.getD i default) = true then 1 else 0)) (ev_ixT (ev_var rfl) ev_c ht rfl) hte (by rw [List.length_map, hlen]; omega) (fun i x H7 Q7 e7 hx k => ?_)) ?_)) fun pw H7 hpw e7 hw7 => ?_
  · rw [List.getElem?_map] at hx
    obtain ⟨b, hb, rfl⟩ := Option.map_eq_some_iff.mp hx
    have hi : i < es.length := by rw [← hlen]; exact (List.getElem?_eq_some_iff.mp hb).1
    obtain ⟨e, he⟩ : ∃ e, es[i]? = some e := ⟨es[i], List.getElem?_eq_getElem hi⟩
    have en : es.getD i default = e := by rw [List.getD_eq_getElem?_getD, he]; rfl
    obtain ⟨l1, l2⟩ := W.lt e (List.mem_of_getElem? he)
    refine ⟨b, [.int (e.1 : Int), .int (e.2 : Int)], rfl, SqT.of (e7 _ _ (hedge i b e hb he)), rfl, g2_go (k _ rfl et_yes fun _ => ?_)⟩
    refine ev_is (ev_cb (ea_cons (ev_op (ev_idx (l := l) (x := e.2) rfl rfl (e7 _ _ ho) (inl _ l2)) (ev_idx (l := l) (x := e.1) rfl rfl (e7 _ _ ho) (inl _ (by omega))) rv_I0) ea_nil) (rc_intB _)) ?_
    rw [en]
    unfold mark
    have hz : decide (((ixOf l e.2 : Nat) : Int) < ((ixOf l e.1 : Nat) : Int)) = decide (ixOf l e.2 < ixOf l e.1) := decide_eq_decide.mpr (by omega)
    show V.int (if decide (((ixOf l e.2 : Nat) : Int) < ((ixOf l e.1 : Nat) : Int)) = true then 1 else 0) = _
    rw [hz]
  · have e := range_getD es
    have h1 : ((List.range es.length).map fun i => es.getD i default).map (fun e => V.int (if mark l e = true then 1 else 0)) = es.map (fun e => V.int (if mark l e = true then 1 else 0)) := by rw [e]
    rw [List.map_map] at h1
    unfold given BL
    rw [List.length_map, hlen, all_true, List.map_map]
    exact h1
  have way7 : Way H7 t pw n es (es.map (mark l)) := ⟨wa.mono e7, W, hw7, List.length_map _⟩
  have o := open_of W pm
  have ndA := arcs_nd W (mark l)
  have eA := arcs_map (mark l) es
  have lenA : (arcs es (es.map (mark l))).length = es.length := by rw [eA, List.length_map]
  have hwo7 : WayO H7 t pw n es (es.map (mark l)) (ixOf l) := ⟨way7, o⟩
  generalize hA : arcs es (es.map (mark l)) = A at o ndA eA lenA
  -- the pairs
  refine q_asgR (ob := obT) (ys := A.map fun p => [p.1, p.2]) (er_is (er_lcR1 (n := es.length) (fun _ => true) (fun i => [(A.getD i default).1, (A.getD i default).2]) (ea_cons (ev_is (ev_lenT (ev_var rfl) hw7) (by rw [BL_len, List.length_map])) ea_nil) (by omega) (by intro _; rfl) (fun i H8 e8 hi => et_yes) (fun i H8 e8 hi _ => ?_)) ?_) fun pp H8 hpp e8 hp8 => ?_
  · obtain ⟨e, he⟩ : ∃ e, es[i]? = some e := ⟨es[i], List.getElem?_eq_getElem hi⟩
    obtain ⟨b, hb⟩ : ∃ b, as[i]? = some b := ⟨as[i], List.getElem?_eq_getElem (by omega)⟩
    have eb := (e7.trans e8) _ _ (hedge i b e hb he)
    have an : A.getD i default = arc e (mark l e) := by rw [List.getD_eq_getElem?_getD, eA, List.getElem?_map, he]; rfl
    have mk : atI (BL (es.map (mark l))) (i : Int) = some (.int (if mark l e = true then 1 else 0)) := at_nat (by unfold BL; rw [List.getElem?_map, List.getElem?_map, he]; rfl)
    have old : ∀ {H9 : Hp} {x : Option V} {z6 z7 z8 z9 z10 z11 z12 z13 z15 z16 : Option V}, Ex H8 H9 → Ev (tOp (rIxT K) (tOp (rIxT K) (tVar 2) (tC (.int 1))) (tVar 14)) [some (.ref a), some (.ref r), some (.ref t), some (.ref po), some (.int (n : Int)), some (.ref pw), z6, z7, z8, z9, z10, z11, z12, z13, some (.int (i : Int)), z15, z16] H9 (.ref b) := fun e9 =>
      ev_ixT (ev_ixT (ev_var rfl) ev_c (((e7.trans e8).trans e9) _ _ ht) rfl) (ev_var rfl) (((e7.trans e8).trans e9) _ _ hte) (ref_at hb)
    rw [an]
    refine elt_if (b := decide (V.int (if mark l e = true then 1 else 0) = V.int 0)) (et_test (ev_op (ev_ixT (ev_var rfl) (ev_var rfl) (e8 _ _ hw7) mk) ev_c (rv_eq rfl))) (fun hb => ?_) fun hb => ?_
    · cases hm : mark l e with
      | true =>
        rw [hm] at hb
        simp at hb
      | false => exact .of_old (old (x := none) (Ex.refl _)) eb
    · cases hm : mark l e with
      | true => exact elt_rev (old (x := none) (Ex.refl _)) eb
      | false =>
        rw [hm] at hb
        simp at hb
  · rw [all_true, ← lenA]
    have e := range_getD A
    have h1 : ((List.range A.length).map fun i => A.getD i default).map (fun p => [p.1, p.2]) = A.map (fun p => [p.1, p.2]) := by rw [e]
    rw [List.map_map] at h1
    exact h1
  obtain ⟨pas, p1, p2, p3⟩ := id hp8
  rw [List.length_map] at p2
  -- what goes right before
  refine q_asgR (ob := obL) (ys := (List.range n).map (toAt A)) (er_is (er_lcR1 (n := n) (fun _ => true) (toAt A) (ea_cons (ev_var rfl) ea_nil) (by omega) (by intro _; rfl) (fun k H9 e9 hk => et_yes) (fun k H9 e9 hk _ =>
      .of_l (el_is (el_lcLg (xs := pas.map V.ref) (fun i => decide ((A.getD i default).2 = k)) (fun i => V.int (((A.getD i default).1 : Nat) : Int)) (ev_var rfl) (e9 _ _ p1) (by rw [List.length_map, p2]; omega) (fun i x H10 Q10 e10 hx kk => ?_)) ?_))) (all_true _ _)) fun pb H9 hpb e9 hb9 => ?_
  · rw [List.getElem?_map] at hx
    obtain ⟨b, hb, rfl⟩ := Option.map_eq_some_iff.mp hx
    have hi : i < A.length := by rw [← p2]; exact (List.getElem?_eq_some_iff.mp hb).1
    obtain ⟨p, hp⟩ : ∃ p, A[i]? = some p := ⟨A[i], List.getElem?_eq_getElem hi⟩
    have pn : A.getD i default = p := by rw [List.getD_eq_getElem?_getD, hp]; rfl
    have hpb : H8 b = some (obT [p.1, p.2]) := p3 i b [p.1, p.2] hb (by rw [List.getElem?_map, hp]; rfl)
    refine ⟨b, [.int (p.1 : Int), .int (p.2 : Int)], rfl, SqT.of ((e9.trans e10) _ _ hpb), rfl, g2_go (kk _ rfl (et_test (ev_is (ev_op (ev_var rfl) (ev_var rfl) (rv_eq rfl)) ?_)) fun _ => ev_is (ev_var (v := .int (p.1 : Int)) rfl) (by rw [pn]))⟩
    show V.bl (decide (V.int (p.2 : Int) = V.int (k : Int))) = _
    rw [pn, dec_int]
    by_cases c : p.2 = k
    · rw [decide_eq_true c, c]
      simp
    · rw [decide_eq_false c, beq_eq_false_iff_ne.mpr (by omega)]
  · unfold given
    rw [List.length_map, p2, pick_all A (fun p => decide (p.2 = k)) (fun p => V.int ((p.1 : Nat) : Int))]
    unfold NL toAt
    rw [List.map_map]
    rfl
  -- the rounds
  have e79 := e8.trans e9
  refine q_forR1 (n := (n : Int)) (ea_cons (ev_var rfl) ea_nil) ⟨by omega, by omega⟩
    (fun i σ H' => ∃ (pb : Addr) (B : Nat → List Nat) (x8 : Option V), σ = [some (.ref a), some (.ref r), some (.ref t), some (.ref po), some (.int (n : Int)), some (.ref pw), some (.ref pp), some (.ref pb), x8, none, none, none, none, none, none, none, none] ∧ Ex H7 H' ∧ RAt obL H' pb ((List.range n).map B) ∧ LR n A (ixOf l) i B)
    (fun H10 e10 => ⟨pb, toAt A, _, rfl, e79.trans e10, hb9.mono e10, LR.start o ndA⟩) ?_ ?_
  · rintro i σ H' hi ⟨pb, B, x8, rfl, ex, hB, lr⟩
    refine s_asgR (ob := obL) (ys := (List.range n).map (joinB n B)) (er_is (er_lcR (oa := obL) (ob := obL) (fun _ => true) (fun xs => uni n (xs ++ (xs.map B).flatten)) (ev_var rfl) hB (by simp; omega) (by intro _; rfl) (fun c xs H10 e10 hc hm => et_yes) (fun c xs H10 e10 hc hm _ => ?_)) ?_) fun pb2 H10 hpb2 e10 hb10 => ⟨pb2, joinB n B, _, rfl, ex.trans e10, hb10, lr.step o⟩
    · obtain ⟨k, hk, rfl⟩ := List.mem_map.mp hm
      have hk := List.mem_range.mp hk
      have fl := lr.flat o n6 hk
      have ft := lr.fit k hk
      refine .of_l (el_sortset (n := n) (ys := B k ++ ((B k).map B).flatten) (el_is (el_catVL (ev_var rfl) hc (el_joined (er_lcNR B (ev_var rfl) hc (by omega) (by intro _; rfl) (fun x H11 e11 hx => ?_)) (by omega)) (by rw [NL_len, NL_len]; omega)) (by rw [NL_app])) (by rw [List.length_append]; omega) fun x hx => ?_)
      · obtain ⟨bs, b, b1, b2, b3⟩ := ((hB.mono e10).mono e11).ll.get (lr.lt o hk hx)
        exact .of_old (ev_ixL (ev_var rfl) (ev_var rfl) b1 (ref_at b2)) b3
      · rcases List.mem_append.mp hx with hx | hx
        · exact lr.lt o hk hx
        · obtain ⟨ys, hys, hx⟩ := List.mem_flatten.mp hx
          obtain ⟨y, hy, rfl⟩ := List.mem_map.mp hys
          exact lr.lt o (lr.lt o hk hy) hx
    · rw [all_true, List.map_map]
      rfl
  rintro σ H' ⟨pb, B, x8, rfl, ex, hB, lr⟩
  rw [show ((n : Int)).toNat = n by omega] at lr
  have isB := before_of o lr.sound lr.full
  rw [← norm_map] at hB
  generalize norm n B = B at isB hB
  have ord := rel_ord o isB
  have hB := hB.ll
  -- sets, best
  refine q_parX ?_
  refine (er_one el_nil : EvR obL (tLst (tCons (tLst tNil) tNil)) [some (.ref a), some (.ref r), some (.ref t), some (.ref po), some (.int (n : Int)), some (.ref pw), some (.ref pp), some (.ref pb), x8, none, none, none, none, none, none, none, none] H' [[]]) H' (Ex.refl H') _ fun ps H10 hps e10 hs10 => ⟨.ref ps, .int 0, rfl, ?_⟩
  refine q_forR1 (n := (n : Int)) (ea_cons (ev_var rfl) ea_nil) ⟨by omega, by omega⟩
    (fun i σ H'' => ∃ (ps : Addr) (x11 : Option V), σ = [some (.ref a), some (.ref r), some (.ref t), some (.ref po), some (.int (n : Int)), some (.ref pw), some (.ref pp), some (.ref pb), x8, some (.ref ps), some (.int 0), x11, none, none, none, none, none] ∧ Ex H' H'' ∧ RAt obL H'' ps (rowsOf (rel B) i))
    (fun H11 e11 => ⟨ps, _, rfl, e10.trans e11, hs10.mono e11⟩) ?_ ?_
  · rintro i σ H11 hi ⟨ps, x11, rfl, ex11, hrow⟩
    have hin : i < n := by omega
    have l64 : (rowsOf (rel B) i).length ≤ 64 := Nat.le_trans (rowsOf_len (rel B) i).1 (pow6 (by omega))
    have hBat : ∀ (H12 : Hp) (y : Nat), Ex H11 H12 → y < n → ∃ (as : List Addr) (b : Addr), H12 pb = some (.lst (as.map V.ref)) ∧ as[y]? = some b ∧ LAt H12 b (B y) := fun H12 y e12 hy => (hB.mono (ex11.trans e12)).get hy
    have hcomp := er_lcR (K := K) (ob := obL) (oa := obL) (t := tTest (tOp (rEqD K) (tLc (iList K (tVar 16)) (gName 15) (tOr (tTest (tOp (rIn K false) (tVar 15) (tOp (rIxL K) (tVar 7) (tVar 11)))) (tTest (tOp (rIn K false) (tVar 11) (tOp (rIxL K) (tVar 7) (tVar 15))))) (tVar 15) [15]) (tLst tNil)))
      (te := tOp rCat (tVar 16) (tLst (tCons (tVar 11) tNil))) (σ := [some (.ref a), some (.ref r), some (.ref t), some (.ref po), some (.int (n : Int)), some (.ref pw), some (.ref pp), some (.ref pb), x8, some (.ref ps), some (.int 0), some (.int (i : Int)), none, none, none, none, none]) (H := H11) (j := 16) (vs := [16]) (tl := tVar 9)
      (fun one => (one.filter fun x => clash (rel B) i x).isEmpty) (fun one => one ++ [i]) (ev_var rfl) hrow (by omega) (by intro _; rfl)
      (fun c one H12 e12 hc hm => by
        have lt1 := rowsOf_lt (rel B) i one hm
        refine et_test (ev_eqNil (el_lcN (fun x => clash (rel B) i x) (ev_var rfl) hc (by have := (rowsOf_len (rel B) i).2 one hm; omega) (by intro _; rfl) (fun x H13 e13 hx => ?_) (fun x H13 e13 hx _ => ev_var rfl)))
        have hxi := lt1 x hx
        obtain ⟨bs, bi, b1, b2, b3⟩ := hBat H13 i (e12.trans e13) hin
        obtain ⟨cs, bx, c1, c2, c3⟩ := hBat H13 x (e12.trans e13) (by omega)
        exact et_or (a := rel B x i) (b := rel B i x) (et_in (ev_var rfl) (ev_ixL (ev_var rfl) (ev_var rfl) b1 (ref_at b2)) b3) fun _ => et_in (ev_var rfl) (ev_ixL (ev_var rfl) (ev_var rfl) c1 (ref_at c2)) c3)
      (fun c one H12 e12 hc hm _ => .of_l (el_is (el_catVL (ev_var rfl) hc (el_lst (ea_cons (ev_var rfl) ea_nil) (by show 1 ≤ 100000; decide)) (by rw [NL_len]; have := (rowsOf_len (rel B) i).2 one hm; simp; omega)) (by rw [NL_app]; rfl)))
    refine s_asgR (er_cat (ev_var rfl) hrow hcomp (by
      rw [List.length_map]
      have := List.length_filter_le (fun one => (one.filter fun x => clash (rel B) i x).isEmpty) (rowsOf (rel B) i)
      omega)) fun p3 H12 hp3 e12 h12 => ⟨p3, _, rfl, ex11.trans e12, h12⟩
  rintro σ H11 ⟨ps, x11, rfl, ex11, hrow⟩
  rw [show ((n : Int)).toNat = n by omega] at hrow
  have l64 : (rowsOf (rel B) n).length ≤ 64 := Nat.le_trans (rowsOf_len (rel B) n).1 (pow6 n6)
  refine q_asgG (eg_max (ys := (rowsOf (rel B) n).map List.length) (el_lcO List.length (ev_var rfl) hrow (by omega) (by intro _; rfl) (fun c one H12 e12 hc hm => ev_is (ev_lenL (ev_var rfl) hc) (by rw [NL_len]))) (fun h => rowsOf_ne _ _ (List.map_eq_nil_iff.mp h))) fun v H12 e12 hv => ?_
  obtain ⟨m, rfl, hm, hle⟩ := hv
  obtain ⟨row, hrow', el⟩ := List.mem_map.mp hm
  have wide : IsWide (rel B) n m := ⟨⟨row, hrow', el⟩, fun l' hl' => hle _ (List.mem_map.mpr ⟨l', hl', rfl⟩)⟩
  have ex712 : Ex H7 H12 := (ex.trans ex11).trans e12
  have hwo := hwo7.mono ex712
  have hBn := (hB.mono ex11).mono e12
  subst hA
  -- widest
  refine q_when (b := false) (et_not (a := true) (et_B (alike_v (f := (m : Int)) (d := (m : Int)) (call_v (ea_cons (ev_var rfl) (ea_cons (ev_var rfl) ea_nil)) fun H13 e13 Q1 q1 E1 => ⟨t, pw, n, es, es.map (mark l), ixOf l, rfl, hwo.mono e13, fun m' H14 B' e14 hB' hw' => ?_⟩) (ev_var rfl) rfl))) (fun h => by cases h) fun _ H13 e13 => ?_
  · rw [rel_same hB' isB] at hw'
    rw [hw'.one wide]
    exact q1 H14 e14
  -- lines_of, the fewest rows
  have lines : ∀ {H14 : Hp} {x13 x14 x15 x16 : Option V}, Ex H12 H14 → EvG (tCall spLines [] E0 (tCons (tVar 2) (tCons (tVar 5) tNil))) [some (.ref a), some (.ref r), some (.ref t), some (.ref po), some (.int (n : Int)), some (.ref pw), some (.ref pp), some (.ref pb), x8, some (.ref ps), some (.int (m : Int)), x11, none, none, none, none, none] H14
      (fun v _ => ∃ M : List (Nat × Nat), v = .int ((n : Int) - (M.length : Int)) ∧ LI (rel B) n n M) := fun e14 =>
    call_g (ea_cons (ev_var rfl) (ea_cons (ev_var rfl) ea_nil)) fun H15 e15 Q1 E1 q1 => ⟨t, pw, n, es, es.map (mark l), ixOf l, rfl, hwo.mono (e14.trans e15), fun B' M H16 e16 hB' li => q1 _ H16 e16 ⟨M, rfl, by rw [← rel_same hB' isB]; exact li⟩⟩
  refine s_retX (andV_alike (G2 := fun v _ => ∃ x : Nat, v = .int (x : Int) ∧ IsFewest (rel B) (List.range n) [] x) (lines (x13 := none) (x14 := none) (x15 := none) (x16 := none) e13) (fun H14 e14 => call3_gLL (ev_var rfl) (el_listRg (n := n) (ev_var rfl) (by omega)) el_nil fun pr1 pr2 H15 h1 h2 e15 Q1 E1 q1 => ?_) fun v1 v2 H14 H15 e15 g1 g2 => ?_)
  · refine ⟨pb, pr1, pr2, n, B, List.range n, [], rfl, hBn.mono ((e13.trans e14).trans e15), h1, ⟨[], h2, rfl, fun i b y hb => by simp at hb⟩, ⟨by simp; omega, fun x hx => List.mem_range.mp hx, fun row h => nomatch h⟩, by rw [List.length_range]; omega, fun x H16 e16 hf => q1 _ H16 e16 ⟨x, rfl, hf⟩⟩
  · obtain ⟨M, rfl, li⟩ := g1
    obtain ⟨x, rfl, hf⟩ := g2
    obtain ⟨q1, q2⟩ := all_one ord li wide hf
    refine ⟨_, _, rfl, rfl, by omega, fun H16 e16 => ?_⟩
    refine lines (x13 := none) (x14 := none) (x15 := none) (x16 := none) ((e13.trans e15).trans e16) H16 (Ex.refl H16) _ fun v H17 e17 hv => ?_
    obtain ⟨M', rfl, li'⟩ := hv
    obtain ⟨q3, q4⟩ := all_one ord li' wide hf
    refine (ev_var rfl : Ev (tVar 10) [some (.ref a), some (.ref r), some (.ref t), some (.ref po), some (.int (n : Int)), some (.ref pw), some (.ref pp), some (.ref pb), x8, some (.ref ps), some (.int (m : Int)), x11, none, none, none, none, none] H17 (.int (m : Int))) H17 (Ex.refl H17) _ fun H18 e18 => ⟨rfl, ?_⟩
    rw [decide_eq_true (congrArg V.int (by omega : (n : Int) - (M'.length : Int) = (m : Int)))]
    exact q H18
end
end K76

/-! ## K76End -/
namespace K76
open PySem L2 Evl
theorem all_mk {l : PySem.W.OpenLaw} {w : World} {K : PySem.W.Frag} {h : Heap} {mg : Str → Option Value} {fa : Addr} (X : K.In h) (G : h.Ns mainGlobals mg) (hfa : mg "law" = some (.ref fa))
    {f1 : Addr} {od1 an1 : Option Addr} {sl1 : Array (Option Value)} {oc1 kV1 dc1 pm1 cd1 ct1 : Value}
    {f2 : Addr} {od2 an2 : Option Addr} {sl2 : Array (Option Value)} {oc2 kV2 dc2 pm2 cd2 ct2 : Value}
    {f3 : Addr} {od3 an3 : Option Addr} {sl3 : Array (Option Value)} {oc3 kV3 dc3 pm3 cd3 ct3 : Value}
    {f4 : Addr} {od4 an4 : Option Addr} {sl4 : Array (Option Value)} {oc4 kV4 dc4 pm4 cd4 ct4 : Value}
    {f5 : Addr} {od5 an5 : Option Addr} {sl5 : Array (Option Value)} {oc5 kV5 dc5 pm5 cd5 ct5 : Value}
    {f6 : Addr} {od6 an6 : Option Addr} {sl6 : Array (Option Value)} {oc6 kV6 dc6 pm6 cd6 ct6 : Value}
    {f7 : Addr} {od7 an7 : Option Addr} {sl7 : Array (Option Value)} {oc7 kV7 dc7 pm7 cd7 ct7 : Value}
    {f8 : Addr} {od8 an8 : Option Addr} {sl8 : Array (Option Value)} {oc8 kV8 dc8 pm8 cd8 ct8 : Value}
    {f9 : Addr} {od9 an9 : Option Addr} {sl9 : Array (Option Value)} {oc9 kV9 dc9 pm9 cd9 ct9 : Value}
    {f10 : Addr} {od10 an10 : Option Addr} {sl10 : Array (Option Value)} {oc10 kV10 dc10 pm10 cd10 ct10 : Value}
    {f11 : Addr} {od11 an11 : Option Addr} {sl11 : Array (Option Value)} {oc11 kV11 dc11 pm11 cd11 ct11 : Value}
    {f12 : Addr} {od12 an12 : Option Addr} {sl12 : Array (Option Value)} {oc12 kV12 dc12 pm12 cd12 ct12 : Value}
    {f13 : Addr} {od13 an13 : Option Addr} {sl13 : Array (Option Value)} {oc13 kV13 dc13 pm13 cd13 ct13 : Value}
    {f14 : Addr} {od14 an14 : Option Addr} {sl14 : Array (Option Value)} {oc14 kV14 dc14 pm14 cd14 ct14 : Value}
    {f15 : Addr} {od15 an15 : Option Addr} {sl15 : Array (Option Value)} {oc15 kV15 dc15 pm15 cd15 ct15 : Value}
    {f16 : Addr} {od16 an16 : Option Addr} {sl16 : Array (Option Value)} {oc16 kV16 dc16 pm16 cd16 ct16 : Value}
    {f17 : Addr} {od17 an17 : Option Addr} {sl17 : Array (Option Value)} {oc17 kV17 dc17 pm17 cd17 ct17 : Value}
    {f18 : Addr} {od18 an18 : Option Addr} {sl18 : Array (Option Value)} {oc18 kV18 dc18 pm18 cd18 ct18 : Value}
    {f19 : Addr} {od19 an19 : Option Addr} {sl19 : Array (Option Value)} {oc19 kV19 dc19 pm19 cd19 ct19 : Value}
    {f20 : Addr} {od20 an20 : Option Addr} {sl20 : Array (Option Value)} {oc20 kV20 dc20 pm20 cd20 ct20 : Value}
    {mt : Tok}
    (a1 : PySem.W.nsIn K mainGlobals "is_in" = some (some (.ref f1))) (l1 : K.lookup f1 = some ⟨oc1, od1, .func (PySem.W.fnOf "is_in" "is_in" (defArgs sIsIn) (defBody sIsIn) (defScope sIsIn) .none kV1 dc1 pm1 an1 cd1 ct1), sl1⟩) (c1 : PySem.W.codeIn K cd1 "is_in" = true) (k1 : PySem.W.keepIn K (.ref f1) = true)
    (a2 : PySem.W.nsIn K mainGlobals "is_edge" = some (some (.ref f2))) (l2 : K.lookup f2 = some ⟨oc2, od2, .func (PySem.W.fnOf "is_edge" "is_edge" (defArgs sIsEdge) (defBody sIsEdge) (defScope sIsEdge) .none kV2 dc2 pm2 an2 cd2 ct2), sl2⟩) (c2 : PySem.W.codeIn K cd2 "is_edge" = true) (k2 : PySem.W.keepIn K (.ref f2) = true)
    (a3 : PySem.W.nsIn K mainGlobals "need_web" = some (some (.ref f3))) (l3 : K.lookup f3 = some ⟨oc3, od3, .func (PySem.W.fnOf "need_web" "need_web" (defArgs sNeedWeb) (defBody sNeedWeb) (defScope sNeedWeb) .none kV3 dc3 pm3 an3 cd3 ct3), sl3⟩) (c3 : PySem.W.codeIn K cd3 "need_web" = true) (k3 : PySem.W.keepIn K (.ref f3) = true)
    (a4 : PySem.W.nsIn K mainGlobals "later_in" = some (some (.ref f4))) (l4 : K.lookup f4 = some ⟨oc4, od4, .func (PySem.W.fnOf "later_in" "later_in" (defArgs sLaterIn) (defBody sLaterIn) (defScope sLaterIn) .none kV4 dc4 pm4 an4 cd4 ct4), sl4⟩) (c4 : PySem.W.codeIn K cd4 "later_in" = true) (k4 : PySem.W.keepIn K (.ref f4) = true)
    (a5 : PySem.W.nsIn K mainGlobals "is_open" = some (some (.ref f5))) (l5 : K.lookup f5 = some ⟨oc5, od5, .func (PySem.W.fnOf "is_open" "is_open" (defArgs sIsOpen) (defBody sIsOpen) (defScope sIsOpen) .none kV5 dc5 pm5 an5 cd5 ct5), sl5⟩) (c5 : PySem.W.codeIn K cd5 "is_open" = true) (k5 : PySem.W.keepIn K (.ref f5) = true)
    (a6 : PySem.W.nsIn K mainGlobals "need_way" = some (some (.ref f6))) (l6 : K.lookup f6 = some ⟨oc6, od6, .func (PySem.W.fnOf "need_way" "need_way" (defArgs sNeedWay) (defBody sNeedWay) (defScope sNeedWay) .none kV6 dc6 pm6 an6 cd6 ct6), sl6⟩) (c6 : PySem.W.codeIn K cd6 "need_way" = true) (k6 : PySem.W.keepIn K (.ref f6) = true)
    (a7 : PySem.W.nsIn K mainGlobals "need_webway" = some (some (.ref f7))) (l7 : K.lookup f7 = some ⟨oc7, od7, .func (PySem.W.fnOf "need_webway" "need_webway" (defArgs sNeedWebway) (defBody sNeedWebway) (defScope sNeedWebway) .none kV7 dc7 pm7 an7 cd7 ct7), sl7⟩) (c7 : PySem.W.codeIn K cd7 "need_webway" = true) (k7 : PySem.W.keepIn K (.ref f7) = true)
    (a8 : PySem.W.nsIn K mainGlobals "before_in" = some (some (.ref f8))) (l8 : K.lookup f8 = some ⟨oc8, od8, .func (PySem.W.fnOf "before_in" "before_in" (defArgs sBeforeIn) (defBody sBeforeIn) (defScope sBeforeIn) .none kV8 dc8 pm8 an8 cd8 ct8), sl8⟩) (c8 : PySem.W.codeIn K cd8 "before_in" = true) (k8 : PySem.W.keepIn K (.ref f8) = true)
    (a9 : PySem.W.nsIn K mainGlobals "need_openway" = some (some (.ref f9))) (l9 : K.lookup f9 = some ⟨oc9, od9, .func (PySem.W.fnOf "need_openway" "need_openway" (defArgs sNeedOpenway) (defBody sNeedOpenway) (defScope sNeedOpenway) .none kV9 dc9 pm9 an9 cd9 ct9), sl9⟩) (c9 : PySem.W.codeIn K cd9 "need_openway" = true) (k9 : PySem.W.keepIn K (.ref f9) = true)
    (a10 : PySem.W.nsIn K mainGlobals "widest_in" = some (some (.ref f10))) (l10 : K.lookup f10 = some ⟨oc10, od10, .func (PySem.W.fnOf "widest_in" "widest_in" (defArgs sWidestIn) (defBody sWidestIn) (defScope sWidestIn) .none kV10 dc10 pm10 an10 cd10 ct10), sl10⟩) (c10 : PySem.W.codeIn K cd10 "widest_in" = true) (k10 : PySem.W.keepIn K (.ref f10) = true)
    (a11 : PySem.W.nsIn K mainGlobals "widest" = some (some (.ref f11))) (l11 : K.lookup f11 = some ⟨oc11, od11, .func (PySem.W.fnOf "widest" "widest" (defArgs sWidest) (defBody sWidest) (defScope sWidest) .none kV11 dc11 pm11 an11 cd11 ct11), sl11⟩) (c11 : PySem.W.codeIn K cd11 "widest" = true) (k11 : PySem.W.keepIn K (.ref f11) = true)
    (a12 : PySem.W.nsIn K mainGlobals "grown" = some (some (.ref f12))) (l12 : K.lookup f12 = some ⟨oc12, od12, .func (PySem.W.fnOf "grown" "grown" (defArgs sGrown) (defBody sGrown) (defScope sGrown) .none kV12 dc12 pm12 an12 cd12 ct12), sl12⟩) (c12 : PySem.W.codeIn K cd12 "grown" = true) (k12 : PySem.W.keepIn K (.ref f12) = true)
    (a13 : PySem.W.nsIn K mainGlobals "lines_of" = some (some (.ref f13))) (l13 : K.lookup f13 = some ⟨oc13, od13, .func (PySem.W.fnOf "lines_of" "lines_of" (defArgs sLinesOf) (defBody sLinesOf) (defScope sLinesOf) .none kV13 dc13 pm13 an13 cd13 ct13), sl13⟩) (c13 : PySem.W.codeIn K cd13 "lines_of" = true) (k13 : PySem.W.keepIn K (.ref f13) = true)
    (a14 : PySem.W.nsIn K mainGlobals "_law_taken" = some (some (.ref f14))) (l14 : K.lookup f14 = some ⟨oc14, od14, .func (PySem.W.fnOf "_law_taken" "_law_taken" (defArgs sTaken) (defBody sTaken) (defScope sTaken) .none kV14 dc14 pm14 an14 cd14 ct14), sl14⟩) (c14 : PySem.W.codeIn K cd14 "_law_taken" = true) (k14 : PySem.W.keepIn K (.ref f14) = true)
    (a15 : PySem.W.nsIn K mainGlobals "_law_order" = some (some (.ref f15))) (l15 : K.lookup f15 = some ⟨oc15, od15, .func (PySem.W.fnOf "_law_order" "_law_order" (defArgs sOrder) (defBody sOrder) (defScope sOrder) .none kV15 dc15 pm15 an15 cd15 ct15), sl15⟩) (c15 : PySem.W.codeIn K cd15 "_law_order" = true) (k15 : PySem.W.keepIn K (.ref f15) = true)
    (a16 : PySem.W.nsIn K mainGlobals "_law_web" = some (some (.ref f16))) (l16 : K.lookup f16 = some ⟨oc16, od16, .func (PySem.W.fnOf "_law_web" "_law_web" (defArgs sWeb) (defBody sWeb) (defScope sWeb) .none kV16 dc16 pm16 an16 cd16 ct16), sl16⟩) (c16 : PySem.W.codeIn K cd16 "_law_web" = true) (k16 : PySem.W.keepIn K (.ref f16) = true)
    (a17 : PySem.W.nsIn K mainGlobals "_law_joined" = some (some (.ref f17))) (l17 : K.lookup f17 = some ⟨oc17, od17, .func (PySem.W.fnOf "_law_joined" "_law_joined" (defArgs sJoined) (defBody sJoined) (defScope sJoined) .none kV17 dc17 pm17 an17 cd17 ct17), sl17⟩) (c17 : PySem.W.codeIn K cd17 "_law_joined" = true) (k17 : PySem.W.keepIn K (.ref f17) = true)
    (a18 : PySem.W.nsIn K mainGlobals "_law_alike" = some (some (.ref f18))) (l18 : K.lookup f18 = some ⟨oc18, od18, .func (PySem.W.fnOf "_law_alike" "_law_alike" (defArgs sAlike) (defBody sAlike) (defScope sAlike) .none kV18 dc18 pm18 an18 cd18 ct18), sl18⟩) (c18 : PySem.W.codeIn K cd18 "_law_alike" = true) (k18 : PySem.W.keepIn K (.ref f18) = true)
    (a19 : PySem.W.nsIn K mainGlobals "_law_fewest" = some (some (.ref f19))) (l19 : K.lookup f19 = some ⟨oc19, od19, .func (PySem.W.fnOf "_law_fewest" "_law_fewest" (defArgs sFewest) (defBody sFewest) (defScope sFewest) .none kV19 dc19 pm19 an19 cd19 ct19), sl19⟩) (c19 : PySem.W.codeIn K cd19 "_law_fewest" = true) (k19 : PySem.W.keepIn K (.ref f19) = true)
    (a20 : PySem.W.nsIn K mainGlobals "law" = some (some (.ref f20))) (l20 : K.lookup f20 = some ⟨oc20, od20, .func (PySem.W.fnOf "law" "law" (defArgs sLaw) (defBody sLaw) (defScope sLaw) .none kV20 dc20 pm20 an20 cd20 ct20), sl20⟩) (c20 : PySem.W.codeIn K cd20 "law" = true) (k20 : PySem.W.keepIn K (.ref f20) = true)
    (mp : PySem.W.nsIn K mainGlobals "MOST_PLACES" = some (some (.int 9 mt)))
    (z_isi : PySem.W.nsIn K mainGlobals "isinstance" = some none)
    (z_int : PySem.W.nsIn K mainGlobals "int" = some none)
    (z_bool : PySem.W.nsIn K mainGlobals "bool" = some none)
    (z_tuple : PySem.W.nsIn K mainGlobals "tuple" = some none)
    (z_len : PySem.W.nsIn K mainGlobals "len" = some none)
    (z_enum : PySem.W.nsIn K mainGlobals "enumerate" = some none)
    (z_range : PySem.W.nsIn K mainGlobals "range" = some none)
    (z_zip : PySem.W.nsIn K mainGlobals "zip" = some none)
    (z_list : PySem.W.nsIn K mainGlobals "list" = some none)
    (z_sorted : PySem.W.nsIn K mainGlobals "sorted" = some none)
    (z_set : PySem.W.nsIn K mainGlobals "set" = some none)
    (z_max : PySem.W.nsIn K mainGlobals "max" = some none)
    (z_min : PySem.W.nsIn K mainGlobals "min" = some none)
    (z_str : PySem.W.nsIn K mainGlobals "str" = some none)
    : ∃ fd : FuncData, (∀ (s : Shared) (v : Value), BindsTo s fd ⟨[v], []⟩ [("_law_script", v)]) ∧ ∀ base : Heap, K.In base → base.Ns mainGlobals mg → FnOk l.prog w K mg base CX0 9 fa fd ["_law_script"] (spLaw K) := by
  have e := hfa.symm.trans (PySem.W.mg_of X G a20)
  cases e
  have T : Mg mg := ⟨PySem.W.mg_none_of X G z_isi, PySem.W.mg_none_of X G z_int, PySem.W.mg_none_of X G z_bool, PySem.W.mg_none_of X G z_tuple, PySem.W.mg_none_of X G z_len, PySem.W.mg_none_of X G z_enum, PySem.W.mg_none_of X G z_range, PySem.W.mg_none_of X G z_zip, PySem.W.mg_none_of X G z_list, PySem.W.mg_none_of X G z_sorted, PySem.W.mg_none_of X G z_set, PySem.W.mg_none_of X G z_max, PySem.W.mg_none_of X G z_min, PySem.W.mg_none_of X G z_str⟩
  have m9 := PySem.W.mg_of X G mp
  have F1 := fun_mk (st := sIsIn) l1 c1 k1
  have F2 := fun_mk (st := sIsEdge) l2 c2 k2
  have F3 := fun_mk (st := sNeedWeb) l3 c3 k3
  have F4 := fun_mk (st := sLaterIn) l4 c4 k4
  have F5 := fun_mk (st := sIsOpen) l5 c5 k5
  have F6 := fun_mk (st := sNeedWay) l6 c6 k6
  have F7 := fun_mk (st := sNeedWebway) l7 c7 k7
  have F8 := fun_mk (st := sBeforeIn) l8 c8 k8
  have F9 := fun_mk (st := sNeedOpenway) l9 c9 k9
  have F10 := fun_mk (st := sWidestIn) l10 c10 k10
  have F11 := fun_mk (st := sWidest) l11 c11 k11
  have F12 := fun_mk (st := sGrown) l12 c12 k12
  have F13 := fun_mk (st := sLinesOf) l13 c13 k13
  have F14 := fun_mk (st := sTaken) l14 c14 k14
  have F15 := fun_mk (st := sOrder) l15 c15 k15
  have F16 := fun_mk (st := sWeb) l16 c16 k16
  have F17 := fun_mk (st := sJoined) l17 c17 k17
  have F18 := fun_mk (st := sAlike) l18 c18 k18
  have F19 := fun_mk (st := sFewest) l19 c19 k19
  have F20 := fun_mk (st := sLaw) l20 c20 k20
  have b1 := F1.binds (ps := ["value", "least", "most"]) fun _ _ _ _ _ _ us hl => match us, hl with | [_, _, _], _ => rfl
  have b2 := F2.binds (ps := ["value", "many"]) fun _ _ _ _ _ _ us hl => match us, hl with | [_, _], _ => rfl
  have b3 := F3.binds (ps := ["web"]) fun _ _ _ _ _ _ us hl => match us, hl with | [_], _ => rfl
  have b4 := F4.binds (ps := ["web", "way"]) fun _ _ _ _ _ _ us hl => match us, hl with | [_, _], _ => rfl
  have b5 := F5.binds (ps := ["web", "way"]) fun _ _ _ _ _ _ us hl => match us, hl with | [_, _], _ => rfl
  have b6 := F6.binds (ps := ["web", "way"]) fun _ _ _ _ _ _ us hl => match us, hl with | [_, _], _ => rfl
  have b7 := F7.binds (ps := ["web", "way"]) fun _ _ _ _ _ _ us hl => match us, hl with | [_, _], _ => rfl
  have b8 := F8.binds (ps := ["web", "way"]) fun _ _ _ _ _ _ us hl => match us, hl with | [_, _], _ => rfl
  have b9 := F9.binds (ps := ["web", "way"]) fun _ _ _ _ _ _ us hl => match us, hl with | [_, _], _ => rfl
  have b10 := F10.binds (ps := ["before"]) fun _ _ _ _ _ _ us hl => match us, hl with | [_], _ => rfl
  have b11 := F11.binds (ps := ["web", "way"]) fun _ _ _ _ _ _ us hl => match us, hl with | [_, _], _ => rfl
  have b12 := F12.binds (ps := ["before", "mates", "place", "seen"]) fun _ _ _ _ _ _ us hl => match us, hl with | [_, _, _, _], _ => rfl
  have b13 := F13.binds (ps := ["web", "way"]) fun _ _ _ _ _ _ us hl => match us, hl with | [_, _], _ => rfl
  have b14 := F14.binds (ps := ["_law_row", "_law_many"]) fun _ _ _ _ _ _ us hl => match us, hl with | [_, _], _ => rfl
  have b15 := F15.binds (ps := ["_law_row", "_law_many"]) fun _ _ _ _ _ _ us hl => match us, hl with | [_, _], _ => rfl
  have b16 := F16.binds (ps := ["_law_row", "_law_most"]) fun _ _ _ _ _ _ us hl => match us, hl with | [_, _], _ => rfl
  have b17 := F17.binds (ps := ["_law_some"]) fun _ _ _ _ _ _ us hl => match us, hl with | [_], _ => rfl
  have b18 := F18.binds (ps := ["_law_found", "_law_due"]) fun _ _ _ _ _ _ us hl => match us, hl with | [_, _], _ => rfl
  have b19 := F19.binds (ps := ["_law_before", "_law_left", "_law_rows"]) fun _ _ _ _ _ _ us hl => match us, hl with | [_, _, _], _ => rfl
  refine ⟨PySem.W.fnOf "law" "law" (defArgs sLaw) (defBody sLaw) (defScope sLaw) .none kV20 dc20 pm20 an20 cd20 ct20, fun s v => .of_eq rfl, fun base _ _ => ?_⟩
  have D_is_in : Df l.prog w K mg base 1 "is_in" ["value", "least", "most"] spIsIn := ⟨f1, _, ok_isin T F1, b1, k1, PySem.W.mg_of X G a1⟩
  have D_is_edge : Df l.prog w K mg base 2 "is_edge" ["value", "many"] spIsEdge := ⟨f2, _, ok_isedge T F2 D_is_in, b2, k2, PySem.W.mg_of X G a2⟩
  have D_need_web : Df l.prog w K mg base 3 "need_web" ["web"] spNeedWeb := ⟨f3, _, ok_needweb T F3 D_is_in D_is_edge m9, b3, k3, PySem.W.mg_of X G a3⟩
  have D_later_in : Df l.prog w K mg base 1 "later_in" ["web", "way"] spLater := ⟨f4, _, ok_later T F4, b4, k4, PySem.W.mg_of X G a4⟩
  have D_is_open : Df l.prog w K mg base 2 "is_open" ["web", "way"] spOpen := ⟨f5, _, ok_open T F5 D_later_in, b5, k5, PySem.W.mg_of X G a5⟩
  have D_need_way : Df l.prog w K mg base 2 "need_way" ["web", "way"] spWay := ⟨f6, _, ok_needway T F6 D_is_in, b6, k6, PySem.W.mg_of X G a6⟩
  have D_need_webway : Df l.prog w K mg base 4 "need_webway" ["web", "way"] spWay := ⟨f7, _, ok_needwebway F7 D_need_web D_need_way, b7, k7, PySem.W.mg_of X G a7⟩
  have D_before_in : Df l.prog w K mg base 2 "before_in" ["web", "way"] spBefore := ⟨f8, _, ok_before T F8 D_later_in, b8, k8, PySem.W.mg_of X G a8⟩
  have D_need_openway : Df l.prog w K mg base 5 "need_openway" ["web", "way"] spOpenway := ⟨f9, _, ok_openway F9 D_need_webway D_is_open, b9, k9, PySem.W.mg_of X G a9⟩
  have D_widest_in : Df l.prog w K mg base 1 "widest_in" ["before"] spWidestIn := ⟨f10, _, ok_widestin T F10, b10, k10, PySem.W.mg_of X G a10⟩
  have D_widest : Df l.prog w K mg base 6 "widest" ["web", "way"] spWidest := ⟨f11, _, ok_widest F11 D_need_openway D_before_in D_widest_in, b11, k11, PySem.W.mg_of X G a11⟩
  have D_grown : Df l.prog w K mg base 7 "grown" ["before", "mates", "place", "seen"] (spGrown 7) := ⟨f12, _, all_grown T F12 b12 (PySem.W.mg_of X G a12) 7, b12, k12, PySem.W.mg_of X G a12⟩
  have D_lines_of : Df l.prog w K mg base 8 "lines_of" ["web", "way"] spLines := ⟨f13, _, ok_lines T F13 D_need_openway D_before_in D_grown, b13, k13, PySem.W.mg_of X G a13⟩
  have D__law_taken : Df l.prog w K mg base 1 "_law_taken" ["_law_row", "_law_many"] (spTaken K) := ⟨f14, _, ok_taken T F14, b14, k14, PySem.W.mg_of X G a14⟩
  have D__law_order : Df l.prog w K mg base 2 "_law_order" ["_law_row", "_law_many"] (spOrder K) := ⟨f15, _, ok_order T F15 D__law_taken, b15, k15, PySem.W.mg_of X G a15⟩
  have D__law_web : Df l.prog w K mg base 3 "_law_web" ["_law_row", "_law_most"] (spWebL K) := ⟨f16, _, ok_webl T F16 D__law_taken D__law_order, b16, k16, PySem.W.mg_of X G a16⟩
  have D__law_joined : Df l.prog w K mg base 1 "_law_joined" ["_law_some"] spJoined := ⟨f17, _, ok_joined T F17, b17, k17, PySem.W.mg_of X G a17⟩
  have D__law_alike : Df l.prog w K mg base 1 "_law_alike" ["_law_found", "_law_due"] spAlike := ⟨f18, _, ok_alike T F18, b18, k18, PySem.W.mg_of X G a18⟩
  have D__law_fewest : Df l.prog w K mg base 7 "_law_fewest" ["_law_before", "_law_left", "_law_rows"] (spFewest 7) := ⟨f19, _, all_fewest T F19 b19 (PySem.W.mg_of X G a19) 7, b19, k19, PySem.W.mg_of X G a19⟩
  exact ok_law T F20 D__law_web D__law_order D__law_joined D__law_alike D__law_fewest D_widest D_lines_of
theorem walk {l : PySem.W.OpenLaw} {q : Program} {loose : List Str} {XP : (Str → Option Value) → Heap → Prop} {YP : World → Heap → Prop} {d : DefRec} {K : Params → PySem.W.Frag} (hn : l.most = some 63) (hdf : d.params.defaults = [])
    (hY : ∀ (w : World) (h : Heap), YP w h → (K w.params).In h)
    (F : ∀ (w : World) (mg : Str → Option Value) (fa : Addr) (h : Heap), (K w.params).In h → h.Ns mainGlobals mg → mg d.name = some (.ref fa) →
      ∃ fd : FuncData, (∀ (s : Shared) (u : Value), BindsTo s fd ⟨[u], []⟩ [("_law_script", u)]) ∧ ∀ base : Heap, (K w.params).In base → base.Ns mainGlobals mg → FnOk l.prog w (K w.params) mg base CX0 9 fa fd ["_law_script"] (spLaw (K w.params))) :
    PySem.W.WalkO q loose XP YP l.row.toRowW d [] (fun f vs => PySem.call f vs) :=
  L2.walk_of (n := 63) (k := 9) (x := "_law_script") (CX := fun _ => CX0) (sp := fun w => spLaw (K w.params)) hn (by decide) hdf ⟨rfl, by decide, by decide⟩ hY F (fun _ _ a ns hl _ hS => ⟨a, ns, rfl, hS, hl, fun _ => rfl⟩) fun _ _ _ _ _ z => z
end K76
open PySem PySem.W PyProof.Rows
set_option maxRecDepth 100000 in
set_option maxHeartbeats 0 in
theorem PySem.Challenge.cw_cointakes_k76_whole_rows_of_places_holds : PySem.Challenge.rw_cointakes_k76_whole_rows_of_places.Holds := by
  w_on; o_law; k_head; (case hw => w_witness2)
  k_fill
  refine K76.walk (l := PySem.Challenge.rw_cointakes_k76_whole_rows_of_places) rfl rfl (fun w h Y => PySem.W.kIn_of Y) ?F
  case F =>
    intro w mg fa h KX G hmg
    refine' K76.all_mk KX G hmg ?a1 ?l1 ?c1 ?k1 ?a2 ?l2 ?c2 ?k2 ?a3 ?l3 ?c3 ?k3 ?a4 ?l4 ?c4 ?k4 ?a5 ?l5 ?c5 ?k5 ?a6 ?l6 ?c6 ?k6 ?a7 ?l7 ?c7 ?k7 ?a8 ?l8 ?c8 ?k8 ?a9 ?l9 ?c9 ?k9 ?a10 ?l10 ?c10 ?k10 ?a11 ?l11 ?c11 ?k11 ?a12 ?l12 ?c12 ?k12 ?a13 ?l13 ?c13 ?k13 ?a14 ?l14 ?c14 ?k14 ?a15 ?l15 ?c15 ?k15 ?a16 ?l16 ?c16 ?k16 ?a17 ?l17 ?c17 ?k17 ?a18 ?l18 ?c18 ?k18 ?a19 ?l19 ?c19 ?k19 ?a20 ?l20 ?c20 ?k20 ?mp ?z_isi ?z_int ?z_bool ?z_tuple ?z_len ?z_enum ?z_range ?z_zip ?z_list ?z_sorted ?z_set ?z_max ?z_min ?z_str
    (case a1 => k_is)
    (case l1 => k_is)
    (case c1 => k_is)
    (case k1 => k_is)
    (case a2 => k_is)
    (case l2 => k_is)
    (case c2 => k_is)
    (case k2 => k_is)
    (case a3 => k_is)
    (case l3 => k_is)
    (case c3 => k_is)
    (case k3 => k_is)
    (case a4 => k_is)
    (case l4 => k_is)
    (case c4 => k_is)
    (case k4 => k_is)
    (case a5 => k_is)
    (case l5 => k_is)
    (case c5 => k_is)
    (case k5 => k_is)
    (case a6 => k_is)
    (case l6 => k_is)
    (case c6 => k_is)
    (case k6 => k_is)
    (case a7 => k_is)
    (case l7 => k_is)
    (case c7 => k_is)
    (case k7 => k_is)
    (case a8 => k_is)
    (case l8 => k_is)
    (case c8 => k_is)
    (case k8 => k_is)
    (case a9 => k_is)
    (case l9 => k_is)
    (case c9 => k_is)
    (case k9 => k_is)
    (case a10 => k_is)
    (case l10 => k_is)
    (case c10 => k_is)
    (case k10 => k_is)
    (case a11 => k_is)
    (case l11 => k_is)
    (case c11 => k_is)
    (case k11 => k_is)
    (case a12 => k_is)
    (case l12 => k_is)
    (case c12 => k_is)
    (case k12 => k_is)
    (case a13 => k_is)
    (case l13 => k_is)
    (case c13 => k_is)
    (case k13 => k_is)
    (case a14 => k_is)
    (case l14 => k_is)
    (case c14 => k_is)
    (case k14 => k_is)
    (case a15 => k_is)
    (case l15 => k_is)
    (case c15 => k_is)
    (case k15 => k_is)
    (case a16 => k_is)
    (case l16 => k_is)
    (case c16 => k_is)
    (case k16 => k_is)
    (case a17 => k_is)
    (case l17 => k_is)
    (case c17 => k_is)
    (case k17 => k_is)
    (case a18 => k_is)
    (case l18 => k_is)
    (case c18 => k_is)
    (case k18 => k_is)
    (case a19 => k_is)
    (case l19 => k_is)
    (case c19 => k_is)
    (case k19 => k_is)
    (case a20 => k_is)
    (case l20 => k_is)
    (case c20 => k_is)
    (case k20 => k_is)
    (case mp => k_is)
    (case z_isi => k_is)
    (case z_int => k_is)
    (case z_bool => k_is)
    (case z_tuple => k_is)
    (case z_len => k_is)
    (case z_enum => k_is)
    (case z_range => k_is)
    (case z_zip => k_is)
    (case z_list => k_is)
    (case z_sorted => k_is)
    (case z_set => k_is)
    (case z_max => k_is)
    (case z_min => k_is)
    (case z_str => k_is)

