/-
  The assertions of this claim's own walk: what a running function owns of the heap, and what it may read. Plain definitions and theorems; no program in sight.
-/
import Derived.WalkKit
import Derived.Below
import Derived.Laws.AppendOwn
import Derived.Laws.OwnMore
import Derived.Laws.MakeOwn
import Derived.Deep.LoopGhost
set_option linter.unusedSectionVars false
set_option linter.unusedVariables false
set_option linter.unusedSimpArgs false
namespace Go.Tr

/-- A set of cells: block, offset. -/
abbrev Fp := Nat → Nat → Prop

def Same (w w' : World) (b o : Nat) : Prop :=
  w'.cell? ⟨b, o, none⟩ = w.cell? ⟨b, o, none⟩ ∧ w'.frozen? ⟨b, o, none⟩ = w.frozen? ⟨b, o, none⟩

/-- Two worlds agree on a set of cells; on a block of which all is in the set they agree whole. -/
structure Agree (w w' : World) (T : Fp) : Prop where
  cell : ∀ b o, T b o → Same w w' b o
  blk : ∀ b, (∀ o, T b o) → w'.heap[b]? = w.heap[b]?

theorem Same.refl (w : World) (b o : Nat) : Same w w b o := ⟨rfl, rfl⟩
theorem Same.trans {a b c : World} {k o : Nat} (h : Same a b k o) (h' : Same b c k o) : Same a c k o := ⟨h'.1.trans h.1, h'.2.trans h.2⟩
theorem Same.of_blk {w w' : World} {b : Nat} (h : w'.heap[b]? = w.heap[b]?) (o : Nat) : Same w w' b o := by
  unfold Same World.cell? World.frozen?
  simp only [h, and_self]
theorem Agree.refl (w : World) (T : Fp) : Agree w w T := ⟨fun _ _ _ => Same.refl _ _ _, fun _ _ => rfl⟩
theorem Agree.mono {w w' : World} {T T' : Fp} (h : Agree w w' T) (hs : ∀ b o, T' b o → T b o) : Agree w w' T' :=
  ⟨fun b o ht => h.cell b o (hs b o ht), fun b ht => h.blk b fun o => hs b o (ht o)⟩
theorem Agree.trans {a b c : World} {T : Fp} (h : Agree a b T) (h' : Agree b c T) : Agree a c T :=
  ⟨fun k o ht => (h.cell k o ht).trans (h'.cell k o ht), fun k ht => (h'.blk k ht).trans (h.blk k ht)⟩

/-- An assertion over a world, what is owned, and what may be read. -/
structure Assn where
  holds : World → Fp → Fp → Prop
  mono : ∀ {w S R S' R'}, holds w S R → (∀ b o, S b o → S' b o) → (∀ b o, R b o → R' b o) → holds w S' R'
  loc : ∀ {w w' S R}, holds w S R → Agree w w' (fun b o => S b o ∨ R b o) → holds w' S R

def emp : Assn := ⟨fun _ _ _ => True, fun _ _ _ => trivial, fun _ _ => trivial⟩

def star (A B : Assn) : Assn where
  holds w S R := ∃ S1 S2 : Fp, (∀ b o, S1 b o → S b o) ∧ (∀ b o, S2 b o → S b o) ∧ (∀ b o, S1 b o → S2 b o → False) ∧ A.holds w S1 R ∧ B.holds w S2 R
  mono := fun ⟨S1, S2, h1, h2, hd, ha, hb⟩ hS hR =>
    ⟨S1, S2, fun b o h => hS b o (h1 b o h), fun b o h => hS b o (h2 b o h), hd, A.mono ha (fun _ _ h => h) hR, B.mono hb (fun _ _ h => h) hR⟩
  loc := fun ⟨S1, S2, h1, h2, hd, ha, hb⟩ hg =>
    ⟨S1, S2, h1, h2, hd, A.loc ha (hg.mono fun b o h => h.imp (h1 b o) id), B.loc hb (hg.mono fun b o h => h.imp (h2 b o) id)⟩

def Assn.ex {α : Type} (A : α → Assn) : Assn where
  holds w S R := ∃ x, (A x).holds w S R
  mono := fun ⟨x, h⟩ hS hR => ⟨x, (A x).mono h hS hR⟩
  loc := fun ⟨x, h⟩ hg => ⟨x, (A x).loc h hg⟩

def Assn.pure (p : Prop) : Assn := ⟨fun _ _ _ => p, fun h _ _ => h, fun h _ => h⟩

def stars : List Assn → Assn
  | [] => emp
  | A :: L => star A (stars L)

/-- Whatever holds of one holds of the other. -/
def Ent (A B : Assn) : Prop := ∀ w S R, A.holds w S R → B.holds w S R
/-- What one owns lets the other be read. -/
def Ro (A B : Assn) : Prop := ∀ w S R, A.holds w S R → B.holds w (fun _ _ => False) (fun b o => R b o ∨ S b o)

theorem Ent.refl (A : Assn) : Ent A A := fun _ _ _ h => h
theorem Ent.trans {A B C : Assn} (h : Ent A B) (h' : Ent B C) : Ent A C := fun w S R x => h' w S R (h w S R x)
theorem Ent.star {A A' B B' : Assn} (h : Ent A A') (h' : Ent B B') : Ent (star A B) (star A' B') :=
  fun w S R ⟨S1, S2, h1, h2, hd, ha, hb⟩ => ⟨S1, S2, h1, h2, hd, h w S1 R ha, h' w S2 R hb⟩
theorem star_comm (A B : Assn) : Ent (star A B) (star B A) :=
  fun w S R ⟨S1, S2, h1, h2, hd, ha, hb⟩ => ⟨S2, S1, h2, h1, fun b o x y => hd b o y x, hb, ha⟩
theorem star_assoc (A B C : Assn) : Ent (star (star A B) C) (star A (star B C)) := by
  intro w S R ⟨S1, S2, h1, h2, hd, ⟨T1, T2, g1, g2, gd, ha, hb⟩, hc⟩
  refine ⟨T1, fun b o => T2 b o ∨ S2 b o, fun b o h => h1 b o (g1 b o h), ?_, ?_, ha, T2, S2, fun b o h => .inl h, fun b o h => .inr h, fun b o x y => hd b o (g2 b o x) y, hb, hc⟩
  · intro b o h; exact h.elim (fun h => h1 b o (g2 b o h)) (h2 b o)
  · intro b o x y; exact y.elim (gd b o x) (hd b o (g1 b o x))
theorem star_assoc' (A B C : Assn) : Ent (star A (star B C)) (star (star A B) C) := by
  intro w S R ⟨S1, S2, h1, h2, hd, ha, ⟨T1, T2, g1, g2, gd, hb, hc⟩⟩
  refine ⟨fun b o => S1 b o ∨ T1 b o, T2, ?_, fun b o h => h2 b o (g2 b o h), ?_, ⟨S1, T1, fun b o h => .inl h, fun b o h => .inr h, fun b o x y => hd b o x (g1 b o y), ha, hb⟩, hc⟩
  · intro b o h; exact h.elim (h1 b o) (fun h => h2 b o (g1 b o h))
  · intro b o x y; exact x.elim (fun x => hd b o x (g2 b o y)) (fun x => gd b o x y)
theorem star_left (A B C : Assn) : Ent (star A (star B C)) (star B (star A C)) :=
  (star_assoc' A B C).trans ((Ent.star (star_comm A B) (Ent.refl C)).trans (star_assoc B A C))
theorem emp_star (A : Assn) : Ent A (star emp A) :=
  fun w S R h => ⟨fun _ _ => False, S, fun _ _ h => h.elim, fun _ _ h => h, fun _ _ h _ => h, trivial, h⟩
theorem star_right (A B : Assn) : Ent (star A B) B :=
  fun w S R ⟨S1, S2, h1, h2, hd, ha, hb⟩ => B.mono hb h2 fun _ _ h => h
theorem star_fst (A B : Assn) : Ent (star A B) A :=
  fun w S R ⟨S1, S2, h1, h2, hd, ha, hb⟩ => A.mono ha h1 fun _ _ h => h

theorem stars_append (L M : List Assn) : Ent (stars (L ++ M)) (star (stars L) (stars M)) := by
  induction L with
  | nil => exact emp_star _
  | cons A L ih => exact (Ent.star (Ent.refl A) ih).trans (star_assoc' _ _ _)
theorem stars_append' (L M : List Assn) : Ent (star (stars L) (stars M)) (stars (L ++ M)) := by
  induction L with
  | nil => exact star_right _ _
  | cons A L ih => exact (star_assoc _ _ _).trans (Ent.star (Ent.refl A) ih)

/-- The i-th of a list, ahead of the others. -/
theorem stars_take : ∀ (L : List Assn) (i : Nat) (A : Assn), L[i]? = some A → Ent (stars L) (star A (stars (L.eraseIdx i)))
  | [], i, A, h => by simp at h
  | B :: L, 0, A, h => by simp at h; subst h; exact Ent.refl _
  | B :: L, i + 1, A, h => by
    have ih := stars_take L i A (by simpa using h)
    exact (Ent.star (Ent.refl B) ih).trans (star_left _ _ _)
/-- The i-th is put back, turned. -/
theorem stars_put : ∀ (L : List Assn) (i : Nat) (A B : Assn), L[i]? = some A → Ent (star B (stars (L.eraseIdx i))) (stars (L.set i B))
  | [], i, A, B, h => by simp at h
  | C :: L, 0, A, B, h => Ent.refl _
  | C :: L, i + 1, A, B, h => by
    have ih := stars_put L i A B (by simpa using h)
    exact (star_left _ _ _).trans (Ent.star (Ent.refl C) ih)

/-- Those at the places of `ix` (each place in what is left), ahead; then the rest. -/
def picks : List Nat → List Assn → Option (List Assn × List Assn)
  | [], L => some ([], L)
  | i :: ix, L =>
    match L[i]? with
    | none => none
    | some A => (picks ix (L.eraseIdx i)).map fun p => (A :: p.1, p.2)
/-- Places in the list as it is, turned into places in what is left. -/
def relx : Nat → List Nat → List Nat
  | 0, _ => []
  | _, [] => []
  | f + 1, i :: l => i :: relx f (l.map fun j => cond (Nat.blt i j) (Nat.pred j) j)
def rel (l : List Nat) : List Nat := relx l.length l
theorem picks_ent : ∀ (ix : List Nat) (L X Y : List Assn), picks ix L = some (X, Y) → Ent (stars L) (star (stars X) (stars Y))
  | [], L, X, Y, h => by
    simp [picks] at h
    obtain ⟨rfl, rfl⟩ := h
    exact emp_star _
  | i :: ix, L, X, Y, h => by
    simp only [picks] at h
    cases hA : L[i]? with
    | none => simp [hA] at h
    | some A =>
      simp only [hA, Option.map_eq_some_iff] at h
      obtain ⟨⟨X', Y'⟩, hp, he⟩ := h
      injection he with h1 h2
      subst h1; subst h2
      have ih := picks_ent ix (L.eraseIdx i) X' Y' hp
      exact (stars_take L i A hA).trans ((Ent.star (Ent.refl A) ih).trans (star_assoc' _ _ _))

/-! ### Cells, blocks, rows -/

/-- Cells one behind the other, owned. -/
def cells (b o : Nat) (vs : List Value) : Assn where
  holds w S R := ∀ i v, vs[i]? = some v → S b (o + i) ∧ w.cell? ⟨b, o + i, none⟩ = some v ∧ w.frozen? ⟨b, o + i, none⟩ = false
  mono := fun h hS _ i v hv => ⟨hS _ _ (h i v hv).1, (h i v hv).2⟩
  loc := fun h hg i v hv => by
    obtain ⟨h1, h2, h3⟩ := h i v hv
    have := hg.cell b (o + i) (.inl h1)
    exact ⟨h1, this.1.trans h2, this.2.trans h3⟩

/-- Cells one behind the other, that may be read. -/
def rcells (b o : Nat) (vs : List Value) : Assn where
  holds w S R := ∀ i v, vs[i]? = some v → R b (o + i) ∧ w.cell? ⟨b, o + i, none⟩ = some v
  mono := fun h _ hR i v hv => ⟨hR _ _ (h i v hv).1, (h i v hv).2⟩
  loc := fun h hg i v hv => by
    obtain ⟨h1, h2⟩ := h i v hv
    have := hg.cell b (o + i) (.inr h1)
    exact ⟨h1, this.1.trans h2⟩

/-- A whole block, owned. -/
def blk (b : Nat) (x : Obj) : Assn where
  holds w S R := (∀ o, S b o) ∧ w.heap[b]? = some x
  mono := fun h hS _ => ⟨fun o => hS _ _ (h.1 o), h.2⟩
  loc := fun h hg => ⟨h.1, (hg.blk b fun o => .inl (h.1 o)).trans h.2⟩

/-- A slice's value: where it begins (none: nil), length, capacity. -/
def rlv (A : Option Addr) (n c : Nat) : Value := .slice A n c
/-- How elements lie in memory: so many cells each. -/
structure Enc (T : Type) where
  sz : Nat
  pos : 0 < sz
  val : T → List Value
  len : ∀ x, (val x).length = sz
  one : ∀ x v, v ∈ val x → v.oneCell' = true

def Enc.flat {T : Type} (E : Enc T) (ys : List T) : List Value := ys.flatMap E.val

theorem Enc.flat_length {T : Type} (E : Enc T) : ∀ ys : List T, (E.flat ys).length = ys.length * E.sz
  | [] => by simp [Enc.flat]
  | y :: ys => by
    have ih := E.flat_length ys
    simp only [Enc.flat] at ih
    simp only [Enc.flat, List.flatMap_cons, List.length_append, E.len, List.length_cons, ih, Nat.add_mul, Nat.one_mul]
    omega
theorem Enc.flat_append {T : Type} (E : Enc T) (xs ys : List T) : E.flat (xs ++ ys) = E.flat xs ++ E.flat ys := by simp [Enc.flat]
theorem Enc.flat_get {T : Type} (E : Enc T) : ∀ (ys : List T) (i j : Nat) (y : T), ys[i]? = some y → j < E.sz → (E.flat ys)[i * E.sz + j]? = (E.val y)[j]?
  | [], i, j, y, h, hj => by simp at h
  | x :: ys, 0, j, y, h, hj => by
    simp at h; subst h
    simp only [Enc.flat, List.flatMap_cons, Nat.zero_mul, Nat.zero_add]
    rw [List.getElem?_append_left (by rw [E.len]; exact hj)]
  | x :: ys, i + 1, j, y, h, hj => by
    have ih := E.flat_get ys i j y (by simpa using h) hj
    simp only [Enc.flat] at ih
    simp only [Enc.flat, List.flatMap_cons]
    rw [List.getElem?_append_right (by rw [E.len, Nat.add_mul]; omega), E.len, show (i + 1) * E.sz + j - E.sz = i * E.sz + j by rw [Nat.add_mul]; omega]
    exact ih
theorem Enc.flat_cons {T : Type} (E : Enc T) (y : T) (ys : List T) : E.flat (y :: ys) = E.val y ++ E.flat ys := rfl
theorem Enc.flat_take {T : Type} (E : Enc T) : ∀ (ys : List T) (k : Nat), E.flat (ys.take k) = (E.flat ys).take (k * E.sz)
  | [], k => by simp [Enc.flat]
  | y :: ys, 0 => by simp [Enc.flat]
  | y :: ys, k + 1 => by
    rw [List.take_succ_cons, E.flat_cons, E.flat_cons, E.flat_take ys k, show (k + 1) * E.sz = (E.val y).length + k * E.sz by rw [E.len, Nat.add_mul]; omega, List.take_length_add_append]
theorem Enc.flat_drop {T : Type} (E : Enc T) : ∀ (ys : List T) (k : Nat), E.flat (ys.drop k) = (E.flat ys).drop (k * E.sz)
  | [], k => by simp [Enc.flat]
  | y :: ys, 0 => by simp [Enc.flat]
  | y :: ys, k + 1 => by
    rw [List.drop_succ_cons, E.flat_cons, E.flat_drop ys k, show (k + 1) * E.sz = (E.val y).length + k * E.sz by rw [E.len, Nat.add_mul]; omega, List.drop_length_add_append]
theorem Enc.flat_set {T : Type} (E : Enc T) : ∀ (ys : List T) (i j : Nat) (y y' : T) (v : Value), ys[i]? = some y → j < E.sz → E.val y' = (E.val y).set j v →
    E.flat (ys.set i y') = (E.flat ys).set (i * E.sz + j) v
  | [], i, j, y, y', v, h, hj, hv => by simp at h
  | x :: ys, 0, j, y, y', v, h, hj, hv => by
    simp at h; subst h
    simp only [Enc.flat, List.set_cons_zero, List.flatMap_cons, Nat.zero_mul, Nat.zero_add, hv]
    rw [List.set_append_left _ _ (by rw [E.len]; exact hj)]
  | x :: ys, i + 1, j, y, y', v, h, hj, hv => by
    have ih := E.flat_set ys i j y y' v (by simpa using h) hj hv
    simp only [Enc.flat] at ih
    simp only [Enc.flat, List.set_cons_succ, List.flatMap_cons, ih]
    rw [List.set_append_right _ _ (by rw [E.len, Nat.add_mul]; omega), E.len, show (i + 1) * E.sz + j - E.sz = i * E.sz + j by rw [Nat.add_mul]; omega]

/-- A row of elements that is owned, its block whole, with whatever capacity: it may be appended to. Where it begins (none: nil), its capacity. -/
def ownl {T : Type} (E : Enc T) (e : TypeId) (A : Option Addr) (c : Nat) (ys : List T) : Assn where
  holds w S R := (ys = [] ∧ c = 0) ∨ ∃ b o cur, A = some ⟨b, o, none⟩ ∧ (∀ k, S b k) ∧ w.heap[b]? = some (.cells cur e (0, 0)) ∧ ys.length ≤ c ∧ c ≤ maxLen ∧ o + c * E.sz ≤ cur.size ∧ (cur.toList.drop o).take (ys.length * E.sz) = E.flat ys
  mono := fun h hS _ => h.imp id fun ⟨b, o, cur, h1, h2, h3⟩ => ⟨b, o, cur, h1, fun k => hS _ _ (h2 k), h3⟩
  loc := fun {w w' S R} h hg => h.imp id fun ⟨b, o, cur, h1, h2, h3, h4⟩ => ⟨b, o, cur, h1, h2, (hg.blk b fun k => .inl (h2 k)).trans h3, h4⟩

/-- A row of elements that may be read: where it begins (anything, if it is empty). -/
def rdl {T : Type} (E : Enc T) (A : Option Addr) (ys : List T) : Assn where
  holds w S R := ys.length ≤ 9223372036854775807 ∧ (ys ≠ [] → ∃ p : Nat × Nat, A = some ⟨p.1, p.2, none⟩ ∧ ∀ k v, (E.flat ys)[k]? = some v → R p.1 (p.2 + k) ∧ w.cell? ⟨p.1, p.2 + k, none⟩ = some v)
  mono := fun h _ hR => ⟨h.1, fun hn => by
    obtain ⟨p, hp, hc⟩ := h.2 hn
    exact ⟨p, hp, fun k v hv => ⟨hR _ _ (hc k v hv).1, (hc k v hv).2⟩⟩⟩
  loc := fun h hg => ⟨h.1, fun hn => by
    obtain ⟨p, hp, hc⟩ := h.2 hn
    exact ⟨p, hp, fun k v hv => ⟨(hc k v hv).1, (hg.cell _ _ (.inr (hc k v hv).1)).1.trans (hc k v hv).2⟩⟩⟩

theorem addr_add (b o n : Nat) : (⟨b, o, none⟩ : Addr).add n = ⟨b, o + n, none⟩ := by
  unfold Addr.add; split
  · subst_vars; rfl
  · rfl

theorem ownl_cell {T : Type} {E : Enc T} {e : TypeId} {A : Option Addr} {c : Nat} {ys : List T} {w : World} {S R : Fp} (h : (ownl E e A c ys).holds w S R)
    {k : Nat} {v : Value} (hv : (E.flat ys)[k]? = some v) : ∃ b o, A = some ⟨b, o, none⟩ ∧ S b (o + k) ∧ w.cell? ⟨b, o + k, none⟩ = some v ∧ w.frozen? ⟨b, o + k, none⟩ = false := by
  have hlen : k < (E.flat ys).length := (List.getElem?_eq_some_iff.1 hv).1
  rcases h with ⟨rfl, _⟩ | ⟨b, o, cur, hA, hS, hh, hnc, hcm, hcs, ht⟩
  · simp [Enc.flat] at hv
  · refine ⟨b, o, hA, hS _, ?_, by simp [World.frozen?, hh]⟩
    rw [cell_of_row w b (o + k) cur e (0, 0) hh]
    rw [← ht, List.getElem?_take] at hv
    split at hv
    · simpa using hv
    · cases hv

theorem ownl_len {T : Type} {E : Enc T} {e : TypeId} {A : Option Addr} {c : Nat} {ys : List T} {w : World} {S R : Fp} (h : (ownl E e A c ys).holds w S R) : ys.length ≤ 9223372036854775807 := by
  rcases h with ⟨rfl, _⟩ | ⟨b, o, cur, hA, hS, hh, hnc, hcm, hcs, ht⟩
  · simp
  · simp only [maxLen] at hcm; omega
theorem ownl_cap {T : Type} {E : Enc T} {e : TypeId} {A : Option Addr} {c : Nat} {ys : List T} {w : World} {S R : Fp} (h : (ownl E e A c ys).holds w S R) : ys.length ≤ c ∧ c ≤ 9223372036854775807 := by
  rcases h with ⟨rfl, rfl⟩ | ⟨b, o, cur, hA, hS, hh, hnc, hcm, hcs, ht⟩
  · simp
  · simp only [maxLen] at hcm; omega
/-- A shorter row, of less capacity. -/
theorem ownl_cut {T : Type} (E : Enc T) (e : TypeId) (A : Option Addr) (c c' : Nat) (ys : List T) (k : Nat) (hk : k ≤ ys.length) (h1 : k ≤ c') (h2 : c' ≤ c) : Ent (ownl E e A c ys) (ownl E e A c' (ys.take k)) := by
  intro w S R h
  rcases h with ⟨rfl, rfl⟩ | ⟨b, o, cur, hA, hS, hh, hnc, hcm, hcs, ht⟩
  · exact .inl ⟨by simp, by omega⟩
  · refine .inr ⟨b, o, cur, hA, hS, hh, by simp; omega, by omega, by have := Nat.mul_le_mul_right E.sz h2; omega, ?_⟩
    rw [E.flat_take, ← ht, List.take_take, List.length_take, Nat.min_eq_left hk, Nat.min_eq_left (Nat.mul_le_mul_right _ hk)]
/-- The row from its k-th element on. -/
theorem ownl_tail {T : Type} (E : Enc T) (e : TypeId) (b o : Nat) (c : Nat) (ys : List T) (k : Nat) (hk : k ≤ ys.length) : Ent (ownl E e (some ⟨b, o, none⟩) c ys) (ownl E e (some ⟨b, o + k * E.sz, none⟩) (c - k) (ys.drop k)) := by
  intro w S R h
  rcases h with ⟨rfl, rfl⟩ | ⟨b', o', cur, hA, hS, hh, hnc, hcm, hcs, ht⟩
  · exact .inl ⟨by simp, by omega⟩
  · injection hA with hA
    injection hA with h1 h2
    subst h1; subst h2
    have hm : (c - k) * E.sz + k * E.sz = c * E.sz := by rw [← Nat.add_mul, Nat.sub_add_cancel (by omega)]
    refine .inr ⟨b, o + k * E.sz, cur, rfl, hS, hh, by simp; omega, by omega, by omega, ?_⟩
    rw [E.flat_drop, ← ht, List.drop_take, List.length_drop, List.drop_drop, Nat.sub_mul]

/-- What is owned as a row may be lent as a row that is read. -/
theorem ownl_ro {T : Type} (E : Enc T) (e : TypeId) (A : Option Addr) (c : Nat) (ys : List T) : Ro (ownl E e A c ys) (rdl E A ys) := by
  intro w S R h
  refine ⟨ownl_len h, fun hn => ?_⟩
  rcases h with ⟨rfl, _⟩ | hh
  · exact absurd rfl hn
  · obtain ⟨b, o, cur, hA, hr⟩ := hh
    refine ⟨(b, o), hA, fun k v hv => ?_⟩
    obtain ⟨b', o', hA', hs, hc, _⟩ := ownl_cell (E := E) (e := e) (c := c) (S := S) (R := R) (.inr ⟨b, o, cur, hA, hr⟩) hv
    rw [hA] at hA'
    injection hA' with hA'
    injection hA' with h1 h2
    subst h1; subst h2
    exact ⟨.inr hs, hc⟩
/-- A part of a row that is read is a row that is read. -/
theorem rdl_part {T : Type} (E : Enc T) (b o : Nat) (ys : List T) (k m : Nat) (hk : k ≤ ys.length) : Ent (rdl E (some ⟨b, o, none⟩) ys) (rdl E (some ⟨b, o + k * E.sz, none⟩) ((ys.drop k).take m)) := by
  intro w S R h
  refine ⟨by have := h.1; simp; omega, fun hn => ?_⟩
  have hne : ys ≠ [] := by intro e; subst e; simp at hn
  obtain ⟨p, hp, hc⟩ := h.2 hne
  injection hp with hp
  injection hp with e1 e2
  subst e1; subst e2
  refine ⟨(p.1, p.2 + k * E.sz), rfl, fun i v hv => ?_⟩
  have hv' : (E.flat ys)[k * E.sz + i]? = some v := by
    rw [E.flat_take, E.flat_drop] at hv
    rw [List.getElem?_take] at hv
    split at hv
    · rwa [List.getElem?_drop] at hv
    · cases hv
  have := hc (k * E.sz + i) v hv'
  simp only at this ⊢
  rw [Nat.add_assoc]
  exact this

theorem rdl_ro {T : Type} (E : Enc T) (A : Option Addr) (ys : List T) : Ro (rdl E A ys) (rdl E A ys) := by
  intro w S R h
  refine ⟨h.1, fun hn => ?_⟩
  obtain ⟨p, hp, hc⟩ := h.2 hn
  exact ⟨p, hp, fun k v hv => ⟨.inl (hc k v hv).1, (hc k v hv).2⟩⟩
theorem cells_ro (b o : Nat) (vs : List Value) : Ro (cells b o vs) (rcells b o vs) := fun w S R h i v hv => ⟨.inr (h i v hv).1, (h i v hv).2.1⟩

/-- Many of a kind. -/
def many {α : Type} (A : α → Assn) (l : List α) : Assn := stars (l.map A)
theorem eraseIdx_map {α β : Type} (f : α → β) : ∀ (l : List α) (i : Nat), (l.map f).eraseIdx i = (l.eraseIdx i).map f
  | [], i => by simp
  | x :: l, 0 => by simp
  | x :: l, i + 1 => by simp [eraseIdx_map f l i]
theorem many_take {α : Type} (A : α → Assn) {l : List α} {i : Nat} {x : α} (h : l[i]? = some x) : Ent (many A l) (star (A x) (many A (l.eraseIdx i))) := by
  have := stars_take (l.map A) i (A x) (by simp [h])
  rwa [eraseIdx_map] at this
theorem many_put {α : Type} (A : α → Assn) {l : List α} {i : Nat} {x : α} (y : α) (h : l[i]? = some x) : Ent (star (A y) (many A (l.eraseIdx i))) (many A (l.set i y)) := by
  have := stars_put (l.map A) i (A x) (A y) (by simp [h])
  rwa [eraseIdx_map, ← List.map_set] at this
theorem many_snoc {α : Type} (A : α → Assn) (l : List α) (y : α) : Ent (star (A y) (many A l)) (many A (l ++ [y])) := by
  have h2 := stars_append' (l.map A) [A y]
  have h1 : Ent (A y) (stars [A y]) := fun w S R h => ⟨S, fun _ _ => False, fun _ _ x => x, fun _ _ x => x.elim, fun _ _ _ x => x, h, trivial⟩
  have h3 := (star_comm (A y) (many A l)).trans ((Ent.star (Ent.refl (many A l)) h1).trans h2)
  simpa [many] using h3
theorem many_nil {α : Type} (A : α → Assn) (B : Assn) : Ent B (many A []) := fun _ _ _ _ => trivial
/-- A cell that is told. -/
def Tells (L : List Assn) (b o : Nat) (v : Value) : Prop := ∀ w S R, (stars L).holds w S R → w.cell? ⟨b, o, none⟩ = some v
def Tell (A : Assn) (b o : Nat) (v : Value) : Prop := ∀ w S R, A.holds w S R → w.cell? ⟨b, o, none⟩ = some v
theorem Tells.of {L : List Assn} (i : Nat) {A : Assn} (hi : L[i]? = some A) {b o : Nat} {v : Value} (h : Tell A b o v) : Tells L b o v := by
  intro w S R hL
  obtain ⟨S1, S2, _, _, _, ha, _⟩ := stars_take L i A hi w S R hL
  exact h w S1 R ha
theorem Tell.many {α : Type} {A : α → Assn} {l : List α} {i : Nat} {x : α} (h : l[i]? = some x) {b o : Nat} {v : Value} (ht : Tell (A x) b o v) : Tell (many A l) b o v := by
  intro w S R hL
  obtain ⟨S1, S2, _, _, _, ha, _⟩ := many_take A h w S R hL
  exact ht w S1 R ha
theorem Tell.ex {α : Type} {A : α → Assn} {b o : Nat} {v : Value} (h : ∀ x, Tell (A x) b o v) : Tell (Assn.ex A) b o v := fun w S R ⟨x, hx⟩ => h x w S R hx
theorem Tell.stars {L : List Assn} {b o : Nat} {v : Value} (h : Tells L b o v) : Tell (stars L) b o v := h
theorem Tell.cells {b o : Nat} (j : Nat) {vs : List Value} {v : Value} (hj : vs[j]? = some v) {o' : Nat} (ho : o' = o + j) : Tell (cells b o vs) b o' v := fun w S R h => by subst ho; exact (h j v hj).2.1

theorem rcells_ro (b o : Nat) (vs : List Value) : Ro (rcells b o vs) (rcells b o vs) := fun w S R h i v hv => ⟨.inl (h i v hv).1, (h i v hv).2⟩
theorem Ro.emp (A : Assn) : Ro A emp := fun _ _ _ _ => trivial
/-- Lending out of a list: each is read off one of it. -/
theorem Ro.cons {L M : List Assn} {B : Assn} (i : Nat) {A : Assn} (hi : L[i]? = some A) (h : Ro A B) (hM : Ro (stars L) (stars M)) : Ro (stars L) (stars (B :: M)) := by
  intro w S R hL
  obtain ⟨S1, S2, h1, h2, hd, ha, hb⟩ := stars_take L i A hi w S R hL
  exact ⟨fun _ _ => False, fun _ _ => False, fun _ _ h => h, fun _ _ h => h, fun _ _ h _ => h,
    B.mono (h w S1 R ha) (fun _ _ h => h) (fun b o h => h.imp id (h1 b o)), hM w S R hL⟩
theorem Ro.nil (L : List Assn) : Ro (stars L) (stars []) := fun _ _ _ _ => trivial

end Go.Tr
