/-
  How the program's data lie in memory: changes, and the queue's works.
-/
import Derived.Test.YtllhegccpknncaaSlf
set_option linter.unusedVariables false
set_option linter.unusedSimpArgs false
set_option linter.unusedSectionVars false
namespace Go.Tr

/-- api.Change -/
structure Ch where
  kind : Int
  key : Int
  val : Int
  deriving DecidableEq

def encCh : Enc Ch where
  sz := 3
  pos := by decide
  val c := [.int .i64 c.kind, .int .i64 c.key, .int .u64 c.val]
  len _ := rfl
  one _ v h := by simp at h; rcases h with rfl | rfl | rfl <;> rfl
def encPtr : Enc Nat where
  sz := 1
  pos := by decide
  val b := [.pointer (some ⟨b, 0, none⟩)]
  len _ := rfl
  one _ v h := by simp at h; subst h; rfl
def encU64 : Enc Int where
  sz := 1
  pos := by decide
  val b := [.int .u64 b]
  len _ := rfl
  one _ v h := by simp at h; subst h; rfl
def encI64 : Enc Int where
  sz := 1
  pos := by decide
  val b := [.int .i64 b]
  len _ := rfl
  one _ v h := by simp at h; subst h; rfl
def encU8 : Enc Int where
  sz := 1
  pos := by decide
  val b := [.int .u8 b]
  len _ := rfl
  one _ v h := by simp at h; subst h; rfl

/-- queue.work, and trothref14.Work -/
structure QW where
  n : Int
  list : List Ch
  prep : Bool

def WAt (e : TypeId) (p : Nat × QW) : Assn := .ex fun (gc : Option Addr × Nat) => stars [cells p.1 0 [.int .i64 p.2.n, rlv gc.1 p.2.list.length gc.2, .bool p.2.prep], ownl encCh e gc.1 gc.2 p.2.list]
instance (e : TypeId) (p : Nat × QW) : Excl (WAt e p) := by unfold WAt; infer_instance
theorem WAt_mk (e : TypeId) (b : Nat) (n : Int) (l : List Ch) (p : Bool) (A : Option Addr) (c : Nat) : Ent (stars [cells b 0 [.int .i64 n, rlv A l.length c, .bool p], ownl encCh e A c l]) (WAt e (b, ⟨n, l, p⟩)) :=
  fun _ _ _ h => ⟨(A, c), h⟩
theorem St.openW {w0 : World} {S0 R : Fp} {N : Nat} {sl : List (Nat × Value)} {L : List Assn} {a : Act} {w : World} {e : TypeId} {p : Nat × QW} (h : St w0 S0 R N sl L a w) (i : Nat) (hi : L[i]? = some (WAt e p)) :
    ∃ A c, St w0 S0 R N sl (cells p.1 0 [.int .i64 p.2.n, rlv A p.2.list.length c, .bool p.2.prep] :: ownl encCh e A c p.2.list :: L.eraseIdx i) a w := by
  obtain ⟨⟨A, c⟩, h⟩ := St.open_ h i hi
  exact ⟨A, c, h.turn 0 rfl (Ls := [cells p.1 0 [.int .i64 p.2.n, rlv A p.2.list.length c, .bool p.2.prep], ownl encCh e A c p.2.list]) (Ent.refl _)⟩

/-- A work's number is read. -/
def WRd (p : Nat × QW) : Assn := rcells p.1 0 [.int .i64 p.2.n]
theorem WRd_ro (p : Nat × QW) : Ro (WRd p) (WRd p) := rcells_ro _ _ _
theorem WAt_rd (e : TypeId) (p : Nat × QW) : Ro (WAt e p) (WRd p) := by
  rintro w S R ⟨⟨A, c⟩, S1, S2, h1, h2, hd, ha, hb⟩
  intro i v hi
  obtain ⟨rfl, rfl⟩ : i = 0 ∧ v = .int .i64 p.2.n := by
    cases i with
    | zero => simpa using hi.symm
    | succ i => simp at hi
  obtain ⟨x, y, _⟩ := ha 0 _ rfl
  exact ⟨.inr (h1 _ _ x), y⟩
theorem many_filter {α : Type} (A : α → Assn) (p : α → Bool) : ∀ l : List α, Ent (many A l) (many A (l.filter p))
  | [] => Ent.refl _
  | x :: l => fun w S R ⟨S1, S2, h1, h2, hd, ha, hb⟩ => by
    have ih := many_filter A p l w S2 R hb
    cases hp : p x with
    | true => rw [List.filter_cons_of_pos hp]; exact ⟨S1, S2, h1, h2, hd, ha, ih⟩
    | false => rw [List.filter_cons_of_neg (by simp [hp])]; exact (many A _).mono ih h2 fun _ _ x => x
theorem map_set_same {α β : Type} (f : α → β) {l : List α} {i : Nat} {x : α} (y : α) (hi : l[i]? = some x) (hf : f y = f x) : (l.set i y).map f = l.map f := by
  refine List.ext_getElem? fun j => ?_
  rw [List.getElem?_map, List.getElem?_map, List.getElem?_set]
  by_cases hij : i = j
  · subst hij
    obtain ⟨h1, h2⟩ := List.getElem?_eq_some_iff.1 hi
    simp [h1, hf, h2]
  · simp [hij]

/-- The first work that bears a number. -/
def findW (n : Int) : List (Nat × QW) → Option Nat
  | [] => none
  | p :: l => if p.2.n = n then some p.1 else findW n l

theorem drop_cons {α : Type} {l : List α} {i : Nat} {x : α} (h : l[i]? = some x) : l.drop i = x :: l.drop (i + 1) := by
  obtain ⟨h1, rfl⟩ := List.getElem?_eq_some_iff.1 h
  exact List.drop_eq_getElem_cons h1
end Go.Tr
