/-
  Locks as they lie in memory, and what the table's methods make of them; keys of maps.
-/
import Derived.Test.YtllhegccpknncaaMdl
import Derived.Test.YtllhegccpknncaaSeat
set_option linter.unusedVariables false
set_option linter.unusedSimpArgs false
set_option linter.unusedSectionVars false
set_option maxRecDepth 8000
namespace Go.Tr
abbrev keyLock (p : Int × Int) : Value := .agg #[.int .i64 p.1, .int .i64 p.2]
abbrev LT := List ((Int × Int) × Bool)
def LAt (b o : Nat) (t : LT) : Assn := .ex fun (A : Option Nat) => stars [cells b o [.map A], mapl keyLock Value.bool A t]
instance (b o : Nat) (t : LT) : Excl (LAt b o t) := by unfold LAt; infer_instance
theorem LAt_mk (b o : Nat) (t : LT) (A : Option Nat) : Ent (stars [cells b o [.map A], mapl keyLock Value.bool A t]) (LAt b o t) := fun _ _ _ h => ⟨A, h⟩
theorem St.openL {w0 : World} {S0 R : Fp} {N : Nat} {sl : List (Nat × Value)} {L : List Assn} {a : Act} {w : World} {b o : Nat} {t : LT} (h : St w0 S0 R N sl L a w) (i : Nat) (hi : L[i]? = some (LAt b o t)) :
    ∃ A, St w0 S0 R N sl (cells b o [.map A] :: mapl keyLock Value.bool A t :: L.eraseIdx i) a w := by
  obtain ⟨A, h⟩ := St.open_ h i hi
  exact ⟨A, h.turn 0 rfl (Ls := [cells b o [.map A], mapl keyLock Value.bool A t]) (Ent.refl _)⟩
/-- Is a lock of another's in the way? -/
def clashP (owner key : Int) (hard : Bool) (p : (Int × Int) × Bool) : Prop := p.1.1 = key ∧ p.1.2 ≠ owner ∧ (p.2 = true ∨ hard = true)
instance (owner key : Int) (hard : Bool) (p : (Int × Int) × Bool) : Decidable (clashP owner key hard p) := by unfold clashP; infer_instance
def wasL (t : LT) (owner key : Int) : Bool := (getM (key, owner) t).getD false
def takeL (t : LT) (owner key : Int) (alone : Bool) : Int × LT :=
  if t.any fun p => decide (clashP owner key (alone || wasL t owner key) p) then (120, t)
  else if (getM (key, owner) t).isNone ∧ 64 ≤ t.length then (5, t)
  else (0, putM (key, owner) (wasL t owner key || alone) t)
theorem takeL_err {t : LT} {owner key : Int} {alone : Bool} (h : (takeL t owner key alone).1 ≠ 0) : (takeL t owner key alone).2 = t := by
  unfold takeL at h ⊢
  split
  · rfl
  · rename_i h1
    rw [if_neg h1] at h
    split
    · rfl
    · rename_i h2; rw [if_neg h2] at h; exact absurd rfl h
def dropL (t : LT) (owner : Int) : LT := t.filter fun p => !decide (p.1.2 = owner)
end Go.Tr
namespace Go.Proofs.Ytllhegccpknncaa
open Go.Tr
instance : KeyOk Try.prog 3 (K := Int) (Value.int .i64) := KeyOk.int Try.underlying3
instance : KeyOk Try.prog 158 keyLock := KeyOk.two Try.stoodInHeld158 Try.underlying158 rfl rfl rfl rfl Try.underlying3 Try.underlying3 Try.isAgg3 Try.isAgg3 Try.sizeOf3 Try.sizeOf3
end Go.Proofs.Ytllhegccpknncaa
