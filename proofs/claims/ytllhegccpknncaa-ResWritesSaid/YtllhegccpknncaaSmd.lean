/-
  The resources as they lie in memory, and what their methods make of them.
-/
import Derived.Test.YtllhegccpknncaaKmd
set_option linter.unusedVariables false
set_option linter.unusedSimpArgs false
set_option linter.unusedSectionVars false
set_option maxRecDepth 8000
namespace Go.Tr
open Go.Proofs.Ytllhegccpknncaa
structure SM where
  k : KM
  q : QM
  p0 : List (Int × Bool)
  p1 : List (Int × Bool)
def SAt (b : Nat) (s : SM) : Assn := .ex fun (x : Option Nat × Option Nat) =>
  stars [KAt b 0 s.k, QAt b 34 s.q, cells b 37 [.map x.1, .map x.2], mapl (Value.int .i64) Value.bool x.1 s.p0, mapl (Value.int .i64) Value.bool x.2 s.p1]
instance (b : Nat) (s : SM) : Excl (SAt b s) := by unfold SAt; infer_instance
section
variable {w0 : World} {S0 R : Fp} {N : Nat} {sl : List (Nat × Value)} {L : List Assn} {a : Act} {w : World}
theorem St.gift (h : St w0 S0 R N sl L a w) (A : Assn) (hf : ∀ w R, A.holds w (fun _ _ => False) R) : St w0 S0 R N sl (A :: L) a w :=
  h.ent fun w S R hL => ⟨fun _ _ => False, S, fun _ _ x => x.elim, fun _ _ x => x, fun _ _ x _ => x, hf w R, hL⟩
theorem St.parts (h : St w0 S0 R N sl L a w) (i b off : Nat) (us vs : List Value) (hi : L[i]? = some (cells b off (us ++ vs))) : St w0 S0 R N sl (cells b off us :: cells b (off + us.length) vs :: L.eraseIdx i) a w :=
  h.turn i hi (cells_split b off us vs)
theorem St.openS {b : Nat} {s : SM} (h : St w0 S0 R N sl L a w) (i : Nat) (hi : L[i]? = some (SAt b s)) : ∃ (A0 A1 : Option Nat), St w0 S0 R N sl
    (KAt b 0 s.k :: QAt b 34 s.q :: cells b 37 [.map A0, .map A1] :: mapl (Value.int .i64) Value.bool A0 s.p0 :: mapl (Value.int .i64) Value.bool A1 s.p1 :: L.eraseIdx i) a w := by
  obtain ⟨⟨A0, A1⟩, h⟩ := St.open_ h i hi
  exact ⟨A0, A1, h.turn 0 rfl (Ls := [KAt b 0 s.k, QAt b 34 s.q, cells b 37 [.map A0, .map A1], mapl (Value.int .i64) Value.bool A0 s.p0, mapl (Value.int .i64) Value.bool A1 s.p1]) (Ent.refl _)⟩
end
theorem SAt_mk {b : Nat} (s : SM) (A0 A1 : Option Nat) : Ent (stars [KAt b 0 s.k, QAt b 34 s.q, cells b 37 [.map A0, .map A1], mapl (Value.int .i64) Value.bool A0 s.p0, mapl (Value.int .i64) Value.bool A1 s.p1]) (SAt b s) := fun _ _ _ h => ⟨(A0, A1), h⟩
def inP (n : Int) (p : List (Int × Bool)) : Bool := (getM n p).getD false
def fitS (s : SM) (n : Int) : Int := if n < 1 then 1 else if inP n s.p0 || inP n s.p1 then 7 else 0
def markP (n : Int) (l : List Ch) (p : List (Int × Bool)) : List (Int × Bool) := if l = [] then p else putM n true p
def SM.new : SM := ⟨⟨List.replicate 16 0, List.replicate 16 false, [], []⟩, ⟨[], [], 0⟩, [], []⟩
def putS (s : SM) (n key val : Int) : Int × SM := if fitS s n ≠ 0 then (fitS s n, s) else ((changeK s.k n ⟨1, key, val⟩).1, { s with k := (changeK s.k n ⟨1, key, val⟩).2 })
def delS (s : SM) (n key : Int) : Int × SM := if fitS s n ≠ 0 then (fitS s n, s) else ((changeK s.k n ⟨2, key, 0⟩).1, { s with k := (changeK s.k n ⟨2, key, 0⟩).2 })
def getS (s : SM) (n key : Int) : Int × Bool × Int × SM := if fitS s n ≠ 0 then (0, false, fitS s n, s) else ((getK s.k n key).1, (getK s.k n key).2.1, (getK s.k n key).2.2.1, { s with k := (getK s.k n key).2.2.2 })
def pushS (s : SM) (n val : Int) : Int × SM := if fitS s n ≠ 0 then (fitS s n, s) else ((putQ s.q n val).1, { s with q := (putQ s.q n val).2 })
def prepS (s : SM) (n : Int) : Int × List Ch × SM := if fitS s n ≠ 0 then (fitS s n, [], s) else
  (0, (prepK s.k n).2.1 ++ (prepQ s.q n).2.1, ⟨(prepK s.k n).2.2, (prepQ s.q n).2.2, markP n (prepK s.k n).2.1 s.p0, markP n (prepQ s.q n).2.1 s.p1⟩)
end Go.Tr
