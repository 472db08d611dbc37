/-
  The store of keys as it lies in memory, and what its methods make of it.
-/
import Derived.Test.YtllhegccpknncaaLmd
import Derived.Test.YtllhegccpknncaaQmd
import Derived.Test.YtllhegccpknncaaSlit
set_option linter.unusedVariables false
set_option linter.unusedSimpArgs false
set_option linter.unusedSectionVars false
set_option maxRecDepth 8000
namespace Go.Tr
open Go.Proofs.Ytllhegccpknncaa in
/-- Where the first change of a key stands; -1: nowhere. -/
def atK (l : List Ch) (key : Int) : Int := firstI (fun c => decide (c.key = key)) l 0
structure KW where
  list : List Ch
  prep : Bool
abbrev ptrV (p : Nat) : Value := .pointer (some ⟨p, 0, none⟩)
def KWAt (e : TypeId) (p : Nat × KW) : Assn := .ex fun (gc : Option Addr × Nat) => stars [cells p.1 0 [rlv gc.1 p.2.list.length gc.2, .bool p.2.prep], ownl encCh e gc.1 gc.2 p.2.list]
instance (e : TypeId) (p : Nat × KW) : Excl (KWAt e p) := by unfold KWAt; infer_instance
theorem KWAt_mk (e : TypeId) (b : Nat) (l : List Ch) (p : Bool) (A : Option Addr) (c : Nat) : Ent (stars [cells b 0 [rlv A l.length c, .bool p], ownl encCh e A c l]) (KWAt e (b, ⟨l, p⟩)) := fun _ _ _ h => ⟨(A, c), h⟩
theorem KWAt_tell1 (e : TypeId) (p : Nat × KW) : Tell (KWAt e p) p.1 1 (.bool p.2.prep) := Tell.ex fun _ => Tell.stars (Tells.of 0 rfl (Tell.cells 1 rfl rfl))
structure KM where
  vals : List Int
  there : List Bool
  works : List (Int × KW)
  locks : LT
def KeysOk (l : List Ch) : Prop := (∀ c ∈ l, 0 ≤ c.key ∧ c.key < 16) ∧ (l.map Ch.key).Nodup
structure KM.Good (s : KM) : Prop where
  vals : s.vals.length = 16
  there : s.there.length = 16
  lists : ∀ w ∈ s.works, KeysOk w.2.list
  locks : s.locks.length ≤ 64
theorem nodup_len : ∀ (n : Nat) (l : List Int), l.Nodup → (∀ x ∈ l, 0 ≤ x ∧ x < n) → l.length ≤ n
  | 0, [], _, _ => Nat.le_refl _
  | 0, x :: l, _, h => by have := h x (List.mem_cons_self ..); omega
  | n + 1, l, hn, h => by
    have h1 := nodup_len n (l.erase (n : Int)) (hn.erase _) fun x hx => by
      have h2 := (hn.mem_erase_iff).1 hx
      have := h x h2.2
      omega
    rw [List.length_erase] at h1
    split at h1 <;> omega
theorem KeysOk.len {l : List Ch} (h : KeysOk l) : l.length ≤ 16 := by
  have := nodup_len 16 (l.map Ch.key) h.2 (by simpa using h.1)
  simpa using this
theorem KM.Good.locks' {s : KM} (h : s.Good) : s.locks.length < 1000000 := Nat.lt_of_le_of_lt h.locks (by decide)
theorem KM.Good.len {s : KM} (h : s.Good) {n : Int} {kw : KW} (hm : (n, kw) ∈ s.works) : kw.list.length < 1000000 := Nat.lt_of_le_of_lt (h.lists _ hm).len (by decide)
abbrev KWs := List (Int × Nat × KW)
def KWs.ptrs (ws : KWs) : List (Int × Nat) := ws.map fun x => (x.1, x.2.1)
def KWs.works (ws : KWs) : List (Int × KW) := ws.map fun x => (x.1, x.2.2)
def KWs.ps (ws : KWs) : List (Nat × KW) := ws.map fun x => x.2
theorem getM_map {K V W : Type} [DecidableEq K] (f : V → W) (x : K) : ∀ l : List (K × V), getM x (l.map fun p => (p.1, f p.2)) = (getM x l).map f
  | [] => rfl
  | p :: l => by simp only [List.map_cons, getM]; split <;> simp [getM_map f x l]
theorem getM_ptrs (ws : KWs) (n : Int) : getM n ws.ptrs = (getM n ws).map Prod.fst := getM_map (fun (x : Nat × KW) => x.1) n ws
theorem getM_works (ws : KWs) (n : Int) : getM n ws.works = (getM n ws).map Prod.snd := getM_map (fun (x : Nat × KW) => x.2) n ws
theorem getM_idx {K V : Type} [DecidableEq K] {x : K} {v : V} : ∀ {l : List (K × V)}, getM x l = some v → ∃ i : Nat, l[i]? = some (x, v) ∧ ∀ u, putM x u l = l.set i (x, u)
  | [], h => by simp [getM] at h
  | p :: l, h => by
    simp only [getM] at h
    split at h
    · rename_i e; injection h with h; subst h; subst e
      exact ⟨0, rfl, fun u => by simp [putM]⟩
    · rename_i hne
      obtain ⟨i, h1, h2⟩ := getM_idx h
      exact ⟨i + 1, by simpa using h1, fun u => by simp [putM, hne, h2 u]⟩
def KAt (b o : Nat) (s : KM) : Assn := .ex fun (x : Option Nat × KWs) =>
  stars [.pure (x.2.works = s.works), cells b o (s.vals.map (Value.int .u64)), cells b (o + 16) (s.there.map Value.bool), cells b (o + 32) [.map x.1], mapl (Value.int .i64) ptrV x.1 x.2.ptrs, many (KWAt 80) x.2.ps, LAt b (o + 33) s.locks]
instance (b o : Nat) (s : KM) : Excl (KAt b o s) := by unfold KAt; infer_instance
section
variable {w0 : World} {S0 R : Fp} {N : Nat} {sl : List (Nat × Value)} {L : List Assn} {a : Act} {w : World}
theorem St.openK {b o : Nat} {s : KM} (h : St w0 S0 R N sl L a w) (i : Nat) (hi : L[i]? = some (KAt b o s)) : ∃ (A : Option Nat) (ws : KWs), ws.works = s.works ∧ St w0 S0 R N sl
    (cells b o (s.vals.map (Value.int .u64)) :: cells b (o + 16) (s.there.map Value.bool) :: cells b (o + 32) [.map A] :: mapl (Value.int .i64) ptrV A ws.ptrs :: many (KWAt 80) ws.ps :: LAt b (o + 33) s.locks :: L.eraseIdx i) a w := by
  obtain ⟨⟨A, ws⟩, h⟩ := St.open_ h i hi
  have h := h.turn 0 rfl (Ls := [.pure (ws.works = s.works), cells b o (s.vals.map (Value.int .u64)), cells b (o + 16) (s.there.map Value.bool), cells b (o + 32) [.map A], mapl (Value.int .i64) ptrV A ws.ptrs, many (KWAt 80) ws.ps, LAt b (o + 33) s.locks]) (Ent.refl _)
  exact ⟨A, ws, h.tell1 0 rfl fun _ _ _ x => x, h.drop 0⟩
theorem KAt_mk {b o : Nat} {s : KM} (A : Option Nat) (ws : KWs) (hw : ws.works = s.works) :
    Ent (stars [cells b o (s.vals.map (Value.int .u64)), cells b (o + 16) (s.there.map Value.bool), cells b (o + 32) [.map A], mapl (Value.int .i64) ptrV A ws.ptrs, many (KWAt 80) ws.ps, LAt b (o + 33) s.locks]) (KAt b o s) :=
  fun _ S _ h => ⟨(A, ws), fun _ _ => False, S, fun _ _ x => x.elim, fun _ _ x => x, fun _ _ x => x.elim, hw, h⟩
theorem St.openKW {e : TypeId} {p : Nat × KW} (h : St w0 S0 R N sl L a w) (i : Nat) (hi : L[i]? = some (KWAt e p)) :
    ∃ A c, St w0 S0 R N sl (cells p.1 0 [rlv A p.2.list.length c, .bool p.2.prep] :: ownl encCh e A c p.2.list :: L.eraseIdx i) a w := by
  obtain ⟨⟨A, c⟩, h⟩ := St.open_ h i hi
  exact ⟨A, c, h.turn 0 rfl (Ls := [cells p.1 0 [rlv A p.2.list.length c, .bool p.2.prep], ownl encCh e A c p.2.list]) (Ent.refl _)⟩
end
/-- The store, opened. -/
def KOpen (b o : Nat) (s : KM) (A : Option Nat) (ws : KWs) : List Assn :=
  [cells b o (s.vals.map (Value.int .u64)), cells b (o + 16) (s.there.map Value.bool), cells b (o + 32) [.map A], mapl (Value.int .i64) ptrV A ws.ptrs, many (KWAt 80) ws.ps, LAt b (o + 33) s.locks]
theorem KWs.get {ws : KWs} {n : Int} {p : Nat} {w : KW} (h : getM n ws = some (p, w)) : ∃ i : Nat, ws.ps[i]? = some (p, w) ∧ getM n ws.ptrs = some p ∧ getM n ws.works = some w ∧ (∀ w' : KW, ws.ps.set i (p, w') = KWs.ps (putM n (p, w') ws)) ∧
    (∀ w' : KW, KWs.works (putM n (p, w') ws) = putM n w' ws.works) ∧ ∀ w' : KW, KWs.ptrs (putM n (p, w') ws) = ws.ptrs := by
  obtain ⟨i, hi, hp⟩ := getM_idx h
  obtain ⟨j, hj, hq⟩ := getM_idx (x := n) (l := ws.works) (v := w) (by rw [getM_works, h]; rfl)
  have hw : ∀ (l : KWs) (x : Int) (u : Nat × KW), (putM x u l).map (fun y => (y.1, y.2.2)) = putM x u.2 (l.map fun y => (y.1, y.2.2)) := fun l x u => by
    induction l with
    | nil => rfl
    | cons y l ih => simp only [putM, List.map_cons]; split <;> simp [ih]
  refine ⟨i, by simp [KWs.ps, hi], by rw [getM_ptrs, h]; rfl, by rw [getM_works, h]; rfl, fun w' => ?_, fun w' => hw ws n (p, w'), fun w' => ?_⟩
  · rw [KWs.ps, KWs.ps, hp, List.map_set]
  · rw [KWs.ptrs, KWs.ptrs, hp, List.map_set]
    refine List.ext_getElem? fun k => ?_
    rw [List.getElem?_set]
    split
    · rename_i e; subst e
      rw [List.getElem?_map, hi, List.length_map, if_pos (List.getElem?_eq_some_iff.1 hi).1]
      rfl
    · rfl
theorem KWs.put_new {ws : KWs} {n : Int} (h : getM n ws = none) (p : Nat) (w : KW) : KWs.ptrs (ws ++ [(n, p, w)]) = putM n p ws.ptrs ∧ KWs.works (ws ++ [(n, p, w)]) = putM n w ws.works ∧ KWs.ps (ws ++ [(n, p, w)]) = ws.ps ++ [(p, w)] ∧ getM n (ws ++ [(n, p, w)]) = some (p, w) := by
  have key : ∀ {V : Type} (l : List (Int × V)) (u : V), getM n l = none → putM n u l = l ++ [(n, u)] ∧ getM n (l ++ [(n, u)]) = some u := fun l u => by
    induction l with
    | nil => intro _; simp [putM, getM]
    | cons y l ih =>
      intro h
      simp only [getM] at h
      split at h
      · cases h
      · rename_i hne
        have := ih h
        simp [putM, getM, hne, this]
  refine ⟨?_, ?_, by simp [KWs.ps], (key ws _ h).2⟩
  · rw [(key ws.ptrs p (by rw [getM_ptrs, h]; rfl)).1]; simp [KWs.ptrs]
  · rw [(key ws.works w (by rw [getM_works, h]; rfl)).1]; simp [KWs.works]
theorem delM_map {V W : Type} (f : V → W) (n : Int) : ∀ l : List (Int × V), delM n (l.map fun y => (y.1, f y.2)) = (delM n l).map fun y => (y.1, f y.2)
  | [] => rfl
  | y :: l => by simp only [delM, List.map_cons]; split <;> simp [delM_map f n l]
theorem KWs.del (ws : KWs) (n : Int) : delM n ws.ptrs = KWs.ptrs (delM n ws) ∧ delM n ws.works = KWs.works (delM n ws) := ⟨delM_map (fun (x : Nat × KW) => x.1) n ws, delM_map (fun (x : Nat × KW) => x.2) n ws⟩
theorem many_sub {α : Type} (A : α → Assn) {l m : List α} (h : l.Sublist m) : Ent (many A m) (many A l) := by
  induction h with
  | slnil => exact Ent.refl _
  | cons x h ih => exact (star_right _ _).trans ih
  | cons_cons x h ih => exact Ent.star (Ent.refl _) ih
theorem delM_sub {V : Type} (n : Int) : ∀ l : List (Int × V), (delM n l).Sublist l
  | [] => .slnil
  | y :: l => by
    simp only [delM]; split
    · exact List.sublist_cons_self ..
    · exact (delM_sub n l).cons_cons y
theorem KWs.del_ent (e : TypeId) (ws : KWs) (n : Int) : Ent (many (KWAt e) ws.ps) (many (KWAt e) (KWs.ps (delM n ws))) := many_sub _ ((delM_sub n ws).map _)
def putC (l : List Ch) (c : Ch) : List Ch := if 0 ≤ atK l c.key then l.set (atK l c.key).toNat c else l ++ [c]
def touchK (s : KM) (n key : Int) (alone : Bool) : Int × KM :=
  if n < 1 ∨ key < 0 ∨ 16 ≤ key then (1, s)
  else if (match getM n s.works with | some w => w.prep | none => false) then (7, s)
  else match takeL s.locks n key alone with
    | (e, t) => if e ≠ 0 then (e, s) else (0, { s with locks := t, works := if (getM n s.works).isSome then s.works else putM n ⟨[], false⟩ s.works })
def goneK (s : KM) (n : Int) : KM := { s with locks := dropL s.locks n, works := delM n s.works }
def changeK (s : KM) (n : Int) (c : Ch) : Int × KM :=
  match touchK s n c.key true with
  | (e, s') => if e ≠ 0 then (e, s) else (0, { s' with works := match getM n s'.works with
    | some w => putM n { w with list := putC w.list c } s'.works
    | none => s'.works })
def getK (s : KM) (n key : Int) : Int × Bool × Int × KM :=
  match touchK s n key false with
  | (e, s') => if e ≠ 0 then (0, false, e, s) else
    match getM n s'.works with
    | some w => match (if 0 ≤ atK w.list key then w.list[(atK w.list key).toNat]? else none) with
      | some c => (c.val, decide (c.kind = 1), 0, s')
      | none => (s.vals.getD key.toNat 0, s.there.getD key.toNat false, 0, s')
    | none => (0, false, 0, s')
def valueK (s : KM) (key : Int) : Int × Bool := if key < 0 ∨ 16 ≤ key then (0, false) else (s.vals.getD key.toNat 0, s.there.getD key.toNat false)
def prepK (s : KM) (n : Int) : Int × List Ch × KM :=
  if n < 1 then (1, [], s) else
    match getM n s.works with
    | some w => if w.prep then (7, [], s) else if w.list = [] then (0, [], goneK s n) else (0, w.list, { s with works := putM n { w with prep := true } s.works })
    | none => (0, [], goneK s n)
def applyK : List Ch → List Int → List Bool → List Int × List Bool
  | [], vs, ts => (vs, ts)
  | c :: l, vs, ts => applyK l (vs.set c.key.toNat c.val) (ts.set c.key.toNat (decide (c.kind = 1)))
def commitK (s : KM) (n : Int) : Int × KM :=
  if n < 1 then (1, s) else
    match getM n s.works with
    | some w => (0, goneK { s with vals := (applyK w.list s.vals s.there).1, there := (applyK w.list s.vals s.there).2 } n)
    | none => (0, goneK s n)
def backK (s : KM) (n : Int) : Int × KM := if n < 1 then (1, s) else (0, goneK s n)
def rightK : List Ch → List Bool → Bool
  | [], _ => true
  | c :: l, seen =>
    if (c.kind ≠ 1 ∧ (c.kind ≠ 2 ∨ c.val ≠ 0)) ∨ c.key < 0 ∨ 16 ≤ c.key ∨ seen.getD c.key.toNat false = true then false
    else rightK l (seen.set c.key.toNat true)
def takesK (n : Int) : List Ch → LT → Int × LT
  | [], t => (0, t)
  | c :: l, t => match takeL t n c.key true with
    | (e, t') => if e ≠ 0 then (e, dropL t' n) else takesK n l t'
def restK (s : KM) (n : Int) (l : List Ch) : Int × KM :=
  if n < 1 then (1, s)
  else if rightK l (List.replicate 16 false) = false then (1, s)
  else if (getM n s.works).isSome then (7, s)
  else match takesK n l s.locks with
    | (e, t) => if e ≠ 0 then (e, { s with locks := t }) else (0, { s with locks := t, works := if l = [] then s.works else putM n ⟨l, true⟩ s.works })
end Go.Tr
