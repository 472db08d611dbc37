/-
  The document's queue as it lies in memory.
-/
import Derived.Test.YtllhegccpknncaaQe
set_option linter.unusedVariables false
set_option linter.unusedSimpArgs false
set_option linter.unusedSectionVars false
namespace Go.Tr

structure RI where
  num : Int
  val : Int
def encRI : Enc RI where
  sz := 2
  pos := by decide
  val x := [.int .i64 x.num, .int .u64 x.val]
  len _ := rfl
  one _ v h := by simp at h; rcases h with rfl | rfl <;> rfl
structure RM where
  items : List RI
  works : List QW
  given : Int
structure RM.Good (q : RM) : Prop where
  items : q.items.length < 1000000000
  works : q.works.length < 1000000000
  lists : ∀ w ∈ q.works, w.list.length < 1000000
  lo : 0 ≤ q.given
  hi : q.given ≤ 4611686018427387904
def RAt (b o : Nat) (q : RM) : Assn := .ex fun (x : (Option Addr × Nat) × (Option Addr × Nat) × List (Nat × QW)) =>
  stars [.pure (x.2.2.map Prod.snd = q.works), cells b o [rlv x.1.1 q.items.length x.1.2, rlv x.2.1.1 x.2.2.length x.2.1.2, .int .i64 q.given],
    ownl encRI 131 x.1.1 x.1.2 q.items, ownl encPtr 133 x.2.1.1 x.2.1.2 (x.2.2.map Prod.fst), many (WAt 80) x.2.2]
instance (b o : Nat) (q : RM) : Excl (RAt b o q) := by unfold RAt; infer_instance
section
variable {w0 : World} {S0 R : Fp} {N : Nat} {sl : List (Nat × Value)} {L : List Assn} {a : Act} {w : World}
theorem St.openR {b o : Nat} {q : RM} (h : St w0 S0 R N sl L a w) (i : Nat) (hi : L[i]? = some (RAt b o q)) : ∃ gi ci gw cw ws, ws.map Prod.snd = q.works ∧ St w0 S0 R N sl
    (cells b o [rlv gi q.items.length ci, rlv gw ws.length cw, .int .i64 q.given] :: ownl encRI 131 gi ci q.items :: ownl encPtr 133 gw cw (ws.map Prod.fst) :: many (WAt 80) ws :: L.eraseIdx i) a w := by
  obtain ⟨⟨⟨gi, ci⟩, ⟨gw, cw⟩, ws⟩, h⟩ := St.open_ h i hi
  have h := h.turn 0 rfl (Ls := [.pure (ws.map Prod.snd = q.works), cells b o [rlv gi q.items.length ci, rlv gw ws.length cw, .int .i64 q.given], ownl encRI 131 gi ci q.items, ownl encPtr 133 gw cw (ws.map Prod.fst), many (WAt 80) ws]) (Ent.refl _)
  exact ⟨gi, ci, gw, cw, ws, h.tell1 0 rfl fun _ _ _ x => x, h.drop 0⟩
theorem St.openN {b o : Nat} {items : List RI} {works : List QW} {given : Int} (h : St w0 S0 R N sl L a w) (i : Nat) (hi : L[i]? = some (RAt b o ⟨items, works, given⟩)) : ∃ gi ci gw cw ws, ws.map Prod.snd = works ∧ St w0 S0 R N sl
    (cells b o [rlv gi items.length ci, rlv gw ws.length cw, .int .i64 given] :: ownl encRI 131 gi ci items :: ownl encPtr 133 gw cw (ws.map Prod.fst) :: many (WAt 80) ws :: L.eraseIdx i) a w := h.openR i hi
theorem RAt_mk {b o : Nat} {q : RM} (gi : Option Addr) (ci : Nat) (gw : Option Addr) (cw : Nat) (ws : List (Nat × QW)) (hw : ws.map Prod.snd = q.works) :
    Ent (stars [cells b o [rlv gi q.items.length ci, rlv gw ws.length cw, .int .i64 q.given], ownl encRI 131 gi ci q.items, ownl encPtr 133 gw cw (ws.map Prod.fst), many (WAt 80) ws]) (RAt b o q) :=
  fun _ S _ h => ⟨((gi, ci), (gw, cw), ws), fun _ _ => False, S, fun _ _ x => x.elim, fun _ _ x => x, fun _ _ x => x.elim, hw, h⟩
end
theorem RM.Good.lens {q : RM} (hq : q.Good) {ws : List (Nat × QW)} (hw : ws.map Prod.snd = q.works) : ws.length < 1000000000 ∧ ∀ p ∈ ws, p.2.list.length < 1000000000 := by
  refine ⟨by have := hq.works; rw [← hw] at this; simpa using this, fun p hp => ?_⟩
  have := hq.lists p.2 (by rw [← hw]; exact List.mem_map_of_mem hp)
  omega
def roomR (q : RM) : Int := min (16 - q.items.length - putsAll q.works) (4611686018427387904 - (q.given + 1) - putsAll q.works)
def mayR (q : RM) (n : Int) : Int := if n < 1 then 1 else match findQ n q.works with
  | some w => if w.prep then 7 else 0
  | none => 0
def putR (q : RM) (n v : Int) : Int × RM := if mayR q n ≠ 0 then (mayR q n, q) else if roomR q ≤ 0 then (5, q) else (0, { q with works := noteM n ⟨3, 0, v⟩ q.works })
theorem W_back (e : TypeId) {ws : List (Nat × QW)} {i : Nat} {p : Nat × QW} (hp : ws[i]? = some p) (g : Option Addr) (c : Nat) :
    Ent (stars [cells p.1 0 [.int .i64 p.2.n, rlv g p.2.list.length c, .bool p.2.prep], ownl encCh e g c p.2.list, many (WAt e) (ws.eraseIdx i)]) (many (WAt e) ws) := by
  intro w S R ⟨S1, S2, h1, h2, hd, ha, T1, T2, h3, h4, hd2, hb, hc⟩
  have hs : ws.set i p = ws := by
    obtain ⟨h1, rfl⟩ := List.getElem?_eq_some_iff.1 hp
    exact List.set_getElem_self h1
  have hw : (WAt e p).holds w (fun b o => S1 b o ∨ T1 b o) R := WAt_mk e p.1 p.2.n p.2.list p.2.prep g c w _ R ⟨S1, T1, fun _ _ x => .inl x, fun _ _ x => .inr x, fun b o x y => hd b o x (h3 b o y), ha, ⟨T1, fun _ _ => False, fun _ _ x => x, fun _ _ x => x.elim, fun _ _ _ x => x, hb, trivial⟩⟩
  have := many_putL (WAt e) p hp w S R ⟨fun b o => S1 b o ∨ T1 b o, T2, fun b o x => x.elim (h1 b o) fun y => h2 b o (h3 b o y), fun b o x => h2 b o (h4 b o x), fun b o x y => x.elim (fun z => hd b o z (h4 b o y)) fun z => hd2 b o z y, hw, hc⟩
  rwa [hs] at this
def hasTake (x : Int) : List Ch → Bool
  | [] => false
  | c :: l => if c.kind = 4 ∧ c.key = x then true else hasTake x l
def takerR (x : Int) : List QW → Int
  | [] => 0
  | w :: l => if hasTake x w.list then w.n else takerR x l
def dropR (q : RM) (n : Int) : RM := { q with works := q.works.filter fun x => !decide (x.n = n) }
def backR (q : RM) (n : Int) : Int × RM := if n < 1 then (1, q) else (0, dropR q n)
def prepR (q : RM) (n : Int) : Int × List Ch × RM :=
  if mayR q n ≠ 0 then (mayR q n, [], q) else
    match findQ n q.works with
    | none => (0, [], q)
    | some w => (0, w.list, { q with works := updW n prepW q.works })
def takeG (ws : List QW) (n : Int) : List RI → Int × Option RI
  | [] => (140, none)
  | x :: l => if takerR x.num ws = n then takeG ws n l else if takerR x.num ws ≠ 0 then (120, none) else (0, some x)
def takeR (q : RM) (n : Int) : Int × Int × RM :=
  if mayR q n ≠ 0 then (0, mayR q n, q) else
    match takeG q.works n q.items with
    | (e, none) => (0, e, q)
    | (e, some x) => (x.val, e, { q with works := noteM n ⟨4, x.num, x.val⟩ q.works })
def rightRG (ws : List QW) : List Ch → List RI → Bool
  | [], _ => true
  | c :: l, rest =>
    if (c.kind ≠ 3 ∧ c.kind ≠ 4) ∨ (c.kind = 3 ∧ c.key ≠ 0) then false
    else if c.kind = 4 then
      match rest with
      | [] => false
      | x :: r => if x.num ≠ c.key ∨ x.val ≠ c.val ∨ takerR c.key ws ≠ 0 then false else rightRG ws l r
    else rightRG ws l rest
def rightR (q : RM) (l : List Ch) : Bool := rightRG q.works l q.items && decide (putsQ l = 0 ∨ putsQ l ≤ roomR q)
def restR (q : RM) (n : Int) (l : List Ch) : Int × RM :=
  if n < 1 then (1, q)
  else if rightR q l = false then (1, q)
  else if (findQ n q.works).isSome then (7, q)
  else (0, ⟨q.items, restW n q.works l true, q.given⟩)
def loadJ : Int → List Int → List RI
  | _, [] => []
  | k, v :: l => ⟨k, v⟩ :: loadJ (k + 1) l
theorem loadJ_len : ∀ (l : List Int) (k : Int), (loadJ k l).length = l.length
  | [], _ => rfl
  | _ :: l, k => by simp [loadJ, loadJ_len l]
theorem loadJ_snoc (v : Int) : ∀ (l : List Int) (k : Int), loadJ k (l ++ [v]) = loadJ k l ++ [⟨k + l.length, v⟩]
  | [], k => by simp [loadJ]
  | x :: l, k => by simp [loadJ, loadJ_snoc v l]; omega
def loadR (q : RM) (vals : List Int) (next : Int) : Int × RM :=
  if q.items.length > 0 ∨ q.works.length > 0 then (7, q)
  else if vals.length > 16 ∨ next ≤ vals.length ∨ next > 4611686018427387904 then (1, q)
  else (0, ⟨loadJ (next - vals.length) vals, q.works, next - 1⟩)
def newR : Int → List Ch → List RI
  | _, [] => []
  | g, c :: l => if c.kind = 3 then ⟨g + 1, c.val⟩ :: newR (g + 1) l else newR g l
theorem newR_snoc (c : Ch) : ∀ (l : List Ch) (g : Int), newR g (l ++ [c]) = newR g l ++ if c.kind = 3 then [⟨g + putsQ l + 1, c.val⟩] else []
  | [], g => by simp [newR, putsQ]
  | x :: l, g => by
    simp only [List.cons_append, newR, putsQ]
    split
    · rw [newR_snoc c l (g + 1), show g + 1 + putsQ l + 1 = g + (1 + putsQ l) + 1 by omega]; rfl
    · rw [newR_snoc c l g, show g + (0 + putsQ l) + 1 = g + putsQ l + 1 by omega]
theorem newR_len : ∀ (l : List Ch) (g : Int), (newR g l).length ≤ l.length
  | [], g => by simp [newR]
  | x :: l, g => by
    simp only [newR]
    split
    · have := newR_len l (g + 1); simp; omega
    · have := newR_len l g; simp; omega
def commitR (q : RM) (n : Int) : Int × RM :=
  if n < 1 then (1, q)
  else match findQ n q.works with
    | none => (0, q)
    | some w => (0, ⟨(q.items.filter fun x => !decide (takerR x.num q.works = n)) ++ newR q.given w.list, q.works.filter fun x => !decide (x.n = n), q.given + putsQ w.list⟩)
end Go.Tr
