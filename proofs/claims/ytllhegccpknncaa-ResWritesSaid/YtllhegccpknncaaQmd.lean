/-
  The queue as it lies in memory, and what its methods make of it.
-/
import Derived.Test.YtllhegccpknncaaMdl
set_option linter.unusedVariables false
set_option linter.unusedSimpArgs false
set_option linter.unusedSectionVars false
namespace Go.Tr

structure QI where
  num : Int
  val : Int
  by_ : Int
def encQI : Enc QI where
  sz := 3
  pos := by decide
  val x := [.int .i64 x.num, .int .u64 x.val, .int .i64 x.by_]
  len _ := rfl
  one _ v h := by simp at h; rcases h with rfl | rfl | rfl <;> rfl
structure QM where
  items : List QI
  works : List QW
  given : Int
structure QM.Good (q : QM) : Prop where
  items : q.items.length < 1000000000
  works : q.works.length < 1000000000
  lists : ∀ w ∈ q.works, w.list.length < 1000000
  lo : 0 ≤ q.given
  hi : q.given ≤ 4611686018427387904
theorem good_small {q : QM} (h1 : q.items.length ≤ 3) (h2 : q.works.length ≤ 3) (h3 : ∀ w ∈ q.works, w.list.length ≤ 3) (h4 : 0 ≤ q.given) (h5 : q.given ≤ 3) : q.Good :=
  ⟨by omega, by omega, fun w hw => by have := h3 w hw; omega, h4, by omega⟩
def QAt (b o : Nat) (q : QM) : Assn := .ex fun (x : (Option Addr × Nat) × (Option Addr × Nat) × List (Nat × QW)) =>
  stars [.pure (x.2.2.map Prod.snd = q.works), cells b o [rlv x.1.1 q.items.length x.1.2, rlv x.2.1.1 x.2.2.length x.2.1.2, .int .i64 q.given],
    ownl encQI 91 x.1.1 x.1.2 q.items, ownl encPtr 92 x.2.1.1 x.2.1.2 (x.2.2.map Prod.fst), many (WAt 80) x.2.2]
instance (b o : Nat) (q : QM) : Excl (QAt b o q) := by unfold QAt; infer_instance
section
variable {w0 : World} {S0 R : Fp} {N : Nat} {sl : List (Nat × Value)} {L : List Assn} {a : Act} {w : World}
theorem St.openQ {b o : Nat} {q : QM} (h : St w0 S0 R N sl L a w) (i : Nat) (hi : L[i]? = some (QAt b o q)) : ∃ gi ci gw cw ws, ws.map Prod.snd = q.works ∧ St w0 S0 R N sl
    (cells b o [rlv gi q.items.length ci, rlv gw ws.length cw, .int .i64 q.given] :: ownl encQI 91 gi ci q.items :: ownl encPtr 92 gw cw (ws.map Prod.fst) :: many (WAt 80) ws :: L.eraseIdx i) a w := by
  obtain ⟨⟨⟨gi, ci⟩, ⟨gw, cw⟩, ws⟩, h⟩ := St.open_ h i hi
  have h := h.turn 0 rfl (Ls := [.pure (ws.map Prod.snd = q.works), cells b o [rlv gi q.items.length ci, rlv gw ws.length cw, .int .i64 q.given], ownl encQI 91 gi ci q.items, ownl encPtr 92 gw cw (ws.map Prod.fst), many (WAt 80) ws]) (Ent.refl _)
  exact ⟨gi, ci, gw, cw, ws, h.tell1 0 rfl fun _ _ _ x => x, h.drop 0⟩
theorem St.openM {b o : Nat} {items : List QI} {works : List QW} {given : Int} (h : St w0 S0 R N sl L a w) (i : Nat) (hi : L[i]? = some (QAt b o ⟨items, works, given⟩)) : ∃ gi ci gw cw ws, ws.map Prod.snd = works ∧ St w0 S0 R N sl
    (cells b o [rlv gi items.length ci, rlv gw ws.length cw, .int .i64 given] :: ownl encQI 91 gi ci items :: ownl encPtr 92 gw cw (ws.map Prod.fst) :: many (WAt 80) ws :: L.eraseIdx i) a w := h.openQ i hi
theorem QAt_mk {b o : Nat} {q : QM} (gi : Option Addr) (ci : Nat) (gw : Option Addr) (cw : Nat) (ws : List (Nat × QW)) (hw : ws.map Prod.snd = q.works) :
    Ent (stars [cells b o [rlv gi q.items.length ci, rlv gw ws.length cw, .int .i64 q.given], ownl encQI 91 gi ci q.items, ownl encPtr 92 gw cw (ws.map Prod.fst), many (WAt 80) ws]) (QAt b o q) :=
  fun _ S _ h => ⟨((gi, ci), (gw, cw), ws), fun _ _ => False, S, fun _ _ x => x.elim, fun _ _ x => x, fun _ _ x => x.elim, hw, h⟩
end

/-- The first work that bears a number. -/
def findQ (n : Int) : List QW → Option QW
  | [] => none
  | x :: l => if x.n = n then some x else findQ n l
theorem findW_none' {n : Int} : ∀ {ws : List (Nat × QW)}, findW n ws = none → findQ n (ws.map Prod.snd) = none
  | [], _ => rfl
  | p :: ws, h => by
    simp only [findW] at h
    split at h
    · cases h
    · rename_i hn
      simp [findQ, hn, findW_none' h]
theorem findW_some' {n : Int} {q : Nat} : ∀ {ws : List (Nat × QW)}, findW n ws = some q → ∃ (i : Nat) (p : Nat × QW), ws[i]? = some p ∧ p.1 = q ∧ p.2.n = n ∧ findQ n (ws.map Prod.snd) = some p.2
  | [], h => by simp [findW] at h
  | p :: ws, h => by
    simp only [findW] at h
    split at h
    · rename_i hn
      injection h with h
      exact ⟨0, p, rfl, h, hn, by simp [findQ, hn]⟩
    · rename_i hn
      obtain ⟨i, p', h1, h2, h3, h4⟩ := findW_some' h
      exact ⟨i + 1, p', by simpa using h1, h2, h3, by simp [findQ, hn, h4]⟩
def putsQ (l : List Ch) : Int := match l with
  | [] => 0
  | c :: l => (if c.kind = 3 then 1 else 0) + putsQ l
def putsAll : List QW → Int
  | [] => 0
  | w :: l => putsQ w.list + putsAll l
theorem putsQ_le : ∀ l, 0 ≤ putsQ l ∧ putsQ l ≤ l.length
  | [] => ⟨Int.le_refl _, Int.le_refl _⟩
  | c :: l => by
    have := putsQ_le l
    simp only [putsQ, List.length_cons]
    split <;> omega
theorem putsAll_le : ∀ (l : List QW), (∀ w ∈ l, w.list.length < 1000000) → 0 ≤ putsAll l ∧ putsAll l ≤ 1000000 * l.length
  | [], _ => ⟨Int.le_refl _, Int.le_refl _⟩
  | c :: l, h => by
    have h1 := putsAll_le l fun w hw => h w (List.mem_cons_of_mem _ hw)
    have h2 := putsQ_le c.list
    have h3 := h c (List.mem_cons_self ..)
    simp only [putsAll, List.length_cons]
    omega
def roomQ (q : QM) : Int := min (16 - q.items.length - putsAll q.works) (4611686018427387904 - (q.given + 1) - putsAll q.works)
def fitQ (q : QM) (n : Int) : Int := if n < 1 then 1 else match findQ n q.works with
  | some w => if w.prep then 7 else 0
  | none => 0
def decQ (n : Int) : Int := if n < 1 then 1 else 0
/-- A change behind a work's others; a work that was not there is made. -/
def noteM (n : Int) (c : Ch) : List QW → List QW
  | [] => [⟨n, [c], false⟩]
  | x :: l => if x.n = n then { x with list := x.list ++ [c] } :: l else x :: noteM n c l
def putQ (q : QM) (n v : Int) : Int × QM := if fitQ q n ≠ 0 then (fitQ q n, q) else if roomQ q < 1 then (5, q) else (0, { q with works := noteM n ⟨3, 0, v⟩ q.works })
/-- The items that a work's changes put in, numbered behind g. -/
def newQ : Int → List Ch → List QI
  | _, [] => []
  | g, c :: l => if c.kind = 3 then ⟨g + 1, c.val, 0⟩ :: newQ (g + 1) l else newQ g l
def commitQ (q : QM) (n : Int) : Int × QM :=
  if n < 1 then (1, q)
  else
    let l := match findQ n q.works with
      | some w => w.list
      | none => []
    (0, ⟨(q.items.filter fun x => !decide (x.by_ = n)) ++ newQ q.given l, q.works.filter fun x => !decide (x.n = n), q.given + putsQ l⟩)
def backQ (q : QM) (n : Int) : Int × QM :=
  if n < 1 then (1, q) else (0, ⟨q.items.map fun x => if x.by_ = n then { x with by_ := 0 } else x, q.works.filter fun x => !decide (x.n = n), q.given⟩)
theorem newQ_snoc (c : Ch) : ∀ (l : List Ch) (g : Int), newQ g (l ++ [c]) = newQ g l ++ if c.kind = 3 then [⟨g + putsQ l + 1, c.val, 0⟩] else []
  | [], g => by simp [newQ, putsQ]
  | x :: l, g => by
    simp only [List.cons_append, newQ, putsQ]
    split
    · rw [newQ_snoc c l (g + 1), show g + 1 + putsQ l + 1 = g + (1 + putsQ l) + 1 by omega]; rfl
    · rw [newQ_snoc c l g, show g + (0 + putsQ l) + 1 = g + putsQ l + 1 by omega]
theorem newQ_len : ∀ (l : List Ch) (g : Int), (newQ g l).length ≤ l.length
  | [], g => by simp [newQ]
  | x :: l, g => by
    simp only [newQ]
    split
    · have := newQ_len l (g + 1); simp; omega
    · have := newQ_len l g; simp; omega
/-- The first work that bears a number is changed. -/
def updW (n : Int) (f : QW → QW) : List QW → List QW
  | [] => []
  | x :: l => if x.n = n then f x :: l else x :: updW n f l
theorem findW_upd {n : Int} {q : Nat} : ∀ {ws : List (Nat × QW)}, findW n ws = some q → ∃ (i : Nat) (p : Nat × QW), ws[i]? = some p ∧ p.1 = q ∧ p.2.n = n ∧ findQ n (ws.map Prod.snd) = some p.2 ∧ ∀ f, updW n f (ws.map Prod.snd) = (ws.map Prod.snd).set i (f p.2)
  | [], h => by simp [findW] at h
  | p :: ws, h => by
    simp only [findW] at h
    split at h
    · rename_i hn
      injection h with h
      exact ⟨0, p, rfl, h, hn, by simp [findQ, hn], fun f => by simp [updW, hn]⟩
    · rename_i hn
      obtain ⟨i, p', h1, h2, h3, h4, h5⟩ := findW_upd h
      exact ⟨i + 1, p', by simpa using h1, h2, h3, by simp [findQ, hn, h4], fun f => by simp [updW, hn, h5 f]⟩
def prepW (w : QW) : QW := { w with prep := true }
def prepQ (q : QM) (n : Int) : Int × List Ch × QM :=
  if fitQ q n ≠ 0 then (fitQ q n, [], q) else
    match findQ n q.works with
    | none => (0, [], q)
    | some w => (0, w.list, { q with works := updW n prepW q.works })
def loadI : Int → List Int → List QI
  | _, [] => []
  | k, v :: l => ⟨k, v, 0⟩ :: loadI (k + 1) l
theorem loadI_len : ∀ (l : List Int) (k : Int), (loadI k l).length = l.length
  | [], _ => rfl
  | _ :: l, k => by simp [loadI, loadI_len l]
theorem loadI_snoc (v : Int) : ∀ (l : List Int) (k : Int), loadI k (l ++ [v]) = loadI k l ++ [⟨k + l.length, v, 0⟩]
  | [], k => by simp [loadI]
  | x :: l, k => by simp [loadI, loadI_snoc v l]; omega
def loadQ (q : QM) (vals : List Int) (next : Int) : Int × QM :=
  if q.items.length + q.works.length > 0 then (7, q)
  else if vals.length > 16 ∨ next ≤ vals.length ∨ next > 4611686018427387904 then (1, q)
  else (0, ⟨loadI (next - vals.length) vals, q.works, next - 1⟩)
/-- May changes be a work's, with these items in front? -/
def rightG : List Ch → List QI → Bool
  | [], _ => true
  | c :: l, rest =>
    if c.kind = 3 ∧ c.key = 0 then rightG l rest
    else if c.kind = 4 then
      match rest with
      | [] => false
      | x :: r => if x.num = c.key ∧ x.val = c.val ∧ x.by_ = 0 then rightG l r else false
    else false
def rightQ (q : QM) (l : List Ch) : Bool := rightG l q.items && decide (putsQ l ≤ max (roomQ q) 0)
def takesQ : List Ch → Nat
  | [] => 0
  | c :: l => (if c.kind = 4 then 1 else 0) + takesQ l
theorem takesQ_snoc (c : Ch) : ∀ l : List Ch, takesQ (l ++ [c]) = takesQ l + if c.kind = 4 then 1 else 0
  | [] => by simp [takesQ]
  | x :: l => by simp [takesQ, takesQ_snoc c l]; omega
theorem takesQ_take : ∀ (l : List Ch) (i : Nat), takesQ (l.take i) ≤ takesQ l
  | [], i => by simp
  | c :: l, 0 => by simp [takesQ]
  | c :: l, i + 1 => by
    have := takesQ_take l i
    simp only [List.take_succ_cons, takesQ]; omega
theorem rightG_takes : ∀ (l : List Ch) (its : List QI), rightG l its = true → takesQ l ≤ its.length
  | [], its, _ => by simp [takesQ]
  | c :: l, its, h => by
    unfold rightG at h
    simp only [takesQ]
    split at h
    · rename_i hc
      have := rightG_takes l its h
      rw [if_neg (by omega)]; omega
    · split at h
      · rename_i hc
        rw [if_pos hc]
        cases its with
        | nil => cases h
        | cons x r =>
          simp only at h
          split at h
          · have := rightG_takes l r h
            simp; omega
          · cases h
      · cases h
def markI (n : Int) (k : Nat) (its : List QI) : List QI := (its.take k).map (fun x => { x with by_ := n }) ++ its.drop k
theorem markI_len (n : Int) (k : Nat) (its : List QI) : (markI n k its).length = its.length := by simp [markI]; omega
theorem markI_get {n : Int} {k : Nat} {its : List QI} {x : QI} (hx : its[k]? = some x) : (markI n k its)[k]? = some x := by
  have := (List.getElem?_eq_some_iff.1 hx).1
  unfold markI
  rw [List.getElem?_append_right (by simp; omega)]
  simp [Nat.min_eq_left (Nat.le_of_lt this), hx]
theorem markI_set {n : Int} {k : Nat} {its : List QI} {x : QI} (hx : its[k]? = some x) : (markI n k its).set k { x with by_ := n } = markI n (k + 1) its := by
  obtain ⟨h1, rfl⟩ := List.getElem?_eq_some_iff.1 hx
  unfold markI
  have h0 : k - ((its.take k).map fun x => ({ x with by_ := n } : QI)).length = 0 := by simp; omega
  rw [List.set_append_right _ _ (by simp; omega), h0, List.drop_eq_getElem_cons h1, List.take_add_one, hx, List.set_cons_zero]
  simp only [List.map_append, Option.toList_some, List.map_cons, List.map_nil, List.append_assoc, List.cons_append, List.nil_append]
def restW (n : Int) (ws : List QW) (l : List Ch) (p : Bool) : List QW := if l = [] then ws else ws ++ [⟨n, l, p⟩]
theorem noteM_none {n : Int} {c : Ch} : ∀ {ws : List QW}, findQ n ws = none → noteM n c ws = ws ++ [⟨n, [c], false⟩]
  | [], _ => rfl
  | x :: l, h => by
    simp only [findQ] at h
    split at h
    · cases h
    · rename_i hn
      simp [noteM, hn, noteM_none h]
theorem noteM_last {n : Int} {c : Ch} {l : List Ch} {p : Bool} : ∀ {ws : List QW}, findQ n ws = none → noteM n c (ws ++ [⟨n, l, p⟩]) = ws ++ [⟨n, l ++ [c], p⟩]
  | [], _ => by simp [noteM]
  | x :: l, h => by
    simp only [findQ] at h
    split at h
    · cases h
    · rename_i hn
      simp [noteM, hn, noteM_last h]
theorem noteM_restW {n : Int} {c : Ch} {ws : List QW} {l : List Ch} (h : findQ n ws = none) : noteM n c (restW n ws l false) = restW n ws (l ++ [c]) false := by
  unfold restW
  rw [if_neg (by simp : ¬ (l ++ [c] = []))]
  split
  · rename_i e; subst e; exact noteM_none h
  · exact noteM_last h
theorem upd_restW {n : Int} {l : List Ch} (hl : l ≠ []) : ∀ {ws : List QW}, findQ n ws = none → updW n prepW (ws ++ [⟨n, l, false⟩]) = ws ++ [⟨n, l, true⟩] ∧ findQ n (ws ++ [⟨n, l, false⟩]) = some ⟨n, l, false⟩
  | [], _ => by simp [updW, prepW, findQ]
  | x :: ws, h => by
    simp only [findQ] at h
    split at h
    · cases h
    · rename_i hn
      have := upd_restW hl h
      simp [updW, findQ, hn, this]
def restQ (q : QM) (n : Int) (l : List Ch) : Int × QM :=
  if n < 1 then (1, q)
  else if rightQ q l = false then (1, q)
  else if (findQ n q.works).isSome then (7, q)
  else (0, ⟨markI n (takesQ l) q.items, restW n q.works l true, q.given⟩)
theorem QM.Good.lens {q : QM} (hq : q.Good) {ws : List (Nat × QW)} (hw : ws.map Prod.snd = q.works) : ws.length < 1000000000 ∧ ∀ p ∈ ws, p.2.list.length < 1000000000 := by
  refine ⟨by have := hq.works; rw [← hw] at this; simpa using this, fun p hp => ?_⟩
  have := hq.lists p.2 (by rw [← hw]; exact List.mem_map_of_mem hp)
  omega
theorem star_free {A : Assn} {B : Assn} {w : World} {S R : Fp} (ha : A.holds w (fun _ _ => False) R) (hb : B.holds w S R) : (star A B).holds w S R :=
  ⟨fun _ _ => False, S, fun _ _ x => x.elim, fun _ _ x => x, fun _ _ x _ => x, ha, hb⟩
theorem star_rest {A : Assn} {B : Assn} {w : World} {S R : Fp} (ha : A.holds w S R) (hb : B.holds w (fun _ _ => False) R) : (star A B).holds w S R :=
  ⟨S, fun _ _ => False, fun _ _ x => x, fun _ _ x => x.elim, fun _ _ _ x => x, ha, hb⟩
theorem QAt_new (b o : Nat) : Ent (stars [cells b o [.slice none 0 0, .slice none 0 0, .int .i64 0]]) (QAt b o ⟨[], [], 0⟩) := by
  rintro w S R ⟨S1, S2, h1, h2, hd, ha, _⟩
  exact QAt_mk (q := ⟨[], [], 0⟩) none 0 none 0 [] rfl w S R (star_rest ((cells b o _).mono ha h1 fun _ _ x => x) (star_free (.inl ⟨rfl, rfl⟩) (star_free (.inl ⟨rfl, rfl⟩) (star_free trivial trivial))))
end Go.Tr
