/-
  The state of a running function, and the rules by which it goes on: one a kind of operation. Plain theorems over whatever program.
-/
import Derived.Test.YtllhegccpknncaaSla
set_option linter.unusedVariables false
set_option linter.unusedSimpArgs false
set_option linter.unusedSectionVars false
namespace Go.Tr

/-- What may have become of a world by somebody who owns S. -/
structure Evo (S : Fp) (w w' : World) : Prop where
  os : w'.os = w.os
  tape : w'.tape = w.tape
  output : w'.output = w.output
  size : w.heap.size ≤ w'.heap.size
  agree : Agree w w' (fun b o => b < w.heap.size ∧ ¬ S b o)

theorem Evo.refl (S : Fp) (w : World) : Evo S w w := ⟨rfl, rfl, rfl, Nat.le_refl _, Agree.refl _ _⟩
theorem Evo.trans {S S1 : Fp} {w w1 w2 : World} (h : Evo S w w1) (h1 : Evo S1 w1 w2) (hs : ∀ b o, S1 b o → S b o ∨ w.heap.size ≤ b) : Evo S w w2 :=
  ⟨h1.os.trans h.os, h1.tape.trans h.tape, h1.output.trans h.output, Nat.le_trans h.size h1.size,
    h.agree.trans (h1.agree.mono fun b o ⟨hb, hn⟩ => ⟨Nat.lt_of_lt_of_le hb h.size, fun h' => (hs b o h').elim hn fun h'' => by omega⟩)⟩
theorem Evo.of_blocks {S : Fp} {w w' : World} (ho : w'.os = w.os) (ht : w'.tape = w.tape) (hp : w'.output = w.output) (hz : w.heap.size ≤ w'.heap.size)
    (h : ∀ b, b < w.heap.size → (∃ o, ¬ S b o) → w'.heap[b]? = w.heap[b]?) : Evo S w w' :=
  ⟨ho, ht, hp, hz, ⟨fun b o hb => Same.of_blk (h b hb.1 ⟨o, hb.2⟩) o, fun b hb => h b (hb 0).1 ⟨0, (hb 0).2⟩⟩⟩
theorem Evo.alloc (S : Fp) (w : World) (x : Obj) : Evo S w (w.alloc x) :=
  Evo.of_blocks rfl rfl rfl (by simp) fun b hb _ => RowKit.Below.heap_alloc w x b hb
theorem Evo.drew (S : Fp) (w : World) : Evo S w w.drew := Evo.of_blocks rfl rfl rfl (Nat.le_refl _) fun _ _ _ => rfl
theorem Evo.setCell {S : Fp} (w : World) (b o : Nat) (v : Value) (h : S b o) : Evo S w (w.setCell ⟨b, o, none⟩ v) := by
  refine ⟨rfl, rfl, rfl, by simp, ⟨fun b' o' hb => ⟨World.cell?_setCell_other w _ _ _ fun e => ?_, World.frozen?_setCell w _ _ _⟩, fun b' hb => RowKit.Below.heap_setCell w _ _ _ fun e => ?_⟩⟩
  · injection e with e1 e2; subst e1; subst e2; exact hb.2 h
  · simp only at e; subst e; exact (hb o).2 h
theorem Evo.grown {S : Fp} {w w' : World} {row : Option Nat} (h : w.grownBy w' row) (hr : ∀ k, row = some k → ∀ o, S k o) : Evo S w w' :=
  Evo.of_blocks h.os h.tape h.output h.size fun b hb ⟨o, ho⟩ => h.block b hb fun e => ho (hr b e.symm o)
theorem Evo.setObj {S : Fp} (w : World) (r : Nat) (x : Obj) (h : ∀ o, S r o) : Evo S w { w with heap := w.heap.setIfInBounds r x } :=
  Evo.of_blocks rfl rfl rfl (by simp) fun b hb ⟨o, ho⟩ => by
    have hne : r ≠ b := fun e => ho (e ▸ h o)
    simp [Array.getElem?_setIfInBounds, hne]

/-! ### Slots -/

def lk : List (Nat × Value) → Nat → Option Value
  | [], _ => none
  | (t, v) :: l, k => cond (Nat.beq t k) (some v) (lk l k)
def ev (sl : List (Nat × Value)) : Operand → Option Value
  | .tmp t => lk sl t
  | .const v => some v
  | .func f => some (.func (.func f) #[] #[])
  | .global g => some (.pointer (some ⟨g, 0, none⟩))
def Slots (sl : List (Nat × Value)) (a : Act) : Prop := ∀ t v, lk sl t = some v → a.tmps.getD t undef = v
theorem Slots.ev {sl : List (Nat × Value)} {a : Act} (h : Slots sl a) {x : Operand} {v : Value} (he : ev sl x = some v) : a.eval x = v := by
  cases x with
  | tmp t => exact h t v he
  | const c => simp [Tr.ev] at he; subst he; rfl
  | global g => simp [Tr.ev] at he; subst he; rfl
  | func f => simp [Tr.ev] at he; subst he; rfl
def evs (sl : List (Nat × Value)) : List Operand → Option (List Value)
  | [] => some []
  | x :: l =>
    match ev sl x with
    | none => none
    | some v =>
      match evs sl l with
      | none => none
      | some vs => some (v :: vs)
def evp (sl : List (Nat × Value)) : List (Nat × Operand) → Option (List (Nat × Value))
  | [] => some []
  | x :: l =>
    match ev sl x.2 with
    | none => none
    | some v =>
      match evp sl l with
      | none => none
      | some vs => some ((x.1, v) :: vs)
def evo (sl : List (Nat × Value)) : Option Operand → Option (Option Value)
  | none => some none
  | some x =>
    match ev sl x with
    | none => none
    | some v => some (some v)
theorem Slots.evs {sl : List (Nat × Value)} {a : Act} (h : Slots sl a) : ∀ {l : List Operand} {vs : List Value}, evs sl l = some vs → l.map a.eval = vs
  | [], vs, he => by simp [Tr.evs] at he; simp [he]
  | x :: l, vs, he => by
    simp only [Tr.evs] at he
    cases h1 : Tr.ev sl x with
    | none => simp [h1] at he
    | some v =>
      cases h2 : Tr.evs sl l with
      | none => simp [h1, h2] at he
      | some us =>
        simp [h1, h2] at he
        simp [← he, h.ev h1, h.evs h2]
theorem Slots.evp {sl : List (Nat × Value)} {a : Act} (h : Slots sl a) : ∀ {l : List (Nat × Operand)} {vs : List (Nat × Value)}, evp sl l = some vs → (l.map fun (p : Nat × Operand) => (p.1, a.eval p.2)) = vs
  | [], vs, he => by simp [Tr.evp] at he; simp [he]
  | x :: l, vs, he => by
    simp only [Tr.evp] at he
    cases h1 : Tr.ev sl x.2 with
    | none => simp [h1] at he
    | some v =>
      cases h2 : Tr.evp sl l with
      | none => simp [h1, h2] at he
      | some us =>
        simp [h1, h2] at he
        simp [← he, h.ev h1, h.evp h2]
theorem Slots.evo {sl : List (Nat × Value)} {a : Act} (h : Slots sl a) {x : Option Operand} {v : Option Value} (he : evo sl x = some v) : x.map a.eval = v := by
  cases x with
  | none => simp [Tr.evo] at he; simp [he]
  | some x =>
    simp only [Tr.evo] at he
    cases h1 : Tr.ev sl x with
    | none => simp [h1] at he
    | some u => simp [h1] at he; simp [← he, h.ev h1]
theorem Slots.put {sl : List (Nat × Value)} {a : Act} (h : Slots sl a) {d : Nat} (hd : d < a.tmps.size) (v : Value) : Slots ((d, v) :: sl) (a.put (some d) v) := by
  intro t u hu
  simp only [lk] at hu
  simp only [Act.put]
  by_cases e : d = t
  · subst e
    have hb : Nat.beq d d = true := by simp
    simp only [hb, cond_true, Option.some.injEq] at hu
    subst hu
    simp [hd]
  · have hb : Nat.beq d t = false := by
      cases hq : Nat.beq d t with
      | false => rfl
      | true => exact absurd (Nat.eq_of_beq_eq_true hq) e
    simp only [hb, cond_false] at hu
    rw [← h t u hu]
    simp [Array.getD_eq_getD_getElem?, Array.getElem?_setIfInBounds, e]
def Subs (sl : List (Nat × Value)) : List (Nat × Value) → Prop
  | [] => True
  | (t, v) :: l => lk sl t = some v ∧ Subs sl l
theorem Slots.sub {sl : List (Nat × Value)} {a : Act} (h : Slots sl a) : ∀ {sl' : List (Nat × Value)}, Subs sl sl' → Slots sl' a
  | [], _ => fun t v hv => by simp [lk] at hv
  | (t', v') :: l, hs => fun t v hv => by
    simp only [lk] at hv
    cases hq : Nat.beq t' t with
    | true =>
      simp only [hq, cond_true, Option.some.injEq] at hv
      have := Nat.eq_of_beq_eq_true hq
      subst this
      subst hv
      exact h _ _ hs.1
    | false =>
      simp only [hq, cond_false] at hv
      exact Slots.sub h hs.2 t v hv
theorem blt_lt {d n : Nat} (h : Nat.blt d n = true) : d < n := Nat.le_of_ble_eq_true h

/-! ### The state -/

/-- The mark that a range over a function leaves among the deferred calls. -/
def mkDef (b : Nat) : Deferred := { target := .collected b, args := #[] }
/-- Nothing is laid up but such marks; their blocks are nobody's, and hold no call. -/
def Marks (w0 : World) (S : Fp) (ds : List Deferred) (w : World) : Prop :=
  ∃ ms : List Nat, ds = ms.map mkDef ∧ ms.Nodup ∧ ∀ b, b ∈ ms → w0.heap.size ≤ b ∧ w.heap[b]? = some (.deferred (some [])) ∧ ∀ o, ¬ S b o
theorem Marks.nil (w0 : World) (S : Fp) (w : World) : Marks w0 S [] w := ⟨[], rfl, .nil, fun b h => by simp at h⟩
theorem Marks.step {w0 w w' : World} {S S1 S' : Fp} {ds : List Deferred} (h : Marks w0 S ds w) (hE : Evo S1 w w') (h1 : ∀ b o, S1 b o → S b o) (hS : ∀ b o, S' b o → S b o ∨ w.heap.size ≤ b) : Marks w0 S' ds w' := by
  obtain ⟨ms, hd, hn, hm⟩ := h
  refine ⟨ms, hd, hn, fun b hb => ?_⟩
  obtain ⟨h2, h3, h4⟩ := hm b hb
  have hlt : b < w.heap.size := (Array.getElem?_eq_some_iff.1 h3).1
  exact ⟨h2, (hE.agree.blk b fun o => ⟨hlt, fun x => h4 o (h1 b o x)⟩).trans h3, fun o x => (hS b o x).elim (h4 o) fun y => by omega⟩

/-- A function began in world w0, owning S0, and R could be read; it has N slots; the slots `sl` are known; `L` is what it has. -/
structure St (w0 : World) (S0 R : Fp) (N : Nat) (sl : List (Nat × Value)) (L : List Assn) (a : Act) (w : World) : Prop where
  sz : a.tmps.size = N
  slots : Slots sl a
  heap : ∃ S, (stars L).holds w S R ∧ (∀ b o, S b o → ¬ R b o) ∧ (∀ b o, S b o → b < w.heap.size) ∧ (∀ b o, S b o → S0 b o ∨ w0.heap.size ≤ b) ∧ Marks w0 S a.defers w
  ralloc : ∀ b o, R b o → b < w0.heap.size
  evo : Evo S0 w0 w

section
variable {P : Program} {w0 : World} {S0 R : Fp} {N : Nat} {sl : List (Nat × Value)} {L : List Assn} {a : Act} {w : World}

/-- The one way on: the act and the world turn. -/
theorem St.go (h : St w0 S0 R N sl L a w) {sl' : List (Nat × Value)} {L' : List Assn} {a' : Act} {w' : World} (hz : a'.tmps.size = a.tmps.size) (hd : a'.defers = a.defers) (hs : Slots sl' a')
    (hh : ∀ S, (stars L).holds w S R → (∀ b o, S b o → b < w.heap.size) → (∀ b o, R b o → b < w.heap.size) → (∀ b o, S b o → ¬ R b o) →
      Evo S w w' ∧ ∃ S', (stars L').holds w' S' R ∧ (∀ b o, S' b o → b < w'.heap.size) ∧ (∀ b o, S' b o → S b o ∨ w.heap.size ≤ b)) : St w0 S0 R N sl' L' a' w' := by
  obtain ⟨S, hL, hR, hal, h0, hM⟩ := h.heap
  have hrw : ∀ b o, R b o → b < w.heap.size := fun b o x => Nat.lt_of_lt_of_le (h.ralloc b o x) h.evo.size
  obtain ⟨hE, S', hL', hal', hS'⟩ := hh S hL hal hrw hR
  refine ⟨hz.trans h.sz, hs, ⟨S', hL', ?_, hal', ?_, hd ▸ hM.step hE (fun _ _ x => x) hS'⟩, h.ralloc, h.evo.trans hE h0⟩
  · intro b o hb hr
    exact (hS' b o hb).elim (fun x => hR b o x hr) fun x => by have := hrw b o hr; omega
  · intro b o hb
    exact (hS' b o hb).elim (h0 b o) fun x => .inr (Nat.le_trans h.evo.size x)

theorem St.slot (h : St w0 S0 R N sl L a w) {d : Nat} (hd : Nat.blt d N = true) (v : Value) : St w0 S0 R N ((d, v) :: sl) L (a.put (some d) v) w :=
  ⟨by simp [Act.put, h.sz], h.slots.put (by rw [h.sz]; exact blt_lt hd) v, h.heap, h.ralloc, h.evo⟩

theorem St.ent (h : St w0 S0 R N sl L a w) {L' : List Assn} (he : Ent (stars L) (stars L')) : St w0 S0 R N sl L' a w :=
  ⟨h.sz, h.slots, let ⟨S, hL, hr⟩ := h.heap; ⟨S, he w S R hL, hr⟩, h.ralloc, h.evo⟩
theorem St.sub (h : St w0 S0 R N sl L a w) {sl' : List (Nat × Value)} (hs : Subs sl sl') : St w0 S0 R N sl' L a w :=
  ⟨h.sz, h.slots.sub hs, h.heap, h.ralloc, h.evo⟩
/-- The same state, written otherwise. -/
theorem St.conv (h : St w0 S0 R N sl L a w) {sl' : List (Nat × Value)} {L' : List Assn} (hs : sl = sl') (hL : L = L') : St w0 S0 R N sl' L' a w := hs ▸ hL ▸ h
/-- A fact that the assertions tell. -/
theorem St.tell (h : St w0 S0 R N sl L a w) {p : Prop} (hp : ∀ w S R, (stars L).holds w S R → p) : p := let ⟨S, hL, _⟩ := h.heap; hp w S R hL
theorem St.tell1 (h : St w0 S0 R N sl L a w) (i : Nat) {A : Assn} (hi : L[i]? = some A) {p : Prop} (hp : ∀ w S R, A.holds w S R → p) : p :=
  h.tell fun w S R hL => let ⟨S1, _, _, _, _, ha, _⟩ := stars_take L i A hi w S R hL; hp w S1 R ha
/-- One of the assertions is turned into others that it entails. -/
theorem St.turn (h : St w0 S0 R N sl L a w) (i : Nat) {A : Assn} {Ls : List Assn} (hi : L[i]? = some A) (he : Ent A (stars Ls)) : St w0 S0 R N sl (Ls ++ L.eraseIdx i) a w :=
  h.ent ((stars_take L i A hi).trans ((Ent.star he (Ent.refl _)).trans (stars_append' _ _)))
/-- An assertion `∃ x, A x` is opened. -/
theorem St.open_ {α : Type} (h : St w0 S0 R N sl L a w) (i : Nat) {A : α → Assn} (hi : L[i]? = some (Assn.ex A)) : ∃ x, St w0 S0 R N sl (A x :: L.eraseIdx i) a w := by
  obtain ⟨S, hL, hr⟩ := h.heap
  obtain ⟨S1, S2, h1, h2, hd, ⟨x, ha⟩, hb⟩ := stars_take L i _ hi w S R hL
  exact ⟨x, h.sz, h.slots, ⟨S, ⟨S1, S2, h1, h2, hd, ha, hb⟩, hr⟩, h.ralloc, h.evo⟩
/-- Some of the assertions are turned into others together. -/
theorem St.turns (h : St w0 S0 R N sl L a w) (ix : List Nat) {X Y Ls : List Assn} (hp : picks ix L = some (X, Y)) (he : Ent (stars X) (stars Ls)) : St w0 S0 R N sl (Ls ++ Y) a w :=
  h.ent ((picks_ent ix L X Y hp).trans ((Ent.star he (Ent.refl _)).trans (stars_append' _ _)))

/-! ### Operations that only read -/

def Gets (P : Program) (o : Oper) (sl : List (Nat × Value)) (L : List Assn) (v : Value) : Prop :=
  ∀ (a : Act) (w : World) (S R : Fp), Slots sl a → (stars L).holds w S R → (execOp a.eval o).run P w = .ok (.value v) w

variable {ops : Array Oper} {Q : Exit → Act → World → Prop} {rest : List Oper} {o : Oper} {d : Nat} {v : Value}

theorem St.get (h : St w0 S0 R N sl L a w) (hg : o.guard = none) (hd : o.dst = some d) (hN : Nat.blt d N = true) (hv : Gets P o sl L v)
    (k : ∀ a', St w0 S0 R N ((d, v) :: sl) L a' w → wpList P ops Q rest a' w) : wpList P ops Q (o :: rest) a w := by
  obtain ⟨S, hL, _⟩ := h.heap
  refine wpList_plain hg fun K hK => ?_
  unfold Oper.wp
  rw [hv a w S R h.slots hL, Oper.upon_value, hd]
  exact hK _ _ (k _ (h.slot hN v))

/-- A guarded operation whose guard holds goes as one without. -/
theorem St.guard_yes (h : St w0 S0 R N sl L a w) {j t : Nat} {b : Bool} {oj : Oper} (hg : o.guard = some (j, b)) (hj : ops[j]? = some oj) (ht : oj.dst = some t) (htN : Nat.blt t N = true) (hs : lk sl t = some (.bool b))
    (k : wpList P ops Q ({ o with guard := none } :: rest) a w) : wpList P ops Q (o :: rest) a w := by
  have hv := h.slots t _ hs
  have htt : t < a.tmps.size := by rw [h.sz]; exact blt_lt htN
  have hy : yielded ops a.tmps j = some b := by
    unfold yielded
    simp only [hj, Option.bind_some, ht]
    rw [Array.getD_eq_getD_getElem?, Array.getElem?_eq_getElem htt, Option.getD_some] at hv
    rw [Array.getElem?_eq_getElem htt, hv]
  have hw : Region.wanted o (yielded ops a.tmps) = true := by simp [Region.wanted, hg, hy]
  have hw' : Region.wanted { o with guard := none } (yielded ops a.tmps) = true := by simp [Region.wanted]
  unfold wpList at k ⊢
  rw [if_pos hw]
  rw [if_pos hw'] at k
  exact k
theorem St.guard_no (h : St w0 S0 R N sl L a w) {j t : Nat} {b c : Bool} {oj : Oper} (hg : o.guard = some (j, b)) (hj : ops[j]? = some oj) (ht : oj.dst = some t) (htN : Nat.blt t N = true) (hs : lk sl t = some (.bool c)) (hc : b ≠ c)
    (hd : o.dst = some d) (hN : Nat.blt d N = true) (k : ∀ a', St w0 S0 R N ((d, undef) :: sl) L a' w → wpList P ops Q rest a' w) : wpList P ops Q (o :: rest) a w := by
  have hv := h.slots t _ hs
  have htt : t < a.tmps.size := by rw [h.sz]; exact blt_lt htN
  have hy : yielded ops a.tmps j = some c := by
    unfold yielded
    simp only [hj, Option.bind_some, ht]
    rw [Array.getD_eq_getD_getElem?, Array.getElem?_eq_getElem htt, Option.getD_some] at hv
    rw [Array.getElem?_eq_getElem htt, hv]
  have hw : ¬ Region.wanted o (yielded ops a.tmps) = true := by simp [Region.wanted, hg, hy]; exact fun e => hc e.symm
  unfold wpList
  rw [if_neg hw, hd]
  exact k _ (h.slot hN undef)
theorem St.guard_no' (h : St w0 S0 R N sl L a w) {j t : Nat} {b c : Bool} {oj : Oper} (hg : o.guard = some (j, b)) (hj : ops[j]? = some oj) (ht : oj.dst = some t) (htN : Nat.blt t N = true) (hs : lk sl t = some (.bool c)) (hc : b ≠ c)
    (hd : o.dst = none) (k : wpList P ops Q rest a w) : wpList P ops Q (o :: rest) a w := by
  have hv := h.slots t _ hs
  have htt : t < a.tmps.size := by rw [h.sz]; exact blt_lt htN
  have hy : yielded ops a.tmps j = some c := by
    unfold yielded
    simp only [hj, Option.bind_some, ht]
    rw [Array.getD_eq_getD_getElem?, Array.getElem?_eq_getElem htt, Option.getD_some] at hv
    rw [Array.getElem?_eq_getElem htt, hv]
  have hw : ¬ Region.wanted o (yielded ops a.tmps) = true := by simp [Region.wanted, hg, hy]; exact fun e => hc e.symm
  unfold wpList
  rw [if_neg hw, hd]
  exact k

/-- A test: both ways at once. -/
theorem St.getP {p : Prop} [Decidable p] (h : St w0 S0 R N sl L a w) (hg : o.guard = none) (hd : o.dst = some d) (hN : Nat.blt d N = true) (hv : Gets P o sl L (.bool (decide p)))
    (kT : p → ∀ a', St w0 S0 R N ((d, .bool true) :: sl) L a' w → wpList P ops Q rest a' w) (kF : ¬ p → ∀ a', St w0 S0 R N ((d, .bool false) :: sl) L a' w → wpList P ops Q rest a' w) : wpList P ops Q (o :: rest) a w := by
  by_cases hp : p
  · rw [show decide p = true from decide_eq_true hp] at hv
    exact h.get hg hd hN hv (kT hp)
  · rw [show decide p = false from decide_eq_false hp] at hv
    exact h.get hg hd hN hv (kF hp)
/-- A slot that holds a bool: both ways. -/
theorem St.split {b : Bool} {G : Prop} (h : St w0 S0 R N sl L a w) (t : Nat) (hb : lk sl t = some (.bool b)) (kT : b = true → St w0 S0 R N ((t, .bool true) :: sl) L a w → G) (kF : b = false → St w0 S0 R N ((t, .bool false) :: sl) L a w → G) : G := by
  have key : ∀ c, b = c → St w0 S0 R N ((t, .bool c) :: sl) L a w := fun c hc => ⟨h.sz, fun t' v hv => by
    simp only [lk] at hv
    cases hq : Nat.beq t t' with
    | true =>
      simp only [hq, cond_true, Option.some.injEq] at hv
      have := Nat.eq_of_beq_eq_true hq
      subst this; subst hv; subst hc
      exact h.slots _ _ hb
    | false =>
      simp only [hq, cond_false] at hv
      exact h.slots _ _ hv, h.heap, h.ralloc, h.evo⟩
  cases hb' : b with
  | true => exact kT hb' (key true hb')
  | false => exact kF hb' (key false hb')

/-! Each of these tells what an operation gets. -/
section gets
variable {x y z : Operand} {vx vy : Value} {T : TypeId}

theorem G.move (ho : o.op = .move x) (hx : ev sl x = some v) : Gets P o sl L v := by
  intro a w S R hs hL; simp [execOp, ho, hs.ev hx]
theorem G.assign (ho : o.op = .assign x) (hx : ev sl x = some v) : Gets P o sl L v := by
  intro a w S R hs hL; simp [execOp, ho, hs.ev hx]
theorem G.pickT (ho : o.op = .pick x y z) (hx : ev sl x = some (.bool true)) (hy : ev sl y = some v) : Gets P o sl L v := by
  intro a w S R hs hL; simp [execOp, ho, hs.ev hx, hs.ev hy, asBool]
theorem G.pickF (ho : o.op = .pick x y z) (hx : ev sl x = some (.bool false)) (hy : ev sl z = some v) : Gets P o sl L v := by
  intro a w S R hs hL; simp [execOp, ho, hs.ev hx, hs.ev hy, asBool]
theorem G.nilc {ad : Addr} (ho : o.op = .nilCheck x) (hx : ev sl x = some (.pointer (some ad))) : Gets P o sl L (.pointer (some ad)) := by
  intro a w S R hs hL; simp [execOp, ho, hs.ev hx]
theorem G.nilcf {f : Fn} {c : Array Value} (ho : o.op = .nilCheck x) (hx : ev sl x = some (.func f #[] c)) : Gets P o sl L (.func f #[] c) := by
  intro a w S R hs hL; cases f <;> simp [execOp, ho, hs.ev hx]
/-- An operation on one value whose run is known. -/
theorem G.bin {bop : BinOp} {T T' : TypeId} (ho : o.op = .binOp bop T x y T') (hx : ev sl x = some vx) (hy : ev sl y = some vy)
    (hr : ∀ w, (do eqGuard bop T x y vx vy; binOp bop T vx vy).run P w = .ok v w) : Gets P o sl L v := by
  intro a w S R hs hL
  have := hr w
  simp only [execOp, ho, hs.ev hx, hs.ev hy, Sem.run_bind, Sem.run_pure] at this ⊢
  simp only [this, Result.andThen_ok]
theorem G.un {u : UnOp} (ho : o.op = .unOp u T x) (hx : ev sl x = some vx) (hr : ∀ w, (Op.unary u vx).run P w = .ok v w) : Gets P o sl L v := by
  intro a w S R hs hL; simp only [execOp, ho, hs.ev hx, Sem.run_bind, Sem.run_pure, hr w, Result.andThen_ok]
theorem G.fadr (k : Nat) {b off i : Nat} {fs : Array Field} {f : Field} {n : Nat} (ho : o.op = .fieldAddr T x i) (hx : ev sl x = some (.pointer (some ⟨b, off, none⟩)))
    (hu : P.underlying T = some (.struct fs)) (hf : fs[i]? = some f) (hk : f.offset = k) (hz : ∀ w, (sizeOf f.type).run P w = .ok (n + 1) w) : Gets P o sl L (.pointer (some ⟨b, off + k, none⟩)) := by
  intro a w S R hs hL
  subst hk
  simp [execOp, ho, hs.ev hx, Instr.fieldAt, run_underlying hu, hf, Instr.sureAddr, fieldPlace, hz, addr_add]
theorem G.field {i : Nat} {fs : Array Field} {f : Field} {cs : Array Value} (ho : o.op = .field T x i) (hx : ev sl x = some (.agg cs)) (hu : P.underlying T = some (.struct fs)) (hf : fs[i]? = some f)
    (hp : ∀ w, (part f.type cs f.offset).run P w = .ok v w) : Gets P o sl L v := by
  intro a w S R hs hL
  simp [execOp, ho, hs.ev hx, Instr.field, run_underlying hu, hf, asAgg, hp w]
theorem G.extract {i : Nat} {vs : List Value} (ho : o.op = .extract x i) (hx : ev sl x = some (.tuple vs.toArray)) (hi : vs[i]? = some v) : Gets P o sl L v := by
  intro a w S R hs hL
  simp [execOp, ho, hs.ev hx, Instr.extract, hi]
theorem G.conv {src dst : TypeId} (ho : o.op = .convert src dst x) (hx : ev sl x = some vx) (hr : ∀ w, (convert src dst vx).run P w = .ok v w) : Gets P o sl L v := by
  intro a w S R hs hL; simp only [execOp, ho, hs.ev hx, Sem.run_bind, Sem.run_pure, hr w, Result.andThen_ok]
theorem G.mkf {fn : Fn} {cap : List Operand} {cv : List Value} (ho : o.op = .makeFunc fn #[] cap.toArray) (h2 : evs sl cap = some cv) :
    Gets P o sl L (.func fn #[] cv.toArray) := by
  intro a w S R hs hL
  simp [execOp, ho, Instr.makeFunc, hs.evs h2]
/-- A load of one cell. -/
theorem G.ld (i j : Nat) {b off off' : Nat} {vs : List Value} (hi : L[i]? = some (cells b off vs)) (hj : vs[j]? = some v) (ho : o.op = .load T x) (hx : ev sl x = some (.pointer (some ⟨b, off', none⟩))) (hoff : off' = off + j)
    (ht : ∀ w, (isAgg T).run P w = .ok false w) : Gets P o sl L v := by
  intro a w S R hs hL
  obtain ⟨S1, S2, _, _, _, hc, _⟩ := stars_take L i _ hi w S R hL
  have hc := (hc j v hj).2.1
  subst hoff
  simp [execOp, ho, hs.ev hx, Instr.loadAt, Instr.sureAddr, loadVar, ht, hc]
theorem G.ldr (i j : Nat) {b off off' : Nat} {vs : List Value} (hi : L[i]? = some (rcells b off vs)) (hj : vs[j]? = some v) (ho : o.op = .load T x) (hx : ev sl x = some (.pointer (some ⟨b, off', none⟩))) (hoff : off' = off + j)
    (ht : ∀ w, (isAgg T).run P w = .ok false w) : Gets P o sl L v := by
  intro a w S R hs hL
  obtain ⟨S1, S2, _, _, _, hc, _⟩ := stars_take L i _ hi w S R hL
  have hc := (hc j v hj).2
  subst hoff
  simp [execOp, ho, hs.ev hx, Instr.loadAt, Instr.sureAddr, loadVar, ht, hc]
theorem G.ldt {b off : Nat} (hv : Tells L b off v) (ho : o.op = .load T x) (hx : ev sl x = some (.pointer (some ⟨b, off, none⟩))) (ht : ∀ w, (isAgg T).run P w = .ok false w) : Gets P o sl L v := by
  intro a w S R hs hL
  simp [execOp, ho, hs.ev hx, Instr.loadAt, Instr.sureAddr, loadVar, ht, hv w S R hL]
/-- A load of several cells, a struct's or an array's. -/
theorem G.lda (i j n : Nat) {b off off' : Nat} {vs : List Value} (hi : L[i]? = some (cells b off vs)) (hnb : Nat.ble (j + n) vs.length = true) (ho : o.op = .load T x) (hx : ev sl x = some (.pointer (some ⟨b, off', none⟩))) (hoff : off' = off + j)
    (ht : ∀ w, (isAgg T).run P w = .ok true w) (hz : ∀ w, (sizeOf T).run P w = .ok n w) : Gets P o sl L (.agg ((vs.drop j).take n).toArray) := by
  intro a w S R hs hL
  have hn := Nat.le_of_ble_eq_true hnb
  obtain ⟨S1, S2, _, _, _, hc, _⟩ := stars_take L i _ hi w S R hL
  subst hoff
  have hlen : ((vs.drop j).take n).length = n := by simp; omega
  have := run_loadCells_list (P := P) w ⟨b, off + j, none⟩ ((vs.drop j).take n) (fun k u hu => by
    rw [addr_add]
    have hk : k < n := by have := (List.getElem?_eq_some_iff.1 hu).1; omega
    rw [List.getElem?_take_of_lt hk, List.getElem?_drop] at hu
    have := (hc (j + k) u hu).2.1
    rwa [← Nat.add_assoc] at this)
  rw [hlen] at this
  simp [execOp, ho, hs.ev hx, Instr.loadAt, Instr.sureAddr, loadVar, ht, hz, this]
theorem G.ldar (i j n : Nat) {b off off' : Nat} {vs : List Value} (hi : L[i]? = some (rcells b off vs)) (hnb : Nat.ble (j + n) vs.length = true) (ho : o.op = .load T x) (hx : ev sl x = some (.pointer (some ⟨b, off', none⟩))) (hoff : off' = off + j)
    (ht : ∀ w, (isAgg T).run P w = .ok true w) (hz : ∀ w, (sizeOf T).run P w = .ok n w) : Gets P o sl L (.agg ((vs.drop j).take n).toArray) := by
  intro a w S R hs hL
  have hn := Nat.le_of_ble_eq_true hnb
  obtain ⟨S1, S2, _, _, _, hc, _⟩ := stars_take L i _ hi w S R hL
  subst hoff
  have hlen : ((vs.drop j).take n).length = n := by simp; omega
  have := run_loadCells_list (P := P) w ⟨b, off + j, none⟩ ((vs.drop j).take n) (fun k u hu => by
    rw [addr_add]
    have hk : k < n := by have := (List.getElem?_eq_some_iff.1 hu).1; omega
    rw [List.getElem?_take_of_lt hk, List.getElem?_drop] at hu
    have := (hc (j + k) u hu).2
    rwa [← Nat.add_assoc] at this)
  rw [hlen] at this
  simp [execOp, ho, hs.ev hx, Instr.loadAt, Instr.sureAddr, loadVar, ht, hz, this]
/-- The address of an element, and what is loaded from it: a row that is owned. -/
theorem G.idx {A : Option Addr} {ad : Addr} {n c : Nat} {k : IntKind} {i : Int} {e : TypeId} {s : Nat} (ho : o.op = .indexAddr T x y) (hx : ev sl x = some (.slice (some ad) n c)) (hy : ev sl y = some (.int k i))
    (h0 : 0 ≤ i) (h1 : i < n) (hu : P.underlying T = some (.slice e)) (hz : ∀ w, (sizeOf e).run P w = .ok s w) : Gets P o sl L (.pointer (some (ad.add (i.toNat * s)))) := by
  intro a w S R hs hL
  simp [execOp, ho, hs.ev hx, hs.ev hy, Instr.indexAt, asIntOf, run_underlying hu, h0, h1, hz]
theorem G.idxo {U : Type} (E : Enc U) (j : Nat) {e : TypeId} {A : Option Addr} {c n c' : Nat} {ys : List U} (hj : L[j]? = some (ownl E e A c' ys)) {k : IntKind} {i : Int} (ho : o.op = .indexAddr T x y) (hx : ev sl x = some (rlv A n c)) (hy : ev sl y = some (.int k i))
    (h0 : 0 ≤ i) (h1 : i < n) (hn : n ≤ ys.length) (hu : P.underlying T = some (.slice e)) (hz : ∀ w, (sizeOf e).run P w = .ok E.sz w) : Gets P o sl L (.pointer (some ⟨(A.getD default).block, (A.getD default).off + i.toNat * E.sz, none⟩)) := by
  intro a w S R hs hL
  obtain ⟨S1, S2, _, _, _, hc, _⟩ := stars_take L j _ hj w S R hL
  have hpos := E.pos
  have : 0 < (E.flat ys).length := by rw [E.flat_length]; exact Nat.mul_pos (by omega) hpos
  obtain ⟨b, off, rfl, _⟩ := ownl_cell hc (List.getElem?_eq_getElem this)
  simp [execOp, ho, hs.ev hx, hs.ev hy, rlv, Instr.indexAt, asIntOf, run_underlying hu, h0, h1, hz, addr_add]
theorem G.idxr {U : Type} (E : Enc U) (j : Nat) {e : TypeId} {A : Option Addr} {c n : Nat} {ys : List U} (hj : L[j]? = some (rdl E A ys)) {k : IntKind} {i : Int} (ho : o.op = .indexAddr T x y) (hx : ev sl x = some (rlv A n c)) (hy : ev sl y = some (.int k i))
    (h0 : 0 ≤ i) (h1 : i < n) (hn : n ≤ ys.length) (hu : P.underlying T = some (.slice e)) (hz : ∀ w, (sizeOf e).run P w = .ok E.sz w) : Gets P o sl L (.pointer (some ⟨(A.getD default).block, (A.getD default).off + i.toNat * E.sz, none⟩)) := by
  intro a w S R hs hL
  obtain ⟨S1, S2, _, _, _, hc, _⟩ := stars_take L j _ hj w S R hL
  obtain ⟨p, rfl, _⟩ := hc.2 (by intro e; subst e; simp at hn; omega)
  simp [execOp, ho, hs.ev hx, hs.ev hy, rlv, Instr.indexAt, asIntOf, run_underlying hu, h0, h1, hz, addr_add]
theorem G.ldo {U : Type} (E : Enc U) (i j : Nat) {e : TypeId} {A : Option Addr} {c b off n : Nat} {ys : List U} {y : U} (hi : L[i]? = some (ownl E e A c ys)) (hy : ys[n]? = some y) (hj : (E.val y)[j]? = some v) (ho : o.op = .load T x)
    (hx : ev sl x = some (.pointer (some ⟨b, off, none⟩))) (hb : b = (A.getD default).block) (hoff : off = (A.getD default).off + n * E.sz + j) (ht : ∀ w, (isAgg T).run P w = .ok false w) : Gets P o sl L v := by
  intro a w S R hs hL
  obtain ⟨S1, S2, _, _, _, hc, _⟩ := stars_take L i _ hi w S R hL
  have hjs : j < E.sz := by have := (List.getElem?_eq_some_iff.1 hj).1; rwa [E.len] at this
  have hf := E.flat_get ys n j y hy hjs
  rw [hj] at hf
  obtain ⟨b', o', rfl, _, hcell, _⟩ := ownl_cell hc hf
  simp only [Option.getD_some] at hb hoff
  subst hb; subst hoff
  rw [← Nat.add_assoc] at hcell
  simp [execOp, ho, hs.ev hx, Instr.loadAt, Instr.sureAddr, loadVar, ht, hcell]
theorem G.ldoa {U : Type} (E : Enc U) (i : Nat) {e : TypeId} {A : Option Addr} {c b off n : Nat} {ys : List U} {y : U} (hi : L[i]? = some (ownl E e A c ys)) (hy : ys[n]? = some y) (ho : o.op = .load T x)
    (hx : ev sl x = some (.pointer (some ⟨b, off, none⟩))) (hb : b = (A.getD default).block) (hoff : off = (A.getD default).off + n * E.sz) (ht : ∀ w, (isAgg T).run P w = .ok true w) (hz : ∀ w, (sizeOf T).run P w = .ok E.sz w) : Gets P o sl L (.agg (E.val y).toArray) := by
  intro a w S R hs hL
  obtain ⟨S1, S2, _, _, _, hc, _⟩ := stars_take L i _ hi w S R hL
  have h0 : (E.val y)[0]? = some ((E.val y)[0]'(by rw [E.len]; exact E.pos)) := List.getElem?_eq_getElem _
  have hf := E.flat_get ys n 0 y hy E.pos
  rw [h0] at hf
  obtain ⟨b', o', rfl, _, _, _⟩ := ownl_cell hc hf
  simp only [Option.getD_some] at hb hoff
  subst hb; subst hoff
  have := run_loadCells_list (P := P) w ⟨b, o' + n * E.sz, none⟩ (E.val y) (fun k u hu => by
    rw [addr_add]
    have hk : k < E.sz := by have := (List.getElem?_eq_some_iff.1 hu).1; rwa [E.len] at this
    have hf := E.flat_get ys n k y hy hk
    rw [hu] at hf
    obtain ⟨b'', o'', he, _, hcell, _⟩ := ownl_cell hc hf
    injection he with he
    injection he with h1 h2
    subst h1; subst h2
    rw [Nat.add_assoc]
    exact hcell)
  rw [E.len] at this
  simp [execOp, ho, hs.ev hx, Instr.loadAt, Instr.sureAddr, loadVar, ht, hz, this]
theorem G.lde {U : Type} (E : Enc U) (i j : Nat) {A : Option Addr} {b off n : Nat} {ys : List U} {y : U} (hi : L[i]? = some (rdl E A ys)) (hy : ys[n]? = some y) (hj : (E.val y)[j]? = some v) (ho : o.op = .load T x)
    (hx : ev sl x = some (.pointer (some ⟨b, off, none⟩))) (hb : b = (A.getD default).block) (hoff : off = (A.getD default).off + n * E.sz + j) (ht : ∀ w, (isAgg T).run P w = .ok false w) : Gets P o sl L v := by
  intro a w S R hs hL
  obtain ⟨S1, S2, _, _, _, hc, _⟩ := stars_take L i _ hi w S R hL
  have hjs : j < E.sz := by have := (List.getElem?_eq_some_iff.1 hj).1; rwa [E.len] at this
  have hf := E.flat_get ys n j y hy hjs
  rw [hj] at hf
  obtain ⟨p, rfl, hcell⟩ := hc.2 (by intro e; subst e; simp at hy)
  have hcell := (hcell _ _ hf).2
  simp only [Option.getD_some] at hb hoff
  subst hb; subst hoff
  rw [← Nat.add_assoc] at hcell
  simp [execOp, ho, hs.ev hx, Instr.loadAt, Instr.sureAddr, loadVar, ht, hcell]
theorem G.ldea {U : Type} (E : Enc U) (i : Nat) {A : Option Addr} {b off n : Nat} {ys : List U} {y : U} (hi : L[i]? = some (rdl E A ys)) (hy : ys[n]? = some y) (ho : o.op = .load T x)
    (hx : ev sl x = some (.pointer (some ⟨b, off, none⟩))) (hb : b = (A.getD default).block) (hoff : off = (A.getD default).off + n * E.sz) (ht : ∀ w, (isAgg T).run P w = .ok true w) (hz : ∀ w, (sizeOf T).run P w = .ok E.sz w) : Gets P o sl L (.agg (E.val y).toArray) := by
  intro a w S R hs hL
  obtain ⟨S1, S2, _, _, _, hc, _⟩ := stars_take L i _ hi w S R hL
  obtain ⟨p, rfl, hcell⟩ := hc.2 (by intro e; subst e; simp at hy)
  simp only [Option.getD_some] at hb hoff
  subst hb; subst hoff
  have := run_loadCells_list (P := P) w ⟨p.1, p.2 + n * E.sz, none⟩ (E.val y) (fun k u hu => by
    rw [addr_add]
    have hk : k < E.sz := by have := (List.getElem?_eq_some_iff.1 hu).1; rwa [E.len] at this
    have hf := E.flat_get ys n k y hy hk
    rw [hu] at hf
    have := (hcell _ _ hf).2
    rwa [← Nat.add_assoc] at this)
  rw [E.len] at this
  simp [execOp, ho, hs.ev hx, Instr.loadAt, Instr.sureAddr, loadVar, ht, hz, this]
theorem G.lens {A : Option Addr} {n c : Nat} {T e : TypeId} (ho : o.op = .call { callee := .builtin .len, args := #[x], argTypes := #[T] }) (hx : ev sl x = some (.slice A n c)) (hu : P.underlying T = some (.slice e)) : Gets P o sl L (.int .i64 n) := by
  intro a w S R hs hL
  simp [execOp, ho, hs.ev hx, resolve, invoke, builtin, Builtin.len_, run_underlying hu, goInt]
theorem G.lenstr {s : ByteArray} {T : TypeId} (ho : o.op = .call { callee := .builtin .len, args := #[x], argTypes := #[T] }) (hx : ev sl x = some (.string s)) (hu : P.underlying T = some .string) : Gets P o sl L (.int .i64 s.size) := by
  intro a w S R hs hL
  simp [execOp, ho, hs.ev hx, resolve, invoke, builtin, Builtin.len_, run_underlying hu, goInt]
/-- A builtin that reads no memory. -/
theorem G.blt {b : Builtin} {args : List Operand} {tys : Array TypeId} {vs : List Value} (ho : o.op = .call { callee := .builtin b, args := args.toArray, argTypes := tys }) (h1 : evs sl args = some vs)
    (hr : ∀ w ty cs, (builtin b tys ty cs vs.toArray).run P w = .ok (.value v) w) : Gets P o sl L v := by
  intro a w S R hs hL
  simp [execOp, ho, resolve, invoke, hs.evs h1, hr]
theorem G.slc {lo hi mx : Option Operand} {lv hv mv : Option Value} (ho : o.op = .slice T x lo hi mx) (hx : ev sl x = some vx) (h1 : evo sl lo = some lv) (h2 : evo sl hi = some hv)
    (h3 : evo sl mx = some mv) (hr : ∀ w, (Instr.sliceAt T vx lv hv mv).run P w = .ok v w) : Gets P o sl L v := by
  intro a w S R hs hL
  simp [execOp, ho, hs.ev hx, hs.evo h1, hs.evo h2, hs.evo h3, hr w]
end gets
end
end Go.Tr
