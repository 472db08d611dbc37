/-
  The rules for what writes and makes memory, for calls by their contracts, for code, and for a function's begin and end.
-/
import Derived.Test.YtllhegccpknncaaSlb
import Derived.Laws.IdiomCopy
import Derived.RangeFuncRecord
set_option linter.unusedVariables false
set_option linter.unusedSimpArgs false
set_option linter.unusedSectionVars false
namespace Go.Tr

theorem Agree.of_blocks {w w' : World} {T : Fp} (h : ∀ b, b < w.heap.size → w'.heap[b]? = w.heap[b]?) (hT : ∀ b o, T b o → b < w.heap.size) : Agree w w' T :=
  ⟨fun b o ht => Same.of_blk (h b (hT b o ht)) o, fun b ht => h b (hT b 0 (ht 0))⟩

section
variable {P : Program} {w0 : World} {S0 R : Fp} {N : Nat} {sl : List (Nat × Value)} {L : List Assn} {a : Act} {w : World}
variable {ops : Array Oper} {Q : Exit → Act → World → Prop} {rest : List Oper} {o : Oper} {d : Nat} {v : Value}

/-- What an operation does: its value and what is had behind it. -/
def Acts (P : Program) (o : Oper) (sl : List (Nat × Value)) (L : List Assn) (Post : Value → List Assn → Prop) : Prop :=
  ∀ (a : Act) (w : World) (S R : Fp), Slots sl a → (stars L).holds w S R → (∀ b o, S b o → b < w.heap.size) → (∀ b o, R b o → b < w.heap.size) → (∀ b o, S b o → ¬ R b o) →
    ∃ v w' L' S', (execOp a.eval o).run P w = .ok (.value v) w' ∧ Post v L' ∧ Evo S w w' ∧ (stars L').holds w' S' R ∧ (∀ b o, S' b o → b < w'.heap.size) ∧ (∀ b o, S' b o → S b o ∨ w.heap.size ≤ b)
/-- Likewise of one without a value. -/
def Puts (P : Program) (o : Oper) (sl : List (Nat × Value)) (L L' : List Assn) : Prop :=
  ∀ (a : Act) (w : World) (S R : Fp), Slots sl a → (stars L).holds w S R → (∀ b o, S b o → b < w.heap.size) → (∀ b o, R b o → b < w.heap.size) → (∀ b o, S b o → ¬ R b o) →
    ∃ w' S', (execOp a.eval o).run P w = .ok .skip w' ∧ Evo S w w' ∧ (stars L').holds w' S' R ∧ (∀ b o, S' b o → b < w'.heap.size) ∧ (∀ b o, S' b o → S b o ∨ w.heap.size ≤ b)

theorem St.actK (h : St w0 S0 R N sl L a w) {Post : Value → List Assn → Prop} {K : Act → World → Prop} (hd : o.dst = some d) (hN : Nat.blt d N = true) (hv : Acts P o sl L Post)
    (k : ∀ v L' a' w', Post v L' → St w0 S0 R N ((d, v) :: sl) L' a' w' → K a' w') : o.wp P a w K Q := by
  obtain ⟨S, hL, hR, hal, h0, hM⟩ := h.heap
  have hrw : ∀ b o, R b o → b < w.heap.size := fun b o x => Nat.lt_of_lt_of_le (h.ralloc b o x) h.evo.size
  obtain ⟨v, w', L', S', hrun, hp, hE, hL', hal', hS'⟩ := hv a w S R h.slots hL hal hrw hR
  unfold Oper.wp
  rw [hrun, Oper.upon_value, hd]
  refine k v L' _ w' hp ?_
  have hdd : d < a.tmps.size := by rw [h.sz]; exact blt_lt hN
  refine ⟨by simp [Act.put, h.sz], h.slots.put hdd v, ⟨S', hL', ?_, hal', ?_, hM.step hE (fun _ _ x => x) hS'⟩, h.ralloc, h.evo.trans hE h0⟩
  · intro b o hb hr
    exact (hS' b o hb).elim (fun x => hR b o x hr) fun x => by have := hrw b o hr; omega
  · intro b o hb
    exact (hS' b o hb).elim (h0 b o) fun x => .inr (Nat.le_trans h.evo.size x)
theorem St.act (h : St w0 S0 R N sl L a w) {Post : Value → List Assn → Prop} (hg : o.guard = none) (hd : o.dst = some d) (hN : Nat.blt d N = true) (hv : Acts P o sl L Post)
    (k : ∀ v L' a' w', Post v L' → St w0 S0 R N ((d, v) :: sl) L' a' w' → wpList P ops Q rest a' w') : wpList P ops Q (o :: rest) a w :=
  wpList_plain hg fun _ hK => h.actK hd hN hv fun v L' a' w' hp h => hK _ _ (k v L' a' w' hp h)

theorem St.putK (h : St w0 S0 R N sl L a w) {L' : List Assn} {K : Act → World → Prop} (hd : o.dst = none) (hv : Puts P o sl L L')
    (k : ∀ a' w', St w0 S0 R N sl L' a' w' → K a' w') : o.wp P a w K Q := by
  obtain ⟨S, hL, hR, hal, h0, hM⟩ := h.heap
  have hrw : ∀ b o, R b o → b < w.heap.size := fun b o x => Nat.lt_of_lt_of_le (h.ralloc b o x) h.evo.size
  obtain ⟨w', S', hrun, hE, hL', hal', hS'⟩ := hv a w S R h.slots hL hal hrw hR
  unfold Oper.wp
  rw [hrun, Oper.upon_skip, hd]
  refine k _ w' ?_
  refine ⟨h.sz, h.slots, ⟨S', hL', ?_, hal', ?_, hM.step hE (fun _ _ x => x) hS'⟩, h.ralloc, h.evo.trans hE h0⟩
  · intro b o hb hr
    exact (hS' b o hb).elim (fun x => hR b o x hr) fun x => by have := hrw b o hr; omega
  · intro b o hb
    exact (hS' b o hb).elim (h0 b o) fun x => .inr (Nat.le_trans h.evo.size x)
theorem St.put (h : St w0 S0 R N sl L a w) {L' : List Assn} (hg : o.guard = none) (hd : o.dst = none) (hv : Puts P o sl L L')
    (k : ∀ a' w', St w0 S0 R N sl L' a' w' → wpList P ops Q rest a' w') : wpList P ops Q (o :: rest) a w :=
  wpList_plain hg fun _ hK => h.putK hd hv fun a' w' h => hK _ _ (k a' w' h)

/-- Some draw, nothing else. -/
theorem St.drew (h : St w0 S0 R N sl L a w) : St w0 S0 R N sl L a w.drew :=
  h.go rfl rfl h.slots fun S hL hal hR hSR => ⟨Evo.drew S w, S, (stars L).loc hL (Agree.of_blocks (fun _ _ => rfl) fun b o x => x.elim (hal b o) (hR b o)), hal, fun _ _ x => .inl x⟩

/-! ### New blocks -/

/-- A new block beside what is there. -/
theorem holds_new {w : World} {S R : Fp} (hL : (stars L).holds w S R) (hal : ∀ b o, S b o → b < w.heap.size) (hR : ∀ b o, R b o → b < w.heap.size) (x : Obj) {A : Assn} (hA : ∀ T : Fp, (∀ o, T w.heap.size o) → A.holds (w.alloc x) T R) :
    ∃ S' : Fp, (stars (A :: L)).holds (w.alloc x) S' R ∧ (∀ b o, S' b o → b < (w.alloc x).heap.size) ∧ (∀ b o, S' b o → S b o ∨ w.heap.size ≤ b) := by
  refine ⟨fun b o => b = w.heap.size ∨ S b o, ⟨fun b _ => b = w.heap.size, S, fun b o h => .inl h, fun b o h => .inr h, fun b o h1 h2 => ?_, hA _ fun _ => rfl, ?_⟩, ?_, ?_⟩
  · have := hal b o h2; omega
  · exact (stars L).loc hL (Agree.of_blocks (fun b hb => RowKit.Below.heap_alloc w x b hb) fun b o x => x.elim (hal b o) (hR b o))
  · intro b o h
    rw [World.size_alloc]
    exact h.elim (fun e => by omega) fun e => by have := hal b o e; omega
  · intro b o h
    exact h.elim (fun e => .inr (by omega)) .inl
theorem cells_new (w : World) (vs : List Value) (e : TypeId) (T R : Fp) (hT : ∀ o, T w.heap.size o) : (cells w.heap.size 0 vs).holds (w.alloc (.cells vs.toArray e)) T R := by
  intro i v hv
  refine ⟨hT _, ?_, ?_⟩
  · rw [Nat.zero_add, World.cell?_alloc_new]; simpa using hv
  · rw [Nat.zero_add, World.frozen?_alloc_new]

theorem Acts.alloc {T : TypeId} {z : Value} (ho : o.op = .alloc T) (hz : ∀ w, (zeroValue T).run P w = .ok z w) : Acts P o sl L (fun v L' => ∃ b, v = .pointer (some ⟨b, 0, none⟩) ∧ L' = cells b 0 z.cells.toList :: L) := by
  intro a w S R hs hL hal hR hSR
  obtain ⟨S', h1, h2, h3⟩ := holds_new hL hal hR (.cells z.cells.toList.toArray T) (A := cells w.heap.size 0 z.cells.toList) fun T' hT' => cells_new w _ _ T' R hT'
  refine ⟨.pointer (some ⟨w.heap.size, 0, none⟩), w.alloc (.cells z.cells.toList.toArray T), _, S', ?_, ⟨_, rfl, rfl⟩, Evo.alloc S w _, h1, h2, h3⟩
  simp [execOp, ho, Instr.alloc, hz, newVar, newRow]
theorem Acts.box {T : TypeId} {x : Operand} {vx : Value} (ho : o.op = .box T x) (hx : ev sl x = some vx) : Acts P o sl L (fun v L' => ∃ b, v = .pointer (some ⟨b, 0, none⟩) ∧ L' = cells b 0 vx.cells.toList :: L) := by
  intro a w S R hs hL hal hR hSR
  obtain ⟨S', h1, h2, h3⟩ := holds_new hL hal hR (.cells vx.cells.toList.toArray T) (A := cells w.heap.size 0 vx.cells.toList) fun T' hT' => cells_new w _ _ T' R hT'
  refine ⟨.pointer (some ⟨w.heap.size, 0, none⟩), w.alloc (.cells vx.cells.toList.toArray T), _, S', ?_, ⟨_, rfl, rfl⟩, Evo.alloc S w _, h1, h2, h3⟩
  simp [execOp, ho, hs.ev hx, Instr.box, newVar, newRow]

/-- A row that a block holds whole. -/
theorem ownl_new {U : Type} (E : Enc U) (w : World) (ys : List U) (c : Nat) (cur : Array Value) (e : TypeId) (T R : Fp) (hT : ∀ o, T w.heap.size o) (hc : ys.length ≤ c) (hm : c ≤ maxLen) (hs : cur.size = c * E.sz) (ht : cur.toList.take (ys.length * E.sz) = E.flat ys) :
    (ownl E e (some ⟨w.heap.size, 0, none⟩) c ys).holds (w.alloc (.cells cur e)) T R :=
  .inr ⟨w.heap.size, 0, cur, rfl, hT, heap_alloc_new w _, hc, hm, by omega, by simpa using ht⟩
theorem ownl_nil {U : Type} (E : Enc U) (e : TypeId) (w : World) (S R : Fp) (A : Option Addr := none) : (ownl E e A 0 []).holds w S R := .inl ⟨rfl, rfl⟩
theorem rdl_nil {U : Type} (E : Enc U) (w : World) (A : Option Addr) (S R : Fp) : (rdl E A []).holds w S R := ⟨by simp, fun h => absurd rfl h⟩

theorem foldl_set (off : Nat) : ∀ (l : List Value) (k : Nat) (cs : Array Value), off + k + l.length ≤ cs.size →
    ((l.zipIdx k).foldl (fun (cs : Array Value) (p : Value × Nat) => cs.setIfInBounds (off + p.2) p.1) cs).toList = cs.toList.take (off + k) ++ l ++ cs.toList.drop (off + k + l.length)
  | [], k, cs, h => by simp
  | v :: l, k, cs, h => by
    simp only [List.length_cons] at h
    have ih := foldl_set off l (k + 1) (cs.setIfInBounds (off + k) v) (by simp; omega)
    simp only [List.zipIdx_cons, List.foldl_cons, ih, Array.toList_setIfInBounds]
    have hl : off + k < cs.toList.length := by simp; omega
    rw [List.take_set, List.drop_set_of_lt (by omega), show off + (k + 1) = off + k + 1 by omega, List.take_succ_eq_append_getElem hl, List.set_append_right _ _ (by simp; omega)]
    simp [Nat.min_eq_left (Nat.le_of_lt (show off + k < cs.size by omega))]
    congr 1
    omega
/-- The parts are the elements, one behind the other. -/
def Covers {U : Type} (E : Enc U) : Nat → List (Nat × Value) → List U → Prop
  | _, [], [] => True
  | i, p :: l, y :: ys => p.1 = i ∧ p.2.cells.toList = E.val y ∧ Covers E (i + 1) l ys
  | _, _, _ => False
theorem fill_covers {U : Type} (E : Enc U) : ∀ (pv : List (Nat × Value)) (ys : List U) (i : Nat) (cs : Array Value), Covers E i pv ys → (i + ys.length) * E.sz ≤ cs.size →
    ∃ cs', Instr.fill (fun i => some (i * E.sz, E.sz)) cs pv = some cs' ∧ cs'.toList = cs.toList.take (i * E.sz) ++ E.flat ys ++ cs.toList.drop ((i + ys.length) * E.sz)
  | [], [], i, cs, h, hs => ⟨cs, rfl, by simp [Enc.flat]⟩
  | p :: l, y :: ys, i, cs, h, hs => by
    obtain ⟨h1, h2, h3⟩ := h
    have hsz : p.2.cells.size = E.sz := by rw [← Array.length_toList, h2, E.len]
    have hin : i * E.sz + E.sz ≤ cs.size := by
      simp only [List.length_cons] at hs
      have := Nat.mul_le_mul_right E.sz (show i + 1 ≤ i + (ys.length + 1) by omega)
      rw [Nat.add_mul, Nat.one_mul] at this
      omega
    have hfold := foldl_set (i * E.sz) p.2.cells.toList 0 cs (by simp [hsz]; omega)
    let cs1 := p.2.cells.zipIdx.foldl (fun (cs : Array Value) (q : Value × Nat) => cs.setIfInBounds (i * E.sz + q.2) q.1) cs
    have hcs1 : cs1.toList = cs.toList.take (i * E.sz) ++ E.val y ++ cs.toList.drop (i * E.sz + E.sz) := by
      have : cs1 = (p.2.cells.toList.zipIdx).foldl (fun (cs : Array Value) (q : Value × Nat) => cs.setIfInBounds (i * E.sz + q.2) q.1) cs := by
        show Array.foldl _ _ _ = _
        rw [← Array.foldl_toList, Array.toList_zipIdx]
      rw [this, hfold, h2, Nat.add_zero, E.len]
    have hcs1s : cs1.size = cs.size := by rw [← Array.length_toList, hcs1]; simp [E.len]; omega
    obtain ⟨cs', hf, ht⟩ := fill_covers E l ys (i + 1) cs1 h3 (by rw [hcs1s]; simp only [List.length_cons] at hs; rw [show i + 1 + ys.length = i + (ys.length + 1) by omega]; exact hs)
    refine ⟨cs', ?_, ?_⟩
    · subst h1
      have hb : (p.2.cells.size ≠ E.sz || p.1 * E.sz + p.2.cells.size > cs.size) = false := by simp [hsz]; omega
      obtain ⟨p1, p2⟩ := p
      simp only [Instr.fill]
      simp only at hb hf
      rw [if_neg (by simpa using hb)]
      exact hf
    · rw [ht, hcs1, E.flat_cons]
      have e1 : (cs.toList.take (i * E.sz) ++ E.val y ++ cs.toList.drop (i * E.sz + E.sz)).take ((i + 1) * E.sz) = cs.toList.take (i * E.sz) ++ E.val y := by
        rw [List.take_append_of_le_length (by simp [E.len, Nat.add_mul]; omega), List.take_of_length_le (by simp [E.len, Nat.add_mul]; omega)]
      have e2 : (cs.toList.take (i * E.sz) ++ E.val y ++ cs.toList.drop (i * E.sz + E.sz)).drop ((i + 1 + ys.length) * E.sz) = cs.toList.drop ((i + (y :: ys).length) * E.sz) := by
        have hl : (cs.toList.take (i * E.sz) ++ E.val y).length = i * E.sz + E.sz := by simp [E.len]; omega
        rw [List.drop_append, List.drop_of_length_le (by rw [hl, Nat.add_mul, Nat.add_mul]; omega), List.nil_append, List.drop_drop, hl]
        congr 1
        rw [List.length_cons, show i + 1 + ys.length = i + 1 + ys.length from rfl, Nat.add_mul, Nat.add_mul, Nat.add_mul, Nat.add_mul]
        omega
      rw [e1, e2]
      simp
  | [], y :: ys, i, cs, h, hs => h.elim
  | p :: l, [], i, cs, h, hs => h.elim

/-- A slice written out: its elements. -/
theorem Acts.bslice {U : Type} (E : Enc U) (ys : List U) {T e : TypeId} {n : Nat} {parts : List (Nat × Operand)} {pv : List (Nat × Value)} {z : Value} (ho : o.op = .buildSlice T n parts.toArray) (hp : evp sl parts = some pv)
    (hu : P.underlying T = some (.slice e)) (hsz : ∀ w, (sizeOf e).run P w = .ok E.sz w) (hz : ∀ w, (zeroValue e).run P w = .ok z w) (hn : n = ys.length) (hb : n * E.sz ≤ 1024)
    (hf : Covers E 0 pv ys) :
    Acts P o sl L (fun v L' => ∃ b, v = rlv (some ⟨b, 0, none⟩) n n ∧ L' = ownl E e (some ⟨b, 0, none⟩) n ys :: L) := by
  intro a w S R hs hL hal hR hSR
  have hpos := E.pos
  have hnm : n ≤ maxLen := by have := Nat.le_mul_of_pos_right n hpos; simp only [maxLen]; omega
  obtain ⟨S', h1, h2, h3⟩ := holds_new hL hal hR (.cells (E.flat ys).toArray e) (A := ownl E e (some ⟨w.heap.size, 0, none⟩) n ys) fun T' hT' =>
    ownl_new E w ys n _ e T' R hT' (by omega) hnm (by simp [E.flat_length, hn]) (by rw [← E.flat_length]; simp)
  refine ⟨.slice (some ⟨w.heap.size, 0, none⟩) n n, w.alloc (.cells (E.flat ys).toArray e), _, S', ?_, ⟨_, rfl, rfl⟩, Evo.alloc S w _, h1, h2, h3⟩
  have hp' : (parts.toArray.map fun (i, x) => (i, a.eval x)) = pv.toArray := by rw [← hs.evp hp]; simp
  have key : ∀ base : Array Value, base.size = n * E.sz → Instr.fill (fun i => some (i * E.sz, E.sz)) base pv = some (E.flat ys).toArray := by
    intro base hbs
    obtain ⟨cs', h1, h2⟩ := fill_covers E pv ys 0 base hf (by rw [hbs, hn]; simp)
    have hl : (0 + ys.length) * E.sz = base.toList.length := by simp [hbs, hn]
    rw [h1]
    congr 1
    apply Array.ext'
    rw [h2, hl]
    simp
  by_cases h0 : n * E.sz = 0
  · have hn0 : n = 0 := by rcases Nat.mul_eq_zero.1 h0 with h | h <;> omega
    have hy : ys = [] := List.eq_nil_of_length_eq_zero (by omega)
    have hk := key ((Array.range (n * E.sz)).map fun x => (#[] : Array Value)[x % (#[] : Array Value).size]!) (by simp)
    simp only [execOp, ho, hp', Instr.buildSlice, Sem.run_bind, run_underlying hu, Result.andThen_ok, hsz, Sem.run_pure]
    rw [if_neg (show ¬ (n * E.sz > 2 ^ 24) by omega)]
    simp only [h0, if_true, Sem.run_pure, Sem.run_bind, Result.andThen_ok]
    rw [h0] at hk
    simp only [hk, newRow, Sem.run_bind, run_newObj, Sem.run_pure, Result.andThen_ok]
    rfl
  · have hk := key ((Array.range (n * E.sz)).map fun x => z.cells[x % z.cells.size]!) (by simp)
    simp only [execOp, ho, hp', Instr.buildSlice, Sem.run_bind, run_underlying hu, Result.andThen_ok, hsz, hz, Sem.run_pure]
    rw [if_neg (show ¬ (n * E.sz > 2 ^ 24) by omega)]
    simp only [h0, if_false, Sem.run_bind, hz, Result.andThen_ok, Sem.run_pure, hk, newRow, run_newObj]
    rfl

/-! ### Stores -/

theorem cells_store {w : World} {S R : Fp} {b off j : Nat} {vs : List Value} (h : (cells b off vs).holds w S R) (hj : j < vs.length) (v : Value) : (cells b off (vs.set j v)).holds (w.setCell ⟨b, off + j, none⟩ v) S R := by
  intro i u hu
  by_cases e : i = j
  · subst e
    simp only [List.getElem?_set_self hj, Option.some.injEq] at hu
    subst hu
    obtain ⟨h1, h2, h3⟩ := h i _ (List.getElem?_eq_getElem hj)
    exact ⟨h1, World.cell?_setCell_same w _ _ h2, by rw [World.frozen?_setCell]; exact h3⟩
  · rw [List.getElem?_set_ne (fun x => e x.symm)] at hu
    obtain ⟨h1, h2, h3⟩ := h i u hu
    refine ⟨h1, ?_, by rw [World.frozen?_setCell]; exact h3⟩
    rw [World.cell?_setCell_other w _ _ _ (by intro x; injection x with _ x; omega)]
    exact h2
/-- One of a list is stored into. -/
theorem holds_put {w w' : World} {S R : Fp} (hL : (stars L).holds w S R) (hSR : ∀ b o, S b o → ¬ R b o) (hal : ∀ b o, S b o → b < w.heap.size) (hR : ∀ b o, R b o → b < w.heap.size) (i : Nat) {A B : Assn} (hi : L[i]? = some A)
    (hB : ∀ T, (∀ b o, T b o → S b o) → A.holds w T R → B.holds w' T R ∧ Evo T w w') : (stars (L.set i B)).holds w' S R ∧ Evo S w w' := by
  obtain ⟨S1, S2, h1, h2, hd, ha, hb⟩ := stars_take L i A hi w S R hL
  obtain ⟨hB1, hE⟩ := hB S1 h1 ha
  refine ⟨stars_put L i A B hi w' S R ⟨S1, S2, h1, h2, hd, hB1, ?_⟩, ?_⟩
  · exact (stars (L.eraseIdx i)).loc hb (hE.agree.mono fun b o x => ⟨x.elim (fun y => hal b o (h2 b o y)) (hR b o), fun y => x.elim (hd b o y) fun z => hSR b o (h1 b o y) z⟩)
  · exact ⟨hE.os, hE.tape, hE.output, hE.size, hE.agree.mono fun b o ⟨x, y⟩ => ⟨x, fun z => y (h1 b o z)⟩⟩

theorem U.st (i j : Nat) {b off off' : Nat} {vs : List Value} {T : TypeId} {x y : Operand} (hi : L[i]? = some (cells b off vs)) (ho : o.op = .store T x y) (hx : ev sl x = some (.pointer (some ⟨b, off', none⟩))) (hy : ev sl y = some v) (hoff : off' = off + j)
    (hjb : Nat.blt j vs.length = true) (h1 : v.oneCell' = true) (hz : ∀ w, (sizeOf T).run P w = .ok 1 w) : Puts P o sl L (L.set i (cells b off (vs.set j v))) := by
  intro a w S R hs hL hal hR hSR
  have hj := blt_lt hjb
  obtain ⟨S1, S2, hs1, _, _, hc, _⟩ := stars_take L i _ hi w S R hL
  have hcell := hc j _ (List.getElem?_eq_getElem hj)
  subst hoff
  have hput := holds_put hL hSR hal hR i hi (w' := w.setCell ⟨b, off + j, none⟩ v) (B := cells b off (vs.set j v)) fun T' hT' hA =>
    ⟨cells_store hA hj v, Evo.setCell w b _ v (hA j _ (List.getElem?_eq_getElem hj)).1⟩
  refine ⟨_, S, ?_, hput.2, hput.1, by simpa using hal, fun _ _ x => .inl x⟩
  have hcs : v.cells = #[v] := by cases v <;> simp_all [Value.cells, Value.oneCell']
  simp [execOp, ho, hs.ev hx, hs.ev hy, Instr.storeAt, Instr.sureAddr, storeVar, hcs, hz, storeCells, run_store P w _ v _ h1, addr_add, hcell.2.1, hcell.2.2]

theorem cells_stores {S R : Fp} {b off : Nat} : ∀ (us : List Value) (w : World) (j : Nat) (vs : List Value), (cells b off vs).holds w S R → j + us.length ≤ vs.length →
    (cells b off (vs.take j ++ us ++ vs.drop (j + us.length))).holds (w.setCells b (off + j) us) S R ∧ Evo S w (w.setCells b (off + j) us)
  | [], w, j, vs, h, hj => by
    simp only [List.append_nil, List.length_nil, Nat.add_zero, List.take_append_drop]
    exact ⟨h, Evo.refl _ _⟩
  | u :: us, w, j, vs, h, hj => by
    simp only [List.length_cons] at hj
    have hjl : j < vs.length := by omega
    have h1 := cells_store h hjl u
    have ih := cells_stores us _ (j + 1) (vs.set j u) h1 (by simp; omega)
    have he : (vs.set j u).take (j + 1) ++ us ++ (vs.set j u).drop (j + 1 + us.length) = vs.take j ++ (u :: us) ++ vs.drop (j + (us.length + 1)) := by
      rw [List.take_set, List.drop_set_of_lt (by omega), List.take_succ_eq_append_getElem hjl, show j + 1 + us.length = j + (us.length + 1) by omega]
      rw [List.set_append_right _ _ (by simp; omega)]
      simp [Nat.min_eq_left (Nat.le_of_lt hjl)]
    rw [he] at ih
    have hS : S b (off + j) := (h j _ (List.getElem?_eq_getElem hjl)).1
    refine ⟨ih.1, (Evo.setCell w b (off + j) u hS).trans ih.2 fun _ _ x => .inl x⟩

theorem size_setCells (b : Nat) : ∀ (l : List Value) (w : World) (k : Nat), (w.setCells b k l).heap.size = w.heap.size
  | [], w, k => rfl
  | u :: l, w, k => by simp only [World.setCells]; rw [size_setCells b l]; simp

theorem U.sta (i j : Nat) {b off off' : Nat} {vs : List Value} {us : Array Value} {T : TypeId} {x y : Operand} {n : Nat} (hi : L[i]? = some (cells b off vs)) (ho : o.op = .store T x y) (hx : ev sl x = some (.pointer (some ⟨b, off', none⟩))) (hy : ev sl y = some (.agg us)) (hoff : off' = off + j)
    (hjb : Nat.ble (j + us.toList.length) vs.length = true) (h1 : ∀ v ∈ us.toList, v.oneCell' = true) (hz : ∀ w, (sizeOf T).run P w = .ok n w) (hn : us.size = n) : Puts P o sl L (L.set i (cells b off (vs.take j ++ us.toList ++ vs.drop (j + us.toList.length)))) := by
  intro a w S R hs hL hal hR hSR
  have hj := Nat.le_of_ble_eq_true hjb
  obtain ⟨S1, S2, hs1, _, _, hc, _⟩ := stars_take L i _ hi w S R hL
  subst hoff
  have hput := holds_put hL hSR hal hR i hi (w' := w.setCells b (off + j) us.toList) (B := cells b off (vs.take j ++ us.toList ++ vs.drop (j + us.toList.length))) fun T' hT' hA => cells_stores us.toList w j vs hA hj
  have hsz : (w.setCells b (off + j) us.toList).heap.size = w.heap.size := size_setCells b _ w _
  refine ⟨_, S, ?_, hput.2, hput.1, by intro b o hb; rw [hsz]; exact hal b o hb, fun _ _ x => .inl x⟩
  have hst := run_storeCells_cells (P := P) b (off + j) us.toList 0 w (fun k hk => by
      obtain ⟨_, h2, _⟩ := hc (j + k) _ (List.getElem?_eq_getElem (by omega))
      rw [Nat.add_zero, Nat.add_assoc, h2]; rfl) (fun k hk => by
      obtain ⟨_, _, h3⟩ := hc (j + k) _ (List.getElem?_eq_getElem (by omega))
      rw [Nat.add_zero, Nat.add_assoc]; exact h3) h1
  simp only [Nat.add_zero] at hst
  have hsn : ¬ us.size ≠ n := fun h => h hn
  simp [execOp, ho, hs.ev hx, hs.ev hy, Instr.storeAt, Instr.sureAddr, storeVar, Value.cells, hz, hsn, hst]

theorem split3 {α : Type} (C : List α) (o N : Nat) (h : o + N ≤ C.length) : ∃ A W B : List α, C = A ++ (W ++ B) ∧ A.length = o ∧ W.length = N :=
  ⟨C.take o, (C.drop o).take N, (C.drop o).drop N, by rw [List.take_append_drop, List.take_append_drop], by simp; omega, by simp; omega⟩
theorem splice_window {α : Type} (C us : List α) (o m N : Nat) (h : m + us.length ≤ N) (hN : o + N ≤ C.length) :
    ((C.take (o + m) ++ us ++ C.drop (o + m + us.length)).drop o).take N = ((C.drop o).take N).take m ++ us ++ ((C.drop o).take N).drop (m + us.length) := by
  obtain ⟨A, W, B, rfl, rfl, rfl⟩ := split3 C o N hN
  have e1 : (A ++ (W ++ B)).take (A.length + m) = A ++ W.take m := by rw [List.take_length_add_append, List.take_append_of_le_length (by omega)]
  have e2 : (A ++ (W ++ B)).drop (A.length + m + us.length) = W.drop (m + us.length) ++ B := by rw [Nat.add_assoc, List.drop_length_add_append, List.drop_append_of_le_length h]
  have e3 : ((A ++ (W ++ B)).drop A.length).take W.length = W := by rw [List.drop_left, List.take_left]
  rw [e1, e2, e3]
  simp only [List.append_assoc]
  rw [List.drop_left]
  have hl : (W.take m ++ (us ++ W.drop (m + us.length))).length = W.length := by simp; omega
  rw [← List.append_assoc us, ← List.append_assoc (W.take m)]
  conv => lhs; rw [← hl]
  rw [List.take_left]
theorem splice_end {α : Type} (C us : List α) (o m : Nat) (hN : o + m + us.length ≤ C.length) :
    ((C.take (o + m) ++ us ++ C.drop (o + m + us.length)).drop o).take (m + us.length) = (C.drop o).take m ++ us := by
  have := splice_window C us o m (m + us.length) (Nat.le_refl _) (by omega)
  rw [this, List.take_take, Nat.min_eq_left (by omega)]
  have hz : List.drop (m + us.length) (List.take (m + us.length) (List.drop o C)) = [] := List.drop_of_length_le (by rw [List.length_take]; exact Nat.min_le_left _ _)
  rw [hz, List.append_nil]
theorem ownl_store {U : Type} (E : Enc U) {w : World} {S R : Fp} {e : TypeId} {A : Option Addr} {c n j : Nat} {ys : List U} {y y' : U} {v : Value} (h : (ownl E e A c ys).holds w S R) (hy : ys[n]? = some y) (hj : j < E.sz) (hv : E.val y' = (E.val y).set j v) :
    (ownl E e A c (ys.set n y')).holds (w.setCell ⟨(A.getD default).block, (A.getD default).off + n * E.sz + j, none⟩ v) S R ∧ Evo S w (w.setCell ⟨(A.getD default).block, (A.getD default).off + n * E.sz + j, none⟩ v) := by
  rcases h with ⟨rfl, _⟩ | ⟨b, off, cur, rfl, hS, hh, hnc, hcm, hcs, ht⟩
  · simp at hy
  · simp only [Option.getD_some]
    refine ⟨.inr ⟨b, off, cur.setIfInBounds (off + n * E.sz + j) v, rfl, hS, ?_, by simpa using hnc, hcm, by simpa using hcs, ?_⟩, Evo.setCell w _ _ _ (hS _)⟩
    · rw [setCell_eq_setRow w b _ cur e (0, 0) v hh]
      exact setRow_heap w b cur _ e _ hh
    · have hlt : n < ys.length := (List.getElem?_eq_some_iff.1 hy).1
      rw [List.length_set, E.flat_set ys n j y y' v hy hj hv, ← ht]
      have hk : n * E.sz + j < ys.length * E.sz := by
        have := Nat.mul_le_mul_right E.sz (show n + 1 ≤ ys.length from hlt)
        rw [Nat.add_mul] at this; omega
      rw [Array.toList_setIfInBounds, List.drop_set, if_neg (by omega), List.take_set, show off + n * E.sz + j - off = n * E.sz + j by omega]
theorem U.sto {U' : Type} (E : Enc U') (i j : Nat) {b off n : Nat} {e : TypeId} {A : Option Addr} {c : Nat} {ys : List U'} {y : U'} (y' : U') {T : TypeId} {x z : Operand} (hi : L[i]? = some (ownl E e A c ys)) (hy : ys[n]? = some y) (ho : o.op = .store T x z)
    (hx : ev sl x = some (.pointer (some ⟨b, off, none⟩))) (hz : ev sl z = some v) (hb : b = (A.getD default).block) (hoff : off = (A.getD default).off + n * E.sz + j) (hj : j < E.sz) (hv : E.val y' = (E.val y).set j v) (h1 : v.oneCell' = true) (hs : ∀ w, (sizeOf T).run P w = .ok 1 w) :
    Puts P o sl L (L.set i (ownl E e A c (ys.set n y'))) := by
  intro a w S R hsl hL hal hR hSR
  obtain ⟨S1, S2, hs1, _, _, hc, _⟩ := stars_take L i _ hi w S R hL
  have hf := E.flat_get ys n j y hy hj
  obtain ⟨u, hu⟩ : ∃ u, (E.val y)[j]? = some u := ⟨_, List.getElem?_eq_getElem (by rw [E.len]; exact hj)⟩
  rw [hu] at hf
  obtain ⟨b', o', hg, _, hcell, hfr⟩ := ownl_cell hc hf
  have hput := holds_put hL hSR hal hR i hi (w' := w.setCell ⟨(A.getD default).block, (A.getD default).off + n * E.sz + j, none⟩ v) (B := ownl E e A c (ys.set n y')) fun T' hT' hA => ownl_store E hA hy hj hv
  subst hb; subst hoff
  refine ⟨_, S, ?_, hput.2, hput.1, by simpa using hal, fun _ _ x => .inl x⟩
  have hcs : v.cells = #[v] := by cases v <;> simp_all [Value.cells, Value.oneCell']
  subst hg
  rw [← Nat.add_assoc] at hcell hfr
  simp [execOp, ho, hsl.ev hx, hsl.ev hz, Instr.storeAt, Instr.sureAddr, storeVar, hcs, hs, storeCells, run_store P w _ v _ h1, addr_add, hcell, hfr]
/-- An element is stored whole. -/
theorem U.stoa {U' : Type} (E : Enc U') (i : Nat) {b off n : Nat} {e : TypeId} {A : Option Addr} {c : Nat} {ys : List U'} (y' : U') {us : Array Value} {T : TypeId} {x z : Operand} (hi : L[i]? = some (ownl E e A c ys)) (hn : n < ys.length) (ho : o.op = .store T x z)
    (hx : ev sl x = some (.pointer (some ⟨b, off, none⟩))) (hz : ev sl z = some (.agg us)) (hb : b = (A.getD default).block) (hoff : off = (A.getD default).off + n * E.sz) (hv : us.toList = E.val y') (hs : ∀ w, (sizeOf T).run P w = .ok E.sz w) :
    Puts P o sl L (L.set i (ownl E e A c (ys.set n y'))) := by
  intro a w S R hsl hL hal hR hSR
  obtain ⟨S1, S2, hs1, _, _, hc, _⟩ := stars_take L i _ hi w S R hL
  rcases hc with ⟨rfl, _⟩ | ⟨b1, o1, cur, rfl, hS, hh, hnc, hcm, hcs, ht⟩
  · simp at hn
  simp only [Option.getD_some] at hb hoff
  subst hb; subst hoff
  have hsz : n * E.sz + E.sz ≤ ys.length * E.sz := by have := Nat.mul_le_mul_right E.sz (show n + 1 ≤ ys.length from hn); rwa [Nat.add_mul, Nat.one_mul] at this
  have hcl := Nat.mul_le_mul_right E.sz hnc
  have hul : us.size = E.sz := by rw [← Array.length_toList, hv, E.len]
  have hst := run_storeCells_at P b (o1 + n * E.sz) e us.toList 0 cur w hh (by simp [hul]; omega) (fun v hm => E.one y' v (hv ▸ hm))
  simp only [Nat.add_zero] at hst
  have hput := holds_put hL hSR hal hR i hi (w' := w.setRow b (cur.toList.take (o1 + n * E.sz) ++ us.toList ++ cur.toList.drop (o1 + n * E.sz + us.toList.length)).toArray) (B := ownl E e (some ⟨b, o1, none⟩) c (ys.set n y')) fun T' hT' hA => by
    rcases hA with ⟨hx, _⟩ | ⟨b2, o2, cur2, hA2, hS2, hh2, hnc2, hcm2, hcs2, ht2⟩
    · rw [hx] at hn; simp at hn
    injection hA2 with hA2
    injection hA2 with e1 e2
    subst e1; subst e2
    rw [hh] at hh2
    injection hh2 with hh2
    injection hh2 with hcur
    subst hcur
    refine ⟨.inr ⟨b, o1, _, rfl, hS2, setRow_heap w b cur _ e _ hh, by simpa using hnc, hcm, by simp [hul]; omega, ?_⟩, Evo.of_blocks rfl rfl rfl (by simp) fun k hk ⟨o', ho'⟩ => setRow_other w b k _ fun e => ho' (e ▸ hS2 o')⟩
    have hfl : E.flat (ys.set n y') = (E.flat ys).take (n * E.sz) ++ us.toList ++ (E.flat ys).drop (n * E.sz + E.sz) := by
      have h1 : ys.set n y' = ys.take n ++ y' :: ys.drop (n + 1) := by rw [List.set_eq_take_append_cons_drop, if_pos hn]
      rw [h1, E.flat_append, E.flat_cons, E.flat_take, E.flat_drop, hv, Nat.add_mul, Nat.one_mul, List.append_assoc]
    have hw := splice_window cur.toList us.toList o1 (n * E.sz) (ys.length * E.sz) (by simp [hul]; omega) (by simp; omega)
    have hul' : us.toList.length = E.sz := by simp [hul]
    rw [hfl, ← ht, List.length_set, List.toList_toArray, hw, hul']
  refine ⟨_, S, ?_, hput.2, hput.1, by simpa using hal, fun _ _ x => .inl x⟩
  have hsn : ¬ us.size ≠ E.sz := fun h => h hul
  simp [execOp, ho, hsl.ev hx, hsl.ev hz, Instr.storeAt, Instr.sureAddr, storeVar, Value.cells, hs, hsn, hst]

/-! ### append -/

theorem run_append_rows {U : Type} (E : Enc U) (t ty e : TypeId) (i : TypeInfo) (z : Value) (ht : P.underlying t = some (.slice e)) (hi : P.info? e = some i) (hz : i.zero = some z) (hsize : i.size = E.sz) (hzs : z.cells.size = E.sz) {A : Option Addr} {c : Nat} {ys zs : List U}
    (h : (ownl E e A c ys).holds w S0 R) (hal : ∀ b o, S0 b o → b < w.heap.size) (B : Option Addr) (c' : Nat) (hr : zs ≠ [] → ∃ p : Nat × Nat, B = some ⟨p.1, p.2, none⟩ ∧ ∀ k v, (E.flat zs)[k]? = some v → w.cell? ⟨p.1, p.2 + k, none⟩ = some v) (hb : (ys.length + zs.length) * i.bytes ≤ 140737488355328)
    (hm : ys.length + zs.length ≤ 140737488355328) :
    ∃ A' c'' w', (Builtin.append_ #[t, t] ty #[rlv A ys.length c, rlv B zs.length c']).run P w = .ok (rlv A' (ys ++ zs).length c'') w' ∧ Evo S0 w w' ∧
      (∃ S', (ownl E e A' c'' (ys ++ zs)).holds w' S' R ∧ (∀ b o, S' b o → b < w'.heap.size) ∧ ∀ b o, S' b o → S0 b o ∨ w.heap.size ≤ b) ∧ (A' = none ↔ A = none ∧ zs = []) := by
  have hsz : ∀ w, (sizeOf e).run P w = .ok E.sz w := by intro w; simp [sizeOf, typeInfo, hi, hsize]
  have hu := run_underlying ht
  have hcap := ownl_cap h
  by_cases h0 : zs = []
  · subst h0
    refine ⟨A, c, w, ?_, Evo.refl _ _, ⟨S0, by simpa using h, hal, fun _ _ x => .inl x⟩, by simp⟩
    have hnc := hcap.1
    rw [List.append_nil]
    cases A <;> cases B <;> simp [rlv, Builtin.append_, hu, hsz, Builtin.lenOf, Builtin.firstCells, loadCells, loadCellsFrom, hnc, storeCells]
  · obtain ⟨p, rfl, hcell⟩ := hr h0
    have hnews : ∀ j u, (E.flat zs)[j]? = some u → w.cell? ((⟨p.1, p.2, none⟩ : Addr).add j) = some u := fun j u hu => by rw [addr_add]; exact hcell j u hu
    have h1 : ∀ u ∈ E.flat zs, u.oneCell' = true := by
      intro u hu
      simp only [Enc.flat, List.mem_flatMap] at hu
      obtain ⟨y, _, hy⟩ := hu
      exact E.one y u hy
    have hzl : 0 < zs.length := by cases zs with
      | nil => exact absurd rfl h0
      | cons _ _ => simp
    have hfl : (E.flat zs).length = zs.length * i.size := by rw [E.flat_length, hsize]
    have hlen : (ys ++ zs).length = ys.length + zs.length := List.length_append
    have h63 : ((ys.length + zs.length : Nat) : Int) ≤ 9223372036854775807 := by omega
    -- a new block with all
    have fresh : ∀ old : Nat, (ownl E e (some ⟨w.heap.size, 0, none⟩) (grownCap w (ys.length + zs.length) old e) (ys ++ zs)).holds (w.drew.alloc (.cells ((E.flat ys).toArray ++ (E.flat zs).toArray ++ Builtin.zeroCells z.cells (grownCap w (ys.length + zs.length) old e - (ys.length + zs.length))) e)) (fun b _ => b = w.heap.size) R := by
      intro old
      have hge := grownCap_ge w (ys.length + zs.length) old e
      have hcm : grownCap w (ys.length + zs.length) old e ≤ maxLen := grownCap_le_maxLen w _ old e (by simp only [maxLen]; omega)
      refine .inr ⟨w.heap.size, 0, _, rfl, fun _ => rfl, heap_alloc_new w.drew _, by omega, hcm, ?_, ?_⟩
      · simp only [Array.size_append, List.size_toArray, size_zeroCells, hzs, E.flat_length, Nat.zero_add]
        rw [← Nat.add_mul, ← Nat.add_mul]
        exact Nat.mul_le_mul_right _ (by omega)
      · rw [E.flat_append, hlen, Nat.add_mul, List.drop_zero]
        simp only [Array.toList_append, List.append_assoc]
        rw [← List.append_assoc, List.take_append_of_le_length (by simp [E.flat_length]), List.take_of_length_le (by simp [E.flat_length])]
    have hEv : ∀ (x : Obj), Evo S0 w (w.drew.alloc x) := fun x => (Evo.drew S0 w).trans (Evo.alloc S0 w.drew x) fun _ _ h => .inl h
    have hszn : ∀ x : Obj, (w.drew.alloc x).heap.size = w.heap.size + 1 := fun x => by simp
    rcases h with ⟨rfl, rfl⟩ | ⟨b, off, cur, rfl, hS, hh, hnc, hcm, hcs, htk⟩
    · have hf := fresh 0
      obtain ⟨w', hw', hrun⟩ : ∃ w', w' = w.drew.alloc (.cells ((E.flat ([] : List U)).toArray ++ (E.flat zs).toArray ++ Builtin.zeroCells z.cells (grownCap w (([] : List U).length + zs.length) 0 e - (([] : List U).length + zs.length))) e) ∧
          (Builtin.append_ #[t, t] ty #[rlv A ([] : List U).length 0, rlv (some ⟨p.1, p.2, none⟩) zs.length c']).run P w = .ok (rlv (some ⟨w.heap.size, 0, none⟩) ([] ++ zs).length (grownCap w (([] : List U).length + zs.length) 0 e)) w' := by
        refine ⟨_, rfl, ?_⟩
        cases A with
        | none =>
          have hr1 := run_append_nil (P := P) w t ty e i z ht hi hz ⟨p.1, p.2, none⟩ zs.length c' (E.flat zs) hfl hnews hzl (by simp at h63; omega) (by simp at hb; omega)
          simpa [Enc.flat, rlv] using hr1
        | some q =>
          have hr1 := run_append_grow (P := P) w t ty e i z ht hi hz q 0 0 [] (by simp) (by simp) ⟨p.1, p.2, none⟩ zs.length c' (E.flat zs) hfl hnews (by omega) (by simp at h63; simp; omega) (growslice_fits (by omega) (by simp at hb; simp; omega))
          simpa [Enc.flat, rlv] using hr1
      subst hw'
      refine ⟨some ⟨w.heap.size, 0, none⟩, _, _, hrun, hEv _, ⟨fun b _ => b = w.heap.size, ?_, fun b' o hb' => ?_, fun b' o hb' => .inr ?_⟩, by simp [h0]⟩
      · exact hf
      · rw [hszn]; exact Nat.lt_succ_of_le (Nat.le_of_eq hb')
      · exact Nat.le_of_eq hb'.symm
    · by_cases hroom : ys.length + zs.length ≤ c
      · have hfit := Nat.mul_le_mul_right E.sz hroom
        rw [Nat.add_mul] at hfit
        have hst := run_storeCells_at P b (off + ys.length * E.sz) e (E.flat zs) 0 cur w hh (by rw [E.flat_length]; omega) h1
        simp only [Nat.add_zero] at hst
        have hfc := run_firstCells_some (P := P) w i.size zs.length ⟨p.1, p.2, none⟩ zs.length c' (E.flat zs) hfl hnews
        refine ⟨some ⟨b, off, none⟩, c, w.setRow b (cur.toList.take (off + ys.length * E.sz) ++ E.flat zs ++ cur.toList.drop (off + ys.length * E.sz + (E.flat zs).length)).toArray, ?_, ?_, ⟨S0, .inr ⟨b, off, _, rfl, hS, setRow_heap w b cur _ e _ hh, by omega, hcm, ?_, ?_⟩, ?_, fun _ _ x => .inl x⟩, by simp⟩
        · rw [hlen]
          rw [hsize] at hfc
          simp only [rlv, Option.map_some, Builtin.append_, hu, hsz, Sem.run_bind, Sem.run_pure, Result.andThen_ok, List.getElem?_toArray, List.getElem?_cons_zero, List.getElem?_cons_succ, Builtin.lenOf, Bool.false_eq_true, if_false, hroom, if_true, Bool.not_false, hfc, List.toList_toArray, addr_add, hst]
        · exact Evo.of_blocks rfl rfl rfl (by simp) fun k hk ⟨o', ho'⟩ => setRow_other w b k _ fun e => ho' (e ▸ hS o')
        · simp [E.flat_length]; omega
        · rw [E.flat_append, hlen, Nat.add_mul, ← htk]
          have hw := splice_end cur.toList (E.flat zs) off (ys.length * E.sz) (by simp [E.flat_length]; omega)
          have hz : zs.length * E.sz = (E.flat zs).length := (E.flat_length zs).symm
          rw [List.toList_toArray, hz]
          exact hw
        · intro b' o' hb'
          simpa using hal b' o' hb'
      · have holds : ∀ j u, (E.flat ys)[j]? = some u → w.cell? ((⟨b, off, none⟩ : Addr).add j) = some u := fun j u hu' => by
          rw [addr_add]
          obtain ⟨b', o', hA, _, hc, _⟩ := ownl_cell (E := E) (e := e) (A := some ⟨b, off, none⟩) (c := c) (ys := ys) (w := w) (S := S0) (R := R) (.inr ⟨b, off, cur, rfl, hS, hh, hnc, hcm, hcs, htk⟩) hu'
          injection hA with hA
          injection hA with e1 e2
          subst e1; subst e2
          exact hc
        have hr1 := run_append_grow (P := P) w t ty e i z ht hi hz ⟨b, off, none⟩ ys.length c (E.flat ys) (by rw [E.flat_length, hsize]) holds ⟨p.1, p.2, none⟩ zs.length c' (E.flat zs) hfl hnews (by omega) h63 (growslice_fits (by omega) hb)
        refine ⟨some ⟨w.heap.size, 0, none⟩, _, _, by rw [hlen]; exact hr1, hEv _, ⟨_, fresh c, fun b' o hb' => by rw [hszn]; omega, fun b' o hb' => .inr (by omega)⟩, by simp [h0]⟩

theorem info_of_run {e : TypeId} {ti : TypeInfo} (h : ∀ w, (typeInfo e).run P w = .ok ti w) : P.info? e = some ti := by
  have := h default
  cases hq : P.info? e with
  | none => simp [typeInfo, hq] at this
  | some i => simp [typeInfo, hq] at this; rw [this]
/-- append of a row that is read to a row that is owned. -/
theorem Acts.append {U : Type} (E : Enc U) (i : Nat) {e t : TypeId} {ti : TypeInfo} {z : Value} {A B : Option Addr} {c c' n m : Nat} {ys zs : List U} {x y : Operand} (hi : L[i]? = some (ownl E e A c ys)) (hj : Ro (stars (L.eraseIdx i)) (stars [rdl E B zs]))
    (ho : o.op = .call { callee := .builtin .append, args := #[x, y], argTypes := #[t, t] }) (hx : ev sl x = some (rlv A n c)) (hy : ev sl y = some (rlv B m c')) (hn : n = ys.length) (hm : m = zs.length)
    (ht : P.underlying t = some (.slice e)) (htr : ∀ w, (typeInfo e).run P w = .ok ti w) (hz : ti.zero = some z) (hsize : ti.size = E.sz) (hzs : z.cells.size = E.sz) (bytes : Nat) (hby : ti.bytes = bytes) (hb : (ys.length + zs.length) * bytes ≤ 140737488355328) (hmx : ys.length + zs.length ≤ 140737488355328) :
    Acts P o sl L (fun v L' => ∃ A' c'', v = rlv A' (ys ++ zs).length c'' ∧ (A' = none ↔ A = none ∧ zs = []) ∧ L' = ownl E e A' c'' (ys ++ zs) :: L.eraseIdx i) := by
  intro a w S R hs hL hal hR hSR
  subst hn; subst hm; subst hby
  have hti := info_of_run htr
  obtain ⟨S1, S2, hs1, hs2, hd, hown, hrest⟩ := stars_take L i _ hi w S R hL
  obtain ⟨T1, T2, ht1, _, _, hrd, _⟩ := hj w S2 R hrest
  obtain ⟨A', c'', w', hrun, hE, ⟨S', hS', hal', hsub⟩, hnil⟩ := run_append_rows (P := P) (w := w) (S0 := S1) (R := R) E t o.type e ti z ht hti hz hsize hzs hown (fun b o x => hal b o (hs1 b o x)) B c' (fun hne => by
    obtain ⟨p, hp, hc⟩ := hrd.2 hne
    exact ⟨p, hp, fun k v hv => (hc k v hv).2⟩) hb hmx
  refine ⟨rlv A' (ys ++ zs).length c'', w', _, fun b o => S' b o ∨ S2 b o, ?_, ⟨A', c'', rfl, hnil, rfl⟩, ?_, ⟨S', S2, fun _ _ x => .inl x, fun _ _ x => .inr x, ?_, hS', ?_⟩, ?_, ?_⟩
  · simp [execOp, ho, resolve, invoke, builtin, hs.ev hx, hs.ev hy, hrun]
  · exact ⟨hE.os, hE.tape, hE.output, hE.size, hE.agree.mono fun b o ⟨x, y⟩ => ⟨x, fun z => y (hs1 b o z)⟩⟩
  · intro b o x y
    exact (hsub b o x).elim (fun x => hd b o x y) fun x => by have := hal b o (hs2 b o y); omega
  · exact (stars (L.eraseIdx i)).loc hrest (hE.agree.mono fun b o x => ⟨x.elim (fun y => hal b o (hs2 b o y)) (hR b o), fun y => x.elim (hd b o y) fun z => hSR b o (hs1 b o y) z⟩)
  · intro b o x
    exact x.elim (hal' b o) fun y => Nat.lt_of_lt_of_le (hal b o (hs2 b o y)) hE.size
  · intro b o x
    exact x.elim (fun y => (hsub b o y).imp (hs1 b o) id) fun y => .inl (hs2 b o y)

/-! ### Contracts and calls -/

/-- Called with these values, having L (some of it to be read only), a function returns a value, and what is had then. -/
def Meets (P : Program) (f : FuncId) (args : Array Value) (L : List Assn) (Post : Value → List Assn → Prop) : Prop :=
  ∀ (w : World) (S R : Fp), (stars L).holds w S R → (∀ b o, S b o → ¬ R b o) → (∀ b o, S b o → b < w.heap.size) → (∀ b o, R b o → b < w.heap.size) →
    Calls P f args w fun e w' => ∃ v L' S', e = .returned v ∧ Post v L' ∧ (stars L').holds w' S' (fun _ _ => False) ∧ (∀ b o, S' b o → b < w'.heap.size) ∧ (∀ b o, S' b o → S b o ∨ w.heap.size ≤ b) ∧ Evo S w w'

theorem Meets.mono {f : FuncId} {args : Array Value} {L : List Assn} {Post Post' : Value → List Assn → Prop} (h : Meets P f args L Post) (hp : ∀ v L', Post v L' → Post' v L') : Meets P f args L Post' := by
  intro w S R h1 h2 h3 h4
  refine (h w S R h1 h2 h3 h4).mono ?_
  rintro e w' ⟨v, L', S', rfl, hq, r⟩
  exact ⟨v, L', S', rfl, hp v L' hq, r⟩
theorem Meets.pre {f : FuncId} {args : Array Value} {L L1 : List Assn} {Post : Value → List Assn → Prop} (h : Meets P f args L1 Post) (he : Ent (stars L) (stars L1)) : Meets P f args L Post :=
  fun w S R h1 h2 h3 h4 => h w S R (he w S R h1) h2 h3 h4

/-- An assertion that speaks of nothing that is only read. -/
class Excl (A : Assn) : Prop where
  out : ∀ w S R, A.holds w S R → A.holds w S (fun _ _ => False)
class Excls (L : List Assn) : Prop where
  out : ∀ w S R, (stars L).holds w S R → (stars L).holds w S (fun _ _ => False)
instance : Excl emp := ⟨fun _ _ _ h => h⟩
instance (b o : Nat) (vs : List Value) : Excl (cells b o vs) := ⟨fun _ _ _ h => h⟩
instance (b : Nat) (x : Obj) : Excl (blk b x) := ⟨fun _ _ _ h => h⟩
instance {T : Type} (E : Enc T) (e : TypeId) (A : Option Addr) (c : Nat) (ys : List T) : Excl (ownl E e A c ys) := ⟨fun _ _ _ h => h⟩
instance {α : Type} (A : α → Assn) (l : List α) [h : ∀ x, Excl (A x)] : Excl (many A l) := ⟨by
  induction l with
  | nil => intro w S R h; exact h
  | cons x l ih => intro w S R ⟨S1, S2, h1, h2, hd, ha, hb⟩; exact ⟨S1, S2, h1, h2, hd, (h x).out w S1 R ha, ih w S2 R hb⟩⟩
instance (p : Prop) : Excl (Assn.pure p) := ⟨fun _ _ _ h => h⟩
instance {α : Type} (A : α → Assn) [h : ∀ x, Excl (A x)] : Excl (Assn.ex A) := ⟨fun w S R ⟨x, hx⟩ => ⟨x, (h x).out w S R hx⟩⟩
instance (A B : Assn) [hA : Excl A] [hB : Excl B] : Excl (star A B) := ⟨fun w S R ⟨S1, S2, h1, h2, hd, ha, hb⟩ => ⟨S1, S2, h1, h2, hd, hA.out w S1 R ha, hB.out w S2 R hb⟩⟩
instance : Excls [] := ⟨fun _ _ _ h => h⟩
instance (A : Assn) (L : List Assn) [hA : Excl A] [hL : Excls L] : Excls (A :: L) := ⟨fun w S R ⟨S1, S2, h1, h2, hd, ha, hb⟩ => ⟨S1, S2, h1, h2, hd, hA.out w S1 R ha, hL.out w S2 R hb⟩⟩
instance (L : List Assn) [hL : Excls L] : Excl (stars L) := ⟨hL.out⟩
instance (L M : List Assn) [hL : Excls L] [hM : Excls M] : Excls (L ++ M) := ⟨fun w S R h => stars_append' L M w S _ ((inferInstance : Excl (star (stars L) (stars M))).out w S R (stars_append L M w S R h))⟩

/-- The machine's own step at a call. -/
theorem St.callAtK (h : St w0 S0 R N sl L a w) {f : FuncId} {args : Array Value} {X Y M : List Assn} {Post : Value → List Assn → Prop} {K : Act → World → Prop}
    (hrun : ∀ a w, Slots sl a → (execOp a.eval o).run P w = .ok (.enter f args) w) (ix : List Nat) (hp : picks ix L = some (X, Y)) (hr : Ro (stars Y) (stars M)) (hspec : Meets P f args (X ++ M) Post)
    (k : ∀ v L' w', Post v L' → St w0 S0 R N sl (L' ++ Y) a w' → K (a.put o.dst v) w') : o.wp P a w K Q := by
  obtain ⟨S, hL, hR, hal, h0, hM⟩ := h.heap
  have hrw : ∀ b o, R b o → b < w.heap.size := fun b o x => Nat.lt_of_lt_of_le (h.ralloc b o x) h.evo.size
  obtain ⟨S1, S2, hs1, hs2, hd, hX, hY⟩ := picks_ent ix L X Y hp w S R hL
  unfold Oper.wp
  rw [hrun a w h.slots, Oper.upon_enter]
  have hpre : (stars (X ++ M)).holds w S1 (fun b o => R b o ∨ S2 b o) :=
    stars_append' X M w S1 _ ⟨S1, fun _ _ => False, fun _ _ x => x, fun _ _ x => x.elim, fun _ _ _ x => x, (stars X).mono hX (fun _ _ x => x) (fun _ _ x => .inl x), hr w S2 R hY⟩
  refine (hspec w S1 _ hpre (fun b o x y => y.elim (hR b o (hs1 b o x)) (hd b o x)) (fun b o x => hal b o (hs1 b o x)) (fun b o x => x.elim (hrw b o) fun y => hal b o (hs2 b o y))).mono ?_
  rintro e w' ⟨v, L', S', rfl, hpost, hL', hal', hsub, hE⟩
  refine k v L' w' hpost ?_
  refine ⟨h.sz, h.slots, ⟨fun b o => S' b o ∨ S2 b o, ?_, ?_, ?_, ?_, hM.step hE hs1 fun b o x => x.elim (fun y => (hsub b o y).imp (hs1 b o) id) fun y => .inl (hs2 b o y)⟩, h.ralloc, h.evo.trans hE fun b o x => h0 b o (hs1 b o x)⟩
  · exact stars_append' L' Y w' _ R ⟨S', S2, fun _ _ x => .inl x, fun _ _ x => .inr x, fun b o x y => (hsub b o x).elim (fun x => hd b o x y) fun x => by have := hal b o (hs2 b o y); omega,
      (stars L').mono hL' (fun _ _ x => x) (fun b o x => x.elim),
      (stars Y).loc hY (hE.agree.mono fun b o x => ⟨x.elim (fun y => hal b o (hs2 b o y)) (hrw b o), fun y => x.elim (hd b o y) fun z => hR b o (hs1 b o y) z⟩)⟩
  · intro b o x y
    exact x.elim (fun x => (hsub b o x).elim (fun x => hR b o (hs1 b o x) y) fun x => by have := hrw b o y; omega) fun x => hR b o (hs2 b o x) y
  · intro b o x
    exact x.elim (hal' b o) fun y => Nat.lt_of_lt_of_le (hal b o (hs2 b o y)) hE.size
  · intro b o x
    exact x.elim (fun x => (hsub b o x).elim (fun x => h0 b o (hs1 b o x)) fun x => .inr (Nat.le_trans h.evo.size x)) fun x => h0 b o (hs2 b o x)
theorem St.callAt (h : St w0 S0 R N sl L a w) {f : FuncId} {args : Array Value} {X Y M : List Assn} {Post : Value → List Assn → Prop} (hg : o.guard = none)
    (hrun : ∀ a w, Slots sl a → (execOp a.eval o).run P w = .ok (.enter f args) w) (ix : List Nat) (hp : picks ix L = some (X, Y)) (hr : Ro (stars Y) (stars M)) (hspec : Meets P f args (X ++ M) Post)
    (k : ∀ v L' w', Post v L' → St w0 S0 R N sl (L' ++ Y) a w' → wpList P ops Q rest (a.put o.dst v) w') : wpList P ops Q (o :: rest) a w :=
  wpList_plain hg fun _ hK => h.callAtK hrun ix hp hr hspec fun v L' w' hp h => hK _ _ (k v L' w' hp h)

/-- A call of a function by its name. -/
theorem St.callK (h : St w0 S0 R N sl L a w) {f : FuncId} {as : List Operand} {vs : List Value} {tys : Array TypeId} {X Y M : List Assn} {Post : Value → List Assn → Prop} {K : Act → World → Prop} (ix : List Nat) (hp : picks ix L = some (X, Y)) (hr : Ro (stars Y) (stars M)) (hspec : Meets P f vs.toArray (X ++ M) Post)
    (ho : o.op = .call { callee := .value (.func f), args := as.toArray, argTypes := tys }) (has : evs sl as = some vs)
    (hc : ∀ args w, (callFunc f args).run P w = .ok (.enter f args) w) (hd : o.dst = some d) (hN : Nat.blt d N = true)
    (k : ∀ v L' a' w', Post v L' → St w0 S0 R N ((d, v) :: sl) (L' ++ Y) a' w' → K a' w') : o.wp P a w K Q := by
  refine h.callAtK (f := f) (args := vs.toArray) (fun a w hs => ?_) ix hp hr hspec fun v L' w' hv hst => ?_
  · simp [execOp, ho, resolve, Act.eval, Deferred.ofValue, invoke, hs.evs has, hc]
  · rw [hd]; exact k v L' _ w' hv (hst.slot hN v)
/-- Likewise, in a list of operations. -/
theorem St.call (h : St w0 S0 R N sl L a w) {f : FuncId} {as : List Operand} {vs : List Value} {tys : Array TypeId} {X Y M : List Assn} {Post : Value → List Assn → Prop} (ix : List Nat) (hp : picks ix L = some (X, Y)) (hr : Ro (stars Y) (stars M)) (hspec : Meets P f vs.toArray (X ++ M) Post)
    (hg : o.guard = none) (ho : o.op = .call { callee := .value (.func f), args := as.toArray, argTypes := tys }) (has : evs sl as = some vs)
    (hc : ∀ args w, (callFunc f args).run P w = .ok (.enter f args) w) (hd : o.dst = some d) (hN : Nat.blt d N = true)
    (k : ∀ v L' a' w', Post v L' → St w0 S0 R N ((d, v) :: sl) (L' ++ Y) a' w' → wpList P ops Q rest a' w') : wpList P ops Q (o :: rest) a w := by
  refine h.callAt (f := f) (args := vs.toArray) hg (fun a w hs => ?_) ix hp hr hspec fun v L' w' hv hst => ?_
  · simp [execOp, ho, resolve, Act.eval, Deferred.ofValue, invoke, hs.evs has, hc]
  · rw [hd]; exact k v L' _ w' hv (hst.slot hN v)
theorem St.call0 (h : St w0 S0 R N sl L a w) {f : FuncId} {as : List Operand} {vs : List Value} {tys : Array TypeId} {X Y M : List Assn} {Post : Value → List Assn → Prop} (ix : List Nat) (hp : picks ix L = some (X, Y)) (hr : Ro (stars Y) (stars M)) (hspec : Meets P f vs.toArray (X ++ M) Post)
    (hg : o.guard = none) (ho : o.op = .call { callee := .value (.func f), args := as.toArray, argTypes := tys }) (has : evs sl as = some vs)
    (hc : ∀ args w, (callFunc f args).run P w = .ok (.enter f args) w) (hd : o.dst = none)
    (k : ∀ v L' a' w', Post v L' → St w0 S0 R N sl (L' ++ Y) a' w' → wpList P ops Q rest a' w') : wpList P ops Q (o :: rest) a w := by
  refine h.callAt (f := f) (args := vs.toArray) hg (fun a w hs => ?_) ix hp hr hspec fun v L' w' hv hst => ?_
  · simp [execOp, ho, resolve, Act.eval, Deferred.ofValue, invoke, hs.evs has, hc]
  · rw [hd]; exact k v L' _ w' hv hst
/-- A contract that tells the one value, and the one state. -/
def Det (v0 : Value) (L0 : List Assn) : Value → List Assn → Prop := fun v L => v = v0 ∧ L = L0
theorem Det.mk (v0 : Value) (L0 : List Assn) : Det v0 L0 v0 L0 := ⟨rfl, rfl⟩
theorem St.callD (h : St w0 S0 R N sl L a w) {f : FuncId} {as : List Operand} {vs : List Value} {tys : Array TypeId} {X Y M L0 : List Assn} {v0 : Value} (ix : List Nat) (hp : picks ix L = some (X, Y)) (hr : Ro (stars Y) (stars M)) (hspec : Meets P f vs.toArray (X ++ M) (Det v0 L0))
    (hg : o.guard = none) (ho : o.op = .call { callee := .value (.func f), args := as.toArray, argTypes := tys }) (has : evs sl as = some vs)
    (hc : ∀ args w, (callFunc f args).run P w = .ok (.enter f args) w) (hd : o.dst = some d) (hN : Nat.blt d N = true)
    (k : ∀ a' w', St w0 S0 R N ((d, v0) :: sl) (L0 ++ Y) a' w' → wpList P ops Q rest a' w') : wpList P ops Q (o :: rest) a w :=
  h.call ix hp hr hspec hg ho has hc hd hN fun v L' a' w' ⟨hv, hL⟩ h => by subst hv; subst hL; exact k a' w' h
theorem St.callD0 (h : St w0 S0 R N sl L a w) {f : FuncId} {as : List Operand} {vs : List Value} {tys : Array TypeId} {X Y M L0 : List Assn} {v0 : Value} (ix : List Nat) (hp : picks ix L = some (X, Y)) (hr : Ro (stars Y) (stars M)) (hspec : Meets P f vs.toArray (X ++ M) (Det v0 L0))
    (hg : o.guard = none) (ho : o.op = .call { callee := .value (.func f), args := as.toArray, argTypes := tys }) (has : evs sl as = some vs)
    (hc : ∀ args w, (callFunc f args).run P w = .ok (.enter f args) w) (hd : o.dst = none)
    (k : ∀ a' w', St w0 S0 R N sl (L0 ++ Y) a' w' → wpList P ops Q rest a' w') : wpList P ops Q (o :: rest) a w :=
  h.call0 ix hp hr hspec hg ho has hc hd fun v L' a' w' ⟨hv, hL⟩ h => by subst hv; subst hL; exact k a' w' h
/-! ### Code -/

theorem wpl_nil (k : Q .normal a w) : wpList P ops Q [] a w := k
theorem X.thenN {n : Act → World → Prop} (k : n a w) : Exit.then n Q .normal a w := k
theorem X.thenR {n : Act → World → Prop} (k : Q .ret a w) : Exit.then n Q .ret a w := k
theorem X.thenE {n : Act → World → Prop} {i : Nat} (k : Q (.exit i) a w) : Exit.then n Q (.exit i) a w := k
theorem X.blkN {i : Nat} (k : Q .normal a w) : Exit.inBlock i Q .normal a w := k
theorem X.blkR {i : Nat} (k : Q .ret a w) : Exit.inBlock i Q .ret a w := k
theorem X.blkE {i : Nat} (k : Q .normal a w) : Exit.inBlock i Q (.exit i) a w := by simp only [Exit.inBlock, if_true]; exact k
theorem X.blkO {i j : Nat} (hij : Nat.beq j i = false) (k : Q (.exit j) a w) : Exit.inBlock i Q (.exit j) a w := by
  have : j ≠ i := fun e => by subst e; simp at hij
  simp only [Exit.inBlock, if_neg this]; exact k
theorem C.seq {x y : Code} (k : x.wp P (Exit.then (y.wp P Q) Q) a w) : (Code.seq x y).wp P Q a w := wp_seq k
theorem C.region {i : Nat} {l : List Oper} (k : wpList P l.toArray Q l a w) : (Code.region i l.toArray false).wp P Q a w := wp_region_lit k
theorem C.block {i : Nat} {c : Code} (k : c.wp P (Exit.inBlock i Q) a w) : (Code.block i c).wp P Q a w := wp_block k
theorem C.skip (k : Q .normal a w) : Code.skip.wp P Q a w := wp_skip k
theorem C.label {i : Nat} (k : Q .normal a w) : (Code.label i).wp P Q a w := wp_label k
theorem C.ret (k : Q .ret a w) : Code.ret.wp P Q a w := wp_ret k
theorem C.exit {i : Nat} (k : Q (.exit i) a w) : (Code.exit i).wp P Q a w := wp_exit k
theorem St.condT {x y : Code} {c : Operand} (h : St w0 S0 R N sl L a w) (hc : ev sl c = some (.bool true)) (k : x.wp P Q a w) : (Code.cond c x y).wp P Q a w := wp_cond_true (h.slots.ev hc) k
theorem St.condF {x y : Code} {c : Operand} (h : St w0 S0 R N sl L a w) (hc : ev sl c = some (.bool false)) (k : y.wp P Q a w) : (Code.cond c x y).wp P Q a w := wp_cond_false (h.slots.ev hc) k
theorem St.cond {x y : Code} {c : Operand} {t : Bool} (h : St w0 S0 R N sl L a w) (hc : ev sl c = some (.bool t)) (kT : t = true → x.wp P Q a w) (kF : t = false → y.wp P Q a w) : (Code.cond c x y).wp P Q a w := wp_cond_split (h.slots.ev hc) kT kF
theorem St.condP {p : Prop} [Decidable p] {x y : Code} {c : Operand} (h : St w0 S0 R N sl L a w) (hc : ev sl c = some (.bool (decide p))) (kT : p → x.wp P Q a w) (kF : ¬ p → y.wp P Q a w) : (Code.cond c x y).wp P Q a w :=
  wp_cond_split (h.slots.ev hc) (fun e => kT (of_decide_eq_true e)) fun e => kF (of_decide_eq_false e)
/-- A loop: what holds when at most n rounds are to come. -/
theorem C.loop {c : Code} (I : Nat → Act → World → Prop) (n : Nat) (h0 : I n a w) (round : ∀ n a w, I n a w → c.wp P (Exit.then (fun a' w' => ∃ n', n' < n ∧ I n' a' w') Q) a w) : (Code.loop c).wp P Q a w :=
  wp_loop_ghost I n h0 round
/-- What follows is walked once, for whatever state comes there. -/
theorem C.cut {x y : Code} (I : Act → World → Prop) (hx : x.wp P (Exit.then I Q) a w) (hy : ∀ a w, I a w → y.wp P Q a w) : (Code.seq x y).wp P Q a w :=
  wp_seq (Code.wp_mono (fun e a w q => by cases e <;> first | exact hy a w q | exact q) hx)

/-! ### A function's begin and end -/

/-- What the end of a contract's function owes. -/
def EndsAt (w : World) (S R : Fp) (Post : Value → List Assn → Prop) (e : Ending) (w' : World) : Prop :=
  ∃ v L' S', e = .returned v ∧ Post v L' ∧ (stars L').holds w' S' (fun _ _ => False) ∧ (∀ b o, S' b o → b < w'.heap.size) ∧ (∀ b o, S' b o → S b o ∨ w.heap.size ≤ b) ∧ Evo S w w'

def number : Nat → List Value → List (Nat × Value)
  | _, [] => []
  | i, v :: l => (i, v) :: number (i + 1) l
theorem lk_number : ∀ (l : List Value) (i t : Nat) (v : Value), lk (number i l) t = some v → i ≤ t ∧ l[t - i]? = some v
  | [], i, t, v, h => by simp [number, lk] at h
  | u :: l, i, t, v, h => by
    simp only [number, lk] at h
    cases hq : Nat.beq i t with
    | true =>
      have := Nat.eq_of_beq_eq_true hq
      subst this
      simp only [hq, cond_true, Option.some.injEq] at h
      subst h
      simp
    | false =>
      simp only [hq, cond_false] at h
      obtain ⟨h1, h2⟩ := lk_number l (i + 1) t v h
      refine ⟨by omega, ?_⟩
      rw [show t - i = (t - (i + 1)) + 1 by omega]
      simpa using h2

/-- What a body must come to: deferred calls there are none, but for marks. -/
def bodyEnd (P : Program) (fn : Func) (R : Ending → World → Prop) : Exit → Act → World → Prop
  | .normal, a, w | .ret, a, w => LeavesInM Fence.wide 0 P fn a.tmps R a.defers .returning w
  | _, _, _ => False

theorem Meets.of_code {f : FuncId} {fn : Func} {c : Code} {vs : List Value} {L : List Assn} {Post : Value → List Assn → Prop} (hf : P.funcs[f]? = some fn) (hb : fn.body = some c) (hn : fn.ntmps = N) (hle : Nat.ble vs.length N = true)
    (k : ∀ w S R a, St w S R N (number 0 vs) L a w → c.wp P (bodyEnd P fn (EndsAt w S R Post)) a w) : Meets P f vs.toArray L Post := by
  intro w S R hL hSR hal hR
  have hle' : vs.length ≤ N := Nat.le_of_ble_eq_true hle
  refine callsIn_wide.1 (callsIn_of_wp_marks (n := 0) hf hb trivial (wpIn_wide.2 (wp_mono (k w S R _ ?_) ?_)))
  case refine_2 => intro e a w h; cases e <;> first | exact h | exact h.elim
  refine ⟨by simp [hn]; omega, ?_, ⟨S, hL, hSR, hal, fun _ _ x => .inl x, Marks.nil _ _ _⟩, hR, Evo.refl _ _⟩
  intro t v hv
  obtain ⟨_, h2⟩ := lk_number vs 0 t v hv
  simp only [Nat.sub_zero] at h2
  have hlt : t < vs.length := (List.getElem?_eq_some_iff.1 h2).1
  rw [Array.getD_eq_getD_getElem?, Array.getElem?_append_left (by simpa using hlt)]
  simp [h2]

/-- The marks are come to: their blocks are shut. -/
theorem leaves_marks {fn : Func} {tmps : Array Value} {v : Value} {Rr : Ending → World → Prop} (hv : ∀ w, (results fn tmps).run P w = .ok v w) : ∀ (ms : List Nat) (w : World), ms.Nodup → (∀ b, b ∈ ms → w.heap[b]? = some (.deferred (some []))) →
    (∀ w', w'.os = w.os → w'.tape = w.tape → w'.output = w.output → w'.heap.size = w.heap.size → (∀ b, b ∉ ms → w'.heap[b]? = w.heap[b]?) → Rr (.returned v) w') → LeavesInM Fence.wide 0 P fn tmps Rr (ms.map mkDef) .returning w
  | [], w, _, _, k => ⟨v, hv w, k w rfl rfl rfl rfl fun _ _ => rfl⟩
  | b :: ms, w, hn, hm, k => by
    have hb := hm b (List.mem_cons_self ..)
    have hlt : b < w.heap.size := (Array.getElem?_eq_some_iff.1 hb).1
    have hn' := List.nodup_cons.1 hn
    refine ⟨by simp, .inl ⟨b, w.putObj b (.deferred none), rfl, run_takeDeferred hb, leaves_marks hv ms _ hn'.2 (fun b' hb' => ?_) fun w' h1 h2 h3 h4 h5 => ?_⟩⟩
    · rw [World.putObj_heap_other (fun e => by subst e; exact hn'.1 hb')]
      exact hm b' (List.mem_cons_of_mem _ hb')
    · refine k w' h1 h2 h3 (h4.trans World.putObj_size) fun b' hb' => ?_
      rw [h5 b' (fun x => hb' (List.mem_cons_of_mem _ x)), World.putObj_heap_other (fun e => by subst e; exact hb' (List.mem_cons_self ..))]

theorem St.ends {w0 : World} (h : St w0 S0 R N sl L a w) {Post : Value → List Assn → Prop} {L' : List Assn} (hL : Ent (stars L) (stars L')) [hx : Excls L'] (hp : Post v L') {fn : Func} (hv : ∀ w, (results fn a.tmps).run P w = .ok v w) :
    LeavesInM Fence.wide 0 P fn a.tmps (EndsAt w0 S0 R Post) a.defers .returning w := by
  obtain ⟨S, hS, hR, hal, h0, ms, hd, hn, hM⟩ := h.heap
  rw [hd]
  refine leaves_marks hv ms w hn (fun b hb => (hM b hb).2.1) fun w' h1 h2 h3 h4 h5 => ?_
  have hag : Agree w w' (fun b o => S b o ∨ False) := by
    have key : ∀ b o, S b o → w'.heap[b]? = w.heap[b]? := fun b o hb => h5 b fun hm => (hM b hm).2.2 o hb
    exact ⟨fun b o hb => Same.of_blk (key b o (hb.elim id False.elim)) o, fun b hb => key b 0 ((hb 0).elim id False.elim)⟩
  refine ⟨v, L', S, rfl, hp, (stars L').loc (hx.out w S R (hL w S R hS)) hag, fun b o x => by rw [h4]; exact hal b o x, h0, ?_⟩
  have hb0 : ∀ b, b < w0.heap.size → w'.heap[b]? = w.heap[b]? := fun b hb => h5 b fun hm => by have := (hM b hm).1; omega
  exact ⟨h1.trans h.evo.os, h2.trans h.evo.tape, h3.trans h.evo.output, by rw [h4]; exact h.evo.size,
    h.evo.agree.trans ⟨fun b o hb => Same.of_blk (hb0 b hb.1) o, fun b hb => hb0 b (hb 0).1⟩⟩
theorem St.ret1 (h : St w0 S0 R N sl L a w) {fn : Func} {t : Nat} {Post : Value → List Assn → Prop} {L' : List Assn} (hfn : fn.results = #[.tmp t]) (hv : lk sl t = some v) (hL : Ent (stars L) (stars L')) [hx : Excls L'] (hp : Post v L') :
    bodyEnd P fn (EndsAt w0 S0 R Post) .ret a w := h.ends hL hp fun w => by rw [results_tmp hfn, h.slots t v hv]
theorem St.ret2 (h : St w0 S0 R N sl L a w) {fn : Func} {t t' : Nat} {v' : Value} {Post : Value → List Assn → Prop} {L' : List Assn} (hfn : fn.results = #[.tmp t, .tmp t']) (hv : lk sl t = some v) (hv' : lk sl t' = some v') (hL : Ent (stars L) (stars L')) [hx : Excls L'] (hp : Post (.tuple #[v, v']) L') :
    bodyEnd P fn (EndsAt w0 S0 R Post) .ret a w := h.ends hL hp fun w => by rw [results_tmp2 hfn, h.slots t v hv, h.slots t' v' hv']
theorem St.ret3 (h : St w0 S0 R N sl L a w) {fn : Func} {t t' t'' : Nat} {v' v'' : Value} {Post : Value → List Assn → Prop} {L' : List Assn} (hfn : fn.results = #[.tmp t, .tmp t', .tmp t'']) (hv : lk sl t = some v) (hv' : lk sl t' = some v') (hv'' : lk sl t'' = some v'') (hL : Ent (stars L) (stars L')) [hx : Excls L']
    (hp : Post (.tuple #[v, v', v'']) L') : bodyEnd P fn (EndsAt w0 S0 R Post) .ret a w :=
  h.ends hL hp fun w => by simp [results, hfn, ← Array.getD_eq_getD_getElem?, h.slots t v hv, h.slots t' v' hv', h.slots t'' v'' hv'']
theorem St.ret0 (h : St w0 S0 R N sl L a w) {fn : Func} {Post : Value → List Assn → Prop} {L' : List Assn} (hfn : fn.results = #[]) (hL : Ent (stars L) (stars L')) [hx : Excls L'] (hp : Post (.tuple #[]) L') :
    bodyEnd P fn (EndsAt w0 S0 R Post) .ret a w := h.ends hL hp fun w => results_none hfn _ _ _
theorem St.end0 (h : St w0 S0 R N sl L a w) {fn : Func} {Post : Value → List Assn → Prop} {L' : List Assn} (hfn : fn.results = #[]) (hL : Ent (stars L) (stars L')) [hx : Excls L'] (hp : Post (.tuple #[]) L') :
    bodyEnd P fn (EndsAt w0 S0 R Post) .normal a w := h.ends hL hp fun w => results_none hfn _ _ _
/-- The ends of a list: the same, in another order, some dropped. -/
theorem Ent.drop (L : List Assn) (i : Nat) : Ent (stars L) (stars (L.eraseIdx i)) := by
  intro w S R h
  cases hA : L[i]? with
  | none => rw [List.eraseIdx_of_length_le (by simpa using hA)]; exact h
  | some A => exact star_right _ _ w S R (stars_take L i A hA w S R h)
theorem Ent.picks (ix : List Nat) {L X Y : List Assn} (hp : picks ix L = some (X, Y)) : Ent (stars L) (stars X) := (picks_ent ix L X Y hp).trans (star_fst _ _)
end
end Go.Tr
