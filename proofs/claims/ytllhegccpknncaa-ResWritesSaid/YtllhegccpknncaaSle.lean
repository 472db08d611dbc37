/-
  Regions that draw their order: those that only read, and those whose effects follow one another.
-/
import Derived.Test.YtllhegccpknncaaSld
import Derived.Still
import Derived.StillTail
set_option linter.unusedVariables false
set_option linter.unusedSimpArgs false
set_option linter.unusedSectionVars false
namespace Go.Tr
theorem rdl_len {T : Type} {E : Enc T} {A : Option Addr} {ys : List T} {w : World} {S R : Fp} (h : (rdl E A ys).holds w S R) : ys.length ≤ 9223372036854775807 := h.1
section
variable {P : Program} {w0 : World} {S0 R : Fp} {N : Nat} {sl : List (Nat × Value)} {L : List Assn} {a : Act} {w : World}
variable {ops : Array Oper} {Q : Exit → Act → World → Prop} {rest : List Oper} {o : Oper} {d : Nat} {v : Value} {q : Act → Prop}

theorem wanted_of (hg : o.guard = none) (y : Nat → Option Bool) : Region.wanted o y = true := by simp [Region.wanted, hg]
theorem St.yielded (h : St w0 S0 R N sl L a w) {j t : Nat} {c : Bool} {oj : Oper} (hj : ops[j]? = some oj) (ht : oj.dst = some t) (htN : Nat.blt t N = true) (hs : lk sl t = some (.bool c)) : yielded ops a.tmps j = some c := by
  have hv := h.slots t _ hs
  have htt : t < a.tmps.size := by rw [h.sz]; exact blt_lt htN
  unfold Go.yielded
  simp only [hj, Option.bind_some, ht]
  rw [Array.getD_eq_getD_getElem?, Array.getElem?_eq_getElem htt, Option.getD_some] at hv
  rw [Array.getElem?_eq_getElem htt, hv]

/-! ### Regions that only read -/

theorem C.still (hm : P.follows .mixedOrders = true) {id : Nat} {l : List Oper} (h : St w0 S0 R N sl L a w) (hB : Region.lexB .any l.toArray = true)
    (k : ∀ w', St w0 S0 R N sl L a w' → wpStill P l.toArray w' (fun a' => Q .normal a' w') l a) : (Code.region id l.toArray true).wp P Q a w :=
  wp_region_still_lit hm hB (k _ h.drew)
theorem C.stillTail (hm : P.follows .mixedOrders = true) (n : Nat) {id : Nat} {l : List Oper} (h : St w0 S0 R N sl L a w) (hB : Region.lexTailB .any l.toArray n = true)
    (k : ∀ w', St w0 S0 R N sl L a w' → wpStill P l.toArray w' (fun a' => wpList P l.toArray Q (l.drop n) a' w') (l.take n) a) : (Code.region id l.toArray true).wp P Q a w :=
  wp_region_still_tail n hm hB (k _ h.drew)
theorem wps_nil (k : q a) : wpStill P ops w q [] a := k
theorem St.getS (h : St w0 S0 R N sl L a w) (hg : o.guard = none) (hd : o.dst = some d) (hN : Nat.blt d N = true) (hv : Gets P o sl L v)
    (k : ∀ a', St w0 S0 R N ((d, v) :: sl) L a' w → wpStill P ops w q rest a') : wpStill P ops w q (o :: rest) a := by
  obtain ⟨S, hL, _⟩ := h.heap
  unfold wpStill
  rw [if_pos (wanted_of hg _)]
  unfold Oper.still
  rw [hv a w S R h.slots hL, Oper.stillUpon_value, hd]
  exact k _ (h.slot hN v)
theorem St.getPS {p : Prop} [Decidable p] (h : St w0 S0 R N sl L a w) (hg : o.guard = none) (hd : o.dst = some d) (hN : Nat.blt d N = true) (hv : Gets P o sl L (.bool (decide p)))
    (kT : p → ∀ a', St w0 S0 R N ((d, .bool true) :: sl) L a' w → wpStill P ops w q rest a') (kF : ¬ p → ∀ a', St w0 S0 R N ((d, .bool false) :: sl) L a' w → wpStill P ops w q rest a') : wpStill P ops w q (o :: rest) a := by
  by_cases hp : p
  · rw [show decide p = true from decide_eq_true hp] at hv
    exact h.getS hg hd hN hv (kT hp)
  · rw [show decide p = false from decide_eq_false hp] at hv
    exact h.getS hg hd hN hv (kF hp)
theorem St.guardS_yes (h : St w0 S0 R N sl L a w) {j t : Nat} {b : Bool} {oj : Oper} (hg : o.guard = some (j, b)) (hj : ops[j]? = some oj) (ht : oj.dst = some t) (htN : Nat.blt t N = true) (hs : lk sl t = some (.bool b))
    (k : wpStill P ops w q ({ o with guard := none } :: rest) a) : wpStill P ops w q (o :: rest) a := by
  have hy := h.yielded (ops := ops) hj ht htN hs
  have hw : Region.wanted o (Go.yielded ops a.tmps) = true := by simp [Region.wanted, hg, hy]
  unfold wpStill at k ⊢
  rw [if_pos hw]
  rw [if_pos (wanted_of rfl _)] at k
  exact k
theorem St.guardS_no (h : St w0 S0 R N sl L a w) {j t : Nat} {b c : Bool} {oj : Oper} (hg : o.guard = some (j, b)) (hj : ops[j]? = some oj) (ht : oj.dst = some t) (htN : Nat.blt t N = true) (hs : lk sl t = some (.bool c)) (hc : b ≠ c)
    (hd : o.dst = some d) (hN : Nat.blt d N = true) (k : ∀ a', St w0 S0 R N ((d, undef) :: sl) L a' w → wpStill P ops w q rest a') : wpStill P ops w q (o :: rest) a := by
  have hy := h.yielded (ops := ops) hj ht htN hs
  have hw : ¬ Region.wanted o (Go.yielded ops a.tmps) = true := by simp [Region.wanted, hg, hy]; exact fun e => hc e.symm
  unfold wpStill
  rw [if_neg hw, hd]
  exact k _ (h.slot hN undef)

/-! ### Any order: what reads is taken first -/

/-- Who has come up has come up behind those it waits for. -/
def Closed (ops : Array Oper) (listed : Array Bool) : Prop :=
  listed.size = ops.size ∧ ∀ j oj, ops[j]? = some oj → listed.getD j false = true → ∀ e ∈ oj.after, Region.binds .any e = true → listed.getD e.on false = true
theorem Closed.start (ops : Array Oper) : Closed ops (Array.replicate ops.size false) :=
  ⟨by simp, fun j oj hj h => by rw [getD_replicate_false] at h; cases h⟩
theorem Closed.set {listed : Array Bool} {i : Nat} (h : Closed ops listed) (hi : i ∈ Region.ready .any ops listed) : Closed ops (listed.setIfInBounds i true) := by
  obtain ⟨h0, oi, hoi, hall⟩ := mem_ready.1 hi
  refine ⟨by simp [h.1], fun j oj hj hl e he hb => ?_⟩
  by_cases hij : i = j
  · subst hij
    rw [hoi] at hj
    injection hj with hj
    subst hj
    exact getD_set_true (hall e he hb)
  · rw [getD_set_ne false hij] at hl
    exact getD_set_true (h.2 j oj hj hl e he hb)

/-- What must hold behind each operation, by what has come up. -/
def wpAnyL (P : Program) (ops : Array Oper) (Q : Exit → Act → World → Prop) (I : Array Bool → World → Prop) : Nat → Array Bool → Act → World → Prop
  | 0, listed, a, w => Region.ready .any ops listed = [] ∧ Q .normal a w
  | fuel + 1, listed, a, w =>
    (Region.ready .any ops listed = [] → Q .normal a w) ∧
    ∀ i ∈ Region.ready .any ops listed, wpOp P ops Q i (fun a' w' => I (listed.setIfInBounds i true) w' ∧ wpAnyL P ops Q I fuel (listed.setIfInBounds i true) a' w') a w
variable {I : Array Bool → World → Prop}
theorem wpAny_of_L : ∀ (fuel : Nat) (listed : Array Bool) (a : Act) (w : World), wpAnyL P ops Q I fuel listed a w → wpAny P .any ops Q fuel listed a w
  | 0, _, _, _, h => h
  | fuel + 1, _, _, _, h => ⟨h.1, fun i hi => wpOp_mono (fun a' w' h' => wpAny_of_L fuel _ a' w' h'.2) (h.2 i hi)⟩

def YieldsL (P : Program) (ops : Array Oper) (I : Array Bool → World → Prop) (i : Nat) (o : Oper) (v : Value) (a : Act) : Prop :=
  (Region.wanted o (Go.yielded ops a.tmps) = true ∧ ∀ listed w, Closed ops listed → listed.getD i true = false → I listed w → (execOp a.eval o).run P w = .ok (.value v) w) ∨
  (Region.wanted o (Go.yielded ops a.tmps) = false ∧ v = undef)
theorem YieldsL.wpOp {i : Nat} {o : Oper} {v : Value} {a : Act} {listed : Array Bool} (hi : ops[i]? = some o) (hy : YieldsL P ops I i o v a)
    {K : Act → World → Prop} {w : World} (hc : Closed ops listed) (hl : listed.getD i true = false) (hI : I listed w) (h : K (a.put o.dst v) w) : wpOp P ops Q i K a w := by
  unfold Go.wpOp
  simp only [hi]
  rcases hy with ⟨hw, hv⟩ | ⟨hw, rfl⟩
  · simp only [hw, if_true, Oper.wp, hv listed w hc hl hI, Oper.upon]; exact .inl h
  · simp only [hw, Bool.false_eq_true, if_false]; exact h
theorem YieldsL.of_same {i : Nat} {o : Oper} {v : Value} {a a' : Act} (hy : YieldsL P ops I i o v a) (he : execOp a'.eval o = execOp a.eval o)
    (hw : Region.wanted o (Go.yielded ops a'.tmps) = Region.wanted o (Go.yielded ops a.tmps)) : YieldsL P ops I i o v a' := by
  unfold YieldsL at *
  rw [he, hw]
  exact hy
theorem wpOp_putL {i j : Nat} {oi oj : Oper} {v : Value} (hj : ops[j]? = some oj) (hap : oi.apart ops oj = true)
    (hsi : ∀ cs b, oi.op ≠ .select cs b) (hsj : ∀ cs b, oj.op ≠ .select cs b)
    (hQ : ∀ c a w, Q (.panic c) (a.put oi.dst v) w → Q (.panic c) a w) {K : Act → World → Prop} {a : Act} {w : World}
    (hy : YieldsL P ops I i oi v a) (h : wpOp P ops Q j K (a.put oi.dst v) w) :
    wpOp P ops Q j (fun a' w' => YieldsL P ops I i oi v a' ∧ K (a'.put oi.dst v) w') a w := by
  obtain ⟨h1, h2, h3⟩ := Oper.apart_spec hap
  have keep : ∀ (a : Act), YieldsL P ops I i oi v a → ∀ u, YieldsL P ops I i oi v (a.put oj.dst u) := fun a hy u =>
    hy.of_same (execOp_put oi hsi a oj.dst u h3) (wanted_put oi a oj.dst u h3)
  have keepD : ∀ d, YieldsL P ops I i oi v { a with defers := d :: a.defers } := fun d => hy.of_same rfl rfl
  unfold wpOp at *
  simp only [hj] at *
  rw [wanted_put oj a oi.dst v h1] at h
  split
  · rename_i hw
    simp only [hw, if_true] at h
    rcases h with h | ⟨hasks, hlets⟩
    case inr => exact .inr ⟨by unfold Oper.asks at *; rw [execOp_put oj hsj a oi.dst v h1] at hasks; exact hasks, hlets⟩
    refine .inl ?_
    unfold Oper.wp at *
    rw [execOp_put oj hsj a oi.dst v h1] at h
    generalize (execOp a.eval oj).run P w = r at *
    cases r with
    | ok n w' =>
      cases n <;> simp only [Oper.upon] at h ⊢
      case value u => exact ⟨keep a hy u, by rw [← Act.put_comm a v u h2]; exact h⟩
      case skip => exact ⟨keep a hy _, by rw [← Act.put_comm a v undef h2]; exact h⟩
      case defer d =>
        refine ⟨keep _ (keepD d) _, ?_⟩
        rw [← Act.put_comm _ v undef h2, ← Act.put_defers]
        exact h
      case enter f args =>
        refine Calls.mono h fun e w'' he => ?_
        cases e with
        | returned u => exact ⟨keep a hy u, by rw [← Act.put_comm a v u h2]; exact he⟩
        | panicked c => exact hQ _ _ _ he
        | outgrown => exact he
      case row row args => exact Rows.mono h fun u w'' he => ⟨keep a hy u, by rw [← Act.put_comm a v u h2]; exact he⟩
    | halt x w' =>
      cases x <;> simp only [Oper.upon] at h ⊢
      case panic u => exact hQ _ _ _ h
  · rename_i hw
    simp only [hw] at h
    exact ⟨keep a hy _, by rw [← Act.put_comm a v undef h2]; exact h⟩

/-- What must hold when an operation that only reads comes up beside those that have. -/
def Lasts (ops : Array Oper) (I : Array Bool → World → Prop) (i : Nat) : Prop :=
  ∀ listed w, Closed ops listed → i ∈ Region.ready .any ops listed → I listed w → I (listed.setIfInBounds i true) w
theorem wpAnyL_first {i : Nat} {oi : Oper} {v : Value} (hi : ops[i]? = some oi) (hsel : ∀ (j : Nat) (o : Oper) cs b, ops[j]? = some o → o.op ≠ .select cs b)
    (hQ : ∀ c a w, Q (.panic c) (a.put oi.dst v) w → Q (.panic c) a w) (hlast : Lasts ops I i) (hback : ∀ listed w, I (listed.setIfInBounds i true) w → I listed w) :
    ∀ (fuel : Nat) (listed : Array Bool) (a : Act) (w : World),
      (∀ j oj, ops[j]? = some oj → j ≠ i → listed.getD j true = false → (∀ e ∈ oj.after, Region.binds .any e = true → e.on ≠ i) → oi.apart ops oj = true) →
      Closed ops listed → i ∈ Region.ready .any ops listed → YieldsL P ops I i oi v a → I listed w →
      wpAnyL P ops Q I fuel (listed.setIfInBounds i true) (a.put oi.dst v) w → wpAnyL P ops Q I (fuel + 1) listed a w := by
  intro fuel
  induction fuel with
  | zero =>
    intro listed a w _ hc hr hy hS H
    refine ⟨fun h => (by rw [h] at hr; cases hr), fun j hj => ?_⟩
    by_cases hji : j = i
    · subst hji; exact hy.wpOp hi hc (mem_ready.1 hr).1 hS ⟨hlast _ _ hc hr hS, H⟩
    · have := ready_mono hj hji
      rw [H.1] at this
      cases this
  | succ fuel ih =>
    intro listed a w hfree hc hr hy hS H
    refine ⟨fun h => (by rw [h] at hr; cases hr), fun j hj => ?_⟩
    by_cases hji : j = i
    · subst hji; exact hy.wpOp hi hc (mem_ready.1 hr).1 hS ⟨hlast _ _ hc hr hS, H⟩
    · have h1 := H.2 j (ready_mono hj hji)
      obtain ⟨hjun, oj, hoj, hall⟩ := mem_ready.1 hj
      have hnot : ∀ e ∈ oj.after, Region.binds .any e = true → e.on ≠ i := fun e he hb heq => by
        have h1 := hall e he hb
        have h0 := (mem_ready.1 hr).1
        rw [heq] at h1
        rcases Nat.lt_or_ge i listed.size with h' | h'
        · simp [h'] at h0 h1; rw [h0] at h1; cases h1
        · simp [Array.getElem?_eq_none h'] at h1
      have h2 := wpOp_putL hoj (hfree j oj hoj hji hjun hnot) (fun cs b => hsel i oi cs b hi) (fun cs b => hsel j oj cs b hoj) hQ hy h1
      have hfree' : ∀ k ok, ops[k]? = some ok → k ≠ i → (listed.setIfInBounds j true).getD k true = false →
          (∀ e ∈ ok.after, Region.binds .any e = true → e.on ≠ i) → oi.apart ops ok = true := fun k ok hk hki hun hno => by
        refine hfree k ok hk hki ?_ hno
        by_cases hjk : j = k
        · subst hjk; exact hjun
        · rw [getD_set_ne true hjk] at hun; exact hun
      refine wpOp_mono (fun a' w' h3 => ?_) h2
      have hI' : I (listed.setIfInBounds j true) w' := hback _ _ (by rw [Array.setIfInBounds_comm _ _ hji]; exact h3.2.1)
      refine ⟨hI', ih (listed.setIfInBounds j true) a' w' hfree' (hc.set hj) (ready_mono hr (Ne.symm hji)) h3.1 hI' ?_⟩
      rw [Array.setIfInBounds_comm _ _ hji]
      exact h3.2.2

/-- Is number i waited for by number m, by way of others or not? -/
def waitsB (ops : Array Oper) (i : Nat) : Nat → Nat → Bool
  | 0, _ => false
  | f + 1, m =>
    match ops[m]? with
    | some om => om.after.any fun e => Region.binds .any e && (e.on == i || waitsB ops i f e.on)
    | none => false
theorem Closed.waits {ops : Array Oper} {listed : Array Bool} (hc : Closed ops listed) {i : Nat} : ∀ (f m : Nat), waitsB ops i f m = true → listed.getD m false = true → listed.getD i false = true
  | 0, m, h, _ => by simp [waitsB] at h
  | f + 1, m, h, hm => by
    simp only [waitsB] at h
    cases ho : ops[m]? with
    | none => simp [ho] at h
    | some om =>
      simp only [ho] at h
      obtain ⟨e, he, hb⟩ := Array.any_eq_true'.1 h
      simp only [Bool.and_eq_true, Bool.or_eq_true, beq_iff_eq] at hb
      have h1 := hc.2 m om ho hm e he hb.1
      rcases hb.2 with h2 | h2
      · rw [← h2]; exact h1
      · exact hc.waits f e.on h2 h1

/-- As long as number m has not come up, B holds. -/
def Till (m : Nat) (B : World → Prop) (listed : Array Bool) (w : World) : Prop := listed.getD m false = false → B w
theorem Till.lasts {B : World → Prop} {i m : Nat} {listed : Array Bool} {w : World} (h : Till m B listed w) : Till m B (listed.setIfInBounds i true) w := by
  intro hf
  refine h ?_
  cases hq : listed.getD m false with
  | false => rfl
  | true => rw [getD_set_true hq] at hf; cases hf
theorem Till.back {B : World → Prop} {i m : Nat} {listed : Array Bool} {w : World} (hne : i ≠ m) (h : Till m B (listed.setIfInBounds i true) w) : Till m B listed w := by
  intro hf
  refine h ?_
  rw [getD_set_ne false hne]; exact hf
/-- What is told by some assertions. -/
def Reads (LB : List Assn) (w : World) : Prop := ∃ S R, (stars LB).holds w S R
theorem St.reads (h : St w0 S0 R N sl L a w) (ix : List Nat) {LB Y : List Assn} (hp : picks (rel ix) L = some (LB, Y)) : Reads LB w :=
  let ⟨S, hL, _⟩ := h.heap; ⟨S, R, Ent.picks (rel ix) hp w S R hL⟩

/-- Who has come up, by the bits of a number. -/
def msk (n k : Nat) : Array Bool := ((List.range n).map fun i => k.testBit i).toArray
theorem msk_zero (n : Nat) : msk n 0 = Array.replicate n false := by
  simp only [msk, Nat.zero_testBit]
  rw [List.map_const', List.length_range, List.toArray_replicate]
/-- The begin: some draw, then whatever order. -/
theorem C.anyAt (hm : P.follows .mixedOrders = true) (m n : Nat) (ix : List Nat) {LB : List Assn} {id : Nat} {l : List Oper} (h : St w0 S0 R N sl L a w) (hp : (picks (rel ix) L).map Prod.fst = some LB) (hn : l.length = n)
    (k : ∀ w', St w0 S0 R N sl L a w' → Closed l.toArray (msk n 0) → Till m (Reads LB) (msk n 0) w' → wpAnyL P l.toArray Q (Till m (Reads LB)) n (msk n 0) a w') : (Code.region id l.toArray true).wp P Q a w := by
  refine wp_region_any hm (wpAny_of_L (I := Till m (Reads LB)) _ _ _ _ ?_)
  subst hn
  rw [msk_zero] at k
  have h0 := Closed.start l.toArray
  simp only [List.size_toArray] at h0 ⊢
  cases hq : picks (rel ix) L with
  | none => simp [hq] at hp
  | some p =>
    simp only [hq, Option.map_some, Option.some.injEq] at hp
    exact k _ h.drew h0 (fun _ => h.drew.reads ix (Y := p.2) (by rw [hq, ← hp]))
/-- What reads is taken first. -/
theorem St.takeL (h : St w0 S0 R N sl L a w) (i m t' : Nat) {LB : List Assn} {oi : Oper} {fuel n t : Nat} {l : List Oper} (hi : l[i]? = some oi) (hck : (Region.noSelect l.toArray && Region.free .any l.toArray (msk n t) i && (Region.ready .any l.toArray (msk n t)).contains i && !Nat.beq i m && (Nat.ble l.length m || waitsB l.toArray i l.length m) && (msk n t).setIfInBounds i true == msk n t') = true)
    (hcl : Closed l.toArray (msk n t)) (hI : Till m (Reads LB) (msk n t) w) (hw : Region.wanted oi (Go.yielded l.toArray a.tmps) = true) (hd : oi.dst = some d) (hN : Nat.blt d N = true) (hv : Gets P oi sl LB v)
    (hQ : ∀ c a w, Q (.panic c) (a.put (some d) v) w → Q (.panic c) a w)
    (k : ∀ a', St w0 S0 R N ((d, v) :: sl) L a' w → Closed l.toArray (msk n t') → Till m (Reads LB) (msk n t') w → wpAnyL P l.toArray Q (Till m (Reads LB)) fuel (msk n t') a' w) :
    wpAnyL P l.toArray Q (Till m (Reads LB)) (fuel + 1) (msk n t) a w := by
  simp only [Bool.and_eq_true, beq_iff_eq] at hck
  obtain ⟨⟨⟨⟨⟨hs, hf⟩, hr⟩, hlt⟩, hwt⟩, ht'⟩ := hck
  have hoi : l.toArray[i]? = some oi := by simpa using hi
  have hr' : i ∈ Region.ready .any l.toArray (msk n t) := by simpa using hr
  have hne : i ≠ m := fun e => by subst e; simp at hlt
  rw [← ht'] at k
  refine wpAnyL_first hoi (Region.noSelect_spec hs) (by rw [hd]; exact hQ) (fun _ _ _ _ x => x.lasts) (fun _ _ x => x.back hne) fuel _ a w (Region.free_spec hoi hf) hcl hr' (.inl ⟨hw, ?_⟩) hI ?_
  · intro listed' w' hc' hl' hI'
    have : listed'.getD m false = false := by
      cases hq : listed'.getD m false with
      | false => rfl
      | true =>
        rcases Bool.or_eq_true_iff.1 hwt with hm | hwt
        · have hm := Nat.le_of_ble_eq_true hm
          have hz := hc'.1
          simp only [List.size_toArray] at hz
          rw [Array.getD_eq_getD_getElem?, Array.getElem?_eq_none (by omega)] at hq
          cases hq
        · have h1 := hc'.waits _ m hwt hq
          rw [getD_both hl'] at h1
          cases h1
    obtain ⟨S', R', hB⟩ := hI' this
    exact hv a w' S' R' h.slots hB
  · rw [hd]
    exact k _ (h.slot hN v) (hcl.set hr') hI.lasts
/-- What needs no memory is taken first. -/
theorem St.takeP (h : St w0 S0 R N sl L a w) (i m t' : Nat) {LB : List Assn} {oi : Oper} {fuel n t : Nat} {l : List Oper} (hi : l[i]? = some oi) (hck : (Region.noSelect l.toArray && Region.free .any l.toArray (msk n t) i && (Region.ready .any l.toArray (msk n t)).contains i && !Nat.beq i m && (msk n t).setIfInBounds i true == msk n t') = true)
    (hcl : Closed l.toArray (msk n t)) (hI : Till m (Reads LB) (msk n t) w) (hw : Region.wanted oi (Go.yielded l.toArray a.tmps) = true) (hd : oi.dst = some d) (hN : Nat.blt d N = true) (hv : Gets P oi sl [] v)
    (hQ : ∀ c a w, Q (.panic c) (a.put (some d) v) w → Q (.panic c) a w)
    (k : ∀ a', St w0 S0 R N ((d, v) :: sl) L a' w → Closed l.toArray (msk n t') → Till m (Reads LB) (msk n t') w → wpAnyL P l.toArray Q (Till m (Reads LB)) fuel (msk n t') a' w) :
    wpAnyL P l.toArray Q (Till m (Reads LB)) (fuel + 1) (msk n t) a w := by
  simp only [Bool.and_eq_true, beq_iff_eq] at hck
  obtain ⟨⟨⟨⟨hs, hf⟩, hr⟩, hlt⟩, ht'⟩ := hck
  have hoi : l.toArray[i]? = some oi := by simpa using hi
  have hr' : i ∈ Region.ready .any l.toArray (msk n t) := by simpa using hr
  have hne : i ≠ m := fun e => by subst e; simp at hlt
  rw [← ht'] at k
  refine wpAnyL_first hoi (Region.noSelect_spec hs) (by rw [hd]; exact hQ) (fun _ _ _ _ x => x.lasts) (fun _ _ x => x.back hne) fuel _ a w (Region.free_spec hoi hf) hcl hr' (.inl ⟨hw, ?_⟩) hI ?_
  · intro listed' w' hc' hl' hI'
    exact hv a w' (fun _ _ => False) (fun _ _ => False) h.slots trivial
  · rw [hd]
    exact k _ (h.slot hN v) (hcl.set hr') hI.lasts
/-- The one that can come up does. -/
theorem oneL (i t' : Nat) {oi : Oper} {fuel n t : Nat} {l : List Oper} (hi : l[i]? = some oi) (hr : (Region.ready .any l.toArray (msk n t) == [i] && (msk n t).setIfInBounds i true == msk n t') = true) (hcl : Closed l.toArray (msk n t)) (hw : Region.wanted oi (Go.yielded l.toArray a.tmps) = true)
    (k : Closed l.toArray (msk n t') → oi.wp P a w (fun a' w' => I (msk n t') w' ∧ wpAnyL P l.toArray Q I fuel (msk n t') a' w') Q) : wpAnyL P l.toArray Q I (fuel + 1) (msk n t) a w := by
  simp only [Bool.and_eq_true, beq_iff_eq] at hr
  obtain ⟨hr', ht'⟩ := hr
  have hoi : l.toArray[i]? = some oi := by simpa using hi
  rw [← ht'] at k
  refine ⟨fun h => (by rw [hr'] at h; cases h), fun j hj => ?_⟩
  rw [hr'] at hj
  simp only [List.mem_singleton] at hj
  subst hj
  unfold wpOp
  rw [hoi]
  simp only [hw, if_true]
  exact .inl (k (hcl.set (by rw [hr']; simp)))
theorem doneL {fuel : Nat} {listed : Array Bool} {l : List Oper} (hr : ((Region.ready .any l.toArray listed) == []) = true) (k : Q .normal a w) : wpAnyL P l.toArray Q I fuel listed a w := by
  have hr' : Region.ready .any l.toArray listed = [] := by simpa using hr
  cases fuel with
  | zero => exact ⟨hr', k⟩
  | succ n => exact ⟨fun _ => k, fun i hi => (by rw [hr'] at hi; cases hi)⟩
/-- Behind an effect: what is read from here on. -/
theorem St.onL (h : St w0 S0 R N sl L a w) (ix : List Nat) {m n t : Nat} {LB : List Assn} {q : Prop} (hp : (picks (rel ix) L).map Prod.fst = some LB) (k : Till m (Reads LB) (msk n t) w → q) : Till m (Reads LB) (msk n t) w ∧ q := by
  cases hq : picks (rel ix) L with
  | none => simp [hq] at hp
  | some p =>
    simp only [hq, Option.map_some, Option.some.injEq] at hp
    have : Till m (Reads LB) (msk n t) w := fun _ => h.reads ix (Y := p.2) (by rw [hq, ← hp])
    exact ⟨this, k this⟩
theorem offL {m n t : Nat} {B : World → Prop} {q : Prop} (hb : ((msk n t).getD m false) = true) (k : Till m B (msk n t) w → q) : Till m B (msk n t) w ∧ q := by
  have : Till m B (msk n t) w := fun hf => by rw [hb] at hf; cases hf
  exact ⟨this, k this⟩
end
end Go.Tr
