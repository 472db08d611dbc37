/-
  From a walk to a walk in a round's frame: regions.
-/
import Derived.Test.YtllhegccpknncaaSlf
import Derived.RangeFuncCalls
import Derived.OrdersIn
import Derived.TacticsIn
set_option linter.unusedVariables false
set_option linter.unusedSimpArgs false
set_option linter.unusedSectionVars false
namespace Go.Tr
section
variable {P : Program} {ops : Array Oper} {Q : Exit → Act → World → Prop} {a : Act} {w : World} {o : Oper} {K : Act → World → Prop} {n l : Nat}

theorem calls_round {f : FuncId} {args : Array Value} {R : Ending → World → Prop} (m : Nat) (h : Calls P f args w R) : CallsIn (Fence.wide.inRound l) m P f args w R := CallsIn.inRound l (callsIn_wide.2 h)
/-- An operation that lays up no call, and asks for no row of another's. -/
def plainB (o : Oper) : Bool := match o.op with
  | .defer _ => false
  | _ => true
theorem plainB_spec (h : plainB o = true) : ∀ c, o.op ≠ .defer c := by
  intro c e
  simp [plainB, e] at h
theorem rows_round {row : String} {args : Array Value} {R : Value → World → Prop} (m : Nat) (h : Rows P row args w R) : RowsIn (Fence.wide.inRound l) m P row args w R :=
  fun c cs _ => let ⟨v, w', r, st⟩ := h c cs; ⟨v, w', r, stepsIn_wide.2 st⟩
theorem wpIn_of_wp (hp : plainB o = true) (h : o.wp P a w K Q) : o.wpIn (Fence.wide.inRound l) n P a w K Q := by
  refine ⟨fun _ _ => trivial, ?_⟩
  rw [Oper.semAt_eq _ _ _ (plainB_spec hp)]
  unfold Oper.wp at h
  generalize (execOp a.eval o).run P w = r at *
  cases r with
  | ok x w' =>
    cases x with
    | value v => exact h
    | skip => exact h
    | defer d => exact h
    | enter f args => exact ⟨fun h => (by cases h), calls_round _ h⟩
    | row row args => exact ⟨fun h => (by cases h), rows_round _ h⟩
    | _ => exact h.elim
  | halt x w' =>
    cases x with
    | panic v => exact h
    | _ => exact h.elim
theorem wpListIn_of_wpList (hQ : ¬ LetsOut Q) : ∀ (l' : List Oper) (a : Act) (w : World), l'.all plainB = true → wpList P ops Q l' a w → wpListIn (Fence.wide.inRound l) n P ops Q l' a w
  | [], _, _, _, h => h
  | o :: rest, a, w, hp, h => by
    simp only [List.all_cons, Bool.and_eq_true] at hp
    unfold wpList at h
    unfold wpListIn
    split
    · rename_i hw
      rw [if_pos hw] at h
      rcases h with h | h
      · exact wpIn_of_wp hp.1 (Oper.wp_mono (fun a' w' h' => wpListIn_of_wpList hQ rest a' w' hp.2 h') h)
      · exact absurd h.2 hQ
    · rename_i hw
      rw [if_neg hw] at h
      exact ⟨fun _ _ => trivial, wpListIn_of_wpList hQ rest _ w hp.2 h⟩
theorem CR.region (hQ : ¬ LetsOut Q) {id : Nat} {l' : List Oper} (hp : l'.all plainB = true) (h : wpList P l'.toArray Q l' a w) : (Code.region id l'.toArray false).wpIn (Fence.wide.inRound l) n P Q a w :=
  wpIn_region_lit (wpListIn_of_wpList hQ l' a w hp h)
theorem wpAnyIn_of_wpAny (hQ : ¬ LetsOut Q) (hp : ops.all plainB = true) : ∀ (fuel : Nat) (listed : Array Bool) (a : Act) (w : World), wpAny P .any ops Q fuel listed a w → wpAnyIn (Fence.wide.inRound l) n P .any ops Q fuel listed a w
  | 0, _, _, _, h => h
  | fuel + 1, listed, a, w, h => ⟨h.1, fun i hi => by
    have h1 := wpOp_mono (fun a' w' h' => wpAnyIn_of_wpAny hQ hp fuel _ a' w' h') (h.2 i hi)
    unfold wpOp at h1
    unfold wpOpIn
    cases hi : ops[i]? with
    | none => simpa [hi] using h1
    | some o =>
      simp only [hi] at h1 ⊢
      split
      · rename_i hw
        rw [if_pos hw] at h1
        rcases h1 with h1 | h1
        · refine wpIn_of_wp ?_ h1
          obtain ⟨h2, rfl⟩ := Array.getElem?_eq_some_iff.1 hi
          exact Array.all_eq_true.1 hp i h2
        · exact absurd h1.2 hQ
      · rename_i hw
        rw [if_neg hw] at h1
        exact ⟨fun _ _ => trivial, h1⟩⟩
/-! ### An iterator's own region: what reads first, the call of yield behind it -/

theorem callsW {f : FuncId} {args : Array Value} {R : Ending → World → Prop} (m : Nat) (h : Calls P f args w R) : CallsIn Fence.wide m P f args w R := callsIn_wide.2 h
theorem wpInW_of_wp (h : o.wp P a w K Q) : o.wpIn Fence.wide n P a w K Q := by
  refine ⟨fun _ _ => trivial, ?_⟩
  show o.uponIn Fence.wide n P a K Q ((execOp a.eval o).run P w)
  unfold Oper.wp at h
  generalize (execOp a.eval o).run P w = r at *
  cases r with
  | ok x w' =>
    cases x with
    | value v => exact h
    | skip => exact h
    | defer d => exact h
    | enter f args => exact ⟨fun h => (by cases h), callsW _ h⟩
    | row row args => exact ⟨fun h => (by cases h), fun c cs _ => let ⟨v, w', r, st⟩ := h c cs; ⟨v, w', r, stepsIn_wide.2 st⟩⟩
    | _ => exact h.elim
  | halt x w' =>
    cases x with
    | panic v => exact h
    | _ => exact h.elim
theorem wpOpInW_of_wpOp (hQ : ¬ LetsOut Q) {i : Nat} (h : wpOp P ops Q i K a w) : wpOpIn Fence.wide n P ops Q i K a w := by
  unfold wpOp at h
  unfold wpOpIn
  cases hi : ops[i]? with
  | none => simpa [hi] using h
  | some o =>
    simp only [hi] at h ⊢
    split
    · rename_i hw
      rw [if_pos hw] at h
      rcases h with h | h
      · exact wpInW_of_wp h
      · exact absurd h.2 hQ
    · rename_i hw
      rw [if_neg hw] at h
      exact ⟨fun _ _ => trivial, h⟩
theorem wpIn_offQ (h : o.wpIn Fence.wide n P a w K (fun _ _ _ => False)) : o.wpIn Fence.wide n P a w K Q := by
  refine ⟨h.1, ?_⟩
  have hh := h.2
  generalize (o.semAt Fence.wide.round a.eval).run P w = r at *
  cases r with
  | ok x w' =>
    cases x with
    | value v => exact hh
    | skip => exact hh
    | defer d => exact hh
    | enter f args => exact ⟨hh.1, hh.2.mono fun e w'' he => by
        cases e with
        | returned v => exact he
        | panicked c => exact he.elim
        | outgrown => exact he.elim fun _ x => x.elim fun _ y => y.elim⟩
    | row row args => exact hh
    | round l f tmps as body => exact ⟨hh.1, hh.2.mono fun e w'' he => by
        cases e with
        | returned v => exact he
        | panicked c => exact he.elim
        | outgrown => exact he.elim fun _ x => x.elim fun _ y => y.elim⟩
    | _ => exact hh.elim
  | halt x w' =>
    cases x with
    | panic v => exact hh.elim
    | _ => exact hh.elim
theorem wpOpInW_of_stOp {i : Nat} {K1 : Act → Prop} (h : ∀ a, K1 a → K a w) (hh : stOp P ops w i K1 a) : wpOpIn Fence.wide n P ops Q i K a w := by
  have h1 := wpOpInW_of_wpOp (n := n) (Q := fun _ _ _ => False) (fun ⟨_, _, x⟩ => x) (wpOp_of_stOp (Q' := fun _ _ _ => False) h hh)
  unfold wpOpIn at h1 ⊢
  cases hi : ops[i]? with
  | none => simpa [hi] using h1
  | some o =>
    simp only [hi] at h1 ⊢
    split
    · rename_i hw
      rw [if_pos hw] at h1
      exact wpIn_offQ h1
    · rename_i hw
      rw [if_neg hw] at h1
      exact h1
theorem wpAnyInW_of_head {md : Region.Mode} {m g : Nat} {L : Array Bool → Act → Prop} (hL : ∀ listed a, L listed a → wpAnyIn Fence.wide n P md ops Q g listed a w) :
    ∀ (f : Nat) (listed : Array Bool) (a : Act), Go.wpAnyL P md ops w m L f listed a → wpAnyIn Fence.wide n P md ops Q (f + g) listed a w
  | 0, listed, a, h => by rw [Nat.zero_add]; exact hL _ _ h
  | f + 1, listed, a, h => by
    rw [show f + 1 + g = (f + g) + 1 by omega]
    exact ⟨fun h0 => absurd h0 h.1, fun i hi => wpOpInW_of_stOp (fun a' h' => wpAnyInW_of_head hL f _ a' h') (h.2 i hi).2⟩
theorem wpAnyInW_of_seq {md : Region.Mode} : ∀ (l : List Oper) (k : Nat) (listed : Array Bool) (a : Act) (w : World), (∀ j, l[j]? = ops[k + j]?) →
    Region.seqB md ops l.length k listed = true → wpListIn Fence.wide n P ops Q l a w → wpAnyIn Fence.wide n P md ops Q l.length listed a w
  | [], _, _, _, _, _, hB, h => ⟨by simpa [Region.seqB] using hB, h⟩
  | o :: l, k, listed, a, w, hl, hB, h => by
    have h0 : ops[k]? = some o := by simpa using (hl 0).symm
    simp only [List.length_cons, Region.seqB, Bool.and_eq_true, decide_eq_true_eq] at hB
    refine ⟨fun h1 => (by rw [hB.1] at h1; cases h1), fun i hi => ?_⟩
    rw [hB.1] at hi
    have hik : i = k := by simpa using hi
    subst hik
    have hw : wpOpIn Fence.wide n P ops Q i (wpListIn Fence.wide n P ops Q l) a w := by unfold wpOpIn; simp only [h0]; exact h
    exact wpOpIn_mono (fun a' w' h' => wpAnyInW_of_seq l (i + 1) _ a' w' (fun j => by have := hl (j + 1); simpa [Nat.add_assoc, Nat.add_comm 1 j] using this) hB.2 h') hw
theorem wpInW_region_tail {id : Nat} {l : List Oper} (m : Nat) (hm : P.follows .mixedOrders = true) (hB : Region.lexTailB .any l.toArray m = true)
    (h : wpStill P l.toArray { w with drawn := w.drawn + 1 } (fun a' => wpListIn Fence.wide n P l.toArray Q (l.drop m) a' { w with drawn := w.drawn + 1 }) (l.take m) a) : (Code.region id l.toArray true).wpIn Fence.wide n P Q a w := by
  simp only [Region.lexTailB, Bool.and_eq_true, decide_eq_true_eq] at hB
  obtain ⟨⟨⟨⟨hsel, hn⟩, hs⟩, hc⟩, hlex⟩ := hB
  have hn' : m < l.length := by simpa using hn
  have htl : (l.take m).length = m := by simp; omega
  have hdl : (l.drop m).length = l.toArray.size - m := by simp
  have inv0 : HeadInv .any l.toArray m (Array.replicate l.toArray.size false) :=
    ⟨by simp, fun j oj _ hl => (by rw [getD_replicate_false] at hl; cases hl), fun t _ ht => getD_in (by simpa using ht) (getD_replicate_false _ _)⟩
  have H := wpAnyL_lex (md := .any) (g := l.toArray.size - m) hsel hs hc hn (l.take m) 0 _ a (fun j hj => by
    have hj' : j < m := by rw [htl] at hj; exact hj
    simp [hj']) (by simpa using htl) inv0 (by rw [htl]; exact hlex) h
  refine wpIn_region_any hm ?_
  have := wpAnyInW_of_head (n := n) (Q := Q) (g := l.toArray.size - m) (fun listed a' hL => by
    have := wpAnyInW_of_seq (n := n) (md := .any) (Q := Q) (l.drop m) m listed a' { w with drawn := w.drawn + 1 } (fun j => by simp [List.getElem?_drop]) (by rw [hdl]; exact hL.1) hL.2
    rwa [hdl] at this) _ _ _ H
  rw [htl, show m + (l.toArray.size - m) = l.toArray.size by omega] at this
  exact this
variable {w0 : World} {S0 R : Fp} {N : Nat} {sl : List (Nat × Value)} {L : List Assn}
/-- A region in any order, in a round's frame. -/
theorem CR.anyAt (hm : P.follows .mixedOrders = true) (hQ : ¬ LetsOut Q) (m k : Nat) (ix : List Nat) {LB : List Assn} {id : Nat} {l' : List Oper} (hpl : l'.all plainB = true) (h : St w0 S0 R N sl L a w) (hp : (picks (rel ix) L).map Prod.fst = some LB) (hn : l'.length = k)
    (hk : ∀ w', St w0 S0 R N sl L a w' → Closed l'.toArray (msk k 0) → Till m (Reads LB) (msk k 0) w' → wpAnyL P l'.toArray Q (Till m (Reads LB)) k (msk k 0) a w') : (Code.region id l'.toArray true).wpIn (Fence.wide.inRound l) n P Q a w := by
  refine wpIn_region_any hm (wpAnyIn_of_wpAny hQ (by simpa using hpl) _ _ _ _ (wpAny_of_L (I := Till m (Reads LB)) _ _ _ _ ?_))
  subst hn
  rw [msk_zero] at hk
  have h0 := Closed.start l'.toArray
  simp only [List.size_toArray] at h0 ⊢
  cases hq : picks (rel ix) L with
  | none => simp [hq] at hp
  | some p =>
    simp only [hq, Option.map_some, Option.some.injEq] at hp
    exact hk _ h.drew h0 (fun _ => h.drew.reads ix (Y := p.2) (by rw [hq, ← hp]))
section
variable {F : Fence}
theorem CR.seq {x y : Code} (k : x.wpIn F n P (Exit.then (y.wpIn F n P Q) Q) a w) : (Code.seq x y).wpIn F n P Q a w := wpIn_seq k
theorem CR.block {i : Nat} {c : Code} (k : c.wpIn F n P (Exit.inBlock i Q) a w) : (Code.block i c).wpIn F n P Q a w := wpIn_block k
theorem CR.skip (k : Q .normal a w) : Code.skip.wpIn F n P Q a w := wpIn_skip k
theorem CR.exit {i : Nat} (k : Q (.exit i) a w) : (Code.exit i).wpIn F n P Q a w := wpIn_exit k
theorem St.condRT {x y : Code} {c : Operand} (h : St w0 S0 R N sl L a w) (hc : ev sl c = some (.bool true)) (k : x.wpIn F n P Q a w) : (Code.cond c x y).wpIn F n P Q a w := wpIn_cond_true (h.slots.ev hc) k
theorem St.condRF {x y : Code} {c : Operand} (h : St w0 S0 R N sl L a w) (hc : ev sl c = some (.bool false)) (k : y.wpIn F n P Q a w) : (Code.cond c x y).wpIn F n P Q a w := wpIn_cond_false (h.slots.ev hc) k
theorem St.condRP {p : Prop} [Decidable p] {x y : Code} {c : Operand} (h : St w0 S0 R N sl L a w) (hc : ev sl c = some (.bool (decide p))) (kT : p → x.wpIn F n P Q a w) (kF : ¬ p → y.wpIn F n P Q a w) : (Code.cond c x y).wpIn F n P Q a w :=
  wpIn_cond_split (h.slots.ev hc) (fun e => kT (of_decide_eq_true e)) fun e => kF (of_decide_eq_false e)
end
/-- What only reads does not look at the calls that are laid up. -/
theorem put_defers (a : Act) (D : List Deferred) (d : Option Tmp) (v : Value) : ({ a with defers := D } : Act).put d v = { a.put d v with defers := D } := by cases d <;> rfl
theorem wpStill_defers {w : World} {q : Act → Prop} (D : List Deferred) : ∀ (l : List Oper) (a : Act), wpStill P ops w (fun a' => q { a' with defers := D }) l a → wpStill P ops w q l { a with defers := D }
  | [], a, h => h
  | o :: rest, a, h => by
    unfold wpStill at h ⊢
    by_cases hw : Region.wanted o (Go.yielded ops a.tmps) = true
    · rw [if_pos hw] at h
      rw [if_pos hw]
      unfold Oper.still at h ⊢
      have he : (({ a with defers := D } : Act)).eval = a.eval := rfl
      rw [he]
      generalize (execOp a.eval o).run P w = r at *
      cases r with
      | ok x w' =>
        cases x with
        | value v => exact ⟨h.1, by rw [put_defers]; exact wpStill_defers D rest _ h.2⟩
        | skip => exact ⟨h.1, by rw [put_defers]; exact wpStill_defers D rest _ h.2⟩
        | enter f args => obtain ⟨h1, v, h2, h3⟩ := h; exact ⟨h1, v, h2, by rw [put_defers]; exact wpStill_defers D rest _ h3⟩
        | _ => exact h.elim
      | halt x w' => exact h.elim
    · rw [if_neg hw] at h
      rw [if_neg hw, put_defers]
      exact wpStill_defers D rest (a.put o.dst undef) h
end
end Go.Tr
