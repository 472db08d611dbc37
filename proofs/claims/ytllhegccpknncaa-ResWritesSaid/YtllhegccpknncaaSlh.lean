/-
  Ranges over functions: what a call of yield owes, a round, the statement; an iterator's own walk.
-/
import Derived.Test.YtllhegccpknncaaSlg
import Derived.Scope
set_option linter.unusedVariables false
set_option linter.unusedSimpArgs false
set_option linter.unusedSectionVars false
namespace Go.Tr
section
variable {P : Program} {w0 : World} {S0 R : Fp} {N : Nat} {sl : List (Nat × Value)} {L : List Assn} {a : Act} {w : World}
variable {ops : Array Oper} {Q : Exit → Act → World → Prop} {rest : List Oper} {o : Oper} {d : Nat} {v : Value} {n l : Nat}

/-- What a call of yield with these values does, by what is had then. -/
def YieldMeets (P : Program) (l : Nat) (args : Array Value) (L : List Assn) (Post : Value → List Assn → Prop) : Prop :=
  ∀ (w : World) (S R : Fp), (stars L).holds w S R → (∀ b o, S b o → ¬ R b o) → (∀ b o, S b o → b < w.heap.size) → (∀ b o, R b o → b < w.heap.size) →
    ∃ f tmps assign body, (Instr.yield l args).run P w = .ok (.round l f tmps assign body) w ∧ RoundIn Fence.wide 0 P l f tmps assign body w (EndsAt w S R Post)

theorem YieldMeets.post {args : Array Value} {Post Post' : Value → List Assn → Prop} (h : YieldMeets P l args L Post) (hp : ∀ v L1, Post v L1 → ∃ L2, Post' v L2 ∧ Ent (stars L1) (stars L2)) : YieldMeets P l args L Post' := by
  intro w S R h1 h2 h3 h4
  obtain ⟨f, tmps, as, body, h5, h6⟩ := h w S R h1 h2 h3 h4
  refine ⟨f, tmps, as, body, h5, h6.mono ?_⟩
  rintro e w' ⟨v, L', S', he, hpo, hL', hal, hsub, hE⟩
  obtain ⟨L2, h5, h6⟩ := hp v L' hpo
  exact ⟨v, L2, S', he, h5, h6 _ _ _ hL', hal, hsub, hE⟩
theorem YieldMeets.pre {args : Array Value} {L1 : List Assn} {Post : Value → List Assn → Prop} (h : YieldMeets P l args L1 Post) (he : Ent (stars L) (stars L1)) : YieldMeets P l args L Post :=
  fun w S R h1 h2 h3 h4 => h w S R (he w S R h1) h2 h3 h4

/-! ### The iterator's walk: the call of yield -/

/-- The machine's own step at a call of yield. -/
theorem St.yieldK (h : St w0 S0 R N sl L a w) {x : Operand} {as : List Operand} {vs : List Value} {tys : Array TypeId} {X Y M : List Assn} {Post : Value → List Assn → Prop} {K : Act → World → Prop} (ix : List Nat) (hp : picks ix L = some (X, Y)) (hr : Ro (stars Y) (stars M))
    (ho : o.op = .call { callee := .value x, args := as.toArray, argTypes := tys }) (hx : ev sl x = some (.func (.yield l) #[] #[])) (has : evs sl as = some vs) (hspec : YieldMeets P l vs.toArray (X ++ M) Post)
    (k : ∀ v L' w', Post v L' → St w0 S0 R N sl (L' ++ Y) a w' → K (a.put o.dst v) w') : o.wpIn Fence.wide 0 P a w K Q := by
  obtain ⟨S, hL, hR, hal, h0, hM⟩ := h.heap
  have hrw : ∀ b o, R b o → b < w.heap.size := fun b o x => Nat.lt_of_lt_of_le (h.ralloc b o x) h.evo.size
  obtain ⟨S1, S2, hs1, hs2, hd, hX, hY⟩ := picks_ent ix L X Y hp w S R hL
  have hpre : (stars (X ++ M)).holds w S1 (fun b o => R b o ∨ S2 b o) :=
    stars_append' X M w S1 _ ⟨S1, fun _ _ => False, fun _ _ x => x, fun _ _ x => x.elim, fun _ _ _ x => x, (stars X).mono hX (fun _ _ x => x) (fun _ _ x => .inl x), hr w S2 R hY⟩
  obtain ⟨f, tmps, as', body, hy, hround⟩ := hspec w S1 _ hpre (fun b o x y => y.elim (hR b o (hs1 b o x)) (hd b o x)) (fun b o x => hal b o (hs1 b o x)) (fun b o x => x.elim (hrw b o) fun y => hal b o (hs2 b o y))
  refine ⟨fun _ _ => trivial, ?_⟩
  have hrun : (o.semAt Fence.wide.round a.eval).run P w = .ok (.round l f tmps as' body) w := by
    show (execOp a.eval o).run P w = _
    simp [execOp, ho, resolve, h.slots.ev hx, Deferred.ofValue, invoke, h.slots.evs has, hy]
  rw [hrun]
  refine ⟨(fun h => by cases h), hround.mono ?_⟩
  rintro e w' ⟨v, L', S', rfl, hpost, hL', hal', hsub, hE⟩
  refine k v L' w' hpost ?_
  refine ⟨h.sz, h.slots, ⟨fun b o => S' b o ∨ S2 b o, ?_, ?_, ?_, ?_, hM.step hE hs1 fun b o x => x.elim (fun y => (hsub b o y).imp (hs1 b o) id) fun y => .inl (hs2 b o y)⟩, h.ralloc, h.evo.trans hE fun b o x => h0 b o (hs1 b o x)⟩
  · exact stars_append' L' Y w' _ R ⟨S', S2, fun _ _ x => .inl x, fun _ _ x => .inr x, fun b o x y => (hsub b o x).elim (fun x => hd b o x y) fun x => by have := hal b o (hs2 b o y); omega,
      (stars L').mono hL' (fun _ _ x => x) (fun b o x => x.elim),
      (stars Y).loc hY (hE.agree.mono fun b o x => ⟨x.elim (fun y => hal b o (hs2 b o y)) (hrw b o), fun y => x.elim (hd b o y) fun z => hR b o (hs1 b o y) z⟩)⟩
  · intro b o x y
    exact x.elim (fun x => (hsub b o x).elim (fun x => hR b o (hs1 b o x) y) fun x => by have := hrw b o y; omega) fun x => hR b o (hs2 b o x) y
  · intro b o x
    exact x.elim (hal' b o) fun y => Nat.lt_of_lt_of_le (hal b o (hs2 b o y)) hE.size
  · intro b o x
    exact x.elim (fun x => (hsub b o x).elim (fun x => h0 b o (hs1 b o x)) fun x => .inr (Nat.le_trans h.evo.size x)) fun x => h0 b o (hs2 b o x)

/-- A region of an iterator's: what stands ahead of the call of yield, then it. -/
theorem C.regionY (m : Nat) {id : Nat} {l' : List Oper} (hQ : ¬ LetsOut Q) (k : wpList P l'.toArray (Exit.then (fun a w => wpListIn Fence.wide 0 P l'.toArray Q (l'.drop m) a w) Q) (l'.take m) a w) : (Code.region id l'.toArray false).wp P Q a w := by
  refine wpIn_wide.1 (wpIn_region_lit (n := 0) (F := Fence.wide) ?_)
  have key : ∀ (pre : List Oper) (post : List Oper) (a : Act) (w : World), wpList P l'.toArray (Exit.then (fun a w => wpListIn Fence.wide 0 P l'.toArray Q post a w) Q) pre a w → wpListIn Fence.wide 0 P l'.toArray Q (pre ++ post) a w := by
    intro pre post
    induction pre with
    | nil => exact fun a w h => h
    | cons o pre ih =>
      intro a w h
      unfold wpList at h
      show wpListIn Fence.wide 0 P l'.toArray Q (o :: (pre ++ post)) a w
      unfold wpListIn
      split
      · rename_i hw
        rw [if_pos hw] at h
        rcases h with h | h
        · have h1 := wpInW_of_wp (n := 0) (Oper.wp_mono (fun a' w' h' => ih a' w' h') h)
          refine ⟨fun _ _ => trivial, ?_⟩
          have hh := h1.2
          generalize (o.semAt Fence.wide.round a.eval).run P w = r at *
          cases r with
          | ok x w' =>
            cases x with
            | value v => exact hh
            | skip => exact hh
            | defer d => exact hh
            | enter f args => exact ⟨hh.1, hh.2.mono fun e w'' he => by cases e <;> exact he⟩
            | row row args => exact hh
            | round l f tmps as body => exact ⟨hh.1, hh.2.mono fun e w'' he => by cases e <;> exact he⟩
            | _ => exact hh.elim
          | halt x w' =>
            cases x with
            | panic v => exact hh
            | _ => exact hh.elim
        · exact absurd h.2 hQ
      · rename_i hw
        rw [if_neg hw] at h
        exact ⟨fun _ _ => trivial, ih _ w h⟩
  have := key (l'.take m) (l'.drop m) a w k
  rwa [List.take_append_drop] at this
/-- Likewise one in any order that reads first. -/
theorem C.regionYS (m : Nat) (hm : P.follows .mixedOrders = true) {id : Nat} {l' : List Oper} (h : St w0 S0 R N sl L a w) (hB : Region.lexTailB .any l'.toArray m = true)
    (k : ∀ w', St w0 S0 R N sl L a w' → wpStill P l'.toArray w' (fun a' => wpListIn Fence.wide 0 P l'.toArray Q (l'.drop m) a' w') (l'.take m) a) : (Code.region id l'.toArray true).wp P Q a w :=
  wpIn_wide.1 (wpInW_region_tail m hm hB (k _ h.drew))
theorem wpInW_back (hQ : ¬ LetsOut Q) {l' : List Oper} (k : wpList P ops Q l' a w) : wpListIn Fence.wide 0 P ops Q l' a w := by
  revert a w
  induction l' with
  | nil => exact fun h => h
  | cons o l' ih =>
    intro a w h
    unfold wpList at h
    unfold wpListIn
    split
    · rename_i hw
      rw [if_pos hw] at h
      rcases h with h | h
      · exact wpInW_of_wp (Oper.wp_mono (fun a' w' h' => ih h') h)
      · exact absurd h.2 hQ
    · rename_i hw
      rw [if_neg hw] at h
      exact ⟨fun _ _ => trivial, ih h⟩
/-- The call of yield. -/
theorem St.yield (h : St w0 S0 R N sl L a w) {x : Operand} {as : List Operand} {vs : List Value} {tys : Array TypeId} {X Y M : List Assn} {Post : Value → List Assn → Prop} (ix : List Nat) (hp : picks ix L = some (X, Y)) (hr : Ro (stars Y) (stars M))
    (hspec : YieldMeets P l vs.toArray (X ++ M) Post) (hg : o.guard = none) (ho : o.op = .call { callee := .value x, args := as.toArray, argTypes := tys }) (hx : ev sl x = some (.func (.yield l) #[] #[])) (has : evs sl as = some vs) (hd : o.dst = some d) (hN : Nat.blt d N = true) (hQ : ¬ LetsOut Q)
    (k : ∀ v L' a' w', Post v L' → St w0 S0 R N ((d, v) :: sl) (L' ++ Y) a' w' → wpList P ops Q rest a' w') : wpListIn Fence.wide 0 P ops Q (o :: rest) a w := by
  unfold wpListIn
  rw [if_pos (wanted_of hg _)]
  refine h.yieldK ix hp hr ho hx has hspec fun v L' w' hv hst => ?_
  rw [hd]
  exact wpInW_back hQ (k v L' _ w' hv (hst.slot hN v))
/-- One whose value nobody takes. -/
theorem St.yield0 (h : St w0 S0 R N sl L a w) {x : Operand} {as : List Operand} {vs : List Value} {tys : Array TypeId} {X Y M : List Assn} {Post : Value → List Assn → Prop} (ix : List Nat) (hp : picks ix L = some (X, Y)) (hr : Ro (stars Y) (stars M))
    (hspec : YieldMeets P l vs.toArray (X ++ M) Post) (hg : o.guard = none) (ho : o.op = .call { callee := .value x, args := as.toArray, argTypes := tys }) (hx : ev sl x = some (.func (.yield l) #[] #[])) (has : evs sl as = some vs) (hd : o.dst = none) (hQ : ¬ LetsOut Q)
    (k : ∀ v L' a' w', Post v L' → St w0 S0 R N sl (L' ++ Y) a' w' → wpList P ops Q rest a' w') : wpListIn Fence.wide 0 P ops Q (o :: rest) a w := by
  unfold wpListIn
  rw [if_pos (wanted_of hg _)]
  refine h.yieldK ix hp hr ho hx has hspec fun v L' w' hv hst => ?_
  rw [hd]
  exact wpInW_back hQ (k v L' _ w' hv hst)
/-- A guarded one. -/
theorem St.guardY_yes (h : St w0 S0 R N sl L a w) {j t : Nat} {b : Bool} {oj : Oper} (hg : o.guard = some (j, b)) (hj : ops[j]? = some oj) (ht : oj.dst = some t) (htN : Nat.blt t N = true) (hs : lk sl t = some (.bool b))
    (k : wpListIn Fence.wide 0 P ops Q ({ o with guard := none } :: rest) a w) : wpListIn Fence.wide 0 P ops Q (o :: rest) a w := by
  have hy := h.yielded (ops := ops) hj ht htN hs
  have hw : Region.wanted o (Go.yielded ops a.tmps) = true := by simp [Region.wanted, hg, hy]
  unfold wpListIn at k ⊢
  rw [if_pos hw]
  rw [if_pos (wanted_of rfl _)] at k
  exact k
theorem St.guardY_no (h : St w0 S0 R N sl L a w) {j t : Nat} {b c : Bool} {oj : Oper} (hg : o.guard = some (j, b)) (hj : ops[j]? = some oj) (ht : oj.dst = some t) (htN : Nat.blt t N = true) (hs : lk sl t = some (.bool c)) (hc : b ≠ c)
    (hd : o.dst = some d) (hN : Nat.blt d N = true) (hQ : ¬ LetsOut Q) (k : ∀ a', St w0 S0 R N ((d, undef) :: sl) L a' w → wpList P ops Q rest a' w) : wpListIn Fence.wide 0 P ops Q (o :: rest) a w := by
  have hy := h.yielded (ops := ops) hj ht htN hs
  have hw : ¬ Region.wanted o (Go.yielded ops a.tmps) = true := by simp [Region.wanted, hg, hy]; exact fun e => hc e.symm
  unfold wpListIn
  rw [if_neg hw, hd]
  exact ⟨fun _ _ => trivial, wpInW_back hQ (k _ (h.slot hN undef))⟩
/-- A function's end lets nothing out. -/
theorem bodyEnd_shut {fn : Func} {w0 : World} {S R : Fp} {Post : Value → List Assn → Prop} {a : Act} {w : World} (h : bodyEnd P fn (EndsAt w0 S R Post) .outgrown a w) : False := h

/-! ### A round -/

/-- The record of a loop. -/
def recAt (l : Nat) (r : Loop) : Assn := blk l (.loop r)
instance (l : Nat) (r : Loop) : Excl (recAt l r) := by unfold recAt; infer_instance
def loopOf (r : Loop) (j : Option Code) : Loop := { r with state := if j.isNone then .ready else .done, pending := j }
def jumpOf : Exit → Option (Option Code)
  | .normal => some none
  | .ret => some (some .ret)
  | .exit i => some (some (.exit i))
  | .goto t => some (some (.goto t))
  | _ => none
/-- What a round's body must come to: B tells, by the jump with which it is left, what is had. -/
def RoundEnd (B : Option Code → List Assn → Prop) (w : World) (S : Fp) : Exit → Act → World → Prop := fun e a w' =>
  match jumpOf e with
  | none => False
  | some j => ∃ L' S', B j L' ∧ (stars L').holds w' S' (fun _ _ => False) ∧ (∀ b o, S' b o → b < w'.heap.size) ∧ (∀ b o, S' b o → S b o ∨ w.heap.size ≤ b) ∧ Evo S w w'
theorem RoundEnd.out {B : Option Code → List Assn → Prop} {w : World} {S : Fp} {e : Exit} {a : Act} {w' : World} (h : RoundEnd B w S e a w') :
    ∃ j L' S', jumpOf e = some j ∧ B j L' ∧ (stars L').holds w' S' (fun _ _ => False) ∧ (∀ b o, S' b o → b < w'.heap.size) ∧ (∀ b o, S' b o → S b o ∨ w.heap.size ≤ b) ∧ Evo S w w' := by
  unfold RoundEnd at h
  cases hj : jumpOf e with
  | none => rw [hj] at h; exact h.elim
  | some j => rw [hj] at h; obtain ⟨L', S', h⟩ := h; exact ⟨j, L', S', rfl, h⟩
def RoundMid (l : Nat) (P : Program) (R : Fp) (N : Nat) (body : Code) (B : Option Code → List Assn → Prop) (w0 : World) (S0 : Fp) (a1 : Act) (w1 : World) : Prop :=
  ∃ sl1 L1, St w0 S0 R N sl1 L1 a1 w1 ∧ ∀ w S, St w S R N sl1 L1 a1 w → body.wpIn (Fence.wide.inRound l) 0 P (RoundEnd B w S) a1 w
theorem RoundMid.of {body : Code} {B : Option Code → List Assn → Prop} (h : St w0 S0 R N sl L a w) (k : ∀ w S, St w S R N sl L a w → body.wpIn (Fence.wide.inRound l) 0 P (RoundEnd B w S) a w) : RoundMid l P R N body B w0 S0 a w :=
  ⟨sl, L, h, k⟩
def assignB (o : Oper) : Bool := match o.op with
  | .assign _ => true
  | _ => false
theorem assign_keeps {Q' : Exit → Act → World → Prop} (hQ : ¬ LetsOut Q') : ∀ (l' : List Oper) (a : Act) (w : World), l'.all assignB = true → wpList P ops Q' l' a w → wpList P ops (fun e a1 w1 => Q' e a1 w1 ∧ a1.defers = a.defers) l' a w
  | [], a, w, _, h => ⟨h, rfl⟩
  | o :: l', a, w, hp, h => by
    simp only [List.all_cons, Bool.and_eq_true] at hp
    have hdef : ∀ v, (a.put o.dst v).defers = a.defers := fun v => by cases o.dst <;> rfl
    have ih := fun a' h' => assign_keeps hQ l' a' w hp.2 h'
    unfold wpList at h ⊢
    split
    · rename_i hw
      rw [if_pos hw] at h
      obtain ⟨x, hx⟩ : ∃ x, o.op = .assign x := by
        have := hp.1
        unfold assignB at this
        split at this
        · exact ⟨_, by assumption⟩
        · cases this
      have hr : (execOp a.eval o).run P w = .ok (.value (a.eval x)) w := by simp [execOp, hx]
      rcases h with h | h
      · refine .inl ?_
        unfold Oper.wp at h ⊢
        rw [hr, Oper.upon_value] at h ⊢
        have := ih _ h
        rw [hdef] at this
        exact this
      · exact absurd h.2 hQ
    · rename_i hw
      rw [if_neg hw] at h
      have := ih _ h
      rw [hdef] at this
      exact this
/-- A state may begin anew. -/
theorem St.rebase (h : St w0 S0 R N sl L a w) (hd : a.defers = []) {w' : World} (hs : w'.heap.size = w.heap.size) {S : Fp} (hL : (stars L).holds w' S R) (hSR : ∀ b o, S b o → ¬ R b o) (hal : ∀ b o, S b o → b < w'.heap.size) : St w' S R N sl L a w' := by
  refine ⟨h.sz, h.slots, ⟨S, hL, hSR, hal, fun _ _ x => .inl x, by rw [hd]; exact Marks.nil _ _ _⟩, fun b o x => ?_, Evo.refl _ _⟩
  rw [hs]; exact Nat.lt_of_lt_of_le (h.ralloc b o x) h.evo.size

theorem foldl_slots {sl : List (Nat × Value)} : ∀ (ps : List (Nat × Value)) (tmps : Array Value), tmps.size = N → Slots sl ⟨tmps, []⟩ → ps.all (fun p => Nat.blt p.1 N) = true →
    (ps.foldl (fun t (p : Nat × Value) => t.setIfInBounds p.1 p.2) tmps).size = N ∧ Slots (ps.reverse ++ sl) ⟨ps.foldl (fun t (p : Nat × Value) => t.setIfInBounds p.1 p.2) tmps, []⟩
  | [], tmps, hn, hs, _ => ⟨hn, hs⟩
  | p :: ps, tmps, hn, hs, ha => by
    simp only [List.all_cons, Bool.and_eq_true] at ha
    have h1 := hs.put (d := p.1) (by show p.1 < tmps.size; rw [hn]; exact blt_lt ha.1) p.2
    have ih := foldl_slots ps (tmps.setIfInBounds p.1 p.2) (by simp [hn]) h1 ha.2
    refine ⟨ih.1, ?_⟩
    have := ih.2
    simpa using this
/-- A call of yield, out of the walk of a round's body. -/
theorem YieldMeets.of_round {r : Loop} {vs : List Value} {B : Option Code → List Assn → Prop} (hst : r.state = .ready) (hsz : r.tmps.size = N) (hsl : Slots sl ⟨r.tmps, []⟩) (hps : vs.length = r.params.size) (hbd : (r.params.toList.zip vs).all (fun p => Nat.blt p.1 N) = true)
    {rid : Nat} {l' : List Oper} (has : r.assign = .region rid l'.toArray false) (hall : l'.all assignB = true)
    (k : ∀ w S R a, St w S R N ((r.params.toList.zip vs).reverse ++ sl) L a w → wpList P l'.toArray (Exit.then (RoundMid l P R N r.body B w S) (fun _ _ _ => False)) l' a w) :
    YieldMeets P l vs.toArray (recAt l r :: L) (fun v L' => ∃ j L'', B j L'' ∧ v = .bool j.isNone ∧ L' = recAt l (loopOf r j) :: L'') := by
  intro w S R ⟨S1, S2, h1, h2, hd, ⟨hb1, hb2⟩, hL⟩ hSR hal hR
  have hy := run_yield (P := P) (args := vs.toArray) hb2 (by simpa using hps)
  refine ⟨_, _, _, _, hy, roundIn_of_wpIn trivial ?_⟩
  have hfold : (r.params.zip vs.toArray).foldl (fun tmps (t, a) => tmps.setIfInBounds t a) r.tmps = (r.params.toList.zip vs).foldl (fun t (p : Nat × Value) => t.setIfInBounds p.1 p.2) r.tmps := by
    rw [← Array.foldl_toList]
    simp
  obtain ⟨hz, hs⟩ := foldl_slots (r.params.toList.zip vs) r.tmps hsz hsl hbd
  rw [hfold]
  have hst1 : St w S2 R N ((r.params.toList.zip vs).reverse ++ sl) L ⟨(r.params.toList.zip vs).foldl (fun t (p : Nat × Value) => t.setIfInBounds p.1 p.2) r.tmps, []⟩ w :=
    ⟨hz, hs, ⟨S2, hL, fun b o x => hSR b o (h2 b o x), fun b o x => hal b o (h2 b o x), fun _ _ x => .inl x, Marks.nil _ _ _⟩, hR, Evo.refl _ _⟩
  have hlw : l < w.heap.size := (Array.getElem?_eq_some_iff.1 hb2).1
  have hpl : l'.all plainB = true := by
    rw [List.all_eq_true] at hall ⊢
    intro o ho
    have := hall o ho
    unfold assignB at this
    unfold plainB
    split
    · rename_i e; rw [e] at this; cases this
    · rfl
  have hk := assign_keeps (fun ⟨_, _, x⟩ => x) l' _ _ hall (k w S2 R _ hst1)
  rw [has]
  refine wpIn_mono (CR.region (n := 0) (l := l) (fun ⟨_, _, x⟩ => x.1) hpl hk) ?_
  rintro e a1 w1 ⟨hq, hd1⟩
  cases e with
  | normal =>
    obtain ⟨sl1, L1, hst2, kb⟩ := hq
    obtain ⟨T, hT1, hT2, hT3, hT4, _⟩ := hst2.heap
    have hlT : ∀ o, ¬ T l o := fun o x => (hT4 l o x).elim (fun y => hd l o (hb1 o) y) fun y => by omega
    have hlR : ∀ o, ¬ R l o := fun o x => hSR l o (h1 l o (hb1 o)) x
    have hrec1 : w1.heap[l]? = some (.loop r) := (hst2.evo.agree.blk l fun o => ⟨hlw, fun x => hd l o (hb1 o) x⟩).trans hb2
    refine ⟨_, run_beginRound hrec1 hst, ?_⟩
    have hag : Agree w1 (w1.putObj l (.loop { r with state := .busy })) (fun b o => T b o ∨ R b o) := by
      have key : ∀ b o, (T b o ∨ R b o) → (w1.putObj l (.loop { r with state := .busy })).heap[b]? = w1.heap[b]? := fun b o hb => World.putObj_heap_other (fun e => by subst e; exact hb.elim (hlT o) (hlR o))
      exact ⟨fun b o hb => Same.of_blk (key b o hb) o, fun b hb => key b 0 (hb 0)⟩
    have hst3 : St (w1.putObj l (.loop { r with state := .busy })) T R N sl1 L1 a1 (w1.putObj l (.loop { r with state := .busy })) :=
      hst2.rebase hd1 World.putObj_size ((stars L1).loc hT1 hag) hT2 (fun b o x => by rw [World.putObj_size]; exact hT3 b o x)
    refine wpIn_mono (kb _ T hst3) ?_
    have hl1 : l < w1.heap.size := (Array.getElem?_eq_some_iff.1 hrec1).1
    -- a round's end
    intro e a3 w3 hre
    obtain ⟨j, L', S', hj, hB, hL', hal', hsub, hE⟩ := hre.out
    have hrec3 : w3.heap[l]? = some (.loop { r with state := .busy }) := (hE.agree.blk l fun o => ⟨by rw [World.putObj_size]; exact hl1, hlT o⟩).trans (World.putObj_heap_same hl1)
    have hl3 : l < w3.heap.size := (Array.getElem?_eq_some_iff.1 hrec3).1
    have hlS' : ∀ o, ¬ S' l o := fun o x => (hsub l o x).elim (hlT o) fun y => by rw [World.putObj_size] at y; omega
    have fin : ∃ v w', (Instr.endRound l j).run P w3 = .ok v w' ∧ EndsAt w S R (fun v L' => ∃ j L'', B j L'' ∧ v = .bool j.isNone ∧ L' = recAt l (loopOf r j) :: L'') (.returned v) w' := by
      refine ⟨_, _, run_endRound j hrec3, .bool j.isNone, _, fun b o => b = l ∨ S' b o, rfl, ⟨j, L', hB, rfl, rfl⟩, ⟨fun b _ => b = l, S', fun _ _ x => .inl x, fun _ _ x => .inr x, fun b o x y => by subst x; exact hlS' o y, ⟨fun _ => rfl, World.putObj_heap_same hl3⟩, ?_⟩, ?_, ?_, ?_⟩
      · refine (stars L').loc hL' ?_
        have key : ∀ b o, (S' b o ∨ False) → (w3.putObj l (.loop (loopOf r j))).heap[b]? = w3.heap[b]? := fun b o hb => World.putObj_heap_other (fun e => by subst e; exact hlS' o (hb.elim id False.elim))
        exact ⟨fun b o hb => Same.of_blk (key b o hb) o, fun b hb => key b 0 (hb 0)⟩
      · intro b o x
        rw [World.putObj_size]
        exact x.elim (fun e => by subst e; exact hl3) (hal' b o)
      · intro b o x
        rcases x with x | x
        · subst x; exact .inl (h1 b o (hb1 o))
        · rcases hsub b o x with y | y
          · exact (hT4 b o y).imp (h2 b o) id
          · rw [World.putObj_size] at y; exact .inr (Nat.le_trans hst2.evo.size y)
      · have e1 : Evo S w w1 := ⟨hst2.evo.os, hst2.evo.tape, hst2.evo.output, hst2.evo.size, hst2.evo.agree.mono fun b o ⟨x, y⟩ => ⟨x, fun z => y (h2 b o z)⟩⟩
        have hput : ∀ (W : World) (o' : Obj), Evo (fun b _ => b = l) W (W.putObj l o') := fun W o' => Evo.of_blocks rfl rfl rfl (by rw [World.putObj_size]; exact Nat.le_refl _) fun b _ ⟨o'', ho⟩ => World.putObj_heap_other fun e => ho e
        refine ((e1.trans (hput w1 _) ?_).trans hE ?_).trans (hput w3 _) ?_
        · intro b o x; subst x; exact .inl (h1 b o (hb1 o))
        · intro b o x; exact (hT4 b o x).imp (h2 b o) id
        · intro b o x; subst x; exact .inl (h1 b o (hb1 o))
    obtain ⟨v, w', hr, hR⟩ := fin
    cases e with
    | normal => cases hj; exact ⟨v, w', hr, hR⟩
    | ret => cases hj; exact ⟨v, w', hr, hR⟩
    | exit i => cases hj; exact ⟨v, w', hr, hR⟩
    | goto i => cases hj; exact ⟨v, w', hr, hR⟩
    | panic c => cases hj
    | outgrown => cases hj
  | exit i => exact hq.elim
  | ret => exact hq.elim
  | goto i => exact hq.elim
  | panic c => exact hq.elim
  | outgrown => exact hq.elim
/-- The round's end. -/
theorem St.ends_round (h : St w0 S0 R N sl L a w) {B : Option Code → List Assn → Prop} {e : Exit} {j : Option Code} (hj : jumpOf e = some j) {L' : List Assn} (hL : Ent (stars L) (stars L')) [hx : Excls L'] (hB : B j L') : RoundEnd B w0 S0 e a w := by
  obtain ⟨S, hS, hR, hal, h0, _⟩ := h.heap
  unfold RoundEnd
  rw [hj]
  exact ⟨L', S, hB, hx.out w S R (hL w S R hS), hal, h0, h.evo⟩

/-! ### Lists of assertions -/
theorem stars_pack (A B : List Assn) : Ent (stars (A ++ B)) (stars (A ++ [stars B])) :=
  (stars_append A B).trans ((Ent.star (Ent.refl _) (stars_one (Ent.refl _))).trans (stars_append' A [stars B]))
theorem stars_unpack (A B : List Assn) : Ent (stars (A ++ [stars B])) (stars (A ++ B)) :=
  (stars_append A [stars B]).trans ((Ent.star (Ent.refl _) (star_fst _ _)).trans (stars_append' A B))
theorem stars_of_one {A B : Assn} (h : Ent A B) : Ent (stars [A]) B := (star_fst _ _).trans h
theorem Ent.foldL (ix : List Nat) {L X Y : List Assn} {A : Assn} (hp : Tr.picks (rel ix) L = some (X, Y)) (he : Ent (stars X) A) : Ent (stars L) (stars (A :: Y)) :=
  (picks_ent (rel ix) L X Y hp).trans (Ent.star he (Ent.refl _))
theorem loopOf_none {r : Loop} (h1 : r.state = .ready) (h2 : r.pending = none) : loopOf r none = r := by
  cases r; simp only at h1 h2; subst h1; subst h2; rfl

/-! ### A scope -/
theorem C.scope {c : Code} (k : c.wp P (Exit.noGoto Q) a w) : (Code.scope c).wp P Q a w := wp_scope_straight k
theorem X.ngN (k : Q .normal a w) : Exit.noGoto Q .normal a w := k
theorem X.ngR (k : Q .ret a w) : Exit.noGoto Q .ret a w := k
theorem X.ngE {i : Nat} (k : Q (.exit i) a w) : Exit.noGoto Q (.exit i) a w := k

/-! ### Code in a round -/
section
variable {F : Fence} {fn' : Nat}
theorem CR.ret (k : Q .ret a w) : Code.ret.wpIn F fn' P Q a w := wpIn_ret k
theorem St.condRS {x y : Code} {c : Operand} {t : Bool} (h : St w0 S0 R N sl L a w) (hc : ev sl c = some (.bool t)) (kT : t = true → x.wpIn F fn' P Q a w) (kF : t = false → y.wpIn F fn' P Q a w) : (Code.cond c x y).wpIn F fn' P Q a w := wpIn_cond_split (h.slots.ev hc) kT kF
theorem CR.loop {c : Code} (I : Nat → Act → World → Prop) (n₀ : Nat) (h₀ : I n₀ a w) (round : ∀ n a w, I n a w → c.wpIn F fn' P (Exit.then (fun a' w' => ∃ n', n' < n ∧ I n' a' w') Q) a w) : (Code.loop c).wpIn F fn' P Q a w := by
  refine wpIn_loop (fun a w => ∃ n, I n a w) (fun a w => leastOf (fun n => I n a w)) ⟨n₀, h₀⟩ ?_
  intro a w hI
  refine wpIn_mono (round _ a w (leastOf_spec hI).1) ?_
  intro e a' w' hq
  cases e with
  | normal =>
    obtain ⟨n', hlt, hI'⟩ := hq
    exact show (∃ n, I n a' w') ∧ leastOf (fun n => I n a' w') < leastOf (fun n => I n a w) from ⟨⟨n', hI'⟩, Nat.lt_of_le_of_lt ((leastOf_spec ⟨n', hI'⟩).2 n' hI') hlt⟩
  | exit id => exact hq
  | goto l => exact hq
  | ret => exact hq
  | panic ch => exact hq
  | outgrown => exact hq
/-- A region in any order that only reads, in a round. -/
theorem CR.still (hm : P.follows .mixedOrders = true) (hQ : ¬ LetsOut Q) {rid : Nat} {l' : List Oper} (hpl : l'.all plainB = true) (h : St w0 S0 R N sl L a w) (hB : Region.lexB .any l'.toArray = true)
    (k : ∀ w', St w0 S0 R N sl L a w' → wpStill P l'.toArray w' (fun a' => Q .normal a' w') l' a) : (Code.region rid l'.toArray true).wpIn (Fence.wide.inRound l) fn' P Q a w := by
  have h1 := k _ h.drew
  refine wpIn_region_any hm (wpAnyIn_of_wpAny hQ (by simpa using hpl) _ _ _ _ ?_)
  simp only [Region.lexB, Bool.and_eq_true] at hB
  refine wpAny_of_still (Q := fun a' => Q .normal a' w.drew) (fun _ h => h) _ _ _ ?_
  have := wpAnyS_lex (md := .any) hB.1 l' 0 (Array.replicate l'.toArray.size false) a (by simp) (by simpa using hB.2) h1
  simpa using this
/-- Likewise one that reads first. -/
theorem CR.stillTail (hm : P.follows .mixedOrders = true) (hQ : ¬ LetsOut Q) (m : Nat) {rid : Nat} {l' : List Oper} (hpl : l'.all plainB = true) (h : St w0 S0 R N sl L a w) (hB : Region.lexTailB .any l'.toArray m = true)
    (k : ∀ w', St w0 S0 R N sl L a w' → wpStill P l'.toArray w' (fun a' => wpList P l'.toArray Q (l'.drop m) a' w') (l'.take m) a) : (Code.region rid l'.toArray true).wpIn (Fence.wide.inRound l) fn' P Q a w := by
  have h1 := k _ h.drew
  refine wpIn_region_any hm (wpAnyIn_of_wpAny hQ (by simpa using hpl) _ _ _ _ ?_)
  simp only [Region.lexTailB, Bool.and_eq_true, decide_eq_true_eq] at hB
  obtain ⟨⟨⟨⟨hsel, hn⟩, hs⟩, hc⟩, hlex⟩ := hB
  have hn' : m < l'.length := by simpa using hn
  have htl : (l'.take m).length = m := by simp; omega
  have hdl : (l'.drop m).length = l'.toArray.size - m := by simp
  have inv0 : HeadInv .any l'.toArray m (Array.replicate l'.toArray.size false) :=
    ⟨by simp, fun j oj _ hl => (by rw [getD_replicate_false] at hl; cases hl), fun t _ ht => getD_in (by simpa using ht) (getD_replicate_false _ _)⟩
  have H := Go.wpAnyL_lex (md := .any) (g := l'.toArray.size - m) hsel hs hc hn (l'.take m) 0 _ a (fun j hj => by
    have hj' : j < m := by rw [htl] at hj; exact hj
    simp [hj']) (by simpa using htl) inv0 (by rw [htl]; exact hlex) h1
  have := wpAny_of_head (Q' := Q) (g := l'.toArray.size - m) (fun listed a' hL => by
    have := wpAny_of_seq (md := .any) (Q' := Q) (l'.drop m) m listed a' w.drew (fun j => by simp [List.getElem?_drop]) (by rw [hdl]; exact hL.1) hL.2
    rwa [hdl] at this) _ _ _ H
  rw [htl, show m + (l'.toArray.size - m) = l'.toArray.size by omega] at this
  exact this
end

/-! ### The statement -/

def newRec (fn : FuncId) (tmps : Array Value) (ps : Array Tmp) (assign body : Code) (D : Nat) : Loop := { state := .ready, pending := none, fn, tmps, params := ps, assign, body, defers := D }

theorem St.rangeFunc (h : St w0 S0 R N sl L a w) {g : Operand} {ps : Array Tmp} {assign body : Code} {gf : Nat} {cap : List Value} {X Y M : List Assn} (ix : List Nat) (hp : picks ix L = some (X, Y)) (hr : Ro (stars Y) (stars M))
    (hg : ev sl g = some (.func (.func gf) #[] cap.toArray)) (hc : ∀ args w, (callFunc gf args).run P w = .ok (.enter gf args) w) {Inv : Option Code → List Assn → Prop}
    (hspec : ∀ l r, r.state = .ready → r.pending = none → r.tmps.size = N → Slots sl ⟨r.tmps, []⟩ → r.params = ps → r.assign = assign → r.body = body → Meets P gf (.func (.yield l) #[] #[] :: cap).toArray (recAt l r :: X ++ M) (fun v L' => ∃ j L'', Inv j L'' ∧ L' = recAt l (loopOf r j) :: L''))
    (kN : ∀ L' a' w', Inv none L' → St w0 S0 R N sl (L' ++ Y) a' w' → Q .normal a' w')
    (kJ : ∀ c L' a' w', Inv (some c) L' → St w0 S0 R N sl (L' ++ Y) a' w' → c.wp P Q a' w') (hQ : ¬ LetsOut Q) : (Code.rangeFunc g ps assign body).wp P Q a w := by
  refine wpIn_wide.1 (wpIn_rangeFunc (n := 0) fun fn _ => ?_)
  have hrd : Fence.wide.round = none := rfl
  rw [hrd]
  obtain ⟨W1, hW1⟩ : ∃ W1, (w.alloc (.deferred (some []))).alloc (.loop (newRec fn a.tmps ps assign body w.heap.size)) = W1 := ⟨_, rfl⟩
  refine ⟨w.heap.size + 1, [{ target := .collected w.heap.size, args := #[] }], W1, { target := .fn (.func gf) cap.toArray, args := #[.func (.yield (w.heap.size + 1)) #[] #[]] }, W1, gf, (.func (.yield (w.heap.size + 1)) #[] #[] :: cap).toArray, W1, by rw [← hW1]; exact run_enterLoop_outer _ _ _ _ _, ?_, fun _ _ => trivial, ?_, (fun h => by cases h), ?_⟩
  · have hev := h.slots.ev hg
    simp only [resolve, hev]
    simp [go_sem]
  · simp [invoke, go_sem, hc]
  obtain ⟨S, hL, hR, hal, h0, hM⟩ := h.heap
  have hrw : ∀ b o, R b o → b < w.heap.size := fun b o x => Nat.lt_of_lt_of_le (h.ralloc b o x) h.evo.size
  obtain ⟨S1, S2, hs1, hs2, hd, hX, hY⟩ := picks_ent ix L X Y hp w S R hL
  have hsz1 : W1.heap.size = w.heap.size + 2 := by rw [← hW1]; simp
  have hold : ∀ b, b < w.heap.size → W1.heap[b]? = w.heap[b]? := fun b hb => by
    rw [← hW1, RowKit.Below.heap_alloc _ _ b (by simp; omega), RowKit.Below.heap_alloc _ _ b hb]
  have hrec : W1.heap[w.heap.size + 1]? = some (.loop (newRec fn a.tmps ps assign body w.heap.size)) := by
    rw [← hW1]; have := World.alloc_heap_new (w.alloc (.deferred (some []))) (.loop (newRec fn a.tmps ps assign body w.heap.size)); rwa [World.size_alloc] at this
  have hdef : W1.heap[w.heap.size]? = some (.deferred (some [])) := by
    rw [← hW1]; exact (RowKit.Below.heap_alloc _ _ _ (by simp)).trans (World.alloc_heap_new w _)
  have hE1 : Evo S w W1 := Evo.of_blocks (by rw [← hW1]; rfl) (by rw [← hW1]; rfl) (by rw [← hW1]; rfl) (by omega) fun b hb _ => hold b hb
  have hagT : ∀ T : Fp, (∀ b o, T b o → b < w.heap.size) → Agree w W1 T := fun T hT => ⟨fun b o hb => Same.of_blk (hold b (hT b o hb)) o, fun b hb => hold b (hT b 0 (hb 0))⟩
  have hX1 : (stars X).holds W1 S1 R := (stars X).loc hX (hagT _ fun b o x => x.elim (fun y => hal b o (hs1 b o y)) (hrw b o))
  have hY1 : (stars Y).holds W1 S2 R := (stars Y).loc hY (hagT _ fun b o x => x.elim (fun y => hal b o (hs2 b o y)) (hrw b o))
  have hpre : (stars (recAt (w.heap.size + 1) (newRec fn a.tmps ps assign body w.heap.size) :: X ++ M)).holds W1 (fun b o => b = w.heap.size + 1 ∨ S1 b o) (fun b o => R b o ∨ S2 b o) := by
    refine ⟨fun b _ => b = w.heap.size + 1, S1, fun _ _ x => .inl x, fun _ _ x => .inr x, fun b o x y => by have := hal b o (hs1 b o y); omega, ⟨fun _ => rfl, hrec⟩, ?_⟩
    exact stars_append' X M W1 S1 _ ⟨S1, fun _ _ => False, fun _ _ x => x, fun _ _ x => x.elim, fun _ _ _ x => x, (stars X).mono hX1 (fun _ _ x => x) (fun _ _ x => .inl x), hr W1 S2 R hY1⟩
  have hcall := hspec (w.heap.size + 1) (newRec fn a.tmps ps assign body w.heap.size) rfl rfl h.sz (fun t v hv => h.slots t v hv) rfl rfl rfl W1 _ _ hpre
    (fun b o x y => by
      rcases x with x | x
      · subst x; exact y.elim (fun z => by have := hrw _ o z; omega) fun z => by have := hal _ o (hs2 _ o z); omega
      · exact y.elim (hR b o (hs1 b o x)) (hd b o x))
    (fun b o x => by rw [hsz1]; rcases x with x | x; · omega
                     · have := hal b o (hs1 b o x); omega)
    (fun b o x => by rw [hsz1]; rcases x with x | x; · have := hrw b o x; omega
                     · have := hal b o (hs2 b o x); omega)
  refine callsIn_wide.2 (hcall.mono ?_)
  rintro e W2 ⟨v, L', S', rfl, ⟨j, L'', hInv, rfl⟩, ⟨T1, T2, ht1, ht2, htd, ⟨hb1, hb2⟩, hL''⟩, hal', hsub, hE2⟩
  have hrun : (Instr.endLoop (w.heap.size + 1)).run P W2 = .ok j (W2.putObj (w.heap.size + 1) (.loop { loopOf (newRec fn a.tmps ps assign body w.heap.size) j with state := .exhausted })) := by
    have := run_endLoop (P := P) hb2 (by cases j <;> simp [loopOf])
    exact this
  have hszl : w.heap.size + 1 < W2.heap.size := (Array.getElem?_eq_some_iff.1 hb2).1
  obtain ⟨W3, hW3⟩ : ∃ W3, W2.putObj (w.heap.size + 1) (.loop { loopOf (newRec fn a.tmps ps assign body w.heap.size) j with state := .exhausted }) = W3 := ⟨_, rfl⟩
  rw [hW3] at hrun
  have hsz3 : W3.heap.size = W2.heap.size := by rw [← hW3]; exact World.putObj_size
  have hkeep : ∀ b, b ≠ w.heap.size + 1 → W3.heap[b]? = W2.heap[b]? := fun b hb => by rw [← hW3]; exact World.putObj_heap_other hb
  have hE3 : Evo (fun b _ => b = w.heap.size + 1) W2 W3 := Evo.of_blocks (by rw [← hW3]; rfl) (by rw [← hW3]; rfl) (by rw [← hW3]; rfl) (by omega) fun b _ ⟨o, ho⟩ => hkeep b ho
  have hT2l : ∀ o, ¬ T2 (w.heap.size + 1) o := fun o x => htd _ o (hb1 o) x
  have hT2s : ∀ b o, T2 b o → S1 b o ∨ W1.heap.size ≤ b := fun b o x => (hsub b o (ht2 b o x)).imp (fun y => y.elim (fun e => absurd x (by subst e; exact hT2l o)) id) id
  -- what evolved all in all
  have hEA : Evo S1 w W3 := by
    have e12 := (Evo.of_blocks (S := S1) (w := w) (w' := W1) hE1.os hE1.tape hE1.output hE1.size fun b hb _ => hold b hb).trans hE2 fun b o x => x.elim (fun e => .inr (by omega)) .inl
    exact e12.trans hE3 fun b o x => .inr (by subst x; omega)
  have hst : St w0 S0 R N sl (L'' ++ Y) { a with defers := mkDef w.heap.size :: a.defers } W3 := by
    refine ⟨h.sz, fun t v hv => h.slots t v hv, ⟨fun b o => T2 b o ∨ S2 b o, ?_, ?_, ?_, ?_, ?_⟩, h.ralloc, h.evo.trans hEA fun b o x => h0 b o (hs1 b o x)⟩
    · refine stars_append' L'' Y W3 _ R ⟨T2, S2, fun _ _ x => .inl x, fun _ _ x => .inr x, fun b o x y => ?_, ?_, ?_⟩
      · exact (hT2s b o x).elim (fun z => hd b o z y) fun z => by have := hal b o (hs2 b o y); omega
      · refine (stars L'').mono ((stars L'').loc hL'' ⟨fun b o x => Same.of_blk (hkeep b ?_) o, fun b x => hkeep b ?_⟩) (fun _ _ x => x) (fun b o x => x.elim)
        · intro e; subst e; exact x.elim (hT2l o) id
        · intro e; subst e; exact (x 0).elim (hT2l 0) id
      · exact (stars Y).loc hY (hEA.agree.mono fun b o x => ⟨x.elim (fun y => hal b o (hs2 b o y)) (hrw b o), fun y => x.elim (hd b o y) fun z => hR b o (hs1 b o y) z⟩)
    · intro b o x y
      exact x.elim (fun x => (hT2s b o x).elim (fun z => hR b o (hs1 b o z) y) fun z => by have := hrw b o y; omega) fun x => hR b o (hs2 b o x) y
    · intro b o x
      rw [hsz3]
      exact x.elim (fun x => hal' b o (ht2 b o x)) fun x => by have := hal b o (hs2 b o x); omega
    · intro b o x
      exact x.elim (fun x => (hT2s b o x).elim (fun z => h0 b o (hs1 b o z)) fun z => .inr (by have := h.evo.size; omega)) fun x => h0 b o (hs2 b o x)
    · obtain ⟨ms, hms1, hms2, hms3⟩ := hM.step (S' := fun b o => T2 b o ∨ S2 b o) hEA hs1 fun b o x => x.elim (fun x => (hT2s b o x).imp (hs1 b o) fun z => by omega) fun x => .inl (hs2 b o x)
      refine ⟨w.heap.size :: ms, by simp [hms1], List.nodup_cons.2 ⟨fun hm => ?_, hms2⟩, fun b hb => ?_⟩
      · obtain ⟨ms', hd', _, hm'⟩ := hM
        have hinj : ms' = ms := by
          have h1 := hd'.symm.trans hms1
          have hi : ∀ (x y : List Nat), x.map mkDef = y.map mkDef → x = y := fun x y hxy => by
            have := congrArg (List.map fun (d : Deferred) => match d.target with | .collected r => r | _ => 0) hxy
            simpa [mkDef, Function.comp_def] using this
          exact hi _ _ h1
        subst hinj
        have h2 := (hm' _ hm).2.1
        have := (Array.getElem?_eq_some_iff.1 h2).1
        omega
      · rcases List.mem_cons.1 hb with rfl | hb
        · refine ⟨h.evo.size, ?_, fun o x => ?_⟩
          · have hnot : ∀ o, ¬ (o = o ∧ (w.heap.size = w.heap.size + 1 ∨ S1 w.heap.size o)) := fun o x => x.2.elim (fun e => by omega) fun e => by have := hal _ o (hs1 _ o e); omega
            rw [hkeep _ (by omega), hE2.agree.blk w.heap.size (fun o => ⟨by omega, fun x => hnot o ⟨rfl, x⟩⟩)]
            exact hdef
          · exact x.elim (fun x => (hT2s _ o x).elim (fun z => by have := hal _ o (hs1 _ o z); omega) fun z => by omega) fun x => by have := hal _ o (hs2 _ o x); omega
        · exact hms3 b hb
  refine ⟨j, W3, hrun, ?_⟩
  cases j with
  | none => exact kN L'' _ W3 hInv hst
  | some c => exact wpIn_wide.2 (kJ c L'' _ W3 hInv hst)
end
end Go.Tr
