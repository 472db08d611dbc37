/-
  Slices of slices, clear, guarded operations in any order.
-/
import Derived.Test.YtllhegccpknncaaSle
import Derived.Laws.StructEq
set_option linter.unusedVariables false
set_option linter.unusedSimpArgs false
set_option linter.unusedSectionVars false
namespace Go.Tr
section
variable {P : Program} {w0 : World} {S0 R : Fp} {N : Nat} {sl : List (Nat × Value)} {L : List Assn} {a : Act} {w : World}
variable {ops : Array Oper} {Q : Exit → Act → World → Prop} {rest : List Oper} {o : Oper} {d : Nat} {v : Value}

/-! ### An operation with a value that nobody takes -/

theorem St.act0K (h : St w0 S0 R N sl L a w) {Post : Value → List Assn → Prop} {K : Act → World → Prop} (hd : o.dst = none) (hv : Acts P o sl L Post)
    (k : ∀ v L' a' w', Post v L' → St w0 S0 R N sl L' a' w' → K a' w') : o.wp P a w K Q := by
  obtain ⟨S, hL, hR, hal, h0, hM⟩ := h.heap
  have hrw : ∀ b o, R b o → b < w.heap.size := fun b o x => Nat.lt_of_lt_of_le (h.ralloc b o x) h.evo.size
  obtain ⟨v, w', L', S', hrun, hp, hE, hL', hal', hS'⟩ := hv a w S R h.slots hL hal hrw hR
  unfold Oper.wp
  rw [hrun, Oper.upon_value, hd]
  refine k v L' _ w' hp ?_
  refine ⟨h.sz, h.slots, ⟨S', hL', ?_, hal', ?_, hM.step hE (fun _ _ x => x) hS'⟩, h.ralloc, h.evo.trans hE h0⟩
  · intro b o hb hr
    exact (hS' b o hb).elim (fun x => hR b o x hr) fun x => by have := hrw b o hr; omega
  · intro b o hb
    exact (hS' b o hb).elim (h0 b o) fun x => .inr (Nat.le_trans h.evo.size x)
theorem St.act0 (h : St w0 S0 R N sl L a w) {Post : Value → List Assn → Prop} (hg : o.guard = none) (hd : o.dst = none) (hv : Acts P o sl L Post)
    (k : ∀ v L' a' w', Post v L' → St w0 S0 R N sl L' a' w' → wpList P ops Q rest a' w') : wpList P ops Q (o :: rest) a w :=
  wpList_plain hg fun _ hK => h.act0K hd hv fun v L' a' w' hp h => hK _ _ (k v L' a' w' hp h)

/-- A call of a function value that a slot holds. -/
theorem St.callvK (h : St w0 S0 R N sl L a w) {f : FuncId} {x : Operand} {as : List Operand} {vs cs args : List Value} {tys : Array TypeId} {X Y M : List Assn} {Post : Value → List Assn → Prop} {K : Act → World → Prop} (ix : List Nat) (hp : picks ix L = some (X, Y)) (hr : Ro (stars Y) (stars M))
    (ho : o.op = .call { callee := .value x, args := as.toArray, argTypes := tys }) (hx : ev sl x = some (.func (.func f) #[] cs.toArray)) (has : evs sl as = some vs) (hvs : vs ++ cs = args) (hspec : Meets P f args.toArray (X ++ M) Post)
    (hc : ∀ args w, (callFunc f args).run P w = .ok (.enter f args) w) (hd : o.dst = some d) (hN : Nat.blt d N = true)
    (k : ∀ v L' a' w', Post v L' → St w0 S0 R N ((d, v) :: sl) (L' ++ Y) a' w' → K a' w') : o.wp P a w K Q := by
  subst hvs
  refine h.callAtK (f := f) (args := (vs ++ cs).toArray) (fun a w hs => ?_) ix hp hr hspec fun v L' w' hv hst => ?_
  · simp [execOp, ho, resolve, hs.ev hx, Deferred.ofValue, invoke, hs.evs has, hc]
  · rw [hd]; exact k v L' _ w' hv (hst.slot hN v)
theorem St.callv (h : St w0 S0 R N sl L a w) {f : FuncId} {x : Operand} {as : List Operand} {vs cs args : List Value} {tys : Array TypeId} {X Y M : List Assn} {Post : Value → List Assn → Prop} (ix : List Nat) (hp : picks ix L = some (X, Y)) (hr : Ro (stars Y) (stars M))
    (hg : o.guard = none) (ho : o.op = .call { callee := .value x, args := as.toArray, argTypes := tys }) (hx : ev sl x = some (.func (.func f) #[] cs.toArray)) (has : evs sl as = some vs) (hvs : vs ++ cs = args) (hspec : Meets P f args.toArray (X ++ M) Post)
    (hc : ∀ args w, (callFunc f args).run P w = .ok (.enter f args) w) (hd : o.dst = some d) (hN : Nat.blt d N = true)
    (k : ∀ v L' a' w', Post v L' → St w0 S0 R N ((d, v) :: sl) (L' ++ Y) a' w' → wpList P ops Q rest a' w') : wpList P ops Q (o :: rest) a w :=
  wpList_plain hg fun _ hK => h.callvK ix hp hr ho hx has hvs hspec hc hd hN fun v L' a' w' hp h => hK _ _ (k v L' a' w' hp h)

/-! ### Contracts out of contracts -/

theorem Meets.post {f : FuncId} {args : Array Value} {L : List Assn} {Post Post' : Value → List Assn → Prop} (h : Meets P f args L Post) (hp : ∀ v L1, Post v L1 → ∃ L2, Post' v L2 ∧ Ent (stars L1) (stars L2)) : Meets P f args L Post' := by
  intro w S R h1 h2 h3 h4
  refine (h w S R h1 h2 h3 h4).mono ?_
  rintro e w' ⟨v, L', S', he, hpo, hL', hal, hsub, hE⟩
  obtain ⟨L2, h5, h6⟩ := hp v L' hpo
  exact ⟨v, L2, S', he, h5, h6 _ _ _ hL', hal, hsub, hE⟩
theorem Meets.exi {f : FuncId} {args : Array Value} {α : Type} {A : α → Assn} {L : List Assn} {Post : Value → List Assn → Prop} (h : ∀ x, Meets P f args (A x :: L) Post) : Meets P f args (Assn.ex A :: L) Post := by
  rintro w S R ⟨S1, S2, h1, h2, hd, ⟨x, ha⟩, hb⟩
  exact h x w S R ⟨S1, S2, h1, h2, hd, ha, hb⟩
theorem Meets.told {f : FuncId} {args : Array Value} {L : List Assn} {p : Prop} {Post : Value → List Assn → Prop} (ht : ∀ w S R, (stars L).holds w S R → p) (h : p → Meets P f args L Post) : Meets P f args L Post :=
  fun w S R hL => h (ht w S R hL) w S R hL
theorem Meets.frame {f : FuncId} {args : Array Value} {L F : List Assn} {Post : Value → List Assn → Prop} (h : Meets P f args L Post) [hF : Excls F] : Meets P f args (L ++ F) (fun v L' => ∃ L1, Post v L1 ∧ L' = L1 ++ F) := by
  intro w S R hL hSR hal hR
  obtain ⟨S1, S2, h1, h2, hd, ha, hb⟩ := stars_append L F w S R hL
  refine (h w S1 R ha (fun b o x => hSR b o (h1 b o x)) (fun b o x => hal b o (h1 b o x)) hR).mono ?_
  rintro e w' ⟨v, L1, S1', he, hpo, hL1, hal1, hsub, hE⟩
  refine ⟨v, L1 ++ F, fun b o => S1' b o ∨ S2 b o, he, ⟨L1, hpo, rfl⟩, stars_append' L1 F w' _ _ ⟨S1', S2, fun _ _ x => .inl x, fun _ _ x => .inr x, ?_, hL1, ?_⟩, ?_, ?_, ?_⟩
  · intro b o x y
    exact (hsub b o x).elim (fun x => hd b o x y) fun x => by have := hal b o (h2 b o y); omega
  · exact (stars F).loc (hF.out w S2 R hb) (hE.agree.mono fun b o x => x.elim (fun y => ⟨hal b o (h2 b o y), fun z => hd b o z y⟩) fun y => y.elim)
  · intro b o x
    exact x.elim (hal1 b o) fun y => Nat.lt_of_lt_of_le (hal b o (h2 b o y)) hE.size
  · intro b o x
    exact x.elim (fun y => (hsub b o y).imp (h1 b o) id) fun y => .inl (h2 b o y)
  · exact ⟨hE.os, hE.tape, hE.output, hE.size, hE.agree.mono fun b o ⟨x, y⟩ => ⟨x, fun z => y (h1 b o z)⟩⟩

/-! ### Slices of slices -/

/-- Where a slice of a row begins: at its begin still if no room is left. -/
def cutA (A : Option Addr) (s m l : Nat) : Option Addr := if m = l then A else A.map fun p => p.add (l * s)
theorem cutA_zero (A : Option Addr) (s m : Nat) : cutA A s m 0 = A := by
  unfold cutA; split
  · rfl
  · cases A <;> simp [Addr.add]
theorem cutA_some (b o s m l : Nat) (h : m ≠ l) : cutA (some ⟨b, o, none⟩) s m l = some ⟨b, o + l * s, none⟩ := by simp [cutA, h, addr_add]
theorem cutA_ne {A : Option Addr} {s m l : Nat} (h : m ≠ l) : cutA A s m l = A.map fun p => p.add (l * s) := by simp [cutA, h]
/-- A bound: what stands there, or, if nothing does, the default. -/
def Bnd (sl : List (Nat × Value)) (d : Nat) : Option Operand → Nat → Prop
  | none, k => k = d
  | some x, k => ∃ kd i, ev sl x = some (.int kd i) ∧ i = (k : Int)
def bval (d : Nat) : Option Value → Nat → Prop
  | none, k => k = d
  | some v, k => ∃ kd i, v = .int kd i ∧ i = (k : Int)
theorem Bnd.evo {x : Option Operand} {k : Nat} (h : Bnd sl d x k) : ∃ u, evo sl x = some u ∧ bval d u k ∧ (u = none ↔ x = none) := by
  cases x with
  | none => exact ⟨none, rfl, h, by simp⟩
  | some x =>
    obtain ⟨kd, i, h1, h2⟩ := h
    exact ⟨some (.int kd i), by simp [Tr.evo, h1], ⟨kd, i, rfl, h2⟩, by simp⟩
theorem run_bound {kd : IntKind} {i : Int} {k y : Nat} (hi : i = (k : Int)) (hk : k ≤ y) (c : BoundsCode) : (Instr.sliceBound (.int kd i) y c).run P w = .ok k w := by
  subst hi
  have h1 : (0 : Int) ≤ k ∧ (k : Int) ≤ y := ⟨by omega, by omega⟩
  simp [Instr.sliceBound, asIntOf, h1]
theorem G.cut {T e : TypeId} {x : Operand} {lo hi mx : Option Operand} {A : Option Addr} {n c s : Nat} (l h m : Nat) (ho : o.op = .slice T x lo hi mx) (hx : ev sl x = some (rlv A n c)) (hu : P.underlying T = some (.slice e)) (hz : ∀ w, (sizeOf e).run P w = .ok s w)
    (h1 : Bnd sl 0 lo l) (h2 : Bnd sl n hi h) (h3 : Bnd sl c mx m) (hlh : l ≤ h) (hhm : h ≤ m) (hmc : m ≤ c) (hmh : mx = none ∨ hi.isSome = true := by exact .inl rfl) : Gets P o sl L (rlv (cutA A s m l) (h - l) (m - l)) := by
  intro a w S R hs hL
  obtain ⟨u1, e1, b1, _⟩ := h1.evo
  obtain ⟨u2, e2, b2, n2⟩ := h2.evo
  obtain ⟨u3, e3, b3, n3⟩ := h3.evo
  have hval : (if m = l then A else A.map (·.add (l * s))) = cutA A s m l := rfl
  have hb : ∀ w, (Instr.sliceBounds true n c u1 u2 u3).run P w = .ok (l, h, m) w := by
    intro w
    cases u3 with
    | none =>
      have hm : m = c := b3
      cases u2 with
      | none =>
        have hh : h = n := b2
        subst hm; subst hh
        cases u1 with
        | none => have : l = 0 := b1; subst this; simp [Instr.sliceBounds]
        | some v1 => obtain ⟨kd, i, rfl, hi⟩ := b1; simp [Instr.sliceBounds, run_bound hi hlh]
      | some v2 =>
        obtain ⟨kd2, i2, rfl, hi2⟩ := b2
        subst hm
        cases u1 with
        | none => have : l = 0 := b1; subst this; simp [Instr.sliceBounds, run_bound hi2 hhm]
        | some v1 => obtain ⟨kd, i, rfl, hi⟩ := b1; simp [Instr.sliceBounds, run_bound hi hlh, run_bound hi2 hhm]
    | some v3 =>
      obtain ⟨kd3, i3, rfl, hi3⟩ := b3
      cases u2 with
      | none =>
        have hh := n2.1 rfl
        have hm3 : mx ≠ none := fun e => by have := n3.2 e; simp at this
        rcases hmh with e | e
        · exact absurd e hm3
        · rw [hh] at e; simp at e
      | some v2 =>
        obtain ⟨kd2, i2, rfl, hi2⟩ := b2
        cases u1 with
        | none => have : l = 0 := b1; subst this; simp [Instr.sliceBounds, run_bound hi3 hmc, run_bound hi2 hhm]
        | some v1 => obtain ⟨kd, i, rfl, hi⟩ := b1; simp [Instr.sliceBounds, run_bound hi hlh, run_bound hi2 hhm, run_bound hi3 hmc]
  simp only [execOp, ho, hs.ev hx, hs.evo e1, hs.evo e2, hs.evo e3, Instr.sliceAt, rlv, Instr.slice, Sem.run_bind, run_underlying hu, Result.andThen_ok, hb, hz, Sem.run_pure, Sem.run_map]
  rw [← hval]

/-! ### clear -/

theorem Acts.clear {U : Type} (E : Enc U) (i k : Nat) {e t : TypeId} {A D : Option Addr} {c c' m : Nat} {ys : List U} {x : Operand} {z : Value} (hi : L[i]? = some (ownl E e A c ys)) (ho : o.op = .call { callee := .builtin .clear, args := #[x], argTypes := #[t] }) (hx : ev sl x = some (rlv D m c'))
    (hkm : k + m = ys.length) (hD : m ≠ 0 → D = A.map fun p => p.add (k * E.sz)) (hu : P.underlying t = some (.slice e)) (hz : ∀ w, (zeroValue e).run P w = .ok z w) (hzs : z.cells.size = E.sz) (hz1 : ∀ u ∈ z.cells.toList, u.oneCell' = true) :
    Acts P o sl L (fun v L' => v = .tuple #[] ∧ L' = L.set i (ownl E e A c (ys.take k))) := by
  intro a w S R hs hL hal hR hSR
  obtain ⟨S1, S2, hs1, _, _, hown, _⟩ := stars_take L i _ hi w S R hL
  by_cases hm0 : m = 0
  · have hk : ys.take k = ys := List.take_of_length_le (by omega)
    have hset : L.set i (ownl E e A c (ys.take k)) = L := by rw [hk]; obtain ⟨h1, h2⟩ := List.getElem?_eq_some_iff.1 hi; rw [← h2]; exact List.set_getElem_self h1
    refine ⟨.tuple #[], w, L, S, ?_, ⟨rfl, hset.symm⟩, Evo.refl _ _, hL, hal, fun _ _ x => .inl x⟩
    subst hm0
    cases D <;> simp [execOp, ho, resolve, invoke, builtin, hs.ev hx, rlv, Builtin.clear_, run_underlying hu]
  · rcases hown with ⟨rfl, _⟩ | ⟨b, o1, cur, rfl, hS, hh, hnc, hcm, hcs, ht⟩
    · simp at hkm; omega
    have hDv := hD hm0
    subst hDv
    obtain ⟨m', rfl⟩ := Nat.exists_eq_succ_of_ne_zero hm0
    have hkc := Nat.mul_le_mul_right E.sz (show k + (m' + 1) ≤ c by omega)
    rw [Nat.add_mul] at hkc
    have hzl : (Builtin.zeroCells z.cells (m' + 1)).toList.length = (m' + 1) * E.sz := by rw [Array.length_toList, size_zeroCells, hzs]
    have hmem : ∀ u ∈ (Builtin.zeroCells z.cells (m' + 1)).toList, u.oneCell' = true := by
      intro u hu'
      refine hz1 u ?_
      simp [Builtin.zeroCells] at hu'
      obtain ⟨j, _, rfl⟩ := hu'
      have hpos := E.pos
      have hlt : j % z.cells.size < z.cells.size := Nat.mod_lt _ (by omega)
      rw [getElem!_pos z.cells (j % z.cells.size) hlt]
      simp
    have hst := run_storeCells_at P b (o1 + k * E.sz) e (Builtin.zeroCells z.cells (m' + 1)).toList 0 cur w hh (by rw [hzl]; omega) hmem
    simp only [Nat.add_zero] at hst
    have hput := holds_put hL hSR hal hR i hi (w' := w.setRow b (cur.toList.take (o1 + k * E.sz) ++ (Builtin.zeroCells z.cells (m' + 1)).toList ++ cur.toList.drop (o1 + k * E.sz + (Builtin.zeroCells z.cells (m' + 1)).toList.length)).toArray) (B := ownl E e (some ⟨b, o1, none⟩) c (ys.take k)) fun T' hT' hA => by
      rcases hA with ⟨hy, _⟩ | ⟨b2, o2, cur2, hA2, hS2, hh2, hnc2, hcm2, hcs2, ht2⟩
      · rw [hy] at hkm; simp at hkm
      injection hA2 with hA2
      injection hA2 with e1 e2
      subst e1; subst e2
      rw [hh] at hh2
      injection hh2 with hh2
      injection hh2 with hcur
      subst hcur
      refine ⟨.inr ⟨b, o1, _, rfl, hS2, setRow_heap w b cur _ e _ hh, by simp; omega, hcm, ?_, ?_⟩, Evo.of_blocks rfl rfl rfl (by simp) fun k hk ⟨o', ho'⟩ => setRow_other w b k _ fun e => ho' (e ▸ hS2 o')⟩
      · simp only [List.size_toArray, List.length_append, List.length_take, List.length_drop, hzl, Array.length_toList]; omega
      · rw [E.flat_take, ← ht, List.length_take, Nat.min_eq_left (by omega), List.append_assoc, List.toList_toArray, List.drop_append_of_le_length (by simp; omega), List.take_append_of_le_length (by simp; omega), List.drop_take, List.take_take, List.take_take]
        congr 1
        have h1 := Nat.mul_le_mul_right E.sz (show k ≤ ys.length by omega)
        omega
    refine ⟨.tuple #[], _, _, S, ?_, ⟨rfl, rfl⟩, hput.2, hput.1, by simpa using hal, fun _ _ x => .inl x⟩
    simp [execOp, ho, resolve, invoke, builtin, hs.ev hx, rlv, Builtin.clear_, run_underlying hu, hz, hst, addr_add]

theorem rdl_none {T : Type} {E : Enc T} {ys : List T} {w : World} {S R : Fp} (h : (rdl E none ys).holds w S R) : ys = [] := by
  cases ys with
  | nil => rfl
  | cons y l => obtain ⟨p, hp, _⟩ := h.2 (by simp); cases hp
/-- One, as a list. -/
theorem stars_one {A B : Assn} (h : Ent A B) : Ent A (stars [B]) := fun w S R x => ⟨S, fun _ _ => False, fun _ _ x => x, fun _ _ x => x.elim, fun _ _ _ x => x, h w S R x, trivial⟩

/-! ### Many that are read -/

def rmany {α : Type} (A : α → Assn) (l : List α) : Assn := many A l
theorem rmany_ro {α : Type} {A : α → Assn} (hA : ∀ x, Ro (A x) (A x)) (l : List α) : Ro (rmany A l) (rmany A l) := many_lend hA l
  where many_lend {α : Type} {A B : α → Assn} (hA : ∀ x, Ro (A x) (B x)) : ∀ (l : List α), Ro (many A l) (many B l)
  | [] => fun _ _ _ _ => trivial
  | x :: l => fun w S R ⟨S1, S2, h1, h2, hd, ha, hb⟩ => ⟨fun _ _ => False, fun _ _ => False, fun _ _ h => h, fun _ _ h => h, fun _ _ h _ => h,
      (B x).mono (hA x w S1 R ha) (fun _ _ h => h) (fun b o h => h.imp id (h1 b o)), (many B l).mono (many_lend hA l w S2 R hb) (fun _ _ h => h) (fun b o h => h.imp id (h2 b o))⟩
theorem many_rmany {α : Type} {A B : α → Assn} (hA : ∀ x, Ro (A x) (B x)) (l : List α) : Ro (many A l) (rmany B l) := rmany_ro.many_lend hA l
/-- One of those that are read. -/
theorem rmany_one {α : Type} {A : α → Assn} {l : List α} {i : Nat} {x : α} (hA : Ro (A x) (A x)) (h : l[i]? = some x) : Ro (rmany A l) (A x) := by
  intro w S R hL
  obtain ⟨S1, S2, h1, h2, hd, ha, hb⟩ := many_take A h w S R hL
  exact (A x).mono (hA w S1 R ha) (fun _ _ h => h) (fun b o h => h.imp id (h1 b o))

/-! ### Structs of three numbers, compared -/

theorem part_int {t : TypeId} {xs : Array Value} {off : Nat} {v : Value} {w : World} (ha : ∀ w, (isAgg t).run P w = .ok false w) (hs : ∀ w, (sizeOf t).run P w = .ok 1 w) (hv : xs[off]? = some v) : (part t xs off).run P w = .ok v w := by
  simp [part, ha, hv]
theorem eqfs3 {T : TypeId} {f1 f2 f3 : Field} {k1 k2 k3 j1 j2 j3 : IntKind} {a1 a2 a3 b1 b2 b3 : Int} (hg : P.eqGuardType P.depth T = false) (hs : P.stoodInHeld T = false) (hu : P.underlying T = some (.struct #[f1, f2, f3]))
    (o1 : f1.offset = 0) (o2 : f2.offset = 1) (o3 : f3.offset = 2) (n1 : (f1.name == "_") = false) (n2 : (f2.name == "_") = false) (n3 : (f3.name == "_") = false)
    (u1 : P.underlying f1.type = some (.int j1)) (u2 : P.underlying f2.type = some (.int j2)) (u3 : P.underlying f3.type = some (.int j3))
    (g1 : ∀ w, (isAgg f1.type).run P w = .ok false w) (g2 : ∀ w, (isAgg f2.type).run P w = .ok false w) (g3 : ∀ w, (isAgg f3.type).run P w = .ok false w)
    (z1 : ∀ w, (sizeOf f1.type).run P w = .ok 1 w) (z2 : ∀ w, (sizeOf f2.type).run P w = .ok 1 w) (z3 : ∀ w, (sizeOf f3.type).run P w = .ok 1 w) (d : Nat) (w : World) :
    (Op.equalIn (d + 2) T (.agg #[.int k1 a1, .int k2 a2, .int k3 a3]) (.agg #[.int k1 b1, .int k2 b2, .int k3 b3])).run P w = .ok (decide (a1 = b1 ∧ a2 = b2 ∧ a3 = b3)) w := by
  have hf : P.fieldsOf T = #[f1, f2, f3] := by simp [Program.fieldsOf, hu]
  rw [run_equalIn_struct (P := P) w (d + 1) T _ _ (by rw [hf]; exact hu) hs, hf]
  have m1 : f1.name ≠ "_" := by simpa using n1
  have m2 : f2.name ≠ "_" := by simpa using n2
  have m3 : f3.name ≠ "_" := by simpa using n3
  simp only [Op.eqFields, if_pos m1, if_pos m2, if_pos m3, o1, o2, o3, Sem.run_bind]
  rw [part_int g1 z1 (v := .int k1 a1) rfl]
  simp only [Result.andThen_ok]
  rw [part_int g1 z1 (v := .int k1 b1) rfl]
  simp only [Result.andThen_ok, run_equalIn_int w d _ k1 j1 a1 b1 u1]
  by_cases e1 : a1 = b1
  · simp only [e1, beq_self_eq_true, Bool.not_true, Bool.false_eq_true, if_false, Sem.run_bind, true_and]
    rw [part_int g2 z2 (v := .int k2 a2) rfl]
    simp only [Result.andThen_ok]
    rw [part_int g2 z2 (v := .int k2 b2) rfl]
    simp only [Result.andThen_ok, run_equalIn_int w d _ k2 j2 a2 b2 u2]
    by_cases e2 : a2 = b2
    · simp only [e2, beq_self_eq_true, Bool.not_true, Bool.false_eq_true, if_false, Sem.run_bind, true_and]
      rw [part_int g3 z3 (v := .int k3 a3) rfl]
      simp only [Result.andThen_ok]
      rw [part_int g3 z3 (v := .int k3 b3) rfl]
      simp only [Result.andThen_ok, run_equalIn_int w d _ k3 j3 a3 b3 u3]
      by_cases e3 : a3 = b3 <;> simp [e3]
    · simp [e2]
  · simp [e1]
theorem B.eqs3 {T : TypeId} {f1 f2 f3 : Field} {k1 k2 k3 j1 j2 j3 : IntKind} {a1 a2 a3 b1 b2 b3 : Int} {ox oy : Operand} (hg : P.eqGuardType P.depth T = false) (hs : P.stoodInHeld T = false) (hu : P.underlying T = some (.struct #[f1, f2, f3]))
    (o1 : f1.offset = 0) (o2 : f2.offset = 1) (o3 : f3.offset = 2) (n1 : (f1.name == "_") = false) (n2 : (f2.name == "_") = false) (n3 : (f3.name == "_") = false)
    (u1 : P.underlying f1.type = some (.int j1)) (u2 : P.underlying f2.type = some (.int j2)) (u3 : P.underlying f3.type = some (.int j3))
    (g1 : ∀ w, (isAgg f1.type).run P w = .ok false w) (g2 : ∀ w, (isAgg f2.type).run P w = .ok false w) (g3 : ∀ w, (isAgg f3.type).run P w = .ok false w)
    (z1 : ∀ w, (sizeOf f1.type).run P w = .ok 1 w) (z2 : ∀ w, (sizeOf f2.type).run P w = .ok 1 w) (z3 : ∀ w, (sizeOf f3.type).run P w = .ok 1 w) :
    BinRuns P .eql T ox oy (.agg #[.int k1 a1, .int k2 a2, .int k3 a3]) (.agg #[.int k1 b1, .int k2 b2, .int k3 b3]) (.bool (decide (a1 = b1 ∧ a2 = b2 ∧ a3 = b3))) := fun w => by
  have := eqfs3 (k1 := k1) (k2 := k2) (k3 := k3) (a1 := a1) (a2 := a2) (a3 := a3) (b1 := b1) (b2 := b2) (b3 := b3) hg hs hu o1 o2 o3 n1 n2 n3 u1 u2 u3 g1 g2 g3 z1 z2 z3 9998 w
  simp only [Sem.run_bind, run_eqGuard_agg w _ _ _ _ _ _ hg, Result.andThen_ok, run_eql_struct, this]
theorem B.nes3 {T : TypeId} {f1 f2 f3 : Field} {k1 k2 k3 j1 j2 j3 : IntKind} {a1 a2 a3 b1 b2 b3 : Int} {ox oy : Operand} (hg : P.eqGuardType P.depth T = false) (hs : P.stoodInHeld T = false) (hu : P.underlying T = some (.struct #[f1, f2, f3]))
    (o1 : f1.offset = 0) (o2 : f2.offset = 1) (o3 : f3.offset = 2) (n1 : (f1.name == "_") = false) (n2 : (f2.name == "_") = false) (n3 : (f3.name == "_") = false)
    (u1 : P.underlying f1.type = some (.int j1)) (u2 : P.underlying f2.type = some (.int j2)) (u3 : P.underlying f3.type = some (.int j3))
    (g1 : ∀ w, (isAgg f1.type).run P w = .ok false w) (g2 : ∀ w, (isAgg f2.type).run P w = .ok false w) (g3 : ∀ w, (isAgg f3.type).run P w = .ok false w)
    (z1 : ∀ w, (sizeOf f1.type).run P w = .ok 1 w) (z2 : ∀ w, (sizeOf f2.type).run P w = .ok 1 w) (z3 : ∀ w, (sizeOf f3.type).run P w = .ok 1 w) :
    BinRuns P .neq T ox oy (.agg #[.int k1 a1, .int k2 a2, .int k3 a3]) (.agg #[.int k1 b1, .int k2 b2, .int k3 b3]) (.bool (decide (¬ (a1 = b1 ∧ a2 = b2 ∧ a3 = b3)))) := fun w => by
  have := eqfs3 (k1 := k1) (k2 := k2) (k3 := k3) (a1 := a1) (a2 := a2) (a3 := a3) (b1 := b1) (b2 := b2) (b3 := b3) hg hs hu o1 o2 o3 n1 n2 n3 u1 u2 u3 g1 g2 g3 z1 z2 z3 9998 w
  simp only [Sem.run_bind, run_eqGuard_agg w _ _ _ _ _ _ hg, Result.andThen_ok, run_neq_struct, this, decide_not]

/-! ### Guarded operations in any order -/

theorem St.wants {l : List Oper} (h : St w0 S0 R N sl L a w) {j t : Nat} {b : Bool} {oj : Oper} (hg : o.guard = some (j, b)) (hj : l[j]? = some oj) (ht : oj.dst = some t) (htN : Nat.blt t N = true) (hs : lk sl t = some (.bool b)) : Region.wanted o (Go.yielded l.toArray a.tmps) = true := by
  have hy := h.yielded (ops := l.toArray) (by simpa using hj) ht htN hs
  simp [Region.wanted, hg, hy]
theorem St.wantsnt {l : List Oper} (h : St w0 S0 R N sl L a w) {j t : Nat} {b c : Bool} {oj : Oper} (hg : o.guard = some (j, b)) (hj : l[j]? = some oj) (ht : oj.dst = some t) (htN : Nat.blt t N = true) (hs : lk sl t = some (.bool c)) (hc : b ≠ c) : Region.wanted o (Go.yielded l.toArray a.tmps) = false := by
  have hy := h.yielded (ops := l.toArray) (by simpa using hj) ht htN hs
  simp [Region.wanted, hg, hy]; exact fun e => hc e.symm
theorem St.yieldedU (h : St w0 S0 R N sl L a w) {j t : Nat} {oj : Oper} (hj : ops[j]? = some oj) (ht : oj.dst = some t) (htN : Nat.blt t N = true) (hs : lk sl t = some undef) : Go.yielded ops a.tmps j = none := by
  have hv := h.slots t _ hs
  have htt : t < a.tmps.size := by rw [h.sz]; exact blt_lt htN
  unfold Go.yielded
  simp only [hj, Option.bind_some, ht]
  rw [Array.getD_eq_getD_getElem?, Array.getElem?_eq_getElem htt, Option.getD_some] at hv
  rw [Array.getElem?_eq_getElem htt, hv]
  rfl
theorem St.guard_noU (h : St w0 S0 R N sl L a w) {j t : Nat} {b : Bool} {oj : Oper} (hg : o.guard = some (j, b)) (hj : ops[j]? = some oj) (ht : oj.dst = some t) (htN : Nat.blt t N = true) (hs : lk sl t = some undef)
    (hd : o.dst = some d) (hN : Nat.blt d N = true) (k : ∀ a', St w0 S0 R N ((d, undef) :: sl) L a' w → wpList P ops Q rest a' w) : wpList P ops Q (o :: rest) a w := by
  have hy := h.yieldedU (ops := ops) hj ht htN hs
  have hw : ¬ Region.wanted o (Go.yielded ops a.tmps) = true := by simp [Region.wanted, hg, hy]
  unfold wpList
  rw [if_neg hw, hd]
  exact k _ (h.slot hN undef)
theorem St.guardS_noU {q : Act → Prop} (h : St w0 S0 R N sl L a w) {j t : Nat} {b : Bool} {oj : Oper} (hg : o.guard = some (j, b)) (hj : ops[j]? = some oj) (ht : oj.dst = some t) (htN : Nat.blt t N = true) (hs : lk sl t = some undef)
    (hd : o.dst = some d) (hN : Nat.blt d N = true) (k : ∀ a', St w0 S0 R N ((d, undef) :: sl) L a' w → wpStill P ops w q rest a') : wpStill P ops w q (o :: rest) a := by
  have hy := h.yieldedU (ops := ops) hj ht htN hs
  have hw : ¬ Region.wanted o (Go.yielded ops a.tmps) = true := by simp [Region.wanted, hg, hy]
  unfold wpStill
  rw [if_neg hw, hd]
  exact k _ (h.slot hN undef)
theorem St.wantsU {l : List Oper} (h : St w0 S0 R N sl L a w) {j t : Nat} {b : Bool} {oj : Oper} (hg : o.guard = some (j, b)) (hj : l[j]? = some oj) (ht : oj.dst = some t) (htN : Nat.blt t N = true) (hs : lk sl t = some undef) : Region.wanted o (Go.yielded l.toArray a.tmps) = false := by
  have hy := h.yieldedU (ops := l.toArray) (by simpa using hj) ht htN hs
  simp [Region.wanted, hg, hy]
/-- What is not wanted is taken first. -/
theorem St.takeN (h : St w0 S0 R N sl L a w) (i m t' : Nat) {LB : List Assn} {oi : Oper} {fuel n t : Nat} {l : List Oper} (hi : l[i]? = some oi) (hck : (Region.noSelect l.toArray && Region.free .any l.toArray (msk n t) i && (Region.ready .any l.toArray (msk n t)).contains i && !Nat.beq i m && (msk n t).setIfInBounds i true == msk n t') = true)
    (hcl : Closed l.toArray (msk n t)) (hI : Till m (Reads LB) (msk n t) w) (hd : oi.dst = some d) (hN : Nat.blt d N = true) (hw : Region.wanted oi (Go.yielded l.toArray a.tmps) = false)
    (hQ : ∀ c a w, Q (.panic c) (a.put (some d) undef) w → Q (.panic c) a w)
    (k : ∀ a', St w0 S0 R N ((d, undef) :: sl) L a' w → Closed l.toArray (msk n t') → Till m (Reads LB) (msk n t') w → wpAnyL P l.toArray Q (Till m (Reads LB)) fuel (msk n t') a' w) :
    wpAnyL P l.toArray Q (Till m (Reads LB)) (fuel + 1) (msk n t) a w := by
  simp only [Bool.and_eq_true, beq_iff_eq] at hck
  obtain ⟨⟨⟨⟨hs, hf⟩, hr⟩, hlt⟩, ht'⟩ := hck
  have hoi : l.toArray[i]? = some oi := by simpa using hi
  have hr' : i ∈ Region.ready .any l.toArray (msk n t) := by simpa using hr
  have hne : i ≠ m := fun e => by subst e; simp at hlt
  rw [← ht'] at k
  refine wpAnyL_first hoi (Region.noSelect_spec hs) (by rw [hd]; exact hQ) (fun _ _ _ _ x => x.lasts) (fun _ _ x => x.back hne) fuel _ a w (Region.free_spec hoi hf) hcl hr' (.inr ⟨hw, rfl⟩) hI ?_
  rw [hd]
  exact k _ (h.slot hN undef) (hcl.set hr') hI.lasts
end
end Go.Tr
