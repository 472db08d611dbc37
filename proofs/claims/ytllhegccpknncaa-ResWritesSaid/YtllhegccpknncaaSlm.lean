/-
  Maps: what is owned of one, what lies in it, and the operations on it; ranges over maps.
-/
import Derived.Test.YtllhegccpknncaaSlh
import Derived.Maps.RangeRun
import Derived.MapKept
set_option linter.unusedVariables false
set_option linter.unusedSimpArgs false
set_option linter.unusedSectionVars false
namespace Go.Tr

/-! ### Lists of keys and values -/
section
variable {K V : Type} [DecidableEq K]
def ix (x : K) : List K → Option Nat
  | [] => none
  | y :: l => if y = x then some 0 else (ix x l).map (· + 1)
def getM (x : K) : List (K × V) → Option V
  | [] => none
  | p :: l => if p.1 = x then some p.2 else getM x l
def putM (x : K) (v : V) : List (K × V) → List (K × V)
  | [] => [(x, v)]
  | p :: l => if p.1 = x then (x, v) :: l else p :: putM x v l
def delM (x : K) : List (K × V) → List (K × V)
  | [] => []
  | p :: l => if p.1 = x then l else p :: delM x l
theorem ix_get {x : K} : ∀ {es : List (K × V)}, getM x es = (ix x (es.map Prod.fst)).bind fun i => es[i]?.map Prod.snd
  | [] => rfl
  | p :: l => by
    simp only [getM, ix, List.map_cons]
    split
    · simp
    · rw [ix_get (es := l)]
      cases h : ix x (l.map Prod.fst) <;> simp
theorem ix_lt {x : K} : ∀ {l : List K} {i : Nat}, ix x l = some i → l[i]? = some x
  | [], i, h => by simp [ix] at h
  | y :: l, i, h => by
    simp only [ix] at h
    split at h
    · rename_i e; injection h with h; subst h; simp [e]
    · cases h2 : ix x l with
      | none => simp [h2] at h
      | some j => simp [h2] at h; subst h; simpa using ix_lt h2
theorem ix_none {x : K} : ∀ {l : List K}, ix x l = none → x ∉ l
  | [], _ => by simp
  | y :: l, h => by
    simp only [ix] at h
    split at h
    · cases h
    · rename_i hne
      simp only [Option.map_eq_none_iff] at h
      simp only [List.mem_cons, not_or]
      exact ⟨fun e => hne e.symm, ix_none h⟩
theorem putM_none {x : K} {v : V} : ∀ {es : List (K × V)}, ix x (es.map Prod.fst) = none → putM x v es = es ++ [(x, v)]
  | [], _ => rfl
  | p :: l, h => by
    simp only [List.map_cons, ix] at h
    split at h
    · cases h
    · rename_i hne
      simp only [Option.map_eq_none_iff] at h
      simp [putM, hne, putM_none h]
theorem putM_some {x : K} {v : V} : ∀ {es : List (K × V)} {i : Nat}, ix x (es.map Prod.fst) = some i → putM x v es = es.set i (x, v)
  | [], i, h => by simp [ix] at h
  | p :: l, i, h => by
    simp only [List.map_cons, ix] at h
    split at h
    · rename_i e; injection h with h; subst h; simp [putM, e]
    · rename_i hne
      cases h2 : ix x (l.map Prod.fst) with
      | none => simp [h2] at h
      | some j => simp [h2] at h; subst h; simp [putM, hne, putM_some h2]
theorem delM_none {x : K} : ∀ {es : List (K × V)}, ix x (es.map Prod.fst) = none → delM x es = es
  | [], _ => rfl
  | p :: l, h => by
    simp only [List.map_cons, ix] at h
    split at h
    · cases h
    · rename_i hne
      simp only [Option.map_eq_none_iff] at h
      simp [delM, hne, delM_none h]
theorem delM_some {x : K} : ∀ {es : List (K × V)} {i : Nat}, ix x (es.map Prod.fst) = some i → delM x es = es.eraseIdx i
  | [], i, h => by simp [ix] at h
  | p :: l, i, h => by
    simp only [List.map_cons, ix] at h
    split at h
    · rename_i e; injection h with h; subst h; simp [delM, e]
    · rename_i hne
      cases h2 : ix x (l.map Prod.fst) with
      | none => simp [h2] at h
      | some j => simp [h2] at h; subst h; simp [delM, hne, delM_some h2]
theorem putM_fst_some {x : K} {v : V} {es : List (K × V)} {i : Nat} (h : ix x (es.map Prod.fst) = some i) : (putM x v es).map Prod.fst = es.map Prod.fst := by
  rw [putM_some h]
  refine List.ext_getElem? fun j => ?_
  rw [List.getElem?_map, List.getElem?_map, List.getElem?_set]
  split
  · rename_i e; subst e
    have := ix_lt h
    rw [List.getElem?_map] at this
    cases h2 : es[i]? with
    | none => simp [h2] at this
    | some p => simp [h2] at this; simp [(List.getElem?_eq_some_iff.1 h2).1, this]
  · rfl
end

/-! ### Keys, and what lies in memory -/

/-- Keys of a type: they can be looked for. -/
class KeyOk (P : Program) (kt : TypeId) {K : Type} [DecidableEq K] (key : K → Value) : Prop where
  check : ∀ em x w, (Instr.checkKey em 10000 kt (key x)).run P w = .ok () w
  find : ∀ (x : K) (es : List MapEntry) (ks : List K) (w : World), es.map (·.key) = ks.map key → (Instr.findKey kt (key x) es).run P w = .ok ((ix x ks).bind fun i => es[i]?.map fun e => (i, e.val)) w
  bits : ∀ x, Instr.sameBits 10000 (key x) (key x) = true

section
variable {K V : Type} [DecidableEq K]
def ents (key : K → Value) (ev : V → Value) (es : List (K × V)) (bs : List Nat) : List MapEntry := List.zipWith (fun p b => ⟨key p.1, ev p.2, b⟩) es bs
structure MapWf (es : List (K × V)) (bs : List Nat) (clock : Nat) : Prop where
  len : bs.length = es.length
  up : bs.Pairwise (· < ·)
  lt : ∀ b ∈ bs, b < clock
  nodup : (es.map Prod.fst).Nodup
/-- A map that is owned: where it lies (none: nil), what it holds, in the order in which it was laid in. -/
def mapl (key : K → Value) (ev : V → Value) (A : Option Nat) (es : List (K × V)) : Assn where
  holds w S R := (A = none ∧ es = []) ∨ ∃ b bs clock, A = some b ∧ (∀ o, S b o) ∧ w.heap[b]? = some (.map (ents key ev es bs).toArray clock) ∧ MapWf es bs clock
  mono := fun h hS _ => h.imp id fun ⟨b, bs, c, h1, h2, h3⟩ => ⟨b, bs, c, h1, fun o => hS _ _ (h2 o), h3⟩
  loc := fun h hg => h.imp id fun ⟨b, bs, c, h1, h2, h3, h4⟩ => ⟨b, bs, c, h1, h2, (hg.blk b fun o => .inl (h2 o)).trans h3, h4⟩
instance (key : K → Value) (ev : V → Value) (A : Option Nat) (es : List (K × V)) : Excl (mapl key ev A es) := ⟨fun _ _ _ h => h⟩
/-- A map that is gone over: which keys have come, which one is at hand. -/
def mapit (key : K → Value) (ev : V → Value) (A : Option Nat) (it : Nat) (es : List (K × V)) (done : List K) (cur : Option K) : Assn where
  holds w S R := (∀ o, S it o) ∧ ((A = none ∧ es = [] ∧ cur = none ∧ w.heap[it]? = some (.mapIter none 0 #[] 0)) ∨
    ∃ b bs clock since seen last, A = some b ∧ b ≠ it ∧ (∀ o, S b o) ∧ w.heap[b]? = some (.map (ents key ev es bs).toArray clock) ∧ MapWf es bs clock ∧ w.heap[it]? = some (.mapIter (some b) since seen last) ∧
      (∀ x ∈ bs, x < since) ∧ (since ≤ last ∧ since ≤ clock) ∧ (∀ (i : Nat) (p : K × V) (x : Nat), es[i]? = some p → bs[i]? = some x → (seen.contains x = true ↔ p.1 ∈ done)) ∧
      (∀ k, cur = some k → last = clock ∧ ∀ (i : Nat) (p : K × V) (x : Nat), es[i]? = some p → bs[i]? = some x → p.1 = k → ∃ s : Array Nat, seen = s.push x))
  mono := fun h hS _ => ⟨fun o => hS _ _ (h.1 o), h.2.imp id fun ⟨b, bs, c, s, sn, l, h1, h2, h3, h4⟩ => ⟨b, bs, c, s, sn, l, h1, h2, fun o => hS _ _ (h3 o), h4⟩⟩
  loc := fun h hg => ⟨h.1, h.2.imp (fun ⟨h1, h2, h3, h4⟩ => ⟨h1, h2, h3, (hg.blk _ fun o => .inl (h.1 o)).trans h4⟩) fun ⟨b, bs, c, s, sn, l, h1, h2, h3, h4, h5, h6, h7⟩ =>
    ⟨b, bs, c, s, sn, l, h1, h2, h3, (hg.blk b fun o => .inl (h3 o)).trans h4, h5, (hg.blk _ fun o => .inl (h.1 o)).trans h6, h7⟩⟩
instance (key : K → Value) (ev : V → Value) (A : Option Nat) (it : Nat) (es : List (K × V)) (done : List K) (cur : Option K) : Excl (mapit key ev A it es done cur) := ⟨fun _ _ _ h => ⟨h.1, h.2⟩⟩

theorem ents_keys {key : K → Value} {ev : V → Value} : ∀ {es : List (K × V)} {bs : List Nat}, bs.length = es.length → (ents key ev es bs).map (·.key) = (es.map Prod.fst).map key
  | [], [], _ => rfl
  | p :: es, b :: bs, h => by
    have ih := ents_keys (key := key) (ev := ev) (es := es) (bs := bs) (by simpa using h)
    simp only [ents] at ih
    simp [ents, ih]
  | p :: es, [], h => by simp at h
  | [], b :: bs, h => by simp at h
theorem ents_get {key : K → Value} {ev : V → Value} {es : List (K × V)} {bs : List Nat} (h : bs.length = es.length) {i : Nat} {p : K × V} (hi : es[i]? = some p) : ∃ x, bs[i]? = some x ∧ (ents key ev es bs)[i]? = some ⟨key p.1, ev p.2, x⟩ := by
  have hlt : i < bs.length := by rw [h]; exact (List.getElem?_eq_some_iff.1 hi).1
  refine ⟨bs[i], List.getElem?_eq_getElem hlt, ?_⟩
  simp [ents, List.getElem?_zipWith, hi, List.getElem?_eq_getElem hlt]
theorem ents_get' {key : K → Value} {ev : V → Value} {es : List (K × V)} {bs : List Nat} {i : Nat} {e : MapEntry} (hi : (ents key ev es bs)[i]? = some e) : ∃ p x, es[i]? = some p ∧ bs[i]? = some x ∧ e = ⟨key p.1, ev p.2, x⟩ := by
  simp only [ents, List.getElem?_zipWith] at hi
  cases h1 : es[i]? with
  | none => simp [h1] at hi
  | some p =>
    cases h2 : bs[i]? with
    | none => simp [h1, h2] at hi
    | some x => simp [h1, h2] at hi; exact ⟨p, x, rfl, rfl, hi.symm⟩
theorem ents_len {key : K → Value} {ev : V → Value} {es : List (K × V)} {bs : List Nat} (h : bs.length = es.length) : (ents key ev es bs).length = es.length := by simp [ents, h]
theorem ents_snoc {key : K → Value} {ev : V → Value} {es : List (K × V)} {bs : List Nat} (h : bs.length = es.length) (x : K) (v : V) (c : Nat) : ents key ev (es ++ [(x, v)]) (bs ++ [c]) = ents key ev es bs ++ [⟨key x, ev v, c⟩] := by
  simp only [ents]
  rw [List.zipWith_append h.symm]
  rfl
theorem ents_set {key : K → Value} {ev : V → Value} : ∀ {es : List (K × V)} {bs : List Nat} {i : Nat} {x : Nat} (k : K) (v : V), bs[i]? = some x → ents key ev (es.set i (k, v)) bs = (ents key ev es bs).set i ⟨key k, ev v, x⟩
  | [], bs, i, x, k, v, h => by simp [ents]
  | p :: es, [], i, x, k, v, h => by simp at h
  | p :: es, b :: bs, 0, x, k, v, h => by simp at h; subst h; rfl
  | p :: es, b :: bs, i + 1, x, k, v, h => by
    have ih := ents_set (key := key) (ev := ev) (es := es) (bs := bs) (i := i) k v (by simpa using h)
    simp only [ents] at ih
    simp [ents, ih]
theorem ents_erase {key : K → Value} {ev : V → Value} : ∀ {es : List (K × V)} {bs : List Nat} {i : Nat}, bs.length = es.length → ents key ev (es.eraseIdx i) (bs.eraseIdx i) = (ents key ev es bs).eraseIdx i
  | [], [], i, h => by simp [ents]
  | p :: es, b :: bs, 0, h => rfl
  | p :: es, b :: bs, i + 1, h => by
    have ih := ents_erase (key := key) (ev := ev) (es := es) (bs := bs) (i := i) (by simpa using h)
    simp only [ents] at ih
    simp [ents, ih]
  | p :: es, [], i, h => by simp at h
  | [], b :: bs, i, h => by simp at h
theorem MapWf.put_some {es : List (K × V)} {bs : List Nat} {clock : Nat} (h : MapWf es bs clock) {x : K} (v : V) {i : Nat} (hi : ix x (es.map Prod.fst) = some i) : MapWf (putM x v es) bs clock :=
  ⟨by rw [putM_some hi, List.length_set]; exact h.len, h.up, h.lt, by rw [putM_fst_some hi]; exact h.nodup⟩
theorem MapWf.put_none {es : List (K × V)} {bs : List Nat} {clock : Nat} (h : MapWf es bs clock) {x : K} (v : V) (hi : ix x (es.map Prod.fst) = none) : MapWf (putM x v es) (bs ++ [clock]) (clock + 1) := by
  rw [putM_none hi]
  refine ⟨by simp [h.len], ?_, fun b hb => ?_, ?_⟩
  · rw [List.pairwise_append]
    exact ⟨h.up, by simp, fun a ha b hb => by simp at hb; subst hb; exact h.lt a ha⟩
  · rcases List.mem_append.1 hb with h1 | h1
    · have := h.lt b h1; omega
    · simp at h1; omega
  · rw [List.map_append, List.nodup_append]
    refine ⟨h.nodup, by simp, fun a ha b hb => ?_⟩
    simp at hb; subst hb
    exact fun e => ix_none hi (e ▸ ha)
theorem MapWf.del {es : List (K × V)} {bs : List Nat} {clock : Nat} (h : MapWf es bs clock) {x : K} {i : Nat} (hi : ix x (es.map Prod.fst) = some i) : MapWf (delM x es) (bs.eraseIdx i) clock := by
  rw [delM_some hi]
  refine ⟨?_, h.up.sublist (List.eraseIdx_sublist ..), fun b hb => h.lt b (List.mem_of_mem_eraseIdx hb), ?_⟩
  · rw [List.length_eraseIdx, List.length_eraseIdx, h.len]
  · rw [← eraseIdx_map]
    exact h.nodup.sublist (List.eraseIdx_sublist ..)

/-- What is told of a map by what is had of it. -/
class IsMap (B : Assn) (key : outParam (K → Value)) (val : outParam (V → Value)) (A : outParam (Option Nat)) (es : outParam (List (K × V))) : Prop where
  out : ∀ w S R, B.holds w S R → (A = none ∧ es = []) ∨ ∃ b bs clock, A = some b ∧ w.heap[b]? = some (.map (ents key val es bs).toArray clock) ∧ MapWf es bs clock
instance (key : K → Value) (val : V → Value) (A : Option Nat) (es : List (K × V)) : IsMap (mapl key val A es) key val A es := ⟨fun _ _ _ h => h.imp id fun ⟨b, bs, c, h1, _, h3, h4⟩ => ⟨b, bs, c, h1, h3, h4⟩⟩
instance (key : K → Value) (val : V → Value) (A : Option Nat) (it : Nat) (es : List (K × V)) (done : List K) (cur : Option K) : IsMap (mapit key val A it es done cur) key val A es :=
  ⟨fun _ _ _ h => h.2.imp (fun h => ⟨h.1, h.2.1⟩) fun ⟨b, bs, c, _, _, _, h1, _, _, h4, h5, _⟩ => ⟨b, bs, c, h1, h4, h5⟩⟩
theorem mapit_mapl (key : K → Value) (val : V → Value) (A : Option Nat) (it : Nat) (es : List (K × V)) (done : List K) (cur : Option K) : Ent (mapit key val A it es done cur) (mapl key val A es) :=
  fun _ _ _ h => h.2.imp (fun h => ⟨h.1, h.2.1⟩) fun ⟨b, bs, c, _, _, _, h1, _, h3, h4, h5, _⟩ => ⟨b, bs, c, h1, h3, h4, h5⟩
theorem mapl_nil (key : K → Value) (val : V → Value) (w : World) (S R : Fp) : (mapl key val none []).holds w S R := .inl ⟨rfl, rfl⟩
theorem mapl_told {key : K → Value} {val : V → Value} {A : Option Nat} {es : List (K × V)} {w : World} {S R : Fp} (h : (mapl key val A es).holds w S R) : (A = none → es = []) ∧ (es.map Prod.fst).Nodup := by
  rcases h with ⟨rfl, rfl⟩ | ⟨b, bs, c, rfl, _, _, h4⟩
  · exact ⟨fun _ => rfl, by simp⟩
  · exact ⟨(fun e => by cases e), h4.nodup⟩
end

section
variable {P : Program} {w0 : World} {S0 R : Fp} {N : Nat} {sl : List (Nat × Value)} {L : List Assn} {a : Act} {w : World}
variable {ops : Array Oper} {Q : Exit → Act → World → Prop} {rest : List Oper} {o : Oper} {d : Nat} {v : Value}
variable {K V : Type} [DecidableEq K] {key : K → Value} {val : V → Value} {kt et mt : TypeId} {A : Option Nat} {es : List (K × V)} {k : K} {x y z : Operand} {zv : Value}

theorem run_find [hk : KeyOk P kt key] {bs : List Nat} (h : bs.length = es.length) (k : K) (w : World) : (Instr.findKey kt (key k) (ents key val es bs)).run P w = .ok ((ix k (es.map Prod.fst)).bind fun i => es[i]?.map fun p => (i, val p.2)) w := by
  rw [hk.find k _ (es.map Prod.fst) w (ents_keys h)]
  congr 1
  cases hi : ix k (es.map Prod.fst) with
  | none => rfl
  | some i =>
    have hg := ix_lt hi
    rw [List.getElem?_map] at hg
    cases hp : es[i]? with
    | none => simp [hp] at hg
    | some p =>
      obtain ⟨b, _, he⟩ := ents_get (key := key) (ev := val) h hp
      simp [hp, he]
/-- A key is looked up: it is there. -/
theorem lookup_run [hk : KeyOk P kt key] {B : Assn} [hB : IsMap B key val A es] (hu : P.underlying mt = some (.map kt et)) (hz : ∀ w, (zeroValue et).run P w = .ok zv w) {w : World} {S R : Fp} (h : B.holds w S R) (k : K) (c : Bool) :
    (Instr.lookup mt (.map A) (key k) c).run P w = .ok (match getM k es with | some u => if c then .tuple #[val u, .bool true] else val u | none => if c then .tuple #[zv, .bool false] else zv) w := by
  rcases hB.out w S R h with ⟨rfl, rfl⟩ | ⟨b, bs, clock, rfl, hb, hwf⟩
  · have hf := hk.find k [] [] w rfl
    have e0 : ix k ([] : List K) = none := rfl
    rw [e0, Option.bind_none] at hf
    cases c <;> simp [Instr.lookup, run_underlying hu, hk.check, hf, hz, getM]
  · have hf := run_find (P := P) (kt := kt) (key := key) (val := val) hwf.len k w
    simp only [Instr.lookup, Sem.run_bind, run_underlying hu, Result.andThen_ok, MapKept.run_getObj_map hb, Sem.run_pure, hk.check, List.toList_toArray, hf, ix_get]
    cases hi : ix k (es.map Prod.fst) with
    | none => cases c <;> simp [hz]
    | some i =>
      have hg := ix_lt hi
      rw [List.getElem?_map] at hg
      cases hp : es[i]? with
      | none => simp [hp] at hg
      | some p => cases c <;> simp [hp]
theorem GB.lookS [hk : KeyOk P kt key] {B : Assn} [hB : IsMap B key val A es] (i : Nat) {u : V} (hg : getM k es = some u) (hi : L[i]? = some B) (ho : o.op = .lookup mt x y false) (hx : ev sl x = some (.map A)) (hy : ev sl y = some (key k))
    (hu : P.underlying mt = some (.map kt et)) (hz : ∀ w, (zeroValue et).run P w = .ok zv w) : Gets P o sl L (val u) := by
  intro a w S R hs hL
  obtain ⟨S1, _, _, _, _, hc, _⟩ := stars_take L i _ hi w S R hL
  have := lookup_run (P := P) (hB := hB) hu hz hc k false
  rw [hg] at this
  simp only [execOp, ho, hs.ev hx, hs.ev hy, Sem.run_bind, this, Result.andThen_ok, Sem.run_pure]
  rfl
theorem GB.lookN [hk : KeyOk P kt key] {B : Assn} [hB : IsMap B key val A es] (i : Nat) (hg : getM k es = none) (hi : L[i]? = some B) (ho : o.op = .lookup mt x y false) (hx : ev sl x = some (.map A)) (hy : ev sl y = some (key k))
    (hu : P.underlying mt = some (.map kt et)) (hz : ∀ w, (zeroValue et).run P w = .ok zv w) : Gets P o sl L zv := by
  intro a w S R hs hL
  obtain ⟨S1, _, _, _, _, hc, _⟩ := stars_take L i _ hi w S R hL
  have := lookup_run (P := P) (hB := hB) hu hz hc k false
  rw [hg] at this
  simp only [execOp, ho, hs.ev hx, hs.ev hy, Sem.run_bind, this, Result.andThen_ok, Sem.run_pure]
  rfl
theorem GB.lookSk [hk : KeyOk P kt key] {B : Assn} [hB : IsMap B key val A es] (i : Nat) {u : V} (hg : getM k es = some u) (hi : L[i]? = some B) (ho : o.op = .lookup mt x y true) (hx : ev sl x = some (.map A)) (hy : ev sl y = some (key k))
    (hu : P.underlying mt = some (.map kt et)) (hz : ∀ w, (zeroValue et).run P w = .ok zv w) : Gets P o sl L (.tuple #[val u, .bool true]) := by
  intro a w S R hs hL
  obtain ⟨S1, _, _, _, _, hc, _⟩ := stars_take L i _ hi w S R hL
  have := lookup_run (P := P) (hB := hB) hu hz hc k true
  rw [hg] at this
  simp only [execOp, ho, hs.ev hx, hs.ev hy, Sem.run_bind, this, Result.andThen_ok, Sem.run_pure]
  rfl
theorem GB.lookNk [hk : KeyOk P kt key] {B : Assn} [hB : IsMap B key val A es] (i : Nat) (hg : getM k es = none) (hi : L[i]? = some B) (ho : o.op = .lookup mt x y true) (hx : ev sl x = some (.map A)) (hy : ev sl y = some (key k))
    (hu : P.underlying mt = some (.map kt et)) (hz : ∀ w, (zeroValue et).run P w = .ok zv w) : Gets P o sl L (.tuple #[zv, .bool false]) := by
  intro a w S R hs hL
  obtain ⟨S1, _, _, _, _, hc, _⟩ := stars_take L i _ hi w S R hL
  have := lookup_run (P := P) (hB := hB) hu hz hc k true
  rw [hg] at this
  simp only [execOp, ho, hs.ev hx, hs.ev hy, Sem.run_bind, this, Result.andThen_ok, Sem.run_pure]
  rfl
theorem GB.lenm {B : Assn} [hB : IsMap B key val A es] (i : Nat) (hi : L[i]? = some B) (ho : o.op = .call { callee := .builtin .len, args := #[x], argTypes := #[mt] }) (hx : ev sl x = some (.map A)) (hu : P.underlying mt = some (.map kt et)) : Gets P o sl L (.int .i64 es.length) := by
  intro a w S R hs hL
  obtain ⟨S1, _, _, _, _, hc, _⟩ := stars_take L i _ hi w S R hL
  rcases hB.out w S1 R hc with ⟨rfl, rfl⟩ | ⟨b, bs, clock, rfl, hb, hwf⟩
  · simp [execOp, ho, hs.ev hx, resolve, invoke, builtin, Builtin.len_, run_underlying hu, goInt]
  · have hl := ents_len (key := key) (ev := val) hwf.len
    simp [execOp, ho, hs.ev hx, resolve, invoke, builtin, Builtin.len_, run_underlying hu, goInt, MapKept.run_getObj_map hb, hl]
theorem B.meql {T T' T'' : TypeId} {ox oy : Operand} (hu : P.underlying T = some (.map T' T'')) (g : Option Nat) : BinRuns P .eql T ox oy (.map g) (.map none) (.bool g.isNone) := fun w => by
  have := equal_run (P := P) (T := T) (vx := .map g) (vy := .map none) (r := g.isNone) (fun d w => by cases g <;> simp [Op.equalIn, run_underlying hu]) w
  simp only [eqGuard_at_map, binOp, Sem.run_bind, Sem.run_pure, Result.andThen_ok, this]
theorem B.mneq {T T' T'' : TypeId} {ox oy : Operand} (hu : P.underlying T = some (.map T' T'')) (g : Option Nat) : BinRuns P .neq T ox oy (.map g) (.map none) (.bool g.isSome) := fun w => by
  have := equal_run (P := P) (T := T) (vx := .map g) (vy := .map none) (r := g.isNone) (fun d w => by cases g <;> simp [Op.equalIn, run_underlying hu]) w
  simp only [eqGuard_at_map, binOp, Sem.run_bind, Sem.run_pure, Result.andThen_ok, this]
  cases g <;> rfl

end

section
variable {P : Program} {sl : List (Nat × Value)} {L : List Assn} {o : Oper} {v : Value} {K V : Type} [DecidableEq K] {key : K → Value} {val : V → Value} {kt et mt : TypeId} {A : Option Nat} {es : List (K × V)} {k : K} {x y : Operand} {zv : Value}
theorem G.lookS [hk : KeyOk P kt key] (i : Nat) {u : V} (hg : getM k es = some u) (hi : L[i]? = some (mapl key val A es)) (ho : o.op = .lookup mt x y false) (hx : ev sl x = some (.map A)) (hy : ev sl y = some (key k))
    (hu : P.underlying mt = some (.map kt et)) (hz : ∀ w, (zeroValue et).run P w = .ok zv w) : Gets P o sl L (val u) := GB.lookS i hg hi ho hx hy hu hz
theorem G.lookN [hk : KeyOk P kt key] (i : Nat) (hg : getM k es = none) (hi : L[i]? = some (mapl key val A es)) (ho : o.op = .lookup mt x y false) (hx : ev sl x = some (.map A)) (hy : ev sl y = some (key k))
    (hu : P.underlying mt = some (.map kt et)) (hz : ∀ w, (zeroValue et).run P w = .ok zv w) : Gets P o sl L zv := GB.lookN i hg hi ho hx hy hu hz
theorem G.lookSk [hk : KeyOk P kt key] (i : Nat) {u : V} (hg : getM k es = some u) (hi : L[i]? = some (mapl key val A es)) (ho : o.op = .lookup mt x y true) (hx : ev sl x = some (.map A)) (hy : ev sl y = some (key k))
    (hu : P.underlying mt = some (.map kt et)) (hz : ∀ w, (zeroValue et).run P w = .ok zv w) : Gets P o sl L (.tuple #[val u, .bool true]) := GB.lookSk i hg hi ho hx hy hu hz
theorem G.lookNk [hk : KeyOk P kt key] (i : Nat) (hg : getM k es = none) (hi : L[i]? = some (mapl key val A es)) (ho : o.op = .lookup mt x y true) (hx : ev sl x = some (.map A)) (hy : ev sl y = some (key k))
    (hu : P.underlying mt = some (.map kt et)) (hz : ∀ w, (zeroValue et).run P w = .ok zv w) : Gets P o sl L (.tuple #[zv, .bool false]) := GB.lookNk i hg hi ho hx hy hu hz
theorem G.lenm (i : Nat) (hi : L[i]? = some (mapl key val A es)) (ho : o.op = .call { callee := .builtin .len, args := #[x], argTypes := #[mt] }) (hx : ev sl x = some (.map A)) (hu : P.underlying mt = some (.map kt et)) : Gets P o sl L (.int .i64 es.length) := GB.lenm i hi ho hx hu
theorem G.lookSI [hk : KeyOk P kt key] (i : Nat) {it : Nat} {done : List K} {cur : Option K} {u : V} (hg : getM k es = some u) (hi : L[i]? = some (mapit key val A it es done cur)) (ho : o.op = .lookup mt x y false) (hx : ev sl x = some (.map A)) (hy : ev sl y = some (key k))
    (hu : P.underlying mt = some (.map kt et)) (hz : ∀ w, (zeroValue et).run P w = .ok zv w) : Gets P o sl L (val u) := GB.lookS i hg hi ho hx hy hu hz
theorem G.lookNI [hk : KeyOk P kt key] (i : Nat) {it : Nat} {done : List K} {cur : Option K} (hg : getM k es = none) (hi : L[i]? = some (mapit key val A it es done cur)) (ho : o.op = .lookup mt x y false) (hx : ev sl x = some (.map A)) (hy : ev sl y = some (key k))
    (hu : P.underlying mt = some (.map kt et)) (hz : ∀ w, (zeroValue et).run P w = .ok zv w) : Gets P o sl L zv := GB.lookN i hg hi ho hx hy hu hz
theorem G.lookSkI [hk : KeyOk P kt key] (i : Nat) {it : Nat} {done : List K} {cur : Option K} {u : V} (hg : getM k es = some u) (hi : L[i]? = some (mapit key val A it es done cur)) (ho : o.op = .lookup mt x y true) (hx : ev sl x = some (.map A)) (hy : ev sl y = some (key k))
    (hu : P.underlying mt = some (.map kt et)) (hz : ∀ w, (zeroValue et).run P w = .ok zv w) : Gets P o sl L (.tuple #[val u, .bool true]) := GB.lookSk i hg hi ho hx hy hu hz
theorem G.lookNkI [hk : KeyOk P kt key] (i : Nat) {it : Nat} {done : List K} {cur : Option K} (hg : getM k es = none) (hi : L[i]? = some (mapit key val A it es done cur)) (ho : o.op = .lookup mt x y true) (hx : ev sl x = some (.map A)) (hy : ev sl y = some (key k))
    (hu : P.underlying mt = some (.map kt et)) (hz : ∀ w, (zeroValue et).run P w = .ok zv w) : Gets P o sl L (.tuple #[zv, .bool false]) := GB.lookNk i hg hi ho hx hy hu hz
theorem G.lenmI (i : Nat) {it : Nat} {done : List K} {cur : Option K} (hi : L[i]? = some (mapit key val A it es done cur)) (ho : o.op = .call { callee := .builtin .len, args := #[x], argTypes := #[mt] }) (hx : ev sl x = some (.map A)) (hu : P.underlying mt = some (.map kt et)) : Gets P o sl L (.int .i64 es.length) := GB.lenm i hi ho hx hu
end
section
variable {P : Program} {w0 : World} {S0 R : Fp} {N : Nat} {sl : List (Nat × Value)} {L : List Assn} {a : Act} {w : World}
variable {ops : Array Oper} {Q : Exit → Act → World → Prop} {rest : List Oper} {o : Oper} {d : Nat} {v : Value}
variable {K V : Type} [DecidableEq K] {key : K → Value} {val : V → Value} {kt et mt : TypeId} {A : Option Nat} {es : List (K × V)} {k : K} {x y z : Operand} {zv : Value}

/-! ### What turns a map -/
theorem Acts.mkmap (key : K → Value) (val : V → Value) (ho : o.op = .makeMap mt none) : Acts P o sl L (fun v L' => ∃ b, v = .map (some b) ∧ L' = mapl key val (some b) [] :: L) := by
  intro a w S R hs hL hal hR hSR
  obtain ⟨S', h1, h2, h3⟩ := holds_new hL hal hR (.map #[] 0) (A := mapl key val (some w.heap.size) []) fun T' hT' =>
    .inr ⟨w.heap.size, [], 0, rfl, hT', World.alloc_heap_new w _, rfl, .nil, fun b hb => by simp at hb, by simp⟩
  refine ⟨.map (some w.heap.size), w.alloc (.map #[] 0), _, S', ?_, ⟨_, rfl, rfl⟩, Evo.alloc S w _, h1, h2, h3⟩
  have hrun : (Instr.makeMap mt none).run P w = .ok (.map (some w.heap.size)) (w.alloc (.map #[] 0)) := rfl
  simp [execOp, ho]
  rw [hrun]
  rfl
theorem mapUpdate_run [hk : KeyOk P kt key] (hu : P.underlying mt = some (.map kt et)) {b : Nat} {bs : List Nat} {clock : Nat} {w : World} (hb : w.heap[b]? = some (.map (ents key val es bs).toArray clock)) (hwf : MapWf es bs clock) (k : K) (u : V) :
    ∃ bs' clock', (Instr.mapUpdate mt (.map (some b)) (key k) (val u)).run P w = .ok () { w with heap := w.heap.setIfInBounds b (.map (ents key val (putM k u es) bs').toArray clock') } ∧ MapWf (putM k u es) bs' clock' := by
  have hf := run_find (P := P) (kt := kt) (key := key) (val := val) hwf.len k w
  have hstay : (Instr.keyThatStays (key k) (key k)).run P w = .ok (key k) w := by simp [Instr.keyThatStays, hk.bits]
  cases hi : ix k (es.map Prod.fst) with
  | none =>
    rw [hi, Option.bind_none] at hf
    refine ⟨bs ++ [clock], clock + 1, ?_, hwf.put_none u hi⟩
    rw [putM_none hi, ents_snoc hwf.len]
    simp [Instr.mapUpdate, run_underlying hu, MapKept.run_getObj_map hb, hk.check, hf, MapKept.run_setObj_map _ hb]
  | some i =>
    have hg := ix_lt hi
    rw [List.getElem?_map] at hg
    cases hp : es[i]? with
    | none => simp [hp] at hg
    | some p =>
      simp only [hp, Option.map_some, Option.some.injEq] at hg
      obtain ⟨bb, hbb, he⟩ := ents_get (key := key) (ev := val) hwf.len hp
      rw [hi, Option.bind_some, hp, Option.map_some] at hf
      refine ⟨bs, clock, ?_, hwf.put_some u hi⟩
      have hmod : (ents key val es bs).toArray.modify i (fun e => { e with key := key k, val := val u }) = (ents key val (putM k u es) bs).toArray := by
        rw [putM_some hi, ents_set k u hbb]
        apply Array.ext'
        simp only [Array.toList_modify, List.toList_toArray]
        refine List.ext_getElem? fun j => ?_
        rw [List.getElem?_modify, List.getElem?_set]
        by_cases hj : i = j
        · subst hj
          rw [he, if_pos rfl, if_pos (List.getElem?_eq_some_iff.1 he).1]
          simp
        · simp [hj]
      subst hg
      simp only [Instr.mapUpdate, Sem.run_bind, run_underlying hu, Result.andThen_ok, MapKept.run_getObj_map hb, hk.check, List.toList_toArray, hf, List.getElem?_toArray, he, Option.map_some, Option.getD_some, hstay, hmod, MapKept.run_setObj_map _ hb]
theorem U.mput [hk : KeyOk P kt key] (i : Nat) {b : Nat} {u : V} (hi : L[i]? = some (mapl key val (some b) es)) (ho : o.op = .mapUpdate mt x y z) (hx : ev sl x = some (.map (some b))) (hy : ev sl y = some (key k)) (hz : ev sl z = some (val u))
    (hu : P.underlying mt = some (.map kt et)) : Puts P o sl L (L.set i (mapl key val (some b) (putM k u es))) := by
  intro a w S R hs hL hal hR hSR
  obtain ⟨S1, S2, hs1, _, _, hc, _⟩ := stars_take L i _ hi w S R hL
  rcases hc with ⟨h0, _⟩ | ⟨b', bs, clock, h0, hS, hb, hwf⟩
  · cases h0
  injection h0 with h0
  subst h0
  obtain ⟨bs', clock', hrun, hwf'⟩ := mapUpdate_run (P := P) (et := et) hu hb hwf k u
  have hput := holds_put hL hSR hal hR i hi (w' := { w with heap := w.heap.setIfInBounds b (.map (ents key val (putM k u es) bs').toArray clock') }) (B := mapl key val (some b) (putM k u es)) fun T' hT' hA => by
    rcases hA with ⟨h1, _⟩ | ⟨b2, bs2, c2, h1, hS2, hb2, hwf2⟩
    · cases h1
    injection h1 with h1
    subst h1
    exact ⟨.inr ⟨b, bs', clock', rfl, hS2, (MapKept.heap_set hb).1, hwf'⟩, Evo.setObj w b _ hS2⟩
  refine ⟨_, S, ?_, hput.2, hput.1, by simpa using hal, fun _ _ x => .inl x⟩
  simp only [execOp, ho, hs.ev hx, hs.ev hy, hs.ev hz, Sem.run_bind, hrun, Result.andThen_ok, Sem.run_pure]
theorem delete_run [hk : KeyOk P kt key] (hu : P.underlying mt = some (.map kt et)) {ty : TypeId} {b : Nat} {bs : List Nat} {clock : Nat} {w : World} (hb : w.heap[b]? = some (.map (ents key val es bs).toArray clock)) (hwf : MapWf es bs clock) (k : K) :
    ∃ bs', (Builtin.delete_ #[mt, kt] ty #[.map (some b), key k]).run P w = .ok (.tuple #[]) { w with heap := w.heap.setIfInBounds b (.map (ents key val (delM k es) bs').toArray clock) } ∧ MapWf (delM k es) bs' clock ∧
      ∃ j, bs' = bs.eraseIdx j ∧ delM k es = es.eraseIdx j := by
  have hf := run_find (P := P) (kt := kt) (key := key) (val := val) hwf.len k w
  cases hi : ix k (es.map Prod.fst) with
  | none =>
    rw [hi, Option.bind_none] at hf
    refine ⟨bs, ?_, by rw [delM_none hi]; exact hwf, bs.length, (List.eraseIdx_of_length_le (Nat.le_refl _)).symm, by rw [delM_none hi, List.eraseIdx_of_length_le (by rw [hwf.len]; exact Nat.le_refl _)]⟩
    rw [delM_none hi]
    simp [Builtin.delete_, run_underlying hu, MapKept.run_getObj_map hb, hk.check, hf, MapKept.run_setObj_map _ hb]
  | some i =>
    have hg := ix_lt hi
    rw [List.getElem?_map] at hg
    cases hp : es[i]? with
    | none => simp [hp] at hg
    | some p =>
      rw [hi, Option.bind_some, hp, Option.map_some] at hf
      refine ⟨bs.eraseIdx i, ?_, hwf.del hi, i, rfl, delM_some hi⟩
      have hlt : i < (ents key val es bs).toArray.size := by simp [ents_len hwf.len]; exact (List.getElem?_eq_some_iff.1 hp).1
      have her : (ents key val es bs).toArray.eraseIdxIfInBounds i = (ents key val (delM k es) (bs.eraseIdx i)).toArray := by
        rw [delM_some hi, ents_erase hwf.len, Array.eraseIdxIfInBounds, dif_pos hlt]
        simp
      simp only [Builtin.delete_, Sem.run_bind, List.getElem?_toArray, List.getElem?_cons_zero, List.getElem?_cons_succ, run_underlying hu, Result.andThen_ok, MapKept.run_getObj_map hb, hk.check, List.toList_toArray, hf, her, MapKept.run_setObj_map _ hb, Sem.run_pure]
theorem Acts.mdel [hk : KeyOk P kt key] (i : Nat) (hi : L[i]? = some (mapl key val A es)) (ho : o.op = .call { callee := .builtin .delete, args := #[x, y], argTypes := #[mt, kt] }) (hx : ev sl x = some (.map A)) (hy : ev sl y = some (key k))
    (hu : P.underlying mt = some (.map kt et)) : Acts P o sl L (fun v L' => v = .tuple #[] ∧ L' = L.set i (mapl key val A (delM k es))) := by
  intro a w S R hs hL hal hR hSR
  obtain ⟨S1, S2, hs1, _, _, hc, _⟩ := stars_take L i _ hi w S R hL
  rcases hc with ⟨rfl, rfl⟩ | ⟨b, bs, clock, rfl, hS, hb, hwf⟩
  · have hset : L.set i (mapl key val none (delM k [])) = L := by obtain ⟨h1, h2⟩ := List.getElem?_eq_some_iff.1 hi; rw [show delM k ([] : List (K × V)) = [] from rfl, ← h2]; exact List.set_getElem_self h1
    refine ⟨.tuple #[], w, L, S, ?_, ⟨rfl, hset.symm⟩, Evo.refl _ _, hL, hal, fun _ _ x => .inl x⟩
    simp [execOp, ho, resolve, invoke, builtin, hs.ev hx, hs.ev hy, Builtin.delete_, run_underlying hu, hk.check]
  · obtain ⟨bs', hrun, hwf', _⟩ := delete_run (P := P) (et := et) (ty := o.type) hu hb hwf k
    have hput := holds_put hL hSR hal hR i hi (w' := { w with heap := w.heap.setIfInBounds b (.map (ents key val (delM k es) bs').toArray clock) }) (B := mapl key val (some b) (delM k es)) fun T' hT' hA => by
      rcases hA with ⟨h1, _⟩ | ⟨b2, bs2, c2, h1, hS2, hb2, hwf2⟩
      · cases h1
      injection h1 with h1
      subst h1
      exact ⟨.inr ⟨b, bs', clock, rfl, hS2, (MapKept.heap_set hb).1, hwf'⟩, Evo.setObj w b _ hS2⟩
    refine ⟨.tuple #[], _, _, S, ?_, ⟨rfl, rfl⟩, hput.2, hput.1, by simpa using hal, fun _ _ x => .inl x⟩
    simp [execOp, ho, resolve, invoke, builtin, hs.ev hx, hs.ev hy, hrun]

/-! ### Ranges over a map -/
theorem Acts.mrange (i : Nat) (hi : L[i]? = some (mapl key val A es)) (ho : o.op = .range mt x) (hx : ev sl x = some (.map A)) (hu : P.underlying mt = some (.map kt et)) :
    Acts P o sl L (fun v L' => ∃ it, v = .pointer (some ⟨it, 0, none⟩) ∧ L' = mapit key val A it es [] none :: L.eraseIdx i) := by
  intro a w S R hs hL hal hR hSR
  obtain ⟨S1, S2, hs1, hs2, hd, hc, hrest⟩ := stars_take L i _ hi w S R hL
  have fin : ∀ (ob : Obj), (mapit key val A w.heap.size es [] none).holds (w.alloc ob) (fun b o => b = w.heap.size ∨ S1 b o) R →
      (stars (mapit key val A w.heap.size es [] none :: L.eraseIdx i)).holds (w.alloc ob) (fun b o => b = w.heap.size ∨ S b o) R := fun ob hm => by
    refine ⟨_, S2, fun b o y => y.imp id (hs1 b o), fun b o y => .inr (hs2 b o y), fun b o y z => ?_, hm, ?_⟩
    · exact y.elim (fun e => by have := hal b o (hs2 b o z); omega) fun y => hd b o y z
    · exact (stars _).loc hrest (Agree.of_blocks (fun b hb => RowKit.Below.heap_alloc w ob b hb) fun b o x => x.elim (fun y => hal b o (hs2 b o y)) (hR b o))
  rcases hc with ⟨rfl, rfl⟩ | ⟨b, bs, clock, rfl, hS, hb, hwf⟩
  · refine ⟨_, w.alloc (.mapIter none 0 #[] 0), _, _, ?_, ⟨w.heap.size, rfl, rfl⟩, Evo.alloc S w _, fin _ ⟨fun _ => .inl rfl, .inl ⟨rfl, rfl, rfl, World.alloc_heap_new w _⟩⟩, ?_, ?_⟩
    · simp [execOp, ho, hs.ev hx, run_range_nilMap w mt kt et hu]
    · intro b o y; rw [World.size_alloc]; exact y.elim (fun e => by omega) fun e => by have := hal b o e; omega
    · intro b o y; exact y.elim (fun e => .inr (by omega)) .inl
  · have hlt : b < w.heap.size := (Array.getElem?_eq_some_iff.1 hb).1
    refine ⟨_, w.alloc (.mapIter (some b) clock #[] clock), _, _, ?_, ⟨w.heap.size, rfl, rfl⟩, Evo.alloc S w _, fin _ ⟨fun _ => .inl rfl, .inr ⟨b, bs, clock, clock, #[], clock, rfl, by omega, fun o => .inr (hS o), ?_, hwf, World.alloc_heap_new w _, hwf.lt, ⟨Nat.le_refl _, Nat.le_refl _⟩, ?_, fun k hk => by cases hk⟩⟩, ?_, ?_⟩
    · simp [execOp, ho, hs.ev hx, run_range_map w mt kt et b _ clock hu hb]
    · rw [RowKit.Below.heap_alloc w _ b hlt]; exact hb
    · intro i p x hp hx; simp
    · intro b o y; rw [World.size_alloc]; exact y.elim (fun e => by omega) fun e => by have := hal b o e; omega
    · intro b o y; exact y.elim (fun e => .inr (by omega)) .inl
theorem nodup_ix {α : Type} {l : List α} (h : l.Nodup) {i j : Nat} {x : α} (hi : l[i]? = some x) (hj : l[j]? = some x) : i = j := by
  obtain ⟨h1, h2⟩ := List.getElem?_eq_some_iff.1 hi
  obtain ⟨h3, h4⟩ := List.getElem?_eq_some_iff.1 hj
  exact (List.getElem_inj (h₀ := h1) (h₁ := h3) h).1 (h2.trans h4.symm)
theorem ents_born {bs : List Nat} (h : bs.length = es.length) : (ents key val es bs).map (·.born) = bs := by
  refine List.ext_getElem? fun i => ?_
  rw [List.getElem?_map]
  by_cases hi : i < es.length
  · obtain ⟨x, hx, he⟩ := ents_get (key := key) (ev := val) h (List.getElem?_eq_getElem hi)
    rw [hx, he]; rfl
  · rw [List.getElem?_eq_none (by rw [ents_len h]; omega), List.getElem?_eq_none (by omega)]; rfl
theorem Acts.mnext (i : Nat) {it : Nat} {done : List K} {cur : Option K} (hi : L[i]? = some (mapit key val A it es done cur)) (ho : o.op = .next x false) (hx : ev sl x = some (.pointer (some ⟨it, 0, none⟩))) :
    Acts P o sl L (fun v L' => (v = .tuple #[.bool false] ∧ (∀ p ∈ es, p.1 ∈ done) ∧ L' = L.set i (mapit key val A it es done none)) ∨
      ∃ p, p ∈ es ∧ p.1 ∉ done ∧ v = .tuple #[.bool true, key p.1, val p.2] ∧ L' = L.set i (mapit key val A it es (p.1 :: done) (some p.1))) := by
  intro a w S R hs hL hal hR hSR
  obtain ⟨S1, S2, hs1, _, _, hc, _⟩ := stars_take L i _ hi w S R hL
  rcases hc with ⟨hSi, ⟨rfl, rfl, rfl, hit⟩ | ⟨b, bs, clock, since, seen, last, rfl, hne, hS, hb, hwf, hit, hold, hsl, hdone, hcur⟩⟩
  · have hset : L.set i (mapit key val none it [] done none) = L := by obtain ⟨h1, h2⟩ := List.getElem?_eq_some_iff.1 hi; rw [← h2]; exact List.set_getElem_self h1
    refine ⟨.tuple #[.bool false], w, L, S, ?_, .inl ⟨rfl, by simp, hset.symm⟩, Evo.refl _ _, hL, hal, fun _ _ x => .inl x⟩
    simp [execOp, ho, hs.ev hx, Instr.next, getObj, Sem.run, hit]
  · have hold' : ∀ x ∈ (ents key val es bs).toArray.toList, x.born < since := fun x hx => by
      obtain ⟨j, hj⟩ := List.getElem?_of_mem (by simpa using hx)
      obtain ⟨p, y, _, h2, rfl⟩ := ents_get' hj
      exact hold y (List.mem_of_getElem? h2)
    rcases run_next_at (P := P) w o.type it b since last seen _ clock hit hb hold' hsl.1 with ⟨h0, hrun⟩ | ⟨e, he, w1, hw1, hrun⟩
    · have hall : ∀ p ∈ es, p.1 ∈ done := fun p hp => by
        obtain ⟨j, hj⟩ := List.getElem?_of_mem hp
        obtain ⟨y, hy, hent⟩ := ents_get (key := key) (ev := val) hwf.len hj
        refine (hdone j p y hj hy).1 ?_
        rcases hsn : seen.contains y with _ | _
        · exfalso
          have hm : (⟨key p.1, val p.2, y⟩ : MapEntry) ∈ leftOf (ents key val es bs).toArray seen := by
            unfold leftOf
            rw [Array.mem_filter]
            exact ⟨by simpa using List.mem_of_getElem? hent, by simp only [hsn]; rfl⟩
          have := Array.size_pos_of_mem hm
          omega
        · rfl
      have hput := holds_put hL hSR hal hR i hi (w' := w) (B := mapit key val (some b) it es done none) fun T' hT' hA => ⟨⟨hA.1, hA.2.imp (fun h => ⟨h.1, h.2.1, rfl, h.2.2.2⟩) fun ⟨b, bs, c, s, sn, l, h1, h2, h3, h4, h5, h6, h7, h8, h9, _⟩ => ⟨b, bs, c, s, sn, l, h1, h2, h3, h4, h5, h6, h7, h8, h9, fun k hk => by cases hk⟩⟩, Evo.refl _ _⟩
      refine ⟨.tuple #[.bool false], w, _, S, ?_, .inl ⟨rfl, hall, rfl⟩, hput.2, hput.1, hal, fun _ _ x => .inl x⟩
      simp [execOp, ho, hs.ev hx, hrun]
    · have he' : e ∈ (ents key val es bs) ∧ seen.contains e.born = false := by
        unfold leftOf at he
        simp only [Array.toList_filter, List.mem_filter, Bool.not_eq_true'] at he
        exact ⟨by simpa using he.1, he.2⟩
      obtain ⟨j, hj⟩ := List.getElem?_of_mem he'.1
      obtain ⟨p, y, hp, hy, rfl⟩ := ents_get' hj
      have hnd : p.1 ∉ done := fun hm => by have := (hdone j p y hp hy).2 hm; rw [he'.2] at this; cases this
      have hw1h : w1.heap = w.heap := by rcases hw1 with rfl | rfl <;> rfl
      have hit1 : w1.heap[it]? = some (.mapIter (some b) since seen last) := by rw [hw1h]; exact hit
      have hbup : bs.Nodup := hwf.up.imp fun h => by omega
      have hput := holds_put hL hSR hal hR i hi (w' := ChangeMaps.setBlock w1 it (.mapIter (some b) since (seen.push y) clock)) (B := mapit key val (some b) it es (p.1 :: done) (some p.1)) fun T' hT' hA => by
        rcases hA with ⟨hSi2, ⟨h1, _⟩ | ⟨b2, bs2, c2, s2, sn2, l2, h1, hne2, hS2, hb2, _⟩⟩
        · cases h1
        injection h1 with h1
        subst h1
        refine ⟨⟨hSi2, .inr ⟨b, bs, clock, since, seen.push y, clock, rfl, hne, hS2, ?_, hwf, ?_, hold, ?_, ?_, ?_⟩⟩, ?_⟩
        · show (w1.heap.setIfInBounds it _)[b]? = _
          rw [Array.getElem?_setIfInBounds_ne (Ne.symm hne), hw1h]; exact hb
        · exact (MapKept.heap_set hit1).1
        · exact ⟨hsl.2, hsl.2⟩
        · intro i' p' x' hp' hx'
          rw [Array.contains_push]
          by_cases hii : i' = j
          · subst hii
            rw [hp] at hp'; injection hp' with hp'; subst hp'
            rw [hy] at hx'; injection hx' with hx'; subst hx'
            simp
          · have hxy : x' ≠ y := fun e => by subst e; exact hii (nodup_ix hbup hx' hy)
            have hpp : p'.1 ≠ p.1 := fun e => hii (nodup_ix hwf.nodup (x := p.1) (by rw [List.getElem?_map, hp', ← e]; rfl) (by rw [List.getElem?_map, hp]; rfl))
            have := hdone i' p' x' hp' hx'
            simp only [List.mem_cons, hpp, false_or, ← this]
            simp [hxy]
        · intro k hk
          injection hk with hk
          subst hk
          refine ⟨rfl, fun i' p' x' hp' hx' e => ?_⟩
          have hii : i' = j := nodup_ix hwf.nodup (x := p.1) (by rw [List.getElem?_map, hp', ← e]; rfl) (by rw [List.getElem?_map, hp]; rfl)
          subst hii
          rw [hy] at hx'; injection hx' with hx'; subst hx'
          exact ⟨seen, rfl⟩
        · have e1 : Evo T' w w1 := by rcases hw1 with rfl | rfl; exact Evo.refl _ _; exact Evo.drew _ _
          exact e1.trans (Evo.setObj w1 it _ hSi2) fun _ _ x => .inl x
      refine ⟨_, _, _, S, ?_, .inr ⟨p, List.mem_of_getElem? hp, hnd, rfl, rfl⟩, hput.2, hput.1, ?_, fun _ _ x => .inl x⟩
      · simp [execOp, ho, hs.ev hx, hrun]
      · intro b o y
        show b < (w1.heap.setIfInBounds it _).size
        rw [Array.size_setIfInBounds, hw1h]; exact hal b o y
theorem G.mentry (i : Nat) {it : Nat} {done : List K} {p : K × V} (hi : L[i]? = some (mapit key val A it es done (some p.1))) (hp : p ∈ es) (ho : o.op = .entry x) (hx : ev sl x = some (.pointer (some ⟨it, 0, none⟩))) : Gets P o sl L (.tuple #[key p.1, val p.2]) := by
  intro a w S R hs hL
  obtain ⟨S1, _, _, _, _, hc, _⟩ := stars_take L i _ hi w S R hL
  rcases hc with ⟨_, ⟨_, _, h1, _⟩ | ⟨b, bs, clock, since, seen, last, rfl, hne, hS, hb, hwf, hit, _, _, _, hcur⟩⟩
  · cases h1
  obtain ⟨rfl, hc⟩ := hcur p.1 rfl
  obtain ⟨j, hj⟩ := List.getElem?_of_mem hp
  obtain ⟨y, hy, hent⟩ := ents_get (key := key) (ev := val) hwf.len hj
  obtain ⟨s, rfl⟩ := hc j p y hj hy rfl
  have hbup : bs.Nodup := hwf.up.imp fun h => by omega
  have := run_entry_at (P := P) w it b since s _ last ⟨key p.1, val p.2, y⟩ hit hb (by simpa using List.mem_of_getElem? hent) (by simpa [ents_born hwf.len] using hbup)
  simp [execOp, ho, hs.ev hx, this]
/-- A key goes while the map is gone over. -/
theorem Acts.mdelit [hk : KeyOk P kt key] (i : Nat) {it : Nat} {done : List K} {cur : Option K} (hi : L[i]? = some (mapit key val A it es done cur)) (ho : o.op = .call { callee := .builtin .delete, args := #[x, y], argTypes := #[mt, kt] }) (hx : ev sl x = some (.map A)) (hy : ev sl y = some (key k))
    (hu : P.underlying mt = some (.map kt et)) : Acts P o sl L (fun v L' => v = .tuple #[] ∧ L' = L.set i (mapit key val A it (delM k es) done none)) := by
  intro a w S R hs hL hal hR hSR
  obtain ⟨S1, S2, hs1, _, _, hc, _⟩ := stars_take L i _ hi w S R hL
  rcases hc with ⟨hSi, ⟨rfl, rfl, rfl, hit⟩ | ⟨b, bs, clock, since, seen, last, rfl, hne, hS, hb, hwf, hit, hold, hsl, hdone, hcur⟩⟩
  · have hset : L.set i (mapit key val none it (delM k []) done none) = L := by obtain ⟨h1, h2⟩ := List.getElem?_eq_some_iff.1 hi; rw [show delM k ([] : List (K × V)) = [] from rfl, ← h2]; exact List.set_getElem_self h1
    refine ⟨.tuple #[], w, L, S, ?_, ⟨rfl, hset.symm⟩, Evo.refl _ _, hL, hal, fun _ _ x => .inl x⟩
    simp [execOp, ho, resolve, invoke, builtin, hs.ev hx, hs.ev hy, Builtin.delete_, run_underlying hu, hk.check]
  · obtain ⟨bs', hrun, hwf', j, hbs', hes'⟩ := delete_run (P := P) (et := et) (ty := o.type) hu hb hwf k
    have hput := holds_put hL hSR hal hR i hi (w' := { w with heap := w.heap.setIfInBounds b (.map (ents key val (delM k es) bs').toArray clock) }) (B := mapit key val (some b) it (delM k es) done none) fun T' hT' hA => by
      rcases hA with ⟨hSi2, ⟨h1, _⟩ | ⟨b2, bs2, c2, s2, sn2, l2, h1, hne2, hS2, hb2, _⟩⟩
      · cases h1
      injection h1 with h1
      subst h1
      refine ⟨⟨hSi2, .inr ⟨b, bs', clock, since, seen, last, rfl, hne, hS2, (MapKept.heap_set hb).1, hwf', ?_, ?_, hsl, ?_, fun k hk => by cases hk⟩⟩, Evo.setObj w b _ hS2⟩
      · show (w.heap.setIfInBounds b _)[it]? = _
        rw [Array.getElem?_setIfInBounds_ne hne]; exact hit
      · intro x hx
        rw [hbs'] at hx
        exact hold x (List.mem_of_mem_eraseIdx hx)
      · intro i' p' x' hp' hx'
        rw [hes', List.getElem?_eraseIdx] at hp'
        rw [hbs', List.getElem?_eraseIdx] at hx'
        split at hp'
        · rename_i hlt; rw [if_pos hlt] at hx'; exact hdone i' p' x' hp' hx'
        · rename_i hlt; rw [if_neg hlt] at hx'; exact hdone (i' + 1) p' x' hp' hx'
    refine ⟨.tuple #[], _, _, S, ?_, ⟨rfl, rfl⟩, hput.2, hput.1, by simpa using hal, fun _ _ x => .inl x⟩
    simp [execOp, ho, resolve, invoke, builtin, hs.ev hx, hs.ev hy, hrun]
end
end Go.Tr
namespace Go.Tr
section
variable {P : Program}
theorem findNow_int {k : IntKind} (x : Int) : ∀ (es : List MapEntry) (ks : List Int) (n : Nat), es.map (·.key) = ks.map (Value.int k) →
    Instr.findNow (.int k) (.int k x) es n = some ((ix x ks).bind fun i => es[i]?.map fun e => (i + n, e.val))
  | [], [], n, h => rfl
  | e :: es, y :: ks, n, h => by
    simp only [List.map_cons, List.cons.injEq] at h
    have ih := findNow_int x es ks (n + 1) h.2
    simp only [Instr.findNow, h.1, Instr.sameNow, if_true, ix]
    by_cases hxy : y = x
    · subst hxy; simp
    · have hb : (x == y) = false := by simp; exact fun e => hxy e.symm
      rw [hb, if_neg hxy]
      simp only [ih]
      cases hi : ix x ks with
      | none => simp
      | some i => simp [Nat.add_assoc, Nat.add_comm 1 n]
  | [], y :: ks, n, h => by simp at h
  | e :: es, [], n, h => by simp at h
theorem KeyOk.int {kt : TypeId} {k : IntKind} (hu : P.underlying kt = some (.int k)) : KeyOk P kt (K := Int) (Value.int k) where
  check em x w := by unfold Instr.checkKey; simp [run_underlying hu]
  find x es ks w h := by
    have := findNow_int (k := k) x es ks 0 h
    simp [Instr.findKey, run_underlying hu, this]
  bits x := by simp [Instr.sameBits]
/-- Keys that are compared by asking. -/
theorem findAsking_of {K : Type} [DecidableEq K] {key : K → Value} {kt : TypeId} (heq : ∀ x y w, (Op.equal kt (key x) (key y)).run P w = .ok (decide (x = y)) w) (x : K) (w : World) : ∀ (es : List MapEntry) (ks : List K) (n : Nat), es.map (·.key) = ks.map key →
    (Instr.findAsking kt (key x) es n).run P w = .ok ((ix x ks).bind fun i => es[i]?.map fun e => (i + n, e.val)) w
  | [], [], n, h => rfl
  | e :: es, y :: ks, n, h => by
    simp only [List.map_cons, List.cons.injEq] at h
    have ih := findAsking_of heq x w es ks (n + 1) h.2
    simp only [Instr.findAsking, h.1, Sem.run_bind, heq, Result.andThen_ok, ix]
    by_cases hxy : y = x
    · subst hxy; simp
    · have hb : ¬ x = y := fun e => hxy e.symm
      rw [if_neg hxy]
      simp only [hb, decide_false, Bool.false_eq_true, if_false, ih]
      cases hi : ix x ks with
      | none => simp
      | some i => simp [Nat.add_assoc, Nat.add_comm 1 n]
  | [], y :: ks, n, h => by simp at h
  | e :: es, [], n, h => by simp at h
theorem eqfs2 {T : TypeId} {f1 f2 : Field} {k1 k2 j1 j2 : IntKind} {a1 a2 b1 b2 : Int} (hs : P.stoodInHeld T = false) (hu : P.underlying T = some (.struct #[f1, f2]))
    (o1 : f1.offset = 0) (o2 : f2.offset = 1) (n1 : (f1.name == "_") = false) (n2 : (f2.name == "_") = false)
    (u1 : P.underlying f1.type = some (.int j1)) (u2 : P.underlying f2.type = some (.int j2))
    (g1 : ∀ w, (isAgg f1.type).run P w = .ok false w) (g2 : ∀ w, (isAgg f2.type).run P w = .ok false w)
    (z1 : ∀ w, (sizeOf f1.type).run P w = .ok 1 w) (z2 : ∀ w, (sizeOf f2.type).run P w = .ok 1 w) (d : Nat) (w : World) :
    (Op.equalIn (d + 2) T (.agg #[.int k1 a1, .int k2 a2]) (.agg #[.int k1 b1, .int k2 b2])).run P w = .ok (decide (a1 = b1 ∧ a2 = b2)) w := by
  have hf : P.fieldsOf T = #[f1, f2] := by simp [Program.fieldsOf, hu]
  rw [run_equalIn_struct (P := P) w (d + 1) T _ _ (by rw [hf]; exact hu) hs, hf]
  have m1 : f1.name ≠ "_" := by simpa using n1
  have m2 : f2.name ≠ "_" := by simpa using n2
  simp only [Op.eqFields, if_pos m1, if_pos m2, o1, o2, Sem.run_bind]
  rw [part_int g1 z1 (v := .int k1 a1) rfl]
  simp only [Result.andThen_ok]
  rw [part_int g1 z1 (v := .int k1 b1) rfl]
  simp only [Result.andThen_ok, run_equalIn_int w d _ k1 j1 a1 b1 u1]
  by_cases e1 : a1 = b1
  · simp only [e1, beq_self_eq_true, Bool.not_true, Bool.false_eq_true, if_false, Sem.run_bind, true_and]
    rw [part_int g2 z2 (v := .int k2 a2) rfl]
    simp only [Result.andThen_ok]
    rw [part_int g2 z2 (v := .int k2 b2) rfl]
    simp only [Result.andThen_ok, run_equalIn_int w d _ k2 j2 a2 b2 u2]
    by_cases e2 : a2 = b2 <;> simp [e2]
  · simp [e1]
theorem check_int {kt : TypeId} {k j : IntKind} (hu : P.underlying kt = some (.int k)) (em : Bool) (n : Nat) (x : Int) (w : World) : (Instr.checkKey em (n + 1) kt (.int j x)).run P w = .ok () w := by
  unfold Instr.checkKey; simp [run_underlying hu]
/-- Keys that are structs of two numbers. -/
theorem KeyOk.two {T : TypeId} {f1 f2 : Field} {k1 k2 j1 j2 : IntKind} (hs : P.stoodInHeld T = false) (hu : P.underlying T = some (.struct #[f1, f2]))
    (o1 : f1.offset = 0) (o2 : f2.offset = 1) (n1 : (f1.name == "_") = false) (n2 : (f2.name == "_") = false)
    (u1 : P.underlying f1.type = some (.int j1)) (u2 : P.underlying f2.type = some (.int j2))
    (g1 : ∀ w, (isAgg f1.type).run P w = .ok false w) (g2 : ∀ w, (isAgg f2.type).run P w = .ok false w)
    (z1 : ∀ w, (sizeOf f1.type).run P w = .ok 1 w) (z2 : ∀ w, (sizeOf f2.type).run P w = .ok 1 w) : KeyOk P T (K := Int × Int) (fun p => .agg #[.int k1 p.1, .int k2 p.2]) where
  check em x w := by
    have m1 : f1.name ≠ "_" := by simpa using n1
    have m2 : f2.name ≠ "_" := by simpa using n2
    have c1 := check_int (P := P) (j := k1) u1 em 9998 x.1 w
    have c2 := check_int (P := P) (j := k2) u2 em 9998 x.2 w
    have p1 := part_int (w := w) g1 z1 (v := .int k1 x.1) (off := f1.offset) (xs := #[.int k1 x.1, .int k2 x.2]) (by rw [o1]; rfl)
    have p2 := part_int (w := w) g2 z2 (v := .int k2 x.2) (off := f2.offset) (xs := #[.int k1 x.1, .int k2 x.2]) (by rw [o2]; rfl)
    unfold Instr.checkKey
    simp [run_underlying hu, m1, m2, p1, p2, c1, c2]
  find x es ks w h := by
    have heq : ∀ (x y : Int × Int) w, (Op.equal T (.agg #[.int k1 x.1, .int k2 x.2]) (.agg #[.int k1 y.1, .int k2 y.2])).run P w = .ok (decide (x = y)) w := fun x y w => by
      rw [show Op.equal T (.agg #[.int k1 x.1, .int k2 x.2]) (.agg #[.int k1 y.1, .int k2 y.2]) = Op.equalIn (9998 + 2) T _ _ from rfl, eqfs2 hs hu o1 o2 n1 n2 u1 u2 g1 g2 z1 z2 9998 w]
      congr 1
      rw [decide_eq_decide]
      exact ⟨fun ⟨h1, h2⟩ => Prod.ext h1 h2, fun e => by subst e; exact ⟨rfl, rfl⟩⟩
    have := findAsking_of (P := P) (key := fun (p : Int × Int) => Value.agg #[.int k1 p.1, .int k2 p.2]) heq x w es ks 0 h
    rw [run_findKey_eq w (by simp [hu])]
    exact this
  bits x := by simp [Instr.sameBits]
end
end Go.Tr
namespace Go.Tr
section
variable {P : Program} {w0 : World} {S0 R : Fp} {N : Nat} {sl : List (Nat × Value)} {L : List Assn} {a : Act} {w : World}
variable {ops : Array Oper} {Q : Exit → Act → World → Prop} {rest : List Oper} {o : Oper} {d : Nat} {v : Value}
variable {K V : Type} [DecidableEq K] {key : K → Value} {val : V → Value} {kt et mt : TypeId} {A : Option Nat} {es : List (K × V)} {k : K} {x y z : Operand} {zv : Value}
theorem St.mkmap (h : St w0 S0 R N sl L a w) (key : K → Value) (val : V → Value) (ho : o.op = .makeMap mt none) (hg : o.guard = none) (hd : o.dst = some d) (hN : Nat.blt d N = true)
    (k : ∀ b a' w', St w0 S0 R N ((d, .map (some b)) :: sl) (mapl key val (some b) [] :: L) a' w' → wpList P ops Q rest a' w') : wpList P ops Q (o :: rest) a w :=
  h.act hg hd hN (Acts.mkmap key val ho) fun v L' a' w' hp h => by obtain ⟨b, rfl, rfl⟩ := hp; exact k b a' w' h
theorem St.mput [hk : KeyOk P kt key] (h : St w0 S0 R N sl L a w) (i : Nat) {b : Nat} {u : V} (hi : L[i]? = some (mapl key val (some b) es)) (ho : o.op = .mapUpdate mt x y z) (hx : ev sl x = some (.map (some b))) (hy : ev sl y = some (key k)) (hz : ev sl z = some (val u))
    (hu : P.underlying mt = some (.map kt et)) (hg : o.guard = none) (hd : o.dst = none) (kk : ∀ a' w', St w0 S0 R N sl (L.set i (mapl key val (some b) (putM k u es))) a' w' → wpList P ops Q rest a' w') : wpList P ops Q (o :: rest) a w :=
  h.put hg hd (U.mput i hi ho hx hy hz hu) kk
theorem St.mdel [hk : KeyOk P kt key] (h : St w0 S0 R N sl L a w) (i : Nat) (hi : L[i]? = some (mapl key val A es)) (ho : o.op = .call { callee := .builtin .delete, args := #[x, y], argTypes := #[mt, kt] }) (hx : ev sl x = some (.map A)) (hy : ev sl y = some (key k))
    (hu : P.underlying mt = some (.map kt et)) (hg : o.guard = none) (hd : o.dst = none) (kk : ∀ a' w', St w0 S0 R N sl (L.set i (mapl key val A (delM k es))) a' w' → wpList P ops Q rest a' w') : wpList P ops Q (o :: rest) a w :=
  h.act0 hg hd (Acts.mdel i hi ho hx hy hu) fun v L' a' w' hp h => by obtain ⟨rfl, rfl⟩ := hp; exact kk a' w' h
theorem St.mdelit [hk : KeyOk P kt key] (h : St w0 S0 R N sl L a w) (i : Nat) {it : Nat} {done : List K} {cur : Option K} (hi : L[i]? = some (mapit key val A it es done cur)) (ho : o.op = .call { callee := .builtin .delete, args := #[x, y], argTypes := #[mt, kt] }) (hx : ev sl x = some (.map A)) (hy : ev sl y = some (key k))
    (hu : P.underlying mt = some (.map kt et)) (hg : o.guard = none) (hd : o.dst = none) (kk : ∀ a' w', St w0 S0 R N sl (L.set i (mapit key val A it (delM k es) done none)) a' w' → wpList P ops Q rest a' w') : wpList P ops Q (o :: rest) a w :=
  h.act0 hg hd (Acts.mdelit i hi ho hx hy hu) fun v L' a' w' hp h => by obtain ⟨rfl, rfl⟩ := hp; exact kk a' w' h
theorem St.mputK [hk : KeyOk P kt key] {KK : Act → World → Prop} (h : St w0 S0 R N sl L a w) (i : Nat) {b : Nat} {u : V} (hi : L[i]? = some (mapl key val (some b) es)) (ho : o.op = .mapUpdate mt x y z) (hx : ev sl x = some (.map (some b))) (hy : ev sl y = some (key k)) (hz : ev sl z = some (val u))
    (hu : P.underlying mt = some (.map kt et)) (hd : o.dst = none) (kk : ∀ a' w', St w0 S0 R N sl (L.set i (mapl key val (some b) (putM k u es))) a' w' → KK a' w') : o.wp P a w KK Q :=
  h.putK hd (U.mput i hi ho hx hy hz hu) kk
theorem St.mdelK [hk : KeyOk P kt key] {KK : Act → World → Prop} (h : St w0 S0 R N sl L a w) (i : Nat) (hi : L[i]? = some (mapl key val A es)) (ho : o.op = .call { callee := .builtin .delete, args := #[x, y], argTypes := #[mt, kt] }) (hx : ev sl x = some (.map A)) (hy : ev sl y = some (key k))
    (hu : P.underlying mt = some (.map kt et)) (hd : o.dst = none) (kk : ∀ a' w', St w0 S0 R N sl (L.set i (mapl key val A (delM k es))) a' w' → KK a' w') : o.wp P a w KK Q :=
  h.act0K hd (Acts.mdel i hi ho hx hy hu) fun v L' a' w' hp h => by obtain ⟨rfl, rfl⟩ := hp; exact kk a' w' h
theorem St.mdelitK [hk : KeyOk P kt key] {KK : Act → World → Prop} (h : St w0 S0 R N sl L a w) (i : Nat) {it : Nat} {done : List K} {cur : Option K} (hi : L[i]? = some (mapit key val A it es done cur)) (ho : o.op = .call { callee := .builtin .delete, args := #[x, y], argTypes := #[mt, kt] }) (hx : ev sl x = some (.map A)) (hy : ev sl y = some (key k))
    (hu : P.underlying mt = some (.map kt et)) (hd : o.dst = none) (kk : ∀ a' w', St w0 S0 R N sl (L.set i (mapit key val A it (delM k es) done none)) a' w' → KK a' w') : o.wp P a w KK Q :=
  h.act0K hd (Acts.mdelit i hi ho hx hy hu) fun v L' a' w' hp h => by obtain ⟨rfl, rfl⟩ := hp; exact kk a' w' h
theorem St.mrange (h : St w0 S0 R N sl L a w) (i : Nat) (hi : L[i]? = some (mapl key val A es)) (ho : o.op = .range mt x) (hx : ev sl x = some (.map A)) (hu : P.underlying mt = some (.map kt et)) (hg : o.guard = none) (hd : o.dst = some d) (hN : Nat.blt d N = true)
    (kk : ∀ it a' w', St w0 S0 R N ((d, .pointer (some ⟨it, 0, none⟩)) :: sl) (mapit key val A it es [] none :: L.eraseIdx i) a' w' → wpList P ops Q rest a' w') : wpList P ops Q (o :: rest) a w :=
  h.act hg hd hN (Acts.mrange i hi ho hx hu) fun v L' a' w' hp h => by obtain ⟨it, rfl, rfl⟩ := hp; exact kk it a' w' h
theorem St.mnext (h : St w0 S0 R N sl L a w) (i : Nat) {it : Nat} {done : List K} {cur : Option K} (hi : L[i]? = some (mapit key val A it es done cur)) (ho : o.op = .next x false) (hx : ev sl x = some (.pointer (some ⟨it, 0, none⟩))) (hg : o.guard = none) (hd : o.dst = some d) (hN : Nat.blt d N = true)
    (kF : (∀ p, p ∈ es → p.1 ∈ done) → ∀ a' w', St w0 S0 R N ((d, .tuple #[.bool false]) :: sl) (L.set i (mapit key val A it es done none)) a' w' → wpList P ops Q rest a' w')
    (kT : ∀ p, p ∈ es → p.1 ∉ done → ∀ a' w', St w0 S0 R N ((d, .tuple #[.bool true, key p.1, val p.2]) :: sl) (L.set i (mapit key val A it es (p.1 :: done) (some p.1))) a' w' → wpList P ops Q rest a' w') : wpList P ops Q (o :: rest) a w :=
  h.act hg hd hN (Acts.mnext i hi ho hx) fun v L' a' w' hp h => by
    rcases hp with ⟨rfl, hall, rfl⟩ | ⟨p, hp, hnd, rfl, rfl⟩
    · exact kF hall a' w' h
    · exact kT p hp hnd a' w' h
/-! ### Arrays in memory, at an index that is not written out -/
theorem G.idxa1 {T e : TypeId} {b off n : Nat} {k : IntKind} {i : Int} (ho : o.op = .indexAddr T x y) (hx : ev sl x = some (.pointer (some ⟨b, off, none⟩))) (hy : ev sl y = some (.int k i)) (h0 : 0 ≤ i) (h1 : i < n)
    (hu : P.underlying T = some (.array n e)) (hz : ∀ w, (sizeOf e).run P w = .ok 1 w) : Gets P o sl L (.pointer (some ⟨b, off + i.toNat, none⟩)) := by
  have := G.idxa (P := P) (sl := sl) (L := L) ho hx hy h0 h1 hu hz
  rwa [Nat.mul_one] at this
theorem G.lds (i : Nat) {b off off' n : Nat} {vs : List Value} {T : TypeId} (hi : L[i]? = some (cells b off vs)) (hj : vs[n]? = some v) (ho : o.op = .load T x) (hx : ev sl x = some (.pointer (some ⟨b, off', none⟩))) (hoff : off' = off + n)
    (ht : ∀ w, (isAgg T).run P w = .ok false w) : Gets P o sl L v := G.ld i n hi hj ho hx hoff ht
theorem U.sts (i : Nat) {b off off' n : Nat} {vs : List Value} {T : TypeId} {x y : Operand} (hi : L[i]? = some (cells b off vs)) (ho : o.op = .store T x y) (hx : ev sl x = some (.pointer (some ⟨b, off', none⟩))) (hy : ev sl y = some v) (hoff : off' = off + n)
    (hj : n < vs.length) (h1 : v.oneCell' = true) (hz : ∀ w, (sizeOf T).run P w = .ok 1 w) : Puts P o sl L (L.set i (cells b off (vs.set n v))) :=
  U.st i n hi ho hx hy hoff (Nat.ble_eq_true_of_le hj) h1 hz
/-- A part of cells, apart. -/
theorem cells_split (b off : Nat) (us vs : List Value) : Ent (cells b off (us ++ vs)) (stars [cells b off us, cells b (off + us.length) vs]) := by
  intro w S R h
  refine ⟨fun b' o' => b' = b ∧ S b' o' ∧ o' < off + us.length, fun b' o' => b' = b ∧ S b' o' ∧ off + us.length ≤ o', fun _ _ x => x.2.1, fun _ _ x => x.2.1, fun _ _ x y => by have := x.2.2; have := y.2.2; omega, ?_, ?_⟩
  · intro i v hv
    have hlt := (List.getElem?_eq_some_iff.1 hv).1
    obtain ⟨h1, h2⟩ := h i v (by rw [List.getElem?_append_left hlt]; exact hv)
    exact ⟨⟨rfl, h1, by omega⟩, h2⟩
  · refine ⟨fun b' o' => b' = b ∧ S b' o' ∧ off + us.length ≤ o', fun _ _ => False, fun _ _ x => x, fun _ _ x => x.elim, fun _ _ _ x => x, ?_, trivial⟩
    intro i v hv
    obtain ⟨h1, h2⟩ := h (us.length + i) v (by rw [List.getElem?_append_right (by omega), Nat.add_sub_cancel_left]; exact hv)
    rw [← Nat.add_assoc] at h1 h2
    exact ⟨⟨rfl, h1, by omega⟩, h2⟩
end
end Go.Tr
namespace Go.Tr
section
variable {K V : Type} [DecidableEq K]
/-- How many keys have not come. -/
def left : List (K × V) → List K → Nat
  | [], _ => 0
  | p :: l, done => (if p.1 ∈ done then 0 else 1) + left l done
theorem left_le (x : K) (done : List K) : ∀ l : List (K × V), left l (x :: done) ≤ left l done
  | [] => Nat.le_refl _
  | p :: l => by
    have ih := left_le x done l
    simp only [left, List.mem_cons]
    by_cases h1 : p.1 ∈ done
    · simp [h1]; exact ih
    · by_cases h2 : p.1 = x
      · simp [h2]; omega
      · simp [h1, h2]; exact ih
theorem left_lt {done : List K} {p : K × V} (hd : p.1 ∉ done) : ∀ {es : List (K × V)}, p ∈ es → left es (p.1 :: done) < left es done
  | [], hp => by simp at hp
  | q :: l, hp => by
    simp only [left, List.mem_cons]
    rcases List.mem_cons.1 hp with rfl | hp
    · have := left_le p.1 done l
      simp [hd]; omega
    · have ih := left_lt hd hp
      by_cases h1 : q.1 ∈ done
      · simp [h1]; exact ih
      · by_cases h2 : q.1 = p.1
        · have := left_le p.1 done l
          simp only [h2, true_or, if_true, h1, if_false]; rw [if_neg (by rw [← h2]; exact h1)]; omega
        · simp [h1, h2]; exact ih
theorem left_del (k : K) (done : List K) : ∀ es : List (K × V), left (delM k es) done ≤ left es done
  | [] => Nat.le_refl _
  | q :: l => by
    have ih := left_del k done l
    simp only [delM]
    split
    · simp only [left]; omega
    · simp only [left]; omega
theorem getM_mem {k : K} {v : V} : ∀ {es : List (K × V)}, getM k es = some v → (k, v) ∈ es
  | [], h => by simp [getM] at h
  | p :: l, h => by
    simp only [getM] at h
    split at h
    · rename_i e; injection h with h; subst h; subst e; simp
    · exact List.mem_cons_of_mem _ (getM_mem h)
theorem getM_none {k : K} : ∀ {es : List (K × V)}, getM k es = none → ∀ p ∈ es, p.1 ≠ k
  | [], _, p, hp => by simp at hp
  | q :: l, h, p, hp => by
    simp only [getM] at h
    split at h
    · cases h
    · rename_i hne
      rcases List.mem_cons.1 hp with rfl | hp
      · exact hne
      · exact getM_none h p hp
theorem getM_of_mem {k : K} {v : V} : ∀ {es : List (K × V)}, (es.map Prod.fst).Nodup → (k, v) ∈ es → getM k es = some v
  | [], _, h => by simp at h
  | p :: l, hn, h => by
    simp only [List.map_cons, List.nodup_cons] at hn
    simp only [getM]
    rcases List.mem_cons.1 h with rfl | h
    · simp
    · have hne : p.1 ≠ k := fun e => hn.1 (by rw [e]; exact List.mem_map_of_mem (f := Prod.fst) h)
      rw [if_neg hne]
      exact getM_of_mem hn.2 h
theorem delM_filter {k : K} : ∀ {es : List (K × V)}, (es.map Prod.fst).Nodup → delM k es = es.filter fun p => !decide (p.1 = k)
  | [], _ => rfl
  | p :: l, hn => by
    simp only [List.map_cons, List.nodup_cons] at hn
    simp only [delM, List.filter_cons]
    by_cases h : p.1 = k
    · simp only [h, if_true, decide_true, Bool.not_true, Bool.false_eq_true, if_false]
      symm
      rw [List.filter_eq_self]
      intro q hq
      have : q.1 ≠ k := fun e => hn.1 (by rw [h, ← e]; exact List.mem_map_of_mem (f := Prod.fst) hq)
      simp [this]
    · simp [h, delM_filter hn.2]
theorem delM_nodup {k : K} {es : List (K × V)} (hn : (es.map Prod.fst).Nodup) : ((delM k es).map Prod.fst).Nodup := by
  rw [delM_filter hn]
  exact hn.sublist (List.filter_sublist.map _)
theorem getM_put {k x : K} {v : V} : ∀ {es : List (K × V)}, getM x (putM k v es) = if k = x then some v else getM x es
  | [] => by simp [putM, getM]
  | p :: l => by
    simp only [putM]
    split
    · rename_i h
      subst h
      simp only [getM]
      by_cases h2 : p.1 = x <;> simp [h2]
    · rename_i h
      simp only [getM]
      by_cases h2 : p.1 = x
      · simp [h2, show k ≠ x from fun e => h (h2.trans e.symm)]
      · simp [h2, getM_put (es := l)]
theorem putM_length {k : K} {v : V} : ∀ {es : List (K × V)}, (putM k v es).length = if (getM k es).isNone then es.length + 1 else es.length
  | [] => by simp [putM, getM]
  | p :: l => by
    simp only [putM, getM]
    by_cases h : p.1 = k
    · simp [h]
    · simp only [h, if_false, List.length_cons, putM_length (es := l)]
      split <;> rfl
end
end Go.Tr
namespace Go.Tr
section
variable {P : Program} {sl : List (Nat × Value)} {L : List Assn} {o : Oper} {v : Value} {K : Type} [DecidableEq K] {key : K → Value} {kt et mt : TypeId} {A : Option Nat} {es : List (K × Bool)} {k : K} {x y : Operand}
/-- Sets: what is not there is false. -/
theorem G.lookB [hk : KeyOk P kt key] (i : Nat) (hi : L[i]? = some (mapl key Value.bool A es)) (ho : o.op = .lookup mt x y false) (hx : ev sl x = some (.map A)) (hy : ev sl y = some (key k))
    (hu : P.underlying mt = some (.map kt et)) (hz : ∀ w, (zeroValue et).run P w = .ok (.bool false) w) : Gets P o sl L (.bool ((getM k es).getD false)) := by
  cases hg : getM k es with
  | none => exact G.lookN i hg hi ho hx hy hu hz
  | some u => exact G.lookS i hg hi ho hx hy hu hz
theorem G.lookBk [hk : KeyOk P kt key] (i : Nat) (hi : L[i]? = some (mapl key Value.bool A es)) (ho : o.op = .lookup mt x y true) (hx : ev sl x = some (.map A)) (hy : ev sl y = some (key k))
    (hu : P.underlying mt = some (.map kt et)) (hz : ∀ w, (zeroValue et).run P w = .ok (.bool false) w) : Gets P o sl L (.tuple #[.bool ((getM k es).getD false), .bool (getM k es).isSome]) := by
  cases hg : getM k es with
  | none => exact G.lookNk i hg hi ho hx hy hu hz
  | some u => exact G.lookSk i hg hi ho hx hy hu hz
end
end Go.Tr
