/-
  How data that came in are read: from the reading to the assertions; from a contract to a statement's own words.
-/
import Derived.Test.YtllhegccpknncaaSlh
import Derived.ProofKit
import Derived.OpenShut
import Derived.ChangeOld
import Derived.Deep.Slices
set_option linter.unusedVariables false
set_option linter.unusedSimpArgs false
set_option linter.unusedSectionVars false
namespace Go.Tr

/-- What lies in these cells can be read as data of a type. -/
def ReadAs (P : Program) (w : World) (t : TypeId) (cs : List Value) : Prop :=
  ∃ (H : Type) (enc : TypeId × Value → H) (base : Nat) (spare : Nat → Bool) (fuel : Nat) (x : DataW H × List MemPlace), DataW.trod enc P w base spare true fuel t cs = some x
section
variable {P : Program} {w : World} {t e : TypeId} {cs : List Value}
theorem ReadAs.of {H : Type} {enc : TypeId × Value → H} {base : Nat} {spare : Nat → Bool} {v : Value} {d : DataW H} {ps : List MemPlace} (h : DataW.Trod enc P w base spare true t v d ps) : ReadAs P w t v.cells.toList :=
  let ⟨fuel, hf⟩ := h; ⟨H, enc, base, spare, fuel, _, hf⟩
theorem ReadAs.int {k : IntKind} (ht : P.underlying t = some (.int k)) (h : ReadAs P w t cs) : ∃ n, cs = [.int k n] ∧ k.min ≤ n ∧ n ≤ k.max := by
  obtain ⟨H, enc, base, spare, fuel, x, hf⟩ := h
  obtain ⟨n, h1, _, h2⟩ := DataW.trod_int ht hf
  simp only [Lit.wf, Bool.and_eq_true, decide_eq_true_eq] at h2
  exact ⟨n, h1, h2⟩
theorem ReadAs.bool (ht : P.underlying t = some .bool) (h : ReadAs P w t cs) : ∃ b, cs = [.bool b] := by
  obtain ⟨H, enc, base, spare, fuel, x, hf⟩ := h
  obtain ⟨n, h1, _⟩ := DataW.trod_bool ht hf
  exact ⟨n, h1⟩
theorem ReadAs.string (ht : P.underlying t = some .string) (h : ReadAs P w t cs) : ∃ s : ByteArray, cs = [.string s] ∧ s.size ≤ maxLen := by
  obtain ⟨H, enc, base, spare, fuel, x, hf⟩ := h
  obtain ⟨n, h1, _, h2⟩ := DataW.trod_string ht hf
  exact ⟨n, h1, h2⟩
theorem ReadAs.struct {fs : Array Field} (ht : P.underlying t = some (.struct fs)) (h : ReadAs P w t cs) :
    cs.length = P.cellsOf t ∧ ∀ (i : Nat) (f : Field), fs[i]? = some f → ReadAs P w f.type ((cs.drop f.offset).take (P.cellsOf f.type)) := by
  obtain ⟨H, enc, base, spare, fuel, x, hf⟩ := h
  obtain ⟨xs, n, _, _, h1, h2, h3⟩ := DataW.trod_struct ht hf
  refine ⟨h1, fun i f hi => ?_⟩
  have hlt : i < fs.size := (Array.getElem?_eq_some_iff.1 hi).1
  have := h3 i f hi
  rw [List.getElem?_eq_getElem (by omega)] at this
  exact ⟨H, enc, base, spare, n, _, this⟩
theorem ReadAs.slice (ht : P.underlying t = some (.slice e)) (hc : 0 < P.cellsOf e) (h : ReadAs P w t cs) :
    ∃ A n c, cs = [rlv A n c] ∧ n ≤ c ∧ c ≤ maxLen ∧ ∀ i, i < n → ∃ (b o : Nat) (cs' : List Value), A = some ⟨b, o, none⟩ ∧ cs'.length = P.cellsOf e ∧
      (∀ j v, cs'[j]? = some v → w.cell? ⟨b, o + i * P.cellsOf e + j, none⟩ = some v) ∧ ReadAs P w e cs' := by
  obtain ⟨H, enc, base, spare, fuel, x, hf⟩ := h
  rcases Deep.open_slice ht hf with ⟨rfl, _⟩ | ⟨a, len, cap, m, n, D, Pl, rfl, hb, hl, hm, hmm, _, hx⟩
  · exact ⟨none, 0, 0, rfl, by omega, by simp [maxLen], fun i hi => by omega⟩
  · refine ⟨some a, len, cap, rfl, hl, hm, fun i hi => ?_⟩
    have hlm : len ≤ m := by rw [hmm]; split <;> omega
    have hspot : a.spot = none := by
      obtain ⟨cs', h1, _⟩ := hx 0 (by omega)
      obtain ⟨_, hlen, hcell⟩ := World.cells?_some h1
      have h0 := hcell 0 hc
      rw [List.getElem?_eq_getElem (by omega)] at h0
      have := World.cell?_spot h0
      simpa [Addr.add] using this
    obtain ⟨b, o, s⟩ := a
    simp only at hspot
    subst hspot
    obtain ⟨cs', h1, h2⟩ := hx i (by omega)
    obtain ⟨_, hlen, hcell⟩ := World.cells?_some h1
    refine ⟨b, o, cs', rfl, hlen, fun j v hv => ?_, H, enc, base, spare, n, _, h2⟩
    have hj : j < cs'.length := (List.getElem?_eq_some_iff.1 hv).1
    have := hcell j (by omega)
    rw [addr_add, addr_add, hv] at this
    exact this
/-- A struct whose fields take a cell each. -/
theorem ReadAs.flat {fs : Array Field} (ht : P.underlying t = some (.struct fs)) (hn : P.cellsOf t = fs.size) (h1 : ∀ (i : Nat) (f : Field), fs[i]? = some f → f.offset = i ∧ P.cellsOf f.type = 1) (h : ReadAs P w t cs) :
    cs.length = fs.size ∧ ∀ (i : Nat) (f : Field) (v : Value), fs[i]? = some f → cs[i]? = some v → ReadAs P w f.type [v] := by
  obtain ⟨hl, hf⟩ := h.struct ht
  refine ⟨hl.trans hn, fun i f v hi hv => ?_⟩
  have := hf i f hi
  obtain ⟨h2, h3⟩ := h1 i f hi
  rw [h2, h3] at this
  have hlt : i < cs.length := (List.getElem?_eq_some_iff.1 hv).1
  have e : (cs.drop i).take 1 = [v] := by
    rw [List.drop_eq_getElem_cons hlt]
    have := (List.getElem?_eq_some_iff.1 hv).2
    simp [this]
  rwa [e] at this
def InMem (w : World) : Fp := fun b _ => b < w.heap.size
theorem cell_inMem {w : World} {b o : Nat} {v : Value} (h : w.cell? ⟨b, o, none⟩ = some v) : InMem w b o := by
  unfold InMem
  by_cases hlt : b < w.heap.size
  · exact hlt
  · simp [World.cell?, Array.getElem?_eq_none (Nat.le_of_not_lt hlt)] at h
/-- A slice of elements of a make that is known. -/
theorem ReadAs.rows {T : Type} [Inhabited T] (E : Enc T) (good : T → Prop) (ht : P.underlying t = some (.slice e)) (hc : P.cellsOf e = E.sz) (he : ∀ cs, ReadAs P w e cs → ∃ x, cs = E.val x ∧ good x) (h : ReadAs P w t cs) :
    ∃ A l c, cs = [rlv A l.length c] ∧ l.length ≤ c ∧ c ≤ maxLen ∧ (∀ x ∈ l, good x) ∧ (rdl E A l).holds w (fun _ _ => False) (InMem w) := by
  have hpos := E.pos
  obtain ⟨A, n, c, rfl, hn, hm, hx⟩ := h.slice ht (by omega)
  obtain ⟨f, hf⟩ := Deep.choose_lt (α := T) (n := n) (p := fun i x => good x ∧ ∃ b o, A = some ⟨b, o, none⟩ ∧ ∀ j v, (E.val x)[j]? = some v → w.cell? ⟨b, o + i * E.sz + j, none⟩ = some v) (fun i hi => by
    obtain ⟨b, o, cs', h1, _, h3, h4⟩ := hx i hi
    obtain ⟨x, rfl, hg⟩ := he cs' h4
    rw [hc] at h3
    exact ⟨x, hg, b, o, h1, h3⟩)
  have hl : ((List.range n).map f).length = n := by simp
  refine ⟨A, (List.range n).map f, c, by rw [hl], by rw [hl]; exact hn, hm, ?_, ?_⟩
  · intro x hx
    obtain ⟨i, hi, rfl⟩ := List.mem_map.1 hx
    exact (hf i (by simpa using hi)).1
  · refine ⟨by rw [hl]; simp only [maxLen] at hm; omega, fun hne => ?_⟩
    have hn0 : 0 < n := by
      rcases Nat.eq_zero_or_pos n with h0 | h0
      · subst h0; simp at hne
      · exact h0
    obtain ⟨_, b, o, hA, _⟩ := hf 0 hn0
    refine ⟨(b, o), hA, fun k v hk => ?_⟩
    have hklt : k < (E.flat ((List.range n).map f)).length := (List.getElem?_eq_some_iff.1 hk).1
    rw [E.flat_length, hl] at hklt
    have hki : k / E.sz < n := (Nat.div_lt_iff_lt_mul hpos).2 hklt
    have hkj : k % E.sz < E.sz := Nat.mod_lt _ hpos
    have hdm : k / E.sz * E.sz + k % E.sz = k := by rw [Nat.mul_comm]; exact Nat.div_add_mod k E.sz
    have hget := E.flat_get ((List.range n).map f) (k / E.sz) (k % E.sz) (f (k / E.sz)) (by simp [hki]) hkj
    rw [hdm, hk] at hget
    obtain ⟨_, b', o', hA', hcell⟩ := hf (k / E.sz) hki
    rw [hA] at hA'
    injection hA' with hA'
    injection hA' with e1 e2
    subst e1; subst e2
    have := hcell _ v hget.symm
    rw [Nat.add_assoc, hdm] at this
    exact ⟨cell_inMem this, this⟩
end
theorem free_cons {A : Assn} {L : List Assn} {w : World} {R : Fp} (ha : A.holds w (fun _ _ => False) R) (hb : (stars L).holds w (fun _ _ => False) R) : (stars (A :: L)).holds w (fun _ _ => False) R :=
  ⟨fun _ _ => False, fun _ _ => False, fun _ _ x => x, fun _ _ x => x, fun _ _ x _ => x, ha, hb⟩
theorem free_nil {w : World} {R : Fp} : (stars []).holds w (fun _ _ => False) R := trivial
theorem free_rmany {α : Type} {A : α → Assn} {w : World} {R : Fp} : ∀ (l : List α), (∀ x ∈ l, (A x).holds w (fun _ _ => False) R) → (rmany A l).holds w (fun _ _ => False) R
  | [], _ => trivial
  | x :: l, h => free_cons (h x (List.mem_cons_self ..)) (free_rmany l fun y hy => h y (List.mem_cons_of_mem _ hy))
/-- A contract of a statement, in the statement's words. -/
theorem Meets.below {P : Program} {f : FuncId} {args : Array Value} {L : List Assn} {v : Value} (h : Meets P f args L (Det v [])) {w : World} (hL : (stars L).holds w (fun _ _ => False) (InMem w)) :
    Calls P f args w fun e w' => e = .returned v ∧ RowKit.Below w.heap.size w w' := by
  refine (h w _ _ hL (fun _ _ x => x.elim) (fun _ _ x => x.elim) (fun _ _ x => x)).mono ?_
  rintro e w' ⟨v', L', S', rfl, ⟨rfl, rfl⟩, _, _, _, hE⟩
  exact ⟨rfl, hE.os, hE.tape, hE.output, hE.size, fun k hk => hE.agree.blk k fun _ => ⟨hk, fun x => x⟩⟩
end Go.Tr
