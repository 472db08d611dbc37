/-
  A result that lies in a cell: it is read when the function ends.
-/
import Derived.Test.YtllhegccpknncaaSlm
set_option linter.unusedVariables false
set_option linter.unusedSimpArgs false
set_option linter.unusedSectionVars false
namespace Go.Tr
section
variable {P : Program} {w0 : World} {S0 R : Fp} {N : Nat} {sl : List (Nat × Value)} {L : List Assn} {a : Act} {w : World} {v : Value}
theorem leaves_marksC {fn : Func} {tmps : Array Value} {v : Value} {Rr : Ending → World → Prop} : ∀ (ms : List Nat) (w : World), ms.Nodup → (∀ b, b ∈ ms → w.heap[b]? = some (.deferred (some []))) →
    (hv : ∀ w', (∀ b, b ∉ ms → w'.heap[b]? = w.heap[b]?) → (results fn tmps).run P w' = .ok v w') →
    (∀ w', w'.os = w.os → w'.tape = w.tape → w'.output = w.output → w'.heap.size = w.heap.size → (∀ b, b ∉ ms → w'.heap[b]? = w.heap[b]?) → Rr (.returned v) w') → LeavesInM Fence.wide 0 P fn tmps Rr (ms.map mkDef) .returning w
  | [], w, _, _, hv, k => ⟨v, hv w fun _ _ => rfl, k w rfl rfl rfl rfl fun _ _ => rfl⟩
  | b :: ms, w, hn, hm, hv, k => by
    have hb := hm b (List.mem_cons_self ..)
    have hn' := List.nodup_cons.1 hn
    have key : ∀ w' : World, (∀ b', b' ∉ ms → w'.heap[b']? = (w.putObj b (.deferred none)).heap[b']?) → ∀ b', b' ∉ b :: ms → w'.heap[b']? = w.heap[b']? := fun w' h5 b' hb' => by
      rw [h5 b' (fun x => hb' (List.mem_cons_of_mem _ x)), World.putObj_heap_other (fun e => by subst e; exact hb' (List.mem_cons_self ..))]
    refine ⟨by simp, .inl ⟨b, w.putObj b (.deferred none), rfl, run_takeDeferred hb, leaves_marksC ms _ hn'.2 (fun b' hb' => ?_) (fun w' h5 => hv w' (key w' h5)) fun w' h1 h2 h3 h4 h5 => ?_⟩⟩
    · rw [World.putObj_heap_other (fun e => by subst e; exact hn'.1 hb')]
      exact hm b' (List.mem_cons_of_mem _ hb')
    · exact k w' h1 h2 h3 (h4.trans World.putObj_size) (key w' h5)
theorem St.endsC {w0 : World} (h : St w0 S0 R N sl L a w) {Post : Value → List Assn → Prop} {C : Assn} {L' : List Assn} (hL : Ent (stars L) (stars (C :: L'))) [hx : Excls (C :: L')] (hp : Post v L') {fn : Func} (hv : ∀ w S R, C.holds w S R → (results fn a.tmps).run P w = .ok v w) :
    LeavesInM Fence.wide 0 P fn a.tmps (EndsAt w0 S0 R Post) a.defers .returning w := by
  obtain ⟨S, hS, hR, hal, h0, ms, hd, hn, hM⟩ := h.heap
  rw [hd]
  have hag : ∀ w' : World, (∀ b, b ∉ ms → w'.heap[b]? = w.heap[b]?) → Agree w w' (fun b o => S b o ∨ False) := fun w' h5 => by
    have key : ∀ b o, S b o → w'.heap[b]? = w.heap[b]? := fun b o hb => h5 b fun hm => (hM b hm).2.2 o hb
    exact ⟨fun b o hb => Same.of_blk (key b o (hb.elim id False.elim)) o, fun b hb => key b 0 ((hb 0).elim id False.elim)⟩
  have hat : ∀ w' : World, (∀ b, b ∉ ms → w'.heap[b]? = w.heap[b]?) → (stars (C :: L')).holds w' S (fun _ _ => False) := fun w' h5 => (stars (C :: L')).loc (hx.out w S R (hL w S R hS)) (hag w' h5)
  refine leaves_marksC (v := v) ms w hn (fun b hb => (hM b hb).2.1) (fun w' h5 => ?_) fun w' h1 h2 h3 h4 h5 => ?_
  · obtain ⟨S1, S2, _, _, _, hC, _⟩ := hat w' h5
    exact hv w' _ _ hC
  · have hb0 : ∀ b, b < w0.heap.size → w'.heap[b]? = w.heap[b]? := fun b hb => h5 b fun hm => by have := (hM b hm).1; omega
    refine ⟨v, L', S, rfl, hp, Ent.drop (C :: L') 0 w' S _ (hat w' h5), fun b o x => by rw [h4]; exact hal b o x, h0, ?_⟩
    exact ⟨h1.trans h.evo.os, h2.trans h.evo.tape, h3.trans h.evo.output, by rw [h4]; exact h.evo.size,
      h.evo.agree.trans ⟨fun b o hb => Same.of_blk (hb0 b hb.1) o, fun b hb => hb0 b (hb 0).1⟩⟩
/-- The one result is a cell's, a struct's. -/
theorem St.retC (h : St w0 S0 R N sl L a w) {fn : Func} {t b off : Nat} {T : TypeId} {vs : List Value} {Post : Value → List Assn → Prop} {L' : List Assn} (hfn : fn.results = #[.cell t T]) (ha : lk sl t = some (.pointer (some ⟨b, off, none⟩)))
    (hL : Ent (stars L) (stars (cells b off vs :: L'))) (ht : ∀ w, (isAgg T).run P w = .ok true w) (hz : ∀ w, (sizeOf T).run P w = .ok vs.length w) [hx : Excls (cells b off vs :: L')] (hp : Post (.agg vs.toArray) L') :
    bodyEnd P fn (EndsAt w0 S0 R Post) .ret a w := by
  refine h.endsC hL hp fun w S R hc => ?_
  have := run_loadCells_list (P := P) w ⟨b, off, none⟩ vs (fun k u hu => by rw [addr_add]; exact (hc k u hu).2.1)
  simp [results, hfn, ← Array.getD_eq_getD_getElem?, h.slots t _ ha, loadVar, ht, hz, this, asAddr]
end
end Go.Tr
