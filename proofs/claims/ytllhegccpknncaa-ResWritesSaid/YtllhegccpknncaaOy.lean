/-
  ResWrites: 'changes become bytes, and any bytes changes, or what is wrong is told': for every input that can be read as data, without any condition.
-/
import Derived.Test.YtllhegccpknncaaOs
import Derived.Test.YtllhegccpknncaaRead
import Derived.Test.YtllhegccpknncaaRows
set_option linter.unusedVariables false
set_option linter.unusedSimpArgs false
set_option linter.unusedSectionVars false
set_option maxRecDepth 8000
namespace Go.Proofs.Ytllhegccpknncaa
open Go.Tr
theorem Try_cellsBs : Try.prog.cellsOf 47 = 1 := by kernel_rfl
theorem Try_cells5 : Try.prog.cellsOf 5 = 1 := by kernel_rfl
theorem read_u8 {w : World} {cs : List Value} (h : ReadAs Try.prog w 5 cs) : ∃ n : Int, cs = encU8.val n ∧ 0 ≤ n ∧ n < 256 := by
  obtain ⟨n, h1, h2, h3⟩ := h.int Try.underlying5
  have h2 : 0 ≤ n := by simpa [IntKind.min, IntKind.bits, IntKind.signed] using h2
  have h3 : n ≤ 255 := by simpa [IntKind.max, IntKind.bits, IntKind.signed] using h3
  exact ⟨n, h1, h2, by omega⟩
theorem read_Bytes {w : World} {cs : List Value} (h : ReadAs Try.prog w 47 cs) : ∃ A l c, cs = [rlv A l.length c] ∧ l.length ≤ c ∧ c ≤ maxLen ∧ (∀ x ∈ l, 0 ≤ x ∧ x < 256) ∧ (rdl encU8 A l).holds w (fun _ _ => False) (InMem w) :=
  h.rows encU8 (fun n => 0 ≤ n ∧ n < 256) Try.underlying47 Try_cells5 fun cs hc => read_u8 hc
namespace ResWritesRow
open Go.ChangeShapes Go.WideShapes Go.ChangeAt Go.RowKit
theorem own : ownKnob Try.prog.godebug = none := by kernel_rfl
theorem laidOut : laidOutB Try.prog = true := by kernel_rfl
set_option maxRecDepth 100000 in
theorem lifted (os : Os) (started : os.Started) (H : Type) (enc : TypeId × Value → H) :
    ReturnsInHanded {} Try.checked os 4 .any (Rows.resWritesSpec.pre6 enc Try.prog Try.f4 Rows.resWritesRow.domain false) (Rows.resWritesSpec.post enc Try.prog Try.f4 false true false false) := by
  refine returnsInHanded_of_change (C := Try.checked) own started (by kernel_rfl) Try.func4
    (ChangeSpec.witness6 (enc := enc) (C := Try.checked) false ⟨#[], #[.slice none 0 0, .slice none 0 0], []⟩ 8 (by kernel_rfl) (by kernel_rfl) (by kernel_rfl) (by kernel_rfl)) ?_
  intro W base args ds gs before hval0 hW hcnd _
  have hval : ∀ (j : Nat) t v, Try.f4.params[j]? = some t → args[j]? = some v → Value.okWide Try.prog W .any base t v := hval0
  have hW' := hW
  obtain ⟨p, q, hA0, hV, rfl, hfz, hnd⟩ := hW
  have hA : DataW.TrodAll enc Try.prog W 0 (fun _ => true) true Try.f4.params.toList args.toList ds p := hA0
  rw [Try.params4] at hA hval
  obtain ⟨v0, vs0, d0, ds0, p0, q0, hargs, rfl, rfl, h0, r0⟩ := trodAll_cons hA
  obtain ⟨v1, vs1, d1, ds1, p1, q1, rfl, rfl, rfl, h1, r1⟩ := trodAll_cons r0
  obtain ⟨rfl, rfl, rfl⟩ := trodAll_nil r1
  obtain rfl : args = #[v0, v1] := by cases args; simp_all
  obtain ⟨rfl, rfl⟩ := trodVars_none hV
  have lt0 : ∀ x ∈ p0, x.block < W.heap.size := by obtain ⟨m, hm⟩ := h0; exact DataW.trod_lt m _ _ _ hm
  have lt1 : ∀ x ∈ p1, x.block < W.heap.size := by obtain ⟨m, hm⟩ := h1; exact DataW.trod_lt m _ _ _ hm
  obtain ⟨g, l, c, e0, _, _, hf, g1⟩ := read_Chs (ReadAs.of h0)
  obtain ⟨gb, bs, cb, e1, hcb, hcm, hb, g2⟩ := read_Bytes (ReadAs.of h1)
  have w0 := hval 0 23 v0 rfl rfl
  have w1 := hval 1 47 v1 rfl rfl
  obtain ⟨a0, n0, c0, rfl⟩ := WideShapes.okWide_slice Try.underlying23 w0
  obtain ⟨a1, n1, c1, rfl⟩ := WideShapes.okWide_slice Try.underlying47 w1
  obtain ⟨rfl, rfl, rfl⟩ : a0 = g ∧ n0 = l.length ∧ c0 = c := by injection e0 with e0 _; injection e0 with e1 e2 e3; exact ⟨e1, e2, e3⟩
  obtain ⟨rfl, rfl, rfl⟩ : a1 = gb ∧ n1 = bs.length ∧ c1 = cb := by injection e1 with e1 _; injection e1 with e1 e2 e3; exact ⟨e1, e2, e3⟩
  clear hA0 hval0
  refine ((ResWrites_spec a0 a1 c0 c1 l bs hf hb hcb hcm).below (free_cons g1 (free_cons g2 free_nil))).mono fun e W' ⟨he, bel⟩ => ?_
  subst he
  exact ⟨_, rfl, _, _, _, [], _, [], hW', trodAll_mk1 (shut_bool Try.underlying4 _), (trodAll_cons_mk (Below.trod laidOut (by kernel_rfl) (of_decide_eq_true (by kernel_rfl)) h0 bel lt0) (trodAll_cons_mk (Below.trod laidOut (by kernel_rfl) (of_decide_eq_true (by kernel_rfl)) h1 bel lt1) trodAll_mk0)), rfl, bel.frame _, fun h => by cases h⟩
theorem holds : Rows.ResWritesSaid :=
  OpenClaim.holds_of_wide 4 Try.f4 rfl rfl rfl rfl rfl rfl rfl ⟨rfl, rfl, rfl, rfl, rfl⟩ rfl rfl rfl rfl rfl (by kernel_rfl) Try.func4 (by kernel_rfl)
    (of_decide_eq_true (by kernel_rfl)) (by unfold Func.isWrapper; first | (rw [if_pos (by decide +kernel)]; kernel_rfl) | (rw [if_neg (by decide +kernel)]; exact ⟨rfl, rfl⟩))
    (fun os started H enc _ => lifted os started H enc)
end ResWritesRow
theorem resWrites_holds : Rows.ResWritesSaid := ResWritesRow.holds
#print axioms resWrites_holds
end Go.Proofs.Ytllhegccpknncaa
