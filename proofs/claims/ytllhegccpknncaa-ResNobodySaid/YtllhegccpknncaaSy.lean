/-
  ResNobody: 'resources that are nil say so': for every input that can be read as data, without any condition.
-/
import Derived.Test.YtllhegccpknncaaSn
import Derived.Test.YtllhegccpknncaaRead
import Derived.Test.YtllhegccpknncaaRows
set_option linter.unusedVariables false
set_option linter.unusedSimpArgs false
set_option linter.unusedSectionVars false
set_option maxRecDepth 8000
namespace Go.Proofs.Ytllhegccpknncaa
open Go.Tr
abbrev opVals15 (x : SO) (gl : Option Addr) (cl : Nat) : List Value := [.int .i64 x.kind, .int .i64 x.work, .int .i64 x.key, .int .u64 x.val, rlv gl x.L.length cl]
theorem Try_cellsOp15 : Try.prog.cellsOf 54 = 5 := by kernel_rfl
theorem read_Op15 {w : World} {cs : List Value} (h : ReadAs Try.prog w 54 cs) : ∃ (x : SO) (gl : Option Addr) (cl : Nat), cs = opVals15 x gl cl ∧ (∀ c ∈ x.L, ChFits c) ∧ (rdl encCh gl x.L).holds w (fun _ _ => False) (InMem w) := by
  obtain ⟨hl, hf⟩ := h.flat Try.underlying54 Try_cellsOp15 (fun i f hi => by
    match i, hi with
    | 0, hi => cases hi; exact ⟨rfl, Try_cells3⟩
    | 1, hi => cases hi; exact ⟨rfl, Try_cells3⟩
    | 2, hi => cases hi; exact ⟨rfl, Try_cells3⟩
    | 3, hi => cases hi; exact ⟨rfl, Try_cells22⟩
    | 4, hi => cases hi; exact ⟨rfl, Try_cellsSl⟩)
  match cs, hl with
  | [v0, v1, v2, v3, v4], _ =>
    obtain ⟨n0, e0, g0⟩ := read_int (hf 0 _ v0 rfl rfl)
    obtain ⟨n1, e1, g1⟩ := read_int (hf 1 _ v1 rfl rfl)
    obtain ⟨n2, e2, g2⟩ := read_int (hf 2 _ v2 rfl rfl)
    obtain ⟨n3, e3, g3⟩ := read_u64 (hf 3 _ v3 rfl rfl)
    obtain ⟨gl, L, cl, e4, _, _, g5, g4⟩ := read_Chs (hf 4 _ v4 rfl rfl)
    cases e0; cases e1; cases e2; cases e3; cases e4
    exact ⟨⟨n0, n1, n2, n3, L⟩, gl, cl, rfl, g5, g4⟩
namespace ResNobodyRow
open Go.ChangeShapes Go.WideShapes Go.ChangeAt Go.RowKit
theorem own : ownKnob Try.prog.godebug = none := by kernel_rfl
theorem laidOut : laidOutB Try.prog = true := by kernel_rfl
set_option maxRecDepth 100000 in
theorem lifted (os : Os) (started : os.Started) (H : Type) (enc : TypeId × Value → H) :
    ReturnsInHanded {} Try.checked os 5 .any (Rows.resNobodySpec.pre6 enc Try.prog Try.f5 Rows.resNobodyRow.domain false) (Rows.resNobodySpec.post enc Try.prog Try.f5 false true false false) := by
  refine returnsInHanded_of_change (C := Try.checked) own started (by kernel_rfl) Try.func5
    (ChangeSpec.witness6 (enc := enc) (C := Try.checked) false ⟨#[], #[.agg #[.int .i64 0, .int .i64 0, .int .i64 0, .int .u64 0, .slice none 0 0]], []⟩ 8 (by kernel_rfl) (by kernel_rfl) (by kernel_rfl) (by kernel_rfl)) ?_
  intro W base args ds gs before hval0 hW hcnd _
  have hval : ∀ (j : Nat) t v, Try.f5.params[j]? = some t → args[j]? = some v → Value.okWide Try.prog W .any base t v := hval0
  have hW' := hW
  obtain ⟨p, q, hA0, hV, rfl, hfz, hnd⟩ := hW
  have hA : DataW.TrodAll enc Try.prog W 0 (fun _ => true) true Try.f5.params.toList args.toList ds p := hA0
  rw [Try.params5] at hA hval
  obtain ⟨v0, vs0, d0, ds0, p0, q0, hargs, rfl, rfl, h0, r0⟩ := trodAll_cons hA
  obtain ⟨rfl, rfl, rfl⟩ := trodAll_nil r0
  obtain rfl : args = #[v0] := by cases args; simp_all
  obtain ⟨rfl, rfl⟩ := trodVars_none hV
  have lt0 : ∀ x ∈ p0, x.block < W.heap.size := by obtain ⟨m, hm⟩ := h0; exact DataW.trod_lt m _ _ _ hm
  have w0 := hval 0 54 v0 rfl rfl
  obtain ⟨x, gl, cl, e0, _, g1⟩ := read_Op15 (ReadAs.of h0)
  have w0 := hval 0 54 v0 rfl rfl
  simp only [Value.okWide, Try.underlying54] at w0
  obtain ⟨cs, rfl, _, _⟩ := w0
  have e1 : cs = (opVals15 x gl cl).toArray := by
    have : cs.toList = opVals15 x gl cl := e0
    rw [← this]
  subst e1
  clear hA0 hval0
  refine ((ResNobody_spec x gl cl (by have := rdl_len g1; omega)).below free_nil).mono fun e W' ⟨he, bel⟩ => ?_
  subst he
  exact ⟨_, rfl, _, _, _, [], _, [], hW', trodAll_mk1 (shut_bool Try.underlying4 _), (trodAll_cons_mk (Below.trod laidOut (by kernel_rfl) (of_decide_eq_true (by kernel_rfl)) h0 bel lt0) trodAll_mk0), rfl, bel.frame _, fun h => by cases h⟩
theorem holds : Rows.ResNobodySaid :=
  OpenClaim.holds_of_wide 5 Try.f5 rfl rfl rfl rfl rfl rfl rfl ⟨rfl, rfl, rfl, rfl, rfl⟩ rfl rfl rfl rfl rfl (by kernel_rfl) Try.func5 (by kernel_rfl)
    (of_decide_eq_true (by kernel_rfl)) (by unfold Func.isWrapper; first | (rw [if_pos (by decide +kernel)]; kernel_rfl) | (rw [if_neg (by decide +kernel)]; exact ⟨rfl, rfl⟩))
    (fun os started H enc _ => lifted os started H enc)
end ResNobodyRow
theorem resNobody_holds : Rows.ResNobodySaid := ResNobodyRow.holds
#print axioms resNobody_holds
end Go.Proofs.Ytllhegccpknncaa
