/-
  How changes and numbers that came in are read.
-/
import Derived.Test.YtllhegccpknncaaMdl
import Derived.Test.YtllhegccpknncaaSeat
import Derived.Test.YtllhegccpknncaaSlr
set_option linter.unusedVariables false
set_option linter.unusedSimpArgs false
set_option linter.unusedSectionVars false
set_option maxRecDepth 8000
namespace Go.Proofs.Ytllhegccpknncaa
open Go.Tr
instance : Inhabited Ch := ⟨⟨0, 0, 0⟩⟩
theorem Try_cells3 : Try.prog.cellsOf 3 = 1 := by kernel_rfl
theorem Try_cells22 : Try.prog.cellsOf 22 = 1 := by kernel_rfl
theorem Try_cellsSl : Try.prog.cellsOf 23 = 1 := by kernel_rfl
theorem Try_cellsCh : Try.prog.cellsOf 80 = 3 := by kernel_rfl
structure ChFits (c : Ch) : Prop where
  kind : -9223372036854775808 ≤ c.kind ∧ c.kind ≤ 9223372036854775807
  key : -9223372036854775808 ≤ c.key ∧ c.key ≤ 9223372036854775807
  val : 0 ≤ c.val ∧ c.val ≤ 18446744073709551615
theorem read_int {w : World} {cs : List Value} (h : ReadAs Try.prog w 3 cs) : ∃ n : Int, cs = [.int .i64 n] ∧ -9223372036854775808 ≤ n ∧ n ≤ 9223372036854775807 := by
  obtain ⟨n, h1, h2, h3⟩ := h.int Try.underlying3
  exact ⟨n, h1, by simpa [IntKind.min, IntKind.bits, IntKind.signed] using h2, by simpa [IntKind.max, IntKind.bits, IntKind.signed] using h3⟩
theorem read_u64 {w : World} {cs : List Value} (h : ReadAs Try.prog w 22 cs) : ∃ n : Int, cs = [.int .u64 n] ∧ 0 ≤ n ∧ n ≤ 18446744073709551615 := by
  obtain ⟨n, h1, h2, h3⟩ := h.int Try.underlying22
  exact ⟨n, h1, by simpa [IntKind.min, IntKind.bits, IntKind.signed] using h2, by simpa [IntKind.max, IntKind.bits, IntKind.signed] using h3⟩
theorem read_Ch {w : World} {cs : List Value} (h : ReadAs Try.prog w 80 cs) : ∃ x : Ch, cs = encCh.val x ∧ ChFits x := by
  obtain ⟨hl, hf⟩ := h.flat Try.underlying80 Try_cellsCh (fun i f hi => by
    match i, hi with
    | 0, hi => cases hi; exact ⟨rfl, Try_cells3⟩
    | 1, hi => cases hi; exact ⟨rfl, Try_cells3⟩
    | 2, hi => cases hi; exact ⟨rfl, Try_cells22⟩)
  match cs, hl with
  | [v0, v1, v2], _ =>
    obtain ⟨n0, e0, g0⟩ := read_int (hf 0 _ v0 rfl rfl)
    obtain ⟨n1, e1, g1⟩ := read_int (hf 1 _ v1 rfl rfl)
    obtain ⟨n2, e2, g2⟩ := read_u64 (hf 2 _ v2 rfl rfl)
    cases e0; cases e1; cases e2
    exact ⟨⟨n0, n1, n2⟩, rfl, g0, g1, g2⟩
theorem read_Chs {w : World} {cs : List Value} (h : ReadAs Try.prog w 23 cs) : ∃ A l c, cs = [rlv A l.length c] ∧ l.length ≤ c ∧ c ≤ maxLen ∧ (∀ x ∈ l, ChFits x) ∧ (rdl encCh A l).holds w (fun _ _ => False) (InMem w) :=
  h.rows encCh ChFits Try.underlying23 Try_cellsCh fun cs hc => read_Ch hc
end Go.Proofs.Ytllhegccpknncaa
