/-
  Lists of changes, compared.
-/
import Derived.Test.YtllhegccpknncaaMdl
import Derived.Test.YtllhegccpknncaaSeat
import Derived.Test.YtllhegccpknncaaSeat
set_option linter.unusedVariables false
set_option linter.unusedSimpArgs false
set_option linter.unusedSectionVars false
set_option maxRecDepth 8000
namespace Go.Proofs.Ytllhegccpknncaa
open Go.Tr
def sameC (a b : List Ch) : Bool := decide (a.length = b.length) && sameG a b
  where sameG : List Ch → List Ch → Bool
  | [], _ => true
  | _, [] => true
  | x :: l, y :: r => decide (x.kind = y.kind ∧ x.key = y.key ∧ x.val = y.val) && sameG l r
theorem SameChanges_spec (g g' : Option Addr) (c c' : Nat) (ys zs : List Ch) : Meets Try.prog 13 #[rlv g ys.length c, rlv g' zs.length c'] [rdl encCh g ys, rdl encCh g' zs] (Det (.bool (sameC ys zs)) []) := by
  refine Meets.of_code Try.func13 rfl Try.ntmps13 rfl fun w0 S R a h => ?_
  have hlen : ys.length ≤ 9223372036854775807 := by have := h.tell1 0 rfl fun _ _ _ => rdl_len; simpa using this
  have hlen2 : zs.length ≤ 9223372036854775807 := by have := h.tell1 1 rfl fun _ _ _ => rdl_len; simpa using this
  refine C.seq ?_
  refine C.region ?_
  refine St.get h rfl rfl rfl (G.assign rfl rfl) fun a h => ?_
  refine wpl_nil ?_
  refine X.thenN ?_
  refine C.seq ?_
  refine C.seq ?_
  refine C.region ?_
  refine St.get h rfl rfl rfl (G.move rfl rfl) fun a h => ?_
  refine St.get h rfl rfl rfl (G.lens rfl rfl Try.underlying23) fun a h => ?_
  refine St.get h rfl rfl rfl (G.move rfl rfl) fun a h => ?_
  refine St.get h rfl rfl rfl (G.lens rfl rfl Try.underlying23) fun a h => ?_
  refine St.getP h rfl rfl rfl (G.bin rfl rfl rfl B.neq) (fun hc a h => ?_) (fun hc a h => ?_)
  refine wpl_nil ?_
  refine X.thenN ?_
  refine St.condT h rfl ?_
  refine C.seq ?_
  refine C.region ?_
  refine St.get h rfl rfl rfl (G.assign rfl rfl) fun a h => ?_
  refine wpl_nil ?_
  refine X.thenN ?_
  refine C.ret ?_
  refine X.thenR ?_
  rotate_left
  refine wpl_nil ?_
  refine X.thenN ?_
  refine St.condF h rfl ?_
  refine C.skip ?_
  refine X.thenN ?_
  refine C.seq ?_
  refine C.seq ?_
  refine C.region ?_
  refine St.get h rfl rfl rfl (G.assign rfl rfl) fun a h => ?_
  refine wpl_nil ?_
  refine X.thenN ?_
  refine C.block ?_
  rotate_left
  · replace h := h.sel [] rfl
    exact h.ret1 Try.results13 rfl (Ent.refl _) (⟨by rw [sameC, decide_eq_false (by omega)]; rfl, rfl⟩)
  · have hab : ys.length = zs.length := by omega
    refine C.loop (fun m t w => ∃ i : Nat, i + m = ys.length ∧ sameC.sameG ys zs = sameC.sameG (ys.drop i) (zs.drop i) ∧ St w0 S R 26 [(0, rlv g ys.length c), (1, rlv g' zs.length c'), (5, .int .i64 i)] [rdl encCh g ys, rdl encCh g' zs] t w) ys.length ⟨0, by omega, rfl, h.sub ⟨rfl, rfl, rfl, trivial⟩⟩ ?_
    rintro m t w ⟨i, hi, hf, h⟩
    by_cases hlt : i < ys.length
    · obtain ⟨x, hx⟩ : ∃ x, ys[i]? = some x := ⟨_, List.getElem?_eq_getElem hlt⟩
      obtain ⟨y, hy⟩ : ∃ y, zs[i]? = some y := ⟨_, List.getElem?_eq_getElem (by omega)⟩
      have hx1 : ys[(i : Int).toNat]? = some x := by simp [hx]
      have hy1 : zs[(i : Int).toNat]? = some y := by simp [hy]
      rw [drop_cons hx, drop_cons hy, sameC.sameG] at hf
      refine C.seq ?_
      refine C.seq ?_
      refine C.region ?_
      refine St.get h rfl rfl rfl (G.move rfl rfl) fun a h => ?_
      refine St.get h rfl rfl rfl (G.move rfl rfl) fun a h => ?_
      refine St.get h rfl rfl rfl (G.lens rfl rfl Try.underlying23) fun a h => ?_
      refine St.get h rfl rfl rfl (G.bin rfl rfl rfl (B.lssT (by omega))) fun a h => ?_
      refine wpl_nil ?_
      refine X.thenN ?_
      refine St.condT h rfl ?_
      refine C.skip ?_
      refine X.thenN ?_
      refine C.seq ?_
      refine C.block ?_
      refine C.seq ?_
      refine C.still Try_mixed h (by decide +kernel) fun w h => ?_
      refine St.getS h rfl rfl rfl (G.move rfl rfl) fun a h => ?_
      refine St.getS h rfl rfl rfl (G.move rfl rfl) fun a h => ?_
      refine St.getS h rfl rfl rfl (G.idxr _ 0 rfl rfl rfl rfl (by omega) (by omega) (by omega) Try.underlying23 Try.sizeOf80) fun a h => ?_
      refine St.getS h rfl rfl rfl (G.ldea _ 0 rfl (by assumption) rfl rfl rfl rfl Try.isAgg80 Try.sizeOf80) fun a h => ?_
      replace h := h.conv (sl' := (_, .agg #[_, _, _]) :: _) (L' := _) rfl rfl
      refine St.getS h rfl rfl rfl (G.move rfl rfl) fun a h => ?_
      refine St.getS h rfl rfl rfl (G.move rfl rfl) fun a h => ?_
      refine St.getS h rfl rfl rfl (G.idxr _ 1 rfl rfl rfl rfl (by omega) (by omega) (by omega) Try.underlying23 Try.sizeOf80) fun a h => ?_
      refine St.getS h rfl rfl rfl (G.ldea _ 1 rfl (by assumption) rfl rfl rfl rfl Try.isAgg80 Try.sizeOf80) fun a h => ?_
      replace h := h.conv (sl' := (_, .agg #[_, _, _]) :: _) (L' := _) rfl rfl
      refine St.getPS h rfl rfl rfl (G.bin rfl rfl rfl (B.nes3 Try.eqGuardType80 Try.stoodInHeld80 Try.underlying80 rfl rfl rfl rfl rfl rfl Try.underlying3 Try.underlying3 Try.underlying22 Try.isAgg3 Try.isAgg3 Try.isAgg22 Try.sizeOf3 Try.sizeOf3 Try.sizeOf22)) (fun hc1 a h => ?_) (fun hc1 a h => ?_)
      refine wps_nil ?_
      refine X.thenN ?_
      refine St.condT h rfl ?_
      refine C.seq ?_
      refine C.region ?_
      refine St.get h rfl rfl rfl (G.assign rfl rfl) fun a h => ?_
      refine wpl_nil ?_
      refine X.thenN ?_
      refine C.ret ?_
      refine X.blkR ?_
      refine X.thenR ?_
      refine X.thenR ?_
      refine X.blkR ?_
      refine X.thenR ?_
      rotate_left
      refine wps_nil ?_
      refine X.thenN ?_
      refine St.condF h rfl ?_
      refine C.skip ?_
      refine X.blkN ?_
      refine X.thenN ?_
      refine C.region ?_
      refine St.get h rfl rfl rfl (G.move rfl rfl) fun a h => ?_
      refine St.get h rfl rfl rfl (G.bin rfl rfl rfl (B.addi (by omega) (by omega))) fun a h => ?_
      refine St.get h rfl rfl rfl (G.assign rfl rfl) fun a h => ?_
      refine wpl_nil ?_
      refine X.thenN ?_
      rotate_left
      · replace h := h.sel [] rfl
        exact h.ret1 Try.results13 rfl (Ent.refl _) (⟨by rw [sameC, hf, decide_eq_false hc1]; simp, rfl⟩)
      · rw [decide_eq_true (by simpa using hc1), Bool.true_and] at hf
        exact ⟨m - 1, by omega, i + 1, by omega, hf, h.sub ⟨rfl, rfl, rfl, trivial⟩⟩
    · rw [List.drop_eq_nil_of_le (by omega)] at hf
      refine C.seq ?_
      refine C.seq ?_
      refine C.region ?_
      refine St.get h rfl rfl rfl (G.move rfl rfl) fun a h => ?_
      refine St.get h rfl rfl rfl (G.move rfl rfl) fun a h => ?_
      refine St.get h rfl rfl rfl (G.lens rfl rfl Try.underlying23) fun a h => ?_
      refine St.get h rfl rfl rfl (G.bin rfl rfl rfl (B.lssF (by omega))) fun a h => ?_
      refine wpl_nil ?_
      refine X.thenN ?_
      refine St.condF h rfl ?_
      refine C.exit ?_
      refine X.thenE ?_
      refine X.thenE ?_
      refine X.blkE ?_
      refine X.thenN ?_
      refine C.seq ?_
      refine C.region ?_
      refine St.get h rfl rfl rfl (G.assign rfl rfl) fun a h => ?_
      refine wpl_nil ?_
      refine X.thenN ?_
      refine C.ret ?_
      replace h := h.sel [] rfl
      exact h.ret1 Try.results13 rfl (Ent.refl _) (⟨by rw [sameC, hf, decide_eq_true hab]; rfl, rfl⟩)
theorem sameC_self (l : List Ch) : sameC l l = true := by
  unfold sameC
  have : ∀ l : List Ch, sameC.sameG l l = true := fun l => by
    induction l with
    | nil => rfl
    | cons x l ih => simp [sameC.sameG, ih]
  simp [this]
end Go.Proofs.Ytllhegccpknncaa
