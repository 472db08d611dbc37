/-
  The document's queue: Right, Restore.
-/
import Derived.Test.YtllhegccpknncaaRc
import Derived.Test.YtllhegccpknncaaSeat
set_option linter.unusedVariables false
set_option linter.unusedSimpArgs false
set_option linter.unusedSectionVars false
set_option maxRecDepth 8000
namespace Go.Proofs.Ytllhegccpknncaa
open Go.Tr

theorem rightRG_cc (ws : List QW) (c : Ch) (l : List Ch) (x : RI) (r : List RI) : rightRG ws (c :: l) (x :: r) = if (c.kind ≠ 3 ∧ c.kind ≠ 4) ∨ (c.kind = 3 ∧ c.key ≠ 0) then false
    else if c.kind = 4 then (if x.num ≠ c.key ∨ x.val ≠ c.val ∨ takerR c.key ws ≠ 0 then false else rightRG ws l r) else rightRG ws l (x :: r) := rfl
theorem rightRG_cn (ws : List QW) (c : Ch) (l : List Ch) : rightRG ws (c :: l) [] = if (c.kind ≠ 3 ∧ c.kind ≠ 4) ∨ (c.kind = 3 ∧ c.key ≠ 0) then false
    else if c.kind = 4 then false else rightRG ws l [] := rfl
theorem Right_spec (b o : Nat) (q : RM) (hq : q.Good) (g : Option Addr) (c : Nat) (l : List Ch) (hl : l.length < 1000000000) : Meets Try.prog 87 #[.pointer (some ⟨b, o, none⟩), rlv g l.length c] [RAt b o q, rdl encCh g l]
    (Det (.bool (rightR q l)) [RAt b o q]) := by
  refine Meets.of_code Try.func87 rfl Try.ntmps87 rfl fun w0 S R a h => ?_
  obtain ⟨gi, ci, gw, cw, ws, hw, h⟩ := h.openR 0 rfl
  have h1 := hq.items
  replace h := h.conv (sl' := _) (L' := [cells _ _ [_, _, _], _, _, _, _]) rfl rfl
  refine C.seq ?_
  refine C.region ?_
  refine St.get h rfl rfl rfl (G.assign rfl rfl) fun a h => ?_
  refine wpl_nil ?_
  refine X.thenN ?_
  refine C.seq ?_
  refine C.region ?_
  refine St.get h rfl rfl rfl (G.assign rfl rfl) fun a h => ?_
  refine wpl_nil ?_
  refine X.thenN ?_
  refine C.seq ?_
  refine C.seq ?_
  refine C.region ?_
  refine St.get h rfl rfl rfl (G.assign rfl rfl) fun a h => ?_
  refine wpl_nil ?_
  refine X.thenN ?_
  refine C.block ?_
  refine C.loop (fun m a w => ∃ i k : Nat, i + m = l.length ∧ k ≤ q.items.length ∧ rightRG q.works l q.items = rightRG q.works (l.drop i) (q.items.drop k) ∧ St w0 S R 91 [(0, .pointer (some ⟨b, o, none⟩)), (1, rlv g l.length c), (5, .int .i64 k), (6, .int .i64 i)]
    [cells b o [rlv gi q.items.length ci, rlv gw ws.length cw, .int .i64 q.given], ownl encRI 131 gi ci q.items, ownl encPtr 133 gw cw (ws.map Prod.fst), many (WAt 80) ws, rdl encCh g l] a w) l.length ⟨0, 0, by omega, by omega, rfl, h.sub ⟨rfl, rfl, rfl, rfl, trivial⟩⟩ ?_
  rintro m a w ⟨i, k, hi, hk, hf, h⟩
  by_cases hlt : i < l.length
  · obtain ⟨x, hx⟩ : ∃ x, l[i]? = some x := ⟨_, List.getElem?_eq_getElem hlt⟩
    have hx1 : l[(i : Int).toNat]? = some x := by simp [hx]
    have hts := Taker_spec b o x.key (rlv gi q.items.length ci) (.int .i64 q.given) gw cw ws
    rw [hw] at hts
    rw [drop_cons hx] at hf
    by_cases hkl : k < q.items.length
    · obtain ⟨y, hy⟩ : ∃ y, q.items[k]? = some y := ⟨_, List.getElem?_eq_getElem hkl⟩
      have hy1 : q.items[(k : Int).toNat]? = some y := by simp [hy]
      rw [drop_cons hy, rightRG_cc] at hf
      refine C.seq ?_
      refine C.seq ?_
      refine C.region ?_
      refine St.get h rfl rfl rfl (G.move rfl rfl) fun a h => ?_
      refine St.get h rfl rfl rfl (G.move rfl rfl) fun a h => ?_
      refine St.get h rfl rfl rfl (G.lens rfl rfl Try.underlying23) fun a h => ?_
      refine St.get h rfl rfl rfl (G.bin rfl rfl rfl (B.lssT (by omega))) fun a h => ?_
      refine wpl_nil ?_
      refine X.thenN ?_
      refine St.condT h rfl ?_
      refine C.skip ?_
      refine X.thenN ?_
      refine C.seq ?_
      refine C.block ?_
      refine C.seq ?_
      refine C.region ?_
      refine St.get h rfl rfl rfl (G.move rfl rfl) fun a h => ?_
      refine St.get h rfl rfl rfl (G.move rfl rfl) fun a h => ?_
      refine St.get h rfl rfl rfl (G.idxr _ 4 rfl rfl rfl rfl (by omega) (by omega) (by omega) Try.underlying23 Try.sizeOf80) fun a h => ?_
      refine St.get h rfl rfl rfl (G.ldea _ 4 rfl (by assumption) rfl rfl rfl rfl Try.isAgg80 Try.sizeOf80) fun a h => ?_
      replace h := h.conv (sl' := (_, .agg #[_, _, _]) :: _) (L' := _) rfl rfl
      refine St.alloc h Try.zeroValue80 rfl rfl rfl rfl fun b1 a w h => ?_
      replace h := h.conv (sl' := _) (L' := [cells _ _ [_, _, _], cells _ _ [_, _, _], _, _, _, _]) rfl rfl
      refine St.put h rfl rfl (U.sta 0 0 rfl rfl rfl rfl rfl rfl (by simp [Value.oneCell']) Try.sizeOf80 rfl) fun a w h => ?_
      replace h := h.conv (sl' := _) (L' := [cells _ _ [_, _, _], cells _ _ [_, _, _], _, _, _, _]) rfl rfl
      refine wpl_nil ?_
      refine X.thenN ?_
      refine C.seq ?_
      refine C.seq ?_
      refine C.region ?_
      refine St.get h rfl rfl rfl (G.fadr 0 rfl rfl Try.underlying80 rfl rfl Try.sizeOf3) fun a h => ?_
      refine St.get h rfl rfl rfl (G.ld 0 0 rfl rfl rfl rfl rfl Try.isAgg3) fun a h => ?_
      refine St.getP h rfl rfl rfl (G.bin rfl rfl rfl B.neq) (fun hc a h => ?_) (fun hc a h => ?_)
      refine St.get h rfl rfl rfl (G.move rfl rfl) fun a h => ?_
      refine St.guard_yes h rfl rfl rfl rfl rfl ?_
      refine St.get h rfl rfl rfl (G.fadr 0 rfl rfl Try.underlying80 rfl rfl Try.sizeOf3) fun a h => ?_
      refine St.guard_yes h rfl rfl rfl rfl rfl ?_
      refine St.get h rfl rfl rfl (G.ld 0 0 rfl rfl rfl rfl rfl Try.isAgg3) fun a h => ?_
      refine St.guard_yes h rfl rfl rfl rfl rfl ?_
      refine St.getP h rfl rfl rfl (G.bin rfl rfl rfl B.neq) (fun hc1 a h => ?_) (fun hc1 a h => ?_)
      refine St.get h rfl rfl rfl (G.pickT rfl rfl rfl) fun a h => ?_
      refine St.get h rfl rfl rfl (G.move rfl rfl) fun a h => ?_
      refine St.guard_no h rfl rfl rfl rfl rfl (by decide) rfl rfl fun a h => ?_
      refine St.guard_no h rfl rfl rfl rfl rfl (by decide) rfl rfl fun a h => ?_
      refine St.guard_no h rfl rfl rfl rfl rfl (by decide) rfl rfl fun a h => ?_
      refine St.guard_no h rfl rfl rfl rfl rfl (by decide) rfl rfl fun a h => ?_
      refine St.guard_noU h rfl rfl rfl rfl rfl rfl rfl fun a h => ?_
      refine St.guard_noU h rfl rfl rfl rfl rfl rfl rfl fun a h => ?_
      refine St.guard_noU h rfl rfl rfl rfl rfl rfl rfl fun a h => ?_
      refine St.guard_no h rfl rfl rfl rfl rfl (by decide) rfl rfl fun a h => ?_
      refine St.get h rfl rfl rfl (G.pickT rfl rfl rfl) fun a h => ?_
      refine wpl_nil ?_
      refine X.thenN ?_
      refine St.condT h rfl ?_
      refine C.seq ?_
      refine C.region ?_
      refine St.get h rfl rfl rfl (G.assign rfl rfl) fun a h => ?_
      refine wpl_nil ?_
      refine X.thenN ?_
      refine C.ret ?_
      refine X.thenR ?_
      refine X.blkR ?_
      refine X.thenR ?_
      refine X.thenR ?_
      refine X.blkR ?_
      refine X.thenR ?_
      rotate_left
      refine St.get h rfl rfl rfl (G.pickT rfl rfl rfl) fun a h => ?_
      refine St.get h rfl rfl rfl (G.move rfl rfl) fun a h => ?_
      refine St.guard_yes h rfl rfl rfl rfl rfl ?_
      refine St.get h rfl rfl rfl (G.fadr 0 rfl rfl Try.underlying80 rfl rfl Try.sizeOf3) fun a h => ?_
      refine St.guard_yes h rfl rfl rfl rfl rfl ?_
      refine St.get h rfl rfl rfl (G.ld 0 0 rfl rfl rfl rfl rfl Try.isAgg3) fun a h => ?_
      refine St.guard_yes h rfl rfl rfl rfl rfl ?_
      refine St.get h rfl rfl rfl (G.bin rfl rfl rfl (B.eqlF (by omega))) fun a h => ?_
      refine St.guard_yes h rfl rfl rfl rfl rfl ?_
      refine St.get h rfl rfl rfl (G.move rfl rfl) fun a h => ?_
      refine St.guard_no h rfl rfl rfl rfl rfl (by decide) rfl rfl fun a h => ?_
      refine St.guard_no h rfl rfl rfl rfl rfl (by decide) rfl rfl fun a h => ?_
      refine St.guard_no h rfl rfl rfl rfl rfl (by decide) rfl rfl fun a h => ?_
      refine St.guard_yes h rfl rfl rfl rfl rfl ?_
      refine St.get h rfl rfl rfl (G.pickF rfl rfl rfl) fun a h => ?_
      refine St.get h rfl rfl rfl (G.pickF rfl rfl rfl) fun a h => ?_
      refine wpl_nil ?_
      refine X.thenN ?_
      refine St.condF h rfl ?_
      refine C.skip ?_
      refine X.thenN ?_
      refine C.seq ?_
      refine C.region ?_
      refine St.get h rfl rfl rfl (G.fadr 0 rfl rfl Try.underlying80 rfl rfl Try.sizeOf3) fun a h => ?_
      refine St.get h rfl rfl rfl (G.ld 0 0 rfl rfl rfl rfl rfl Try.isAgg3) fun a h => ?_
      refine St.get h rfl rfl rfl (G.bin rfl rfl rfl (B.eqlT (by omega))) fun a h => ?_
      refine wpl_nil ?_
      refine X.thenN ?_
      refine St.condT h rfl ?_
      refine C.seq ?_
      refine C.seq ?_
      refine C.stillTail Try_mixed 37 h (by decide +kernel) fun w h => ?_
      refine St.getS h rfl rfl rfl (G.move rfl rfl) fun a h => ?_
      refine St.getS h rfl rfl rfl (G.move rfl rfl) fun a h => ?_
      refine St.getS h rfl rfl rfl (G.nilc rfl rfl) fun a h => ?_
      refine St.getS h rfl rfl rfl (G.fadr 0 rfl rfl Try.underlying42 rfl rfl Try.sizeOf39) fun a h => ?_
      refine St.getS h rfl rfl rfl (G.ld 1 0 rfl rfl rfl rfl rfl Try.isAgg39) fun a h => ?_
      refine St.getS h rfl rfl rfl (G.lens rfl rfl Try.underlying39) fun a h => ?_
      refine St.getS h rfl rfl rfl (G.bin rfl rfl rfl (B.geqF (by omega))) fun a h => ?_
      refine St.getS h rfl rfl rfl (G.move rfl rfl) fun a h => ?_
      refine St.guardS_yes h rfl rfl rfl rfl rfl ?_
      refine St.getS h rfl rfl rfl (G.move rfl rfl) fun a h => ?_
      refine St.guardS_yes h rfl rfl rfl rfl rfl ?_
      refine St.getS h rfl rfl rfl (G.nilc rfl rfl) fun a h => ?_
      refine St.guardS_yes h rfl rfl rfl rfl rfl ?_
      refine St.getS h rfl rfl rfl (G.fadr 0 rfl rfl Try.underlying42 rfl rfl Try.sizeOf39) fun a h => ?_
      refine St.guardS_yes h rfl rfl rfl rfl rfl ?_
      refine St.getS h rfl rfl rfl (G.ld 1 0 rfl rfl rfl rfl rfl Try.isAgg39) fun a h => ?_
      refine St.guardS_yes h rfl rfl rfl rfl rfl ?_
      refine St.getS h rfl rfl rfl (G.move rfl rfl) fun a h => ?_
      refine St.guardS_yes h rfl rfl rfl rfl rfl ?_
      refine St.getS h rfl rfl rfl (G.idxo _ 2 rfl rfl rfl rfl (by omega) (by omega) (by omega) Try.underlying39 Try.sizeOf131) fun a h => ?_
      refine St.guardS_yes h rfl rfl rfl rfl rfl ?_
      refine St.getS h rfl rfl rfl (G.fadr 0 rfl rfl Try.underlying131 rfl rfl Try.sizeOf3) fun a h => ?_
      refine St.guardS_yes h rfl rfl rfl rfl rfl ?_
      refine St.getS h rfl rfl rfl (G.ldo _ 2 0 rfl (by assumption) rfl rfl rfl rfl rfl Try.isAgg3) fun a h => ?_
      refine St.guardS_yes h rfl rfl rfl rfl rfl ?_
      refine St.getS h rfl rfl rfl (G.fadr 1 rfl rfl Try.underlying80 rfl rfl Try.sizeOf3) fun a h => ?_
      refine St.guardS_yes h rfl rfl rfl rfl rfl ?_
      refine St.getS h rfl rfl rfl (G.ld 0 1 rfl rfl rfl rfl rfl Try.isAgg3) fun a h => ?_
      refine St.guardS_yes h rfl rfl rfl rfl rfl ?_
      refine St.getPS h rfl rfl rfl (G.bin rfl rfl rfl B.neq) (fun hc2 a h => ?_) (fun hc2 a h => ?_)
      refine St.getS h rfl rfl rfl (G.pickF rfl rfl rfl) fun a h => ?_
      refine St.getS h rfl rfl rfl (G.move rfl rfl) fun a h => ?_
      refine St.guardS_no h rfl rfl rfl rfl rfl (by decide) rfl rfl fun a h => ?_
      refine St.guardS_no h rfl rfl rfl rfl rfl (by decide) rfl rfl fun a h => ?_
      refine St.guardS_no h rfl rfl rfl rfl rfl (by decide) rfl rfl fun a h => ?_
      refine St.guardS_no h rfl rfl rfl rfl rfl (by decide) rfl rfl fun a h => ?_
      refine St.guardS_no h rfl rfl rfl rfl rfl (by decide) rfl rfl fun a h => ?_
      refine St.guardS_no h rfl rfl rfl rfl rfl (by decide) rfl rfl fun a h => ?_
      refine St.guardS_no h rfl rfl rfl rfl rfl (by decide) rfl rfl fun a h => ?_
      refine St.guardS_no h rfl rfl rfl rfl rfl (by decide) rfl rfl fun a h => ?_
      refine St.guardS_no h rfl rfl rfl rfl rfl (by decide) rfl rfl fun a h => ?_
      refine St.guardS_no h rfl rfl rfl rfl rfl (by decide) rfl rfl fun a h => ?_
      refine St.guardS_no h rfl rfl rfl rfl rfl (by decide) rfl rfl fun a h => ?_
      refine St.getS h rfl rfl rfl (G.pickT rfl rfl rfl) fun a h => ?_
      refine St.getS h rfl rfl rfl (G.move rfl rfl) fun a h => ?_
      refine St.guardS_no h rfl rfl rfl rfl rfl (by decide) rfl rfl fun a h => ?_
      refine St.guardS_no h rfl rfl rfl rfl rfl (by decide) rfl rfl fun a h => ?_
      refine St.guardS_no h rfl rfl rfl rfl rfl (by decide) rfl rfl fun a h => ?_
      refine wps_nil ?_
      refine St.guard_no h rfl rfl rfl rfl rfl (by decide) rfl rfl fun a h => ?_
      refine St.guard_no h rfl rfl rfl rfl rfl (by decide) rfl rfl fun a h => ?_
      refine St.get h rfl rfl rfl (G.pickT rfl rfl rfl) fun a h => ?_
      refine wpl_nil ?_
      refine X.thenN ?_
      refine St.condT h rfl ?_
      refine C.seq ?_
      refine C.region ?_
      refine St.get h rfl rfl rfl (G.assign rfl rfl) fun a h => ?_
      refine wpl_nil ?_
      refine X.thenN ?_
      refine C.ret ?_
      refine X.thenR ?_
      refine X.blkR ?_
      refine X.thenR ?_
      refine X.thenR ?_
      refine X.blkR ?_
      refine X.thenR ?_
      rotate_left
      refine St.getS h rfl rfl rfl (G.pickF rfl rfl rfl) fun a h => ?_
      refine St.getS h rfl rfl rfl (G.move rfl rfl) fun a h => ?_
      refine St.guardS_yes h rfl rfl rfl rfl rfl ?_
      refine St.getS h rfl rfl rfl (G.move rfl rfl) fun a h => ?_
      refine St.guardS_yes h rfl rfl rfl rfl rfl ?_
      refine St.getS h rfl rfl rfl (G.nilc rfl rfl) fun a h => ?_
      refine St.guardS_yes h rfl rfl rfl rfl rfl ?_
      refine St.getS h rfl rfl rfl (G.fadr 0 rfl rfl Try.underlying42 rfl rfl Try.sizeOf39) fun a h => ?_
      refine St.guardS_yes h rfl rfl rfl rfl rfl ?_
      refine St.getS h rfl rfl rfl (G.ld 1 0 rfl rfl rfl rfl rfl Try.isAgg39) fun a h => ?_
      refine St.guardS_yes h rfl rfl rfl rfl rfl ?_
      refine St.getS h rfl rfl rfl (G.move rfl rfl) fun a h => ?_
      refine St.guardS_yes h rfl rfl rfl rfl rfl ?_
      refine St.getS h rfl rfl rfl (G.idxo _ 2 rfl rfl rfl rfl (by omega) (by omega) (by omega) Try.underlying39 Try.sizeOf131) fun a h => ?_
      refine St.guardS_yes h rfl rfl rfl rfl rfl ?_
      refine St.getS h rfl rfl rfl (G.fadr 1 rfl rfl Try.underlying131 rfl rfl Try.sizeOf22) fun a h => ?_
      refine St.guardS_yes h rfl rfl rfl rfl rfl ?_
      refine St.getS h rfl rfl rfl (G.ldo _ 2 1 rfl (by assumption) rfl rfl rfl rfl rfl Try.isAgg22) fun a h => ?_
      refine St.guardS_yes h rfl rfl rfl rfl rfl ?_
      refine St.getS h rfl rfl rfl (G.fadr 2 rfl rfl Try.underlying80 rfl rfl Try.sizeOf22) fun a h => ?_
      refine St.guardS_yes h rfl rfl rfl rfl rfl ?_
      refine St.getS h rfl rfl rfl (G.ld 0 2 rfl rfl rfl rfl rfl Try.isAgg22) fun a h => ?_
      refine St.guardS_yes h rfl rfl rfl rfl rfl ?_
      refine St.getPS h rfl rfl rfl (G.bin rfl rfl rfl B.neq) (fun hc3 a h => ?_) (fun hc3 a h => ?_)
      refine St.getS h rfl rfl rfl (G.pickF rfl rfl rfl) fun a h => ?_
      refine St.getS h rfl rfl rfl (G.move rfl rfl) fun a h => ?_
      refine St.guardS_no h rfl rfl rfl rfl rfl (by decide) rfl rfl fun a h => ?_
      refine St.guardS_no h rfl rfl rfl rfl rfl (by decide) rfl rfl fun a h => ?_
      refine St.guardS_no h rfl rfl rfl rfl rfl (by decide) rfl rfl fun a h => ?_
      refine wps_nil ?_
      refine St.guard_no h rfl rfl rfl rfl rfl (by decide) rfl rfl fun a h => ?_
      refine St.guard_no h rfl rfl rfl rfl rfl (by decide) rfl rfl fun a h => ?_
      refine St.get h rfl rfl rfl (G.pickT rfl rfl rfl) fun a h => ?_
      refine wpl_nil ?_
      refine X.thenN ?_
      refine St.condT h rfl ?_
      refine C.seq ?_
      refine C.region ?_
      refine St.get h rfl rfl rfl (G.assign rfl rfl) fun a h => ?_
      refine wpl_nil ?_
      refine X.thenN ?_
      refine C.ret ?_
      refine X.thenR ?_
      refine X.blkR ?_
      refine X.thenR ?_
      refine X.thenR ?_
      refine X.blkR ?_
      refine X.thenR ?_
      rotate_left
      refine St.getS h rfl rfl rfl (G.pickF rfl rfl rfl) fun a h => ?_
      refine St.getS h rfl rfl rfl (G.move rfl rfl) fun a h => ?_
      refine St.guardS_yes h rfl rfl rfl rfl rfl ?_
      refine St.getS h rfl rfl rfl (G.move rfl rfl) fun a h => ?_
      refine St.guardS_yes h rfl rfl rfl rfl rfl ?_
      refine St.getS h rfl rfl rfl (G.fadr 1 rfl rfl Try.underlying80 rfl rfl Try.sizeOf3) fun a h => ?_
      refine St.guardS_yes h rfl rfl rfl rfl rfl ?_
      refine St.getS h rfl rfl rfl (G.ld 0 1 rfl rfl rfl rfl rfl Try.isAgg3) fun a h => ?_
      refine wps_nil ?_
      refine St.guard_yes h rfl rfl rfl rfl rfl ?_
      rotate_left
      refine St.get h rfl rfl rfl (G.move rfl rfl) fun a h => ?_
      refine St.guard_no h rfl rfl rfl rfl rfl (by decide) rfl rfl fun a h => ?_
      refine St.guard_no h rfl rfl rfl rfl rfl (by decide) rfl rfl fun a h => ?_
      refine St.guard_no h rfl rfl rfl rfl rfl (by decide) rfl rfl fun a h => ?_
      refine St.get h rfl rfl rfl (G.pickF rfl rfl rfl) fun a h => ?_
      refine St.get h rfl rfl rfl (G.move rfl rfl) fun a h => ?_
      refine St.guard_yes h rfl rfl rfl rfl rfl ?_
      refine St.get h rfl rfl rfl (G.fadr 0 rfl rfl Try.underlying80 rfl rfl Try.sizeOf3) fun a h => ?_
      refine St.guard_yes h rfl rfl rfl rfl rfl ?_
      refine St.get h rfl rfl rfl (G.ld 0 0 rfl rfl rfl rfl rfl Try.isAgg3) fun a h => ?_
      refine St.guard_yes h rfl rfl rfl rfl rfl ?_
      refine St.get h rfl rfl rfl (G.bin rfl rfl rfl (B.eqlT (by omega))) fun a h => ?_
      refine St.guard_yes h rfl rfl rfl rfl rfl ?_
      refine St.get h rfl rfl rfl (G.move rfl rfl) fun a h => ?_
      refine St.guard_yes h rfl rfl rfl rfl rfl ?_
      refine St.get h rfl rfl rfl (G.fadr 1 rfl rfl Try.underlying80 rfl rfl Try.sizeOf3) fun a h => ?_
      refine St.guard_yes h rfl rfl rfl rfl rfl ?_
      refine St.get h rfl rfl rfl (G.ld 0 1 rfl rfl rfl rfl rfl Try.isAgg3) fun a h => ?_
      refine St.guard_yes h rfl rfl rfl rfl rfl ?_
      refine St.getP h rfl rfl rfl (G.bin rfl rfl rfl B.neq) (fun hc1 a h => ?_) (fun hc1 a h => ?_)
      refine St.guard_yes h rfl rfl rfl rfl rfl ?_
      refine St.get h rfl rfl rfl (G.pickT rfl rfl rfl) fun a h => ?_
      refine St.get h rfl rfl rfl (G.pickF rfl rfl rfl) fun a h => ?_
      refine wpl_nil ?_
      refine X.thenN ?_
      refine St.condT h rfl ?_
      refine C.seq ?_
      refine C.region ?_
      refine St.get h rfl rfl rfl (G.assign rfl rfl) fun a h => ?_
      refine wpl_nil ?_
      refine X.thenN ?_
      refine C.ret ?_
      refine X.thenR ?_
      refine X.blkR ?_
      refine X.thenR ?_
      refine X.thenR ?_
      refine X.blkR ?_
      refine X.thenR ?_
      rotate_left
      refine St.guard_yes h rfl rfl rfl rfl rfl ?_
      refine St.get h rfl rfl rfl (G.pickT rfl rfl rfl) fun a h => ?_
      refine St.get h rfl rfl rfl (G.pickF rfl rfl rfl) fun a h => ?_
      refine wpl_nil ?_
      refine X.thenN ?_
      refine St.condF h rfl ?_
      refine C.skip ?_
      refine X.thenN ?_
      refine C.seq ?_
      refine C.region ?_
      refine St.get h rfl rfl rfl (G.fadr 0 rfl rfl Try.underlying80 rfl rfl Try.sizeOf3) fun a h => ?_
      refine St.get h rfl rfl rfl (G.ld 0 0 rfl rfl rfl rfl rfl Try.isAgg3) fun a h => ?_
      refine St.get h rfl rfl rfl (G.bin rfl rfl rfl (B.eqlF (by omega))) fun a h => ?_
      refine wpl_nil ?_
      refine X.thenN ?_
      refine St.condF h rfl ?_
      refine C.skip ?_
      refine X.blkN ?_
      refine X.thenN ?_
      refine C.region ?_
      refine St.get h rfl rfl rfl (G.move rfl rfl) fun a h => ?_
      refine St.get h rfl rfl rfl (G.bin rfl rfl rfl (B.addi (by omega) (by omega))) fun a h => ?_
      refine St.get h rfl rfl rfl (G.assign rfl rfl) fun a h => ?_
      refine wpl_nil ?_
      refine X.thenN ?_
      rotate_left
      · rw [if_pos (by omega)] at hf
        replace h := h.fold [1, 2, 3, 4] rfl ((RAt_mk gi ci gw cw ws hw))
        replace h := h.conv (sl' := _) (L' := [_, cells _ _ [_, _, _], _]) rfl rfl
        replace h := h.sel [0] rfl
        replace h := h.conv (sl' := _) (L' := [_]) rfl rfl
        exact h.ret1 Try.results87 rfl (Ent.refl _) (⟨by rw [rightR, hf]; rfl, rfl⟩)
      · rw [if_neg (by omega), if_pos (by omega), if_pos (by omega)] at hf
        replace h := h.fold [1, 2, 3, 4] rfl ((RAt_mk gi ci gw cw ws hw))
        replace h := h.conv (sl' := _) (L' := [_, cells _ _ [_, _, _], _]) rfl rfl
        replace h := h.sel [0] rfl
        replace h := h.conv (sl' := _) (L' := [_]) rfl rfl
        exact h.ret1 Try.results87 rfl (Ent.refl _) (⟨by rw [rightR, hf]; rfl, rfl⟩)
      · rw [if_neg (by omega), if_pos (by omega), if_pos (by omega)] at hf
        replace h := h.fold [1, 2, 3, 4] rfl ((RAt_mk gi ci gw cw ws hw))
        replace h := h.conv (sl' := _) (L' := [_, cells _ _ [_, _, _], _]) rfl rfl
        replace h := h.sel [0] rfl
        replace h := h.conv (sl' := _) (L' := [_]) rfl rfl
        exact h.ret1 Try.results87 rfl (Ent.refl _) (⟨by rw [rightR, hf]; rfl, rfl⟩)
      · refine St.callD h [1, 2, 2] rfl (Ro.nil _) (hts) rfl rfl rfl Try.call84 rfl rfl fun a w h => ?_
        replace h := h.conv (sl' := _) (L' := [cells _ _ [_, _, _], _, _, cells _ _ [_, _, _], _, _]) rfl rfl
        refine St.guard_yes h rfl rfl rfl rfl rfl ?_
        refine St.getP h rfl rfl rfl (G.bin rfl rfl rfl B.neq) (fun hc4 a h => ?_) (fun hc4 a h => ?_)
        refine St.get h rfl rfl rfl (G.pickF rfl rfl rfl) fun a h => ?_
        refine wpl_nil ?_
        refine X.thenN ?_
        refine St.condT h rfl ?_
        refine C.seq ?_
        refine C.region ?_
        refine St.get h rfl rfl rfl (G.assign rfl rfl) fun a h => ?_
        refine wpl_nil ?_
        refine X.thenN ?_
        refine C.ret ?_
        refine X.thenR ?_
        refine X.blkR ?_
        refine X.thenR ?_
        refine X.thenR ?_
        refine X.blkR ?_
        refine X.thenR ?_
        rotate_left
        refine St.get h rfl rfl rfl (G.pickF rfl rfl rfl) fun a h => ?_
        refine wpl_nil ?_
        refine X.thenN ?_
        refine St.condF h rfl ?_
        refine C.skip ?_
        refine X.thenN ?_
        refine C.region ?_
        refine St.get h rfl rfl rfl (G.move rfl rfl) fun a h => ?_
        refine St.get h rfl rfl rfl (G.bin rfl rfl rfl (B.addi (by omega) (by omega))) fun a h => ?_
        refine St.get h rfl rfl rfl (G.assign rfl rfl) fun a h => ?_
        refine wpl_nil ?_
        refine X.blkN ?_
        refine X.thenN ?_
        refine C.region ?_
        refine St.get h rfl rfl rfl (G.move rfl rfl) fun a h => ?_
        refine St.get h rfl rfl rfl (G.bin rfl rfl rfl (B.addi (by omega) (by omega))) fun a h => ?_
        refine St.get h rfl rfl rfl (G.assign rfl rfl) fun a h => ?_
        refine wpl_nil ?_
        refine X.thenN ?_
        rotate_left
        · rw [if_neg (by omega), if_pos (by omega), if_pos (by omega)] at hf
          replace h := h.fold [0, 4, 1, 2] rfl ((RAt_mk gi ci gw cw ws hw))
          replace h := h.conv (sl' := _) (L' := [_, cells _ _ [_, _, _], _]) rfl rfl
          replace h := h.sel [0] rfl
          replace h := h.conv (sl' := _) (L' := [_]) rfl rfl
          exact h.ret1 Try.results87 rfl (Ent.refl _) (⟨by rw [rightR, hf]; rfl, rfl⟩)
        · rw [if_neg (by omega), if_pos (by omega), if_neg (by omega)] at hf
          replace h := h.sel [0, 4, 1, 2, 5] rfl
          replace h := h.conv (sl' := _) (L' := [cells _ _ [_, _, _], _, _, _, _]) rfl rfl
          exact ⟨m - 1, by omega, i + 1, k + 1, by omega, by omega, hf, h.sub ⟨rfl, rfl, rfl, rfl, trivial⟩⟩
      · rw [if_pos (by omega)] at hf
        replace h := h.fold [1, 2, 3, 4] rfl ((RAt_mk gi ci gw cw ws hw))
        replace h := h.conv (sl' := _) (L' := [_, cells _ _ [_, _, _], _]) rfl rfl
        replace h := h.sel [0] rfl
        replace h := h.conv (sl' := _) (L' := [_]) rfl rfl
        exact h.ret1 Try.results87 rfl (Ent.refl _) (⟨by rw [rightR, hf]; rfl, rfl⟩)
      · rw [if_neg (by omega), if_neg (by omega), ← drop_cons hy] at hf
        replace h := h.sel [1, 2, 3, 4, 5] rfl
        replace h := h.conv (sl' := _) (L' := [cells _ _ [_, _, _], _, _, _, _]) rfl rfl
        exact ⟨m - 1, by omega, i + 1, k, by omega, by omega, hf, h.sub ⟨rfl, rfl, rfl, rfl, trivial⟩⟩
    · have hnil : q.items.drop k = [] := List.drop_eq_nil_of_le (by omega)
      rw [hnil, rightRG_cn] at hf
      refine C.seq ?_
      refine C.seq ?_
      refine C.region ?_
      refine St.get h rfl rfl rfl (G.move rfl rfl) fun a h => ?_
      refine St.get h rfl rfl rfl (G.move rfl rfl) fun a h => ?_
      refine St.get h rfl rfl rfl (G.lens rfl rfl Try.underlying23) fun a h => ?_
      refine St.get h rfl rfl rfl (G.bin rfl rfl rfl (B.lssT (by omega))) fun a h => ?_
      refine wpl_nil ?_
      refine X.thenN ?_
      refine St.condT h rfl ?_
      refine C.skip ?_
      refine X.thenN ?_
      refine C.seq ?_
      refine C.block ?_
      refine C.seq ?_
      refine C.region ?_
      refine St.get h rfl rfl rfl (G.move rfl rfl) fun a h => ?_
      refine St.get h rfl rfl rfl (G.move rfl rfl) fun a h => ?_
      refine St.get h rfl rfl rfl (G.idxr _ 4 rfl rfl rfl rfl (by omega) (by omega) (by omega) Try.underlying23 Try.sizeOf80) fun a h => ?_
      refine St.get h rfl rfl rfl (G.ldea _ 4 rfl (by assumption) rfl rfl rfl rfl Try.isAgg80 Try.sizeOf80) fun a h => ?_
      replace h := h.conv (sl' := (_, .agg #[_, _, _]) :: _) (L' := _) rfl rfl
      refine St.alloc h Try.zeroValue80 rfl rfl rfl rfl fun b1 a w h => ?_
      replace h := h.conv (sl' := _) (L' := [cells _ _ [_, _, _], cells _ _ [_, _, _], _, _, _, _]) rfl rfl
      refine St.put h rfl rfl (U.sta 0 0 rfl rfl rfl rfl rfl rfl (by simp [Value.oneCell']) Try.sizeOf80 rfl) fun a w h => ?_
      replace h := h.conv (sl' := _) (L' := [cells _ _ [_, _, _], cells _ _ [_, _, _], _, _, _, _]) rfl rfl
      refine wpl_nil ?_
      refine X.thenN ?_
      refine C.seq ?_
      refine C.seq ?_
      refine C.region ?_
      refine St.get h rfl rfl rfl (G.fadr 0 rfl rfl Try.underlying80 rfl rfl Try.sizeOf3) fun a h => ?_
      refine St.get h rfl rfl rfl (G.ld 0 0 rfl rfl rfl rfl rfl Try.isAgg3) fun a h => ?_
      refine St.getP h rfl rfl rfl (G.bin rfl rfl rfl B.neq) (fun hc a h => ?_) (fun hc a h => ?_)
      refine St.get h rfl rfl rfl (G.move rfl rfl) fun a h => ?_
      refine St.guard_yes h rfl rfl rfl rfl rfl ?_
      refine St.get h rfl rfl rfl (G.fadr 0 rfl rfl Try.underlying80 rfl rfl Try.sizeOf3) fun a h => ?_
      refine St.guard_yes h rfl rfl rfl rfl rfl ?_
      refine St.get h rfl rfl rfl (G.ld 0 0 rfl rfl rfl rfl rfl Try.isAgg3) fun a h => ?_
      refine St.guard_yes h rfl rfl rfl rfl rfl ?_
      refine St.getP h rfl rfl rfl (G.bin rfl rfl rfl B.neq) (fun hc1 a h => ?_) (fun hc1 a h => ?_)
      refine St.get h rfl rfl rfl (G.pickT rfl rfl rfl) fun a h => ?_
      refine St.get h rfl rfl rfl (G.move rfl rfl) fun a h => ?_
      refine St.guard_no h rfl rfl rfl rfl rfl (by decide) rfl rfl fun a h => ?_
      refine St.guard_no h rfl rfl rfl rfl rfl (by decide) rfl rfl fun a h => ?_
      refine St.guard_no h rfl rfl rfl rfl rfl (by decide) rfl rfl fun a h => ?_
      refine St.guard_no h rfl rfl rfl rfl rfl (by decide) rfl rfl fun a h => ?_
      refine St.guard_noU h rfl rfl rfl rfl rfl rfl rfl fun a h => ?_
      refine St.guard_noU h rfl rfl rfl rfl rfl rfl rfl fun a h => ?_
      refine St.guard_noU h rfl rfl rfl rfl rfl rfl rfl fun a h => ?_
      refine St.guard_no h rfl rfl rfl rfl rfl (by decide) rfl rfl fun a h => ?_
      refine St.get h rfl rfl rfl (G.pickT rfl rfl rfl) fun a h => ?_
      refine wpl_nil ?_
      refine X.thenN ?_
      refine St.condT h rfl ?_
      refine C.seq ?_
      refine C.region ?_
      refine St.get h rfl rfl rfl (G.assign rfl rfl) fun a h => ?_
      refine wpl_nil ?_
      refine X.thenN ?_
      refine C.ret ?_
      refine X.thenR ?_
      refine X.blkR ?_
      refine X.thenR ?_
      refine X.thenR ?_
      refine X.blkR ?_
      refine X.thenR ?_
      rotate_left
      refine St.get h rfl rfl rfl (G.pickT rfl rfl rfl) fun a h => ?_
      refine St.get h rfl rfl rfl (G.move rfl rfl) fun a h => ?_
      refine St.guard_yes h rfl rfl rfl rfl rfl ?_
      refine St.get h rfl rfl rfl (G.fadr 0 rfl rfl Try.underlying80 rfl rfl Try.sizeOf3) fun a h => ?_
      refine St.guard_yes h rfl rfl rfl rfl rfl ?_
      refine St.get h rfl rfl rfl (G.ld 0 0 rfl rfl rfl rfl rfl Try.isAgg3) fun a h => ?_
      refine St.guard_yes h rfl rfl rfl rfl rfl ?_
      refine St.get h rfl rfl rfl (G.bin rfl rfl rfl (B.eqlF (by omega))) fun a h => ?_
      refine St.guard_yes h rfl rfl rfl rfl rfl ?_
      refine St.get h rfl rfl rfl (G.move rfl rfl) fun a h => ?_
      refine St.guard_no h rfl rfl rfl rfl rfl (by decide) rfl rfl fun a h => ?_
      refine St.guard_no h rfl rfl rfl rfl rfl (by decide) rfl rfl fun a h => ?_
      refine St.guard_no h rfl rfl rfl rfl rfl (by decide) rfl rfl fun a h => ?_
      refine St.guard_yes h rfl rfl rfl rfl rfl ?_
      refine St.get h rfl rfl rfl (G.pickF rfl rfl rfl) fun a h => ?_
      refine St.get h rfl rfl rfl (G.pickF rfl rfl rfl) fun a h => ?_
      refine wpl_nil ?_
      refine X.thenN ?_
      refine St.condF h rfl ?_
      refine C.skip ?_
      refine X.thenN ?_
      refine C.seq ?_
      refine C.region ?_
      refine St.get h rfl rfl rfl (G.fadr 0 rfl rfl Try.underlying80 rfl rfl Try.sizeOf3) fun a h => ?_
      refine St.get h rfl rfl rfl (G.ld 0 0 rfl rfl rfl rfl rfl Try.isAgg3) fun a h => ?_
      refine St.get h rfl rfl rfl (G.bin rfl rfl rfl (B.eqlT (by omega))) fun a h => ?_
      refine wpl_nil ?_
      refine X.thenN ?_
      refine St.condT h rfl ?_
      refine C.seq ?_
      refine C.seq ?_
      refine C.stillTail Try_mixed 37 h (by decide +kernel) fun w h => ?_
      refine St.getS h rfl rfl rfl (G.move rfl rfl) fun a h => ?_
      refine St.getS h rfl rfl rfl (G.move rfl rfl) fun a h => ?_
      refine St.getS h rfl rfl rfl (G.nilc rfl rfl) fun a h => ?_
      refine St.getS h rfl rfl rfl (G.fadr 0 rfl rfl Try.underlying42 rfl rfl Try.sizeOf39) fun a h => ?_
      refine St.getS h rfl rfl rfl (G.ld 1 0 rfl rfl rfl rfl rfl Try.isAgg39) fun a h => ?_
      refine St.getS h rfl rfl rfl (G.lens rfl rfl Try.underlying39) fun a h => ?_
      refine St.getS h rfl rfl rfl (G.bin rfl rfl rfl (B.geqT (by omega))) fun a h => ?_
      refine St.getS h rfl rfl rfl (G.move rfl rfl) fun a h => ?_
      refine St.guardS_no h rfl rfl rfl rfl rfl (by decide) rfl rfl fun a h => ?_
      refine St.guardS_no h rfl rfl rfl rfl rfl (by decide) rfl rfl fun a h => ?_
      refine St.guardS_no h rfl rfl rfl rfl rfl (by decide) rfl rfl fun a h => ?_
      refine St.guardS_no h rfl rfl rfl rfl rfl (by decide) rfl rfl fun a h => ?_
      refine St.guardS_no h rfl rfl rfl rfl rfl (by decide) rfl rfl fun a h => ?_
      refine St.guardS_no h rfl rfl rfl rfl rfl (by decide) rfl rfl fun a h => ?_
      refine St.guardS_no h rfl rfl rfl rfl rfl (by decide) rfl rfl fun a h => ?_
      refine St.guardS_no h rfl rfl rfl rfl rfl (by decide) rfl rfl fun a h => ?_
      refine St.guardS_no h rfl rfl rfl rfl rfl (by decide) rfl rfl fun a h => ?_
      refine St.guardS_no h rfl rfl rfl rfl rfl (by decide) rfl rfl fun a h => ?_
      refine St.guardS_no h rfl rfl rfl rfl rfl (by decide) rfl rfl fun a h => ?_
      refine St.getS h rfl rfl rfl (G.pickT rfl rfl rfl) fun a h => ?_
      refine St.getS h rfl rfl rfl (G.move rfl rfl) fun a h => ?_
      refine St.guardS_no h rfl rfl rfl rfl rfl (by decide) rfl rfl fun a h => ?_
      refine St.guardS_no h rfl rfl rfl rfl rfl (by decide) rfl rfl fun a h => ?_
      refine St.guardS_no h rfl rfl rfl rfl rfl (by decide) rfl rfl fun a h => ?_
      refine St.guardS_no h rfl rfl rfl rfl rfl (by decide) rfl rfl fun a h => ?_
      refine St.guardS_no h rfl rfl rfl rfl rfl (by decide) rfl rfl fun a h => ?_
      refine St.guardS_no h rfl rfl rfl rfl rfl (by decide) rfl rfl fun a h => ?_
      refine St.guardS_no h rfl rfl rfl rfl rfl (by decide) rfl rfl fun a h => ?_
      refine St.guardS_no h rfl rfl rfl rfl rfl (by decide) rfl rfl fun a h => ?_
      refine St.guardS_no h rfl rfl rfl rfl rfl (by decide) rfl rfl fun a h => ?_
      refine St.guardS_no h rfl rfl rfl rfl rfl (by decide) rfl rfl fun a h => ?_
      refine St.guardS_no h rfl rfl rfl rfl rfl (by decide) rfl rfl fun a h => ?_
      refine St.getS h rfl rfl rfl (G.pickT rfl rfl rfl) fun a h => ?_
      refine St.getS h rfl rfl rfl (G.move rfl rfl) fun a h => ?_
      refine St.guardS_no h rfl rfl rfl rfl rfl (by decide) rfl rfl fun a h => ?_
      refine St.guardS_no h rfl rfl rfl rfl rfl (by decide) rfl rfl fun a h => ?_
      refine St.guardS_no h rfl rfl rfl rfl rfl (by decide) rfl rfl fun a h => ?_
      refine wps_nil ?_
      refine St.guard_no h rfl rfl rfl rfl rfl (by decide) rfl rfl fun a h => ?_
      refine St.guard_no h rfl rfl rfl rfl rfl (by decide) rfl rfl fun a h => ?_
      refine St.get h rfl rfl rfl (G.pickT rfl rfl rfl) fun a h => ?_
      refine wpl_nil ?_
      refine X.thenN ?_
      refine St.condT h rfl ?_
      refine C.seq ?_
      refine C.region ?_
      refine St.get h rfl rfl rfl (G.assign rfl rfl) fun a h => ?_
      refine wpl_nil ?_
      refine X.thenN ?_
      refine C.ret ?_
      refine X.thenR ?_
      refine X.blkR ?_
      refine X.thenR ?_
      refine X.thenR ?_
      refine X.blkR ?_
      refine X.thenR ?_
      rotate_left
      refine St.get h rfl rfl rfl (G.move rfl rfl) fun a h => ?_
      refine St.guard_no h rfl rfl rfl rfl rfl (by decide) rfl rfl fun a h => ?_
      refine St.guard_no h rfl rfl rfl rfl rfl (by decide) rfl rfl fun a h => ?_
      refine St.guard_no h rfl rfl rfl rfl rfl (by decide) rfl rfl fun a h => ?_
      refine St.get h rfl rfl rfl (G.pickF rfl rfl rfl) fun a h => ?_
      refine St.get h rfl rfl rfl (G.move rfl rfl) fun a h => ?_
      refine St.guard_yes h rfl rfl rfl rfl rfl ?_
      refine St.get h rfl rfl rfl (G.fadr 0 rfl rfl Try.underlying80 rfl rfl Try.sizeOf3) fun a h => ?_
      refine St.guard_yes h rfl rfl rfl rfl rfl ?_
      refine St.get h rfl rfl rfl (G.ld 0 0 rfl rfl rfl rfl rfl Try.isAgg3) fun a h => ?_
      refine St.guard_yes h rfl rfl rfl rfl rfl ?_
      refine St.get h rfl rfl rfl (G.bin rfl rfl rfl (B.eqlT (by omega))) fun a h => ?_
      refine St.guard_yes h rfl rfl rfl rfl rfl ?_
      refine St.get h rfl rfl rfl (G.move rfl rfl) fun a h => ?_
      refine St.guard_yes h rfl rfl rfl rfl rfl ?_
      refine St.get h rfl rfl rfl (G.fadr 1 rfl rfl Try.underlying80 rfl rfl Try.sizeOf3) fun a h => ?_
      refine St.guard_yes h rfl rfl rfl rfl rfl ?_
      refine St.get h rfl rfl rfl (G.ld 0 1 rfl rfl rfl rfl rfl Try.isAgg3) fun a h => ?_
      refine St.guard_yes h rfl rfl rfl rfl rfl ?_
      refine St.getP h rfl rfl rfl (G.bin rfl rfl rfl B.neq) (fun hc1 a h => ?_) (fun hc1 a h => ?_)
      refine St.guard_yes h rfl rfl rfl rfl rfl ?_
      refine St.get h rfl rfl rfl (G.pickT rfl rfl rfl) fun a h => ?_
      refine St.get h rfl rfl rfl (G.pickF rfl rfl rfl) fun a h => ?_
      refine wpl_nil ?_
      refine X.thenN ?_
      refine St.condT h rfl ?_
      refine C.seq ?_
      refine C.region ?_
      refine St.get h rfl rfl rfl (G.assign rfl rfl) fun a h => ?_
      refine wpl_nil ?_
      refine X.thenN ?_
      refine C.ret ?_
      refine X.thenR ?_
      refine X.blkR ?_
      refine X.thenR ?_
      refine X.thenR ?_
      refine X.blkR ?_
      refine X.thenR ?_
      rotate_left
      refine St.guard_yes h rfl rfl rfl rfl rfl ?_
      refine St.get h rfl rfl rfl (G.pickT rfl rfl rfl) fun a h => ?_
      refine St.get h rfl rfl rfl (G.pickF rfl rfl rfl) fun a h => ?_
      refine wpl_nil ?_
      refine X.thenN ?_
      refine St.condF h rfl ?_
      refine C.skip ?_
      refine X.thenN ?_
      refine C.seq ?_
      refine C.region ?_
      refine St.get h rfl rfl rfl (G.fadr 0 rfl rfl Try.underlying80 rfl rfl Try.sizeOf3) fun a h => ?_
      refine St.get h rfl rfl rfl (G.ld 0 0 rfl rfl rfl rfl rfl Try.isAgg3) fun a h => ?_
      refine St.get h rfl rfl rfl (G.bin rfl rfl rfl (B.eqlF (by omega))) fun a h => ?_
      refine wpl_nil ?_
      refine X.thenN ?_
      refine St.condF h rfl ?_
      refine C.skip ?_
      refine X.blkN ?_
      refine X.thenN ?_
      refine C.region ?_
      refine St.get h rfl rfl rfl (G.move rfl rfl) fun a h => ?_
      refine St.get h rfl rfl rfl (G.bin rfl rfl rfl (B.addi (by omega) (by omega))) fun a h => ?_
      refine St.get h rfl rfl rfl (G.assign rfl rfl) fun a h => ?_
      refine wpl_nil ?_
      refine X.thenN ?_
      rotate_left
      · rw [if_pos (by omega)] at hf
        replace h := h.fold [1, 2, 3, 4] rfl ((RAt_mk gi ci gw cw ws hw))
        replace h := h.conv (sl' := _) (L' := [_, cells _ _ [_, _, _], _]) rfl rfl
        replace h := h.sel [0] rfl
        replace h := h.conv (sl' := _) (L' := [_]) rfl rfl
        exact h.ret1 Try.results87 rfl (Ent.refl _) (⟨by rw [rightR, hf]; rfl, rfl⟩)
      · rw [if_neg (by omega), if_pos (by omega)] at hf
        replace h := h.fold [1, 2, 3, 4] rfl ((RAt_mk gi ci gw cw ws hw))
        replace h := h.conv (sl' := _) (L' := [_, cells _ _ [_, _, _], _]) rfl rfl
        replace h := h.sel [0] rfl
        replace h := h.conv (sl' := _) (L' := [_]) rfl rfl
        exact h.ret1 Try.results87 rfl (Ent.refl _) (⟨by rw [rightR, hf]; rfl, rfl⟩)
      · rw [if_pos (by omega)] at hf
        replace h := h.fold [1, 2, 3, 4] rfl ((RAt_mk gi ci gw cw ws hw))
        replace h := h.conv (sl' := _) (L' := [_, cells _ _ [_, _, _], _]) rfl rfl
        replace h := h.sel [0] rfl
        replace h := h.conv (sl' := _) (L' := [_]) rfl rfl
        exact h.ret1 Try.results87 rfl (Ent.refl _) (⟨by rw [rightR, hf]; rfl, rfl⟩)
      · rw [if_neg (by omega), if_neg (by omega), ← hnil] at hf
        replace h := h.sel [1, 2, 3, 4, 5] rfl
        replace h := h.conv (sl' := _) (L' := [cells _ _ [_, _, _], _, _, _, _]) rfl rfl
        exact ⟨m - 1, by omega, i + 1, k, by omega, by omega, hf, h.sub ⟨rfl, rfl, rfl, rfl, trivial⟩⟩
  · rw [List.drop_eq_nil_of_le (by omega)] at hf
    have hf' : rightRG q.works l q.items = true := hf
    refine C.seq ?_
    refine C.seq ?_
    refine C.region ?_
    refine St.get h rfl rfl rfl (G.move rfl rfl) fun a h => ?_
    refine St.get h rfl rfl rfl (G.move rfl rfl) fun a h => ?_
    refine St.get h rfl rfl rfl (G.lens rfl rfl Try.underlying23) fun a h => ?_
    refine St.get h rfl rfl rfl (G.bin rfl rfl rfl (B.lssF (by omega))) fun a h => ?_
    refine wpl_nil ?_
    refine X.thenN ?_
    refine St.condF h rfl ?_
    refine C.exit ?_
    refine X.thenE ?_
    refine X.thenE ?_
    refine X.blkE ?_
    refine X.thenN ?_
    refine C.seq ?_
    refine C.region ?_
    refine St.get h rfl rfl rfl (G.move rfl rfl) fun a h => ?_
    refine St.callD h [] rfl (Ro.cons 4 rfl (rdl_ro _ _ _) (Ro.nil _)) ((Puts_spec g c l)) rfl rfl rfl Try.call102 rfl rfl fun a w h => ?_
    replace h := h.conv (sl' := _) (L' := [cells _ _ [_, _, _], _, _, _, _]) rfl rfl
    refine St.getP h rfl rfl rfl (G.bin rfl rfl rfl B.eql) (fun hc a h => ?_) (fun hc a h => ?_)
    refine St.get h rfl rfl rfl (G.move rfl rfl) fun a h => ?_
    refine St.guard_no h rfl rfl rfl rfl rfl (by decide) rfl rfl fun a h => ?_
    refine St.guard_no h rfl rfl rfl rfl rfl (by decide) rfl rfl fun a h => ?_
    refine St.guard_no h rfl rfl rfl rfl rfl (by decide) rfl rfl fun a h => ?_
    refine St.guard_no h rfl rfl rfl rfl rfl (by decide) rfl rfl fun a h => ?_
    refine St.guard_no h rfl rfl rfl rfl rfl (by decide) rfl rfl fun a h => ?_
    refine St.get h rfl rfl rfl (G.pickT rfl rfl rfl) fun a h => ?_
    refine St.get h rfl rfl rfl (G.assign rfl rfl) fun a h => ?_
    refine wpl_nil ?_
    refine X.thenN ?_
    refine C.ret ?_
    rotate_left
    refine St.get h rfl rfl rfl (G.move rfl rfl) fun a h => ?_
    refine St.guard_yes h rfl rfl rfl rfl rfl ?_
    refine St.get h rfl rfl rfl (G.move rfl rfl) fun a h => ?_
    refine St.guard_yes h rfl rfl rfl rfl rfl ?_
    rotate_left
    · replace h := h.fold [0, 1, 2, 3] rfl ((RAt_mk gi ci gw cw ws hw))
      replace h := h.conv (sl' := _) (L' := [_, _]) rfl rfl
      replace h := h.sel [0] rfl
      replace h := h.conv (sl' := _) (L' := [_]) rfl rfl
      exact h.ret1 Try.results87 rfl (Ent.refl _) (⟨by rw [rightR, hf', Bool.true_and, decide_eq_true (by omega)], rfl⟩)
    · refine St.callD h [] rfl (Ro.cons 4 rfl (rdl_ro _ _ _) (Ro.nil _)) ((Puts_spec g c l)) rfl rfl rfl Try.call102 rfl rfl fun a w h => ?_
      replace h := h.conv (sl' := _) (L' := [cells _ _ [_, _, _], _, _, _, _]) rfl rfl
      refine St.guard_yes h rfl rfl rfl rfl rfl ?_
      refine St.get h rfl rfl rfl (G.move rfl rfl) fun a h => ?_
      refine St.guard_yes h rfl rfl rfl rfl rfl ?_
      replace h := h.fold [0, 1, 2, 3] rfl ((RAt_mk gi ci gw cw ws hw))
      replace h := h.conv (sl' := _) (L' := [_, _]) rfl rfl
      refine St.callD h [0] rfl (Ro.nil _) ((Room_spec b o q hq)) rfl rfl rfl Try.call82 rfl rfl fun a w h => ?_
      replace h := h.conv (sl' := _) (L' := [_, _]) rfl rfl
      refine St.guard_yes h rfl rfl rfl rfl rfl ?_
      refine St.getP h rfl rfl rfl (G.bin rfl rfl rfl B.leq) (fun hc1 a h => ?_) (fun hc1 a h => ?_)
      refine St.get h rfl rfl rfl (G.pickF rfl rfl rfl) fun a h => ?_
      refine St.get h rfl rfl rfl (G.assign rfl rfl) fun a h => ?_
      refine wpl_nil ?_
      refine X.thenN ?_
      refine C.ret ?_
      rotate_left
      refine St.get h rfl rfl rfl (G.pickF rfl rfl rfl) fun a h => ?_
      refine St.get h rfl rfl rfl (G.assign rfl rfl) fun a h => ?_
      refine wpl_nil ?_
      refine X.thenN ?_
      refine C.ret ?_
      rotate_left
      · replace h := h.sel [0] rfl
        replace h := h.conv (sl' := _) (L' := [_]) rfl rfl
        exact h.ret1 Try.results87 rfl (Ent.refl _) (⟨by rw [rightR, hf', Bool.true_and, decide_eq_true (by omega)], rfl⟩)
      · replace h := h.sel [0] rfl
        replace h := h.conv (sl' := _) (L' := [_]) rfl rfl
        exact h.ret1 Try.results87 rfl (Ent.refl _) (⟨by rw [rightR, hf', Bool.true_and, decide_eq_false (by omega)], rfl⟩)
end Go.Proofs.Ytllhegccpknncaa
