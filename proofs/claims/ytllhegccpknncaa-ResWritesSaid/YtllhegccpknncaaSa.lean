/-
  The resources: New, fit, mark, Put, Del, Get, Push, Pop, Prepare.
-/
import Derived.Test.YtllhegccpknncaaSmd
import Derived.Test.YtllhegccpknncaaKb
import Derived.Test.YtllhegccpknncaaQa
import Derived.Test.YtllhegccpknncaaSeat
set_option linter.unusedVariables false
set_option linter.unusedSimpArgs false
set_option linter.unusedSectionVars false
set_option maxRecDepth 8000
namespace Go.Proofs.Ytllhegccpknncaa
open Go.Tr
theorem Sfit_nil (n : Int) : Meets Try.prog 63 #[.pointer none, .int .i64 n] [] (Det (.int .i64 6) []) := by
  refine Meets.of_code Try.func63 rfl Try.ntmps63 rfl fun w0 S R a h => ?_
  refine C.seq ?_
  refine C.region ?_
  refine St.get h rfl rfl rfl (G.assign rfl rfl) fun a h => ?_
  refine wpl_nil ?_
  refine X.thenN ?_
  refine C.seq ?_
  refine C.block ?_
  refine C.seq ?_
  refine C.region ?_
  refine St.get h rfl rfl rfl (G.move rfl rfl) fun a h => ?_
  refine St.get h rfl rfl rfl (G.bin rfl rfl rfl (B.peql Try.underlying55 _)) fun a h => ?_
  refine St.get h rfl rfl rfl (G.assign rfl rfl) fun a h => ?_
  refine wpl_nil ?_
  refine X.thenN ?_
  refine St.condT h rfl ?_
  refine C.seq ?_
  refine C.region ?_
  refine St.get h rfl rfl rfl (G.assign rfl rfl) fun a h => ?_
  refine wpl_nil ?_
  refine X.thenN ?_
  refine C.ret ?_
  refine X.blkR ?_
  refine X.thenR ?_
  exact h.ret1 Try.results63 rfl (Ent.refl _) (⟨rfl, rfl⟩)
theorem Sfit_spec (b : Nat) (s : SM) (n : Int) : Meets Try.prog 63 #[.pointer (some ⟨b, 0, none⟩), .int .i64 n] [SAt b s] (Det (.int .i64 (fitS s n)) [SAt b s]) := by
  refine Meets.of_code Try.func63 rfl Try.ntmps63 rfl fun w0 S R a h => ?_
  obtain ⟨A0, A1, h⟩ := h.openS 0 rfl
  replace h := h.conv (sl' := _) (L' := [_, _, cells _ _ [_, _], _, _]) rfl rfl
  refine C.seq ?_
  refine C.region ?_
  refine St.get h rfl rfl rfl (G.assign rfl rfl) fun a h => ?_
  refine wpl_nil ?_
  refine X.thenN ?_
  refine C.seq ?_
  refine C.block ?_
  refine C.seq ?_
  refine C.region ?_
  refine St.get h rfl rfl rfl (G.move rfl rfl) fun a h => ?_
  refine St.get h rfl rfl rfl (G.bin rfl rfl rfl (B.peql Try.underlying55 _)) fun a h => ?_
  refine St.get h rfl rfl rfl (G.assign rfl rfl) fun a h => ?_
  refine wpl_nil ?_
  refine X.thenN ?_
  refine St.condF h rfl ?_
  refine C.seq ?_
  refine C.region ?_
  refine St.get h rfl rfl rfl (G.move rfl rfl) fun a h => ?_
  refine St.getP h rfl rfl rfl (G.bin rfl rfl rfl B.lss) (fun hc a h => ?_) (fun hc a h => ?_)
  refine St.get h rfl rfl rfl (G.assign rfl rfl) fun a h => ?_
  refine wpl_nil ?_
  refine X.thenN ?_
  refine St.condT h rfl ?_
  refine C.seq ?_
  refine C.region ?_
  refine St.get h rfl rfl rfl (G.assign rfl rfl) fun a h => ?_
  refine wpl_nil ?_
  refine X.thenN ?_
  refine C.ret ?_
  refine X.blkR ?_
  refine X.thenR ?_
  rotate_left
  refine St.get h rfl rfl rfl (G.assign rfl rfl) fun a h => ?_
  refine wpl_nil ?_
  refine X.thenN ?_
  refine St.condF h rfl ?_
  refine C.seq ?_
  refine C.region ?_
  refine St.get h rfl rfl rfl (G.move rfl rfl) fun a h => ?_
  refine St.get h rfl rfl rfl (G.nilc rfl rfl) fun a h => ?_
  refine St.get h rfl rfl rfl (G.fadr 37 rfl rfl Try.underlying111 rfl rfl Try.sizeOf109) fun a h => ?_
  refine St.get h rfl rfl rfl (G.idxa1 rfl rfl rfl (by omega) (by omega) Try.underlying109 Try.sizeOf108) fun a h => ?_
  refine St.get h rfl rfl rfl (G.ld 2 0 rfl rfl rfl rfl rfl Try.isAgg108) fun a h => ?_
  refine St.get h rfl rfl rfl (G.move rfl rfl) fun a h => ?_
  refine St.get h rfl rfl rfl (G.lookB (k := n) 3 rfl rfl rfl rfl Try.underlying108 Try.zeroValue4) fun a h => ?_
  refine St.get h rfl rfl rfl (G.move rfl rfl) fun a h => ?_
  refine St.split h 19 rfl (fun hc1 h => ?_) (fun hc1 h => ?_)
  refine St.guard_no h rfl rfl rfl rfl rfl (by decide) rfl rfl fun a h => ?_
  refine St.guard_no h rfl rfl rfl rfl rfl (by decide) rfl rfl fun a h => ?_
  refine St.guard_no h rfl rfl rfl rfl rfl (by decide) rfl rfl fun a h => ?_
  refine St.guard_no h rfl rfl rfl rfl rfl (by decide) rfl rfl fun a h => ?_
  refine St.guard_no h rfl rfl rfl rfl rfl (by decide) rfl rfl fun a h => ?_
  refine St.guard_no h rfl rfl rfl rfl rfl (by decide) rfl rfl fun a h => ?_
  refine St.guard_no h rfl rfl rfl rfl rfl (by decide) rfl rfl fun a h => ?_
  refine St.get h rfl rfl rfl (G.pickT rfl rfl rfl) fun a h => ?_
  refine St.get h rfl rfl rfl (G.assign rfl rfl) fun a h => ?_
  refine wpl_nil ?_
  refine X.thenN ?_
  refine St.condT h rfl ?_
  refine C.seq ?_
  refine C.region ?_
  refine St.get h rfl rfl rfl (G.assign rfl rfl) fun a h => ?_
  refine wpl_nil ?_
  refine X.thenN ?_
  refine C.ret ?_
  refine X.blkR ?_
  refine X.thenR ?_
  rotate_left
  refine St.guard_yes h rfl rfl rfl rfl rfl ?_
  refine St.get h rfl rfl rfl (G.move rfl rfl) fun a h => ?_
  refine St.guard_yes h rfl rfl rfl rfl rfl ?_
  refine St.get h rfl rfl rfl (G.nilc rfl rfl) fun a h => ?_
  refine St.guard_yes h rfl rfl rfl rfl rfl ?_
  refine St.get h rfl rfl rfl (G.fadr 37 rfl rfl Try.underlying111 rfl rfl Try.sizeOf109) fun a h => ?_
  refine St.guard_yes h rfl rfl rfl rfl rfl ?_
  refine St.get h rfl rfl rfl (G.idxa1 rfl rfl rfl (by omega) (by omega) Try.underlying109 Try.sizeOf108) fun a h => ?_
  refine St.guard_yes h rfl rfl rfl rfl rfl ?_
  refine St.get h rfl rfl rfl (G.ld 2 1 rfl rfl rfl rfl rfl Try.isAgg108) fun a h => ?_
  refine St.guard_yes h rfl rfl rfl rfl rfl ?_
  refine St.get h rfl rfl rfl (G.move rfl rfl) fun a h => ?_
  refine St.guard_yes h rfl rfl rfl rfl rfl ?_
  refine St.get h rfl rfl rfl (G.lookB (k := n) 4 rfl rfl rfl rfl Try.underlying108 Try.zeroValue4) fun a h => ?_
  refine St.get h rfl rfl rfl (G.pickF rfl rfl rfl) fun a h => ?_
  refine St.get h rfl rfl rfl (G.assign rfl rfl) fun a h => ?_
  refine wpl_nil ?_
  refine X.thenN ?_
  refine St.cond h rfl (fun hc2 => ?_) (fun hc2 => ?_)
  refine C.seq ?_
  refine C.region ?_
  refine St.get h rfl rfl rfl (G.assign rfl rfl) fun a h => ?_
  refine wpl_nil ?_
  refine X.thenN ?_
  refine C.ret ?_
  refine X.blkR ?_
  refine X.thenR ?_
  rotate_left
  refine C.skip ?_
  refine X.blkN ?_
  refine X.thenN ?_
  refine C.seq ?_
  refine C.region ?_
  refine St.get h rfl rfl rfl (G.assign rfl rfl) fun a h => ?_
  refine wpl_nil ?_
  refine X.thenN ?_
  refine C.ret ?_
  rotate_left
  · replace h := h.fold [0, 1, 2, 3, 4] rfl ((SAt_mk s A0 A1))
    replace h := h.conv (sl' := _) (L' := [_]) rfl rfl
    exact h.ret1 Try.results63 rfl (Ent.refl _) (⟨by unfold fitS; rw [if_pos hc], rfl⟩)
  · replace h := h.fold [0, 1, 2, 3, 4] rfl ((SAt_mk s A0 A1))
    replace h := h.conv (sl' := _) (L' := [_]) rfl rfl
    exact h.ret1 Try.results63 rfl (Ent.refl _) (⟨by unfold fitS inP; rw [if_neg hc, hc1]; rfl, rfl⟩)
  · replace h := h.fold [0, 1, 2, 3, 4] rfl ((SAt_mk s A0 A1))
    replace h := h.conv (sl' := _) (L' := [_]) rfl rfl
    exact h.ret1 Try.results63 rfl (Ent.refl _) (⟨by unfold fitS inP; rw [if_neg hc, hc1, hc2]; rfl, rfl⟩)
  · replace h := h.fold [0, 1, 2, 3, 4] rfl ((SAt_mk s A0 A1))
    replace h := h.conv (sl' := _) (L' := [_]) rfl rfl
    exact h.ret1 Try.results63 rfl (Ent.refl _) (⟨by unfold fitS inP; rw [if_neg hc, hc1, hc2]; rfl, rfl⟩)
theorem SNew_spec : Meets Try.prog 52 #[] [] (fun v L => ∃ b, v = .pointer (some ⟨b, 0, none⟩) ∧ L = [SAt b SM.new]) := by
  refine Meets.of_code Try.func52 rfl Try.ntmps52 rfl fun w0 S R a h => ?_
  refine C.seq ?_
  refine C.region ?_
  refine St.get h rfl rfl rfl (G.assign rfl rfl) fun a h => ?_
  refine wpl_nil ?_
  refine X.thenN ?_
  refine C.seq ?_
  refine C.region ?_
  refine St.get h rfl rfl rfl (G.build [(0, 34), (34, 3), (37, 2)] rfl rfl Try.zeroValue111 Try.underlying111 ⟨rfl, Try.sizeOf107, rfl, Try.sizeOf33, rfl, Try.sizeOf109, trivial⟩ rfl) fun a h => ?_
  replace h := h.conv (sl' := (_, .agg (List.toArray (_ :: _ :: _ :: _ :: _ :: _ :: _ :: _ :: _ :: _ :: _ :: _ :: _ :: _ :: _ :: _ :: _ :: _ :: _ :: _ :: _ :: _ :: _ :: _ :: _ :: _ :: _ :: _ :: _ :: _ :: _ :: _ :: _ :: _ :: _ :: _ :: _ :: _ :: _ :: []))) :: _) (L' := _) rfl rfl
  refine St.box h rfl rfl rfl rfl rfl fun b1 a w h => ?_
  replace h := h.conv (sl' := _) (L' := [cells _ _ (_ :: _ :: _ :: _ :: _ :: _ :: _ :: _ :: _ :: _ :: _ :: _ :: _ :: _ :: _ :: _ :: _ :: _ :: _ :: _ :: _ :: _ :: _ :: _ :: _ :: _ :: _ :: _ :: _ :: _ :: _ :: _ :: _ :: _ :: _ :: _ :: _ :: _ :: _ :: [])]) rfl rfl
  refine St.get h rfl rfl rfl (G.assign rfl rfl) fun a h => ?_
  refine wpl_nil ?_
  refine X.thenN ?_
  refine C.ret ?_
  replace h := h.parts 0 b1 0 ([0, 0, 0, 0, 0, 0, 0, 0, 0, 0, 0, 0, 0, 0, 0, 0].map (Value.int .u64)) ([false, false, false, false, false, false, false, false, false, false, false, false, false, false, false, false].map Value.bool ++ [.map none, .map none, .slice none 0 0, .slice none 0 0, .int .i64 0, .map none, .map none]) rfl
  replace h := h.parts 1 b1 16 ([false, false, false, false, false, false, false, false, false, false, false, false, false, false, false, false].map Value.bool) [.map none, .map none, .slice none 0 0, .slice none 0 0, .int .i64 0, .map none, .map none] rfl
  replace h := h.parts 1 b1 32 [.map none] [.map none, .slice none 0 0, .slice none 0 0, .int .i64 0, .map none, .map none] rfl
  replace h := h.parts 1 b1 33 [.map none] [.slice none 0 0, .slice none 0 0, .int .i64 0, .map none, .map none] rfl
  replace h := h.parts 1 b1 34 [.slice none 0 0, .slice none 0 0, .int .i64 0] [.map none, .map none] rfl
  replace h := h.conv (sl' := _) (L' := [cells _ _ [_, _, _], cells _ _ [_, _], cells _ _ [_], cells _ _ [_], cells _ _ [_, _, _, _, _, _, _, _, _, _, _, _, _, _, _, _], cells _ _ [_, _, _, _, _, _, _, _, _, _, _, _, _, _, _, _]]) rfl rfl
  replace h := h.fold [0] rfl ((QAt_new b1 34))
  replace h := h.conv (sl' := _) (L' := [_, cells _ _ [_, _], cells _ _ [_], cells _ _ [_], cells _ _ [_, _, _, _, _, _, _, _, _, _, _, _, _, _, _, _], cells _ _ [_, _, _, _, _, _, _, _, _, _, _, _, _, _, _, _]]) rfl rfl
  replace h := h.gift (mapl keyLock Value.bool none []) fun w R => mapl_nil _ _ w _ R
  replace h := h.fold [3, 0] rfl ((LAt_mk b1 33 [] none))
  replace h := h.conv (sl' := _) (L' := [_, _, cells _ _ [_, _], cells _ _ [_], cells _ _ [_, _, _, _, _, _, _, _, _, _, _, _, _, _, _, _], cells _ _ [_, _, _, _, _, _, _, _, _, _, _, _, _, _, _, _]]) rfl rfl
  replace h := h.gift (mapl (Value.int .i64) ptrV none []) fun w R => mapl_nil _ _ w _ R
  replace h := h.gift (many (KWAt 80) (KWs.ps [])) fun w R => trivial
  replace h := h.fold [7, 6, 5, 1, 0, 2] rfl ((KAt_mk (b := b1) (o := 0) (s := SM.new.k) none [] rfl))
  replace h := h.conv (sl' := _) (L' := [_, _, cells _ _ [_, _]]) rfl rfl
  replace h := h.gift (mapl (Value.int .i64) Value.bool none []) fun w R => mapl_nil _ _ w _ R
  replace h := h.gift (mapl (Value.int .i64) Value.bool none []) fun w R => mapl_nil _ _ w _ R
  replace h := h.fold [2, 3, 4, 0, 1] rfl ((SAt_mk (b := b1) SM.new none none))
  replace h := h.conv (sl' := _) (L' := [_]) rfl rfl
  exact h.ret1 Try.results52 rfl (Ent.refl _) (⟨b1, rfl, rfl⟩)
theorem mark_spec0 (b : Nat) (n : Int) (A A1 : Option Nat) (p : List (Int × Bool)) (g : Option Addr) (c : Nat) (l : List Ch) (hl : l.length < 1000000000) : Meets Try.prog 66 #[.pointer (some ⟨b, 0, none⟩), .int .i64 0, .int .i64 n, rlv g l.length c] [cells b 37 [.map A, .map A1], mapl (Value.int .i64) Value.bool A p]
    (fun v L => v = .tuple #[] ∧ ∃ A', L = [cells b 37 [.map A', .map A1], mapl (Value.int .i64) Value.bool A' (markP n l p)]) := by
  refine Meets.of_code Try.func66 rfl Try.ntmps66 rfl fun w0 S R a h => ?_
  by_cases hz : l = []
  · have hl0 : (l.length : Int) = 0 := by simp [hz]
    have hm : markP n l p = p := if_pos hz
    rw [hm]
    refine C.seq ?_
    refine C.seq ?_
    refine C.region ?_
    refine St.get h rfl rfl rfl (G.move rfl rfl) fun a h => ?_
    refine St.get h rfl rfl rfl (G.lens rfl rfl Try.underlying23) fun a h => ?_
    refine St.get h rfl rfl rfl (G.bin rfl rfl rfl (B.eqlT (by omega))) fun a h => ?_
    refine wpl_nil ?_
    refine X.thenN ?_
    refine St.condT h rfl ?_
    refine C.ret ?_
    refine X.thenR ?_
    exact h.ret0 Try.results66 (Ent.refl _) (⟨rfl, A, rfl⟩)
  have hl0 : (l.length : Int) ≠ 0 := by simp [hz]
  have hm : markP n l p = putM n true p := if_neg hz
  rw [hm]
  rcases A with _ | m0
  · have ht : p = [] := h.tell1 1 rfl fun _ _ _ hh => (mapl_told hh).1 rfl
    subst ht
    refine C.seq ?_
    refine C.seq ?_
    refine C.region ?_
    refine St.get h rfl rfl rfl (G.move rfl rfl) fun a h => ?_
    refine St.get h rfl rfl rfl (G.lens rfl rfl Try.underlying23) fun a h => ?_
    refine St.get h rfl rfl rfl (G.bin rfl rfl rfl (B.eqlF (by omega))) fun a h => ?_
    refine wpl_nil ?_
    refine X.thenN ?_
    refine St.condF h rfl ?_
    refine C.skip ?_
    refine X.thenN ?_
    refine C.seq ?_
    refine C.seq ?_
    refine C.region ?_
    refine St.get h rfl rfl rfl (G.move rfl rfl) fun a h => ?_
    refine St.get h rfl rfl rfl (G.move rfl rfl) fun a h => ?_
    refine St.get h rfl rfl rfl (G.nilc rfl rfl) fun a h => ?_
    refine St.get h rfl rfl rfl (G.fadr 37 rfl rfl Try.underlying111 rfl rfl Try.sizeOf109) fun a h => ?_
    refine St.get h rfl rfl rfl (G.idxa1 rfl rfl rfl (by omega) (by omega) Try.underlying109 Try.sizeOf108) fun a h => ?_
    refine St.get h rfl rfl rfl (G.ld 0 0 rfl rfl rfl rfl rfl Try.isAgg108) fun a h => ?_
    refine St.get h rfl rfl rfl (G.bin rfl rfl rfl (B.meql Try.underlying108 _)) fun a h => ?_
    refine wpl_nil ?_
    refine X.thenN ?_
    refine St.condT h rfl ?_
    refine C.region ?_
    refine St.get h rfl rfl rfl (G.move rfl rfl) fun a h => ?_
    refine St.get h rfl rfl rfl (G.move rfl rfl) fun a h => ?_
    refine St.mkmap h ((Value.int .i64)) (Value.bool) rfl rfl rfl rfl fun m1 a w h => ?_
    refine St.get h rfl rfl rfl (G.nilc rfl rfl) fun a h => ?_
    refine St.get h rfl rfl rfl (G.fadr 37 rfl rfl Try.underlying111 rfl rfl Try.sizeOf109) fun a h => ?_
    refine St.get h rfl rfl rfl (G.idxa1 rfl rfl rfl (by omega) (by omega) Try.underlying109 Try.sizeOf108) fun a h => ?_
    refine St.put h rfl rfl (U.st 1 0 rfl rfl rfl rfl rfl rfl rfl Try.sizeOf108) fun a w h => ?_
    replace h := h.conv (sl' := _) (L' := [_, cells _ _ [_, _], _]) rfl rfl
    refine wpl_nil ?_
    refine X.thenN ?_
    refine C.region ?_
    refine St.get h rfl rfl rfl (G.move rfl rfl) fun a h => ?_
    refine St.get h rfl rfl rfl (G.move rfl rfl) fun a h => ?_
    refine St.get h rfl rfl rfl (G.nilc rfl rfl) fun a h => ?_
    refine St.get h rfl rfl rfl (G.fadr 37 rfl rfl Try.underlying111 rfl rfl Try.sizeOf109) fun a h => ?_
    refine St.get h rfl rfl rfl (G.idxa1 rfl rfl rfl (by omega) (by omega) Try.underlying109 Try.sizeOf108) fun a h => ?_
    refine St.get h rfl rfl rfl (G.ld 1 0 rfl rfl rfl rfl rfl Try.isAgg108) fun a h => ?_
    refine St.get h rfl rfl rfl (G.move rfl rfl) fun a h => ?_
    refine St.mput (k := n) h 0 rfl rfl rfl rfl rfl Try.underlying108 rfl rfl fun a w h => ?_
    replace h := h.conv (sl' := _) (L' := [_, cells _ _ [_, _], _]) rfl rfl
    refine wpl_nil ?_
    replace h := h.sel [1, 0] rfl
    replace h := h.conv (sl' := _) (L' := [cells _ _ [_, _], _]) rfl rfl
    exact h.end0 Try.results66 (Ent.refl _) (⟨rfl, _, rfl⟩)
  · refine C.seq ?_
    refine C.seq ?_
    refine C.region ?_
    refine St.get h rfl rfl rfl (G.move rfl rfl) fun a h => ?_
    refine St.get h rfl rfl rfl (G.lens rfl rfl Try.underlying23) fun a h => ?_
    refine St.get h rfl rfl rfl (G.bin rfl rfl rfl (B.eqlF (by omega))) fun a h => ?_
    refine wpl_nil ?_
    refine X.thenN ?_
    refine St.condF h rfl ?_
    refine C.skip ?_
    refine X.thenN ?_
    refine C.seq ?_
    refine C.seq ?_
    refine C.region ?_
    refine St.get h rfl rfl rfl (G.move rfl rfl) fun a h => ?_
    refine St.get h rfl rfl rfl (G.move rfl rfl) fun a h => ?_
    refine St.get h rfl rfl rfl (G.nilc rfl rfl) fun a h => ?_
    refine St.get h rfl rfl rfl (G.fadr 37 rfl rfl Try.underlying111 rfl rfl Try.sizeOf109) fun a h => ?_
    refine St.get h rfl rfl rfl (G.idxa1 rfl rfl rfl (by omega) (by omega) Try.underlying109 Try.sizeOf108) fun a h => ?_
    refine St.get h rfl rfl rfl (G.ld 0 0 rfl rfl rfl rfl rfl Try.isAgg108) fun a h => ?_
    refine St.get h rfl rfl rfl (G.bin rfl rfl rfl (B.meql Try.underlying108 _)) fun a h => ?_
    refine wpl_nil ?_
    refine X.thenN ?_
    refine St.condF h rfl ?_
    refine C.skip ?_
    refine X.thenN ?_
    refine C.region ?_
    refine St.get h rfl rfl rfl (G.move rfl rfl) fun a h => ?_
    refine St.get h rfl rfl rfl (G.move rfl rfl) fun a h => ?_
    refine St.get h rfl rfl rfl (G.nilc rfl rfl) fun a h => ?_
    refine St.get h rfl rfl rfl (G.fadr 37 rfl rfl Try.underlying111 rfl rfl Try.sizeOf109) fun a h => ?_
    refine St.get h rfl rfl rfl (G.idxa1 rfl rfl rfl (by omega) (by omega) Try.underlying109 Try.sizeOf108) fun a h => ?_
    refine St.get h rfl rfl rfl (G.ld 0 0 rfl rfl rfl rfl rfl Try.isAgg108) fun a h => ?_
    refine St.get h rfl rfl rfl (G.move rfl rfl) fun a h => ?_
    refine St.mput (k := n) h 1 rfl rfl rfl rfl rfl Try.underlying108 rfl rfl fun a w h => ?_
    replace h := h.conv (sl' := _) (L' := [cells _ _ [_, _], _]) rfl rfl
    refine wpl_nil ?_
    exact h.end0 Try.results66 (Ent.refl _) (⟨rfl, _, rfl⟩)
theorem mark_spec1 (b : Nat) (n : Int) (A A1 : Option Nat) (p : List (Int × Bool)) (g : Option Addr) (c : Nat) (l : List Ch) (hl : l.length < 1000000000) : Meets Try.prog 66 #[.pointer (some ⟨b, 0, none⟩), .int .i64 1, .int .i64 n, rlv g l.length c] [cells b 37 [.map A1, .map A], mapl (Value.int .i64) Value.bool A p]
    (fun v L => v = .tuple #[] ∧ ∃ A', L = [cells b 37 [.map A1, .map A'], mapl (Value.int .i64) Value.bool A' (markP n l p)]) := by
  refine Meets.of_code Try.func66 rfl Try.ntmps66 rfl fun w0 S R a h => ?_
  by_cases hz : l = []
  · have hl0 : (l.length : Int) = 0 := by simp [hz]
    have hm : markP n l p = p := if_pos hz
    rw [hm]
    refine C.seq ?_
    refine C.seq ?_
    refine C.region ?_
    refine St.get h rfl rfl rfl (G.move rfl rfl) fun a h => ?_
    refine St.get h rfl rfl rfl (G.lens rfl rfl Try.underlying23) fun a h => ?_
    refine St.get h rfl rfl rfl (G.bin rfl rfl rfl (B.eqlT (by omega))) fun a h => ?_
    refine wpl_nil ?_
    refine X.thenN ?_
    refine St.condT h rfl ?_
    refine C.ret ?_
    refine X.thenR ?_
    exact h.ret0 Try.results66 (Ent.refl _) (⟨rfl, A, rfl⟩)
  have hl0 : (l.length : Int) ≠ 0 := by simp [hz]
  have hm : markP n l p = putM n true p := if_neg hz
  rw [hm]
  rcases A with _ | m0
  · have ht : p = [] := h.tell1 1 rfl fun _ _ _ hh => (mapl_told hh).1 rfl
    subst ht
    refine C.seq ?_
    refine C.seq ?_
    refine C.region ?_
    refine St.get h rfl rfl rfl (G.move rfl rfl) fun a h => ?_
    refine St.get h rfl rfl rfl (G.lens rfl rfl Try.underlying23) fun a h => ?_
    refine St.get h rfl rfl rfl (G.bin rfl rfl rfl (B.eqlF (by omega))) fun a h => ?_
    refine wpl_nil ?_
    refine X.thenN ?_
    refine St.condF h rfl ?_
    refine C.skip ?_
    refine X.thenN ?_
    refine C.seq ?_
    refine C.seq ?_
    refine C.region ?_
    refine St.get h rfl rfl rfl (G.move rfl rfl) fun a h => ?_
    refine St.get h rfl rfl rfl (G.move rfl rfl) fun a h => ?_
    refine St.get h rfl rfl rfl (G.nilc rfl rfl) fun a h => ?_
    refine St.get h rfl rfl rfl (G.fadr 37 rfl rfl Try.underlying111 rfl rfl Try.sizeOf109) fun a h => ?_
    refine St.get h rfl rfl rfl (G.idxa1 rfl rfl rfl (by omega) (by omega) Try.underlying109 Try.sizeOf108) fun a h => ?_
    refine St.get h rfl rfl rfl (G.ld 0 1 rfl rfl rfl rfl rfl Try.isAgg108) fun a h => ?_
    refine St.get h rfl rfl rfl (G.bin rfl rfl rfl (B.meql Try.underlying108 _)) fun a h => ?_
    refine wpl_nil ?_
    refine X.thenN ?_
    refine St.condT h rfl ?_
    refine C.region ?_
    refine St.get h rfl rfl rfl (G.move rfl rfl) fun a h => ?_
    refine St.get h rfl rfl rfl (G.move rfl rfl) fun a h => ?_
    refine St.mkmap h ((Value.int .i64)) (Value.bool) rfl rfl rfl rfl fun m1 a w h => ?_
    refine St.get h rfl rfl rfl (G.nilc rfl rfl) fun a h => ?_
    refine St.get h rfl rfl rfl (G.fadr 37 rfl rfl Try.underlying111 rfl rfl Try.sizeOf109) fun a h => ?_
    refine St.get h rfl rfl rfl (G.idxa1 rfl rfl rfl (by omega) (by omega) Try.underlying109 Try.sizeOf108) fun a h => ?_
    refine St.put h rfl rfl (U.st 1 1 rfl rfl rfl rfl rfl rfl rfl Try.sizeOf108) fun a w h => ?_
    replace h := h.conv (sl' := _) (L' := [_, cells _ _ [_, _], _]) rfl rfl
    refine wpl_nil ?_
    refine X.thenN ?_
    refine C.region ?_
    refine St.get h rfl rfl rfl (G.move rfl rfl) fun a h => ?_
    refine St.get h rfl rfl rfl (G.move rfl rfl) fun a h => ?_
    refine St.get h rfl rfl rfl (G.nilc rfl rfl) fun a h => ?_
    refine St.get h rfl rfl rfl (G.fadr 37 rfl rfl Try.underlying111 rfl rfl Try.sizeOf109) fun a h => ?_
    refine St.get h rfl rfl rfl (G.idxa1 rfl rfl rfl (by omega) (by omega) Try.underlying109 Try.sizeOf108) fun a h => ?_
    refine St.get h rfl rfl rfl (G.ld 1 1 rfl rfl rfl rfl rfl Try.isAgg108) fun a h => ?_
    refine St.get h rfl rfl rfl (G.move rfl rfl) fun a h => ?_
    refine St.mput (k := n) h 0 rfl rfl rfl rfl rfl Try.underlying108 rfl rfl fun a w h => ?_
    replace h := h.conv (sl' := _) (L' := [_, cells _ _ [_, _], _]) rfl rfl
    refine wpl_nil ?_
    replace h := h.sel [1, 0] rfl
    replace h := h.conv (sl' := _) (L' := [cells _ _ [_, _], _]) rfl rfl
    exact h.end0 Try.results66 (Ent.refl _) (⟨rfl, _, rfl⟩)
  · refine C.seq ?_
    refine C.seq ?_
    refine C.region ?_
    refine St.get h rfl rfl rfl (G.move rfl rfl) fun a h => ?_
    refine St.get h rfl rfl rfl (G.lens rfl rfl Try.underlying23) fun a h => ?_
    refine St.get h rfl rfl rfl (G.bin rfl rfl rfl (B.eqlF (by omega))) fun a h => ?_
    refine wpl_nil ?_
    refine X.thenN ?_
    refine St.condF h rfl ?_
    refine C.skip ?_
    refine X.thenN ?_
    refine C.seq ?_
    refine C.seq ?_
    refine C.region ?_
    refine St.get h rfl rfl rfl (G.move rfl rfl) fun a h => ?_
    refine St.get h rfl rfl rfl (G.move rfl rfl) fun a h => ?_
    refine St.get h rfl rfl rfl (G.nilc rfl rfl) fun a h => ?_
    refine St.get h rfl rfl rfl (G.fadr 37 rfl rfl Try.underlying111 rfl rfl Try.sizeOf109) fun a h => ?_
    refine St.get h rfl rfl rfl (G.idxa1 rfl rfl rfl (by omega) (by omega) Try.underlying109 Try.sizeOf108) fun a h => ?_
    refine St.get h rfl rfl rfl (G.ld 0 1 rfl rfl rfl rfl rfl Try.isAgg108) fun a h => ?_
    refine St.get h rfl rfl rfl (G.bin rfl rfl rfl (B.meql Try.underlying108 _)) fun a h => ?_
    refine wpl_nil ?_
    refine X.thenN ?_
    refine St.condF h rfl ?_
    refine C.skip ?_
    refine X.thenN ?_
    refine C.region ?_
    refine St.get h rfl rfl rfl (G.move rfl rfl) fun a h => ?_
    refine St.get h rfl rfl rfl (G.move rfl rfl) fun a h => ?_
    refine St.get h rfl rfl rfl (G.nilc rfl rfl) fun a h => ?_
    refine St.get h rfl rfl rfl (G.fadr 37 rfl rfl Try.underlying111 rfl rfl Try.sizeOf109) fun a h => ?_
    refine St.get h rfl rfl rfl (G.idxa1 rfl rfl rfl (by omega) (by omega) Try.underlying109 Try.sizeOf108) fun a h => ?_
    refine St.get h rfl rfl rfl (G.ld 0 1 rfl rfl rfl rfl rfl Try.isAgg108) fun a h => ?_
    refine St.get h rfl rfl rfl (G.move rfl rfl) fun a h => ?_
    refine St.mput (k := n) h 1 rfl rfl rfl rfl rfl Try.underlying108 rfl rfl fun a w h => ?_
    replace h := h.conv (sl' := _) (L' := [cells _ _ [_, _], _]) rfl rfl
    refine wpl_nil ?_
    exact h.end0 Try.results66 (Ent.refl _) (⟨rfl, _, rfl⟩)
theorem SPut_nil (n key val : Int) : Meets Try.prog 29 #[.pointer none, .int .i64 n, .int .i64 key, .int .u64 val] [] (Det (.int .i64 6) []) := by
  refine Meets.of_code Try.func29 rfl Try.ntmps29 rfl fun w0 S R a h => ?_
  refine C.seq ?_
  refine C.region ?_
  refine St.get h rfl rfl rfl (G.assign rfl rfl) fun a h => ?_
  refine wpl_nil ?_
  refine X.thenN ?_
  refine C.seq ?_
  refine C.seq ?_
  refine C.region ?_
  refine St.get h rfl rfl rfl (G.move rfl rfl) fun a h => ?_
  refine St.get h rfl rfl rfl (G.move rfl rfl) fun a h => ?_
  refine St.callD h [] rfl (Ro.nil _) ((Sfit_nil n)) rfl rfl rfl Try.call63 rfl rfl fun a w h => ?_
  replace h := h.conv (sl' := _) (L' := []) rfl rfl
  refine St.get h rfl rfl rfl (G.assign rfl rfl) fun a h => ?_
  refine wpl_nil ?_
  refine X.thenN ?_
  refine C.seq ?_
  refine C.region ?_
  refine St.get h rfl rfl rfl (G.move rfl rfl) fun a h => ?_
  refine St.get h rfl rfl rfl (G.bin rfl rfl rfl (B.neqT (by omega))) fun a h => ?_
  refine wpl_nil ?_
  refine X.thenN ?_
  refine St.condT h rfl ?_
  refine C.seq ?_
  refine C.region ?_
  refine St.get h rfl rfl rfl (G.move rfl rfl) fun a h => ?_
  refine St.get h rfl rfl rfl (G.assign rfl rfl) fun a h => ?_
  refine wpl_nil ?_
  refine X.thenN ?_
  refine C.ret ?_
  refine X.thenR ?_
  exact h.ret1 Try.results29 rfl (Ent.refl _) (⟨rfl, rfl⟩)
theorem SPut_spec (b : Nat) (s : SM) (hs : s.k.Good) (n key val : Int) : Meets Try.prog 29 #[.pointer (some ⟨b, 0, none⟩), .int .i64 n, .int .i64 key, .int .u64 val] [SAt b s]
    (Det (.int .i64 (putS s n key val).1) [SAt b (putS s n key val).2]) := by
  refine Meets.of_code Try.func29 rfl Try.ntmps29 rfl fun w0 S R a h => ?_
  refine C.seq ?_
  refine C.region ?_
  refine St.get h rfl rfl rfl (G.assign rfl rfl) fun a h => ?_
  refine wpl_nil ?_
  refine X.thenN ?_
  refine C.seq ?_
  refine C.seq ?_
  refine C.region ?_
  refine St.get h rfl rfl rfl (G.move rfl rfl) fun a h => ?_
  refine St.get h rfl rfl rfl (G.move rfl rfl) fun a h => ?_
  refine St.callD h [0] rfl (Ro.nil _) ((Sfit_spec b s n)) rfl rfl rfl Try.call63 rfl rfl fun a w h => ?_
  replace h := h.conv (sl' := _) (L' := [_]) rfl rfl
  refine St.get h rfl rfl rfl (G.assign rfl rfl) fun a h => ?_
  refine wpl_nil ?_
  refine X.thenN ?_
  refine C.seq ?_
  refine C.region ?_
  refine St.get h rfl rfl rfl (G.move rfl rfl) fun a h => ?_
  refine St.getP h rfl rfl rfl (G.bin rfl rfl rfl B.neq) (fun hc a h => ?_) (fun hc a h => ?_)
  refine wpl_nil ?_
  refine X.thenN ?_
  refine St.condT h rfl ?_
  refine C.seq ?_
  refine C.region ?_
  refine St.get h rfl rfl rfl (G.move rfl rfl) fun a h => ?_
  refine St.get h rfl rfl rfl (G.assign rfl rfl) fun a h => ?_
  refine wpl_nil ?_
  refine X.thenN ?_
  refine C.ret ?_
  refine X.thenR ?_
  rotate_left
  refine wpl_nil ?_
  refine X.thenN ?_
  refine St.condF h rfl ?_
  refine C.skip ?_
  refine X.thenN ?_
  refine C.seq ?_
  refine C.region ?_
  refine St.get h rfl rfl rfl (G.move rfl rfl) fun a h => ?_
  refine St.get h rfl rfl rfl (G.nilc rfl rfl) fun a h => ?_
  refine St.get h rfl rfl rfl (G.fadr 0 rfl rfl Try.underlying111 rfl rfl Try.sizeOf107) fun a h => ?_
  refine St.get h rfl rfl rfl (G.move rfl rfl) fun a h => ?_
  refine St.get h rfl rfl rfl (G.move rfl rfl) fun a h => ?_
  refine St.get h rfl rfl rfl (G.move rfl rfl) fun a h => ?_
  rotate_left
  · have e : putS s n key val = (fitS s n, s) := if_pos hc
    rw [e]
    exact h.ret1 Try.results29 rfl (Ent.refl _) (⟨rfl, rfl⟩)
  · have e : putS s n key val = _ := if_neg hc
    rw [e]
    obtain ⟨A0, A1, h⟩ := h.openS 0 rfl
    refine St.callD h [0] rfl (Ro.nil _) ((KPut_spec b 0 s.k hs n key val)) rfl rfl rfl Try.call64 rfl rfl fun a w h => ?_
    replace h := h.conv (sl' := _) (L' := [_, _, cells _ _ [_, _], _, _]) rfl rfl
    refine St.get h rfl rfl rfl (G.assign rfl rfl) fun a h => ?_
    refine wpl_nil ?_
    refine X.thenN ?_
    refine C.ret ?_
    replace h := h.fold [0, 1, 2, 3, 4] rfl ((SAt_mk { s with k := (changeK s.k n ⟨1, key, val⟩).2 } A0 A1))
    replace h := h.conv (sl' := _) (L' := [_]) rfl rfl
    exact h.ret1 Try.results29 rfl (Ent.refl _) (⟨rfl, rfl⟩)
theorem SPush_nil (n val : Int) : Meets Try.prog 30 #[.pointer none, .int .i64 n, .int .u64 val] [] (Det (.int .i64 6) []) := by
  refine Meets.of_code Try.func30 rfl Try.ntmps30 rfl fun w0 S R a h => ?_
  refine C.seq ?_
  refine C.region ?_
  refine St.get h rfl rfl rfl (G.assign rfl rfl) fun a h => ?_
  refine wpl_nil ?_
  refine X.thenN ?_
  refine C.seq ?_
  refine C.seq ?_
  refine C.region ?_
  refine St.get h rfl rfl rfl (G.move rfl rfl) fun a h => ?_
  refine St.get h rfl rfl rfl (G.move rfl rfl) fun a h => ?_
  refine St.callD h [] rfl (Ro.nil _) ((Sfit_nil n)) rfl rfl rfl Try.call63 rfl rfl fun a w h => ?_
  replace h := h.conv (sl' := _) (L' := []) rfl rfl
  refine St.get h rfl rfl rfl (G.assign rfl rfl) fun a h => ?_
  refine wpl_nil ?_
  refine X.thenN ?_
  refine C.seq ?_
  refine C.region ?_
  refine St.get h rfl rfl rfl (G.move rfl rfl) fun a h => ?_
  refine St.get h rfl rfl rfl (G.bin rfl rfl rfl (B.neqT (by omega))) fun a h => ?_
  refine wpl_nil ?_
  refine X.thenN ?_
  refine St.condT h rfl ?_
  refine C.seq ?_
  refine C.region ?_
  refine St.get h rfl rfl rfl (G.move rfl rfl) fun a h => ?_
  refine St.get h rfl rfl rfl (G.assign rfl rfl) fun a h => ?_
  refine wpl_nil ?_
  refine X.thenN ?_
  refine C.ret ?_
  refine X.thenR ?_
  exact h.ret1 Try.results30 rfl (Ent.refl _) (⟨rfl, rfl⟩)
theorem SPush_spec (b : Nat) (s : SM) (hs : s.q.Good) (n val : Int) : Meets Try.prog 30 #[.pointer (some ⟨b, 0, none⟩), .int .i64 n, .int .u64 val] [SAt b s]
    (Det (.int .i64 (pushS s n val).1) [SAt b (pushS s n val).2]) := by
  refine Meets.of_code Try.func30 rfl Try.ntmps30 rfl fun w0 S R a h => ?_
  refine C.seq ?_
  refine C.region ?_
  refine St.get h rfl rfl rfl (G.assign rfl rfl) fun a h => ?_
  refine wpl_nil ?_
  refine X.thenN ?_
  refine C.seq ?_
  refine C.seq ?_
  refine C.region ?_
  refine St.get h rfl rfl rfl (G.move rfl rfl) fun a h => ?_
  refine St.get h rfl rfl rfl (G.move rfl rfl) fun a h => ?_
  refine St.callD h [0] rfl (Ro.nil _) ((Sfit_spec b s n)) rfl rfl rfl Try.call63 rfl rfl fun a w h => ?_
  replace h := h.conv (sl' := _) (L' := [_]) rfl rfl
  refine St.get h rfl rfl rfl (G.assign rfl rfl) fun a h => ?_
  refine wpl_nil ?_
  refine X.thenN ?_
  refine C.seq ?_
  refine C.region ?_
  refine St.get h rfl rfl rfl (G.move rfl rfl) fun a h => ?_
  refine St.getP h rfl rfl rfl (G.bin rfl rfl rfl B.neq) (fun hc a h => ?_) (fun hc a h => ?_)
  refine wpl_nil ?_
  refine X.thenN ?_
  refine St.condT h rfl ?_
  refine C.seq ?_
  refine C.region ?_
  refine St.get h rfl rfl rfl (G.move rfl rfl) fun a h => ?_
  refine St.get h rfl rfl rfl (G.assign rfl rfl) fun a h => ?_
  refine wpl_nil ?_
  refine X.thenN ?_
  refine C.ret ?_
  refine X.thenR ?_
  rotate_left
  refine wpl_nil ?_
  refine X.thenN ?_
  refine St.condF h rfl ?_
  refine C.skip ?_
  refine X.thenN ?_
  refine C.seq ?_
  refine C.region ?_
  refine St.get h rfl rfl rfl (G.move rfl rfl) fun a h => ?_
  refine St.get h rfl rfl rfl (G.nilc rfl rfl) fun a h => ?_
  refine St.get h rfl rfl rfl (G.fadr 34 rfl rfl Try.underlying111 rfl rfl Try.sizeOf33) fun a h => ?_
  refine St.get h rfl rfl rfl (G.move rfl rfl) fun a h => ?_
  refine St.get h rfl rfl rfl (G.move rfl rfl) fun a h => ?_
  rotate_left
  · have e : pushS s n val = (fitS s n, s) := if_pos hc
    rw [e]
    exact h.ret1 Try.results30 rfl (Ent.refl _) (⟨rfl, rfl⟩)
  · have e : pushS s n val = _ := if_neg hc
    rw [e]
    obtain ⟨A0, A1, h⟩ := h.openS 0 rfl
    refine St.callD h [1] rfl (Ro.nil _) ((Put_spec b 34 s.q n val hs)) rfl rfl rfl Try.call37 rfl rfl fun a w h => ?_
    replace h := h.conv (sl' := _) (L' := [_, _, cells _ _ [_, _], _, _]) rfl rfl
    refine St.get h rfl rfl rfl (G.assign rfl rfl) fun a h => ?_
    refine wpl_nil ?_
    refine X.thenN ?_
    refine C.ret ?_
    replace h := h.fold [1, 0, 2, 3, 4] rfl ((SAt_mk { s with q := (putQ s.q n val).2 } A0 A1))
    replace h := h.conv (sl' := _) (L' := [_]) rfl rfl
    exact h.ret1 Try.results30 rfl (Ent.refl _) (⟨rfl, rfl⟩)
end Go.Proofs.Ytllhegccpknncaa
