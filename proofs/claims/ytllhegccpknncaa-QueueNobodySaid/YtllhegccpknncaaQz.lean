/-
  QueueNobody: the walk of the statement itself.
-/
import Derived.Test.YtllhegccpknncaaQl
import Derived.Test.YtllhegccpknncaaSeat
set_option linter.unusedVariables false
set_option linter.unusedSimpArgs false
set_option linter.unusedSectionVars false
set_option maxRecDepth 8000
namespace Go.Proofs.Ytllhegccpknncaa
open Go.Tr
theorem good_zero : QM.Good ⟨[], [], 0⟩ := good_small (by simp) (by simp) (by simp) (by simp) (by simp)
theorem good_zeroR : RM.Good ⟨[], [], 0⟩ := ⟨by simp, by simp, fun w hw => by simp at hw, by simp, by simp⟩
theorem QueueNobody_meets (x : QO) (gl gv : Option Addr) (cl cv : Nat) (hn : -9223372036854775808 ≤ x.next) :
    Meets Try.prog 3 #[.agg #[.int .i64 x.kind, .int .i64 x.work, .int .i64 x.next, .int .u64 x.val, rlv gl x.L.length cl, rlv gv x.V.length cv]] [rdl encCh gl x.L, rdl encU64 gv x.V] (Det (.bool true) []) := by
  refine Meets.of_code Try.func3 rfl Try.ntmps3 rfl fun w0 S R a h => ?_
  have hl : x.L.length ≤ 9223372036854775807 := by have := h.tell1 0 rfl fun _ _ _ => rdl_len; simpa using this
  have hv : x.V.length ≤ 9223372036854775807 := by have := h.tell1 1 rfl fun _ _ _ => rdl_len; simpa using this
  refine C.seq ?_
  refine C.region ?_
  refine St.box h rfl rfl rfl rfl rfl fun b1 a w h => ?_
  replace h := h.conv (sl' := _) (L' := [cells _ _ [_, _, _, _, _, _], _, _]) rfl rfl
  refine St.get h rfl rfl rfl (G.assign rfl rfl) fun a h => ?_
  refine wpl_nil ?_
  refine X.thenN ?_
  refine C.seq ?_
  refine C.seq ?_
  refine C.region ?_
  refine St.get h rfl rfl rfl (G.lda 0 0 6 rfl rfl rfl rfl rfl Try.isAgg26 Try.sizeOf26) fun a h => ?_
  replace h := h.conv (sl' := (_, .agg #[_, _, _, _, _, _]) :: _) (L' := _) rfl rfl
  refine St.callD h [] rfl (Ro.nil _) ((long_spec x gl gv cl cv hl hv)) rfl rfl rfl Try.call9 rfl rfl fun a w h => ?_
  replace h := h.conv (sl' := _) (L' := [cells _ _ [_, _, _, _, _, _], _, _]) rfl rfl
  refine St.get h rfl rfl rfl (G.move rfl rfl) fun a h => ?_
  refine St.split h 16 rfl (fun hc h => ?_) (fun hc h => ?_)
  refine St.guard_no h rfl rfl rfl rfl rfl (by decide) rfl rfl fun a h => ?_
  refine St.guard_no h rfl rfl rfl rfl rfl (by decide) rfl rfl fun a h => ?_
  refine St.guard_no h rfl rfl rfl rfl rfl (by decide) rfl rfl fun a h => ?_
  refine St.get h rfl rfl rfl (G.pickT rfl rfl rfl) fun a h => ?_
  refine St.get h rfl rfl rfl (G.move rfl rfl) fun a h => ?_
  refine St.guard_no h rfl rfl rfl rfl rfl (by decide) rfl rfl fun a h => ?_
  refine St.guard_no h rfl rfl rfl rfl rfl (by decide) rfl rfl fun a h => ?_
  refine St.guard_no h rfl rfl rfl rfl rfl (by decide) rfl rfl fun a h => ?_
  refine St.get h rfl rfl rfl (G.pickT rfl rfl rfl) fun a h => ?_
  refine wpl_nil ?_
  refine X.thenN ?_
  refine St.condT h rfl ?_
  refine C.seq ?_
  refine C.region ?_
  rotate_left
  refine St.guard_yes h rfl rfl rfl rfl rfl ?_
  refine St.get h rfl rfl rfl (G.fadr 0 rfl rfl Try.underlying26 rfl rfl Try.sizeOf3) fun a h => ?_
  refine St.guard_yes h rfl rfl rfl rfl rfl ?_
  refine St.get h rfl rfl rfl (G.ld 0 0 rfl rfl rfl rfl rfl Try.isAgg3) fun a h => ?_
  refine St.guard_yes h rfl rfl rfl rfl rfl ?_
  refine St.getP h rfl rfl rfl (G.bin rfl rfl rfl B.lss) (fun hc1 a h => ?_) (fun hc1 a h => ?_)
  refine St.get h rfl rfl rfl (G.pickF rfl rfl rfl) fun a h => ?_
  refine St.get h rfl rfl rfl (G.move rfl rfl) fun a h => ?_
  refine St.guard_no h rfl rfl rfl rfl rfl (by decide) rfl rfl fun a h => ?_
  refine St.guard_no h rfl rfl rfl rfl rfl (by decide) rfl rfl fun a h => ?_
  refine St.guard_no h rfl rfl rfl rfl rfl (by decide) rfl rfl fun a h => ?_
  refine St.get h rfl rfl rfl (G.pickT rfl rfl rfl) fun a h => ?_
  refine wpl_nil ?_
  refine X.thenN ?_
  refine St.condT h rfl ?_
  refine C.seq ?_
  refine C.region ?_
  rotate_left
  refine St.get h rfl rfl rfl (G.pickF rfl rfl rfl) fun a h => ?_
  refine St.get h rfl rfl rfl (G.move rfl rfl) fun a h => ?_
  refine St.guard_yes h rfl rfl rfl rfl rfl ?_
  refine St.get h rfl rfl rfl (G.fadr 0 rfl rfl Try.underlying26 rfl rfl Try.sizeOf3) fun a h => ?_
  refine St.guard_yes h rfl rfl rfl rfl rfl ?_
  refine St.get h rfl rfl rfl (G.ld 0 0 rfl rfl rfl rfl rfl Try.isAgg3) fun a h => ?_
  refine St.guard_yes h rfl rfl rfl rfl rfl ?_
  refine St.getP h rfl rfl rfl (G.bin rfl rfl rfl B.gtr) (fun hc2 a h => ?_) (fun hc2 a h => ?_)
  refine St.get h rfl rfl rfl (G.pickF rfl rfl rfl) fun a h => ?_
  refine wpl_nil ?_
  refine X.thenN ?_
  refine St.condT h rfl ?_
  refine C.seq ?_
  refine C.region ?_
  rotate_left
  refine St.get h rfl rfl rfl (G.pickF rfl rfl rfl) fun a h => ?_
  refine wpl_nil ?_
  refine X.thenN ?_
  refine St.condF h rfl ?_
  refine C.skip ?_
  refine X.thenN ?_
  refine C.seq ?_
  refine C.region ?_
  refine St.get h rfl rfl rfl (G.assign rfl rfl) fun a h => ?_
  refine wpl_nil ?_
  refine X.thenN ?_
  refine C.seq ?_
  refine C.region ?_
  refine St.alloc h Try.zeroValue33 rfl rfl rfl rfl fun b2 a w h => ?_
  replace h := h.conv (sl' := _) (L' := [cells _ _ [_, _, _], cells _ _ [_, _, _, _, _, _], _, _]) rfl rfl
  refine wpl_nil ?_
  refine X.thenN ?_
  refine C.seq ?_
  refine C.region ?_
  refine St.get h rfl rfl rfl (G.move rfl rfl) fun a h => ?_
  refine St.get h rfl rfl rfl (G.lda 1 0 6 rfl rfl rfl rfl rfl Try.isAgg26 Try.sizeOf26) fun a h => ?_
  replace h := h.conv (sl' := (_, .agg #[_, _, _, _, _, _]) :: _) (L' := _) rfl rfl
  rotate_left
  · refine St.callD h [] rfl (Ro.nil _) (alive_spec) rfl rfl rfl Try.call10 rfl rfl fun a w h => ?_
    replace h := h.conv (sl' := _) (L' := [cells _ _ [_, _, _, _, _, _], _, _]) rfl rfl
    refine St.get h rfl rfl rfl (G.assign rfl rfl) fun a h => ?_
    refine wpl_nil ?_
    refine X.thenN ?_
    refine C.ret ?_
    refine X.thenR ?_
    replace h := h.sel [] rfl
    exact h.ret1 Try.results3 rfl (Ent.refl _) (⟨rfl, rfl⟩)
  · refine St.callD h [] rfl (Ro.nil _) (alive_spec) rfl rfl rfl Try.call10 rfl rfl fun a w h => ?_
    replace h := h.conv (sl' := _) (L' := [cells _ _ [_, _, _, _, _, _], _, _]) rfl rfl
    refine St.get h rfl rfl rfl (G.assign rfl rfl) fun a h => ?_
    refine wpl_nil ?_
    refine X.thenN ?_
    refine C.ret ?_
    refine X.thenR ?_
    replace h := h.sel [] rfl
    exact h.ret1 Try.results3 rfl (Ent.refl _) (⟨rfl, rfl⟩)
  · refine St.callD h [] rfl (Ro.nil _) (alive_spec) rfl rfl rfl Try.call10 rfl rfl fun a w h => ?_
    replace h := h.conv (sl' := _) (L' := [cells _ _ [_, _, _, _, _, _], _, _]) rfl rfl
    refine St.get h rfl rfl rfl (G.assign rfl rfl) fun a h => ?_
    refine wpl_nil ?_
    refine X.thenN ?_
    refine C.ret ?_
    refine X.thenR ?_
    replace h := h.sel [] rfl
    exact h.ret1 Try.results3 rfl (Ent.refl _) (⟨rfl, rfl⟩)
  · have hlen : x.L.length ≤ 40 ∧ x.V.length ≤ 40 := by have := of_decide_eq_false hc; omega
    obtain ⟨e1, e2, e3⟩ := law_nobody x (by omega) (by omega)
    refine St.callD h [] rfl (Ro.nil _) ((call_nil x gl gv cl cv (by omega) (by omega))) rfl rfl rfl Try.call11 rfl rfl fun a w h => ?_
    replace h := h.conv (sl' := _) (L' := [cells _ _ [_, _, _], cells _ _ [_, _, _, _, _, _], _, _]) rfl rfl
    refine St.get h rfl rfl rfl (G.move rfl rfl) fun a h => ?_
    refine St.get h rfl rfl rfl (G.extract rfl rfl rfl) fun a h => ?_
    refine St.get h rfl rfl rfl (G.extract rfl rfl rfl) fun a h => ?_
    refine St.get h rfl rfl rfl (G.extract rfl rfl rfl) fun a h => ?_
    refine St.get h rfl rfl rfl (G.assign rfl rfl) fun a h => ?_
    refine St.get h rfl rfl rfl (G.assign rfl rfl) fun a h => ?_
    refine St.get h rfl rfl rfl (G.assign rfl rfl) fun a h => ?_
    refine wpl_nil ?_
    refine X.thenN ?_
    refine C.seq ?_
    refine C.region ?_
    refine St.get h rfl rfl rfl (G.lda 1 0 6 rfl rfl rfl rfl rfl Try.isAgg26 Try.sizeOf26) fun a h => ?_
    replace h := h.conv (sl' := (_, .agg #[_, _, _, _, _, _]) :: _) (L' := _) rfl rfl
    replace h := h.fold [0] rfl ((QAt_new b2 0))
    replace h := h.conv (sl' := _) (L' := [_, cells _ _ [_, _, _, _, _, _], _, _]) rfl rfl
    refine St.call h [0] rfl (Ro.cons 1 rfl (rdl_ro _ _ _) (Ro.cons 2 rfl (rdl_ro _ _ _) (Ro.nil _))) ((callQ_spec b2 0 ⟨[], [], 0⟩ good_zero (by simp) x gl gv cl cv (by omega) (by omega) hlen.1 hlen.2 hn)) rfl rfl rfl Try.call11 rfl rfl fun v L a w hp h => ?_
    obtain ⟨A1, k1, rfl, rfl⟩ := hp
    replace h := h.conv (sl' := _) (L' := [_, _, cells _ _ [_, _, _, _, _, _], _, _]) rfl rfl
    refine St.get h rfl rfl rfl (G.move rfl rfl) fun a h => ?_
    refine St.get h rfl rfl rfl (G.extract rfl rfl rfl) fun a h => ?_
    refine St.get h rfl rfl rfl (G.extract rfl rfl rfl) fun a h => ?_
    refine St.get h rfl rfl rfl (G.extract rfl rfl rfl) fun a h => ?_
    refine St.get h rfl rfl rfl (G.assign rfl rfl) fun a h => ?_
    refine St.get h rfl rfl rfl (G.assign rfl rfl) fun a h => ?_
    refine St.get h rfl rfl rfl (G.assign rfl rfl) fun a h => ?_
    refine wpl_nil ?_
    refine X.thenN ?_
    refine C.seq ?_
    refine C.region ?_
    refine St.get h rfl rfl rfl (G.build [(0, 1), (1, 1), (2, 1)] rfl rfl Try.zeroValue42 Try.underlying42 ⟨rfl, Try.sizeOf39, rfl, Try.sizeOf40, rfl, Try.sizeOf3, trivial⟩ rfl) fun a h => ?_
    replace h := h.conv (sl' := (_, .agg #[_, _, _]) :: _) (L' := _) rfl rfl
    refine St.box h rfl rfl rfl rfl rfl fun b3 a w h => ?_
    replace h := h.conv (sl' := _) (L' := [cells _ _ [_, _, _], _, _, cells _ _ [_, _, _, _, _, _], _, _]) rfl rfl
    refine St.get h rfl rfl rfl (G.lda 3 0 6 rfl rfl rfl rfl rfl Try.isAgg26 Try.sizeOf26) fun a h => ?_
    replace h := h.conv (sl' := (_, .agg #[_, _, _, _, _, _]) :: _) (L' := _) rfl rfl
    replace h := h.fold [0] rfl ((RAt_new b3 0))
    replace h := h.conv (sl' := _) (L' := [_, _, _, cells _ _ [_, _, _, _, _, _], _, _]) rfl rfl
    refine St.call h [0] rfl (Ro.cons 3 rfl (rdl_ro _ _ _) (Ro.cons 4 rfl (rdl_ro _ _ _) (Ro.nil _))) ((modelR_spec b3 0 ⟨[], [], 0⟩ good_zeroR (by simp) x gl gv cl cv (by omega) (by omega) hlen.1 hlen.2 hn)) rfl rfl rfl Try.call12 rfl rfl fun v L a w hp h => ?_
    obtain ⟨A2, k2, rfl, rfl⟩ := hp
    replace h := h.conv (sl' := _) (L' := [_, _, _, _, cells _ _ [_, _, _, _, _, _], _, _]) rfl rfl
    refine St.get h rfl rfl rfl (G.move rfl rfl) fun a h => ?_
    refine St.get h rfl rfl rfl (G.extract rfl rfl rfl) fun a h => ?_
    refine St.get h rfl rfl rfl (G.extract rfl rfl rfl) fun a h => ?_
    refine St.get h rfl rfl rfl (G.extract rfl rfl rfl) fun a h => ?_
    refine St.get h rfl rfl rfl (G.assign rfl rfl) fun a h => ?_
    refine St.get h rfl rfl rfl (G.assign rfl rfl) fun a h => ?_
    refine St.get h rfl rfl rfl (G.assign rfl rfl) fun a h => ?_
    refine wpl_nil ?_
    refine X.thenN ?_
    refine C.seq ?_
    refine C.region ?_
    refine St.callD h [] rfl (Ro.nil _) (alive_spec) rfl rfl rfl Try.call10 rfl rfl fun a w h => ?_
    replace h := h.conv (sl' := _) (L' := [_, _, _, _, cells _ _ [_, _, _, _, _, _], _, _]) rfl rfl
    refine St.get h rfl rfl rfl (G.move rfl rfl) fun a h => ?_
    refine St.guard_yes h rfl rfl rfl rfl rfl ?_
    refine St.get h rfl rfl rfl (G.move rfl rfl) fun a h => ?_
    refine St.guard_yes h rfl rfl rfl rfl rfl ?_
    refine St.get h rfl rfl rfl (G.bin rfl rfl rfl (B.eqlT (by omega))) fun a h => ?_
    refine St.get h rfl rfl rfl (G.pickT rfl rfl rfl) fun a h => ?_
    refine St.get h rfl rfl rfl (G.move rfl rfl) fun a h => ?_
    refine St.guard_yes h rfl rfl rfl rfl rfl ?_
    refine St.get h rfl rfl rfl (G.move rfl rfl) fun a h => ?_
    refine St.guard_yes h rfl rfl rfl rfl rfl ?_
    refine St.get h rfl rfl rfl (G.move rfl rfl) fun a h => ?_
    refine St.guard_yes h rfl rfl rfl rfl rfl ?_
    refine St.get h rfl rfl rfl (G.bin rfl rfl rfl (B.eqlT (by omega))) fun a h => ?_
    refine St.get h rfl rfl rfl (G.pickT rfl rfl rfl) fun a h => ?_
    refine St.get h rfl rfl rfl (G.move rfl rfl) fun a h => ?_
    refine St.guard_yes h rfl rfl rfl rfl rfl ?_
    refine St.get h rfl rfl rfl (G.move rfl rfl) fun a h => ?_
    refine St.guard_yes h rfl rfl rfl rfl rfl ?_
    refine St.get h rfl rfl rfl (G.move rfl rfl) fun a h => ?_
    refine St.guard_yes h rfl rfl rfl rfl rfl ?_
    rw [e1, e2] at h
    refine St.callD h [] rfl (Ro.cons 3 rfl (ownl_ro _ _ _ _ _) (Ro.cons 1 rfl (ownl_ro _ _ _ _ _) (Ro.nil _))) ((SameChanges_spec A1 A2 k1 k2 (modelRO ⟨[], [], 0⟩ x).2.1 (modelRO ⟨[], [], 0⟩ x).2.1)) rfl rfl rfl Try.call13 rfl rfl fun a w h => ?_
    replace h := h.conv (sl' := _) (L' := [_, _, _, _, cells _ _ [_, _, _, _, _, _], _, _]) rfl rfl
    rw [sameC_self] at h
    refine St.get h rfl rfl rfl (G.pickT rfl rfl rfl) fun a h => ?_
    refine St.get h rfl rfl rfl (G.move rfl rfl) fun a h => ?_
    refine St.guard_yes h rfl rfl rfl rfl rfl ?_
    refine St.get h rfl rfl rfl (G.move rfl rfl) fun a h => ?_
    refine St.guard_yes h rfl rfl rfl rfl rfl ?_
    refine St.get h rfl rfl rfl (G.move rfl rfl) fun a h => ?_
    refine St.guard_yes h rfl rfl rfl rfl rfl ?_
    refine St.get h rfl rfl rfl (G.bin rfl rfl rfl (B.eqlT (by omega))) fun a h => ?_
    refine St.get h rfl rfl rfl (G.pickT rfl rfl rfl) fun a h => ?_
    refine St.get h rfl rfl rfl (G.move rfl rfl) fun a h => ?_
    refine St.guard_yes h rfl rfl rfl rfl rfl ?_
    refine St.get h rfl rfl rfl (G.move rfl rfl) fun a h => ?_
    refine St.guard_yes h rfl rfl rfl rfl rfl ?_
    refine St.callD h [] rfl (Ro.nil _) (Values_nil) rfl rfl rfl Try.call14 rfl rfl fun a w h => ?_
    replace h := h.conv (sl' := _) (L' := [_, _, _, _, cells _ _ [_, _, _, _, _, _], _, _]) rfl rfl
    refine St.guard_yes h rfl rfl rfl rfl rfl ?_
    refine St.get h rfl rfl rfl (G.lens rfl rfl Try.underlying24) fun a h => ?_
    refine St.guard_yes h rfl rfl rfl rfl rfl ?_
    refine St.get h rfl rfl rfl (G.move rfl rfl) fun a h => ?_
    refine St.guard_yes h rfl rfl rfl rfl rfl ?_
    refine St.callD h [] rfl (Ro.nil _) (Next_nil) rfl rfl rfl Try.call15 rfl rfl fun a w h => ?_
    replace h := h.conv (sl' := _) (L' := [_, _, _, _, cells _ _ [_, _, _, _, _, _], _, _]) rfl rfl
    refine St.guard_yes h rfl rfl rfl rfl rfl ?_
    refine St.get h rfl rfl rfl (G.bin rfl rfl rfl (B.addi (by omega) (by omega))) fun a h => ?_
    refine St.guard_yes h rfl rfl rfl rfl rfl ?_
    refine St.get h rfl rfl rfl (G.bin rfl rfl rfl (B.eqlT (by omega))) fun a h => ?_
    refine St.get h rfl rfl rfl (G.pickT rfl rfl rfl) fun a h => ?_
    refine St.get h rfl rfl rfl (G.move rfl rfl) fun a h => ?_
    refine St.guard_yes h rfl rfl rfl rfl rfl ?_
    refine St.get h rfl rfl rfl (G.move rfl rfl) fun a h => ?_
    refine St.guard_yes h rfl rfl rfl rfl rfl ?_
    refine St.get h rfl rfl rfl (G.fadr 1 rfl rfl Try.underlying26 rfl rfl Try.sizeOf3) fun a h => ?_
    refine St.guard_yes h rfl rfl rfl rfl rfl ?_
    refine St.get h rfl rfl rfl (G.ld 4 1 rfl rfl rfl rfl rfl Try.isAgg3) fun a h => ?_
    refine St.guard_yes h rfl rfl rfl rfl rfl ?_
    refine St.callD h [] rfl (Ro.nil _) ((Busy_nil x.work)) rfl rfl rfl Try.call16 rfl rfl fun a w h => ?_
    replace h := h.conv (sl' := _) (L' := [_, _, _, _, cells _ _ [_, _, _, _, _, _], _, _]) rfl rfl
    refine St.guard_yes h rfl rfl rfl rfl rfl ?_
    refine St.get h rfl rfl rfl (G.un rfl rfl B.not) fun a h => ?_
    refine St.get h rfl rfl rfl (G.pickT rfl rfl rfl) fun a h => ?_
    refine St.get h rfl rfl rfl (G.assign rfl rfl) fun a h => ?_
    refine wpl_nil ?_
    refine X.thenN ?_
    refine C.ret ?_
    replace h := h.sel [] rfl
    exact h.ret1 Try.results3 rfl (Ent.refl _) (⟨rfl, rfl⟩)
end Go.Proofs.Ytllhegccpknncaa
