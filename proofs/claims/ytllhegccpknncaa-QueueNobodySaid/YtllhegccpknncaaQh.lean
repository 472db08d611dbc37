/-
  The queue's statements: long, call, model, alive.
-/
import Derived.Test.YtllhegccpknncaaQg
import Derived.Test.YtllhegccpknncaaSeat
set_option linter.unusedVariables false
set_option linter.unusedSimpArgs false
set_option linter.unusedSectionVars false
set_option maxRecDepth 8000
namespace Go.Proofs.Ytllhegccpknncaa
open Go.Tr

/-- trothlaw14.Op -/
structure QO where
  kind : Int
  work : Int
  next : Int
  val : Int
  L : List Ch
  V : List Int
def opVals (x : QO) (gl gv : Option Addr) (cl cv : Nat) : List Value := [.int .i64 x.kind, .int .i64 x.work, .int .i64 x.next, .int .u64 x.val, rlv gl x.L.length cl, rlv gv x.V.length cv]
theorem long_spec (x : QO) (gl gv : Option Addr) (cl cv : Nat) (hl : x.L.length ≤ 9223372036854775807) (hv : x.V.length ≤ 9223372036854775807) :
    Meets Try.prog 9 #[.agg #[.int .i64 x.kind, .int .i64 x.work, .int .i64 x.next, .int .u64 x.val, rlv gl x.L.length cl, rlv gv x.V.length cv]] [] (Det (.bool (decide (x.L.length > 40 ∨ x.V.length > 40))) []) := by
  refine Meets.of_code Try.func9 rfl Try.ntmps9 rfl fun w0 S R a h => ?_
  refine C.seq ?_
  refine C.region ?_
  refine St.box h rfl rfl rfl rfl rfl fun b1 a w h => ?_
  replace h := h.conv (sl' := _) (L' := [cells _ _ [_, _, _, _, _, _]]) rfl rfl
  refine St.get h rfl rfl rfl (G.assign rfl rfl) fun a h => ?_
  refine wpl_nil ?_
  refine X.thenN ?_
  refine C.seq ?_
  refine C.region ?_
  refine St.get h rfl rfl rfl (G.fadr 4 rfl rfl Try.underlying26 rfl rfl Try.sizeOf23) fun a h => ?_
  refine St.get h rfl rfl rfl (G.ld 0 4 rfl rfl rfl rfl rfl Try.isAgg23) fun a h => ?_
  refine St.get h rfl rfl rfl (G.lens rfl rfl Try.underlying23) fun a h => ?_
  refine St.getP h rfl rfl rfl (G.bin rfl rfl rfl B.gtr) (fun hc a h => ?_) (fun hc a h => ?_)
  refine St.get h rfl rfl rfl (G.move rfl rfl) fun a h => ?_
  refine St.guard_no h rfl rfl rfl rfl rfl (by decide) rfl rfl fun a h => ?_
  refine St.guard_no h rfl rfl rfl rfl rfl (by decide) rfl rfl fun a h => ?_
  refine St.guard_no h rfl rfl rfl rfl rfl (by decide) rfl rfl fun a h => ?_
  refine St.guard_no h rfl rfl rfl rfl rfl (by decide) rfl rfl fun a h => ?_
  refine St.get h rfl rfl rfl (G.pickT rfl rfl rfl) fun a h => ?_
  refine St.get h rfl rfl rfl (G.assign rfl rfl) fun a h => ?_
  refine wpl_nil ?_
  refine X.thenN ?_
  refine C.ret ?_
  rotate_left
  refine St.get h rfl rfl rfl (G.move rfl rfl) fun a h => ?_
  refine St.guard_yes h rfl rfl rfl rfl rfl ?_
  refine St.get h rfl rfl rfl (G.fadr 5 rfl rfl Try.underlying26 rfl rfl Try.sizeOf24) fun a h => ?_
  refine St.guard_yes h rfl rfl rfl rfl rfl ?_
  refine St.get h rfl rfl rfl (G.ld 0 5 rfl rfl rfl rfl rfl Try.isAgg24) fun a h => ?_
  refine St.guard_yes h rfl rfl rfl rfl rfl ?_
  refine St.get h rfl rfl rfl (G.lens rfl rfl Try.underlying24) fun a h => ?_
  refine St.guard_yes h rfl rfl rfl rfl rfl ?_
  refine St.getP h rfl rfl rfl (G.bin rfl rfl rfl B.gtr) (fun hc1 a h => ?_) (fun hc1 a h => ?_)
  refine St.get h rfl rfl rfl (G.pickF rfl rfl rfl) fun a h => ?_
  refine St.get h rfl rfl rfl (G.assign rfl rfl) fun a h => ?_
  refine wpl_nil ?_
  refine X.thenN ?_
  refine C.ret ?_
  rotate_left
  refine St.get h rfl rfl rfl (G.pickF rfl rfl rfl) fun a h => ?_
  refine St.get h rfl rfl rfl (G.assign rfl rfl) fun a h => ?_
  refine wpl_nil ?_
  refine X.thenN ?_
  refine C.ret ?_
  rotate_left
  · replace h := h.sel [] rfl
    exact h.ret1 Try.results9 rfl (Ent.refl _) (⟨by rw [decide_eq_true (by omega)], rfl⟩)
  · replace h := h.sel [] rfl
    exact h.ret1 Try.results9 rfl (Ent.refl _) (⟨by rw [decide_eq_true_iff.2 (by omega)], rfl⟩)
  · replace h := h.sel [] rfl
    exact h.ret1 Try.results9 rfl (Ent.refl _) (⟨by rw [decide_eq_false (by omega)], rfl⟩)

theorem call_nil (x : QO) (gl gv : Option Addr) (cl cv : Nat) (hk0 : 0 ≤ x.kind) (hk6 : x.kind ≤ 6) :
    Meets Try.prog 11 #[.pointer none, .agg #[.int .i64 x.kind, .int .i64 x.work, .int .i64 x.next, .int .u64 x.val, rlv gl x.L.length cl, rlv gv x.V.length cv]] [] (Det (.tuple #[.int .u64 0, rlv none 0 0, .int .i64 6]) []) := by
  refine Meets.of_code Try.func11 rfl Try.ntmps11 rfl fun w0 S R a h => ?_
  refine C.seq ?_
  refine C.region ?_
  refine St.box h rfl rfl rfl rfl rfl fun b1 a w h => ?_
  replace h := h.conv (sl' := _) (L' := [cells _ _ [_, _, _, _, _, _]]) rfl rfl
  refine St.get h rfl rfl rfl (G.assign rfl rfl) fun a h => ?_
  refine St.get h rfl rfl rfl (G.assign rfl rfl) fun a h => ?_
  refine St.get h rfl rfl rfl (G.assign rfl rfl) fun a h => ?_
  refine wpl_nil ?_
  refine X.thenN ?_
  refine C.seq ?_
  refine C.seq ?_
  refine C.region ?_
  refine St.get h rfl rfl rfl (G.fadr 0 rfl rfl Try.underlying26 rfl rfl Try.sizeOf3) fun a h => ?_
  refine St.get h rfl rfl rfl (G.ld 0 0 rfl rfl rfl rfl rfl Try.isAgg3) fun a h => ?_
  refine wpl_nil ?_
  refine X.thenN ?_
  refine C.block ?_
  refine C.seq ?_
  refine C.region ?_
  refine St.getP h rfl rfl rfl (G.bin rfl rfl rfl B.eql) (fun hc a h => ?_) (fun hc a h => ?_)
  refine St.get h rfl rfl rfl (G.assign rfl rfl) fun a h => ?_
  refine wpl_nil ?_
  refine X.thenN ?_
  refine St.condT h rfl ?_
  refine C.seq ?_
  refine C.region ?_
  refine St.get h rfl rfl rfl (G.move rfl rfl) fun a h => ?_
  refine St.get h rfl rfl rfl (G.fadr 1 rfl rfl Try.underlying26 rfl rfl Try.sizeOf3) fun a h => ?_
  refine St.get h rfl rfl rfl (G.ld 0 1 rfl rfl rfl rfl rfl Try.isAgg3) fun a h => ?_
  refine St.get h rfl rfl rfl (G.fadr 3 rfl rfl Try.underlying26 rfl rfl Try.sizeOf22) fun a h => ?_
  refine St.get h rfl rfl rfl (G.ld 0 3 rfl rfl rfl rfl rfl Try.isAgg22) fun a h => ?_
  rotate_left
  refine St.get h rfl rfl rfl (G.assign rfl rfl) fun a h => ?_
  refine wpl_nil ?_
  refine X.thenN ?_
  refine St.condF h rfl ?_
  refine C.seq ?_
  refine C.region ?_
  refine St.getP h rfl rfl rfl (G.bin rfl rfl rfl B.eql) (fun hc1 a h => ?_) (fun hc1 a h => ?_)
  refine St.get h rfl rfl rfl (G.assign rfl rfl) fun a h => ?_
  refine wpl_nil ?_
  refine X.thenN ?_
  refine St.condT h rfl ?_
  refine C.seq ?_
  refine C.region ?_
  refine St.get h rfl rfl rfl (G.move rfl rfl) fun a h => ?_
  refine St.get h rfl rfl rfl (G.fadr 1 rfl rfl Try.underlying26 rfl rfl Try.sizeOf3) fun a h => ?_
  refine St.get h rfl rfl rfl (G.ld 0 1 rfl rfl rfl rfl rfl Try.isAgg3) fun a h => ?_
  rotate_left
  refine St.get h rfl rfl rfl (G.assign rfl rfl) fun a h => ?_
  refine wpl_nil ?_
  refine X.thenN ?_
  refine St.condF h rfl ?_
  refine C.seq ?_
  refine C.region ?_
  refine St.getP h rfl rfl rfl (G.bin rfl rfl rfl B.eql) (fun hc2 a h => ?_) (fun hc2 a h => ?_)
  refine St.get h rfl rfl rfl (G.assign rfl rfl) fun a h => ?_
  refine wpl_nil ?_
  refine X.thenN ?_
  refine St.condT h rfl ?_
  refine C.seq ?_
  refine C.region ?_
  refine St.get h rfl rfl rfl (G.move rfl rfl) fun a h => ?_
  refine St.get h rfl rfl rfl (G.fadr 1 rfl rfl Try.underlying26 rfl rfl Try.sizeOf3) fun a h => ?_
  refine St.get h rfl rfl rfl (G.ld 0 1 rfl rfl rfl rfl rfl Try.isAgg3) fun a h => ?_
  rotate_left
  refine St.get h rfl rfl rfl (G.assign rfl rfl) fun a h => ?_
  refine wpl_nil ?_
  refine X.thenN ?_
  refine St.condF h rfl ?_
  refine C.seq ?_
  refine C.region ?_
  refine St.getP h rfl rfl rfl (G.bin rfl rfl rfl B.eql) (fun hc3 a h => ?_) (fun hc3 a h => ?_)
  refine St.get h rfl rfl rfl (G.assign rfl rfl) fun a h => ?_
  refine wpl_nil ?_
  refine X.thenN ?_
  refine St.condT h rfl ?_
  refine C.seq ?_
  refine C.region ?_
  refine St.get h rfl rfl rfl (G.move rfl rfl) fun a h => ?_
  refine St.get h rfl rfl rfl (G.fadr 1 rfl rfl Try.underlying26 rfl rfl Try.sizeOf3) fun a h => ?_
  refine St.get h rfl rfl rfl (G.ld 0 1 rfl rfl rfl rfl rfl Try.isAgg3) fun a h => ?_
  rotate_left
  refine St.get h rfl rfl rfl (G.assign rfl rfl) fun a h => ?_
  refine wpl_nil ?_
  refine X.thenN ?_
  refine St.condF h rfl ?_
  refine C.seq ?_
  refine C.region ?_
  refine St.getP h rfl rfl rfl (G.bin rfl rfl rfl B.eql) (fun hc4 a h => ?_) (fun hc4 a h => ?_)
  refine St.get h rfl rfl rfl (G.assign rfl rfl) fun a h => ?_
  refine wpl_nil ?_
  refine X.thenN ?_
  refine St.condT h rfl ?_
  refine C.seq ?_
  refine C.region ?_
  refine St.get h rfl rfl rfl (G.move rfl rfl) fun a h => ?_
  refine St.get h rfl rfl rfl (G.fadr 1 rfl rfl Try.underlying26 rfl rfl Try.sizeOf3) fun a h => ?_
  refine St.get h rfl rfl rfl (G.ld 0 1 rfl rfl rfl rfl rfl Try.isAgg3) fun a h => ?_
  rotate_left
  refine St.get h rfl rfl rfl (G.assign rfl rfl) fun a h => ?_
  refine wpl_nil ?_
  refine X.thenN ?_
  refine St.condF h rfl ?_
  refine C.seq ?_
  refine C.region ?_
  refine St.getP h rfl rfl rfl (G.bin rfl rfl rfl B.eql) (fun hc5 a h => ?_) (fun hc5 a h => ?_)
  refine St.get h rfl rfl rfl (G.assign rfl rfl) fun a h => ?_
  refine wpl_nil ?_
  refine X.thenN ?_
  refine St.condT h rfl ?_
  refine C.seq ?_
  refine C.region ?_
  refine St.get h rfl rfl rfl (G.move rfl rfl) fun a h => ?_
  refine St.get h rfl rfl rfl (G.fadr 1 rfl rfl Try.underlying26 rfl rfl Try.sizeOf3) fun a h => ?_
  refine St.get h rfl rfl rfl (G.ld 0 1 rfl rfl rfl rfl rfl Try.isAgg3) fun a h => ?_
  refine St.get h rfl rfl rfl (G.fadr 4 rfl rfl Try.underlying26 rfl rfl Try.sizeOf23) fun a h => ?_
  refine St.get h rfl rfl rfl (G.ld 0 4 rfl rfl rfl rfl rfl Try.isAgg23) fun a h => ?_
  rotate_left
  refine St.get h rfl rfl rfl (G.assign rfl rfl) fun a h => ?_
  refine wpl_nil ?_
  refine X.thenN ?_
  refine St.condF h rfl ?_
  refine C.seq ?_
  refine C.region ?_
  refine St.get h rfl rfl rfl (G.bin rfl rfl rfl (B.eqlT (by omega))) fun a h => ?_
  refine St.get h rfl rfl rfl (G.assign rfl rfl) fun a h => ?_
  refine wpl_nil ?_
  refine X.thenN ?_
  refine St.condT h rfl ?_
  refine C.seq ?_
  refine C.region ?_
  refine St.get h rfl rfl rfl (G.move rfl rfl) fun a h => ?_
  refine St.get h rfl rfl rfl (G.fadr 5 rfl rfl Try.underlying26 rfl rfl Try.sizeOf24) fun a h => ?_
  refine St.get h rfl rfl rfl (G.ld 0 5 rfl rfl rfl rfl rfl Try.isAgg24) fun a h => ?_
  refine St.get h rfl rfl rfl (G.fadr 2 rfl rfl Try.underlying26 rfl rfl Try.sizeOf3) fun a h => ?_
  refine St.get h rfl rfl rfl (G.ld 0 2 rfl rfl rfl rfl rfl Try.isAgg3) fun a h => ?_
  rotate_left
  · refine St.callD h [] rfl (Ro.nil _) ((Put_nil x.work x.val)) rfl rfl rfl Try.call37 rfl rfl fun a w h => ?_
    replace h := h.conv (sl' := _) (L' := [cells _ _ [_, _, _, _, _, _]]) rfl rfl
    refine St.get h rfl rfl rfl (G.assign rfl rfl) fun a h => ?_
    refine St.get h rfl rfl rfl (G.assign rfl rfl) fun a h => ?_
    refine St.get h rfl rfl rfl (G.assign rfl rfl) fun a h => ?_
    refine wpl_nil ?_
    refine X.thenN ?_
    refine C.ret ?_
    refine X.blkR ?_
    refine X.thenR ?_
    replace h := h.sel [] rfl
    exact h.ret3 Try.results11 rfl rfl rfl (Ent.refl _) (⟨rfl, rfl⟩)
  · refine St.callD h [] rfl (Ro.nil _) ((Take_nil x.work)) rfl rfl rfl Try.call39 rfl rfl fun a w h => ?_
    replace h := h.conv (sl' := _) (L' := [cells _ _ [_, _, _, _, _, _]]) rfl rfl
    refine St.get h rfl rfl rfl (G.move rfl rfl) fun a h => ?_
    refine St.get h rfl rfl rfl (G.extract rfl rfl rfl) fun a h => ?_
    refine St.get h rfl rfl rfl (G.extract rfl rfl rfl) fun a h => ?_
    refine St.get h rfl rfl rfl (G.assign rfl rfl) fun a h => ?_
    refine St.get h rfl rfl rfl (G.assign rfl rfl) fun a h => ?_
    refine wpl_nil ?_
    refine X.thenN ?_
    refine C.seq ?_
    refine C.region ?_
    refine St.get h rfl rfl rfl (G.move rfl rfl) fun a h => ?_
    refine St.get h rfl rfl rfl (G.move rfl rfl) fun a h => ?_
    refine St.get h rfl rfl rfl (G.assign rfl rfl) fun a h => ?_
    refine St.get h rfl rfl rfl (G.assign rfl rfl) fun a h => ?_
    refine St.get h rfl rfl rfl (G.assign rfl rfl) fun a h => ?_
    refine wpl_nil ?_
    refine X.thenN ?_
    refine C.ret ?_
    refine X.blkR ?_
    refine X.thenR ?_
    replace h := h.sel [] rfl
    exact h.ret3 Try.results11 rfl rfl rfl (Ent.refl _) (⟨rfl, rfl⟩)
  · refine St.callD h [] rfl (Ro.nil _) ((Prepare_nil x.work)) rfl rfl rfl Try.call41 rfl rfl fun a w h => ?_
    replace h := h.conv (sl' := _) (L' := [cells _ _ [_, _, _, _, _, _]]) rfl rfl
    refine St.get h rfl rfl rfl (G.move rfl rfl) fun a h => ?_
    refine St.get h rfl rfl rfl (G.extract rfl rfl rfl) fun a h => ?_
    refine St.get h rfl rfl rfl (G.extract rfl rfl rfl) fun a h => ?_
    refine St.get h rfl rfl rfl (G.assign rfl rfl) fun a h => ?_
    refine St.get h rfl rfl rfl (G.assign rfl rfl) fun a h => ?_
    refine wpl_nil ?_
    refine X.thenN ?_
    refine C.seq ?_
    refine C.region ?_
    refine St.get h rfl rfl rfl (G.move rfl rfl) fun a h => ?_
    refine St.get h rfl rfl rfl (G.move rfl rfl) fun a h => ?_
    refine St.get h rfl rfl rfl (G.assign rfl rfl) fun a h => ?_
    refine St.get h rfl rfl rfl (G.assign rfl rfl) fun a h => ?_
    refine St.get h rfl rfl rfl (G.assign rfl rfl) fun a h => ?_
    refine wpl_nil ?_
    refine X.thenN ?_
    refine C.ret ?_
    refine X.blkR ?_
    refine X.thenR ?_
    replace h := h.sel [] rfl
    exact h.ret3 Try.results11 rfl rfl rfl (Ent.refl _) (⟨rfl, rfl⟩)
  · refine St.callD h [] rfl (Ro.nil _) ((Commit_nil x.work)) rfl rfl rfl Try.call38 rfl rfl fun a w h => ?_
    replace h := h.conv (sl' := _) (L' := [cells _ _ [_, _, _, _, _, _]]) rfl rfl
    refine St.get h rfl rfl rfl (G.assign rfl rfl) fun a h => ?_
    refine St.get h rfl rfl rfl (G.assign rfl rfl) fun a h => ?_
    refine St.get h rfl rfl rfl (G.assign rfl rfl) fun a h => ?_
    refine wpl_nil ?_
    refine X.thenN ?_
    refine C.ret ?_
    refine X.blkR ?_
    refine X.thenR ?_
    replace h := h.sel [] rfl
    exact h.ret3 Try.results11 rfl rfl rfl (Ent.refl _) (⟨rfl, rfl⟩)
  · refine St.callD h [] rfl (Ro.nil _) ((Backout_nil x.work)) rfl rfl rfl Try.call40 rfl rfl fun a w h => ?_
    replace h := h.conv (sl' := _) (L' := [cells _ _ [_, _, _, _, _, _]]) rfl rfl
    refine St.get h rfl rfl rfl (G.assign rfl rfl) fun a h => ?_
    refine St.get h rfl rfl rfl (G.assign rfl rfl) fun a h => ?_
    refine St.get h rfl rfl rfl (G.assign rfl rfl) fun a h => ?_
    refine wpl_nil ?_
    refine X.thenN ?_
    refine C.ret ?_
    refine X.blkR ?_
    refine X.thenR ?_
    replace h := h.sel [] rfl
    exact h.ret3 Try.results11 rfl rfl rfl (Ent.refl _) (⟨rfl, rfl⟩)
  · refine St.callD h [] rfl (Ro.nil _) ((Restore_nil gl cl x.L x.work)) rfl rfl rfl Try.call42 rfl rfl fun a w h => ?_
    replace h := h.conv (sl' := _) (L' := [cells _ _ [_, _, _, _, _, _]]) rfl rfl
    refine St.get h rfl rfl rfl (G.assign rfl rfl) fun a h => ?_
    refine St.get h rfl rfl rfl (G.assign rfl rfl) fun a h => ?_
    refine St.get h rfl rfl rfl (G.assign rfl rfl) fun a h => ?_
    refine wpl_nil ?_
    refine X.thenN ?_
    refine C.ret ?_
    refine X.blkR ?_
    refine X.thenR ?_
    replace h := h.sel [] rfl
    exact h.ret3 Try.results11 rfl rfl rfl (Ent.refl _) (⟨rfl, rfl⟩)
  · refine St.callD h [] rfl (Ro.nil _) ((Load_nil gv cv x.V x.next)) rfl rfl rfl Try.call43 rfl rfl fun a w h => ?_
    replace h := h.conv (sl' := _) (L' := [cells _ _ [_, _, _, _, _, _]]) rfl rfl
    refine St.get h rfl rfl rfl (G.assign rfl rfl) fun a h => ?_
    refine St.get h rfl rfl rfl (G.assign rfl rfl) fun a h => ?_
    refine St.get h rfl rfl rfl (G.assign rfl rfl) fun a h => ?_
    refine wpl_nil ?_
    refine X.thenN ?_
    refine C.ret ?_
    refine X.blkR ?_
    refine X.thenR ?_
    replace h := h.sel [] rfl
    exact h.ret3 Try.results11 rfl rfl rfl (Ent.refl _) (⟨rfl, rfl⟩)
def callQO (q : QM) (x : QO) : Int × List Ch × Int × QM :=
  if x.kind = 0 then (0, [], putQ q x.work x.val)
  else if x.kind = 1 then ((takeQ q x.work).1, [], (takeQ q x.work).2)
  else if x.kind = 2 then (0, (prepQ q x.work).2.1, (prepQ q x.work).1, (prepQ q x.work).2.2)
  else if x.kind = 3 then (0, [], commitQ q x.work)
  else if x.kind = 4 then (0, [], backQ q x.work)
  else if x.kind = 5 then (0, [], restQ q x.work x.L)
  else if x.kind = 6 then (0, [], loadQ q x.V x.next)
  else (0, [], 0, q)
theorem callQ_spec (b o : Nat) (q : QM) (hq : q.Good) (hw9 : q.works.length < 900000000) (x : QO) (gl gv : Option Addr) (cl cv : Nat) (hk0 : 0 ≤ x.kind) (hk6 : x.kind ≤ 6) (hL : x.L.length ≤ 40) (hV : x.V.length ≤ 40) (hn : -9223372036854775808 ≤ x.next) :
    Meets Try.prog 11 #[.pointer (some ⟨b, o, none⟩), .agg #[.int .i64 x.kind, .int .i64 x.work, .int .i64 x.next, .int .u64 x.val, rlv gl x.L.length cl, rlv gv x.V.length cv]] [QAt b o q, rdl encCh gl x.L, rdl encU64 gv x.V]
      (fun v L => ∃ A c, v = .tuple #[.int .u64 (callQO q x).1, rlv A (callQO q x).2.1.length c, .int .i64 (callQO q x).2.2.1] ∧ L = [QAt b o (callQO q x).2.2.2, ownl encCh 80 A c (callQO q x).2.1]) := by
  refine Meets.of_code Try.func11 rfl Try.ntmps11 rfl fun w0 S R a h => ?_
  refine C.seq ?_
  refine C.region ?_
  refine St.box h rfl rfl rfl rfl rfl fun b1 a w h => ?_
  replace h := h.conv (sl' := _) (L' := [cells _ _ [_, _, _, _, _, _], _, _, _]) rfl rfl
  refine St.get h rfl rfl rfl (G.assign rfl rfl) fun a h => ?_
  refine St.get h rfl rfl rfl (G.assign rfl rfl) fun a h => ?_
  refine St.get h rfl rfl rfl (G.assign rfl rfl) fun a h => ?_
  refine wpl_nil ?_
  refine X.thenN ?_
  refine C.seq ?_
  refine C.seq ?_
  refine C.region ?_
  refine St.get h rfl rfl rfl (G.fadr 0 rfl rfl Try.underlying26 rfl rfl Try.sizeOf3) fun a h => ?_
  refine St.get h rfl rfl rfl (G.ld 0 0 rfl rfl rfl rfl rfl Try.isAgg3) fun a h => ?_
  refine wpl_nil ?_
  refine X.thenN ?_
  refine C.block ?_
  refine C.seq ?_
  refine C.region ?_
  refine St.getP h rfl rfl rfl (G.bin rfl rfl rfl B.eql) (fun hc a h => ?_) (fun hc a h => ?_)
  refine St.get h rfl rfl rfl (G.assign rfl rfl) fun a h => ?_
  refine wpl_nil ?_
  refine X.thenN ?_
  refine St.condT h rfl ?_
  refine C.seq ?_
  refine C.region ?_
  refine St.get h rfl rfl rfl (G.move rfl rfl) fun a h => ?_
  refine St.get h rfl rfl rfl (G.fadr 1 rfl rfl Try.underlying26 rfl rfl Try.sizeOf3) fun a h => ?_
  refine St.get h rfl rfl rfl (G.ld 0 1 rfl rfl rfl rfl rfl Try.isAgg3) fun a h => ?_
  refine St.get h rfl rfl rfl (G.fadr 3 rfl rfl Try.underlying26 rfl rfl Try.sizeOf22) fun a h => ?_
  refine St.get h rfl rfl rfl (G.ld 0 3 rfl rfl rfl rfl rfl Try.isAgg22) fun a h => ?_
  rotate_left
  refine St.get h rfl rfl rfl (G.assign rfl rfl) fun a h => ?_
  refine wpl_nil ?_
  refine X.thenN ?_
  refine St.condF h rfl ?_
  refine C.seq ?_
  refine C.region ?_
  refine St.getP h rfl rfl rfl (G.bin rfl rfl rfl B.eql) (fun hc1 a h => ?_) (fun hc1 a h => ?_)
  refine St.get h rfl rfl rfl (G.assign rfl rfl) fun a h => ?_
  refine wpl_nil ?_
  refine X.thenN ?_
  refine St.condT h rfl ?_
  refine C.seq ?_
  refine C.region ?_
  refine St.get h rfl rfl rfl (G.move rfl rfl) fun a h => ?_
  refine St.get h rfl rfl rfl (G.fadr 1 rfl rfl Try.underlying26 rfl rfl Try.sizeOf3) fun a h => ?_
  refine St.get h rfl rfl rfl (G.ld 0 1 rfl rfl rfl rfl rfl Try.isAgg3) fun a h => ?_
  rotate_left
  refine St.get h rfl rfl rfl (G.assign rfl rfl) fun a h => ?_
  refine wpl_nil ?_
  refine X.thenN ?_
  refine St.condF h rfl ?_
  refine C.seq ?_
  refine C.region ?_
  refine St.getP h rfl rfl rfl (G.bin rfl rfl rfl B.eql) (fun hc2 a h => ?_) (fun hc2 a h => ?_)
  refine St.get h rfl rfl rfl (G.assign rfl rfl) fun a h => ?_
  refine wpl_nil ?_
  refine X.thenN ?_
  refine St.condT h rfl ?_
  refine C.seq ?_
  refine C.region ?_
  refine St.get h rfl rfl rfl (G.move rfl rfl) fun a h => ?_
  refine St.get h rfl rfl rfl (G.fadr 1 rfl rfl Try.underlying26 rfl rfl Try.sizeOf3) fun a h => ?_
  refine St.get h rfl rfl rfl (G.ld 0 1 rfl rfl rfl rfl rfl Try.isAgg3) fun a h => ?_
  rotate_left
  refine St.get h rfl rfl rfl (G.assign rfl rfl) fun a h => ?_
  refine wpl_nil ?_
  refine X.thenN ?_
  refine St.condF h rfl ?_
  refine C.seq ?_
  refine C.region ?_
  refine St.getP h rfl rfl rfl (G.bin rfl rfl rfl B.eql) (fun hc3 a h => ?_) (fun hc3 a h => ?_)
  refine St.get h rfl rfl rfl (G.assign rfl rfl) fun a h => ?_
  refine wpl_nil ?_
  refine X.thenN ?_
  refine St.condT h rfl ?_
  refine C.seq ?_
  refine C.region ?_
  refine St.get h rfl rfl rfl (G.move rfl rfl) fun a h => ?_
  refine St.get h rfl rfl rfl (G.fadr 1 rfl rfl Try.underlying26 rfl rfl Try.sizeOf3) fun a h => ?_
  refine St.get h rfl rfl rfl (G.ld 0 1 rfl rfl rfl rfl rfl Try.isAgg3) fun a h => ?_
  rotate_left
  refine St.get h rfl rfl rfl (G.assign rfl rfl) fun a h => ?_
  refine wpl_nil ?_
  refine X.thenN ?_
  refine St.condF h rfl ?_
  refine C.seq ?_
  refine C.region ?_
  refine St.getP h rfl rfl rfl (G.bin rfl rfl rfl B.eql) (fun hc4 a h => ?_) (fun hc4 a h => ?_)
  refine St.get h rfl rfl rfl (G.assign rfl rfl) fun a h => ?_
  refine wpl_nil ?_
  refine X.thenN ?_
  refine St.condT h rfl ?_
  refine C.seq ?_
  refine C.region ?_
  refine St.get h rfl rfl rfl (G.move rfl rfl) fun a h => ?_
  refine St.get h rfl rfl rfl (G.fadr 1 rfl rfl Try.underlying26 rfl rfl Try.sizeOf3) fun a h => ?_
  refine St.get h rfl rfl rfl (G.ld 0 1 rfl rfl rfl rfl rfl Try.isAgg3) fun a h => ?_
  rotate_left
  refine St.get h rfl rfl rfl (G.assign rfl rfl) fun a h => ?_
  refine wpl_nil ?_
  refine X.thenN ?_
  refine St.condF h rfl ?_
  refine C.seq ?_
  refine C.region ?_
  refine St.getP h rfl rfl rfl (G.bin rfl rfl rfl B.eql) (fun hc5 a h => ?_) (fun hc5 a h => ?_)
  refine St.get h rfl rfl rfl (G.assign rfl rfl) fun a h => ?_
  refine wpl_nil ?_
  refine X.thenN ?_
  refine St.condT h rfl ?_
  refine C.seq ?_
  refine C.region ?_
  refine St.get h rfl rfl rfl (G.move rfl rfl) fun a h => ?_
  refine St.get h rfl rfl rfl (G.fadr 1 rfl rfl Try.underlying26 rfl rfl Try.sizeOf3) fun a h => ?_
  refine St.get h rfl rfl rfl (G.ld 0 1 rfl rfl rfl rfl rfl Try.isAgg3) fun a h => ?_
  refine St.get h rfl rfl rfl (G.fadr 4 rfl rfl Try.underlying26 rfl rfl Try.sizeOf23) fun a h => ?_
  refine St.get h rfl rfl rfl (G.ld 0 4 rfl rfl rfl rfl rfl Try.isAgg23) fun a h => ?_
  rotate_left
  refine St.get h rfl rfl rfl (G.assign rfl rfl) fun a h => ?_
  refine wpl_nil ?_
  refine X.thenN ?_
  refine St.condF h rfl ?_
  refine C.seq ?_
  refine C.region ?_
  refine St.get h rfl rfl rfl (G.bin rfl rfl rfl (B.eqlT (by omega))) fun a h => ?_
  refine St.get h rfl rfl rfl (G.assign rfl rfl) fun a h => ?_
  refine wpl_nil ?_
  refine X.thenN ?_
  refine St.condT h rfl ?_
  refine C.seq ?_
  refine C.region ?_
  refine St.get h rfl rfl rfl (G.move rfl rfl) fun a h => ?_
  refine St.get h rfl rfl rfl (G.fadr 5 rfl rfl Try.underlying26 rfl rfl Try.sizeOf24) fun a h => ?_
  refine St.get h rfl rfl rfl (G.ld 0 5 rfl rfl rfl rfl rfl Try.isAgg24) fun a h => ?_
  refine St.get h rfl rfl rfl (G.fadr 2 rfl rfl Try.underlying26 rfl rfl Try.sizeOf3) fun a h => ?_
  refine St.get h rfl rfl rfl (G.ld 0 2 rfl rfl rfl rfl rfl Try.isAgg3) fun a h => ?_
  rotate_left
  · have e : callQO q x = (0, [], putQ q x.work x.val) := by unfold callQO; rw [if_pos (by omega)]
    rw [e]
    refine St.callD h [1] rfl (Ro.nil _) ((Put_spec b o q x.work x.val hq)) rfl rfl rfl Try.call37 rfl rfl fun a w h => ?_
    replace h := h.conv (sl' := _) (L' := [_, cells _ _ [_, _, _, _, _, _], _, _]) rfl rfl
    refine St.get h rfl rfl rfl (G.assign rfl rfl) fun a h => ?_
    refine St.get h rfl rfl rfl (G.assign rfl rfl) fun a h => ?_
    refine St.get h rfl rfl rfl (G.assign rfl rfl) fun a h => ?_
    refine wpl_nil ?_
    refine X.thenN ?_
    refine C.ret ?_
    refine X.blkR ?_
    refine X.thenR ?_
    replace h := h.nil encCh 80
    replace h := h.sel [1, 0] rfl
    replace h := h.conv (sl' := _) (L' := [_, _]) rfl rfl
    exact h.ret3 Try.results11 rfl rfl rfl (Ent.refl _) (⟨none, 0, rfl, rfl⟩)
  · have e : callQO q x = ((takeQ q x.work).1, [], (takeQ q x.work).2) := by unfold callQO; rw [if_neg (by omega), if_pos (by omega)]
    rw [e]
    refine St.callD h [1] rfl (Ro.nil _) ((Take_spec b o q x.work hq)) rfl rfl rfl Try.call39 rfl rfl fun a w h => ?_
    replace h := h.conv (sl' := _) (L' := [_, cells _ _ [_, _, _, _, _, _], _, _]) rfl rfl
    refine St.get h rfl rfl rfl (G.move rfl rfl) fun a h => ?_
    refine St.get h rfl rfl rfl (G.extract rfl rfl rfl) fun a h => ?_
    refine St.get h rfl rfl rfl (G.extract rfl rfl rfl) fun a h => ?_
    refine St.get h rfl rfl rfl (G.assign rfl rfl) fun a h => ?_
    refine St.get h rfl rfl rfl (G.assign rfl rfl) fun a h => ?_
    refine wpl_nil ?_
    refine X.thenN ?_
    refine C.seq ?_
    refine C.region ?_
    refine St.get h rfl rfl rfl (G.move rfl rfl) fun a h => ?_
    refine St.get h rfl rfl rfl (G.move rfl rfl) fun a h => ?_
    refine St.get h rfl rfl rfl (G.assign rfl rfl) fun a h => ?_
    refine St.get h rfl rfl rfl (G.assign rfl rfl) fun a h => ?_
    refine St.get h rfl rfl rfl (G.assign rfl rfl) fun a h => ?_
    refine wpl_nil ?_
    refine X.thenN ?_
    refine C.ret ?_
    refine X.blkR ?_
    refine X.thenR ?_
    replace h := h.nil encCh 80
    replace h := h.sel [1, 0] rfl
    replace h := h.conv (sl' := _) (L' := [_, _]) rfl rfl
    exact h.ret3 Try.results11 rfl rfl rfl (Ent.refl _) (⟨none, 0, rfl, rfl⟩)
  · have e : callQO q x = (0, (prepQ q x.work).2.1, (prepQ q x.work).1, (prepQ q x.work).2.2) := by unfold callQO; rw [if_neg (by omega), if_neg (by omega), if_pos (by omega)]
    rw [e]
    refine St.call h [1] rfl (Ro.nil _) ((Prepare_spec b o q x.work hq)) rfl rfl rfl Try.call41 rfl rfl fun v L a w hp h => ?_
    obtain ⟨A', c', rfl, rfl⟩ := hp
    replace h := h.conv (sl' := _) (L' := [_, _, cells _ _ [_, _, _, _, _, _], _, _]) rfl rfl
    refine St.get h rfl rfl rfl (G.move rfl rfl) fun a h => ?_
    refine St.get h rfl rfl rfl (G.extract rfl rfl rfl) fun a h => ?_
    refine St.get h rfl rfl rfl (G.extract rfl rfl rfl) fun a h => ?_
    refine St.get h rfl rfl rfl (G.assign rfl rfl) fun a h => ?_
    refine St.get h rfl rfl rfl (G.assign rfl rfl) fun a h => ?_
    refine wpl_nil ?_
    refine X.thenN ?_
    refine C.seq ?_
    refine C.region ?_
    refine St.get h rfl rfl rfl (G.move rfl rfl) fun a h => ?_
    refine St.get h rfl rfl rfl (G.move rfl rfl) fun a h => ?_
    refine St.get h rfl rfl rfl (G.assign rfl rfl) fun a h => ?_
    refine St.get h rfl rfl rfl (G.assign rfl rfl) fun a h => ?_
    refine St.get h rfl rfl rfl (G.assign rfl rfl) fun a h => ?_
    refine wpl_nil ?_
    refine X.thenN ?_
    refine C.ret ?_
    refine X.blkR ?_
    refine X.thenR ?_
    replace h := h.sel [0, 1] rfl
    replace h := h.conv (sl' := _) (L' := [_, _]) rfl rfl
    exact h.ret3 Try.results11 rfl rfl rfl (Ent.refl _) (⟨A', c', rfl, rfl⟩)
  · have e : callQO q x = (0, [], commitQ q x.work) := by unfold callQO; rw [if_neg (by omega), if_neg (by omega), if_neg (by omega), if_pos (by omega)]
    rw [e]
    refine St.callD h [1] rfl (Ro.nil _) ((Commit_spec b o q x.work hq)) rfl rfl rfl Try.call38 rfl rfl fun a w h => ?_
    replace h := h.conv (sl' := _) (L' := [_, cells _ _ [_, _, _, _, _, _], _, _]) rfl rfl
    refine St.get h rfl rfl rfl (G.assign rfl rfl) fun a h => ?_
    refine St.get h rfl rfl rfl (G.assign rfl rfl) fun a h => ?_
    refine St.get h rfl rfl rfl (G.assign rfl rfl) fun a h => ?_
    refine wpl_nil ?_
    refine X.thenN ?_
    refine C.ret ?_
    refine X.blkR ?_
    refine X.thenR ?_
    replace h := h.nil encCh 80
    replace h := h.sel [1, 0] rfl
    replace h := h.conv (sl' := _) (L' := [_, _]) rfl rfl
    exact h.ret3 Try.results11 rfl rfl rfl (Ent.refl _) (⟨none, 0, rfl, rfl⟩)
  · have e : callQO q x = (0, [], backQ q x.work) := by unfold callQO; rw [if_neg (by omega), if_neg (by omega), if_neg (by omega), if_neg (by omega), if_pos (by omega)]
    rw [e]
    refine St.callD h [1] rfl (Ro.nil _) ((Backout_spec b o q x.work)) rfl rfl rfl Try.call40 rfl rfl fun a w h => ?_
    replace h := h.conv (sl' := _) (L' := [_, cells _ _ [_, _, _, _, _, _], _, _]) rfl rfl
    refine St.get h rfl rfl rfl (G.assign rfl rfl) fun a h => ?_
    refine St.get h rfl rfl rfl (G.assign rfl rfl) fun a h => ?_
    refine St.get h rfl rfl rfl (G.assign rfl rfl) fun a h => ?_
    refine wpl_nil ?_
    refine X.thenN ?_
    refine C.ret ?_
    refine X.blkR ?_
    refine X.thenR ?_
    replace h := h.nil encCh 80
    replace h := h.sel [1, 0] rfl
    replace h := h.conv (sl' := _) (L' := [_, _]) rfl rfl
    exact h.ret3 Try.results11 rfl rfl rfl (Ent.refl _) (⟨none, 0, rfl, rfl⟩)
  · have e : callQO q x = (0, [], restQ q x.work x.L) := by unfold callQO; rw [if_neg (by omega), if_neg (by omega), if_neg (by omega), if_neg (by omega), if_neg (by omega), if_pos (by omega)]
    rw [e]
    refine St.callD h [1] rfl (Ro.cons 1 rfl (rdl_ro _ _ _) (Ro.nil _)) ((Restore_spec b o q hq hw9 gl cl x.L x.work (by omega))) rfl rfl rfl Try.call42 rfl rfl fun a w h => ?_
    replace h := h.conv (sl' := _) (L' := [_, cells _ _ [_, _, _, _, _, _], _, _]) rfl rfl
    refine St.get h rfl rfl rfl (G.assign rfl rfl) fun a h => ?_
    refine St.get h rfl rfl rfl (G.assign rfl rfl) fun a h => ?_
    refine St.get h rfl rfl rfl (G.assign rfl rfl) fun a h => ?_
    refine wpl_nil ?_
    refine X.thenN ?_
    refine C.ret ?_
    refine X.blkR ?_
    refine X.thenR ?_
    replace h := h.nil encCh 80
    replace h := h.sel [1, 0] rfl
    replace h := h.conv (sl' := _) (L' := [_, _]) rfl rfl
    exact h.ret3 Try.results11 rfl rfl rfl (Ent.refl _) (⟨none, 0, rfl, rfl⟩)
  · have e : callQO q x = (0, [], loadQ q x.V x.next) := by unfold callQO; rw [if_neg (by omega), if_neg (by omega), if_neg (by omega), if_neg (by omega), if_neg (by omega), if_neg (by omega), if_pos (by omega)]
    rw [e]
    refine St.callD h [1] rfl (Ro.cons 2 rfl (rdl_ro _ _ _) (Ro.nil _)) ((Load_spec b o q hq gv cv x.V x.next hn)) rfl rfl rfl Try.call43 rfl rfl fun a w h => ?_
    replace h := h.conv (sl' := _) (L' := [_, cells _ _ [_, _, _, _, _, _], _, _]) rfl rfl
    refine St.get h rfl rfl rfl (G.assign rfl rfl) fun a h => ?_
    refine St.get h rfl rfl rfl (G.assign rfl rfl) fun a h => ?_
    refine St.get h rfl rfl rfl (G.assign rfl rfl) fun a h => ?_
    refine wpl_nil ?_
    refine X.thenN ?_
    refine C.ret ?_
    refine X.blkR ?_
    refine X.thenR ?_
    replace h := h.nil encCh 80
    replace h := h.sel [1, 0] rfl
    replace h := h.conv (sl' := _) (L' := [_, _]) rfl rfl
    exact h.ret3 Try.results11 rfl rfl rfl (Ent.refl _) (⟨none, 0, rfl, rfl⟩)
def modelRO (q : RM) (x : QO) : Int × List Ch × Int × RM :=
  if x.kind = 0 then (0, [], putR q x.work x.val)
  else if x.kind = 1 then ((takeR q x.work).1, [], (takeR q x.work).2)
  else if x.kind = 2 then (0, (prepR q x.work).2.1, (prepR q x.work).1, (prepR q x.work).2.2)
  else if x.kind = 3 then (0, [], commitR q x.work)
  else if x.kind = 4 then (0, [], backR q x.work)
  else if x.kind = 5 then (0, [], restR q x.work x.L)
  else if x.kind = 6 then (0, [], loadR q x.V x.next)
  else (0, [], 0, q)
theorem modelR_spec (b o : Nat) (q : RM) (hq : q.Good) (hw9 : q.works.length < 900000000) (x : QO) (gl gv : Option Addr) (cl cv : Nat) (hk0 : 0 ≤ x.kind) (hk6 : x.kind ≤ 6) (hL : x.L.length ≤ 40) (hV : x.V.length ≤ 40) (hn : -9223372036854775808 ≤ x.next) :
    Meets Try.prog 12 #[.pointer (some ⟨b, o, none⟩), .agg #[.int .i64 x.kind, .int .i64 x.work, .int .i64 x.next, .int .u64 x.val, rlv gl x.L.length cl, rlv gv x.V.length cv]] [RAt b o q, rdl encCh gl x.L, rdl encU64 gv x.V]
      (fun v L => ∃ A c, v = .tuple #[.int .u64 (modelRO q x).1, rlv A (modelRO q x).2.1.length c, .int .i64 (modelRO q x).2.2.1] ∧ L = [RAt b o (modelRO q x).2.2.2, ownl encCh 80 A c (modelRO q x).2.1]) := by
  refine Meets.of_code Try.func12 rfl Try.ntmps12 rfl fun w0 S R a h => ?_
  refine C.seq ?_
  refine C.region ?_
  refine St.box h rfl rfl rfl rfl rfl fun b1 a w h => ?_
  replace h := h.conv (sl' := _) (L' := [cells _ _ [_, _, _, _, _, _], _, _, _]) rfl rfl
  refine St.get h rfl rfl rfl (G.assign rfl rfl) fun a h => ?_
  refine St.get h rfl rfl rfl (G.assign rfl rfl) fun a h => ?_
  refine St.get h rfl rfl rfl (G.assign rfl rfl) fun a h => ?_
  refine wpl_nil ?_
  refine X.thenN ?_
  refine C.seq ?_
  refine C.seq ?_
  refine C.region ?_
  refine St.get h rfl rfl rfl (G.fadr 0 rfl rfl Try.underlying26 rfl rfl Try.sizeOf3) fun a h => ?_
  refine St.get h rfl rfl rfl (G.ld 0 0 rfl rfl rfl rfl rfl Try.isAgg3) fun a h => ?_
  refine wpl_nil ?_
  refine X.thenN ?_
  refine C.block ?_
  refine C.seq ?_
  refine C.region ?_
  refine St.getP h rfl rfl rfl (G.bin rfl rfl rfl B.eql) (fun hc a h => ?_) (fun hc a h => ?_)
  refine St.get h rfl rfl rfl (G.assign rfl rfl) fun a h => ?_
  refine wpl_nil ?_
  refine X.thenN ?_
  refine St.condT h rfl ?_
  refine C.seq ?_
  refine C.region ?_
  refine St.get h rfl rfl rfl (G.move rfl rfl) fun a h => ?_
  refine St.get h rfl rfl rfl (G.fadr 1 rfl rfl Try.underlying26 rfl rfl Try.sizeOf3) fun a h => ?_
  refine St.get h rfl rfl rfl (G.ld 0 1 rfl rfl rfl rfl rfl Try.isAgg3) fun a h => ?_
  refine St.get h rfl rfl rfl (G.fadr 3 rfl rfl Try.underlying26 rfl rfl Try.sizeOf22) fun a h => ?_
  refine St.get h rfl rfl rfl (G.ld 0 3 rfl rfl rfl rfl rfl Try.isAgg22) fun a h => ?_
  rotate_left
  refine St.get h rfl rfl rfl (G.assign rfl rfl) fun a h => ?_
  refine wpl_nil ?_
  refine X.thenN ?_
  refine St.condF h rfl ?_
  refine C.seq ?_
  refine C.region ?_
  refine St.getP h rfl rfl rfl (G.bin rfl rfl rfl B.eql) (fun hc1 a h => ?_) (fun hc1 a h => ?_)
  refine St.get h rfl rfl rfl (G.assign rfl rfl) fun a h => ?_
  refine wpl_nil ?_
  refine X.thenN ?_
  refine St.condT h rfl ?_
  refine C.seq ?_
  refine C.region ?_
  refine St.get h rfl rfl rfl (G.move rfl rfl) fun a h => ?_
  refine St.get h rfl rfl rfl (G.fadr 1 rfl rfl Try.underlying26 rfl rfl Try.sizeOf3) fun a h => ?_
  refine St.get h rfl rfl rfl (G.ld 0 1 rfl rfl rfl rfl rfl Try.isAgg3) fun a h => ?_
  rotate_left
  refine St.get h rfl rfl rfl (G.assign rfl rfl) fun a h => ?_
  refine wpl_nil ?_
  refine X.thenN ?_
  refine St.condF h rfl ?_
  refine C.seq ?_
  refine C.region ?_
  refine St.getP h rfl rfl rfl (G.bin rfl rfl rfl B.eql) (fun hc2 a h => ?_) (fun hc2 a h => ?_)
  refine St.get h rfl rfl rfl (G.assign rfl rfl) fun a h => ?_
  refine wpl_nil ?_
  refine X.thenN ?_
  refine St.condT h rfl ?_
  refine C.seq ?_
  refine C.region ?_
  refine St.get h rfl rfl rfl (G.move rfl rfl) fun a h => ?_
  refine St.get h rfl rfl rfl (G.fadr 1 rfl rfl Try.underlying26 rfl rfl Try.sizeOf3) fun a h => ?_
  refine St.get h rfl rfl rfl (G.ld 0 1 rfl rfl rfl rfl rfl Try.isAgg3) fun a h => ?_
  rotate_left
  refine St.get h rfl rfl rfl (G.assign rfl rfl) fun a h => ?_
  refine wpl_nil ?_
  refine X.thenN ?_
  refine St.condF h rfl ?_
  refine C.seq ?_
  refine C.region ?_
  refine St.getP h rfl rfl rfl (G.bin rfl rfl rfl B.eql) (fun hc3 a h => ?_) (fun hc3 a h => ?_)
  refine St.get h rfl rfl rfl (G.assign rfl rfl) fun a h => ?_
  refine wpl_nil ?_
  refine X.thenN ?_
  refine St.condT h rfl ?_
  refine C.seq ?_
  refine C.region ?_
  refine St.get h rfl rfl rfl (G.move rfl rfl) fun a h => ?_
  refine St.get h rfl rfl rfl (G.fadr 1 rfl rfl Try.underlying26 rfl rfl Try.sizeOf3) fun a h => ?_
  refine St.get h rfl rfl rfl (G.ld 0 1 rfl rfl rfl rfl rfl Try.isAgg3) fun a h => ?_
  rotate_left
  refine St.get h rfl rfl rfl (G.assign rfl rfl) fun a h => ?_
  refine wpl_nil ?_
  refine X.thenN ?_
  refine St.condF h rfl ?_
  refine C.seq ?_
  refine C.region ?_
  refine St.getP h rfl rfl rfl (G.bin rfl rfl rfl B.eql) (fun hc4 a h => ?_) (fun hc4 a h => ?_)
  refine St.get h rfl rfl rfl (G.assign rfl rfl) fun a h => ?_
  refine wpl_nil ?_
  refine X.thenN ?_
  refine St.condT h rfl ?_
  refine C.seq ?_
  refine C.region ?_
  refine St.get h rfl rfl rfl (G.move rfl rfl) fun a h => ?_
  refine St.get h rfl rfl rfl (G.fadr 1 rfl rfl Try.underlying26 rfl rfl Try.sizeOf3) fun a h => ?_
  refine St.get h rfl rfl rfl (G.ld 0 1 rfl rfl rfl rfl rfl Try.isAgg3) fun a h => ?_
  rotate_left
  refine St.get h rfl rfl rfl (G.assign rfl rfl) fun a h => ?_
  refine wpl_nil ?_
  refine X.thenN ?_
  refine St.condF h rfl ?_
  refine C.seq ?_
  refine C.region ?_
  refine St.getP h rfl rfl rfl (G.bin rfl rfl rfl B.eql) (fun hc5 a h => ?_) (fun hc5 a h => ?_)
  refine St.get h rfl rfl rfl (G.assign rfl rfl) fun a h => ?_
  refine wpl_nil ?_
  refine X.thenN ?_
  refine St.condT h rfl ?_
  refine C.seq ?_
  refine C.region ?_
  refine St.get h rfl rfl rfl (G.move rfl rfl) fun a h => ?_
  refine St.get h rfl rfl rfl (G.fadr 1 rfl rfl Try.underlying26 rfl rfl Try.sizeOf3) fun a h => ?_
  refine St.get h rfl rfl rfl (G.ld 0 1 rfl rfl rfl rfl rfl Try.isAgg3) fun a h => ?_
  refine St.get h rfl rfl rfl (G.fadr 4 rfl rfl Try.underlying26 rfl rfl Try.sizeOf23) fun a h => ?_
  refine St.get h rfl rfl rfl (G.ld 0 4 rfl rfl rfl rfl rfl Try.isAgg23) fun a h => ?_
  rotate_left
  refine St.get h rfl rfl rfl (G.assign rfl rfl) fun a h => ?_
  refine wpl_nil ?_
  refine X.thenN ?_
  refine St.condF h rfl ?_
  refine C.seq ?_
  refine C.region ?_
  refine St.get h rfl rfl rfl (G.bin rfl rfl rfl (B.eqlT (by omega))) fun a h => ?_
  refine St.get h rfl rfl rfl (G.assign rfl rfl) fun a h => ?_
  refine wpl_nil ?_
  refine X.thenN ?_
  refine St.condT h rfl ?_
  refine C.seq ?_
  refine C.region ?_
  refine St.get h rfl rfl rfl (G.move rfl rfl) fun a h => ?_
  refine St.get h rfl rfl rfl (G.fadr 5 rfl rfl Try.underlying26 rfl rfl Try.sizeOf24) fun a h => ?_
  refine St.get h rfl rfl rfl (G.ld 0 5 rfl rfl rfl rfl rfl Try.isAgg24) fun a h => ?_
  refine St.get h rfl rfl rfl (G.fadr 2 rfl rfl Try.underlying26 rfl rfl Try.sizeOf3) fun a h => ?_
  refine St.get h rfl rfl rfl (G.ld 0 2 rfl rfl rfl rfl rfl Try.isAgg3) fun a h => ?_
  rotate_left
  · have e : modelRO q x = (0, [], putR q x.work x.val) := by unfold modelRO; rw [if_pos (by omega)]
    rw [e]
    refine St.callD h [1] rfl (Ro.nil _) ((PutR_spec b o q x.work x.val hq)) rfl rfl rfl Try.call44 rfl rfl fun a w h => ?_
    replace h := h.conv (sl' := _) (L' := [_, cells _ _ [_, _, _, _, _, _], _, _]) rfl rfl
    refine St.get h rfl rfl rfl (G.assign rfl rfl) fun a h => ?_
    refine St.get h rfl rfl rfl (G.assign rfl rfl) fun a h => ?_
    refine St.get h rfl rfl rfl (G.assign rfl rfl) fun a h => ?_
    refine wpl_nil ?_
    refine X.thenN ?_
    refine C.ret ?_
    refine X.blkR ?_
    refine X.thenR ?_
    replace h := h.nil encCh 80
    replace h := h.sel [1, 0] rfl
    replace h := h.conv (sl' := _) (L' := [_, _]) rfl rfl
    exact h.ret3 Try.results12 rfl rfl rfl (Ent.refl _) (⟨none, 0, rfl, rfl⟩)
  · have e : modelRO q x = ((takeR q x.work).1, [], (takeR q x.work).2) := by unfold modelRO; rw [if_neg (by omega), if_pos (by omega)]
    rw [e]
    refine St.callD h [1] rfl (Ro.nil _) ((TakeR_spec b o q x.work hq)) rfl rfl rfl Try.call45 rfl rfl fun a w h => ?_
    replace h := h.conv (sl' := _) (L' := [_, cells _ _ [_, _, _, _, _, _], _, _]) rfl rfl
    refine St.get h rfl rfl rfl (G.move rfl rfl) fun a h => ?_
    refine St.get h rfl rfl rfl (G.extract rfl rfl rfl) fun a h => ?_
    refine St.get h rfl rfl rfl (G.extract rfl rfl rfl) fun a h => ?_
    refine St.get h rfl rfl rfl (G.assign rfl rfl) fun a h => ?_
    refine St.get h rfl rfl rfl (G.assign rfl rfl) fun a h => ?_
    refine wpl_nil ?_
    refine X.thenN ?_
    refine C.seq ?_
    refine C.region ?_
    refine St.get h rfl rfl rfl (G.move rfl rfl) fun a h => ?_
    refine St.get h rfl rfl rfl (G.move rfl rfl) fun a h => ?_
    refine St.get h rfl rfl rfl (G.assign rfl rfl) fun a h => ?_
    refine St.get h rfl rfl rfl (G.assign rfl rfl) fun a h => ?_
    refine St.get h rfl rfl rfl (G.assign rfl rfl) fun a h => ?_
    refine wpl_nil ?_
    refine X.thenN ?_
    refine C.ret ?_
    refine X.blkR ?_
    refine X.thenR ?_
    replace h := h.nil encCh 80
    replace h := h.sel [1, 0] rfl
    replace h := h.conv (sl' := _) (L' := [_, _]) rfl rfl
    exact h.ret3 Try.results12 rfl rfl rfl (Ent.refl _) (⟨none, 0, rfl, rfl⟩)
  · have e : modelRO q x = (0, (prepR q x.work).2.1, (prepR q x.work).1, (prepR q x.work).2.2) := by unfold modelRO; rw [if_neg (by omega), if_neg (by omega), if_pos (by omega)]
    rw [e]
    refine St.call h [1] rfl (Ro.nil _) ((PrepareR_spec b o q x.work hq)) rfl rfl rfl Try.call46 rfl rfl fun v L a w hp h => ?_
    obtain ⟨A', c', rfl, rfl⟩ := hp
    replace h := h.conv (sl' := _) (L' := [_, _, cells _ _ [_, _, _, _, _, _], _, _]) rfl rfl
    refine St.get h rfl rfl rfl (G.move rfl rfl) fun a h => ?_
    refine St.get h rfl rfl rfl (G.extract rfl rfl rfl) fun a h => ?_
    refine St.get h rfl rfl rfl (G.extract rfl rfl rfl) fun a h => ?_
    refine St.get h rfl rfl rfl (G.assign rfl rfl) fun a h => ?_
    refine St.get h rfl rfl rfl (G.assign rfl rfl) fun a h => ?_
    refine wpl_nil ?_
    refine X.thenN ?_
    refine C.seq ?_
    refine C.region ?_
    refine St.get h rfl rfl rfl (G.move rfl rfl) fun a h => ?_
    refine St.get h rfl rfl rfl (G.move rfl rfl) fun a h => ?_
    refine St.get h rfl rfl rfl (G.assign rfl rfl) fun a h => ?_
    refine St.get h rfl rfl rfl (G.assign rfl rfl) fun a h => ?_
    refine St.get h rfl rfl rfl (G.assign rfl rfl) fun a h => ?_
    refine wpl_nil ?_
    refine X.thenN ?_
    refine C.ret ?_
    refine X.blkR ?_
    refine X.thenR ?_
    replace h := h.sel [0, 1] rfl
    replace h := h.conv (sl' := _) (L' := [_, _]) rfl rfl
    exact h.ret3 Try.results12 rfl rfl rfl (Ent.refl _) (⟨A', c', rfl, rfl⟩)
  · have e : modelRO q x = (0, [], commitR q x.work) := by unfold modelRO; rw [if_neg (by omega), if_neg (by omega), if_neg (by omega), if_pos (by omega)]
    rw [e]
    refine St.callD h [1] rfl (Ro.nil _) ((CommitR_spec b o q x.work hq)) rfl rfl rfl Try.call47 rfl rfl fun a w h => ?_
    replace h := h.conv (sl' := _) (L' := [_, cells _ _ [_, _, _, _, _, _], _, _]) rfl rfl
    refine St.get h rfl rfl rfl (G.assign rfl rfl) fun a h => ?_
    refine St.get h rfl rfl rfl (G.assign rfl rfl) fun a h => ?_
    refine St.get h rfl rfl rfl (G.assign rfl rfl) fun a h => ?_
    refine wpl_nil ?_
    refine X.thenN ?_
    refine C.ret ?_
    refine X.blkR ?_
    refine X.thenR ?_
    replace h := h.nil encCh 80
    replace h := h.sel [1, 0] rfl
    replace h := h.conv (sl' := _) (L' := [_, _]) rfl rfl
    exact h.ret3 Try.results12 rfl rfl rfl (Ent.refl _) (⟨none, 0, rfl, rfl⟩)
  · have e : modelRO q x = (0, [], backR q x.work) := by unfold modelRO; rw [if_neg (by omega), if_neg (by omega), if_neg (by omega), if_neg (by omega), if_pos (by omega)]
    rw [e]
    refine St.callD h [1] rfl (Ro.nil _) ((BackoutR_spec b o q x.work hq.works)) rfl rfl rfl Try.call48 rfl rfl fun a w h => ?_
    replace h := h.conv (sl' := _) (L' := [_, cells _ _ [_, _, _, _, _, _], _, _]) rfl rfl
    refine St.get h rfl rfl rfl (G.assign rfl rfl) fun a h => ?_
    refine St.get h rfl rfl rfl (G.assign rfl rfl) fun a h => ?_
    refine St.get h rfl rfl rfl (G.assign rfl rfl) fun a h => ?_
    refine wpl_nil ?_
    refine X.thenN ?_
    refine C.ret ?_
    refine X.blkR ?_
    refine X.thenR ?_
    replace h := h.nil encCh 80
    replace h := h.sel [1, 0] rfl
    replace h := h.conv (sl' := _) (L' := [_, _]) rfl rfl
    exact h.ret3 Try.results12 rfl rfl rfl (Ent.refl _) (⟨none, 0, rfl, rfl⟩)
  · have e : modelRO q x = (0, [], restR q x.work x.L) := by unfold modelRO; rw [if_neg (by omega), if_neg (by omega), if_neg (by omega), if_neg (by omega), if_neg (by omega), if_pos (by omega)]
    rw [e]
    refine St.callD h [1] rfl (Ro.cons 1 rfl (rdl_ro _ _ _) (Ro.nil _)) ((RestoreR_spec b o q hq gl cl x.L x.work (by omega))) rfl rfl rfl Try.call49 rfl rfl fun a w h => ?_
    replace h := h.conv (sl' := _) (L' := [_, cells _ _ [_, _, _, _, _, _], _, _]) rfl rfl
    refine St.get h rfl rfl rfl (G.assign rfl rfl) fun a h => ?_
    refine St.get h rfl rfl rfl (G.assign rfl rfl) fun a h => ?_
    refine St.get h rfl rfl rfl (G.assign rfl rfl) fun a h => ?_
    refine wpl_nil ?_
    refine X.thenN ?_
    refine C.ret ?_
    refine X.blkR ?_
    refine X.thenR ?_
    replace h := h.nil encCh 80
    replace h := h.sel [1, 0] rfl
    replace h := h.conv (sl' := _) (L' := [_, _]) rfl rfl
    exact h.ret3 Try.results12 rfl rfl rfl (Ent.refl _) (⟨none, 0, rfl, rfl⟩)
  · have e : modelRO q x = (0, [], loadR q x.V x.next) := by unfold modelRO; rw [if_neg (by omega), if_neg (by omega), if_neg (by omega), if_neg (by omega), if_neg (by omega), if_neg (by omega), if_pos (by omega)]
    rw [e]
    refine St.callD h [1] rfl (Ro.cons 2 rfl (rdl_ro _ _ _) (Ro.nil _)) ((LoadR_spec b o q hq gv cv x.V x.next hn)) rfl rfl rfl Try.call50 rfl rfl fun a w h => ?_
    replace h := h.conv (sl' := _) (L' := [_, cells _ _ [_, _, _, _, _, _], _, _]) rfl rfl
    refine St.get h rfl rfl rfl (G.assign rfl rfl) fun a h => ?_
    refine St.get h rfl rfl rfl (G.assign rfl rfl) fun a h => ?_
    refine St.get h rfl rfl rfl (G.assign rfl rfl) fun a h => ?_
    refine wpl_nil ?_
    refine X.thenN ?_
    refine C.ret ?_
    refine X.blkR ?_
    refine X.thenR ?_
    replace h := h.nil encCh 80
    replace h := h.sel [1, 0] rfl
    replace h := h.conv (sl' := _) (L' := [_, _]) rfl rfl
    exact h.ret3 Try.results12 rfl rfl rfl (Ent.refl _) (⟨none, 0, rfl, rfl⟩)
theorem good_small {q : QM} (h1 : q.items.length ≤ 3) (h2 : q.works.length ≤ 3) (h3 : ∀ w ∈ q.works, w.list.length ≤ 3) (h4 : 0 ≤ q.given) (h5 : q.given ≤ 3) : q.Good :=
  ⟨by omega, by omega, fun w hw => by have := h3 w hw; omega, h4, by omega⟩
theorem alive_spec : Meets Try.prog 10 #[] [] (Det (.bool true) []) := by
  refine Meets.of_code Try.func10 rfl Try.ntmps10 rfl fun w0 S R a h => ?_
  refine C.seq ?_
  refine C.region ?_
  refine St.get h rfl rfl rfl (G.assign rfl rfl) fun a h => ?_
  refine wpl_nil ?_
  refine X.thenN ?_
  refine C.seq ?_
  refine C.region ?_
  refine St.call h [] rfl (Ro.nil _) (New_spec) rfl rfl rfl Try.call36 rfl rfl fun v L a w hp h => ?_
  obtain ⟨b, rfl, rfl⟩ := hp
  replace h := h.conv (sl' := _) (L' := [_]) rfl rfl
  refine St.get h rfl rfl rfl (G.assign rfl rfl) fun a h => ?_
  refine wpl_nil ?_
  refine X.thenN ?_
  refine C.seq ?_
  refine C.seq ?_
  refine C.region ?_
  refine St.get h rfl rfl rfl (G.move rfl rfl) fun a h => ?_
  refine St.get h rfl rfl rfl (G.bin rfl rfl rfl (B.peql Try.underlying29 _)) fun a h => ?_
  refine wpl_nil ?_
  refine X.thenN ?_
  refine St.condF h rfl ?_
  refine C.skip ?_
  refine X.thenN ?_
  refine C.seq ?_
  refine C.region ?_
  refine St.get h rfl rfl rfl (G.move rfl rfl) fun a h => ?_
  have g0 : QM.Good ⟨[], [], 0⟩ := good_small (by simp) (by simp) (by simp) (by simp) (by simp)
  have e1 : putQ ⟨[], [], 0⟩ 1 7 = (0, ⟨[], [⟨1, [⟨3, 0, 7⟩], false⟩], 0⟩) := by rfl
  have s1 := Put_spec b 0 ⟨[], [], 0⟩ 1 7 g0
  rw [e1] at s1
  dsimp only at s1
  refine St.callD h [0] rfl (Ro.nil _) (s1) rfl rfl rfl Try.call37 rfl rfl fun a w h => ?_
  replace h := h.conv (sl' := _) (L' := [_]) rfl rfl
  refine St.get h rfl rfl rfl (G.assign rfl rfl) fun a h => ?_
  refine wpl_nil ?_
  refine X.thenN ?_
  refine C.seq ?_
  refine C.region ?_
  refine St.get h rfl rfl rfl (G.move rfl rfl) fun a h => ?_
  have g1 : QM.Good ⟨[], [⟨1, [⟨3, 0, 7⟩], false⟩], 0⟩ := good_small (by simp) (by simp) (by simp) (by simp) (by simp)
  have e2 : commitQ ⟨[], [⟨1, [⟨3, 0, 7⟩], false⟩], 0⟩ 1 = (0, ⟨[⟨1, 7, 0⟩], [], 1⟩) := by rfl
  have s2 := Commit_spec b 0 _ 1 g1
  rw [e2] at s2
  dsimp only at s2
  refine St.callD h [0] rfl (Ro.nil _) (s2) rfl rfl rfl Try.call38 rfl rfl fun a w h => ?_
  replace h := h.conv (sl' := _) (L' := [_]) rfl rfl
  refine wpl_nil ?_
  refine X.thenN ?_
  refine C.seq ?_
  refine C.region ?_
  refine St.get h rfl rfl rfl (G.move rfl rfl) fun a h => ?_
  have g2 : QM.Good ⟨[⟨1, 7, 0⟩], [], 1⟩ := good_small (by simp) (by simp) (by simp) (by simp) (by simp)
  have e3 : takeQ ⟨[⟨1, 7, 0⟩], [], 1⟩ 2 = (7, 0, ⟨[⟨1, 7, 2⟩], [⟨2, [⟨4, 1, 7⟩], false⟩], 1⟩) := by rfl
  have s3 := Take_spec b 0 _ 2 g2
  rw [e3] at s3
  dsimp only at s3
  refine St.callD h [0] rfl (Ro.nil _) (s3) rfl rfl rfl Try.call39 rfl rfl fun a w h => ?_
  replace h := h.conv (sl' := _) (L' := [_]) rfl rfl
  refine St.get h rfl rfl rfl (G.move rfl rfl) fun a h => ?_
  refine St.get h rfl rfl rfl (G.extract rfl rfl rfl) fun a h => ?_
  refine St.get h rfl rfl rfl (G.extract rfl rfl rfl) fun a h => ?_
  refine St.get h rfl rfl rfl (G.assign rfl rfl) fun a h => ?_
  refine St.get h rfl rfl rfl (G.assign rfl rfl) fun a h => ?_
  refine wpl_nil ?_
  refine X.thenN ?_
  refine C.seq ?_
  refine C.region ?_
  refine St.get h rfl rfl rfl (G.move rfl rfl) fun a h => ?_
  have g3 : QM.Good ⟨[⟨1, 7, 2⟩], [⟨2, [⟨4, 1, 7⟩], false⟩], 1⟩ := good_small (by simp) (by simp) (by simp) (by simp) (by simp)
  have e4 : takeQ ⟨[⟨1, 7, 2⟩], [⟨2, [⟨4, 1, 7⟩], false⟩], 1⟩ 3 = (0, 120, ⟨[⟨1, 7, 2⟩], [⟨2, [⟨4, 1, 7⟩], false⟩], 1⟩) := by rfl
  have s4 := Take_spec b 0 _ 3 g3
  rw [e4] at s4
  dsimp only at s4
  refine St.callD h [0] rfl (Ro.nil _) (s4) rfl rfl rfl Try.call39 rfl rfl fun a w h => ?_
  replace h := h.conv (sl' := _) (L' := [_]) rfl rfl
  refine St.get h rfl rfl rfl (G.move rfl rfl) fun a h => ?_
  refine St.get h rfl rfl rfl (G.extract rfl rfl rfl) fun a h => ?_
  refine St.get h rfl rfl rfl (G.extract rfl rfl rfl) fun a h => ?_
  refine St.get h rfl rfl rfl (G.assign rfl rfl) fun a h => ?_
  refine St.get h rfl rfl rfl (G.assign rfl rfl) fun a h => ?_
  refine wpl_nil ?_
  refine X.thenN ?_
  refine C.seq ?_
  refine C.region ?_
  refine St.get h rfl rfl rfl (G.move rfl rfl) fun a h => ?_
  have e5 : backQ ⟨[⟨1, 7, 2⟩], [⟨2, [⟨4, 1, 7⟩], false⟩], 1⟩ 2 = (0, ⟨[⟨1, 7, 0⟩], [], 1⟩) := by rfl
  have s5 := Backout_spec b 0 ⟨[⟨1, 7, 2⟩], [⟨2, [⟨4, 1, 7⟩], false⟩], 1⟩ 2
  rw [e5] at s5
  dsimp only at s5
  refine St.callD h [0] rfl (Ro.nil _) (s5) rfl rfl rfl Try.call40 rfl rfl fun a w h => ?_
  replace h := h.conv (sl' := _) (L' := [_]) rfl rfl
  refine wpl_nil ?_
  refine X.thenN ?_
  refine C.seq ?_
  refine C.region ?_
  refine St.get h rfl rfl rfl (G.move rfl rfl) fun a h => ?_
  have e6 : takeQ ⟨[⟨1, 7, 0⟩], [], 1⟩ 3 = (7, 0, ⟨[⟨1, 7, 3⟩], [⟨3, [⟨4, 1, 7⟩], false⟩], 1⟩) := by rfl
  have s6 := Take_spec b 0 _ 3 g2
  rw [e6] at s6
  dsimp only at s6
  refine St.callD h [0] rfl (Ro.nil _) (s6) rfl rfl rfl Try.call39 rfl rfl fun a w h => ?_
  replace h := h.conv (sl' := _) (L' := [_]) rfl rfl
  refine St.get h rfl rfl rfl (G.move rfl rfl) fun a h => ?_
  refine St.get h rfl rfl rfl (G.extract rfl rfl rfl) fun a h => ?_
  refine St.get h rfl rfl rfl (G.extract rfl rfl rfl) fun a h => ?_
  refine St.get h rfl rfl rfl (G.assign rfl rfl) fun a h => ?_
  refine St.get h rfl rfl rfl (G.assign rfl rfl) fun a h => ?_
  refine wpl_nil ?_
  refine X.thenN ?_
  refine C.seq ?_
  refine C.region ?_
  refine St.get h rfl rfl rfl (G.move rfl rfl) fun a h => ?_
  refine St.get h rfl rfl rfl (G.bin rfl rfl rfl (B.eqlT (by omega))) fun a h => ?_
  refine St.get h rfl rfl rfl (G.move rfl rfl) fun a h => ?_
  refine St.guard_yes h rfl rfl rfl rfl rfl ?_
  refine St.get h rfl rfl rfl (G.move rfl rfl) fun a h => ?_
  refine St.guard_yes h rfl rfl rfl rfl rfl ?_
  refine St.get h rfl rfl rfl (G.bin rfl rfl rfl (B.eqlT (by omega))) fun a h => ?_
  refine St.get h rfl rfl rfl (G.pickT rfl rfl rfl) fun a h => ?_
  refine St.get h rfl rfl rfl (G.move rfl rfl) fun a h => ?_
  refine St.guard_yes h rfl rfl rfl rfl rfl ?_
  refine St.get h rfl rfl rfl (G.move rfl rfl) fun a h => ?_
  refine St.guard_yes h rfl rfl rfl rfl rfl ?_
  refine St.get h rfl rfl rfl (G.bin rfl rfl rfl (B.eqlT (by omega))) fun a h => ?_
  refine St.get h rfl rfl rfl (G.pickT rfl rfl rfl) fun a h => ?_
  refine St.get h rfl rfl rfl (G.move rfl rfl) fun a h => ?_
  refine St.guard_yes h rfl rfl rfl rfl rfl ?_
  refine St.get h rfl rfl rfl (G.move rfl rfl) fun a h => ?_
  refine St.guard_yes h rfl rfl rfl rfl rfl ?_
  refine St.get h rfl rfl rfl (G.bin rfl rfl rfl (B.eqlT (by omega))) fun a h => ?_
  refine St.get h rfl rfl rfl (G.pickT rfl rfl rfl) fun a h => ?_
  refine St.get h rfl rfl rfl (G.move rfl rfl) fun a h => ?_
  refine St.guard_yes h rfl rfl rfl rfl rfl ?_
  refine St.get h rfl rfl rfl (G.move rfl rfl) fun a h => ?_
  refine St.guard_yes h rfl rfl rfl rfl rfl ?_
  refine St.get h rfl rfl rfl (G.bin rfl rfl rfl (B.eqlT (by omega))) fun a h => ?_
  refine St.get h rfl rfl rfl (G.pickT rfl rfl rfl) fun a h => ?_
  refine St.get h rfl rfl rfl (G.move rfl rfl) fun a h => ?_
  refine St.guard_yes h rfl rfl rfl rfl rfl ?_
  refine St.get h rfl rfl rfl (G.move rfl rfl) fun a h => ?_
  refine St.guard_yes h rfl rfl rfl rfl rfl ?_
  refine St.get h rfl rfl rfl (G.bin rfl rfl rfl (B.eqlT (by omega))) fun a h => ?_
  refine St.get h rfl rfl rfl (G.pickT rfl rfl rfl) fun a h => ?_
  refine St.get h rfl rfl rfl (G.move rfl rfl) fun a h => ?_
  refine St.guard_yes h rfl rfl rfl rfl rfl ?_
  refine St.get h rfl rfl rfl (G.move rfl rfl) fun a h => ?_
  refine St.guard_yes h rfl rfl rfl rfl rfl ?_
  have g6 : QM.Good ⟨[⟨1, 7, 3⟩], [⟨3, [⟨4, 1, 7⟩], false⟩], 1⟩ := good_small (by simp) (by simp) (by simp) (by simp) (by simp)
  have s7 := Next_spec b 0 _ g6
  dsimp only at s7
  refine St.callD h [0] rfl (Ro.nil _) (s7) rfl rfl rfl Try.call15 rfl rfl fun a w h => ?_
  replace h := h.conv (sl' := _) (L' := [_]) rfl rfl
  refine St.guard_yes h rfl rfl rfl rfl rfl ?_
  refine St.get h rfl rfl rfl (G.bin rfl rfl rfl (B.eqlT (by omega))) fun a h => ?_
  refine St.get h rfl rfl rfl (G.pickT rfl rfl rfl) fun a h => ?_
  refine St.get h rfl rfl rfl (G.assign rfl rfl) fun a h => ?_
  refine wpl_nil ?_
  refine X.thenN ?_
  refine C.ret ?_
  replace h := h.sel [] rfl
  exact h.ret1 Try.results10 rfl (Ent.refl _) (⟨rfl, rfl⟩)
end Go.Proofs.Ytllhegccpknncaa
