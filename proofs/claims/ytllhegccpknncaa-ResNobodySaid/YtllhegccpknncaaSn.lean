/-
  Resources that are nil: call, same, As, Same.
-/
import Derived.Test.YtllhegccpknncaaSh
import Derived.Test.YtllhegccpknncaaCmp
import Derived.Test.YtllhegccpknncaaSeat
set_option linter.unusedVariables false
set_option linter.unusedSimpArgs false
set_option linter.unusedSectionVars false
set_option maxRecDepth 8000
namespace Go.Tr
/-- An op of the statements of the resources. -/
structure SO where
  kind : Int
  work : Int
  key : Int
  val : Int
  L : List Ch
end Go.Tr
namespace Go.Proofs.Ytllhegccpknncaa
open Go.Tr
theorem call15_nil (x : SO) (gl : Option Addr) (cl : Nat) (hk0 : 0 ≤ x.kind) (hk6 : x.kind ≤ 8) :
    Meets Try.prog 22 #[.pointer none, .agg #[.int .i64 x.kind, .int .i64 x.work, .int .i64 x.key, .int .u64 x.val, rlv gl x.L.length cl]] [] (Det (.agg #[.int .u64 0, .bool false, rlv none 0 0, .int .i64 6]) []) := by
  refine Meets.of_code Try.func22 rfl Try.ntmps22 rfl fun w0 S R a h => ?_
  refine C.seq ?_
  refine C.region ?_
  refine St.box h rfl rfl rfl rfl rfl fun b1 a w h => ?_
  replace h := h.conv (sl' := _) (L' := [cells _ _ [_, _, _, _, _]]) rfl rfl
  refine St.alloc h Try.zeroValue57 rfl rfl rfl rfl fun b2 a w h => ?_
  replace h := h.conv (sl' := _) (L' := [cells _ _ [_, _, _, _], cells _ _ [_, _, _, _, _]]) rfl rfl
  refine wpl_nil ?_
  refine X.thenN ?_
  refine C.seq ?_
  refine C.region ?_
  refine St.alloc h Try.zeroValue57 rfl rfl rfl rfl fun b3 a w h => ?_
  replace h := h.conv (sl' := _) (L' := [cells _ _ [_, _, _, _], cells _ _ [_, _, _, _], cells _ _ [_, _, _, _, _]]) rfl rfl
  refine wpl_nil ?_
  refine X.thenN ?_
  refine C.seq ?_
  refine C.seq ?_
  refine C.region ?_
  refine St.get h rfl rfl rfl (G.fadr 0 rfl rfl Try.underlying54 rfl rfl Try.sizeOf3) fun a h => ?_
  refine St.get h rfl rfl rfl (G.ld 2 0 rfl rfl rfl rfl rfl Try.isAgg3) fun a h => ?_
  refine wpl_nil ?_
  refine X.thenN ?_
  refine C.block ?_
  refine C.seq ?_
  refine C.region ?_
  refine St.getP h rfl rfl rfl (G.bin rfl rfl rfl B.eql) (fun hc a h => ?_) (fun hc a h => ?_)
  refine St.get h rfl rfl rfl (G.assign rfl rfl) fun a h => ?_
  refine wpl_nil ?_
  refine X.thenN ?_
  refine St.condT h rfl ?_
  refine C.region ?_
  refine St.get h rfl rfl rfl (G.move rfl rfl) fun a h => ?_
  refine St.get h rfl rfl rfl (G.fadr 1 rfl rfl Try.underlying54 rfl rfl Try.sizeOf3) fun a h => ?_
  refine St.get h rfl rfl rfl (G.ld 2 1 rfl rfl rfl rfl rfl Try.isAgg3) fun a h => ?_
  refine St.get h rfl rfl rfl (G.fadr 2 rfl rfl Try.underlying54 rfl rfl Try.sizeOf3) fun a h => ?_
  refine St.get h rfl rfl rfl (G.ld 2 2 rfl rfl rfl rfl rfl Try.isAgg3) fun a h => ?_
  rotate_left
  refine St.get h rfl rfl rfl (G.assign rfl rfl) fun a h => ?_
  refine wpl_nil ?_
  refine X.thenN ?_
  refine St.condF h rfl ?_
  refine C.seq ?_
  refine C.region ?_
  refine St.getP h rfl rfl rfl (G.bin rfl rfl rfl B.eql) (fun hc1 a h => ?_) (fun hc1 a h => ?_)
  refine St.get h rfl rfl rfl (G.assign rfl rfl) fun a h => ?_
  refine wpl_nil ?_
  refine X.thenN ?_
  refine St.condT h rfl ?_
  refine C.region ?_
  refine St.get h rfl rfl rfl (G.move rfl rfl) fun a h => ?_
  refine St.get h rfl rfl rfl (G.fadr 1 rfl rfl Try.underlying54 rfl rfl Try.sizeOf3) fun a h => ?_
  refine St.get h rfl rfl rfl (G.ld 2 1 rfl rfl rfl rfl rfl Try.isAgg3) fun a h => ?_
  refine St.get h rfl rfl rfl (G.fadr 2 rfl rfl Try.underlying54 rfl rfl Try.sizeOf3) fun a h => ?_
  refine St.get h rfl rfl rfl (G.ld 2 2 rfl rfl rfl rfl rfl Try.isAgg3) fun a h => ?_
  refine St.get h rfl rfl rfl (G.fadr 3 rfl rfl Try.underlying54 rfl rfl Try.sizeOf22) fun a h => ?_
  refine St.get h rfl rfl rfl (G.ld 2 3 rfl rfl rfl rfl rfl Try.isAgg22) fun a h => ?_
  rotate_left
  refine St.get h rfl rfl rfl (G.assign rfl rfl) fun a h => ?_
  refine wpl_nil ?_
  refine X.thenN ?_
  refine St.condF h rfl ?_
  refine C.seq ?_
  refine C.region ?_
  refine St.getP h rfl rfl rfl (G.bin rfl rfl rfl B.eql) (fun hc2 a h => ?_) (fun hc2 a h => ?_)
  refine St.get h rfl rfl rfl (G.assign rfl rfl) fun a h => ?_
  refine wpl_nil ?_
  refine X.thenN ?_
  refine St.condT h rfl ?_
  refine C.region ?_
  refine St.get h rfl rfl rfl (G.move rfl rfl) fun a h => ?_
  refine St.get h rfl rfl rfl (G.fadr 1 rfl rfl Try.underlying54 rfl rfl Try.sizeOf3) fun a h => ?_
  refine St.get h rfl rfl rfl (G.ld 2 1 rfl rfl rfl rfl rfl Try.isAgg3) fun a h => ?_
  refine St.get h rfl rfl rfl (G.fadr 2 rfl rfl Try.underlying54 rfl rfl Try.sizeOf3) fun a h => ?_
  refine St.get h rfl rfl rfl (G.ld 2 2 rfl rfl rfl rfl rfl Try.isAgg3) fun a h => ?_
  rotate_left
  refine St.get h rfl rfl rfl (G.assign rfl rfl) fun a h => ?_
  refine wpl_nil ?_
  refine X.thenN ?_
  refine St.condF h rfl ?_
  refine C.seq ?_
  refine C.region ?_
  refine St.getP h rfl rfl rfl (G.bin rfl rfl rfl B.eql) (fun hc3 a h => ?_) (fun hc3 a h => ?_)
  refine St.get h rfl rfl rfl (G.assign rfl rfl) fun a h => ?_
  refine wpl_nil ?_
  refine X.thenN ?_
  refine St.condT h rfl ?_
  refine C.region ?_
  refine St.get h rfl rfl rfl (G.move rfl rfl) fun a h => ?_
  refine St.get h rfl rfl rfl (G.fadr 1 rfl rfl Try.underlying54 rfl rfl Try.sizeOf3) fun a h => ?_
  refine St.get h rfl rfl rfl (G.ld 2 1 rfl rfl rfl rfl rfl Try.isAgg3) fun a h => ?_
  refine St.get h rfl rfl rfl (G.fadr 3 rfl rfl Try.underlying54 rfl rfl Try.sizeOf22) fun a h => ?_
  refine St.get h rfl rfl rfl (G.ld 2 3 rfl rfl rfl rfl rfl Try.isAgg22) fun a h => ?_
  rotate_left
  refine St.get h rfl rfl rfl (G.assign rfl rfl) fun a h => ?_
  refine wpl_nil ?_
  refine X.thenN ?_
  refine St.condF h rfl ?_
  refine C.seq ?_
  refine C.region ?_
  refine St.getP h rfl rfl rfl (G.bin rfl rfl rfl B.eql) (fun hc4 a h => ?_) (fun hc4 a h => ?_)
  refine St.get h rfl rfl rfl (G.assign rfl rfl) fun a h => ?_
  refine wpl_nil ?_
  refine X.thenN ?_
  refine St.condT h rfl ?_
  refine C.region ?_
  refine St.get h rfl rfl rfl (G.move rfl rfl) fun a h => ?_
  refine St.get h rfl rfl rfl (G.fadr 1 rfl rfl Try.underlying54 rfl rfl Try.sizeOf3) fun a h => ?_
  refine St.get h rfl rfl rfl (G.ld 2 1 rfl rfl rfl rfl rfl Try.isAgg3) fun a h => ?_
  rotate_left
  refine St.get h rfl rfl rfl (G.assign rfl rfl) fun a h => ?_
  refine wpl_nil ?_
  refine X.thenN ?_
  refine St.condF h rfl ?_
  refine C.seq ?_
  refine C.region ?_
  refine St.getP h rfl rfl rfl (G.bin rfl rfl rfl B.eql) (fun hc5 a h => ?_) (fun hc5 a h => ?_)
  refine St.get h rfl rfl rfl (G.assign rfl rfl) fun a h => ?_
  refine wpl_nil ?_
  refine X.thenN ?_
  refine St.condT h rfl ?_
  refine C.region ?_
  refine St.get h rfl rfl rfl (G.move rfl rfl) fun a h => ?_
  refine St.get h rfl rfl rfl (G.fadr 1 rfl rfl Try.underlying54 rfl rfl Try.sizeOf3) fun a h => ?_
  refine St.get h rfl rfl rfl (G.ld 2 1 rfl rfl rfl rfl rfl Try.isAgg3) fun a h => ?_
  rotate_left
  refine St.get h rfl rfl rfl (G.assign rfl rfl) fun a h => ?_
  refine wpl_nil ?_
  refine X.thenN ?_
  refine St.condF h rfl ?_
  refine C.seq ?_
  refine C.region ?_
  refine St.getP h rfl rfl rfl (G.bin rfl rfl rfl B.eql) (fun hc6 a h => ?_) (fun hc6 a h => ?_)
  refine St.get h rfl rfl rfl (G.assign rfl rfl) fun a h => ?_
  refine wpl_nil ?_
  refine X.thenN ?_
  refine St.condT h rfl ?_
  refine C.region ?_
  refine St.get h rfl rfl rfl (G.move rfl rfl) fun a h => ?_
  refine St.get h rfl rfl rfl (G.fadr 1 rfl rfl Try.underlying54 rfl rfl Try.sizeOf3) fun a h => ?_
  refine St.get h rfl rfl rfl (G.ld 2 1 rfl rfl rfl rfl rfl Try.isAgg3) fun a h => ?_
  rotate_left
  refine St.get h rfl rfl rfl (G.assign rfl rfl) fun a h => ?_
  refine wpl_nil ?_
  refine X.thenN ?_
  refine St.condF h rfl ?_
  refine C.seq ?_
  refine C.region ?_
  refine St.getP h rfl rfl rfl (G.bin rfl rfl rfl B.eql) (fun hc7 a h => ?_) (fun hc7 a h => ?_)
  refine St.get h rfl rfl rfl (G.assign rfl rfl) fun a h => ?_
  refine wpl_nil ?_
  refine X.thenN ?_
  refine St.condT h rfl ?_
  refine C.region ?_
  refine St.get h rfl rfl rfl (G.move rfl rfl) fun a h => ?_
  refine St.get h rfl rfl rfl (G.fadr 1 rfl rfl Try.underlying54 rfl rfl Try.sizeOf3) fun a h => ?_
  refine St.get h rfl rfl rfl (G.ld 2 1 rfl rfl rfl rfl rfl Try.isAgg3) fun a h => ?_
  rotate_left
  refine St.get h rfl rfl rfl (G.assign rfl rfl) fun a h => ?_
  refine wpl_nil ?_
  refine X.thenN ?_
  refine St.condF h rfl ?_
  refine C.seq ?_
  refine C.region ?_
  refine St.get h rfl rfl rfl (G.bin rfl rfl rfl (B.eqlT (by omega))) fun a h => ?_
  refine St.get h rfl rfl rfl (G.assign rfl rfl) fun a h => ?_
  refine wpl_nil ?_
  refine X.thenN ?_
  refine St.condT h rfl ?_
  refine C.region ?_
  refine St.get h rfl rfl rfl (G.move rfl rfl) fun a h => ?_
  refine St.get h rfl rfl rfl (G.fadr 1 rfl rfl Try.underlying54 rfl rfl Try.sizeOf3) fun a h => ?_
  refine St.get h rfl rfl rfl (G.ld 2 1 rfl rfl rfl rfl rfl Try.isAgg3) fun a h => ?_
  refine St.get h rfl rfl rfl (G.fadr 4 rfl rfl Try.underlying54 rfl rfl Try.sizeOf23) fun a h => ?_
  refine St.get h rfl rfl rfl (G.ld 2 4 rfl rfl rfl rfl rfl Try.isAgg23) fun a h => ?_
  rotate_left
  · refine St.callD h [] rfl (Ro.nil _) ((SGet_nil x.work x.key)) rfl rfl rfl Try.call57 rfl rfl fun a w h => ?_
    replace h := h.conv (sl' := _) (L' := [cells _ _ [_, _, _, _], cells _ _ [_, _, _, _], cells _ _ [_, _, _, _, _]]) rfl rfl
    refine St.get h rfl rfl rfl (G.move rfl rfl) fun a h => ?_
    refine St.get h rfl rfl rfl (G.extract rfl rfl rfl) fun a h => ?_
    refine St.get h rfl rfl rfl (G.extract rfl rfl rfl) fun a h => ?_
    refine St.get h rfl rfl rfl (G.extract rfl rfl rfl) fun a h => ?_
    refine St.get h rfl rfl rfl (G.fadr 0 rfl rfl Try.underlying57 rfl rfl Try.sizeOf22) fun a h => ?_
    refine St.put h rfl rfl (U.st 0 0 rfl rfl rfl rfl rfl rfl rfl Try.sizeOf22) fun a w h => ?_
    replace h := h.conv (sl' := _) (L' := [cells _ _ [_, _, _, _], cells _ _ [_, _, _, _], cells _ _ [_, _, _, _, _]]) rfl rfl
    refine St.get h rfl rfl rfl (G.fadr 1 rfl rfl Try.underlying57 rfl rfl Try.sizeOf4) fun a h => ?_
    refine St.put h rfl rfl (U.st 0 1 rfl rfl rfl rfl rfl rfl rfl Try.sizeOf4) fun a w h => ?_
    replace h := h.conv (sl' := _) (L' := [cells _ _ [_, _, _, _], cells _ _ [_, _, _, _], cells _ _ [_, _, _, _, _]]) rfl rfl
    refine St.get h rfl rfl rfl (G.fadr 3 rfl rfl Try.underlying57 rfl rfl Try.sizeOf34) fun a h => ?_
    refine St.put h rfl rfl (U.st 0 3 rfl rfl rfl rfl rfl rfl rfl Try.sizeOf34) fun a w h => ?_
    replace h := h.conv (sl' := _) (L' := [cells _ _ [_, _, _, _], cells _ _ [_, _, _, _], cells _ _ [_, _, _, _, _]]) rfl rfl
    refine wpl_nil ?_
    refine X.blkN ?_
    refine X.thenN ?_
    refine C.seq ?_
    refine C.region ?_
    refine St.get h rfl rfl rfl (G.lda 0 0 4 rfl rfl rfl rfl rfl Try.isAgg57 Try.sizeOf57) fun a h => ?_
    replace h := h.conv (sl' := (_, .agg #[_, _, _, _]) :: _) (L' := _) rfl rfl
    refine St.put h rfl rfl (U.sta 1 0 rfl rfl rfl rfl rfl rfl (by decide) Try.sizeOf57 rfl) fun a w h => ?_
    replace h := h.conv (sl' := _) (L' := [cells _ _ [_, _, _, _], cells _ _ [_, _, _, _], cells _ _ [_, _, _, _, _]]) rfl rfl
    refine wpl_nil ?_
    refine X.thenN ?_
    refine C.ret ?_
    replace h := h.sel [1] rfl
    replace h := h.conv (sl' := _) (L' := [cells _ _ [_, _, _, _]]) rfl rfl
    exact h.retC Try.results22 rfl (Ent.refl _) Try.isAgg57 Try.sizeOf57 (⟨rfl, rfl⟩)
  · refine St.callD h [] rfl (Ro.nil _) ((SPut_nil x.work x.key x.val)) rfl rfl rfl Try.call29 rfl rfl fun a w h => ?_
    replace h := h.conv (sl' := _) (L' := [cells _ _ [_, _, _, _], cells _ _ [_, _, _, _], cells _ _ [_, _, _, _, _]]) rfl rfl
    refine St.get h rfl rfl rfl (G.fadr 3 rfl rfl Try.underlying57 rfl rfl Try.sizeOf34) fun a h => ?_
    refine St.put h rfl rfl (U.st 0 3 rfl rfl rfl rfl rfl rfl rfl Try.sizeOf34) fun a w h => ?_
    replace h := h.conv (sl' := _) (L' := [cells _ _ [_, _, _, _], cells _ _ [_, _, _, _], cells _ _ [_, _, _, _, _]]) rfl rfl
    refine wpl_nil ?_
    refine X.blkN ?_
    refine X.thenN ?_
    refine C.seq ?_
    refine C.region ?_
    refine St.get h rfl rfl rfl (G.lda 0 0 4 rfl rfl rfl rfl rfl Try.isAgg57 Try.sizeOf57) fun a h => ?_
    replace h := h.conv (sl' := (_, .agg #[_, _, _, _]) :: _) (L' := _) rfl rfl
    refine St.put h rfl rfl (U.sta 1 0 rfl rfl rfl rfl rfl rfl (by decide) Try.sizeOf57 rfl) fun a w h => ?_
    replace h := h.conv (sl' := _) (L' := [cells _ _ [_, _, _, _], cells _ _ [_, _, _, _], cells _ _ [_, _, _, _, _]]) rfl rfl
    refine wpl_nil ?_
    refine X.thenN ?_
    refine C.ret ?_
    replace h := h.sel [1] rfl
    replace h := h.conv (sl' := _) (L' := [cells _ _ [_, _, _, _]]) rfl rfl
    exact h.retC Try.results22 rfl (Ent.refl _) Try.isAgg57 Try.sizeOf57 (⟨rfl, rfl⟩)
  · refine St.callD h [] rfl (Ro.nil _) ((SDel_nil x.work x.key)) rfl rfl rfl Try.call58 rfl rfl fun a w h => ?_
    replace h := h.conv (sl' := _) (L' := [cells _ _ [_, _, _, _], cells _ _ [_, _, _, _], cells _ _ [_, _, _, _, _]]) rfl rfl
    refine St.get h rfl rfl rfl (G.fadr 3 rfl rfl Try.underlying57 rfl rfl Try.sizeOf34) fun a h => ?_
    refine St.put h rfl rfl (U.st 0 3 rfl rfl rfl rfl rfl rfl rfl Try.sizeOf34) fun a w h => ?_
    replace h := h.conv (sl' := _) (L' := [cells _ _ [_, _, _, _], cells _ _ [_, _, _, _], cells _ _ [_, _, _, _, _]]) rfl rfl
    refine wpl_nil ?_
    refine X.blkN ?_
    refine X.thenN ?_
    refine C.seq ?_
    refine C.region ?_
    refine St.get h rfl rfl rfl (G.lda 0 0 4 rfl rfl rfl rfl rfl Try.isAgg57 Try.sizeOf57) fun a h => ?_
    replace h := h.conv (sl' := (_, .agg #[_, _, _, _]) :: _) (L' := _) rfl rfl
    refine St.put h rfl rfl (U.sta 1 0 rfl rfl rfl rfl rfl rfl (by decide) Try.sizeOf57 rfl) fun a w h => ?_
    replace h := h.conv (sl' := _) (L' := [cells _ _ [_, _, _, _], cells _ _ [_, _, _, _], cells _ _ [_, _, _, _, _]]) rfl rfl
    refine wpl_nil ?_
    refine X.thenN ?_
    refine C.ret ?_
    replace h := h.sel [1] rfl
    replace h := h.conv (sl' := _) (L' := [cells _ _ [_, _, _, _]]) rfl rfl
    exact h.retC Try.results22 rfl (Ent.refl _) Try.isAgg57 Try.sizeOf57 (⟨rfl, rfl⟩)
  · refine St.callD h [] rfl (Ro.nil _) ((SPush_nil x.work x.val)) rfl rfl rfl Try.call30 rfl rfl fun a w h => ?_
    replace h := h.conv (sl' := _) (L' := [cells _ _ [_, _, _, _], cells _ _ [_, _, _, _], cells _ _ [_, _, _, _, _]]) rfl rfl
    refine St.get h rfl rfl rfl (G.fadr 3 rfl rfl Try.underlying57 rfl rfl Try.sizeOf34) fun a h => ?_
    refine St.put h rfl rfl (U.st 0 3 rfl rfl rfl rfl rfl rfl rfl Try.sizeOf34) fun a w h => ?_
    replace h := h.conv (sl' := _) (L' := [cells _ _ [_, _, _, _], cells _ _ [_, _, _, _], cells _ _ [_, _, _, _, _]]) rfl rfl
    refine wpl_nil ?_
    refine X.blkN ?_
    refine X.thenN ?_
    refine C.seq ?_
    refine C.region ?_
    refine St.get h rfl rfl rfl (G.lda 0 0 4 rfl rfl rfl rfl rfl Try.isAgg57 Try.sizeOf57) fun a h => ?_
    replace h := h.conv (sl' := (_, .agg #[_, _, _, _]) :: _) (L' := _) rfl rfl
    refine St.put h rfl rfl (U.sta 1 0 rfl rfl rfl rfl rfl rfl (by decide) Try.sizeOf57 rfl) fun a w h => ?_
    replace h := h.conv (sl' := _) (L' := [cells _ _ [_, _, _, _], cells _ _ [_, _, _, _], cells _ _ [_, _, _, _, _]]) rfl rfl
    refine wpl_nil ?_
    refine X.thenN ?_
    refine C.ret ?_
    replace h := h.sel [1] rfl
    replace h := h.conv (sl' := _) (L' := [cells _ _ [_, _, _, _]]) rfl rfl
    exact h.retC Try.results22 rfl (Ent.refl _) Try.isAgg57 Try.sizeOf57 (⟨rfl, rfl⟩)
  · refine St.callD h [] rfl (Ro.nil _) ((SPop_nil x.work)) rfl rfl rfl Try.call59 rfl rfl fun a w h => ?_
    replace h := h.conv (sl' := _) (L' := [cells _ _ [_, _, _, _], cells _ _ [_, _, _, _], cells _ _ [_, _, _, _, _]]) rfl rfl
    refine St.get h rfl rfl rfl (G.move rfl rfl) fun a h => ?_
    refine St.get h rfl rfl rfl (G.extract rfl rfl rfl) fun a h => ?_
    refine St.get h rfl rfl rfl (G.extract rfl rfl rfl) fun a h => ?_
    refine St.get h rfl rfl rfl (G.fadr 0 rfl rfl Try.underlying57 rfl rfl Try.sizeOf22) fun a h => ?_
    refine St.put h rfl rfl (U.st 0 0 rfl rfl rfl rfl rfl rfl rfl Try.sizeOf22) fun a w h => ?_
    replace h := h.conv (sl' := _) (L' := [cells _ _ [_, _, _, _], cells _ _ [_, _, _, _], cells _ _ [_, _, _, _, _]]) rfl rfl
    refine St.get h rfl rfl rfl (G.fadr 3 rfl rfl Try.underlying57 rfl rfl Try.sizeOf34) fun a h => ?_
    refine St.put h rfl rfl (U.st 0 3 rfl rfl rfl rfl rfl rfl rfl Try.sizeOf34) fun a w h => ?_
    replace h := h.conv (sl' := _) (L' := [cells _ _ [_, _, _, _], cells _ _ [_, _, _, _], cells _ _ [_, _, _, _, _]]) rfl rfl
    refine wpl_nil ?_
    refine X.blkN ?_
    refine X.thenN ?_
    refine C.seq ?_
    refine C.region ?_
    refine St.get h rfl rfl rfl (G.lda 0 0 4 rfl rfl rfl rfl rfl Try.isAgg57 Try.sizeOf57) fun a h => ?_
    replace h := h.conv (sl' := (_, .agg #[_, _, _, _]) :: _) (L' := _) rfl rfl
    refine St.put h rfl rfl (U.sta 1 0 rfl rfl rfl rfl rfl rfl (by decide) Try.sizeOf57 rfl) fun a w h => ?_
    replace h := h.conv (sl' := _) (L' := [cells _ _ [_, _, _, _], cells _ _ [_, _, _, _], cells _ _ [_, _, _, _, _]]) rfl rfl
    refine wpl_nil ?_
    refine X.thenN ?_
    refine C.ret ?_
    replace h := h.sel [1] rfl
    replace h := h.conv (sl' := _) (L' := [cells _ _ [_, _, _, _]]) rfl rfl
    exact h.retC Try.results22 rfl (Ent.refl _) Try.isAgg57 Try.sizeOf57 (⟨rfl, rfl⟩)
  · refine St.callD h [] rfl (Ro.nil _) ((SPrepare_nil x.work)) rfl rfl rfl Try.call31 rfl rfl fun a w h => ?_
    replace h := h.conv (sl' := _) (L' := [cells _ _ [_, _, _, _], cells _ _ [_, _, _, _], cells _ _ [_, _, _, _, _]]) rfl rfl
    refine St.get h rfl rfl rfl (G.move rfl rfl) fun a h => ?_
    refine St.get h rfl rfl rfl (G.extract rfl rfl rfl) fun a h => ?_
    refine St.get h rfl rfl rfl (G.extract rfl rfl rfl) fun a h => ?_
    refine St.get h rfl rfl rfl (G.fadr 2 rfl rfl Try.underlying57 rfl rfl Try.sizeOf23) fun a h => ?_
    refine St.put h rfl rfl (U.st 0 2 rfl rfl rfl rfl rfl rfl rfl Try.sizeOf23) fun a w h => ?_
    replace h := h.conv (sl' := _) (L' := [cells _ _ [_, _, _, _], cells _ _ [_, _, _, _], cells _ _ [_, _, _, _, _]]) rfl rfl
    refine St.get h rfl rfl rfl (G.fadr 3 rfl rfl Try.underlying57 rfl rfl Try.sizeOf34) fun a h => ?_
    refine St.put h rfl rfl (U.st 0 3 rfl rfl rfl rfl rfl rfl rfl Try.sizeOf34) fun a w h => ?_
    replace h := h.conv (sl' := _) (L' := [cells _ _ [_, _, _, _], cells _ _ [_, _, _, _], cells _ _ [_, _, _, _, _]]) rfl rfl
    refine wpl_nil ?_
    refine X.blkN ?_
    refine X.thenN ?_
    refine C.seq ?_
    refine C.region ?_
    refine St.get h rfl rfl rfl (G.lda 0 0 4 rfl rfl rfl rfl rfl Try.isAgg57 Try.sizeOf57) fun a h => ?_
    replace h := h.conv (sl' := (_, .agg #[_, _, _, _]) :: _) (L' := _) rfl rfl
    refine St.put h rfl rfl (U.sta 1 0 rfl rfl rfl rfl rfl rfl (by decide) Try.sizeOf57 rfl) fun a w h => ?_
    replace h := h.conv (sl' := _) (L' := [cells _ _ [_, _, _, _], cells _ _ [_, _, _, _], cells _ _ [_, _, _, _, _]]) rfl rfl
    refine wpl_nil ?_
    refine X.thenN ?_
    refine C.ret ?_
    replace h := h.sel [1] rfl
    replace h := h.conv (sl' := _) (L' := [cells _ _ [_, _, _, _]]) rfl rfl
    exact h.retC Try.results22 rfl (Ent.refl _) Try.isAgg57 Try.sizeOf57 (⟨rfl, rfl⟩)
  · refine St.callD h [] rfl (Ro.nil _) ((SCommit_nil x.work)) rfl rfl rfl Try.call33 rfl rfl fun a w h => ?_
    replace h := h.conv (sl' := _) (L' := [cells _ _ [_, _, _, _], cells _ _ [_, _, _, _], cells _ _ [_, _, _, _, _]]) rfl rfl
    refine St.get h rfl rfl rfl (G.fadr 3 rfl rfl Try.underlying57 rfl rfl Try.sizeOf34) fun a h => ?_
    refine St.put h rfl rfl (U.st 0 3 rfl rfl rfl rfl rfl rfl rfl Try.sizeOf34) fun a w h => ?_
    replace h := h.conv (sl' := _) (L' := [cells _ _ [_, _, _, _], cells _ _ [_, _, _, _], cells _ _ [_, _, _, _, _]]) rfl rfl
    refine wpl_nil ?_
    refine X.blkN ?_
    refine X.thenN ?_
    refine C.seq ?_
    refine C.region ?_
    refine St.get h rfl rfl rfl (G.lda 0 0 4 rfl rfl rfl rfl rfl Try.isAgg57 Try.sizeOf57) fun a h => ?_
    replace h := h.conv (sl' := (_, .agg #[_, _, _, _]) :: _) (L' := _) rfl rfl
    refine St.put h rfl rfl (U.sta 1 0 rfl rfl rfl rfl rfl rfl (by decide) Try.sizeOf57 rfl) fun a w h => ?_
    replace h := h.conv (sl' := _) (L' := [cells _ _ [_, _, _, _], cells _ _ [_, _, _, _], cells _ _ [_, _, _, _, _]]) rfl rfl
    refine wpl_nil ?_
    refine X.thenN ?_
    refine C.ret ?_
    replace h := h.sel [1] rfl
    replace h := h.conv (sl' := _) (L' := [cells _ _ [_, _, _, _]]) rfl rfl
    exact h.retC Try.results22 rfl (Ent.refl _) Try.isAgg57 Try.sizeOf57 (⟨rfl, rfl⟩)
  · refine St.callD h [] rfl (Ro.nil _) ((SBackout_nil x.work)) rfl rfl rfl Try.call32 rfl rfl fun a w h => ?_
    replace h := h.conv (sl' := _) (L' := [cells _ _ [_, _, _, _], cells _ _ [_, _, _, _], cells _ _ [_, _, _, _, _]]) rfl rfl
    refine St.get h rfl rfl rfl (G.fadr 3 rfl rfl Try.underlying57 rfl rfl Try.sizeOf34) fun a h => ?_
    refine St.put h rfl rfl (U.st 0 3 rfl rfl rfl rfl rfl rfl rfl Try.sizeOf34) fun a w h => ?_
    replace h := h.conv (sl' := _) (L' := [cells _ _ [_, _, _, _], cells _ _ [_, _, _, _], cells _ _ [_, _, _, _, _]]) rfl rfl
    refine wpl_nil ?_
    refine X.blkN ?_
    refine X.thenN ?_
    refine C.seq ?_
    refine C.region ?_
    refine St.get h rfl rfl rfl (G.lda 0 0 4 rfl rfl rfl rfl rfl Try.isAgg57 Try.sizeOf57) fun a h => ?_
    replace h := h.conv (sl' := (_, .agg #[_, _, _, _]) :: _) (L' := _) rfl rfl
    refine St.put h rfl rfl (U.sta 1 0 rfl rfl rfl rfl rfl rfl (by decide) Try.sizeOf57 rfl) fun a w h => ?_
    replace h := h.conv (sl' := _) (L' := [cells _ _ [_, _, _, _], cells _ _ [_, _, _, _], cells _ _ [_, _, _, _, _]]) rfl rfl
    refine wpl_nil ?_
    refine X.thenN ?_
    refine C.ret ?_
    replace h := h.sel [1] rfl
    replace h := h.conv (sl' := _) (L' := [cells _ _ [_, _, _, _]]) rfl rfl
    exact h.retC Try.results22 rfl (Ent.refl _) Try.isAgg57 Try.sizeOf57 (⟨rfl, rfl⟩)
  · refine St.callD h [] rfl (Ro.nil _) ((SRestore_nil x.work (rlv gl x.L.length cl))) rfl rfl rfl Try.call35 rfl rfl fun a w h => ?_
    replace h := h.conv (sl' := _) (L' := [cells _ _ [_, _, _, _], cells _ _ [_, _, _, _], cells _ _ [_, _, _, _, _]]) rfl rfl
    refine St.get h rfl rfl rfl (G.fadr 3 rfl rfl Try.underlying57 rfl rfl Try.sizeOf34) fun a h => ?_
    refine St.put h rfl rfl (U.st 0 3 rfl rfl rfl rfl rfl rfl rfl Try.sizeOf34) fun a w h => ?_
    replace h := h.conv (sl' := _) (L' := [cells _ _ [_, _, _, _], cells _ _ [_, _, _, _], cells _ _ [_, _, _, _, _]]) rfl rfl
    refine wpl_nil ?_
    refine X.blkN ?_
    refine X.thenN ?_
    refine C.seq ?_
    refine C.region ?_
    refine St.get h rfl rfl rfl (G.lda 0 0 4 rfl rfl rfl rfl rfl Try.isAgg57 Try.sizeOf57) fun a h => ?_
    replace h := h.conv (sl' := (_, .agg #[_, _, _, _]) :: _) (L' := _) rfl rfl
    refine St.put h rfl rfl (U.sta 1 0 rfl rfl rfl rfl rfl rfl (by decide) Try.sizeOf57 rfl) fun a w h => ?_
    replace h := h.conv (sl' := _) (L' := [cells _ _ [_, _, _, _], cells _ _ [_, _, _, _], cells _ _ [_, _, _, _, _]]) rfl rfl
    refine wpl_nil ?_
    refine X.thenN ?_
    refine C.ret ?_
    replace h := h.sel [1] rfl
    replace h := h.conv (sl' := _) (L' := [cells _ _ [_, _, _, _]]) rfl rfl
    exact h.retC Try.results22 rfl (Ent.refl _) Try.isAgg57 Try.sizeOf57 (⟨rfl, rfl⟩)
theorem same15_spec (v v' : Int) (t t' : Bool) (g g' : Option Addr) (c c' : Nat) (ys zs : List Ch) (e e' : Int) : Meets Try.prog 23 #[.agg #[.int .u64 v, .bool t, rlv g ys.length c, .int .i64 e], .agg #[.int .u64 v', .bool t', rlv g' zs.length c', .int .i64 e']] [rdl encCh g ys, rdl encCh g' zs]
    (Det (.bool (decide (v = v') && (t == t') && sameC ys zs && decide (e = e'))) []) := by
  refine Meets.of_code Try.func23 rfl Try.ntmps23 rfl fun w0 S R a h => ?_
  refine C.seq ?_
  refine C.region ?_
  refine St.box h rfl rfl rfl rfl rfl fun b1 a w h => ?_
  replace h := h.conv (sl' := _) (L' := [cells _ _ [_, _, _, _], _, _]) rfl rfl
  refine St.box h rfl rfl rfl rfl rfl fun b2 a w h => ?_
  replace h := h.conv (sl' := _) (L' := [cells _ _ [_, _, _, _], cells _ _ [_, _, _, _], _, _]) rfl rfl
  refine St.get h rfl rfl rfl (G.assign rfl rfl) fun a h => ?_
  refine wpl_nil ?_
  refine X.thenN ?_
  refine C.seq ?_
  refine C.region ?_
  refine St.get h rfl rfl rfl (G.fadr 0 rfl rfl Try.underlying57 rfl rfl Try.sizeOf22) fun a h => ?_
  refine St.get h rfl rfl rfl (G.ld 1 0 rfl rfl rfl rfl rfl Try.isAgg22) fun a h => ?_
  refine St.get h rfl rfl rfl (G.fadr 0 rfl rfl Try.underlying57 rfl rfl Try.sizeOf22) fun a h => ?_
  refine St.get h rfl rfl rfl (G.ld 0 0 rfl rfl rfl rfl rfl Try.isAgg22) fun a h => ?_
  refine St.getP h rfl rfl rfl (G.bin rfl rfl rfl B.eql) (fun hc a h => ?_) (fun hc a h => ?_)
  refine St.get h rfl rfl rfl (G.move rfl rfl) fun a h => ?_
  refine St.guard_yes h rfl rfl rfl rfl rfl ?_
  refine St.get h rfl rfl rfl (G.fadr 1 rfl rfl Try.underlying57 rfl rfl Try.sizeOf4) fun a h => ?_
  refine St.guard_yes h rfl rfl rfl rfl rfl ?_
  refine St.get h rfl rfl rfl (G.ld 1 1 rfl rfl rfl rfl rfl Try.isAgg4) fun a h => ?_
  refine St.guard_yes h rfl rfl rfl rfl rfl ?_
  refine St.get h rfl rfl rfl (G.fadr 1 rfl rfl Try.underlying57 rfl rfl Try.sizeOf4) fun a h => ?_
  refine St.guard_yes h rfl rfl rfl rfl rfl ?_
  refine St.get h rfl rfl rfl (G.ld 0 1 rfl rfl rfl rfl rfl Try.isAgg4) fun a h => ?_
  refine St.guard_yes h rfl rfl rfl rfl rfl ?_
  refine St.get h rfl rfl rfl (G.bin rfl rfl rfl (B.eqlb Try.underlying4)) fun a h => ?_
  refine St.get h rfl rfl rfl (G.pickT rfl rfl rfl) fun a h => ?_
  refine St.get h rfl rfl rfl (G.move rfl rfl) fun a h => ?_
  refine St.split h 17 rfl (fun hc1 h => ?_) (fun hc1 h => ?_)
  refine St.guard_yes h rfl rfl rfl rfl rfl ?_
  refine St.get h rfl rfl rfl (G.fadr 2 rfl rfl Try.underlying57 rfl rfl Try.sizeOf23) fun a h => ?_
  refine St.guard_yes h rfl rfl rfl rfl rfl ?_
  refine St.get h rfl rfl rfl (G.ld 1 2 rfl rfl rfl rfl rfl Try.isAgg23) fun a h => ?_
  refine St.guard_yes h rfl rfl rfl rfl rfl ?_
  refine St.get h rfl rfl rfl (G.fadr 2 rfl rfl Try.underlying57 rfl rfl Try.sizeOf23) fun a h => ?_
  refine St.guard_yes h rfl rfl rfl rfl rfl ?_
  refine St.get h rfl rfl rfl (G.ld 0 2 rfl rfl rfl rfl rfl Try.isAgg23) fun a h => ?_
  refine St.guard_yes h rfl rfl rfl rfl rfl ?_
  rotate_left
  refine St.guard_no h rfl rfl rfl rfl rfl (by decide) rfl rfl fun a h => ?_
  refine St.guard_no h rfl rfl rfl rfl rfl (by decide) rfl rfl fun a h => ?_
  refine St.guard_no h rfl rfl rfl rfl rfl (by decide) rfl rfl fun a h => ?_
  refine St.guard_no h rfl rfl rfl rfl rfl (by decide) rfl rfl fun a h => ?_
  refine St.guard_no h rfl rfl rfl rfl rfl (by decide) rfl rfl fun a h => ?_
  refine St.get h rfl rfl rfl (G.pickF rfl rfl rfl) fun a h => ?_
  refine St.get h rfl rfl rfl (G.move rfl rfl) fun a h => ?_
  refine St.guard_no h rfl rfl rfl rfl rfl (by decide) rfl rfl fun a h => ?_
  refine St.guard_no h rfl rfl rfl rfl rfl (by decide) rfl rfl fun a h => ?_
  refine St.guard_no h rfl rfl rfl rfl rfl (by decide) rfl rfl fun a h => ?_
  refine St.guard_no h rfl rfl rfl rfl rfl (by decide) rfl rfl fun a h => ?_
  refine St.guard_no h rfl rfl rfl rfl rfl (by decide) rfl rfl fun a h => ?_
  refine St.get h rfl rfl rfl (G.pickF rfl rfl rfl) fun a h => ?_
  refine St.get h rfl rfl rfl (G.assign rfl rfl) fun a h => ?_
  refine wpl_nil ?_
  refine X.thenN ?_
  refine C.ret ?_
  rotate_left
  refine St.get h rfl rfl rfl (G.move rfl rfl) fun a h => ?_
  refine St.guard_no h rfl rfl rfl rfl rfl (by decide) rfl rfl fun a h => ?_
  refine St.guard_no h rfl rfl rfl rfl rfl (by decide) rfl rfl fun a h => ?_
  refine St.guard_no h rfl rfl rfl rfl rfl (by decide) rfl rfl fun a h => ?_
  refine St.guard_no h rfl rfl rfl rfl rfl (by decide) rfl rfl fun a h => ?_
  refine St.guard_no h rfl rfl rfl rfl rfl (by decide) rfl rfl fun a h => ?_
  refine St.get h rfl rfl rfl (G.pickF rfl rfl rfl) fun a h => ?_
  refine St.get h rfl rfl rfl (G.move rfl rfl) fun a h => ?_
  refine St.guard_no h rfl rfl rfl rfl rfl (by decide) rfl rfl fun a h => ?_
  refine St.guard_no h rfl rfl rfl rfl rfl (by decide) rfl rfl fun a h => ?_
  refine St.guard_no h rfl rfl rfl rfl rfl (by decide) rfl rfl fun a h => ?_
  refine St.guard_no h rfl rfl rfl rfl rfl (by decide) rfl rfl fun a h => ?_
  refine St.guard_no h rfl rfl rfl rfl rfl (by decide) rfl rfl fun a h => ?_
  refine St.get h rfl rfl rfl (G.pickF rfl rfl rfl) fun a h => ?_
  refine St.get h rfl rfl rfl (G.move rfl rfl) fun a h => ?_
  refine St.guard_no h rfl rfl rfl rfl rfl (by decide) rfl rfl fun a h => ?_
  refine St.guard_no h rfl rfl rfl rfl rfl (by decide) rfl rfl fun a h => ?_
  refine St.guard_no h rfl rfl rfl rfl rfl (by decide) rfl rfl fun a h => ?_
  refine St.guard_no h rfl rfl rfl rfl rfl (by decide) rfl rfl fun a h => ?_
  refine St.guard_no h rfl rfl rfl rfl rfl (by decide) rfl rfl fun a h => ?_
  refine St.get h rfl rfl rfl (G.pickF rfl rfl rfl) fun a h => ?_
  refine St.get h rfl rfl rfl (G.assign rfl rfl) fun a h => ?_
  refine wpl_nil ?_
  refine X.thenN ?_
  refine C.ret ?_
  rotate_left
  · refine St.callD h [] rfl (Ro.cons 2 rfl (rdl_ro _ _ _) (Ro.cons 3 rfl (rdl_ro _ _ _) (Ro.nil _))) ((SameChanges_spec g g' c c' ys zs)) rfl rfl rfl Try.call13 rfl rfl fun a w h => ?_
    replace h := h.conv (sl' := _) (L' := [cells _ _ [_, _, _, _], cells _ _ [_, _, _, _], _, _]) rfl rfl
    refine St.get h rfl rfl rfl (G.pickT rfl rfl rfl) fun a h => ?_
    refine St.get h rfl rfl rfl (G.move rfl rfl) fun a h => ?_
    refine St.split h 24 rfl (fun hc2 h => ?_) (fun hc2 h => ?_)
    refine St.guard_yes h rfl rfl rfl rfl rfl ?_
    refine St.get h rfl rfl rfl (G.fadr 3 rfl rfl Try.underlying57 rfl rfl Try.sizeOf34) fun a h => ?_
    refine St.guard_yes h rfl rfl rfl rfl rfl ?_
    refine St.get h rfl rfl rfl (G.ld 1 3 rfl rfl rfl rfl rfl Try.isAgg34) fun a h => ?_
    refine St.guard_yes h rfl rfl rfl rfl rfl ?_
    refine St.get h rfl rfl rfl (G.fadr 3 rfl rfl Try.underlying57 rfl rfl Try.sizeOf34) fun a h => ?_
    refine St.guard_yes h rfl rfl rfl rfl rfl ?_
    refine St.get h rfl rfl rfl (G.ld 0 3 rfl rfl rfl rfl rfl Try.isAgg34) fun a h => ?_
    refine St.guard_yes h rfl rfl rfl rfl rfl ?_
    refine St.getP h rfl rfl rfl (G.bin rfl rfl rfl B.eql) (fun hc3 a h => ?_) (fun hc3 a h => ?_)
    refine St.get h rfl rfl rfl (G.pickT rfl rfl rfl) fun a h => ?_
    refine St.get h rfl rfl rfl (G.assign rfl rfl) fun a h => ?_
    refine wpl_nil ?_
    refine X.thenN ?_
    refine C.ret ?_
    rotate_left
    refine St.get h rfl rfl rfl (G.pickT rfl rfl rfl) fun a h => ?_
    refine St.get h rfl rfl rfl (G.assign rfl rfl) fun a h => ?_
    refine wpl_nil ?_
    refine X.thenN ?_
    refine C.ret ?_
    rotate_left
    refine St.guard_no h rfl rfl rfl rfl rfl (by decide) rfl rfl fun a h => ?_
    refine St.guard_no h rfl rfl rfl rfl rfl (by decide) rfl rfl fun a h => ?_
    refine St.guard_no h rfl rfl rfl rfl rfl (by decide) rfl rfl fun a h => ?_
    refine St.guard_no h rfl rfl rfl rfl rfl (by decide) rfl rfl fun a h => ?_
    refine St.guard_no h rfl rfl rfl rfl rfl (by decide) rfl rfl fun a h => ?_
    refine St.get h rfl rfl rfl (G.pickF rfl rfl rfl) fun a h => ?_
    refine St.get h rfl rfl rfl (G.assign rfl rfl) fun a h => ?_
    refine wpl_nil ?_
    refine X.thenN ?_
    refine C.ret ?_
    rotate_left
    · replace h := h.sel [] rfl
      exact h.ret1 Try.results23 rfl (Ent.refl _) (⟨by rw [decide_eq_true hc, decide_eq_true hc3, hc1, hc2]; rfl, rfl⟩)
    · replace h := h.sel [] rfl
      exact h.ret1 Try.results23 rfl (Ent.refl _) (⟨by rw [decide_eq_false hc3]; simp, rfl⟩)
    · replace h := h.sel [] rfl
      exact h.ret1 Try.results23 rfl (Ent.refl _) (⟨by rw [hc2]; simp, rfl⟩)
  · replace h := h.sel [] rfl
    exact h.ret1 Try.results23 rfl (Ent.refl _) (⟨by rw [hc1]; simp, rfl⟩)
  · replace h := h.sel [] rfl
    exact h.ret1 Try.results23 rfl (Ent.refl _) (⟨by rw [decide_eq_false hc]; simp, rfl⟩)
theorem SameU_spec (g g' : Option Addr) (c c' : Nat) (ys zs : List Int) : Meets Try.prog 61 #[rlv g ys.length c, rlv g' zs.length c'] [rdl encU64 g ys, rdl encU64 g' zs] (Det (.bool (decide (ys = zs))) []) := by
  refine Meets.of_code Try.func61 rfl Try.ntmps61 rfl fun w0 S R a h => ?_
  have hlen : ys.length ≤ 9223372036854775807 := by have := h.tell1 0 rfl fun _ _ _ => rdl_len; simpa using this
  have hlen2 : zs.length ≤ 9223372036854775807 := by have := h.tell1 1 rfl fun _ _ _ => rdl_len; simpa using this
  refine C.seq ?_
  refine C.region ?_
  refine St.get h rfl rfl rfl (G.assign rfl rfl) fun a h => ?_
  refine wpl_nil ?_
  refine X.thenN ?_
  refine C.seq ?_
  refine C.seq ?_
  refine C.region ?_
  refine St.get h rfl rfl rfl (G.move rfl rfl) fun a h => ?_
  refine St.get h rfl rfl rfl (G.lens rfl rfl Try.underlying24) fun a h => ?_
  refine St.get h rfl rfl rfl (G.move rfl rfl) fun a h => ?_
  refine St.get h rfl rfl rfl (G.lens rfl rfl Try.underlying24) fun a h => ?_
  refine St.getP h rfl rfl rfl (G.bin rfl rfl rfl B.neq) (fun hc a h => ?_) (fun hc a h => ?_)
  refine wpl_nil ?_
  refine X.thenN ?_
  refine St.condT h rfl ?_
  refine C.seq ?_
  refine C.region ?_
  refine St.get h rfl rfl rfl (G.assign rfl rfl) fun a h => ?_
  refine wpl_nil ?_
  refine X.thenN ?_
  refine C.ret ?_
  refine X.thenR ?_
  rotate_left
  refine wpl_nil ?_
  refine X.thenN ?_
  refine St.condF h rfl ?_
  refine C.skip ?_
  refine X.thenN ?_
  refine C.seq ?_
  refine C.seq ?_
  refine C.region ?_
  refine St.get h rfl rfl rfl (G.assign rfl rfl) fun a h => ?_
  refine wpl_nil ?_
  refine X.thenN ?_
  refine C.block ?_
  rotate_left
  · replace h := h.sel [] rfl
    exact h.ret1 Try.results61 rfl (Ent.refl _) (⟨by rw [decide_eq_false (fun x => hc (by rw [x]))], rfl⟩)
  · have hab : ys.length = zs.length := by omega
    refine C.loop (fun m t w => ∃ i : Nat, i + m = ys.length ∧ decide (ys = zs) = decide (ys.drop i = zs.drop i) ∧ St w0 S R 26 [(0, rlv g ys.length c), (1, rlv g' zs.length c'), (5, .int .i64 i)] [rdl encU64 g ys, rdl encU64 g' zs] t w) ys.length ⟨0, by omega, rfl, h.sub ⟨rfl, rfl, rfl, trivial⟩⟩ ?_
    rintro m t w ⟨i, hi, hf, h⟩
    by_cases hlt : i < ys.length
    · obtain ⟨x, hx⟩ : ∃ x, ys[i]? = some x := ⟨_, List.getElem?_eq_getElem hlt⟩
      obtain ⟨y, hy⟩ : ∃ y, zs[i]? = some y := ⟨_, List.getElem?_eq_getElem (by omega)⟩
      have hx1 : ys[(i : Int).toNat]? = some x := by simp [hx]
      have hy1 : zs[(i : Int).toNat]? = some y := by simp [hy]
      rw [drop_cons hx, drop_cons hy] at hf
      refine C.seq ?_
      refine C.seq ?_
      refine C.region ?_
      refine St.get h rfl rfl rfl (G.move rfl rfl) fun a h => ?_
      refine St.get h rfl rfl rfl (G.move rfl rfl) fun a h => ?_
      refine St.get h rfl rfl rfl (G.lens rfl rfl Try.underlying24) fun a h => ?_
      refine St.get h rfl rfl rfl (G.bin rfl rfl rfl (B.lssT (by omega))) fun a h => ?_
      refine wpl_nil ?_
      refine X.thenN ?_
      refine St.condT h rfl ?_
      refine C.skip ?_
      refine X.thenN ?_
      refine C.seq ?_
      refine C.block ?_
      refine C.seq ?_
      refine C.still Try_mixed h (by decide +kernel) fun w h => ?_
      refine St.getS h rfl rfl rfl (G.move rfl rfl) fun a h => ?_
      refine St.getS h rfl rfl rfl (G.move rfl rfl) fun a h => ?_
      refine St.getS h rfl rfl rfl (G.idxr _ 0 rfl rfl rfl rfl (by omega) (by omega) (by omega) Try.underlying24 Try.sizeOf22) fun a h => ?_
      refine St.getS h rfl rfl rfl (G.lde _ 0 0 rfl (by assumption) rfl rfl rfl rfl rfl Try.isAgg22) fun a h => ?_
      refine St.getS h rfl rfl rfl (G.move rfl rfl) fun a h => ?_
      refine St.getS h rfl rfl rfl (G.move rfl rfl) fun a h => ?_
      refine St.getS h rfl rfl rfl (G.idxr _ 1 rfl rfl rfl rfl (by omega) (by omega) (by omega) Try.underlying24 Try.sizeOf22) fun a h => ?_
      refine St.getS h rfl rfl rfl (G.lde _ 1 0 rfl (by assumption) rfl rfl rfl rfl rfl Try.isAgg22) fun a h => ?_
      refine St.getPS h rfl rfl rfl (G.bin rfl rfl rfl B.neq) (fun hc1 a h => ?_) (fun hc1 a h => ?_)
      refine wps_nil ?_
      refine X.thenN ?_
      refine St.condT h rfl ?_
      refine C.seq ?_
      refine C.region ?_
      refine St.get h rfl rfl rfl (G.assign rfl rfl) fun a h => ?_
      refine wpl_nil ?_
      refine X.thenN ?_
      refine C.ret ?_
      refine X.blkR ?_
      refine X.thenR ?_
      refine X.thenR ?_
      refine X.blkR ?_
      refine X.thenR ?_
      rotate_left
      refine wps_nil ?_
      refine X.thenN ?_
      refine St.condF h rfl ?_
      refine C.skip ?_
      refine X.blkN ?_
      refine X.thenN ?_
      refine C.region ?_
      refine St.get h rfl rfl rfl (G.move rfl rfl) fun a h => ?_
      refine St.get h rfl rfl rfl (G.bin rfl rfl rfl (B.addi (by omega) (by omega))) fun a h => ?_
      refine St.get h rfl rfl rfl (G.assign rfl rfl) fun a h => ?_
      refine wpl_nil ?_
      refine X.thenN ?_
      rotate_left
      · replace h := h.sel [] rfl
        exact h.ret1 Try.results61 rfl (Ent.refl _) (⟨by rw [hf, decide_eq_false (by simp [hc1])], rfl⟩)
      · exact ⟨m - 1, by omega, i + 1, by omega, by rw [hf, Decidable.not_not.1 hc1]; simp, h.sub ⟨rfl, rfl, rfl, trivial⟩⟩
    · rw [List.drop_eq_nil_of_le (by omega), List.drop_eq_nil_of_le (by omega)] at hf
      refine C.seq ?_
      refine C.seq ?_
      refine C.region ?_
      refine St.get h rfl rfl rfl (G.move rfl rfl) fun a h => ?_
      refine St.get h rfl rfl rfl (G.move rfl rfl) fun a h => ?_
      refine St.get h rfl rfl rfl (G.lens rfl rfl Try.underlying24) fun a h => ?_
      refine St.get h rfl rfl rfl (G.bin rfl rfl rfl (B.lssF (by omega))) fun a h => ?_
      refine wpl_nil ?_
      refine X.thenN ?_
      refine St.condF h rfl ?_
      refine C.exit ?_
      refine X.thenE ?_
      refine X.thenE ?_
      refine X.blkE ?_
      refine X.thenN ?_
      refine C.seq ?_
      refine C.region ?_
      refine St.get h rfl rfl rfl (G.assign rfl rfl) fun a h => ?_
      refine wpl_nil ?_
      refine X.thenN ?_
      refine C.ret ?_
      replace h := h.sel [] rfl
      exact h.ret1 Try.results61 rfl (Ent.refl _) (⟨by rw [hf]; rfl, rfl⟩)
theorem As_nil : Meets Try.prog 26 #[.agg #[rlv none 0 0, rlv none 0 0, .int .i64 0]] [] (Det (.agg #[rlv none 0 0, rlv none 0 0, .int .i64 0]) []) := by
  refine Meets.of_code Try.func26 rfl Try.ntmps26 rfl fun w0 S R a h => ?_
  refine C.seq ?_
  refine C.region ?_
  refine St.box h rfl rfl rfl rfl rfl fun b1 a w h => ?_
  replace h := h.conv (sl' := _) (L' := [cells _ _ [_, _, _]]) rfl rfl
  refine St.alloc h Try.zeroValue63 rfl rfl rfl rfl fun b2 a w h => ?_
  replace h := h.conv (sl' := _) (L' := [cells _ _ [_, _, _], cells _ _ [_, _, _]]) rfl rfl
  refine wpl_nil ?_
  refine X.thenN ?_
  refine C.seq ?_
  refine C.region ?_
  refine St.get h rfl rfl rfl (G.fadr 1 rfl rfl Try.underlying67 rfl rfl Try.sizeOf24) fun a h => ?_
  refine St.get h rfl rfl rfl (G.ld 1 1 rfl rfl rfl rfl rfl Try.isAgg24) fun a h => ?_
  refine St.get h rfl rfl rfl (G.fadr 2 rfl rfl Try.underlying67 rfl rfl Try.sizeOf3) fun a h => ?_
  refine St.get h rfl rfl rfl (G.ld 1 2 rfl rfl rfl rfl rfl Try.isAgg3) fun a h => ?_
  refine St.get h rfl rfl rfl (G.build [(0, 1), (1, 1), (2, 1)] rfl rfl Try.zeroValue63 Try.underlying63 ⟨rfl, Try.sizeOf61, rfl, Try.sizeOf24, rfl, Try.sizeOf3, trivial⟩ rfl) fun a h => ?_
  replace h := h.conv (sl' := (_, .agg #[_, .slice _ _ _, .int _ _]) :: _) (L' := _) rfl rfl
  refine St.alloc h Try.zeroValue63 rfl rfl rfl rfl fun b3 a w h => ?_
  replace h := h.conv (sl' := _) (L' := [cells _ _ [_, _, _], cells _ _ [_, _, _], cells _ _ [_, _, _]]) rfl rfl
  refine St.put h rfl rfl (U.sta 0 0 rfl rfl rfl rfl rfl rfl (by decide) Try.sizeOf63 rfl) fun a w h => ?_
  replace h := h.conv (sl' := _) (L' := [cells _ _ [_, _, _], cells _ _ [_, _, _], cells _ _ [_, _, _]]) rfl rfl
  refine wpl_nil ?_
  refine X.thenN ?_
  refine C.seq ?_
  refine C.seq ?_
  refine C.region ?_
  refine St.get h rfl rfl rfl (G.assign rfl rfl) fun a h => ?_
  refine wpl_nil ?_
  refine X.thenN ?_
  refine C.block ?_
  refine C.loop (fun m t w => m = 0 ∧ St w0 S R 36 [(4, .int .i64 0), (3, .pointer (some ⟨b3, 0, none⟩)), (2, .pointer (some ⟨b2, 0, none⟩)), (1, .pointer (some ⟨b1, 0, none⟩))] [cells b3 0 [.slice none 0 0, .slice none 0 0, .int .i64 0], cells b2 0 [.slice none 0 0, .slice none 0 0, .int .i64 0], cells b1 0 [rlv none 0 0, rlv none 0 0, .int .i64 0]] t w) 0 ⟨rfl, h.sub ⟨rfl, rfl, rfl, rfl, trivial⟩⟩ ?_
  rintro m t w ⟨rfl, h⟩
  refine C.seq ?_
  refine C.seq ?_
  refine C.region ?_
  refine St.get h rfl rfl rfl (G.move rfl rfl) fun a h => ?_
  refine St.get h rfl rfl rfl (G.fadr 0 rfl rfl Try.underlying67 rfl rfl Try.sizeOf65) fun a h => ?_
  refine St.get h rfl rfl rfl (G.ld 2 0 rfl rfl rfl rfl rfl Try.isAgg65) fun a h => ?_
  refine St.get h rfl rfl rfl (G.lens rfl rfl Try.underlying65) fun a h => ?_
  refine St.get h rfl rfl rfl (G.bin rfl rfl rfl (B.lssF (by omega))) fun a h => ?_
  refine wpl_nil ?_
  refine X.thenN ?_
  refine St.condF h rfl ?_
  refine C.exit ?_
  refine X.thenE ?_
  refine X.thenE ?_
  refine X.blkE ?_
  refine X.thenN ?_
  refine C.seq ?_
  refine C.region ?_
  refine St.get h rfl rfl rfl (G.lda 0 0 3 rfl rfl rfl rfl rfl Try.isAgg63 Try.sizeOf63) fun a h => ?_
  replace h := h.conv (sl' := (_, .agg #[_, _, _]) :: _) (L' := _) rfl rfl
  refine St.put h rfl rfl (U.sta 1 0 rfl rfl rfl rfl rfl rfl (by decide) Try.sizeOf63 rfl) fun a w h => ?_
  replace h := h.conv (sl' := _) (L' := [cells _ _ [_, _, _], cells _ _ [_, _, _], cells _ _ [_, _, _]]) rfl rfl
  refine wpl_nil ?_
  refine X.thenN ?_
  refine C.ret ?_
  replace h := h.sel [1] rfl
  replace h := h.conv (sl' := _) (L' := [cells _ _ [_, _, _]]) rfl rfl
  exact h.retC Try.results26 rfl (Ent.refl _) Try.isAgg63 Try.sizeOf63 (⟨rfl, rfl⟩)
theorem Same15_nil : Meets Try.prog 25 #[.agg #[rlv none 0 0, rlv none 0 0, .int .i64 0], .agg #[rlv none 0 0, rlv none 0 0, .int .i64 0]] [] (Det (.bool true) []) := by
  refine Meets.of_code Try.func25 rfl Try.ntmps25 rfl fun w0 S R a h => ?_
  replace h := h.nilr encU64 none
  refine C.seq ?_
  refine C.region ?_
  refine St.box h rfl rfl rfl rfl rfl fun b1 a w h => ?_
  replace h := h.conv (sl' := _) (L' := [cells _ _ [_, _, _], _]) rfl rfl
  refine St.box h rfl rfl rfl rfl rfl fun b2 a w h => ?_
  replace h := h.conv (sl' := _) (L' := [cells _ _ [_, _, _], cells _ _ [_, _, _], _]) rfl rfl
  refine St.get h rfl rfl rfl (G.assign rfl rfl) fun a h => ?_
  refine wpl_nil ?_
  refine X.thenN ?_
  refine C.seq ?_
  refine C.seq ?_
  refine C.region ?_
  refine St.get h rfl rfl rfl (G.fadr 0 rfl rfl Try.underlying63 rfl rfl Try.sizeOf61) fun a h => ?_
  refine St.get h rfl rfl rfl (G.ld 1 0 rfl rfl rfl rfl rfl Try.isAgg61) fun a h => ?_
  refine St.get h rfl rfl rfl (G.lens rfl rfl Try.underlying61) fun a h => ?_
  refine St.get h rfl rfl rfl (G.fadr 0 rfl rfl Try.underlying63 rfl rfl Try.sizeOf61) fun a h => ?_
  refine St.get h rfl rfl rfl (G.ld 0 0 rfl rfl rfl rfl rfl Try.isAgg61) fun a h => ?_
  refine St.get h rfl rfl rfl (G.lens rfl rfl Try.underlying61) fun a h => ?_
  refine St.get h rfl rfl rfl (G.bin rfl rfl rfl (B.neqF (by omega))) fun a h => ?_
  refine St.get h rfl rfl rfl (G.move rfl rfl) fun a h => ?_
  refine St.guard_yes h rfl rfl rfl rfl rfl ?_
  refine St.get h rfl rfl rfl (G.fadr 1 rfl rfl Try.underlying63 rfl rfl Try.sizeOf24) fun a h => ?_
  refine St.guard_yes h rfl rfl rfl rfl rfl ?_
  refine St.get h rfl rfl rfl (G.ld 1 1 rfl rfl rfl rfl rfl Try.isAgg24) fun a h => ?_
  refine St.guard_yes h rfl rfl rfl rfl rfl ?_
  refine St.get h rfl rfl rfl (G.fadr 1 rfl rfl Try.underlying63 rfl rfl Try.sizeOf24) fun a h => ?_
  refine St.guard_yes h rfl rfl rfl rfl rfl ?_
  refine St.get h rfl rfl rfl (G.ld 0 1 rfl rfl rfl rfl rfl Try.isAgg24) fun a h => ?_
  refine St.guard_yes h rfl rfl rfl rfl rfl ?_
  refine St.callD h [] rfl (Ro.cons 2 rfl (rdl_ro _ _ _) (Ro.cons 2 rfl (rdl_ro _ _ _) (Ro.nil _))) ((SameU_spec none none 0 0 [] [])) rfl rfl rfl Try.call61 rfl rfl fun a w h => ?_
  replace h := h.conv (sl' := _) (L' := [cells _ _ [_, _, _], cells _ _ [_, _, _], _]) rfl rfl
  refine St.guard_yes h rfl rfl rfl rfl rfl ?_
  refine St.get h rfl rfl rfl (G.un rfl rfl B.not) fun a h => ?_
  refine St.get h rfl rfl rfl (G.pickF rfl rfl rfl) fun a h => ?_
  refine St.get h rfl rfl rfl (G.move rfl rfl) fun a h => ?_
  refine St.guard_yes h rfl rfl rfl rfl rfl ?_
  refine St.get h rfl rfl rfl (G.fadr 2 rfl rfl Try.underlying63 rfl rfl Try.sizeOf3) fun a h => ?_
  refine St.guard_yes h rfl rfl rfl rfl rfl ?_
  refine St.get h rfl rfl rfl (G.ld 1 2 rfl rfl rfl rfl rfl Try.isAgg3) fun a h => ?_
  refine St.guard_yes h rfl rfl rfl rfl rfl ?_
  refine St.get h rfl rfl rfl (G.fadr 2 rfl rfl Try.underlying63 rfl rfl Try.sizeOf3) fun a h => ?_
  refine St.guard_yes h rfl rfl rfl rfl rfl ?_
  refine St.get h rfl rfl rfl (G.ld 0 2 rfl rfl rfl rfl rfl Try.isAgg3) fun a h => ?_
  refine St.guard_yes h rfl rfl rfl rfl rfl ?_
  refine St.get h rfl rfl rfl (G.bin rfl rfl rfl (B.neqF (by omega))) fun a h => ?_
  refine St.get h rfl rfl rfl (G.pickF rfl rfl rfl) fun a h => ?_
  refine wpl_nil ?_
  refine X.thenN ?_
  refine St.condF h rfl ?_
  refine C.skip ?_
  refine X.thenN ?_
  refine C.seq ?_
  refine C.seq ?_
  refine C.region ?_
  refine St.get h rfl rfl rfl (G.assign rfl rfl) fun a h => ?_
  refine wpl_nil ?_
  refine X.thenN ?_
  refine C.block ?_
  refine C.loop (fun m t w => m = 0 ∧ St w0 S R 46 [(5, .int .i64 0), (3, .pointer (some ⟨b2, 0, none⟩)), (2, .pointer (some ⟨b1, 0, none⟩))] [cells b2 0 [rlv none 0 0, rlv none 0 0, .int .i64 0], cells b1 0 [rlv none 0 0, rlv none 0 0, .int .i64 0]] t w) 0 ⟨rfl, (h.sel [0, 1] rfl).sub ⟨rfl, rfl, rfl, trivial⟩⟩ ?_
  rintro m t w ⟨rfl, h⟩
  refine C.seq ?_
  refine C.seq ?_
  refine C.region ?_
  refine St.get h rfl rfl rfl (G.move rfl rfl) fun a h => ?_
  refine St.get h rfl rfl rfl (G.fadr 0 rfl rfl Try.underlying63 rfl rfl Try.sizeOf61) fun a h => ?_
  refine St.get h rfl rfl rfl (G.ld 1 0 rfl rfl rfl rfl rfl Try.isAgg61) fun a h => ?_
  refine St.get h rfl rfl rfl (G.lens rfl rfl Try.underlying61) fun a h => ?_
  refine St.get h rfl rfl rfl (G.bin rfl rfl rfl (B.lssF (by omega))) fun a h => ?_
  refine wpl_nil ?_
  refine X.thenN ?_
  refine St.condF h rfl ?_
  refine C.exit ?_
  refine X.thenE ?_
  refine X.thenE ?_
  refine X.blkE ?_
  refine X.thenN ?_
  refine C.seq ?_
  refine C.region ?_
  refine St.get h rfl rfl rfl (G.assign rfl rfl) fun a h => ?_
  refine wpl_nil ?_
  refine X.thenN ?_
  refine C.ret ?_
  replace h := h.sel [] rfl
  exact h.ret1 Try.results25 rfl (Ent.refl _) (⟨rfl, rfl⟩)
theorem ResNobody_spec (x : SO) (gl : Option Addr) (cl : Nat) (hl : x.L.length ≤ 9223372036854775807) : Meets Try.prog 5 #[.agg #[.int .i64 x.kind, .int .i64 x.work, .int .i64 x.key, .int .u64 x.val, rlv gl x.L.length cl]] [] (Det (.bool true) []) := by
  refine Meets.of_code Try.func5 rfl Try.ntmps5 rfl fun w0 S R a h => ?_
  replace h := h.nilr encCh none
  replace h := h.nilr encCh none
  refine C.seq ?_
  refine C.region ?_
  refine St.box h rfl rfl rfl rfl rfl fun b1 a w h => ?_
  replace h := h.conv (sl' := _) (L' := [cells _ _ [_, _, _, _, _], _, _]) rfl rfl
  refine St.get h rfl rfl rfl (G.assign rfl rfl) fun a h => ?_
  refine wpl_nil ?_
  refine X.thenN ?_
  refine C.seq ?_
  refine C.seq ?_
  refine C.region ?_
  refine St.get h rfl rfl rfl (G.fadr 4 rfl rfl Try.underlying54 rfl rfl Try.sizeOf23) fun a h => ?_
  refine St.get h rfl rfl rfl (G.ld 0 4 rfl rfl rfl rfl rfl Try.isAgg23) fun a h => ?_
  refine St.get h rfl rfl rfl (G.lens rfl rfl Try.underlying23) fun a h => ?_
  refine St.getP h rfl rfl rfl (G.bin rfl rfl rfl B.gtr) (fun hc a h => ?_) (fun hc a h => ?_)
  refine St.get h rfl rfl rfl (G.move rfl rfl) fun a h => ?_
  refine St.guard_no h rfl rfl rfl rfl rfl (by decide) rfl rfl fun a h => ?_
  refine St.guard_no h rfl rfl rfl rfl rfl (by decide) rfl rfl fun a h => ?_
  refine St.guard_no h rfl rfl rfl rfl rfl (by decide) rfl rfl fun a h => ?_
  refine St.get h rfl rfl rfl (G.pickT rfl rfl rfl) fun a h => ?_
  refine St.get h rfl rfl rfl (G.move rfl rfl) fun a h => ?_
  refine St.guard_no h rfl rfl rfl rfl rfl (by decide) rfl rfl fun a h => ?_
  refine St.guard_no h rfl rfl rfl rfl rfl (by decide) rfl rfl fun a h => ?_
  refine St.guard_no h rfl rfl rfl rfl rfl (by decide) rfl rfl fun a h => ?_
  refine St.get h rfl rfl rfl (G.pickT rfl rfl rfl) fun a h => ?_
  refine wpl_nil ?_
  refine X.thenN ?_
  refine St.condT h rfl ?_
  refine C.seq ?_
  refine C.region ?_
  rotate_left
  refine St.get h rfl rfl rfl (G.move rfl rfl) fun a h => ?_
  refine St.guard_yes h rfl rfl rfl rfl rfl ?_
  refine St.get h rfl rfl rfl (G.fadr 0 rfl rfl Try.underlying54 rfl rfl Try.sizeOf3) fun a h => ?_
  refine St.guard_yes h rfl rfl rfl rfl rfl ?_
  refine St.get h rfl rfl rfl (G.ld 0 0 rfl rfl rfl rfl rfl Try.isAgg3) fun a h => ?_
  refine St.guard_yes h rfl rfl rfl rfl rfl ?_
  refine St.getP h rfl rfl rfl (G.bin rfl rfl rfl B.lss) (fun hc1 a h => ?_) (fun hc1 a h => ?_)
  refine St.get h rfl rfl rfl (G.pickF rfl rfl rfl) fun a h => ?_
  refine St.get h rfl rfl rfl (G.move rfl rfl) fun a h => ?_
  refine St.guard_no h rfl rfl rfl rfl rfl (by decide) rfl rfl fun a h => ?_
  refine St.guard_no h rfl rfl rfl rfl rfl (by decide) rfl rfl fun a h => ?_
  refine St.guard_no h rfl rfl rfl rfl rfl (by decide) rfl rfl fun a h => ?_
  refine St.get h rfl rfl rfl (G.pickT rfl rfl rfl) fun a h => ?_
  refine wpl_nil ?_
  refine X.thenN ?_
  refine St.condT h rfl ?_
  refine C.seq ?_
  refine C.region ?_
  rotate_left
  refine St.get h rfl rfl rfl (G.pickF rfl rfl rfl) fun a h => ?_
  refine St.get h rfl rfl rfl (G.move rfl rfl) fun a h => ?_
  refine St.guard_yes h rfl rfl rfl rfl rfl ?_
  refine St.get h rfl rfl rfl (G.fadr 0 rfl rfl Try.underlying54 rfl rfl Try.sizeOf3) fun a h => ?_
  refine St.guard_yes h rfl rfl rfl rfl rfl ?_
  refine St.get h rfl rfl rfl (G.ld 0 0 rfl rfl rfl rfl rfl Try.isAgg3) fun a h => ?_
  refine St.guard_yes h rfl rfl rfl rfl rfl ?_
  refine St.getP h rfl rfl rfl (G.bin rfl rfl rfl B.gtr) (fun hc2 a h => ?_) (fun hc2 a h => ?_)
  refine St.get h rfl rfl rfl (G.pickF rfl rfl rfl) fun a h => ?_
  refine wpl_nil ?_
  refine X.thenN ?_
  refine St.condT h rfl ?_
  refine C.seq ?_
  refine C.region ?_
  rotate_left
  refine St.get h rfl rfl rfl (G.pickF rfl rfl rfl) fun a h => ?_
  refine wpl_nil ?_
  refine X.thenN ?_
  refine St.condF h rfl ?_
  refine C.skip ?_
  refine X.thenN ?_
  refine C.seq ?_
  refine C.region ?_
  refine St.get h rfl rfl rfl (G.assign rfl rfl) fun a h => ?_
  refine wpl_nil ?_
  refine X.thenN ?_
  refine C.seq ?_
  refine C.region ?_
  refine St.get h rfl rfl rfl (G.move rfl rfl) fun a h => ?_
  refine St.get h rfl rfl rfl (G.lda 0 0 5 rfl rfl rfl rfl rfl Try.isAgg54 Try.sizeOf54) fun a h => ?_
  replace h := h.conv (sl' := (_, .agg #[_, _, _, _, _]) :: _) (L' := _) rfl rfl
  rotate_left
  · refine St.callD h [] rfl (Ro.nil _) (alive15_spec) rfl rfl rfl Try.call17 rfl rfl fun a w h => ?_
    replace h := h.conv (sl' := _) (L' := [cells _ _ [_, _, _, _, _], _, _]) rfl rfl
    refine St.get h rfl rfl rfl (G.assign rfl rfl) fun a h => ?_
    refine wpl_nil ?_
    refine X.thenN ?_
    refine C.ret ?_
    refine X.thenR ?_
    replace h := h.sel [] rfl
    exact h.ret1 Try.results5 rfl (Ent.refl _) (⟨rfl, rfl⟩)
  · refine St.callD h [] rfl (Ro.nil _) (alive15_spec) rfl rfl rfl Try.call17 rfl rfl fun a w h => ?_
    replace h := h.conv (sl' := _) (L' := [cells _ _ [_, _, _, _, _], _, _]) rfl rfl
    refine St.get h rfl rfl rfl (G.assign rfl rfl) fun a h => ?_
    refine wpl_nil ?_
    refine X.thenN ?_
    refine C.ret ?_
    refine X.thenR ?_
    replace h := h.sel [] rfl
    exact h.ret1 Try.results5 rfl (Ent.refl _) (⟨rfl, rfl⟩)
  · refine St.callD h [] rfl (Ro.nil _) (alive15_spec) rfl rfl rfl Try.call17 rfl rfl fun a w h => ?_
    replace h := h.conv (sl' := _) (L' := [cells _ _ [_, _, _, _, _], _, _]) rfl rfl
    refine St.get h rfl rfl rfl (G.assign rfl rfl) fun a h => ?_
    refine wpl_nil ?_
    refine X.thenN ?_
    refine C.ret ?_
    refine X.thenR ?_
    replace h := h.sel [] rfl
    exact h.ret1 Try.results5 rfl (Ent.refl _) (⟨rfl, rfl⟩)
  · have e : (decide ((0 : Int) = 0) && (false == false) && sameC [] [] && decide ((6 : Int) = 6)) = true := rfl
    refine St.callD h [] rfl (Ro.nil _) ((call15_nil x gl cl (by omega) (by omega))) rfl rfl rfl Try.call22 rfl rfl fun a w h => ?_
    replace h := h.conv (sl' := _) (L' := [cells _ _ [_, _, _, _, _], _, _]) rfl rfl
    refine St.alloc h Try.zeroValue57 rfl rfl rfl rfl fun b2 a w h => ?_
    replace h := h.conv (sl' := _) (L' := [cells _ _ [_, _, _, _], cells _ _ [_, _, _, _, _], _, _]) rfl rfl
    refine St.put h rfl rfl (U.sta 0 0 rfl rfl rfl rfl rfl rfl (by decide) Try.sizeOf57 rfl) fun a w h => ?_
    replace h := h.conv (sl' := _) (L' := [cells _ _ [_, _, _, _], cells _ _ [_, _, _, _, _], _, _]) rfl rfl
    refine wpl_nil ?_
    refine X.thenN ?_
    refine C.seq ?_
    refine C.region ?_
    refine St.callD h [] rfl (Ro.nil _) (alive15_spec) rfl rfl rfl Try.call17 rfl rfl fun a w h => ?_
    replace h := h.conv (sl' := _) (L' := [cells _ _ [_, _, _, _], cells _ _ [_, _, _, _, _], _, _]) rfl rfl
    refine St.get h rfl rfl rfl (G.move rfl rfl) fun a h => ?_
    refine St.guard_yes h rfl rfl rfl rfl rfl ?_
    refine St.get h rfl rfl rfl (G.lda 0 0 4 rfl rfl rfl rfl rfl Try.isAgg57 Try.sizeOf57) fun a h => ?_
    replace h := h.conv (sl' := (_, .agg #[_, _, _, _]) :: _) (L' := _) rfl rfl
    refine St.guard_yes h rfl rfl rfl rfl rfl ?_
    refine St.get h rfl rfl rfl (G.build [(0, 1), (1, 1), (2, 1), (3, 1)] rfl rfl Try.zeroValue57 Try.underlying57 ⟨rfl, Try.sizeOf22, rfl, Try.sizeOf4, rfl, Try.sizeOf23, rfl, Try.sizeOf34, trivial⟩ rfl) fun a h => ?_
    replace h := h.conv (sl' := (_, .agg #[_, _, _, .int _ _]) :: _) (L' := _) rfl rfl
    refine St.guard_yes h rfl rfl rfl rfl rfl ?_
    refine St.callD h [] rfl (Ro.cons 2 rfl (rdl_ro _ _ _) (Ro.cons 2 rfl (rdl_ro _ _ _) (Ro.nil _))) ((same15_spec 0 0 false false none none 0 0 [] [] 6 6)) rfl rfl rfl Try.call23 rfl rfl fun a w h => ?_
    replace h := h.conv (sl' := _) (L' := [cells _ _ [_, _, _, _], cells _ _ [_, _, _, _, _], _, _]) rfl rfl
    rw [e] at h
    refine St.get h rfl rfl rfl (G.pickT rfl rfl rfl) fun a h => ?_
    refine St.get h rfl rfl rfl (G.move rfl rfl) fun a h => ?_
    refine St.guard_yes h rfl rfl rfl rfl rfl ?_
    refine St.get h rfl rfl rfl (G.move rfl rfl) fun a h => ?_
    refine St.guard_yes h rfl rfl rfl rfl rfl ?_
    refine St.get h rfl rfl rfl (G.fadr 1 rfl rfl Try.underlying54 rfl rfl Try.sizeOf3) fun a h => ?_
    refine St.guard_yes h rfl rfl rfl rfl rfl ?_
    refine St.get h rfl rfl rfl (G.ld 1 1 rfl rfl rfl rfl rfl Try.isAgg3) fun a h => ?_
    refine St.guard_yes h rfl rfl rfl rfl rfl ?_
    refine St.callD h [] rfl (Ro.nil _) ((SBusy_nil x.work)) rfl rfl rfl Try.call24 rfl rfl fun a w h => ?_
    replace h := h.conv (sl' := _) (L' := [cells _ _ [_, _, _, _], cells _ _ [_, _, _, _, _], _, _]) rfl rfl
    refine St.guard_yes h rfl rfl rfl rfl rfl ?_
    refine St.get h rfl rfl rfl (G.un rfl rfl B.not) fun a h => ?_
    refine St.get h rfl rfl rfl (G.pickT rfl rfl rfl) fun a h => ?_
    refine St.get h rfl rfl rfl (G.move rfl rfl) fun a h => ?_
    refine St.guard_yes h rfl rfl rfl rfl rfl ?_
    refine St.get h rfl rfl rfl (G.move rfl rfl) fun a h => ?_
    refine St.guard_yes h rfl rfl rfl rfl rfl ?_
    refine St.callD h [] rfl (Ro.nil _) (SImage_nil) rfl rfl rfl Try.call27 rfl rfl fun a w h => ?_
    replace h := h.conv (sl' := _) (L' := [cells _ _ [_, _, _, _], cells _ _ [_, _, _, _, _], _, _]) rfl rfl
    refine St.guard_yes h rfl rfl rfl rfl rfl ?_
    refine St.callD h [] rfl (Ro.nil _) (As_nil) rfl rfl rfl Try.call26 rfl rfl fun a w h => ?_
    replace h := h.conv (sl' := _) (L' := [cells _ _ [_, _, _, _], cells _ _ [_, _, _, _, _], _, _]) rfl rfl
    refine St.guard_yes h rfl rfl rfl rfl rfl ?_
    refine St.get h rfl rfl rfl (G.build [(0, 1), (1, 1), (2, 1)] rfl rfl Try.zeroValue63 Try.underlying63 ⟨rfl, Try.sizeOf61, rfl, Try.sizeOf24, rfl, Try.sizeOf3, trivial⟩ rfl) fun a h => ?_
    replace h := h.conv (sl' := (_, .agg #[_, _, _]) :: _) (L' := _) rfl rfl
    refine St.guard_yes h rfl rfl rfl rfl rfl ?_
    refine St.callD h [] rfl (Ro.nil _) (Same15_nil) rfl rfl rfl Try.call25 rfl rfl fun a w h => ?_
    replace h := h.conv (sl' := _) (L' := [cells _ _ [_, _, _, _], cells _ _ [_, _, _, _, _], _, _]) rfl rfl
    refine St.get h rfl rfl rfl (G.pickT rfl rfl rfl) fun a h => ?_
    refine St.get h rfl rfl rfl (G.assign rfl rfl) fun a h => ?_
    refine wpl_nil ?_
    refine X.thenN ?_
    refine C.ret ?_
    replace h := h.sel [] rfl
    exact h.ret1 Try.results5 rfl (Ent.refl _) (⟨rfl, rfl⟩)
end Go.Proofs.Ytllhegccpknncaa
