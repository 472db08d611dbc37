/-
  The table of locks: Take, Drop.
-/
import Derived.Test.YtllhegccpknncaaLmd
import Derived.Test.YtllhegccpknncaaSeat
set_option linter.unusedVariables false
set_option linter.unusedSimpArgs false
set_option linter.unusedSectionVars false
set_option maxRecDepth 8000
namespace Go.Proofs.Ytllhegccpknncaa
open Go.Tr
theorem LTake_spec (b o : Nat) (t : LT) (owner key : Int) (alone : Bool) (hl : t.length < 1000000) : Meets Try.prog 94 #[.pointer (some ⟨b, o, none⟩), .int .i64 owner, .int .i64 key, .bool alone] [LAt b o t]
    (Det (.int .i64 (takeL t owner key alone).1) [LAt b o (takeL t owner key alone).2]) := by
  refine Meets.of_code Try.func94 rfl Try.ntmps94 rfl fun w0 S R a h => ?_
  refine C.seq ?_
  refine C.region ?_
  refine St.get h rfl rfl rfl (G.assign rfl rfl) fun a h => ?_
  refine wpl_nil ?_
  refine X.thenN ?_
  refine C.seq ?_
  refine C.seq ?_
  refine C.region ?_
  refine St.get h rfl rfl rfl (G.move rfl rfl) fun a h => ?_
  refine St.get h rfl rfl rfl (G.bin rfl rfl rfl (B.peql Try.underlying156 _)) fun a h => ?_
  refine wpl_nil ?_
  refine X.thenN ?_
  refine St.condF h rfl ?_
  refine C.skip ?_
  refine X.thenN ?_
  refine C.seq ?_
  refine C.region ?_
  refine St.get h rfl rfl rfl (G.move rfl rfl) fun a h => ?_
  refine St.get h rfl rfl rfl (G.move rfl rfl) fun a h => ?_
  refine St.get h rfl rfl rfl (G.build [(0, 1), (1, 1)] rfl rfl Try.zeroValue158 Try.underlying158 ⟨rfl, Try.sizeOf3, rfl, Try.sizeOf3, trivial⟩ rfl) fun a h => ?_
  replace h := h.conv (sl' := (_, .agg #[.int _ _, .int _ _]) :: _) (L' := _) rfl rfl
  refine St.alloc h Try.zeroValue158 rfl rfl rfl rfl fun b1 a w h => ?_
  replace h := h.conv (sl' := _) (L' := [cells _ _ [_, _], _]) rfl rfl
  refine St.put h rfl rfl (U.sta 0 0 rfl rfl rfl rfl rfl rfl (by simp [Value.oneCell']) Try.sizeOf158 rfl) fun a w h => ?_
  replace h := h.conv (sl' := _) (L' := [cells _ _ [_, _], _]) rfl rfl
  refine wpl_nil ?_
  refine X.thenN ?_
  refine C.seq ?_
  refine C.still Try_mixed h (by decide +kernel) fun w h => ?_
  refine St.getS h rfl rfl rfl (G.move rfl rfl) fun a h => ?_
  refine St.getS h rfl rfl rfl (G.nilc rfl rfl) fun a h => ?_
  refine St.getS h rfl rfl rfl (G.fadr 0 rfl rfl Try.underlying105 rfl rfl Try.sizeOf103) fun a h => ?_
  obtain ⟨A, h⟩ := h.openL 1 rfl
  have hnd2 : (t.map Prod.fst).Nodup := h.tell1 1 rfl fun _ _ _ hh => (mapl_told hh).2
  obtain ⟨T, hT⟩ : ∃ x, takeL t owner key alone = x := ⟨_, rfl⟩
  rw [hT]
  rw [takeL] at hT
  replace h := h.conv (sl' := _) (L' := [cells _ _ [_], _, cells _ _ [_, _]]) rfl rfl
  refine St.getS h rfl rfl rfl (G.ld 0 0 rfl rfl rfl rfl rfl Try.isAgg103) fun a h => ?_
  refine St.getS h rfl rfl rfl (G.lda 2 0 2 rfl rfl rfl rfl rfl Try.isAgg158 Try.sizeOf158) fun a h => ?_
  replace h := h.conv (sl' := (_, .agg #[_, _]) :: _) (L' := _) rfl rfl
  refine St.getS h rfl rfl rfl (G.lookBk (k := (key, owner)) 1 rfl rfl rfl rfl Try.underlying103 Try.zeroValue4) fun a h => ?_
  refine St.getS h rfl rfl rfl (G.move rfl rfl) fun a h => ?_
  refine St.getS h rfl rfl rfl (G.extract rfl rfl rfl) fun a h => ?_
  refine St.getS h rfl rfl rfl (G.extract rfl rfl rfl) fun a h => ?_
  refine St.getS h rfl rfl rfl (G.assign rfl rfl) fun a h => ?_
  refine St.getS h rfl rfl rfl (G.assign rfl rfl) fun a h => ?_
  refine wps_nil ?_
  refine X.thenN ?_
  refine C.seq ?_
  refine C.seq ?_
  refine C.region ?_
  refine St.get h rfl rfl rfl (G.move rfl rfl) fun a h => ?_
  refine St.get h rfl rfl rfl (G.nilc rfl rfl) fun a h => ?_
  refine St.get h rfl rfl rfl (G.fadr 0 rfl rfl Try.underlying105 rfl rfl Try.sizeOf103) fun a h => ?_
  refine St.get h rfl rfl rfl (G.ld 0 0 rfl rfl rfl rfl rfl Try.isAgg103) fun a h => ?_
  refine St.mrange h 1 rfl rfl rfl Try.underlying103 rfl rfl rfl fun it1 a w h => ?_
  replace h := h.conv (sl' := _) (L' := [_, cells _ _ [_], cells _ _ [_, _]]) rfl rfl
  refine wpl_nil ?_
  refine X.thenN ?_
  refine C.block ?_
  refine C.loop (fun m a w => ∃ done cur, m = left t done ∧ (∀ p, p ∈ t → p.1 ∈ done → ¬ clashP owner key (alone || wasL t owner key) p) ∧ St w0 S R 85 [(0, .pointer (some ⟨b, o, none⟩)), (1, .int .i64 owner), (2, .int .i64 key), (3, .bool alone), (9, .pointer (some ⟨b1, 0, none⟩)), (10, .bool (wasL t owner key)), (11, .bool (getM (key, owner) t).isSome), (32, .pointer (some ⟨it1, 0, none⟩))]
    [mapit keyLock Value.bool A it1 t done cur, cells b o [.map A], cells b1 0 [.int .i64 key, .int .i64 owner]] a w) (left t []) ⟨[], none, rfl, fun p _ h => by simp at h, h.sub ⟨rfl, rfl, rfl, rfl, rfl, rfl, rfl, rfl, trivial⟩⟩ ?_
  rintro m a w ⟨done, cur, rfl, hno, h⟩
  refine C.seq ?_
  refine C.region ?_
  refine St.mnext h 0 rfl rfl rfl rfl rfl rfl (fun hall a w h => ?_) (fun p hmem hnd a w h => ?_)
  · replace h := h.conv (sl' := _) (L' := [_, cells _ _ [_], cells _ _ [_, _]]) rfl rfl
    replace h := h.fold [0] rfl ((stars_of_one (mapit_mapl keyLock Value.bool A it1 t done none)))
    replace h := h.conv (sl' := _) (L' := [_, cells _ _ [_], cells _ _ [_, _]]) rfl rfl
    have hnc : ¬ (t.any fun p => decide (clashP owner key (alone || wasL t owner key) p)) = true := by
      intro hx
      obtain ⟨p, hp, hcl⟩ := List.any_eq_true.1 hx
      exact hno p hp (hall p hp) (of_decide_eq_true hcl)
    rw [if_neg hnc] at hT
    rcases A with _ | m0
    · have ht : t = [] := h.tell1 0 rfl fun _ _ _ hh => (mapl_told hh).1 rfl
      subst ht
      rw [if_neg (by simp)] at hT
      subst hT
      have hl0 : ((List.length ([] : LT) : Nat) : Int) = 0 := rfl
      refine St.get h rfl rfl rfl (G.extract rfl rfl rfl) fun a h => ?_
      refine wpl_nil ?_
      refine X.thenN ?_
      refine C.seq ?_
      refine St.condF h rfl ?_
      refine C.exit ?_
      refine X.thenE ?_
      refine X.thenE ?_
      refine X.blkE ?_
      refine X.thenN ?_
      refine C.seq ?_
      refine C.seq ?_
      refine C.region ?_
      refine St.get h rfl rfl rfl (G.move rfl rfl) fun a h => ?_
      refine St.get h rfl rfl rfl (G.un rfl rfl B.not) fun a h => ?_
      refine St.get h rfl rfl rfl (G.move rfl rfl) fun a h => ?_
      refine St.guard_yes h rfl rfl rfl rfl rfl ?_
      refine St.get h rfl rfl rfl (G.move rfl rfl) fun a h => ?_
      refine St.guard_yes h rfl rfl rfl rfl rfl ?_
      refine St.get h rfl rfl rfl (G.nilc rfl rfl) fun a h => ?_
      refine St.guard_yes h rfl rfl rfl rfl rfl ?_
      refine St.get h rfl rfl rfl (G.fadr 0 rfl rfl Try.underlying105 rfl rfl Try.sizeOf103) fun a h => ?_
      refine St.guard_yes h rfl rfl rfl rfl rfl ?_
      refine St.get h rfl rfl rfl (G.ld 1 0 rfl rfl rfl rfl rfl Try.isAgg103) fun a h => ?_
      refine St.guard_yes h rfl rfl rfl rfl rfl ?_
      refine St.get h rfl rfl rfl (G.lenm 0 rfl rfl rfl Try.underlying103) fun a h => ?_
      refine St.guard_yes h rfl rfl rfl rfl rfl ?_
      refine St.get h rfl rfl rfl (G.bin rfl rfl rfl (B.geqF (by omega))) fun a h => ?_
      refine St.get h rfl rfl rfl (G.pickT rfl rfl rfl) fun a h => ?_
      refine wpl_nil ?_
      refine X.thenN ?_
      refine St.condF h rfl ?_
      refine C.skip ?_
      refine X.thenN ?_
      refine C.seq ?_
      refine C.seq ?_
      refine C.region ?_
      refine St.get h rfl rfl rfl (G.move rfl rfl) fun a h => ?_
      refine St.get h rfl rfl rfl (G.nilc rfl rfl) fun a h => ?_
      refine St.get h rfl rfl rfl (G.fadr 0 rfl rfl Try.underlying105 rfl rfl Try.sizeOf103) fun a h => ?_
      refine St.get h rfl rfl rfl (G.ld 1 0 rfl rfl rfl rfl rfl Try.isAgg103) fun a h => ?_
      refine St.get h rfl rfl rfl (G.bin rfl rfl rfl (B.meql Try.underlying103 _)) fun a h => ?_
      refine wpl_nil ?_
      refine X.thenN ?_
      refine St.condT h rfl ?_
      refine C.region ?_
      refine St.get h rfl rfl rfl (G.move rfl rfl) fun a h => ?_
      refine St.mkmap h (keyLock) (Value.bool) rfl rfl rfl rfl fun m1 a w h => ?_
      refine St.get h rfl rfl rfl (G.nilc rfl rfl) fun a h => ?_
      refine St.get h rfl rfl rfl (G.fadr 0 rfl rfl Try.underlying105 rfl rfl Try.sizeOf103) fun a h => ?_
      refine St.put h rfl rfl (U.st 2 0 rfl rfl rfl rfl rfl rfl rfl Try.sizeOf103) fun a w h => ?_
      replace h := h.conv (sl' := _) (L' := [_, _, cells _ _ [_], cells _ _ [_, _]]) rfl rfl
      refine wpl_nil ?_
      refine X.thenN ?_
      refine C.seq ?_
      refine C.stillTail Try_mixed 9 h (by decide +kernel) fun w h => ?_
      refine St.getS h rfl rfl rfl (G.move rfl rfl) fun a h => ?_
      refine St.getS h rfl rfl rfl (G.nilc rfl rfl) fun a h => ?_
      refine St.getS h rfl rfl rfl (G.fadr 0 rfl rfl Try.underlying105 rfl rfl Try.sizeOf103) fun a h => ?_
      refine St.getS h rfl rfl rfl (G.ld 2 0 rfl rfl rfl rfl rfl Try.isAgg103) fun a h => ?_
      refine St.getS h rfl rfl rfl (G.lda 3 0 2 rfl rfl rfl rfl rfl Try.isAgg158 Try.sizeOf158) fun a h => ?_
      replace h := h.conv (sl' := (_, .agg #[_, _]) :: _) (L' := _) rfl rfl
      refine St.getS h rfl rfl rfl (G.move rfl rfl) fun a h => ?_
      refine St.getS h rfl rfl rfl (G.move rfl rfl) fun a h => ?_
      refine St.guardS_yes h rfl rfl rfl rfl rfl ?_
      refine St.getS h rfl rfl rfl (G.move rfl rfl) fun a h => ?_
      refine St.getS h rfl rfl rfl (G.pickF rfl rfl rfl) fun a h => ?_
      refine wps_nil ?_
      refine St.mput (k := (key, owner)) h 0 rfl rfl rfl rfl rfl Try.underlying103 rfl rfl fun a w h => ?_
      replace h := h.conv (sl' := _) (L' := [_, _, cells _ _ [_], cells _ _ [_, _]]) rfl rfl
      refine wpl_nil ?_
      refine X.thenN ?_
      refine C.seq ?_
      refine C.region ?_
      refine St.get h rfl rfl rfl (G.assign rfl rfl) fun a h => ?_
      refine wpl_nil ?_
      refine X.thenN ?_
      refine C.ret ?_
      replace h := h.fold [2, 0] rfl ((LAt_mk b o (putM (key, owner) alone []) (some m1)))
      replace h := h.conv (sl' := _) (L' := [_, _, cells _ _ [_, _]]) rfl rfl
      replace h := h.sel [0] rfl
      replace h := h.conv (sl' := _) (L' := [_]) rfl rfl
      exact h.ret1 Try.results94 rfl (Ent.refl _) (⟨rfl, rfl⟩)
    · refine St.get h rfl rfl rfl (G.extract rfl rfl rfl) fun a h => ?_
      refine wpl_nil ?_
      refine X.thenN ?_
      refine C.seq ?_
      refine St.condF h rfl ?_
      refine C.exit ?_
      refine X.thenE ?_
      refine X.thenE ?_
      refine X.blkE ?_
      refine X.thenN ?_
      refine C.seq ?_
      refine C.seq ?_
      refine C.region ?_
      refine St.get h rfl rfl rfl (G.move rfl rfl) fun a h => ?_
      refine St.get h rfl rfl rfl (G.un rfl rfl B.not) fun a h => ?_
      refine St.get h rfl rfl rfl (G.move rfl rfl) fun a h => ?_
      refine St.split h 59 rfl (fun hc h => ?_) (fun hc h => ?_)
      refine St.guard_yes h rfl rfl rfl rfl rfl ?_
      refine St.get h rfl rfl rfl (G.move rfl rfl) fun a h => ?_
      refine St.guard_yes h rfl rfl rfl rfl rfl ?_
      refine St.get h rfl rfl rfl (G.nilc rfl rfl) fun a h => ?_
      refine St.guard_yes h rfl rfl rfl rfl rfl ?_
      refine St.get h rfl rfl rfl (G.fadr 0 rfl rfl Try.underlying105 rfl rfl Try.sizeOf103) fun a h => ?_
      refine St.guard_yes h rfl rfl rfl rfl rfl ?_
      refine St.get h rfl rfl rfl (G.ld 1 0 rfl rfl rfl rfl rfl Try.isAgg103) fun a h => ?_
      refine St.guard_yes h rfl rfl rfl rfl rfl ?_
      refine St.get h rfl rfl rfl (G.lenm 0 rfl rfl rfl Try.underlying103) fun a h => ?_
      refine St.guard_yes h rfl rfl rfl rfl rfl ?_
      refine St.getP h rfl rfl rfl (G.bin rfl rfl rfl B.geq) (fun hc1 a h => ?_) (fun hc1 a h => ?_)
      refine St.get h rfl rfl rfl (G.pickT rfl rfl rfl) fun a h => ?_
      refine wpl_nil ?_
      refine X.thenN ?_
      refine St.condT h rfl ?_
      refine C.seq ?_
      refine C.region ?_
      refine St.get h rfl rfl rfl (G.assign rfl rfl) fun a h => ?_
      refine wpl_nil ?_
      refine X.thenN ?_
      refine C.ret ?_
      refine X.thenR ?_
      rotate_left
      refine St.get h rfl rfl rfl (G.pickT rfl rfl rfl) fun a h => ?_
      refine wpl_nil ?_
      refine X.thenN ?_
      refine St.condF h rfl ?_
      refine C.skip ?_
      refine X.thenN ?_
      refine C.seq ?_
      refine C.seq ?_
      refine C.region ?_
      refine St.get h rfl rfl rfl (G.move rfl rfl) fun a h => ?_
      refine St.get h rfl rfl rfl (G.nilc rfl rfl) fun a h => ?_
      refine St.get h rfl rfl rfl (G.fadr 0 rfl rfl Try.underlying105 rfl rfl Try.sizeOf103) fun a h => ?_
      refine St.get h rfl rfl rfl (G.ld 1 0 rfl rfl rfl rfl rfl Try.isAgg103) fun a h => ?_
      refine St.get h rfl rfl rfl (G.bin rfl rfl rfl (B.meql Try.underlying103 _)) fun a h => ?_
      refine wpl_nil ?_
      refine X.thenN ?_
      refine St.condF h rfl ?_
      refine C.skip ?_
      refine X.thenN ?_
      refine C.seq ?_
      refine C.stillTail Try_mixed 9 h (by decide +kernel) fun w h => ?_
      refine St.getS h rfl rfl rfl (G.move rfl rfl) fun a h => ?_
      refine St.getS h rfl rfl rfl (G.nilc rfl rfl) fun a h => ?_
      refine St.getS h rfl rfl rfl (G.fadr 0 rfl rfl Try.underlying105 rfl rfl Try.sizeOf103) fun a h => ?_
      refine St.getS h rfl rfl rfl (G.ld 1 0 rfl rfl rfl rfl rfl Try.isAgg103) fun a h => ?_
      refine St.getS h rfl rfl rfl (G.lda 2 0 2 rfl rfl rfl rfl rfl Try.isAgg158 Try.sizeOf158) fun a h => ?_
      replace h := h.conv (sl' := (_, .agg #[_, _]) :: _) (L' := _) rfl rfl
      refine St.getS h rfl rfl rfl (G.move rfl rfl) fun a h => ?_
      refine St.getS h rfl rfl rfl (G.move rfl rfl) fun a h => ?_
      refine St.split h 82 rfl (fun hc2 h => ?_) (fun hc2 h => ?_)
      refine St.guardS_no h rfl rfl rfl rfl rfl (by decide) rfl rfl fun a h => ?_
      refine St.getS h rfl rfl rfl (G.pickT rfl rfl rfl) fun a h => ?_
      refine wps_nil ?_
      refine St.mput (k := (key, owner)) h 0 rfl rfl rfl rfl rfl Try.underlying103 rfl rfl fun a w h => ?_
      replace h := h.conv (sl' := _) (L' := [_, cells _ _ [_], cells _ _ [_, _]]) rfl rfl
      refine wpl_nil ?_
      refine X.thenN ?_
      refine C.seq ?_
      refine C.region ?_
      refine St.get h rfl rfl rfl (G.assign rfl rfl) fun a h => ?_
      refine wpl_nil ?_
      refine X.thenN ?_
      refine C.ret ?_
      rotate_left
      refine St.guardS_yes h rfl rfl rfl rfl rfl ?_
      refine St.getS h rfl rfl rfl (G.move rfl rfl) fun a h => ?_
      refine St.getS h rfl rfl rfl (G.pickF rfl rfl rfl) fun a h => ?_
      refine wps_nil ?_
      refine St.mput (k := (key, owner)) h 0 rfl rfl rfl rfl rfl Try.underlying103 rfl rfl fun a w h => ?_
      replace h := h.conv (sl' := _) (L' := [_, cells _ _ [_], cells _ _ [_, _]]) rfl rfl
      refine wpl_nil ?_
      refine X.thenN ?_
      refine C.seq ?_
      refine C.region ?_
      refine St.get h rfl rfl rfl (G.assign rfl rfl) fun a h => ?_
      refine wpl_nil ?_
      refine X.thenN ?_
      refine C.ret ?_
      rotate_left
      refine St.guard_no h rfl rfl rfl rfl rfl (by decide) rfl rfl fun a h => ?_
      refine St.guard_no h rfl rfl rfl rfl rfl (by decide) rfl rfl fun a h => ?_
      refine St.guard_no h rfl rfl rfl rfl rfl (by decide) rfl rfl fun a h => ?_
      refine St.guard_no h rfl rfl rfl rfl rfl (by decide) rfl rfl fun a h => ?_
      refine St.guard_no h rfl rfl rfl rfl rfl (by decide) rfl rfl fun a h => ?_
      refine St.guard_no h rfl rfl rfl rfl rfl (by decide) rfl rfl fun a h => ?_
      refine St.get h rfl rfl rfl (G.pickF rfl rfl rfl) fun a h => ?_
      refine wpl_nil ?_
      refine X.thenN ?_
      refine St.condF h rfl ?_
      refine C.skip ?_
      refine X.thenN ?_
      refine C.seq ?_
      refine C.seq ?_
      refine C.region ?_
      refine St.get h rfl rfl rfl (G.move rfl rfl) fun a h => ?_
      refine St.get h rfl rfl rfl (G.nilc rfl rfl) fun a h => ?_
      refine St.get h rfl rfl rfl (G.fadr 0 rfl rfl Try.underlying105 rfl rfl Try.sizeOf103) fun a h => ?_
      refine St.get h rfl rfl rfl (G.ld 1 0 rfl rfl rfl rfl rfl Try.isAgg103) fun a h => ?_
      refine St.get h rfl rfl rfl (G.bin rfl rfl rfl (B.meql Try.underlying103 _)) fun a h => ?_
      refine wpl_nil ?_
      refine X.thenN ?_
      refine St.condF h rfl ?_
      refine C.skip ?_
      refine X.thenN ?_
      refine C.seq ?_
      refine C.stillTail Try_mixed 9 h (by decide +kernel) fun w h => ?_
      refine St.getS h rfl rfl rfl (G.move rfl rfl) fun a h => ?_
      refine St.getS h rfl rfl rfl (G.nilc rfl rfl) fun a h => ?_
      refine St.getS h rfl rfl rfl (G.fadr 0 rfl rfl Try.underlying105 rfl rfl Try.sizeOf103) fun a h => ?_
      refine St.getS h rfl rfl rfl (G.ld 1 0 rfl rfl rfl rfl rfl Try.isAgg103) fun a h => ?_
      refine St.getS h rfl rfl rfl (G.lda 2 0 2 rfl rfl rfl rfl rfl Try.isAgg158 Try.sizeOf158) fun a h => ?_
      replace h := h.conv (sl' := (_, .agg #[_, _]) :: _) (L' := _) rfl rfl
      refine St.getS h rfl rfl rfl (G.move rfl rfl) fun a h => ?_
      refine St.getS h rfl rfl rfl (G.move rfl rfl) fun a h => ?_
      refine St.split h 82 rfl (fun hc1 h => ?_) (fun hc1 h => ?_)
      refine St.guardS_no h rfl rfl rfl rfl rfl (by decide) rfl rfl fun a h => ?_
      refine St.getS h rfl rfl rfl (G.pickT rfl rfl rfl) fun a h => ?_
      refine wps_nil ?_
      refine St.mput (k := (key, owner)) h 0 rfl rfl rfl rfl rfl Try.underlying103 rfl rfl fun a w h => ?_
      replace h := h.conv (sl' := _) (L' := [_, cells _ _ [_], cells _ _ [_, _]]) rfl rfl
      refine wpl_nil ?_
      refine X.thenN ?_
      refine C.seq ?_
      refine C.region ?_
      refine St.get h rfl rfl rfl (G.assign rfl rfl) fun a h => ?_
      refine wpl_nil ?_
      refine X.thenN ?_
      refine C.ret ?_
      rotate_left
      refine St.guardS_yes h rfl rfl rfl rfl rfl ?_
      refine St.getS h rfl rfl rfl (G.move rfl rfl) fun a h => ?_
      refine St.getS h rfl rfl rfl (G.pickF rfl rfl rfl) fun a h => ?_
      refine wps_nil ?_
      refine St.mput (k := (key, owner)) h 0 rfl rfl rfl rfl rfl Try.underlying103 rfl rfl fun a w h => ?_
      replace h := h.conv (sl' := _) (L' := [_, cells _ _ [_], cells _ _ [_, _]]) rfl rfl
      refine wpl_nil ?_
      refine X.thenN ?_
      refine C.seq ?_
      refine C.region ?_
      refine St.get h rfl rfl rfl (G.assign rfl rfl) fun a h => ?_
      refine wpl_nil ?_
      refine X.thenN ?_
      refine C.ret ?_
      rotate_left
      · rw [if_pos ⟨by simpa using hc, by omega⟩] at hT
        subst hT
        replace h := h.fold [1, 0] rfl ((LAt_mk b o t (some m0)))
        replace h := h.conv (sl' := _) (L' := [_, cells _ _ [_, _]]) rfl rfl
        replace h := h.sel [0] rfl
        replace h := h.conv (sl' := _) (L' := [_]) rfl rfl
        exact h.ret1 Try.results94 rfl (Ent.refl _) (⟨rfl, rfl⟩)
      · rw [if_neg (fun ⟨_, h2⟩ => hc1 (by omega)), hc2, Bool.true_or] at hT
        subst hT
        replace h := h.fold [1, 0] rfl ((LAt_mk b o (putM (key, owner) true t) (some m0)))
        replace h := h.conv (sl' := _) (L' := [_, cells _ _ [_, _]]) rfl rfl
        replace h := h.sel [0] rfl
        replace h := h.conv (sl' := _) (L' := [_]) rfl rfl
        exact h.ret1 Try.results94 rfl (Ent.refl _) (⟨rfl, rfl⟩)
      · rw [if_neg (fun ⟨_, h2⟩ => hc1 (by omega)), hc2, Bool.false_or] at hT
        subst hT
        replace h := h.fold [1, 0] rfl ((LAt_mk b o (putM (key, owner) alone t) (some m0)))
        replace h := h.conv (sl' := _) (L' := [_, cells _ _ [_, _]]) rfl rfl
        replace h := h.sel [0] rfl
        replace h := h.conv (sl' := _) (L' := [_]) rfl rfl
        exact h.ret1 Try.results94 rfl (Ent.refl _) (⟨rfl, rfl⟩)
      · rw [if_neg (fun ⟨h1, _⟩ => by simp at hc; simp [Option.isNone_iff_eq_none] at h1; rw [h1] at hc; cases hc), hc1, Bool.true_or] at hT
        subst hT
        replace h := h.fold [1, 0] rfl ((LAt_mk b o (putM (key, owner) true t) (some m0)))
        replace h := h.conv (sl' := _) (L' := [_, cells _ _ [_, _]]) rfl rfl
        replace h := h.sel [0] rfl
        replace h := h.conv (sl' := _) (L' := [_]) rfl rfl
        exact h.ret1 Try.results94 rfl (Ent.refl _) (⟨rfl, rfl⟩)
      · rw [if_neg (fun ⟨h1, _⟩ => by simp at hc; simp [Option.isNone_iff_eq_none] at h1; rw [h1] at hc; cases hc), hc1, Bool.false_or] at hT
        subst hT
        replace h := h.fold [1, 0] rfl ((LAt_mk b o (putM (key, owner) alone t) (some m0)))
        replace h := h.conv (sl' := _) (L' := [_, cells _ _ [_, _]]) rfl rfl
        replace h := h.sel [0] rfl
        replace h := h.conv (sl' := _) (L' := [_]) rfl rfl
        exact h.ret1 Try.results94 rfl (Ent.refl _) (⟨rfl, rfl⟩)
  · have hcl : clashP owner key (alone || wasL t owner key) p → T = (120, t) := fun h => by
      rw [← hT, if_pos (List.any_eq_true.2 ⟨p, hmem, decide_eq_true h⟩)]
    have hgo : ¬ clashP owner key (alone || wasL t owner key) p → ∀ q, q ∈ t → q.1 ∈ p.1 :: done → ¬ clashP owner key (alone || wasL t owner key) q := fun hn q hq hd => by
      rcases List.mem_cons.1 hd with he | hd
      · have : q = p := by
          have h1 := getM_of_mem hnd2 hq
          have h2 := getM_of_mem hnd2 hmem
          rw [he] at h1
          rw [h1] at h2
          exact Prod.ext he (by injection h2)
        rw [this]; exact hn
      · exact hno q hq hd
    have hlt := left_lt hnd hmem
    replace h := h.conv (sl' := _) (L' := [_, cells _ _ [_], cells _ _ [_, _]]) rfl rfl
    refine St.get h rfl rfl rfl (G.extract rfl rfl rfl) fun a h => ?_
    refine wpl_nil ?_
    refine X.thenN ?_
    refine C.seq ?_
    refine St.condT h rfl ?_
    refine C.skip ?_
    refine X.thenN ?_
    refine C.block ?_
    refine C.seq ?_
    refine C.region ?_
    refine St.get h rfl rfl rfl (G.mentry 0 rfl (by assumption) rfl rfl) fun a h => ?_
    refine St.get h rfl rfl rfl (G.extract rfl rfl rfl) fun a h => ?_
    refine St.get h rfl rfl rfl (G.extract rfl rfl rfl) fun a h => ?_
    refine St.alloc h Try.zeroValue158 rfl rfl rfl rfl fun b2 a w h => ?_
    replace h := h.conv (sl' := _) (L' := [cells _ _ [_, _], _, cells _ _ [_], cells _ _ [_, _]]) rfl rfl
    refine St.put h rfl rfl (U.sta 0 0 rfl rfl rfl rfl rfl rfl (by simp [Value.oneCell']) Try.sizeOf158 rfl) fun a w h => ?_
    replace h := h.conv (sl' := _) (L' := [cells _ _ [_, _], _, cells _ _ [_], cells _ _ [_, _]]) rfl rfl
    refine St.get h rfl rfl rfl (G.assign rfl rfl) fun a h => ?_
    refine wpl_nil ?_
    refine X.thenN ?_
    refine C.seq ?_
    refine C.region ?_
    refine St.get h rfl rfl rfl (G.fadr 0 rfl rfl Try.underlying158 rfl rfl Try.sizeOf3) fun a h => ?_
    refine St.get h rfl rfl rfl (G.ld 0 0 rfl rfl rfl rfl rfl Try.isAgg3) fun a h => ?_
    refine St.get h rfl rfl rfl (G.move rfl rfl) fun a h => ?_
    refine St.getP h rfl rfl rfl (G.bin rfl rfl rfl B.eql) (fun hc a h => ?_) (fun hc a h => ?_)
    refine St.get h rfl rfl rfl (G.move rfl rfl) fun a h => ?_
    refine St.guard_yes h rfl rfl rfl rfl rfl ?_
    refine St.get h rfl rfl rfl (G.fadr 1 rfl rfl Try.underlying158 rfl rfl Try.sizeOf3) fun a h => ?_
    refine St.guard_yes h rfl rfl rfl rfl rfl ?_
    refine St.get h rfl rfl rfl (G.ld 0 1 rfl rfl rfl rfl rfl Try.isAgg3) fun a h => ?_
    refine St.guard_yes h rfl rfl rfl rfl rfl ?_
    refine St.get h rfl rfl rfl (G.move rfl rfl) fun a h => ?_
    refine St.guard_yes h rfl rfl rfl rfl rfl ?_
    refine St.getP h rfl rfl rfl (G.bin rfl rfl rfl B.neq) (fun hc1 a h => ?_) (fun hc1 a h => ?_)
    refine St.get h rfl rfl rfl (G.pickT rfl rfl rfl) fun a h => ?_
    refine St.get h rfl rfl rfl (G.move rfl rfl) fun a h => ?_
    refine St.guard_yes h rfl rfl rfl rfl rfl ?_
    refine St.get h rfl rfl rfl (G.move rfl rfl) fun a h => ?_
    refine St.guard_yes h rfl rfl rfl rfl rfl ?_
    refine St.get h rfl rfl rfl (G.move rfl rfl) fun a h => ?_
    refine St.split h 50 rfl (fun hc2 h => ?_) (fun hc2 h => ?_)
    refine St.guard_no h rfl rfl rfl rfl rfl (by decide) rfl rfl fun a h => ?_
    refine St.guard_yes h rfl rfl rfl rfl rfl ?_
    refine St.get h rfl rfl rfl (G.pickT rfl rfl rfl) fun a h => ?_
    refine St.guard_yes h rfl rfl rfl rfl rfl ?_
    refine St.get h rfl rfl rfl (G.move rfl rfl) fun a h => ?_
    refine St.guard_no h rfl rfl rfl rfl rfl (by decide) rfl rfl fun a h => ?_
    refine St.guard_yes h rfl rfl rfl rfl rfl ?_
    refine St.get h rfl rfl rfl (G.pickT rfl rfl rfl) fun a h => ?_
    refine St.get h rfl rfl rfl (G.pickT rfl rfl rfl) fun a h => ?_
    refine wpl_nil ?_
    refine X.thenN ?_
    refine St.condT h rfl ?_
    refine C.seq ?_
    refine C.region ?_
    refine St.get h rfl rfl rfl (G.assign rfl rfl) fun a h => ?_
    refine wpl_nil ?_
    refine X.thenN ?_
    refine C.ret ?_
    refine X.blkR ?_
    refine X.thenR ?_
    refine X.blkR ?_
    refine X.thenR ?_
    rotate_left
    refine St.guard_yes h rfl rfl rfl rfl rfl ?_
    refine St.get h rfl rfl rfl (G.move rfl rfl) fun a h => ?_
    refine St.guard_yes h rfl rfl rfl rfl rfl ?_
    refine St.get h rfl rfl rfl (G.pickF rfl rfl rfl) fun a h => ?_
    refine St.guard_yes h rfl rfl rfl rfl rfl ?_
    refine St.get h rfl rfl rfl (G.move rfl rfl) fun a h => ?_
    refine St.split h 53 rfl (fun hc3 h => ?_) (fun hc3 h => ?_)
    refine St.guard_no h rfl rfl rfl rfl rfl (by decide) rfl rfl fun a h => ?_
    refine St.guard_yes h rfl rfl rfl rfl rfl ?_
    refine St.get h rfl rfl rfl (G.pickT rfl rfl rfl) fun a h => ?_
    refine St.get h rfl rfl rfl (G.pickT rfl rfl rfl) fun a h => ?_
    refine wpl_nil ?_
    refine X.thenN ?_
    refine St.condT h rfl ?_
    refine C.seq ?_
    refine C.region ?_
    refine St.get h rfl rfl rfl (G.assign rfl rfl) fun a h => ?_
    refine wpl_nil ?_
    refine X.thenN ?_
    refine C.ret ?_
    refine X.blkR ?_
    refine X.thenR ?_
    refine X.blkR ?_
    refine X.thenR ?_
    rotate_left
    refine St.guard_yes h rfl rfl rfl rfl rfl ?_
    refine St.get h rfl rfl rfl (G.move rfl rfl) fun a h => ?_
    refine St.guard_yes h rfl rfl rfl rfl rfl ?_
    refine St.get h rfl rfl rfl (G.pickF rfl rfl rfl) fun a h => ?_
    refine St.get h rfl rfl rfl (G.pickT rfl rfl rfl) fun a h => ?_
    refine wpl_nil ?_
    refine X.thenN ?_
    refine St.cond h rfl (fun hc4 => ?_) (fun hc4 => ?_)
    refine C.seq ?_
    refine C.region ?_
    refine St.get h rfl rfl rfl (G.assign rfl rfl) fun a h => ?_
    refine wpl_nil ?_
    refine X.thenN ?_
    refine C.ret ?_
    refine X.blkR ?_
    refine X.thenR ?_
    refine X.blkR ?_
    refine X.thenR ?_
    rotate_left
    refine C.skip ?_
    refine X.blkN ?_
    refine X.thenN ?_
    rotate_left
    refine St.get h rfl rfl rfl (G.pickT rfl rfl rfl) fun a h => ?_
    refine St.get h rfl rfl rfl (G.move rfl rfl) fun a h => ?_
    refine St.guard_no h rfl rfl rfl rfl rfl (by decide) rfl rfl fun a h => ?_
    refine St.guard_no h rfl rfl rfl rfl rfl (by decide) rfl rfl fun a h => ?_
    refine St.guard_noU h rfl rfl rfl rfl rfl rfl rfl fun a h => ?_
    refine St.guard_no h rfl rfl rfl rfl rfl (by decide) rfl rfl fun a h => ?_
    refine St.guard_no h rfl rfl rfl rfl rfl (by decide) rfl rfl fun a h => ?_
    refine St.guard_noU h rfl rfl rfl rfl rfl rfl rfl fun a h => ?_
    refine St.guard_no h rfl rfl rfl rfl rfl (by decide) rfl rfl fun a h => ?_
    refine St.get h rfl rfl rfl (G.pickF rfl rfl rfl) fun a h => ?_
    refine wpl_nil ?_
    refine X.thenN ?_
    refine St.condF h rfl ?_
    refine C.skip ?_
    refine X.blkN ?_
    refine X.thenN ?_
    rotate_left
    refine St.get h rfl rfl rfl (G.move rfl rfl) fun a h => ?_
    refine St.guard_no h rfl rfl rfl rfl rfl (by decide) rfl rfl fun a h => ?_
    refine St.guard_no h rfl rfl rfl rfl rfl (by decide) rfl rfl fun a h => ?_
    refine St.guard_no h rfl rfl rfl rfl rfl (by decide) rfl rfl fun a h => ?_
    refine St.guard_no h rfl rfl rfl rfl rfl (by decide) rfl rfl fun a h => ?_
    refine St.get h rfl rfl rfl (G.pickF rfl rfl rfl) fun a h => ?_
    refine St.get h rfl rfl rfl (G.move rfl rfl) fun a h => ?_
    refine St.guard_no h rfl rfl rfl rfl rfl (by decide) rfl rfl fun a h => ?_
    refine St.guard_no h rfl rfl rfl rfl rfl (by decide) rfl rfl fun a h => ?_
    refine St.guard_noU h rfl rfl rfl rfl rfl rfl rfl fun a h => ?_
    refine St.guard_no h rfl rfl rfl rfl rfl (by decide) rfl rfl fun a h => ?_
    refine St.guard_no h rfl rfl rfl rfl rfl (by decide) rfl rfl fun a h => ?_
    refine St.guard_noU h rfl rfl rfl rfl rfl rfl rfl fun a h => ?_
    refine St.guard_no h rfl rfl rfl rfl rfl (by decide) rfl rfl fun a h => ?_
    refine St.get h rfl rfl rfl (G.pickF rfl rfl rfl) fun a h => ?_
    refine wpl_nil ?_
    refine X.thenN ?_
    refine St.condF h rfl ?_
    refine C.skip ?_
    refine X.blkN ?_
    refine X.thenN ?_
    rotate_left
    · rw [hcl ⟨hc, hc1, by simp [hc2]⟩]
      replace h := h.fold [1] rfl ((stars_of_one (mapit_mapl keyLock Value.bool A it1 t _ _)))
      replace h := h.conv (sl' := _) (L' := [_, cells _ _ [_, _], cells _ _ [_], cells _ _ [_, _]]) rfl rfl
      replace h := h.fold [2, 0] rfl ((LAt_mk b o t A))
      replace h := h.conv (sl' := _) (L' := [_, cells _ _ [_, _], cells _ _ [_, _]]) rfl rfl
      replace h := h.sel [0] rfl
      replace h := h.conv (sl' := _) (L' := [_]) rfl rfl
      exact h.ret1 Try.results94 rfl (Ent.refl _) (⟨rfl, rfl⟩)
    · rw [hcl ⟨hc, hc1, by simp [hc3]⟩]
      replace h := h.fold [1] rfl ((stars_of_one (mapit_mapl keyLock Value.bool A it1 t _ _)))
      replace h := h.conv (sl' := _) (L' := [_, cells _ _ [_, _], cells _ _ [_], cells _ _ [_, _]]) rfl rfl
      replace h := h.fold [2, 0] rfl ((LAt_mk b o t A))
      replace h := h.conv (sl' := _) (L' := [_, cells _ _ [_, _], cells _ _ [_, _]]) rfl rfl
      replace h := h.sel [0] rfl
      replace h := h.conv (sl' := _) (L' := [_]) rfl rfl
      exact h.ret1 Try.results94 rfl (Ent.refl _) (⟨rfl, rfl⟩)
    · rw [hcl ⟨hc, hc1, by simp [hc4]⟩]
      replace h := h.fold [1] rfl ((stars_of_one (mapit_mapl keyLock Value.bool A it1 t _ _)))
      replace h := h.conv (sl' := _) (L' := [_, cells _ _ [_, _], cells _ _ [_], cells _ _ [_, _]]) rfl rfl
      replace h := h.fold [2, 0] rfl ((LAt_mk b o t A))
      replace h := h.conv (sl' := _) (L' := [_, cells _ _ [_, _], cells _ _ [_, _]]) rfl rfl
      replace h := h.sel [0] rfl
      replace h := h.conv (sl' := _) (L' := [_]) rfl rfl
      exact h.ret1 Try.results94 rfl (Ent.refl _) (⟨rfl, rfl⟩)
    · replace h := h.sel [1, 2, 3] rfl
      replace h := h.conv (sl' := _) (L' := [_, cells _ _ [_], cells _ _ [_, _]]) rfl rfl
      exact ⟨_, hlt, _, _, rfl, hgo fun ⟨_, _, h3⟩ => by rw [hc2, hc3, hc4] at h3; simp at h3, h.sub ⟨rfl, rfl, rfl, rfl, rfl, rfl, rfl, rfl, trivial⟩⟩
    · replace h := h.sel [1, 2, 3] rfl
      replace h := h.conv (sl' := _) (L' := [_, cells _ _ [_], cells _ _ [_, _]]) rfl rfl
      exact ⟨_, hlt, _, _, rfl, hgo fun ⟨_, h2, _⟩ => hc1 h2, h.sub ⟨rfl, rfl, rfl, rfl, rfl, rfl, rfl, rfl, trivial⟩⟩
    · replace h := h.sel [1, 2, 3] rfl
      replace h := h.conv (sl' := _) (L' := [_, cells _ _ [_], cells _ _ [_, _]]) rfl rfl
      exact ⟨_, hlt, _, _, rfl, hgo fun ⟨h1, _⟩ => hc h1, h.sub ⟨rfl, rfl, rfl, rfl, rfl, rfl, rfl, rfl, trivial⟩⟩

/-- What is left when some keys' locks are dropped. -/
def dropD (t : LT) (owner : Int) (done : List (Int × Int)) : LT := t.filter fun p => !(decide (p.1.2 = owner) && decide (p.1 ∈ done))
theorem LDrop_spec (b o : Nat) (t : LT) (owner : Int) (hl : t.length < 1000000) : Meets Try.prog 95 #[.pointer (some ⟨b, o, none⟩), .int .i64 owner] [LAt b o t]
    (fun v L => ∃ n : Int, v = .tuple #[.int .i64 n, .int .i64 0] ∧ L = [LAt b o (dropL t owner)]) := by
  refine Meets.of_code Try.func95 rfl Try.ntmps95 rfl fun w0 S R a h => ?_
  obtain ⟨A, h⟩ := h.openL 0 rfl
  have hnd2 : (t.map Prod.fst).Nodup := h.tell1 1 rfl fun _ _ _ hh => (mapl_told hh).2
  replace h := h.conv (sl' := _) (L' := [cells _ _ [_], _]) rfl rfl
  refine C.seq ?_
  refine C.region ?_
  refine St.get h rfl rfl rfl (G.assign rfl rfl) fun a h => ?_
  refine St.get h rfl rfl rfl (G.assign rfl rfl) fun a h => ?_
  refine wpl_nil ?_
  refine X.thenN ?_
  refine C.seq ?_
  refine C.seq ?_
  refine C.region ?_
  refine St.get h rfl rfl rfl (G.move rfl rfl) fun a h => ?_
  refine St.get h rfl rfl rfl (G.bin rfl rfl rfl (B.peql Try.underlying156 _)) fun a h => ?_
  refine wpl_nil ?_
  refine X.thenN ?_
  refine St.condF h rfl ?_
  refine C.skip ?_
  refine X.thenN ?_
  refine C.seq ?_
  refine C.region ?_
  refine St.get h rfl rfl rfl (G.assign rfl rfl) fun a h => ?_
  refine wpl_nil ?_
  refine X.thenN ?_
  refine C.seq ?_
  refine C.seq ?_
  refine C.region ?_
  refine St.get h rfl rfl rfl (G.move rfl rfl) fun a h => ?_
  refine St.get h rfl rfl rfl (G.nilc rfl rfl) fun a h => ?_
  refine St.get h rfl rfl rfl (G.fadr 0 rfl rfl Try.underlying105 rfl rfl Try.sizeOf103) fun a h => ?_
  refine St.get h rfl rfl rfl (G.ld 0 0 rfl rfl rfl rfl rfl Try.isAgg103) fun a h => ?_
  refine St.mrange h 1 rfl rfl rfl Try.underlying103 rfl rfl rfl fun it1 a w h => ?_
  replace h := h.conv (sl' := _) (L' := [_, cells _ _ [_]]) rfl rfl
  refine wpl_nil ?_
  refine X.thenN ?_
  refine C.block ?_
  refine C.loop (fun m a w => ∃ done cur n, m = left t done ∧ (n : Int) + left t done ≤ t.length ∧ 0 ≤ n ∧ St w0 S R 31 [(0, .pointer (some ⟨b, o, none⟩)), (1, .int .i64 owner), (6, .int .i64 n), (14, .pointer (some ⟨it1, 0, none⟩))]
    [mapit keyLock Value.bool A it1 (dropD t owner done) done cur, cells b o [.map A]] a w) (left t []) ⟨[], none, 0, rfl, ?_, by omega, ?_⟩ ?_
  · have : ∀ t : LT, left t [] = t.length := fun t => by induction t with
      | nil => rfl
      | cons p l ih => simp [left, ih]; omega
    rw [this]; omega
  · have e : dropD t owner [] = t := by simp [dropD]
    rw [e]
    exact h.sub ⟨rfl, rfl, rfl, rfl, trivial⟩
  rintro m a w ⟨done, cur, n, rfl, hn, hn0, h⟩
  refine C.seq ?_
  refine C.region ?_
  refine St.mnext h 0 rfl rfl rfl rfl rfl rfl (fun hall a w h => ?_) (fun p hmem hnd a w h => ?_)
  · replace h := h.conv (sl' := _) (L' := [_, cells _ _ [_]]) rfl rfl
    replace h := h.fold [0] rfl ((stars_of_one (mapit_mapl keyLock Value.bool A it1 (dropD t owner done) done none)))
    replace h := h.conv (sl' := _) (L' := [_, cells _ _ [_]]) rfl rfl
    have e : dropD t owner done = dropL t owner := by
      refine List.filter_congr fun p hp => ?_
      by_cases ho : p.1.2 = owner
      · have : p.1 ∈ done := by
          by_cases hd : p.1 ∈ done
          · exact hd
          · exact hall p (List.mem_filter.2 ⟨hp, by simp [ho, hd]⟩)
        simp [ho, this]
      · simp [ho]
    rw [e] at h
    refine St.get h rfl rfl rfl (G.extract rfl rfl rfl) fun a h => ?_
    refine wpl_nil ?_
    refine X.thenN ?_
    refine C.seq ?_
    refine St.condF h rfl ?_
    refine C.exit ?_
    refine X.thenE ?_
    refine X.thenE ?_
    refine X.blkE ?_
    refine X.thenN ?_
    refine C.seq ?_
    refine C.region ?_
    refine St.get h rfl rfl rfl (G.move rfl rfl) fun a h => ?_
    refine St.get h rfl rfl rfl (G.assign rfl rfl) fun a h => ?_
    refine St.get h rfl rfl rfl (G.assign rfl rfl) fun a h => ?_
    refine wpl_nil ?_
    refine X.thenN ?_
    refine C.ret ?_
    replace h := h.fold [1, 0] rfl ((LAt_mk b o (dropL t owner) A))
    replace h := h.conv (sl' := _) (L' := [_]) rfl rfl
    replace h := h.sel [0] rfl
    replace h := h.conv (sl' := _) (L' := [_]) rfl rfl
    exact h.ret2 Try.results95 rfl rfl (Ent.refl _) (⟨_, rfl, rfl⟩)
  · have hmem0 : p ∈ t := (List.mem_filter.1 hmem).1
    have hlt := left_lt hnd hmem0
    replace h := h.conv (sl' := _) (L' := [_, cells _ _ [_]]) rfl rfl
    refine St.get h rfl rfl rfl (G.extract rfl rfl rfl) fun a h => ?_
    refine wpl_nil ?_
    refine X.thenN ?_
    refine C.seq ?_
    refine St.condT h rfl ?_
    refine C.skip ?_
    refine X.thenN ?_
    refine C.block ?_
    refine C.seq ?_
    refine C.region ?_
    refine St.get h rfl rfl rfl (G.mentry 0 rfl (by assumption) rfl rfl) fun a h => ?_
    refine St.get h rfl rfl rfl (G.extract rfl rfl rfl) fun a h => ?_
    refine St.alloc h Try.zeroValue158 rfl rfl rfl rfl fun b1 a w h => ?_
    replace h := h.conv (sl' := _) (L' := [cells _ _ [_, _], _, cells _ _ [_]]) rfl rfl
    refine St.put h rfl rfl (U.sta 0 0 rfl rfl rfl rfl rfl rfl (by simp [Value.oneCell']) Try.sizeOf158 rfl) fun a w h => ?_
    replace h := h.conv (sl' := _) (L' := [cells _ _ [_, _], _, cells _ _ [_]]) rfl rfl
    refine wpl_nil ?_
    refine X.thenN ?_
    refine C.seq ?_
    refine C.region ?_
    refine St.get h rfl rfl rfl (G.fadr 1 rfl rfl Try.underlying158 rfl rfl Try.sizeOf3) fun a h => ?_
    refine St.get h rfl rfl rfl (G.ld 0 1 rfl rfl rfl rfl rfl Try.isAgg3) fun a h => ?_
    refine St.get h rfl rfl rfl (G.move rfl rfl) fun a h => ?_
    refine St.getP h rfl rfl rfl (G.bin rfl rfl rfl B.eql) (fun hc a h => ?_) (fun hc a h => ?_)
    refine wpl_nil ?_
    refine X.thenN ?_
    refine St.condT h rfl ?_
    refine C.seq ?_
    refine C.stillTail Try_mixed 5 h (by decide +kernel) fun w h => ?_
    refine St.getS h rfl rfl rfl (G.move rfl rfl) fun a h => ?_
    refine St.getS h rfl rfl rfl (G.nilc rfl rfl) fun a h => ?_
    refine St.getS h rfl rfl rfl (G.fadr 0 rfl rfl Try.underlying105 rfl rfl Try.sizeOf103) fun a h => ?_
    refine St.getS h rfl rfl rfl (G.ld 2 0 rfl rfl rfl rfl rfl Try.isAgg103) fun a h => ?_
    refine St.getS h rfl rfl rfl (G.lda 0 0 2 rfl rfl rfl rfl rfl Try.isAgg158 Try.sizeOf158) fun a h => ?_
    replace h := h.conv (sl' := (_, .agg #[_, _]) :: _) (L' := _) rfl rfl
    refine wps_nil ?_
    refine St.mdelit (k := (p.fst.fst, p.fst.snd)) h 1 rfl rfl rfl rfl Try.underlying103 rfl rfl fun a w h => ?_
    replace h := h.conv (sl' := _) (L' := [cells _ _ [_, _], _, cells _ _ [_]]) rfl rfl
    refine wpl_nil ?_
    refine X.thenN ?_
    refine C.region ?_
    refine St.get h rfl rfl rfl (G.move rfl rfl) fun a h => ?_
    refine St.get h rfl rfl rfl (G.bin rfl rfl rfl (B.addi (by omega) (by omega))) fun a h => ?_
    refine St.get h rfl rfl rfl (G.assign rfl rfl) fun a h => ?_
    refine wpl_nil ?_
    refine X.blkN ?_
    refine X.thenN ?_
    rotate_left
    refine wpl_nil ?_
    refine X.thenN ?_
    refine St.condF h rfl ?_
    refine C.skip ?_
    refine X.blkN ?_
    refine X.thenN ?_
    rotate_left
    · have e : delM (p.1.1, p.1.2) (dropD t owner done) = dropD t owner (p.1 :: done) := by
        rw [delM_filter ((hnd2.sublist (List.filter_sublist.map _)) : ((dropD t owner done).map Prod.fst).Nodup), dropD, dropD, List.filter_filter]
        refine List.filter_congr fun q hq => ?_
        have hpe : (p.1.1, p.1.2) = p.1 := rfl
        rw [hpe]
        by_cases hqp : q.1 = p.1
        · simp [hqp, hc]
        · simp [hqp]
      replace h := h.conv (L' := [_, mapit keyLock Value.bool A it1 (dropD t owner (p.1 :: done)) _ _, _]) rfl (by rw [e])
      replace h := h.sel [1, 2] rfl
      replace h := h.conv (sl' := _) (L' := [_, cells _ _ [_]]) rfl rfl
      exact ⟨_, hlt, _, _, _, rfl, by omega, by omega, h.sub ⟨rfl, rfl, rfl, rfl, trivial⟩⟩
    · have e : dropD t owner done = dropD t owner (p.1 :: done) := by
        refine List.filter_congr fun q hq => ?_
        by_cases hqp : q.1 = p.1
        · simp [hqp, hc]
        · simp [hqp]
      replace h := h.conv (L' := [_, mapit keyLock Value.bool A it1 (dropD t owner (p.1 :: done)) _ _, _]) rfl (by rw [e])
      replace h := h.sel [1, 2] rfl
      replace h := h.conv (sl' := _) (L' := [_, cells _ _ [_]]) rfl rfl
      exact ⟨_, hlt, _, _, _, rfl, by omega, by omega, h.sub ⟨rfl, rfl, rfl, rfl, trivial⟩⟩
end Go.Proofs.Ytllhegccpknncaa
