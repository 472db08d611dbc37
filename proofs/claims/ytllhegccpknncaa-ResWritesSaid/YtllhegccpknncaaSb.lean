/-
  The resources: nil ones; Prepare.
-/
import Derived.Test.YtllhegccpknncaaSa
import Derived.Test.YtllhegccpknncaaQc
import Derived.Test.YtllhegccpknncaaSeat
set_option linter.unusedVariables false
set_option linter.unusedSimpArgs false
set_option linter.unusedSectionVars false
set_option maxRecDepth 8000
namespace Go.Proofs.Ytllhegccpknncaa
open Go.Tr
theorem SGet_nil (n key : Int) : Meets Try.prog 57 #[.pointer none, .int .i64 n, .int .i64 key] [] (Det (.tuple #[.int .u64 0, .bool false, .int .i64 6]) []) := by
  refine Meets.of_code Try.func57 rfl Try.ntmps57 rfl fun w0 S R a h => ?_
  refine C.seq ?_
  refine C.region ?_
  refine St.get h rfl rfl rfl (G.assign rfl rfl) fun a h => ?_
  refine St.get h rfl rfl rfl (G.assign rfl rfl) fun a h => ?_
  refine St.get h rfl rfl rfl (G.assign rfl rfl) fun a h => ?_
  refine wpl_nil ?_
  refine X.thenN ?_
  refine C.seq ?_
  refine C.seq ?_
  refine C.region ?_
  refine St.get h rfl rfl rfl (G.move rfl rfl) fun a h => ?_
  refine St.get h rfl rfl rfl (G.move rfl rfl) fun a h => ?_
  refine St.callD h [] rfl (Ro.nil _) ((Sfit_nil n)) rfl rfl rfl Try.call63 rfl rfl fun a w h => ?_
  replace h := h.conv (sl' := _) (L' := []) rfl rfl
  refine St.get h rfl rfl rfl (G.assign rfl rfl) fun a h => ?_
  refine wpl_nil ?_
  refine X.thenN ?_
  refine C.seq ?_
  refine C.region ?_
  refine St.get h rfl rfl rfl (G.move rfl rfl) fun a h => ?_
  refine St.get h rfl rfl rfl (G.bin rfl rfl rfl (B.neqT (by omega))) fun a h => ?_
  refine wpl_nil ?_
  refine X.thenN ?_
  refine St.condT h rfl ?_
  refine C.seq ?_
  refine C.region ?_
  refine St.get h rfl rfl rfl (G.move rfl rfl) fun a h => ?_
  refine St.get h rfl rfl rfl (G.assign rfl rfl) fun a h => ?_
  refine St.get h rfl rfl rfl (G.assign rfl rfl) fun a h => ?_
  refine St.get h rfl rfl rfl (G.assign rfl rfl) fun a h => ?_
  refine wpl_nil ?_
  refine X.thenN ?_
  refine C.ret ?_
  refine X.thenR ?_
  exact h.ret3 Try.results57 rfl rfl rfl (Ent.refl _) (⟨rfl, rfl⟩)
theorem SDel_nil (n key : Int) : Meets Try.prog 58 #[.pointer none, .int .i64 n, .int .i64 key] [] (Det (.int .i64 6) []) := by
  refine Meets.of_code Try.func58 rfl Try.ntmps58 rfl fun w0 S R a h => ?_
  refine C.seq ?_
  refine C.region ?_
  refine St.get h rfl rfl rfl (G.assign rfl rfl) fun a h => ?_
  refine wpl_nil ?_
  refine X.thenN ?_
  refine C.seq ?_
  refine C.seq ?_
  refine C.region ?_
  refine St.get h rfl rfl rfl (G.move rfl rfl) fun a h => ?_
  refine St.get h rfl rfl rfl (G.move rfl rfl) fun a h => ?_
  refine St.callD h [] rfl (Ro.nil _) ((Sfit_nil n)) rfl rfl rfl Try.call63 rfl rfl fun a w h => ?_
  replace h := h.conv (sl' := _) (L' := []) rfl rfl
  refine St.get h rfl rfl rfl (G.assign rfl rfl) fun a h => ?_
  refine wpl_nil ?_
  refine X.thenN ?_
  refine C.seq ?_
  refine C.region ?_
  refine St.get h rfl rfl rfl (G.move rfl rfl) fun a h => ?_
  refine St.get h rfl rfl rfl (G.bin rfl rfl rfl (B.neqT (by omega))) fun a h => ?_
  refine wpl_nil ?_
  refine X.thenN ?_
  refine St.condT h rfl ?_
  refine C.seq ?_
  refine C.region ?_
  refine St.get h rfl rfl rfl (G.move rfl rfl) fun a h => ?_
  refine St.get h rfl rfl rfl (G.assign rfl rfl) fun a h => ?_
  refine wpl_nil ?_
  refine X.thenN ?_
  refine C.ret ?_
  refine X.thenR ?_
  exact h.ret1 Try.results58 rfl (Ent.refl _) (⟨rfl, rfl⟩)
theorem SPop_nil (n : Int) : Meets Try.prog 59 #[.pointer none, .int .i64 n] [] (Det (.tuple #[.int .u64 0, .int .i64 6]) []) := by
  refine Meets.of_code Try.func59 rfl Try.ntmps59 rfl fun w0 S R a h => ?_
  refine C.seq ?_
  refine C.region ?_
  refine St.get h rfl rfl rfl (G.assign rfl rfl) fun a h => ?_
  refine St.get h rfl rfl rfl (G.assign rfl rfl) fun a h => ?_
  refine wpl_nil ?_
  refine X.thenN ?_
  refine C.seq ?_
  refine C.seq ?_
  refine C.region ?_
  refine St.get h rfl rfl rfl (G.move rfl rfl) fun a h => ?_
  refine St.get h rfl rfl rfl (G.move rfl rfl) fun a h => ?_
  refine St.callD h [] rfl (Ro.nil _) ((Sfit_nil n)) rfl rfl rfl Try.call63 rfl rfl fun a w h => ?_
  replace h := h.conv (sl' := _) (L' := []) rfl rfl
  refine St.get h rfl rfl rfl (G.assign rfl rfl) fun a h => ?_
  refine wpl_nil ?_
  refine X.thenN ?_
  refine C.seq ?_
  refine C.region ?_
  refine St.get h rfl rfl rfl (G.move rfl rfl) fun a h => ?_
  refine St.get h rfl rfl rfl (G.bin rfl rfl rfl (B.neqT (by omega))) fun a h => ?_
  refine wpl_nil ?_
  refine X.thenN ?_
  refine St.condT h rfl ?_
  refine C.seq ?_
  refine C.region ?_
  refine St.get h rfl rfl rfl (G.move rfl rfl) fun a h => ?_
  refine St.get h rfl rfl rfl (G.assign rfl rfl) fun a h => ?_
  refine St.get h rfl rfl rfl (G.assign rfl rfl) fun a h => ?_
  refine wpl_nil ?_
  refine X.thenN ?_
  refine C.ret ?_
  refine X.thenR ?_
  exact h.ret2 Try.results59 rfl rfl (Ent.refl _) (⟨rfl, rfl⟩)
theorem SPrepare_nil (n : Int) : Meets Try.prog 31 #[.pointer none, .int .i64 n] [] (Det (.tuple #[rlv none 0 0, .int .i64 6]) []) := by
  refine Meets.of_code Try.func31 rfl Try.ntmps31 rfl fun w0 S R a h => ?_
  refine C.seq ?_
  refine C.region ?_
  refine St.get h rfl rfl rfl (G.assign rfl rfl) fun a h => ?_
  refine St.get h rfl rfl rfl (G.assign rfl rfl) fun a h => ?_
  refine wpl_nil ?_
  refine X.thenN ?_
  refine C.seq ?_
  refine C.seq ?_
  refine C.region ?_
  refine St.get h rfl rfl rfl (G.move rfl rfl) fun a h => ?_
  refine St.get h rfl rfl rfl (G.move rfl rfl) fun a h => ?_
  refine St.callD h [] rfl (Ro.nil _) ((Sfit_nil n)) rfl rfl rfl Try.call63 rfl rfl fun a w h => ?_
  replace h := h.conv (sl' := _) (L' := []) rfl rfl
  refine St.get h rfl rfl rfl (G.assign rfl rfl) fun a h => ?_
  refine wpl_nil ?_
  refine X.thenN ?_
  refine C.seq ?_
  refine C.region ?_
  refine St.get h rfl rfl rfl (G.move rfl rfl) fun a h => ?_
  refine St.get h rfl rfl rfl (G.bin rfl rfl rfl (B.neqT (by omega))) fun a h => ?_
  refine wpl_nil ?_
  refine X.thenN ?_
  refine St.condT h rfl ?_
  refine C.seq ?_
  refine C.region ?_
  refine St.get h rfl rfl rfl (G.move rfl rfl) fun a h => ?_
  refine St.get h rfl rfl rfl (G.assign rfl rfl) fun a h => ?_
  refine St.get h rfl rfl rfl (G.assign rfl rfl) fun a h => ?_
  refine wpl_nil ?_
  refine X.thenN ?_
  refine C.ret ?_
  refine X.thenR ?_
  exact h.ret2 Try.results31 rfl rfl (Ent.refl _) (⟨rfl, rfl⟩)
theorem Sdecide_nil (n : Int) (c : Bool) : Meets Try.prog 67 #[.pointer none, .int .i64 n, .bool c] [] (Det (.int .i64 6) []) := by
  refine Meets.of_code Try.func67 rfl Try.ntmps67 rfl fun w0 S R a h => ?_
  refine C.seq ?_
  refine C.region ?_
  refine St.get h rfl rfl rfl (G.assign rfl rfl) fun a h => ?_
  refine wpl_nil ?_
  refine X.thenN ?_
  refine C.seq ?_
  refine C.seq ?_
  refine C.region ?_
  refine St.get h rfl rfl rfl (G.move rfl rfl) fun a h => ?_
  refine St.get h rfl rfl rfl (G.move rfl rfl) fun a h => ?_
  refine St.callD h [] rfl (Ro.nil _) ((Sfit_nil n)) rfl rfl rfl Try.call63 rfl rfl fun a w h => ?_
  replace h := h.conv (sl' := _) (L' := []) rfl rfl
  refine St.get h rfl rfl rfl (G.assign rfl rfl) fun a h => ?_
  refine wpl_nil ?_
  refine X.thenN ?_
  refine C.seq ?_
  refine C.region ?_
  refine St.get h rfl rfl rfl (G.move rfl rfl) fun a h => ?_
  refine St.get h rfl rfl rfl (G.bin rfl rfl rfl (B.neqT (by omega))) fun a h => ?_
  refine St.get h rfl rfl rfl (G.move rfl rfl) fun a h => ?_
  refine St.guard_yes h rfl rfl rfl rfl rfl ?_
  refine St.get h rfl rfl rfl (G.move rfl rfl) fun a h => ?_
  refine St.guard_yes h rfl rfl rfl rfl rfl ?_
  refine St.get h rfl rfl rfl (G.bin rfl rfl rfl (B.neqT (by omega))) fun a h => ?_
  refine St.get h rfl rfl rfl (G.pickT rfl rfl rfl) fun a h => ?_
  refine wpl_nil ?_
  refine X.thenN ?_
  refine St.condT h rfl ?_
  refine C.seq ?_
  refine C.region ?_
  refine St.get h rfl rfl rfl (G.move rfl rfl) fun a h => ?_
  refine St.get h rfl rfl rfl (G.assign rfl rfl) fun a h => ?_
  refine wpl_nil ?_
  refine X.thenN ?_
  refine C.ret ?_
  refine X.thenR ?_
  exact h.ret1 Try.results67 rfl (Ent.refl _) (⟨rfl, rfl⟩)
theorem SCommit_nil (n : Int) : Meets Try.prog 33 #[.pointer none, .int .i64 n] [] (Det (.int .i64 6) []) := by
  refine Meets.of_code Try.func33 rfl Try.ntmps33 rfl fun w0 S R a h => ?_
  refine C.seq ?_
  refine C.region ?_
  refine St.get h rfl rfl rfl (G.assign rfl rfl) fun a h => ?_
  refine wpl_nil ?_
  refine X.thenN ?_
  refine C.seq ?_
  refine C.region ?_
  refine St.get h rfl rfl rfl (G.move rfl rfl) fun a h => ?_
  refine St.get h rfl rfl rfl (G.move rfl rfl) fun a h => ?_
  refine St.callD h [] rfl (Ro.nil _) ((Sdecide_nil n true)) rfl rfl rfl Try.call67 rfl rfl fun a w h => ?_
  replace h := h.conv (sl' := _) (L' := []) rfl rfl
  refine St.get h rfl rfl rfl (G.assign rfl rfl) fun a h => ?_
  refine wpl_nil ?_
  refine X.thenN ?_
  refine C.ret ?_
  exact h.ret1 Try.results33 rfl (Ent.refl _) (⟨rfl, rfl⟩)
theorem SBackout_nil (n : Int) : Meets Try.prog 32 #[.pointer none, .int .i64 n] [] (Det (.int .i64 6) []) := by
  refine Meets.of_code Try.func32 rfl Try.ntmps32 rfl fun w0 S R a h => ?_
  refine C.seq ?_
  refine C.region ?_
  refine St.get h rfl rfl rfl (G.assign rfl rfl) fun a h => ?_
  refine wpl_nil ?_
  refine X.thenN ?_
  refine C.seq ?_
  refine C.region ?_
  refine St.get h rfl rfl rfl (G.move rfl rfl) fun a h => ?_
  refine St.get h rfl rfl rfl (G.move rfl rfl) fun a h => ?_
  refine St.callD h [] rfl (Ro.nil _) ((Sdecide_nil n false)) rfl rfl rfl Try.call67 rfl rfl fun a w h => ?_
  replace h := h.conv (sl' := _) (L' := []) rfl rfl
  refine St.get h rfl rfl rfl (G.assign rfl rfl) fun a h => ?_
  refine wpl_nil ?_
  refine X.thenN ?_
  refine C.ret ?_
  exact h.ret1 Try.results32 rfl (Ent.refl _) (⟨rfl, rfl⟩)
theorem SRestore_nil (n : Int) (v : Value) : Meets Try.prog 35 #[.pointer none, .int .i64 n, v] [] (Det (.int .i64 6) []) := by
  refine Meets.of_code Try.func35 rfl Try.ntmps35 rfl fun w0 S R a h => ?_
  refine C.seq ?_
  refine C.region ?_
  refine St.get h rfl rfl rfl (G.assign rfl rfl) fun a h => ?_
  refine wpl_nil ?_
  refine X.thenN ?_
  refine C.seq ?_
  refine C.seq ?_
  refine C.region ?_
  refine St.get h rfl rfl rfl (G.move rfl rfl) fun a h => ?_
  refine St.get h rfl rfl rfl (G.bin rfl rfl rfl (B.peql Try.underlying55 _)) fun a h => ?_
  refine wpl_nil ?_
  refine X.thenN ?_
  refine St.condT h rfl ?_
  refine C.seq ?_
  refine C.region ?_
  refine St.get h rfl rfl rfl (G.assign rfl rfl) fun a h => ?_
  refine wpl_nil ?_
  refine X.thenN ?_
  refine C.ret ?_
  refine X.thenR ?_
  exact h.ret1 Try.results35 rfl (Ent.refl _) (⟨rfl, rfl⟩)
theorem SBusy_nil (n : Int) : Meets Try.prog 24 #[.pointer none, .int .i64 n] [] (Det (.bool false) []) := by
  refine Meets.of_code Try.func24 rfl Try.ntmps24 rfl fun w0 S R a h => ?_
  refine C.seq ?_
  refine C.region ?_
  refine St.get h rfl rfl rfl (G.assign rfl rfl) fun a h => ?_
  refine wpl_nil ?_
  refine X.thenN ?_
  refine C.seq ?_
  refine C.region ?_
  refine St.get h rfl rfl rfl (G.move rfl rfl) fun a h => ?_
  refine St.get h rfl rfl rfl (G.bin rfl rfl rfl (B.pneq Try.underlying55 _)) fun a h => ?_
  refine St.get h rfl rfl rfl (G.move rfl rfl) fun a h => ?_
  refine St.guard_no h rfl rfl rfl rfl rfl (by decide) rfl rfl fun a h => ?_
  refine St.guard_no h rfl rfl rfl rfl rfl (by decide) rfl rfl fun a h => ?_
  refine St.guard_no h rfl rfl rfl rfl rfl (by decide) rfl rfl fun a h => ?_
  refine St.guard_no h rfl rfl rfl rfl rfl (by decide) rfl rfl fun a h => ?_
  refine St.guard_no h rfl rfl rfl rfl rfl (by decide) rfl rfl fun a h => ?_
  refine St.guard_no h rfl rfl rfl rfl rfl (by decide) rfl rfl fun a h => ?_
  refine St.guard_noU h rfl rfl rfl rfl rfl rfl rfl fun a h => ?_
  refine St.guard_noU h rfl rfl rfl rfl rfl rfl rfl fun a h => ?_
  refine St.guard_noU h rfl rfl rfl rfl rfl rfl rfl fun a h => ?_
  refine St.guard_noU h rfl rfl rfl rfl rfl rfl rfl fun a h => ?_
  refine St.guard_noU h rfl rfl rfl rfl rfl rfl rfl fun a h => ?_
  refine St.guard_no h rfl rfl rfl rfl rfl (by decide) rfl rfl fun a h => ?_
  refine St.get h rfl rfl rfl (G.pickF rfl rfl rfl) fun a h => ?_
  refine St.get h rfl rfl rfl (G.assign rfl rfl) fun a h => ?_
  refine wpl_nil ?_
  refine X.thenN ?_
  refine C.ret ?_
  exact h.ret1 Try.results24 rfl (Ent.refl _) (⟨rfl, rfl⟩)
theorem SImage_nil  : Meets Try.prog 27 #[.pointer none] [] (Det (.agg #[.slice none 0 0, .slice none 0 0, .int .i64 0]) []) := by
  refine Meets.of_code Try.func27 rfl Try.ntmps27 rfl fun w0 S R a h => ?_
  refine C.seq ?_
  refine C.region ?_
  refine St.alloc h Try.zeroValue67 rfl rfl rfl rfl fun b1 a w h => ?_
  replace h := h.conv (sl' := _) (L' := [cells _ _ [_, _, _]]) rfl rfl
  refine wpl_nil ?_
  refine X.thenN ?_
  refine C.seq ?_
  refine C.seq ?_
  refine C.region ?_
  refine St.get h rfl rfl rfl (G.move rfl rfl) fun a h => ?_
  refine St.get h rfl rfl rfl (G.bin rfl rfl rfl (B.peql Try.underlying55 _)) fun a h => ?_
  refine wpl_nil ?_
  refine X.thenN ?_
  refine St.condT h rfl ?_
  refine C.seq ?_
  refine C.region ?_
  refine St.get h rfl rfl rfl (G.build [(0, 1), (1, 1), (2, 1)] rfl rfl Try.zeroValue67 Try.underlying67 ⟨rfl, Try.sizeOf65, rfl, Try.sizeOf24, rfl, Try.sizeOf3, trivial⟩ rfl) fun a h => ?_
  replace h := h.conv (sl' := (_, .agg #[_, _, _]) :: _) (L' := _) rfl rfl
  refine St.put h rfl rfl (U.sta 0 0 rfl rfl rfl rfl rfl rfl (by decide) Try.sizeOf67 rfl) fun a w h => ?_
  replace h := h.conv (sl' := _) (L' := [cells _ _ [_, _, _]]) rfl rfl
  refine wpl_nil ?_
  refine X.thenN ?_
  refine C.ret ?_
  refine X.thenR ?_
  exact h.retC Try.results27 rfl (Ent.refl _) Try.isAgg67 Try.sizeOf67 (⟨rfl, rfl⟩)
theorem prepK_keys {s : KM} (hs : s.Good) (n : Int) : KeysOk (prepK s n).2.1 := by
  have h0 : KeysOk [] := ⟨fun c hc => by simp at hc, .nil⟩
  unfold prepK
  split
  · exact h0
  · split
    · rename_i w hg
      split
      · exact h0
      · split
        · exact h0
        · exact hs.lists (n, w) (getM_mem hg)
    · exact h0
theorem findQ_mem {n : Int} {w : QW} : ∀ {l : List QW}, findQ n l = some w → w ∈ l
  | [], h => by simp [findQ] at h
  | x :: l, h => by
    simp only [findQ] at h
    split at h
    · injection h with h; subst h; exact List.mem_cons_self ..
    · exact List.mem_cons_of_mem _ (findQ_mem h)
theorem prepQ_len {q : QM} (hq : q.Good) (n : Int) : (prepQ q n).2.1.length < 1000000 := by
  unfold prepQ
  split
  · exact Nat.zero_lt_of_lt (by decide : 0 < 1000000)
  · split
    · exact Nat.zero_lt_of_lt (by decide : 0 < 1000000)
    · rename_i w hg
      exact hq.lists w (findQ_mem hg)
theorem SPrepare_spec (b : Nat) (s : SM) (hk : s.k.Good) (hq : s.q.Good) (n : Int) : Meets Try.prog 31 #[.pointer (some ⟨b, 0, none⟩), .int .i64 n] [SAt b s]
    (fun v L => ∃ A' c', v = .tuple #[rlv A' (prepS s n).2.1.length c', .int .i64 (prepS s n).1] ∧ L = [SAt b (prepS s n).2.2, ownl encCh 80 A' c' (prepS s n).2.1]) := by
  refine Meets.of_code Try.func31 rfl Try.ntmps31 rfl fun w0 S R a h => ?_
  refine C.seq ?_
  refine C.region ?_
  refine St.get h rfl rfl rfl (G.assign rfl rfl) fun a h => ?_
  refine St.get h rfl rfl rfl (G.assign rfl rfl) fun a h => ?_
  refine wpl_nil ?_
  refine X.thenN ?_
  refine C.seq ?_
  refine C.seq ?_
  refine C.region ?_
  refine St.get h rfl rfl rfl (G.move rfl rfl) fun a h => ?_
  refine St.get h rfl rfl rfl (G.move rfl rfl) fun a h => ?_
  refine St.callD h [0] rfl (Ro.nil _) ((Sfit_spec b s n)) rfl rfl rfl Try.call63 rfl rfl fun a w h => ?_
  replace h := h.conv (sl' := _) (L' := [_]) rfl rfl
  refine St.get h rfl rfl rfl (G.assign rfl rfl) fun a h => ?_
  refine wpl_nil ?_
  refine X.thenN ?_
  refine C.seq ?_
  refine C.region ?_
  refine St.get h rfl rfl rfl (G.move rfl rfl) fun a h => ?_
  refine St.getP h rfl rfl rfl (G.bin rfl rfl rfl B.neq) (fun hc a h => ?_) (fun hc a h => ?_)
  refine wpl_nil ?_
  refine X.thenN ?_
  refine St.condT h rfl ?_
  refine C.seq ?_
  refine C.region ?_
  refine St.get h rfl rfl rfl (G.move rfl rfl) fun a h => ?_
  refine St.get h rfl rfl rfl (G.assign rfl rfl) fun a h => ?_
  refine St.get h rfl rfl rfl (G.assign rfl rfl) fun a h => ?_
  refine wpl_nil ?_
  refine X.thenN ?_
  refine C.ret ?_
  refine X.thenR ?_
  rotate_left
  refine wpl_nil ?_
  refine X.thenN ?_
  refine St.condF h rfl ?_
  refine C.skip ?_
  refine X.thenN ?_
  refine C.seq ?_
  refine C.region ?_
  refine St.get h rfl rfl rfl (G.move rfl rfl) fun a h => ?_
  refine St.get h rfl rfl rfl (G.nilc rfl rfl) fun a h => ?_
  refine St.get h rfl rfl rfl (G.fadr 0 rfl rfl Try.underlying111 rfl rfl Try.sizeOf107) fun a h => ?_
  refine St.get h rfl rfl rfl (G.move rfl rfl) fun a h => ?_
  rotate_left
  · have e : prepS s n = (fitS s n, [], s) := if_pos hc
    rw [e]
    replace h := h.nil encCh 80
    replace h := h.sel [1, 0] rfl
    replace h := h.conv (sl' := _) (L' := [_, _]) rfl rfl
    exact h.ret2 Try.results31 rfl rfl (Ent.refl _) (⟨none, 0, rfl, rfl⟩)
  · have e : prepS s n = _ := if_neg hc
    rw [e]
    obtain ⟨A0, A1, h⟩ := h.openS 0 rfl
    obtain ⟨l0, hl0⟩ : ∃ x, (prepK s.k n).2.1 = x := ⟨_, rfl⟩
    obtain ⟨l1, hl1⟩ : ∃ x, (prepQ s.q n).2.1 = x := ⟨_, rfl⟩
    have hn0 : l0.length < 1000000 := by rw [← hl0]; exact Nat.lt_of_le_of_lt (prepK_keys hk n).len (by decide)
    have hn1 : l1.length < 1000000 := by rw [← hl1]; exact prepQ_len hq n
    refine St.call h [0] rfl (Ro.nil _) ((KPrepare_spec b 0 s.k hk n)) rfl rfl rfl Try.call65 rfl rfl fun v L a w hp h => ?_
    obtain ⟨A2, c2, rfl, rfl⟩ := hp
    replace h := h.conv (sl' := _) (L' := [_, _, _, cells _ _ [_, _], _, _]) rfl rfl
    refine St.get h rfl rfl rfl (G.move rfl rfl) fun a h => ?_
    refine St.get h rfl rfl rfl (G.extract rfl rfl rfl) fun a h => ?_
    refine St.get h rfl rfl rfl (G.extract rfl rfl rfl) fun a h => ?_
    refine St.get h rfl rfl rfl (G.assign rfl rfl) fun a h => ?_
    refine St.get h rfl rfl rfl (G.assign rfl rfl) fun a h => ?_
    refine wpl_nil ?_
    refine X.thenN ?_
    refine C.seq ?_
    refine C.region ?_
    refine St.get h rfl rfl rfl (G.move rfl rfl) fun a h => ?_
    refine St.get h rfl rfl rfl (G.nilc rfl rfl) fun a h => ?_
    refine St.get h rfl rfl rfl (G.fadr 34 rfl rfl Try.underlying111 rfl rfl Try.sizeOf33) fun a h => ?_
    refine St.get h rfl rfl rfl (G.move rfl rfl) fun a h => ?_
    refine St.call h [2] rfl (Ro.nil _) ((Prepare_spec b 34 s.q n hq)) rfl rfl rfl Try.call41 rfl rfl fun v L a w hp h => ?_
    obtain ⟨A3, c3, rfl, rfl⟩ := hp
    replace h := h.conv (sl' := _) (L' := [_, _, _, _, cells _ _ [_, _], _, _]) rfl rfl
    refine St.get h rfl rfl rfl (G.move rfl rfl) fun a h => ?_
    refine St.get h rfl rfl rfl (G.extract rfl rfl rfl) fun a h => ?_
    refine St.get h rfl rfl rfl (G.extract rfl rfl rfl) fun a h => ?_
    refine St.get h rfl rfl rfl (G.assign rfl rfl) fun a h => ?_
    refine St.get h rfl rfl rfl (G.assign rfl rfl) fun a h => ?_
    refine wpl_nil ?_
    refine X.thenN ?_
    refine C.seq ?_
    refine C.region ?_
    refine St.get h rfl rfl rfl (G.move rfl rfl) fun a h => ?_
    refine St.get h rfl rfl rfl (G.move rfl rfl) fun a h => ?_
    refine St.get h rfl rfl rfl (G.move rfl rfl) fun a h => ?_
    rw [hl0, hl1] at h
    rw [hl0, hl1]
    refine St.call h [4, 4] rfl (Ro.nil _) ((mark_spec0 b n A0 A1 s.p0 A2 c2 l0 (by omega))) rfl rfl rfl Try.call66 rfl rfl fun v L a w hp h => ?_
    obtain ⟨rfl, A4, rfl⟩ := hp
    replace h := h.conv (sl' := _) (L' := [cells _ _ [_, _], _, _, _, _, _, _]) rfl rfl
    refine wpl_nil ?_
    refine X.thenN ?_
    refine C.seq ?_
    refine C.region ?_
    refine St.get h rfl rfl rfl (G.move rfl rfl) fun a h => ?_
    refine St.get h rfl rfl rfl (G.move rfl rfl) fun a h => ?_
    refine St.get h rfl rfl rfl (G.move rfl rfl) fun a h => ?_
    refine St.call h [0, 5] rfl (Ro.nil _) ((mark_spec1 b n A1 A4 s.p1 A3 c3 l1 (by omega))) rfl rfl rfl Try.call66 rfl rfl fun v L a w hp h => ?_
    obtain ⟨rfl, A5, rfl⟩ := hp
    have hcap : l0.length ≤ c2 ∧ c2 ≤ 9223372036854775807 := h.tell1 6 rfl fun _ _ _ hh => ownl_cap hh
    replace h := h.conv (sl' := _) (L' := [cells _ _ [_, _], _, _, _, _, _, _]) rfl rfl
    refine wpl_nil ?_
    refine X.thenN ?_
    refine C.seq ?_
    refine C.region ?_
    refine St.get h rfl rfl rfl (G.move rfl rfl) fun a h => ?_
    refine St.get h rfl rfl rfl (G.move rfl rfl) fun a h => ?_
    refine St.get h rfl rfl rfl (G.lens rfl rfl Try.underlying23) fun a h => ?_
    refine St.get h rfl rfl rfl (G.move rfl rfl) fun a h => ?_
    refine St.get h rfl rfl rfl (G.lens rfl rfl Try.underlying23) fun a h => ?_
    refine St.get h rfl rfl rfl (G.cut _ (l0.length) (l0.length) rfl rfl Try.underlying23 Try.sizeOf80 rfl ⟨_, _, rfl, by omega⟩ ⟨_, _, rfl, by omega⟩ (by omega) (by omega) (by omega) (by exact .inr rfl)) fun a h => ?_
    refine St.get h rfl rfl rfl (G.move rfl rfl) fun a h => ?_
    replace h := h.fold [6] rfl ((stars_of_one (ownl_cut encCh 80 A2 c2 l0.length l0 l0.length (Nat.le_refl _) (Nat.le_refl _) hcap.1)))
    replace h := h.conv (sl' := _) (L' := [_, cells _ _ [_, _], _, _, _, _, _]) rfl rfl
    rw [List.take_length] at h
    skip
    rw [cutA_zero, Nat.sub_zero] at h
    refine St.append h _ 0 rfl (Ro.cons 4 rfl (ownl_ro _ _ _ _ _) (Ro.nil _)) rfl rfl rfl (by first | rfl | omega | simp) (by first | rfl | omega | simp) Try.underlying23 Try.typeInfo80 rfl rfl rfl 24 rfl (by (try simp only [List.length_append, List.length_cons, List.length_nil, List.length_map, List.length_take]); omega) (by (try simp only [List.length_append, List.length_cons, List.length_nil, List.length_map, List.length_take]); omega) rfl rfl rfl fun A6 c1 a w hnil h => ?_
    replace h := h.conv (sl' := _) (L' := [_, cells _ _ [_, _], _, _, _, _, _]) rfl rfl
    refine St.get h rfl rfl rfl (G.assign rfl rfl) fun a h => ?_
    refine St.get h rfl rfl rfl (G.assign rfl rfl) fun a h => ?_
    refine wpl_nil ?_
    refine X.thenN ?_
    refine C.ret ?_
    replace h := h.fold [6, 4, 1, 3, 2] rfl ((SAt_mk ⟨(prepK s.k n).2.2, (prepQ s.q n).2.2, markP n l0 s.p0, markP n l1 s.p1⟩ A4 A5))
    replace h := h.conv (sl' := _) (L' := [_, _, _]) rfl rfl
    replace h := h.sel [0, 1] rfl
    replace h := h.conv (sl' := _) (L' := [_, _]) rfl rfl
    exact h.ret2 Try.results31 rfl rfl (Ent.refl _) (⟨A6, c1, rfl, rfl⟩)
end Go.Proofs.Ytllhegccpknncaa
