/-
  The statement's fixed calls: alive.
-/
import Derived.Test.YtllhegccpknncaaSb
import Derived.Test.YtllhegccpknncaaSeat
set_option linter.unusedVariables false
set_option linter.unusedSimpArgs false
set_option linter.unusedSectionVars false
set_option maxRecDepth 8000
namespace Go.Proofs.Ytllhegccpknncaa
open Go.Tr
theorem Read_short (g : Option Addr) (c n : Nat) (hn : n % 17 ≠ 0) (hm : n < 1000000) : Meets Try.prog 20 #[rlv g n c] [] (Det (.tuple #[rlv none 0 0, .int .i64 11]) []) := by
  refine Meets.of_code Try.func20 rfl Try.ntmps20 rfl fun w0 S R a h => ?_
  have h1 : (n : Int).tmod 17 ≠ 0 := by rw [Int.tmod_eq_emod_of_nonneg (by omega)]; omega
  refine C.seq ?_
  refine C.region ?_
  refine St.get h rfl rfl rfl (G.assign rfl rfl) fun a h => ?_
  refine St.get h rfl rfl rfl (G.assign rfl rfl) fun a h => ?_
  refine wpl_nil ?_
  refine X.thenN ?_
  refine C.seq ?_
  refine C.seq ?_
  refine C.region ?_
  refine St.get h rfl rfl rfl (G.move rfl rfl) fun a h => ?_
  refine St.get h rfl rfl rfl (G.lens rfl rfl Try.underlying47) fun a h => ?_
  refine St.get h rfl rfl rfl (G.bin rfl rfl rfl (B.rem (by omega))) fun a h => ?_
  refine St.get h rfl rfl rfl (G.bin rfl rfl rfl (B.neqT (by omega))) fun a h => ?_
  refine wpl_nil ?_
  refine X.thenN ?_
  refine St.condT h rfl ?_
  refine C.seq ?_
  refine C.region ?_
  refine St.get h rfl rfl rfl (G.assign rfl rfl) fun a h => ?_
  refine St.get h rfl rfl rfl (G.assign rfl rfl) fun a h => ?_
  refine wpl_nil ?_
  refine X.thenN ?_
  refine C.ret ?_
  refine X.thenR ?_
  exact h.ret2 Try.results20 rfl rfl (Ent.refl _) (⟨rfl, rfl⟩)
theorem alive15_spec : Meets Try.prog 17 #[] [] (Det (.bool true) []) := by
  refine Meets.of_code Try.func17 rfl Try.ntmps17 rfl fun w0 S R a h => ?_
  refine C.seq ?_
  refine C.region ?_
  refine St.get h rfl rfl rfl (G.assign rfl rfl) fun a h => ?_
  refine wpl_nil ?_
  refine X.thenN ?_
  refine C.seq ?_
  refine C.region ?_
  refine St.call h [] rfl (Ro.nil _) (SNew_spec) rfl rfl rfl Try.call52 rfl rfl fun v L a w hp h => ?_
  obtain ⟨b, rfl, rfl⟩ := hp
  replace h := h.conv (sl' := _) (L' := [_]) rfl rfl
  refine St.get h rfl rfl rfl (G.assign rfl rfl) fun a h => ?_
  refine wpl_nil ?_
  refine X.thenN ?_
  refine C.seq ?_
  refine C.seq ?_
  refine C.region ?_
  refine St.get h rfl rfl rfl (G.move rfl rfl) fun a h => ?_
  refine St.get h rfl rfl rfl (G.bin rfl rfl rfl (B.peql Try.underlying55 _)) fun a h => ?_
  refine wpl_nil ?_
  refine X.thenN ?_
  refine St.condF h rfl ?_
  refine C.skip ?_
  refine X.thenN ?_
  refine C.seq ?_
  refine C.region ?_
  refine St.get h rfl rfl rfl (G.move rfl rfl) fun a h => ?_
  have g0 : KM.Good SM.new.k := ⟨rfl, rfl, (fun w hw => by cases hw), by decide⟩
  have e1 : putS SM.new 1 3 9 = (0, ⟨⟨List.replicate 16 0, List.replicate 16 false, [(1, ⟨[⟨1, 3, 9⟩], false⟩)], [((3, 1), true)]⟩, ⟨[], [], 0⟩, [], []⟩) := by rfl
  have s1 := SPut_spec b SM.new g0 1 3 9
  rw [e1] at s1
  dsimp only at s1
  refine St.callD h [0] rfl (Ro.nil _) (s1) rfl rfl rfl Try.call29 rfl rfl fun a w h => ?_
  replace h := h.conv (sl' := _) (L' := [_]) rfl rfl
  refine wpl_nil ?_
  refine X.thenN ?_
  refine C.seq ?_
  refine C.region ?_
  refine St.get h rfl rfl rfl (G.move rfl rfl) fun a h => ?_
  have q1 : QM.Good ⟨[], [], 0⟩ := good_small (by simp) (by simp) (by simp) (by simp) (by simp)
  have e2 : pushS ⟨⟨List.replicate 16 0, List.replicate 16 false, [(1, ⟨[⟨1, 3, 9⟩], false⟩)], [((3, 1), true)]⟩, ⟨[], [], 0⟩, [], []⟩ 1 7 = (0, ⟨⟨List.replicate 16 0, List.replicate 16 false, [(1, ⟨[⟨1, 3, 9⟩], false⟩)], [((3, 1), true)]⟩, ⟨[], [⟨1, [⟨3, 0, 7⟩], false⟩], 0⟩, [], []⟩) := by rfl
  have s2 := SPush_spec b ⟨⟨List.replicate 16 0, List.replicate 16 false, [(1, ⟨[⟨1, 3, 9⟩], false⟩)], [((3, 1), true)]⟩, ⟨[], [], 0⟩, [], []⟩ q1 1 7
  rw [e2] at s2
  dsimp only at s2
  refine St.callD h [0] rfl (Ro.nil _) (s2) rfl rfl rfl Try.call30 rfl rfl fun a w h => ?_
  replace h := h.conv (sl' := _) (L' := [_]) rfl rfl
  refine wpl_nil ?_
  refine X.thenN ?_
  refine C.seq ?_
  refine C.region ?_
  refine St.get h rfl rfl rfl (G.move rfl rfl) fun a h => ?_
  have g2 : KM.Good ⟨List.replicate 16 0, List.replicate 16 false, [(1, ⟨[⟨1, 3, 9⟩], false⟩)], [((3, 1), true)]⟩ := ⟨rfl, rfl, (fun w hw => by rw [List.mem_singleton.1 hw]; exact ⟨fun c hc => by rw [List.mem_singleton.1 hc]; decide, by decide⟩), by decide⟩
  have q2 : QM.Good ⟨[], [⟨1, [⟨3, 0, 7⟩], false⟩], 0⟩ := good_small (by simp) (by simp) (by simp) (by simp) (by simp)
  have e3 : prepS ⟨⟨List.replicate 16 0, List.replicate 16 false, [(1, ⟨[⟨1, 3, 9⟩], false⟩)], [((3, 1), true)]⟩, ⟨[], [⟨1, [⟨3, 0, 7⟩], false⟩], 0⟩, [], []⟩ 1 = (0, [⟨1, 3, 9⟩, ⟨3, 0, 7⟩], ⟨⟨List.replicate 16 0, List.replicate 16 false, [(1, ⟨[⟨1, 3, 9⟩], true⟩)], [((3, 1), true)]⟩, ⟨[], [⟨1, [⟨3, 0, 7⟩], true⟩], 0⟩, [(1, true)], [(1, true)]⟩) := by rfl
  have s3 := SPrepare_spec b ⟨⟨List.replicate 16 0, List.replicate 16 false, [(1, ⟨[⟨1, 3, 9⟩], false⟩)], [((3, 1), true)]⟩, ⟨[], [⟨1, [⟨3, 0, 7⟩], false⟩], 0⟩, [], []⟩ g2 q2 1
  rw [e3] at s3
  dsimp only at s3
  refine St.call h [0] rfl (Ro.nil _) (s3) rfl rfl rfl Try.call31 rfl rfl fun v L a w hp h => ?_
  obtain ⟨A1, c1, rfl, rfl⟩ := hp
  replace h := h.conv (sl' := _) (L' := [_, _]) rfl rfl
  refine St.get h rfl rfl rfl (G.move rfl rfl) fun a h => ?_
  refine St.get h rfl rfl rfl (G.extract rfl rfl rfl) fun a h => ?_
  refine St.get h rfl rfl rfl (G.extract rfl rfl rfl) fun a h => ?_
  refine St.get h rfl rfl rfl (G.assign rfl rfl) fun a h => ?_
  refine St.get h rfl rfl rfl (G.assign rfl rfl) fun a h => ?_
  refine wpl_nil ?_
  refine X.thenN ?_
  refine C.seq ?_
  refine C.region ?_
  refine St.get h rfl rfl rfl (G.move rfl rfl) fun a h => ?_
  have q3 : QM.Good ⟨[], [⟨1, [⟨3, 0, 7⟩], true⟩], 0⟩ := good_small (by simp) (by simp) (by simp) (by simp) (by simp)
  have e4 : pushS ⟨⟨List.replicate 16 0, List.replicate 16 false, [(1, ⟨[⟨1, 3, 9⟩], true⟩)], [((3, 1), true)]⟩, ⟨[], [⟨1, [⟨3, 0, 7⟩], true⟩], 0⟩, [(1, true)], [(1, true)]⟩ 1 8 = (7, ⟨⟨List.replicate 16 0, List.replicate 16 false, [(1, ⟨[⟨1, 3, 9⟩], true⟩)], [((3, 1), true)]⟩, ⟨[], [⟨1, [⟨3, 0, 7⟩], true⟩], 0⟩, [(1, true)], [(1, true)]⟩) := by rfl
  have s4 := SPush_spec b ⟨⟨List.replicate 16 0, List.replicate 16 false, [(1, ⟨[⟨1, 3, 9⟩], true⟩)], [((3, 1), true)]⟩, ⟨[], [⟨1, [⟨3, 0, 7⟩], true⟩], 0⟩, [(1, true)], [(1, true)]⟩ q3 1 8
  rw [e4] at s4
  dsimp only at s4
  refine St.callD h [0] rfl (Ro.nil _) (s4) rfl rfl rfl Try.call30 rfl rfl fun a w h => ?_
  replace h := h.conv (sl' := _) (L' := [_, _]) rfl rfl
  refine St.get h rfl rfl rfl (G.assign rfl rfl) fun a h => ?_
  refine wpl_nil ?_
  refine X.thenN ?_
  refine C.seq ?_
  refine C.region ?_
  refine St.bslice h (encU8) ([1]) rfl rfl Try.underlying47 Try.sizeOf5 Try.zeroValue5 rfl rfl ⟨rfl, rfl, trivial⟩ rfl rfl rfl fun b1 a w h => ?_
  skip
  refine St.callD h [] rfl (Ro.nil _) ((Read_short _ _ 1 (by decide) (by decide))) rfl rfl rfl Try.call20 rfl rfl fun a w h => ?_
  replace h := h.conv (sl' := _) (L' := [_, _, _]) rfl rfl
  clear g0 e1 s1 q1 e2 s2 g2 q2 e3 s3 q3 e4 s4
  have hx0 : [(⟨1, 3, 9⟩ : Ch), ⟨3, 0, 7⟩][(0 : Int).toNat]? = some ⟨1, 3, 9⟩ := rfl
  have hx1 : [(⟨1, 3, 9⟩ : Ch), ⟨3, 0, 7⟩][(1 : Int).toNat]? = some ⟨3, 0, 7⟩ := rfl
  refine St.get h rfl rfl rfl (G.move rfl rfl) fun a h => ?_
  refine St.get h rfl rfl rfl (G.extract rfl rfl rfl) fun a h => ?_
  refine St.get h rfl rfl rfl (G.extract rfl rfl rfl) fun a h => ?_
  refine St.get h rfl rfl rfl (G.assign rfl rfl) fun a h => ?_
  refine St.get h rfl rfl rfl (G.assign rfl rfl) fun a h => ?_
  refine wpl_nil ?_
  refine X.thenN ?_
  refine C.seq ?_
  refine C.region ?_
  refine St.get h rfl rfl rfl (G.move rfl rfl) fun a h => ?_
  refine St.get h rfl rfl rfl (G.bin rfl rfl rfl (B.eqlT (by omega))) fun a h => ?_
  refine St.get h rfl rfl rfl (G.move rfl rfl) fun a h => ?_
  refine St.guard_yes h rfl rfl rfl rfl rfl ?_
  refine St.get h rfl rfl rfl (G.move rfl rfl) fun a h => ?_
  refine St.guard_yes h rfl rfl rfl rfl rfl ?_
  refine St.get h rfl rfl rfl (G.lens rfl rfl Try.underlying23) fun a h => ?_
  refine St.guard_yes h rfl rfl rfl rfl rfl ?_
  refine St.getP h rfl rfl rfl (G.bin rfl rfl rfl B.eql) (fun hc a h => ?_) (fun hc a h => ?_)
  refine St.get h rfl rfl rfl (G.pickT rfl rfl rfl) fun a h => ?_
  refine St.get h rfl rfl rfl (G.move rfl rfl) fun a h => ?_
  refine St.guard_yes h rfl rfl rfl rfl rfl ?_
  refine St.get h rfl rfl rfl (G.move rfl rfl) fun a h => ?_
  refine St.guard_yes h rfl rfl rfl rfl rfl ?_
  refine St.get h rfl rfl rfl (G.idxo _ 2 rfl rfl rfl rfl (by omega) (by omega) (by omega) Try.underlying23 Try.sizeOf80) fun a h => ?_
  refine St.guard_yes h rfl rfl rfl rfl rfl ?_
  refine St.get h rfl rfl rfl (G.ldoa _ 2 rfl (by assumption) rfl rfl rfl rfl Try.isAgg80 Try.sizeOf80) fun a h => ?_
  replace h := h.conv (sl' := (_, .agg #[_, _, _]) :: _) (L' := _) rfl rfl
  refine St.guard_yes h rfl rfl rfl rfl rfl ?_
  refine St.get h rfl rfl rfl (G.build [(0, 1), (1, 1), (2, 1)] rfl rfl Try.zeroValue80 Try.underlying80 ⟨rfl, Try.sizeOf3, rfl, Try.sizeOf3, rfl, Try.sizeOf22, trivial⟩ rfl) fun a h => ?_
  replace h := h.conv (sl' := (_, .agg #[.int _ _, .int _ _, .int _ _]) :: _) (L' := _) rfl rfl
  refine St.guard_yes h rfl rfl rfl rfl rfl ?_
  refine St.getP h rfl rfl rfl (G.bin rfl rfl rfl (B.eqs3 Try.eqGuardType80 Try.stoodInHeld80 Try.underlying80 rfl rfl rfl rfl rfl rfl Try.underlying3 Try.underlying3 Try.underlying22 Try.isAgg3 Try.isAgg3 Try.isAgg22 Try.sizeOf3 Try.sizeOf3 Try.sizeOf22)) (fun hc1 a h => ?_) (fun hc1 a h => ?_)
  refine St.get h rfl rfl rfl (G.pickT rfl rfl rfl) fun a h => ?_
  refine St.get h rfl rfl rfl (G.move rfl rfl) fun a h => ?_
  refine St.guard_yes h rfl rfl rfl rfl rfl ?_
  refine St.get h rfl rfl rfl (G.move rfl rfl) fun a h => ?_
  refine St.guard_yes h rfl rfl rfl rfl rfl ?_
  refine St.get h rfl rfl rfl (G.idxo _ 2 rfl rfl rfl rfl (by omega) (by omega) (by omega) Try.underlying23 Try.sizeOf80) fun a h => ?_
  refine St.guard_yes h rfl rfl rfl rfl rfl ?_
  refine St.get h rfl rfl rfl (G.ldoa _ 2 rfl (by assumption) rfl rfl rfl rfl Try.isAgg80 Try.sizeOf80) fun a h => ?_
  replace h := h.conv (sl' := (_, .agg #[_, _, _]) :: _) (L' := _) rfl rfl
  refine St.guard_yes h rfl rfl rfl rfl rfl ?_
  refine St.get h rfl rfl rfl (G.build [(0, 1), (1, 1), (2, 1)] rfl rfl Try.zeroValue80 Try.underlying80 ⟨rfl, Try.sizeOf3, rfl, Try.sizeOf3, rfl, Try.sizeOf22, trivial⟩ rfl) fun a h => ?_
  replace h := h.conv (sl' := (_, .agg #[.int _ _, _, .int _ _]) :: _) (L' := _) rfl rfl
  refine St.guard_yes h rfl rfl rfl rfl rfl ?_
  refine St.getP h rfl rfl rfl (G.bin rfl rfl rfl (B.eqs3 Try.eqGuardType80 Try.stoodInHeld80 Try.underlying80 rfl rfl rfl rfl rfl rfl Try.underlying3 Try.underlying3 Try.underlying22 Try.isAgg3 Try.isAgg3 Try.isAgg22 Try.sizeOf3 Try.sizeOf3 Try.sizeOf22)) (fun hc2 a h => ?_) (fun hc2 a h => ?_)
  refine St.get h rfl rfl rfl (G.pickT rfl rfl rfl) fun a h => ?_
  refine St.get h rfl rfl rfl (G.move rfl rfl) fun a h => ?_
  refine St.guard_yes h rfl rfl rfl rfl rfl ?_
  refine St.get h rfl rfl rfl (G.move rfl rfl) fun a h => ?_
  refine St.guard_yes h rfl rfl rfl rfl rfl ?_
  refine St.get h rfl rfl rfl (G.bin rfl rfl rfl (B.eqlT (by omega))) fun a h => ?_
  refine St.get h rfl rfl rfl (G.pickT rfl rfl rfl) fun a h => ?_
  refine St.get h rfl rfl rfl (G.move rfl rfl) fun a h => ?_
  refine St.guard_yes h rfl rfl rfl rfl rfl ?_
  refine St.get h rfl rfl rfl (G.move rfl rfl) fun a h => ?_
  refine St.guard_yes h rfl rfl rfl rfl rfl ?_
  refine St.get h rfl rfl rfl (G.bin rfl rfl rfl (B.eqlT (by omega))) fun a h => ?_
  refine St.get h rfl rfl rfl (G.pickT rfl rfl rfl) fun a h => ?_
  refine St.get h rfl rfl rfl (G.assign rfl rfl) fun a h => ?_
  refine wpl_nil ?_
  refine X.thenN ?_
  refine C.ret ?_
  rotate_left
  refine St.get h rfl rfl rfl (G.pickT rfl rfl rfl) fun a h => ?_
  refine St.get h rfl rfl rfl (G.move rfl rfl) fun a h => ?_
  refine St.guard_no h rfl rfl rfl rfl rfl (by decide) rfl rfl fun a h => ?_
  refine St.guard_no h rfl rfl rfl rfl rfl (by decide) rfl rfl fun a h => ?_
  refine St.get h rfl rfl rfl (G.pickF rfl rfl rfl) fun a h => ?_
  refine St.get h rfl rfl rfl (G.move rfl rfl) fun a h => ?_
  refine St.guard_no h rfl rfl rfl rfl rfl (by decide) rfl rfl fun a h => ?_
  refine St.guard_no h rfl rfl rfl rfl rfl (by decide) rfl rfl fun a h => ?_
  refine St.get h rfl rfl rfl (G.pickF rfl rfl rfl) fun a h => ?_
  refine St.get h rfl rfl rfl (G.assign rfl rfl) fun a h => ?_
  refine wpl_nil ?_
  refine X.thenN ?_
  refine C.ret ?_
  rotate_left
  refine St.get h rfl rfl rfl (G.pickT rfl rfl rfl) fun a h => ?_
  refine St.get h rfl rfl rfl (G.move rfl rfl) fun a h => ?_
  refine St.guard_no h rfl rfl rfl rfl rfl (by decide) rfl rfl fun a h => ?_
  refine St.guard_no h rfl rfl rfl rfl rfl (by decide) rfl rfl fun a h => ?_
  refine St.guard_no h rfl rfl rfl rfl rfl (by decide) rfl rfl fun a h => ?_
  refine St.guard_no h rfl rfl rfl rfl rfl (by decide) rfl rfl fun a h => ?_
  refine St.guard_no h rfl rfl rfl rfl rfl (by decide) rfl rfl fun a h => ?_
  refine St.get h rfl rfl rfl (G.pickF rfl rfl rfl) fun a h => ?_
  refine St.get h rfl rfl rfl (G.move rfl rfl) fun a h => ?_
  refine St.guard_no h rfl rfl rfl rfl rfl (by decide) rfl rfl fun a h => ?_
  refine St.guard_no h rfl rfl rfl rfl rfl (by decide) rfl rfl fun a h => ?_
  refine St.get h rfl rfl rfl (G.pickF rfl rfl rfl) fun a h => ?_
  refine St.get h rfl rfl rfl (G.move rfl rfl) fun a h => ?_
  refine St.guard_no h rfl rfl rfl rfl rfl (by decide) rfl rfl fun a h => ?_
  refine St.guard_no h rfl rfl rfl rfl rfl (by decide) rfl rfl fun a h => ?_
  refine St.get h rfl rfl rfl (G.pickF rfl rfl rfl) fun a h => ?_
  refine St.get h rfl rfl rfl (G.assign rfl rfl) fun a h => ?_
  refine wpl_nil ?_
  refine X.thenN ?_
  refine C.ret ?_
  rotate_left
  refine St.get h rfl rfl rfl (G.pickT rfl rfl rfl) fun a h => ?_
  refine St.get h rfl rfl rfl (G.move rfl rfl) fun a h => ?_
  refine St.guard_no h rfl rfl rfl rfl rfl (by decide) rfl rfl fun a h => ?_
  refine St.guard_no h rfl rfl rfl rfl rfl (by decide) rfl rfl fun a h => ?_
  refine St.guard_no h rfl rfl rfl rfl rfl (by decide) rfl rfl fun a h => ?_
  refine St.guard_no h rfl rfl rfl rfl rfl (by decide) rfl rfl fun a h => ?_
  refine St.guard_no h rfl rfl rfl rfl rfl (by decide) rfl rfl fun a h => ?_
  refine St.get h rfl rfl rfl (G.pickF rfl rfl rfl) fun a h => ?_
  refine St.get h rfl rfl rfl (G.move rfl rfl) fun a h => ?_
  refine St.guard_no h rfl rfl rfl rfl rfl (by decide) rfl rfl fun a h => ?_
  refine St.guard_no h rfl rfl rfl rfl rfl (by decide) rfl rfl fun a h => ?_
  refine St.guard_no h rfl rfl rfl rfl rfl (by decide) rfl rfl fun a h => ?_
  refine St.guard_no h rfl rfl rfl rfl rfl (by decide) rfl rfl fun a h => ?_
  refine St.guard_no h rfl rfl rfl rfl rfl (by decide) rfl rfl fun a h => ?_
  refine St.get h rfl rfl rfl (G.pickF rfl rfl rfl) fun a h => ?_
  refine St.get h rfl rfl rfl (G.move rfl rfl) fun a h => ?_
  refine St.guard_no h rfl rfl rfl rfl rfl (by decide) rfl rfl fun a h => ?_
  refine St.guard_no h rfl rfl rfl rfl rfl (by decide) rfl rfl fun a h => ?_
  refine St.get h rfl rfl rfl (G.pickF rfl rfl rfl) fun a h => ?_
  refine St.get h rfl rfl rfl (G.move rfl rfl) fun a h => ?_
  refine St.guard_no h rfl rfl rfl rfl rfl (by decide) rfl rfl fun a h => ?_
  refine St.guard_no h rfl rfl rfl rfl rfl (by decide) rfl rfl fun a h => ?_
  refine St.get h rfl rfl rfl (G.pickF rfl rfl rfl) fun a h => ?_
  refine St.get h rfl rfl rfl (G.assign rfl rfl) fun a h => ?_
  refine wpl_nil ?_
  refine X.thenN ?_
  refine C.ret ?_
  rotate_left
  · replace h := h.sel [] rfl
    exact h.ret1 Try.results17 rfl (Ent.refl _) (⟨rfl, rfl⟩)
  · exact absurd ⟨rfl, rfl, rfl⟩ hc2
  · exact absurd ⟨rfl, rfl, rfl⟩ hc1
  · exact absurd rfl hc
end Go.Proofs.Ytllhegccpknncaa
