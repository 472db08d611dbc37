/-
  The document's queue: Restore, Commit; trothref13.SameChanges.
-/
import Derived.Test.YtllhegccpknncaaRd
import Derived.Test.YtllhegccpknncaaSeat
set_option linter.unusedVariables false
set_option linter.unusedSimpArgs false
set_option linter.unusedSectionVars false
set_option maxRecDepth 8000
namespace Go.Proofs.Ytllhegccpknncaa
open Go.Tr

theorem RestoreR_spec (b o : Nat) (q : RM) (hq : q.Good) (g : Option Addr) (c : Nat) (l : List Ch) (n : Int) (hl : l.length < 1000000) : Meets Try.prog 49 #[.pointer (some ⟨b, o, none⟩), .int .i64 n, rlv g l.length c] [RAt b o q, rdl encCh g l]
    (Det (.int .i64 (restR q n l).1) [RAt b o (restR q n l).2]) := by
  refine Meets.of_code Try.func49 rfl Try.ntmps49 rfl fun w0 S R a h => ?_
  refine C.seq ?_
  refine C.region ?_
  refine St.get h rfl rfl rfl (G.assign rfl rfl) fun a h => ?_
  refine wpl_nil ?_
  refine X.thenN ?_
  refine C.seq ?_
  refine C.seq ?_
  refine C.region ?_
  refine St.get h rfl rfl rfl (G.move rfl rfl) fun a h => ?_
  refine St.getP h rfl rfl rfl (G.bin rfl rfl rfl B.lss) (fun hc a h => ?_) (fun hc a h => ?_)
  refine St.get h rfl rfl rfl (G.move rfl rfl) fun a h => ?_
  refine St.guard_no h rfl rfl rfl rfl rfl (by decide) rfl rfl fun a h => ?_
  refine St.guard_no h rfl rfl rfl rfl rfl (by decide) rfl rfl fun a h => ?_
  refine St.guard_no h rfl rfl rfl rfl rfl (by decide) rfl rfl fun a h => ?_
  refine St.guard_no h rfl rfl rfl rfl rfl (by decide) rfl rfl fun a h => ?_
  refine St.get h rfl rfl rfl (G.pickT rfl rfl rfl) fun a h => ?_
  refine wpl_nil ?_
  refine X.thenN ?_
  refine St.condT h rfl ?_
  refine C.seq ?_
  refine C.region ?_
  refine St.get h rfl rfl rfl (G.assign rfl rfl) fun a h => ?_
  refine wpl_nil ?_
  refine X.thenN ?_
  refine C.ret ?_
  refine X.thenR ?_
  rotate_left
  refine St.get h rfl rfl rfl (G.move rfl rfl) fun a h => ?_
  refine St.guard_yes h rfl rfl rfl rfl rfl ?_
  refine St.get h rfl rfl rfl (G.move rfl rfl) fun a h => ?_
  refine St.guard_yes h rfl rfl rfl rfl rfl ?_
  refine St.get h rfl rfl rfl (G.move rfl rfl) fun a h => ?_
  refine St.guard_yes h rfl rfl rfl rfl rfl ?_
  rotate_left
  · have e : restR q n l = (1, q) := by simp [restR, hc]
    rw [e]
    replace h := h.sel [0] rfl
    replace h := h.conv (sl' := _) (L' := [_]) rfl rfl
    exact h.ret1 Try.results49 rfl (Ent.refl _) (⟨rfl, rfl⟩)
  · refine St.callD h [0] rfl (Ro.cons 0 rfl (rdl_ro _ _ _) (Ro.nil _)) ((Right_spec b o q hq g c l (by omega))) rfl rfl rfl Try.call87 rfl rfl fun a w h => ?_
    replace h := h.conv (sl' := _) (L' := [_, _]) rfl rfl
    cases hr : rightR q l
    · have e : restR q n l = (1, q) := by simp [restR, hc, hr]
      rw [e]
      rw [hr] at h
      refine St.guard_yes h rfl rfl rfl rfl rfl ?_
      refine St.get h rfl rfl rfl (G.un rfl rfl B.not) fun a h => ?_
      refine St.get h rfl rfl rfl (G.pickF rfl rfl rfl) fun a h => ?_
      refine wpl_nil ?_
      refine X.thenN ?_
      refine St.condT h rfl ?_
      refine C.seq ?_
      refine C.region ?_
      refine St.get h rfl rfl rfl (G.assign rfl rfl) fun a h => ?_
      refine wpl_nil ?_
      refine X.thenN ?_
      refine C.ret ?_
      refine X.thenR ?_
      replace h := h.sel [0] rfl
      replace h := h.conv (sl' := _) (L' := [_]) rfl rfl
      exact h.ret1 Try.results49 rfl (Ent.refl _) (⟨rfl, rfl⟩)
    rw [hr] at h
    refine St.guard_yes h rfl rfl rfl rfl rfl ?_
    refine St.get h rfl rfl rfl (G.un rfl rfl B.not) fun a h => ?_
    refine St.get h rfl rfl rfl (G.pickF rfl rfl rfl) fun a h => ?_
    refine wpl_nil ?_
    refine X.thenN ?_
    refine St.condF h rfl ?_
    refine C.skip ?_
    refine X.thenN ?_
    refine C.seq ?_
    refine C.seq ?_
    refine C.region ?_
    refine St.get h rfl rfl rfl (G.move rfl rfl) fun a h => ?_
    refine St.get h rfl rfl rfl (G.move rfl rfl) fun a h => ?_
    obtain ⟨gi, ci, gw, cw, ws, hw, h⟩ := h.openR 0 rfl
    have hfs := Find_spec b o n (rlv gi q.items.length ci) (.int .i64 q.given) gw cw ws
    have hwl := (hq.lens hw).1
    rcases hq' : findW n ws with _ | pq
    · rw [hq'] at hfs
      have hnn := findW_none' hq'
      rw [hw] at hnn
      have e : restR q n l = (0, ⟨q.items, restW n q.works l true, q.given⟩) := by simp [restR, hc, hr, hnn]
      rw [e]
      refine St.callD h [0, 1, 1] rfl (Ro.nil _) (hfs) rfl rfl rfl Try.call85 rfl rfl fun a w h => ?_
      replace h := h.conv (sl' := _) (L' := [cells _ _ [_, _, _], _, _, _, _]) rfl rfl
      refine St.get h rfl rfl rfl (G.bin rfl rfl rfl (B.pneq Try.underlying133 _)) fun a h => ?_
      refine wpl_nil ?_
      refine X.thenN ?_
      refine St.condF h rfl ?_
      refine C.skip ?_
      refine X.thenN ?_
      refine C.seq ?_
      refine C.seq ?_
      refine C.region ?_
      refine St.get h rfl rfl rfl (G.move rfl rfl) fun a h => ?_
      refine St.get h rfl rfl rfl (G.lens rfl rfl Try.underlying23) fun a h => ?_
      refine St.getP h rfl rfl rfl (G.bin rfl rfl rfl B.gtr) (fun hc1 a h => ?_) (fun hc1 a h => ?_)
      refine wpl_nil ?_
      refine X.thenN ?_
      refine St.condT h rfl ?_
      refine C.seq ?_
      refine C.region ?_
      refine St.get h rfl rfl rfl (G.move rfl rfl) fun a h => ?_
      refine St.get h rfl rfl rfl (G.build [(0, 1), (1, 1), (2, 1)] rfl rfl Try.zeroValue136 Try.underlying136 ⟨rfl, Try.sizeOf3, rfl, Try.sizeOf23, rfl, Try.sizeOf4, trivial⟩ rfl) fun a h => ?_
      replace h := h.conv (sl' := (_, .agg #[.int _ _, _, .bool _]) :: _) (L' := _) rfl rfl
      refine St.box h rfl rfl rfl rfl rfl fun b1 a w h => ?_
      replace h := h.conv (sl' := _) (L' := [cells _ _ [_, _, _], cells _ _ [_, _, _], _, _, _, _]) rfl rfl
      refine St.get h rfl rfl rfl (G.assign rfl rfl) fun a h => ?_
      refine wpl_nil ?_
      refine X.thenN ?_
      refine C.seq ?_
      refine C.region ?_
      refine St.get h rfl rfl rfl (G.move rfl rfl) fun a h => ?_
      refine St.get h rfl rfl rfl (G.move rfl rfl) fun a h => ?_
      refine St.get h rfl rfl rfl (G.nilc rfl rfl) fun a h => ?_
      refine St.get h rfl rfl rfl (G.fadr 1 rfl rfl Try.underlying136 rfl rfl Try.sizeOf23) fun a h => ?_
      refine St.get h rfl rfl rfl (G.ld 0 1 rfl rfl rfl rfl rfl Try.isAgg23) fun a h => ?_
      refine St.get h rfl rfl rfl (G.move rfl rfl) fun a h => ?_
      rotate_left
      refine wpl_nil ?_
      refine X.thenN ?_
      refine St.condF h rfl ?_
      refine C.skip ?_
      refine X.thenN ?_
      refine C.seq ?_
      refine C.region ?_
      refine St.get h rfl rfl rfl (G.assign rfl rfl) fun a h => ?_
      refine wpl_nil ?_
      refine X.thenN ?_
      refine C.ret ?_
      rotate_left
      · have hne : l ≠ [] := by intro e; subst e; simp at hc1
        have e3 : restW n q.works l true = q.works ++ [⟨n, l, true⟩] := by simp [restW, hne]
        rw [e3]
        replace h := h.nil encCh 80
        refine St.append h _ 0 rfl (Ro.cons 5 rfl (rdl_ro _ _ _) (Ro.nil _)) rfl rfl rfl (by first | rfl | omega | simp) (by first | rfl | omega | simp) Try.underlying23 Try.typeInfo80 rfl rfl rfl 24 rfl (by (try simp only [List.length_append, List.length_cons, List.length_nil, List.length_map, List.length_take]); omega) (by (try simp only [List.length_append, List.length_cons, List.length_nil, List.length_map, List.length_take]); omega) rfl rfl rfl fun A1 c1 a w hnil h => ?_
        replace h := h.conv (sl' := _) (L' := [_, cells _ _ [_, _, _], cells _ _ [_, _, _], _, _, _, _]) rfl rfl
        refine St.get h rfl rfl rfl (G.nilc rfl rfl) fun a h => ?_
        refine St.get h rfl rfl rfl (G.fadr 1 rfl rfl Try.underlying136 rfl rfl Try.sizeOf23) fun a h => ?_
        refine St.put h rfl rfl (U.st 1 1 rfl rfl rfl rfl rfl rfl rfl Try.sizeOf23) fun a w h => ?_
        replace h := h.conv (sl' := _) (L' := [_, cells _ _ [_, _, _], cells _ _ [_, _, _], _, _, _, _]) rfl rfl
        refine wpl_nil ?_
        refine X.thenN ?_
        refine C.region ?_
        refine St.get h rfl rfl rfl (G.move rfl rfl) fun a h => ?_
        refine St.get h rfl rfl rfl (G.move rfl rfl) fun a h => ?_
        refine St.get h rfl rfl rfl (G.nilc rfl rfl) fun a h => ?_
        refine St.get h rfl rfl rfl (G.fadr 1 rfl rfl Try.underlying42 rfl rfl Try.sizeOf40) fun a h => ?_
        refine St.get h rfl rfl rfl (G.ld 2 1 rfl rfl rfl rfl rfl Try.isAgg40) fun a h => ?_
        refine St.get h rfl rfl rfl (G.move rfl rfl) fun a h => ?_
        refine St.bslice h (encPtr) ([b1]) rfl rfl Try.underlying40 Try.sizeOf133 Try.zeroValue133 rfl rfl ⟨rfl, rfl, trivial⟩ rfl rfl rfl fun b2 a w h => ?_
        skip
        refine St.append h _ 4 rfl (Ro.cons 0 rfl (ownl_ro _ _ _ _ _) (Ro.nil _)) rfl rfl rfl (by first | rfl | omega | simp) (by first | rfl | omega | simp) Try.underlying40 Try.typeInfo133 rfl rfl rfl 8 rfl (by (try simp only [List.length_append, List.length_cons, List.length_nil, List.length_map, List.length_take]); omega) (by (try simp only [List.length_append, List.length_cons, List.length_nil, List.length_map, List.length_take]); omega) rfl rfl rfl fun A2 c2 a w hnil h => ?_
        replace h := h.conv (sl' := _) (L' := [_, _, _, cells _ _ [_, _, _], cells _ _ [_, _, _], _, _, _]) rfl rfl
        refine St.get h rfl rfl rfl (G.nilc rfl rfl) fun a h => ?_
        refine St.get h rfl rfl rfl (G.fadr 1 rfl rfl Try.underlying42 rfl rfl Try.sizeOf40) fun a h => ?_
        refine St.put h rfl rfl (U.st 4 1 rfl rfl rfl rfl rfl rfl rfl Try.sizeOf40) fun a w h => ?_
        replace h := h.conv (sl' := _) (L' := [_, _, _, cells _ _ [_, _, _], cells _ _ [_, _, _], _, _, _]) rfl rfl
        refine wpl_nil ?_
        refine X.thenN ?_
        refine C.seq ?_
        refine C.region ?_
        refine St.get h rfl rfl rfl (G.assign rfl rfl) fun a h => ?_
        refine wpl_nil ?_
        refine X.thenN ?_
        refine C.ret ?_
        replace h := h.fold [3, 2] rfl ((WAt_mk 80 b1 n ([] ++ l) true A1 c1))
        replace h := h.conv (sl' := _) (L' := [_, _, _, cells _ _ [_, _, _], _, _, _]) rfl rfl
        replace h := h.fold [0, 4] rfl ((many_snocL (WAt 80) ws (b1, ⟨n, [] ++ l, true⟩)))
        replace h := h.conv (sl' := _) (L' := [_, _, _, cells _ _ [_, _, _], _, _]) rfl rfl
        have e1 : (ws ++ [(b1, (⟨n, [] ++ l, true⟩ : QW))]).map Prod.fst = ws.map Prod.fst ++ [b1] := by simp
        have e2 : (ws ++ [(b1, (⟨n, [] ++ l, true⟩ : QW))]).length = (ws.map Prod.fst ++ [b1]).length := by simp
        replace h := h.conv (L' := [_, ownl encPtr 133 A2 c2 ((ws ++ [(b1, (⟨n, [] ++ l, true⟩ : QW))]).map Prod.fst), _, cells b o [_, rlv A2 (ws ++ [(b1, (⟨n, [] ++ l, true⟩ : QW))]).length c2, _], _, _]) rfl (by rw [e1, e2])
        replace h := h.fold [3, 4, 1, 0] rfl ((RAt_mk (q := ⟨q.items, q.works ++ [⟨n, l, true⟩], q.given⟩) gi ci A2 c2 (ws ++ [(b1, ⟨n, [] ++ l, true⟩)]) (by rw [List.map_append, hw]; rfl)))
        replace h := h.conv (sl' := _) (L' := [_, _, _]) rfl rfl
        replace h := h.sel [0] rfl
        replace h := h.conv (sl' := _) (L' := [_]) rfl rfl
        exact h.ret1 Try.results49 rfl (Ent.refl _) (⟨rfl, rfl⟩)
      · have hl0 : l = [] := List.length_eq_zero_iff.1 (by omega)
        subst hl0
        replace h := h.fold [0, 3, 1, 2] rfl ((RAt_mk gi ci gw cw ws hw))
        replace h := h.conv (sl' := _) (L' := [_, _]) rfl rfl
        replace h := h.sel [0] rfl
        replace h := h.conv (sl' := _) (L' := [_]) rfl rfl
        exact h.ret1 Try.results49 rfl (Ent.refl _) (⟨rfl, rfl⟩)
    · rw [hq'] at hfs
      obtain ⟨i, p, hi, rfl, hpn, hnn⟩ := findW_some' hq'
      rw [hw] at hnn
      have e : restR q n l = (7, q) := by simp [restR, hc, hr, hnn]
      rw [e]
      refine St.callD h [0, 1, 1] rfl (Ro.nil _) (hfs) rfl rfl rfl Try.call85 rfl rfl fun a w h => ?_
      replace h := h.conv (sl' := _) (L' := [cells _ _ [_, _, _], _, _, _, _]) rfl rfl
      refine St.get h rfl rfl rfl (G.bin rfl rfl rfl (B.pneq Try.underlying133 _)) fun a h => ?_
      refine wpl_nil ?_
      refine X.thenN ?_
      refine St.condT h rfl ?_
      refine C.seq ?_
      refine C.region ?_
      refine St.get h rfl rfl rfl (G.assign rfl rfl) fun a h => ?_
      refine wpl_nil ?_
      refine X.thenN ?_
      refine C.ret ?_
      refine X.thenR ?_
      replace h := h.fold [0, 3, 1, 2] rfl ((RAt_mk gi ci gw cw ws hw))
      replace h := h.conv (sl' := _) (L' := [_, _]) rfl rfl
      replace h := h.sel [0] rfl
      replace h := h.conv (sl' := _) (L' := [_]) rfl rfl
      exact h.ret1 Try.results49 rfl (Ent.refl _) (⟨rfl, rfl⟩)
def sameC (a b : List Ch) : Bool := decide (a.length = b.length) && sameG a b
  where sameG : List Ch → List Ch → Bool
  | [], _ => true
  | _, [] => true
  | x :: l, y :: r => decide (x.kind = y.kind ∧ x.key = y.key ∧ x.val = y.val) && sameG l r
theorem SameChanges_spec (g g' : Option Addr) (c c' : Nat) (ys zs : List Ch) : Meets Try.prog 13 #[rlv g ys.length c, rlv g' zs.length c'] [rdl encCh g ys, rdl encCh g' zs] (Det (.bool (sameC ys zs)) []) := by
  refine Meets.of_code Try.func13 rfl Try.ntmps13 rfl fun w0 S R a h => ?_
  have hlen : ys.length ≤ 9223372036854775807 := by have := h.tell1 0 rfl fun _ _ _ => rdl_len; simpa using this
  have hlen2 : zs.length ≤ 9223372036854775807 := by have := h.tell1 1 rfl fun _ _ _ => rdl_len; simpa using this
  refine C.seq ?_
  refine C.region ?_
  refine St.get h rfl rfl rfl (G.assign rfl rfl) fun a h => ?_
  refine wpl_nil ?_
  refine X.thenN ?_
  refine C.seq ?_
  refine C.seq ?_
  refine C.region ?_
  refine St.get h rfl rfl rfl (G.move rfl rfl) fun a h => ?_
  refine St.get h rfl rfl rfl (G.lens rfl rfl Try.underlying23) fun a h => ?_
  refine St.get h rfl rfl rfl (G.move rfl rfl) fun a h => ?_
  refine St.get h rfl rfl rfl (G.lens rfl rfl Try.underlying23) fun a h => ?_
  refine St.getP h rfl rfl rfl (G.bin rfl rfl rfl B.neq) (fun hc a h => ?_) (fun hc a h => ?_)
  refine wpl_nil ?_
  refine X.thenN ?_
  refine St.condT h rfl ?_
  refine C.seq ?_
  refine C.region ?_
  refine St.get h rfl rfl rfl (G.assign rfl rfl) fun a h => ?_
  refine wpl_nil ?_
  refine X.thenN ?_
  refine C.ret ?_
  refine X.thenR ?_
  rotate_left
  refine wpl_nil ?_
  refine X.thenN ?_
  refine St.condF h rfl ?_
  refine C.skip ?_
  refine X.thenN ?_
  refine C.seq ?_
  refine C.seq ?_
  refine C.region ?_
  refine St.get h rfl rfl rfl (G.assign rfl rfl) fun a h => ?_
  refine wpl_nil ?_
  refine X.thenN ?_
  refine C.block ?_
  rotate_left
  · replace h := h.sel [] rfl
    exact h.ret1 Try.results13 rfl (Ent.refl _) (⟨by rw [sameC, decide_eq_false (by omega)]; rfl, rfl⟩)
  · have hab : ys.length = zs.length := by omega
    refine C.loop (fun m t w => ∃ i : Nat, i + m = ys.length ∧ sameC.sameG ys zs = sameC.sameG (ys.drop i) (zs.drop i) ∧ St w0 S R 26 [(0, rlv g ys.length c), (1, rlv g' zs.length c'), (5, .int .i64 i)] [rdl encCh g ys, rdl encCh g' zs] t w) ys.length ⟨0, by omega, rfl, h.sub ⟨rfl, rfl, rfl, trivial⟩⟩ ?_
    rintro m t w ⟨i, hi, hf, h⟩
    by_cases hlt : i < ys.length
    · obtain ⟨x, hx⟩ : ∃ x, ys[i]? = some x := ⟨_, List.getElem?_eq_getElem hlt⟩
      obtain ⟨y, hy⟩ : ∃ y, zs[i]? = some y := ⟨_, List.getElem?_eq_getElem (by omega)⟩
      have hx1 : ys[(i : Int).toNat]? = some x := by simp [hx]
      have hy1 : zs[(i : Int).toNat]? = some y := by simp [hy]
      rw [drop_cons hx, drop_cons hy, sameC.sameG] at hf
      refine C.seq ?_
      refine C.seq ?_
      refine C.region ?_
      refine St.get h rfl rfl rfl (G.move rfl rfl) fun a h => ?_
      refine St.get h rfl rfl rfl (G.move rfl rfl) fun a h => ?_
      refine St.get h rfl rfl rfl (G.lens rfl rfl Try.underlying23) fun a h => ?_
      refine St.get h rfl rfl rfl (G.bin rfl rfl rfl (B.lssT (by omega))) fun a h => ?_
      refine wpl_nil ?_
      refine X.thenN ?_
      refine St.condT h rfl ?_
      refine C.skip ?_
      refine X.thenN ?_
      refine C.seq ?_
      refine C.block ?_
      refine C.seq ?_
      refine C.still Try_mixed h (by decide +kernel) fun w h => ?_
      refine St.getS h rfl rfl rfl (G.move rfl rfl) fun a h => ?_
      refine St.getS h rfl rfl rfl (G.move rfl rfl) fun a h => ?_
      refine St.getS h rfl rfl rfl (G.idxr _ 0 rfl rfl rfl rfl (by omega) (by omega) (by omega) Try.underlying23 Try.sizeOf80) fun a h => ?_
      refine St.getS h rfl rfl rfl (G.ldea _ 0 rfl (by assumption) rfl rfl rfl rfl Try.isAgg80 Try.sizeOf80) fun a h => ?_
      replace h := h.conv (sl' := (_, .agg #[_, _, _]) :: _) (L' := _) rfl rfl
      refine St.getS h rfl rfl rfl (G.move rfl rfl) fun a h => ?_
      refine St.getS h rfl rfl rfl (G.move rfl rfl) fun a h => ?_
      refine St.getS h rfl rfl rfl (G.idxr _ 1 rfl rfl rfl rfl (by omega) (by omega) (by omega) Try.underlying23 Try.sizeOf80) fun a h => ?_
      refine St.getS h rfl rfl rfl (G.ldea _ 1 rfl (by assumption) rfl rfl rfl rfl Try.isAgg80 Try.sizeOf80) fun a h => ?_
      replace h := h.conv (sl' := (_, .agg #[_, _, _]) :: _) (L' := _) rfl rfl
      refine St.getPS h rfl rfl rfl (G.bin rfl rfl rfl (B.nes3 Try.eqGuardType80 Try.stoodInHeld80 Try.underlying80 rfl rfl rfl rfl rfl rfl Try.underlying3 Try.underlying3 Try.underlying22 Try.isAgg3 Try.isAgg3 Try.isAgg22 Try.sizeOf3 Try.sizeOf3 Try.sizeOf22)) (fun hc1 a h => ?_) (fun hc1 a h => ?_)
      refine wps_nil ?_
      refine X.thenN ?_
      refine St.condT h rfl ?_
      refine C.seq ?_
      refine C.region ?_
      refine St.get h rfl rfl rfl (G.assign rfl rfl) fun a h => ?_
      refine wpl_nil ?_
      refine X.thenN ?_
      refine C.ret ?_
      refine X.blkR ?_
      refine X.thenR ?_
      refine X.thenR ?_
      refine X.blkR ?_
      refine X.thenR ?_
      rotate_left
      refine wps_nil ?_
      refine X.thenN ?_
      refine St.condF h rfl ?_
      refine C.skip ?_
      refine X.blkN ?_
      refine X.thenN ?_
      refine C.region ?_
      refine St.get h rfl rfl rfl (G.move rfl rfl) fun a h => ?_
      refine St.get h rfl rfl rfl (G.bin rfl rfl rfl (B.addi (by omega) (by omega))) fun a h => ?_
      refine St.get h rfl rfl rfl (G.assign rfl rfl) fun a h => ?_
      refine wpl_nil ?_
      refine X.thenN ?_
      rotate_left
      · replace h := h.sel [] rfl
        exact h.ret1 Try.results13 rfl (Ent.refl _) (⟨by rw [sameC, hf, decide_eq_false hc1]; simp, rfl⟩)
      · rw [decide_eq_true (by simpa using hc1), Bool.true_and] at hf
        exact ⟨m - 1, by omega, i + 1, by omega, hf, h.sub ⟨rfl, rfl, rfl, trivial⟩⟩
    · rw [List.drop_eq_nil_of_le (by omega)] at hf
      refine C.seq ?_
      refine C.seq ?_
      refine C.region ?_
      refine St.get h rfl rfl rfl (G.move rfl rfl) fun a h => ?_
      refine St.get h rfl rfl rfl (G.move rfl rfl) fun a h => ?_
      refine St.get h rfl rfl rfl (G.lens rfl rfl Try.underlying23) fun a h => ?_
      refine St.get h rfl rfl rfl (G.bin rfl rfl rfl (B.lssF (by omega))) fun a h => ?_
      refine wpl_nil ?_
      refine X.thenN ?_
      refine St.condF h rfl ?_
      refine C.exit ?_
      refine X.thenE ?_
      refine X.thenE ?_
      refine X.blkE ?_
      refine X.thenN ?_
      refine C.seq ?_
      refine C.region ?_
      refine St.get h rfl rfl rfl (G.assign rfl rfl) fun a h => ?_
      refine wpl_nil ?_
      refine X.thenN ?_
      refine C.ret ?_
      replace h := h.sel [] rfl
      exact h.ret1 Try.results13 rfl (Ent.refl _) (⟨by rw [sameC, hf, decide_eq_true hab]; rfl, rfl⟩)
end Go.Proofs.Ytllhegccpknncaa
