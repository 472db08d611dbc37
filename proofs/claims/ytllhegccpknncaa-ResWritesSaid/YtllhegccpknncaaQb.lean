/-
  The queue's Commit and Backout.
-/
import Derived.Test.YtllhegccpknncaaSlwk
import Derived.Test.YtllhegccpknncaaSeat
set_option linter.unusedVariables false
set_option linter.unusedSimpArgs false
set_option linter.unusedSectionVars false
set_option maxRecDepth 8000
namespace Go.Proofs.Ytllhegccpknncaa
open Go.Tr

theorem Commit_nil (n : Int) : Meets Try.prog 38 #[.pointer none, .int .i64 n] [] (Det (.int .i64 6) []) := by
  refine Meets.of_code Try.func38 rfl Try.ntmps38 rfl fun w0 S R a h => ?_
  refine C.seq ?_
  refine C.region ?_
  refine St.box h rfl rfl rfl rfl rfl fun b1 a w h => ?_
  replace h := h.conv (sl' := _) (L' := [cells _ _ [_]]) rfl rfl
  refine St.get h rfl rfl rfl (G.assign rfl rfl) fun a h => ?_
  refine wpl_nil ?_
  refine X.thenN ?_
  refine C.seq ?_
  refine C.seq ?_
  refine C.region ?_
  refine St.get h rfl rfl rfl (G.move rfl rfl) fun a h => ?_
  refine St.get h rfl rfl rfl (G.ld 0 0 rfl rfl rfl rfl rfl Try.isAgg3) fun a h => ?_
  refine St.callD h [] rfl (Ro.nil _) ((decided_nil n)) rfl rfl rfl Try.call74 rfl rfl fun a w h => ?_
  replace h := h.conv (sl' := _) (L' := [cells _ _ [_]]) rfl rfl
  refine St.get h rfl rfl rfl (G.assign rfl rfl) fun a h => ?_
  refine wpl_nil ?_
  refine X.thenN ?_
  refine C.seq ?_
  refine C.region ?_
  refine St.get h rfl rfl rfl (G.move rfl rfl) fun a h => ?_
  refine St.get h rfl rfl rfl (G.bin rfl rfl rfl (B.neqT (by omega))) fun a h => ?_
  refine wpl_nil ?_
  refine X.thenN ?_
  refine St.condT h rfl ?_
  refine C.seq ?_
  refine C.region ?_
  refine St.get h rfl rfl rfl (G.move rfl rfl) fun a h => ?_
  refine St.get h rfl rfl rfl (G.assign rfl rfl) fun a h => ?_
  refine wpl_nil ?_
  refine X.thenN ?_
  refine C.ret ?_
  refine X.thenR ?_
  replace h := h.sel [] rfl
  exact h.ret1 Try.results38 rfl (Ent.refl _) (⟨rfl, rfl⟩)
theorem Commit_spec (b o : Nat) (q : QM) (n : Int) (hq : q.Good) : Meets Try.prog 38 #[.pointer (some ⟨b, o, none⟩), .int .i64 n] [QAt b o q] (Det (.int .i64 (commitQ q n).1) [QAt b o (commitQ q n).2]) := by
  refine Meets.of_code Try.func38 rfl Try.ntmps38 rfl fun w0 S R a h => ?_
  refine C.seq ?_
  refine C.region ?_
  refine St.box h rfl rfl rfl rfl rfl fun b1 a w h => ?_
  replace h := h.conv (sl' := _) (L' := [cells _ _ [_], _]) rfl rfl
  refine St.get h rfl rfl rfl (G.assign rfl rfl) fun a h => ?_
  refine wpl_nil ?_
  refine X.thenN ?_
  refine C.seq ?_
  refine C.seq ?_
  refine C.region ?_
  refine St.get h rfl rfl rfl (G.move rfl rfl) fun a h => ?_
  refine St.get h rfl rfl rfl (G.ld 0 0 rfl rfl rfl rfl rfl Try.isAgg3) fun a h => ?_
  refine St.callD h [] rfl (Ro.nil _) ((decided_spec b o n)) rfl rfl rfl Try.call74 rfl rfl fun a w h => ?_
  replace h := h.conv (sl' := _) (L' := [cells _ _ [_], _]) rfl rfl
  by_cases hn : n < 1
  · have e : commitQ q n = (1, q) := by simp [commitQ, hn]
    have e1 : decQ n = 1 := by simp [decQ, hn]
    rw [e1] at h
    rw [e]
    refine St.get h rfl rfl rfl (G.assign rfl rfl) fun a h => ?_
    refine wpl_nil ?_
    refine X.thenN ?_
    refine C.seq ?_
    refine C.region ?_
    refine St.get h rfl rfl rfl (G.move rfl rfl) fun a h => ?_
    refine St.get h rfl rfl rfl (G.bin rfl rfl rfl (B.neqT (by omega))) fun a h => ?_
    refine wpl_nil ?_
    refine X.thenN ?_
    refine St.condT h rfl ?_
    refine C.seq ?_
    refine C.region ?_
    refine St.get h rfl rfl rfl (G.move rfl rfl) fun a h => ?_
    refine St.get h rfl rfl rfl (G.assign rfl rfl) fun a h => ?_
    refine wpl_nil ?_
    refine X.thenN ?_
    refine C.ret ?_
    refine X.thenR ?_
    replace h := h.sel [1] rfl
    replace h := h.conv (sl' := _) (L' := [_]) rfl rfl
    exact h.ret1 Try.results38 rfl (Ent.refl _) (⟨rfl, rfl⟩)
  · have e1 : decQ n = 0 := by simp [decQ, hn]
    rw [e1] at h
    obtain ⟨gi, ci, gw, cw, ws, hw, h⟩ := h.openQ 1 rfl
    replace h := h.conv (sl' := _) (L' := [cells _ _ [_, _, _], _, _, _, cells _ _ [_]]) rfl rfl
    refine St.get h rfl rfl rfl (G.assign rfl rfl) fun a h => ?_
    refine wpl_nil ?_
    refine X.thenN ?_
    refine C.seq ?_
    refine C.region ?_
    refine St.get h rfl rfl rfl (G.move rfl rfl) fun a h => ?_
    refine St.get h rfl rfl rfl (G.bin rfl rfl rfl (B.neqF (by omega))) fun a h => ?_
    refine wpl_nil ?_
    refine X.thenN ?_
    refine St.condF h rfl ?_
    refine C.skip ?_
    refine X.thenN ?_
    refine C.seq ?_
    refine C.region ?_
    refine St.get h rfl rfl rfl (G.move rfl rfl) fun a h => ?_
    refine St.get h rfl rfl rfl (G.move rfl rfl) fun a h => ?_
    refine St.get h rfl rfl rfl (G.nilc rfl rfl) fun a h => ?_
    refine St.get h rfl rfl rfl (G.fadr 0 rfl rfl Try.underlying33 rfl rfl Try.sizeOf30) fun a h => ?_
    refine St.get h rfl rfl rfl (G.ld 0 0 rfl rfl rfl rfl rfl Try.isAgg30) fun a h => ?_
    refine St.get h rfl rfl rfl (G.mkf rfl rfl) fun a h => ?_
    refine St.callD h [1] rfl (Ro.cons 3 rfl (cells_ro _ _ _) (Ro.nil _)) ((DeleteFunc_items gi ci q.items b1 n)) rfl rfl rfl Try.call75 rfl rfl fun a w h => ?_
    replace h := h.conv (sl' := _) (L' := [_, cells _ _ [_, _, _], _, _, cells _ _ [_]]) rfl rfl
    refine St.get h rfl rfl rfl (G.nilc rfl rfl) fun a h => ?_
    refine St.get h rfl rfl rfl (G.fadr 0 rfl rfl Try.underlying33 rfl rfl Try.sizeOf30) fun a h => ?_
    refine St.put h rfl rfl (U.st 1 0 rfl rfl rfl rfl rfl rfl rfl Try.sizeOf30) fun a w h => ?_
    replace h := h.conv (sl' := _) (L' := [_, cells _ _ [_, _, _], _, _, cells _ _ [_]]) rfl rfl
    refine wpl_nil ?_
    refine X.thenN ?_
    refine C.seq ?_
    refine C.seq ?_
    refine C.region ?_
    refine St.get h rfl rfl rfl (G.move rfl rfl) fun a h => ?_
    refine St.get h rfl rfl rfl (G.ld 4 0 rfl rfl rfl rfl rfl Try.isAgg3) fun a h => ?_
    have hfs := find_spec b o n (rlv gi (q.items.filter fun x => !decide (x.by_ = n)).length ci) (.int .i64 q.given) gw cw ws
    rcases hq' : findW n ws with _ | pq
    · rw [hq'] at hfs
      have hnn := findW_none' hq'
      rw [hw] at hnn
      have e : commitQ q n = (0, ⟨q.items.filter fun x => !decide (x.by_ = n), q.works.filter fun x => !decide (x.n = n), q.given⟩) := by simp [commitQ, hn, hnn, newQ, putsQ]
      rw [e]
      refine St.callD h [1, 1, 1] rfl (Ro.nil _) (hfs) rfl rfl rfl Try.call51 rfl rfl fun a w h => ?_
      replace h := h.conv (sl' := _) (L' := [cells _ _ [_, _, _], _, _, _, cells _ _ [_]]) rfl rfl
      refine St.get h rfl rfl rfl (G.assign rfl rfl) fun a h => ?_
      refine wpl_nil ?_
      refine X.thenN ?_
      refine C.seq ?_
      refine C.region ?_
      refine St.get h rfl rfl rfl (G.move rfl rfl) fun a h => ?_
      refine St.get h rfl rfl rfl (G.bin rfl rfl rfl (B.pneq Try.underlying92 _)) fun a h => ?_
      refine wpl_nil ?_
      refine X.thenN ?_
      refine St.condF h rfl ?_
      refine C.skip ?_
      refine X.thenN ?_
      refine C.seq ?_
      refine C.region ?_
      refine St.get h rfl rfl rfl (G.move rfl rfl) fun a h => ?_
      refine St.get h rfl rfl rfl (G.ld 4 0 rfl rfl rfl rfl rfl Try.isAgg3) fun a h => ?_
      replace h := h.fold [0, 3, 1, 2] rfl ((QAt_mk (q := ⟨q.items.filter fun x => !decide (x.by_ = n), q.works, q.given⟩) gi ci gw cw ws hw))
      replace h := h.conv (sl' := _) (L' := [_, cells _ _ [_]]) rfl rfl
      refine St.callD h [0] rfl (Ro.nil _) ((gone_spec b o ⟨q.items.filter fun x => !decide (x.by_ = n), q.works, q.given⟩ n)) rfl rfl rfl Try.call77 rfl rfl fun a w h => ?_
      replace h := h.conv (sl' := _) (L' := [_, cells _ _ [_]]) rfl rfl
      refine wpl_nil ?_
      refine X.thenN ?_
      refine C.seq ?_
      refine C.region ?_
      refine St.get h rfl rfl rfl (G.assign rfl rfl) fun a h => ?_
      refine wpl_nil ?_
      refine X.thenN ?_
      refine C.ret ?_
      replace h := h.sel [0] rfl
      replace h := h.conv (sl' := _) (L' := [_]) rfl rfl
      exact h.ret1 Try.results38 rfl (Ent.refl _) (⟨rfl, rfl⟩)
    · rw [hq'] at hfs
      obtain ⟨i, p, hi, rfl, hpn, hnn⟩ := findW_some' hq'
      rw [hw] at hnn
      have e : commitQ q n = (0, ⟨(q.items.filter fun x => !decide (x.by_ = n)) ++ newQ q.given p.2.list, q.works.filter fun x => !decide (x.n = n), q.given + putsQ p.2.list⟩) := by simp [commitQ, hn, hnn]
      rw [e]
      have hpl := (hq.lens hw).2 p (List.mem_of_getElem? hi)
      have hq1 := hq.items
      have hq2 := hq.lo
      have hq3 := hq.hi
      have hfl : (q.items.filter fun x => !decide (x.by_ = n)).length ≤ q.items.length := List.length_filter_le _ _
      have hpu := putsQ_le p.2.list
      have hp6 := hq.lists p.2 (List.mem_of_getElem? (by rw [← hw]; simp [hi] : q.works[i]? = some p.2))
      refine St.callD h [1, 1, 1] rfl (Ro.nil _) (hfs) rfl rfl rfl Try.call51 rfl rfl fun a w h => ?_
      replace h := h.conv (sl' := _) (L' := [cells _ _ [_, _, _], _, _, _, cells _ _ [_]]) rfl rfl
      replace h := h.turn 2 rfl ((many_takeL (WAt _) hi))
      replace h := h.conv (sl' := _) (L' := [_, _, cells _ _ [_, _, _], _, _, cells _ _ [_]]) rfl rfl
      obtain ⟨g1, c1, h⟩ := h.openW 0 rfl
      replace h := h.conv (sl' := _) (L' := [cells _ _ [_, _, _], _, _, cells _ _ [_, _, _], _, _, cells _ _ [_]]) rfl rfl
      refine St.get h rfl rfl rfl (G.assign rfl rfl) fun a h => ?_
      refine wpl_nil ?_
      refine X.thenN ?_
      refine C.seq ?_
      refine C.region ?_
      refine St.get h rfl rfl rfl (G.move rfl rfl) fun a h => ?_
      refine St.get h rfl rfl rfl (G.bin rfl rfl rfl (B.pneq Try.underlying92 _)) fun a h => ?_
      refine wpl_nil ?_
      refine X.thenN ?_
      refine St.condT h rfl ?_
      refine C.seq ?_
      refine C.region ?_
      refine St.get h rfl rfl rfl (G.move rfl rfl) fun a h => ?_
      refine St.get h rfl rfl rfl (G.nilc rfl rfl) fun a h => ?_
      refine St.get h rfl rfl rfl (G.fadr 1 rfl rfl Try.underlying122 rfl rfl Try.sizeOf23) fun a h => ?_
      refine St.get h rfl rfl rfl (G.ld 0 1 rfl rfl rfl rfl rfl Try.isAgg23) fun a h => ?_
      refine St.get h rfl rfl rfl (G.lens rfl rfl Try.underlying23) fun a h => ?_
      refine St.get h rfl rfl rfl (G.move rfl rfl) fun a h => ?_
      refine wpl_nil ?_
      refine X.thenN ?_
      refine C.block ?_
      generalize hits0 : (q.items.filter fun x => !decide (x.by_ = n)) = its0 at *
      refine C.loop (fun m a w => ∃ k gi' ci', k + m = p.2.list.length ∧ St w0 S R 68 [(0, .pointer (some ⟨b, o, none⟩)), (3, .pointer (some ⟨b1, 0, none⟩)), (32, rlv g1 p.2.list.length c1), (33, .int .i64 p.2.list.length), (34, .int .i64 k)]
        [cells b o [rlv gi' (its0 ++ newQ q.given (p.2.list.take k)).length ci', rlv gw ws.length cw, .int .i64 (q.given + putsQ (p.2.list.take k))], ownl encQI 91 gi' ci' (its0 ++ newQ q.given (p.2.list.take k)), ownl encPtr 92 gw cw (ws.map Prod.fst), many (WAt 80) (ws.eraseIdx i),
          cells p.1 0 [.int .i64 p.2.n, rlv g1 p.2.list.length c1, .bool p.2.prep], ownl encCh 80 g1 c1 p.2.list, cells b1 0 [.int .i64 n]] a w) p.2.list.length ⟨0, gi, ci, by omega, ?_⟩ ?_
      · replace h := h.sel [3, 5, 4, 2, 0, 1, 6] rfl
        replace h := h.conv (sl' := _) (L' := [cells _ _ [_, _, _], _, _, _, cells _ _ [_, _, _], _, cells _ _ [_]]) rfl rfl
        exact (h.conv rfl (L' := [cells b o [rlv gi (its0 ++ newQ q.given (p.2.list.take 0)).length ci, rlv gw ws.length cw, .int .i64 (q.given + putsQ (p.2.list.take 0))], ownl encQI 91 gi ci (its0 ++ newQ q.given (p.2.list.take 0)), _, _, _, _, _]) (by simp [newQ, putsQ])).sub ⟨rfl, rfl, rfl, rfl, rfl, trivial⟩
      · rintro m a w ⟨k, gi', ci', hkm, h⟩
        have hpk := putsQ_le (p.2.list.take k)
        have hkl : (p.2.list.take k).length ≤ k := by simp; omega
        have hnl := newQ_len (p.2.list.take k) q.given
        by_cases hlt : k < p.2.list.length
        · obtain ⟨x, hx⟩ : ∃ x, p.2.list[k]? = some x := ⟨_, List.getElem?_eq_getElem hlt⟩
          have hx1 : p.2.list[(k : Int).toNat]? = some x := by simp [hx]
          have htk : p.2.list.take (k + 1) = p.2.list.take k ++ [x] := by rw [List.take_add_one, hx]; rfl
          have hpd := putsQ_drop hx
          have hns := newQ_snoc x (p.2.list.take k) q.given
          have htl : newQ q.given (p.2.list.take (k + 1)) = newQ q.given (p.2.list.take k) ++ if x.kind = 3 then [⟨q.given + putsQ (p.2.list.take k) + 1, x.val, 0⟩] else [] := by rw [htk, hns]
          refine C.seq ?_
          refine C.region ?_
          refine St.get h rfl rfl rfl (G.bin rfl rfl rfl (B.lssT (by omega))) fun a h => ?_
          refine wpl_nil ?_
          refine X.thenN ?_
          refine C.seq ?_
          refine St.condT h rfl ?_
          refine C.skip ?_
          refine X.thenN ?_
          refine C.seq ?_
          refine C.block ?_
          refine C.seq ?_
          refine C.region ?_
          refine St.get h rfl rfl rfl (G.idxo _ 5 rfl rfl rfl rfl (by omega) (by omega) (by omega) Try.underlying23 Try.sizeOf80) fun a h => ?_
          refine St.get h rfl rfl rfl (G.ldoa _ 5 rfl (by assumption) rfl rfl rfl rfl Try.isAgg80 Try.sizeOf80) fun a h => ?_
          replace h := h.conv (sl' := (_, .agg #[_, _, _]) :: _) (L' := _) rfl rfl
          refine St.alloc h Try.zeroValue80 rfl rfl rfl rfl fun b2 a w h => ?_
          replace h := h.conv (sl' := _) (L' := [cells _ _ [_, _, _], cells _ _ [_, _, _], _, _, _, cells _ _ [_, _, _], _, cells _ _ [_]]) rfl rfl
          refine St.put h rfl rfl (U.sta 0 0 rfl rfl rfl rfl rfl rfl (by simp [Value.oneCell']) Try.sizeOf80 rfl) fun a w h => ?_
          replace h := h.conv (sl' := _) (L' := [cells _ _ [_, _, _], cells _ _ [_, _, _], _, _, _, cells _ _ [_, _, _], _, cells _ _ [_]]) rfl rfl
          refine wpl_nil ?_
          refine X.thenN ?_
          refine C.seq ?_
          refine C.region ?_
          refine St.get h rfl rfl rfl (G.fadr 0 rfl rfl Try.underlying80 rfl rfl Try.sizeOf3) fun a h => ?_
          refine St.get h rfl rfl rfl (G.ld 0 0 rfl rfl rfl rfl rfl Try.isAgg3) fun a h => ?_
          refine St.getP h rfl rfl rfl (G.bin rfl rfl rfl B.eql) (fun hc a h => ?_) (fun hc a h => ?_)
          refine wpl_nil ?_
          refine X.thenN ?_
          refine St.condT h rfl ?_
          refine C.seq ?_
          refine C.region ?_
          refine St.get h rfl rfl rfl (G.move rfl rfl) fun a h => ?_
          refine St.get h rfl rfl rfl (G.nilc rfl rfl) fun a h => ?_
          refine St.get h rfl rfl rfl (G.fadr 2 rfl rfl Try.underlying33 rfl rfl Try.sizeOf3) fun a h => ?_
          refine St.get h rfl rfl rfl (G.ld 1 2 rfl rfl rfl rfl rfl Try.isAgg3) fun a h => ?_
          refine St.get h rfl rfl rfl (G.bin rfl rfl rfl (B.addi (by omega) (by omega))) fun a h => ?_
          refine St.get h rfl rfl rfl (G.nilc rfl rfl) fun a h => ?_
          refine St.get h rfl rfl rfl (G.fadr 2 rfl rfl Try.underlying33 rfl rfl Try.sizeOf3) fun a h => ?_
          refine St.put h rfl rfl (U.st 1 2 rfl rfl rfl rfl rfl rfl rfl Try.sizeOf3) fun a w h => ?_
          replace h := h.conv (sl' := _) (L' := [cells _ _ [_, _, _], cells _ _ [_, _, _], _, _, _, cells _ _ [_, _, _], _, cells _ _ [_]]) rfl rfl
          refine wpl_nil ?_
          refine X.thenN ?_
          rotate_left
          refine wpl_nil ?_
          refine X.thenN ?_
          refine St.condF h rfl ?_
          refine C.skip ?_
          refine X.blkN ?_
          refine X.thenN ?_
          refine C.region ?_
          refine St.get h rfl rfl rfl (G.bin rfl rfl rfl (B.addi (by omega) (by omega))) fun a h => ?_
          refine St.get h rfl rfl rfl (G.move rfl rfl) fun a h => ?_
          refine wpl_nil ?_
          refine X.thenN ?_
          rotate_left
          · rw [if_pos hc] at htl hpd
            refine C.anyAt Try_mixed 13 17 [1, 0] (LB := [_, _]) h rfl rfl fun w h hcl hI => ?_
            refine St.takeP h 0 13 1 rfl (by decide +kernel) hcl hI (wanted_of rfl _) rfl rfl (G.move rfl rfl) (fun _ _ _ x => x) fun a h hcl hI => ?_
            refine St.takeP h 1 13 3 rfl (by decide +kernel) hcl hI (wanted_of rfl _) rfl rfl (G.move rfl rfl) (fun _ _ _ x => x) fun a h hcl hI => ?_
            refine St.takeP h 2 13 7 rfl (by decide +kernel) hcl hI (wanted_of rfl _) rfl rfl (G.nilc rfl rfl) (fun _ _ _ x => x) fun a h hcl hI => ?_
            refine St.takeP h 3 13 15 rfl (by decide +kernel) hcl hI (wanted_of rfl _) rfl rfl (G.fadr 0 rfl rfl Try.underlying33 rfl rfl Try.sizeOf30) (fun _ _ _ x => x) fun a h hcl hI => ?_
            refine St.takeL h 4 13 31 rfl (by decide +kernel) hcl hI (wanted_of rfl _) rfl rfl (G.ld 0 0 rfl rfl rfl rfl rfl Try.isAgg30) (fun _ _ _ x => x) fun a h hcl hI => ?_
            refine St.takeP h 5 13 63 rfl (by decide +kernel) hcl hI (wanted_of rfl _) rfl rfl (G.move rfl rfl) (fun _ _ _ x => x) fun a h hcl hI => ?_
            refine St.takeP h 6 13 127 rfl (by decide +kernel) hcl hI (wanted_of rfl _) rfl rfl (G.nilc rfl rfl) (fun _ _ _ x => x) fun a h hcl hI => ?_
            refine St.takeP h 7 13 255 rfl (by decide +kernel) hcl hI (wanted_of rfl _) rfl rfl (G.fadr 2 rfl rfl Try.underlying33 rfl rfl Try.sizeOf3) (fun _ _ _ x => x) fun a h hcl hI => ?_
            refine St.takeL h 8 13 511 rfl (by decide +kernel) hcl hI (wanted_of rfl _) rfl rfl (G.ld 0 2 rfl rfl rfl rfl rfl Try.isAgg3) (fun _ _ _ x => x) fun a h hcl hI => ?_
            refine St.takeP h 9 13 1023 rfl (by decide +kernel) hcl hI (wanted_of rfl _) rfl rfl (G.fadr 2 rfl rfl Try.underlying80 rfl rfl Try.sizeOf22) (fun _ _ _ x => x) fun a h hcl hI => ?_
            refine St.takeL h 10 13 2047 rfl (by decide +kernel) hcl hI (wanted_of rfl _) rfl rfl (G.ld 1 2 rfl rfl rfl rfl rfl Try.isAgg22) (fun _ _ _ x => x) fun a h hcl hI => ?_
            refine St.takeP h 11 13 4095 rfl (by decide +kernel) hcl hI (wanted_of rfl _) rfl rfl (G.build [(0, 1), (1, 1), (2, 1)] rfl rfl Try.zeroValue91 Try.underlying91 ⟨rfl, Try.sizeOf3, rfl, Try.sizeOf22, rfl, Try.sizeOf3, trivial⟩ rfl) (fun _ _ _ x => x) fun a h hcl hI => ?_
            replace h := h.conv (sl' := (_, .agg #[.int _ _, .int _ _, _]) :: _) (L' := _) rfl rfl
            refine oneL 12 8191 rfl (by decide +kernel) hcl (wanted_of rfl _) fun hcl => ?_
            refine St.actK h rfl rfl (Acts.bslice (encQI) ([⟨q.given + putsQ (p.2.list.take k) + 1, x.val, 0⟩]) rfl rfl Try.underlying30 Try.sizeOf91 Try.zeroValue91 rfl (Nat.le_of_ble_eq_true rfl) ⟨rfl, rfl, trivial⟩) fun v L a w hp h => ?_
            obtain ⟨b3, rfl, rfl⟩ := hp
            refine St.onL h [2, 1] (LB := [_, _]) rfl fun hI => ?_
            refine oneL 13 16383 rfl (by decide +kernel) hcl (wanted_of rfl _) fun hcl => ?_
            refine St.actK h rfl rfl (Acts.append _ 3 rfl (Ro.cons 0 rfl (ownl_ro _ _ _ _ _) (Ro.nil _)) rfl rfl rfl (by first | rfl | omega | simp) (by first | rfl | omega | simp) Try.underlying30 Try.typeInfo91 rfl rfl rfl 24 rfl (by (try simp only [List.length_append, List.length_cons, List.length_nil, List.length_map, List.length_take]); omega) (by (try simp only [List.length_append, List.length_cons, List.length_nil, List.length_map, List.length_take]); omega)) fun v L a w hp h => ?_
            obtain ⟨A1, c2, rfl, hnil, rfl⟩ := hp
            replace h := h.conv (sl' := _) (L' := [_, _, cells _ _ [_, _, _], cells _ _ [_, _, _], _, _, cells _ _ [_, _, _], _, cells _ _ [_]]) rfl rfl
            refine offL rfl fun hI => ?_
            refine St.takeP h 14 13 32767 rfl (by decide +kernel) hcl hI (wanted_of rfl _) rfl rfl (G.nilc rfl rfl) (fun _ _ _ x => x) fun a h hcl hI => ?_
            refine St.takeP h 15 13 65535 rfl (by decide +kernel) hcl hI (wanted_of rfl _) rfl rfl (G.fadr 0 rfl rfl Try.underlying33 rfl rfl Try.sizeOf30) (fun _ _ _ x => x) fun a h hcl hI => ?_
            refine oneL 16 131071 rfl (by decide +kernel) hcl (wanted_of rfl _) fun hcl => ?_
            refine St.putK h rfl (U.st 3 0 rfl rfl rfl rfl rfl rfl rfl Try.sizeOf30) fun a w h => ?_
            replace h := h.conv (sl' := _) (L' := [_, _, cells _ _ [_, _, _], cells _ _ [_, _, _], _, _, cells _ _ [_, _, _], _, cells _ _ [_]]) rfl rfl
            refine offL rfl fun hI => ?_
            refine doneL (by decide +kernel) ?_
            refine X.blkN ?_
            refine X.thenN ?_
            refine C.region ?_
            refine St.get h rfl rfl rfl (G.bin rfl rfl rfl (B.addi (by omega) (by omega))) fun a h => ?_
            refine St.get h rfl rfl rfl (G.move rfl rfl) fun a h => ?_
            refine wpl_nil ?_
            refine X.thenN ?_
            replace h := h.sel [3, 0, 4, 5, 6, 7, 8] rfl
            replace h := h.conv (sl' := _) (L' := [cells _ _ [_, _, _], _, _, _, cells _ _ [_, _, _], _, cells _ _ [_]]) rfl rfl
            exact ⟨m - 1, by omega, k + 1, A1, c2, by omega, (h.conv rfl (L' := [cells b o [rlv A1 (its0 ++ newQ q.given (p.2.list.take (k + 1))).length c2, rlv gw ws.length cw, .int .i64 (q.given + putsQ (p.2.list.take (k + 1)))], ownl encQI 91 A1 c2 (its0 ++ newQ q.given (p.2.list.take (k + 1))), _, _, _, _, _]) (by rw [htl, hpd, ← List.append_assoc, ← Int.add_assoc])).sub ⟨rfl, rfl, rfl, rfl, rfl, trivial⟩⟩
          · rw [if_neg hc] at htl hpd
            replace h := h.sel [1, 2, 3, 4, 5, 6, 7] rfl
            replace h := h.conv (sl' := _) (L' := [cells _ _ [_, _, _], _, _, _, cells _ _ [_, _, _], _, cells _ _ [_]]) rfl rfl
            exact ⟨m - 1, by omega, k + 1, gi', ci', by omega, (h.conv rfl (L' := [cells b o [rlv gi' (its0 ++ newQ q.given (p.2.list.take (k + 1))).length ci', rlv gw ws.length cw, .int .i64 (q.given + putsQ (p.2.list.take (k + 1)))], ownl encQI 91 gi' ci' (its0 ++ newQ q.given (p.2.list.take (k + 1))), _, _, _, _, _]) (by rw [htl, hpd]; simp)).sub ⟨rfl, rfl, rfl, rfl, rfl, trivial⟩⟩
        · rw [List.take_of_length_le (by omega)] at h
          refine C.seq ?_
          refine C.region ?_
          refine St.get h rfl rfl rfl (G.bin rfl rfl rfl (B.lssF (by omega))) fun a h => ?_
          refine wpl_nil ?_
          refine X.thenN ?_
          refine C.seq ?_
          refine St.condF h rfl ?_
          refine C.exit ?_
          refine X.thenE ?_
          refine X.thenE ?_
          refine X.blkE ?_
          refine X.thenN ?_
          refine C.seq ?_
          refine C.region ?_
          refine St.get h rfl rfl rfl (G.move rfl rfl) fun a h => ?_
          refine St.get h rfl rfl rfl (G.ld 6 0 rfl rfl rfl rfl rfl Try.isAgg3) fun a h => ?_
          replace h := h.fold [4, 5] rfl ((WAt_mk 80 p.1 p.2.n p.2.list p.2.prep g1 c1))
          replace h := h.conv (sl' := _) (L' := [_, cells _ _ [_, _, _], _, _, _, cells _ _ [_]]) rfl rfl
          replace h := h.fold [0, 4] rfl ((many_putL (WAt _) p hi))
          replace h := h.conv (sl' := _) (L' := [_, cells _ _ [_, _, _], _, _, cells _ _ [_]]) rfl rfl
          rw [set_self hi] at h
          replace h := h.fold [1, 2, 3, 0] rfl ((QAt_mk (q := ⟨its0 ++ newQ q.given p.2.list, q.works, q.given + putsQ p.2.list⟩) gi' ci' gw cw ws hw))
          replace h := h.conv (sl' := _) (L' := [_, cells _ _ [_]]) rfl rfl
          refine St.callD h [0] rfl (Ro.nil _) ((gone_spec b o ⟨its0 ++ newQ q.given p.2.list, q.works, q.given + putsQ p.2.list⟩ n)) rfl rfl rfl Try.call77 rfl rfl fun a w h => ?_
          replace h := h.conv (sl' := _) (L' := [_, cells _ _ [_]]) rfl rfl
          refine wpl_nil ?_
          refine X.thenN ?_
          refine C.seq ?_
          refine C.region ?_
          refine St.get h rfl rfl rfl (G.assign rfl rfl) fun a h => ?_
          refine wpl_nil ?_
          refine X.thenN ?_
          refine C.ret ?_
          replace h := h.sel [0] rfl
          replace h := h.conv (sl' := _) (L' := [_]) rfl rfl
          exact h.ret1 Try.results38 rfl (Ent.refl _) (⟨rfl, rfl⟩)
theorem Backout_nil (n : Int) : Meets Try.prog 40 #[.pointer none, .int .i64 n] [] (Det (.int .i64 6) []) := by
  refine Meets.of_code Try.func40 rfl Try.ntmps40 rfl fun w0 S R a h => ?_
  refine C.seq ?_
  refine C.region ?_
  refine St.get h rfl rfl rfl (G.assign rfl rfl) fun a h => ?_
  refine wpl_nil ?_
  refine X.thenN ?_
  refine C.seq ?_
  refine C.seq ?_
  refine C.region ?_
  refine St.get h rfl rfl rfl (G.move rfl rfl) fun a h => ?_
  refine St.get h rfl rfl rfl (G.move rfl rfl) fun a h => ?_
  refine St.callD h [] rfl (Ro.nil _) ((decided_nil n)) rfl rfl rfl Try.call74 rfl rfl fun a w h => ?_
  replace h := h.conv (sl' := _) (L' := []) rfl rfl
  refine St.get h rfl rfl rfl (G.assign rfl rfl) fun a h => ?_
  refine wpl_nil ?_
  refine X.thenN ?_
  refine C.seq ?_
  refine C.region ?_
  refine St.get h rfl rfl rfl (G.move rfl rfl) fun a h => ?_
  refine St.get h rfl rfl rfl (G.bin rfl rfl rfl (B.neqT (by omega))) fun a h => ?_
  refine wpl_nil ?_
  refine X.thenN ?_
  refine St.condT h rfl ?_
  refine C.seq ?_
  refine C.region ?_
  refine St.get h rfl rfl rfl (G.move rfl rfl) fun a h => ?_
  refine St.get h rfl rfl rfl (G.assign rfl rfl) fun a h => ?_
  refine wpl_nil ?_
  refine X.thenN ?_
  refine C.ret ?_
  refine X.thenR ?_
  exact h.ret1 Try.results40 rfl (Ent.refl _) (⟨rfl, rfl⟩)
def freeI (n : Int) (x : QI) : QI := if x.by_ = n then { x with by_ := 0 } else x
theorem Backout_spec (b o : Nat) (q : QM) (n : Int) : Meets Try.prog 40 #[.pointer (some ⟨b, o, none⟩), .int .i64 n] [QAt b o q] (Det (.int .i64 (backQ q n).1) [QAt b o (backQ q n).2]) := by
  refine Meets.of_code Try.func40 rfl Try.ntmps40 rfl fun w0 S R a h => ?_
  refine C.seq ?_
  refine C.region ?_
  refine St.get h rfl rfl rfl (G.assign rfl rfl) fun a h => ?_
  refine wpl_nil ?_
  refine X.thenN ?_
  refine C.seq ?_
  refine C.seq ?_
  refine C.region ?_
  refine St.get h rfl rfl rfl (G.move rfl rfl) fun a h => ?_
  refine St.get h rfl rfl rfl (G.move rfl rfl) fun a h => ?_
  refine St.callD h [] rfl (Ro.nil _) ((decided_spec b o n)) rfl rfl rfl Try.call74 rfl rfl fun a w h => ?_
  replace h := h.conv (sl' := _) (L' := [_]) rfl rfl
  by_cases hn : n < 1
  · have e : backQ q n = (1, q) := by simp [backQ, hn]
    have e1 : decQ n = 1 := by simp [decQ, hn]
    rw [e1] at h
    rw [e]
    refine St.get h rfl rfl rfl (G.assign rfl rfl) fun a h => ?_
    refine wpl_nil ?_
    refine X.thenN ?_
    refine C.seq ?_
    refine C.region ?_
    refine St.get h rfl rfl rfl (G.move rfl rfl) fun a h => ?_
    refine St.get h rfl rfl rfl (G.bin rfl rfl rfl (B.neqT (by omega))) fun a h => ?_
    refine wpl_nil ?_
    refine X.thenN ?_
    refine St.condT h rfl ?_
    refine C.seq ?_
    refine C.region ?_
    refine St.get h rfl rfl rfl (G.move rfl rfl) fun a h => ?_
    refine St.get h rfl rfl rfl (G.assign rfl rfl) fun a h => ?_
    refine wpl_nil ?_
    refine X.thenN ?_
    refine C.ret ?_
    refine X.thenR ?_
    exact h.ret1 Try.results40 rfl (Ent.refl _) (⟨rfl, rfl⟩)
  · have e1 : decQ n = 0 := by simp [decQ, hn]
    have e : backQ q n = (0, ⟨q.items.map (freeI n), q.works.filter fun x => !decide (x.n = n), q.given⟩) := by simp only [backQ, if_neg hn]; rfl
    rw [e1] at h
    rw [e]
    obtain ⟨gi, ci, gw, cw, ws, hw, h⟩ := h.openQ 0 rfl
    have hlen := h.tell1 1 rfl fun _ _ _ => ownl_len
    replace h := h.conv (sl' := _) (L' := [cells _ _ [_, _, _], _, _, _]) rfl rfl
    refine St.get h rfl rfl rfl (G.assign rfl rfl) fun a h => ?_
    refine wpl_nil ?_
    refine X.thenN ?_
    refine C.seq ?_
    refine C.region ?_
    refine St.get h rfl rfl rfl (G.move rfl rfl) fun a h => ?_
    refine St.get h rfl rfl rfl (G.bin rfl rfl rfl (B.neqF (by omega))) fun a h => ?_
    refine wpl_nil ?_
    refine X.thenN ?_
    refine St.condF h rfl ?_
    refine C.skip ?_
    refine X.thenN ?_
    refine C.seq ?_
    refine C.seq ?_
    refine C.region ?_
    refine St.get h rfl rfl rfl (G.move rfl rfl) fun a h => ?_
    refine St.get h rfl rfl rfl (G.nilc rfl rfl) fun a h => ?_
    refine St.get h rfl rfl rfl (G.fadr 0 rfl rfl Try.underlying33 rfl rfl Try.sizeOf30) fun a h => ?_
    refine St.get h rfl rfl rfl (G.ld 0 0 rfl rfl rfl rfl rfl Try.isAgg30) fun a h => ?_
    refine St.get h rfl rfl rfl (G.lens rfl rfl Try.underlying30) fun a h => ?_
    refine St.get h rfl rfl rfl (G.move rfl rfl) fun a h => ?_
    refine wpl_nil ?_
    refine X.thenN ?_
    refine C.block ?_
    refine C.loop (fun m a w => ∃ i : Nat, i + m = q.items.length ∧ St w0 S R 42 [(0, .pointer (some ⟨b, o, none⟩)), (1, .int .i64 n), (17, .int .i64 q.items.length), (18, .int .i64 i)]
      [cells b o [rlv gi q.items.length ci, rlv gw ws.length cw, .int .i64 q.given], ownl encQI 91 gi ci ((q.items.take i).map (freeI n) ++ q.items.drop i), ownl encPtr 92 gw cw (ws.map Prod.fst), many (WAt 80) ws] a w) q.items.length ⟨0, by omega, ?_⟩ ?_
    · exact h.sub ⟨rfl, rfl, rfl, rfl, trivial⟩
    · rintro m a w ⟨i, hi, h⟩
      by_cases hlt : i < q.items.length
      · obtain ⟨x, hx⟩ : ∃ x, q.items[i]? = some x := ⟨_, List.getElem?_eq_getElem hlt⟩
        have hil : ((q.items.take i).map (freeI n)).length = i := by simp; omega
        have hx1 : ((q.items.take i).map (freeI n) ++ q.items.drop i)[(i : Int).toNat]? = some x := by
          rw [Int.toNat_natCast, List.getElem?_append_right (by simp; omega)]
          simp [Nat.min_eq_left (Nat.le_of_lt hlt), hx]
        have hl2 : ((q.items.take i).map (freeI n) ++ q.items.drop i).length = q.items.length := by simp; omega
        have hdr : q.items.drop i = x :: q.items.drop (i + 1) := by
          obtain ⟨h1, rfl⟩ := List.getElem?_eq_some_iff.1 hx
          exact List.drop_eq_getElem_cons h1
        have htk : (q.items.take (i + 1)).map (freeI n) = (q.items.take i).map (freeI n) ++ [freeI n x] := by rw [List.take_add_one, hx]; simp
        refine C.seq ?_
        refine C.region ?_
        refine St.get h rfl rfl rfl (G.bin rfl rfl rfl (B.lssT (by omega))) fun a h => ?_
        refine wpl_nil ?_
        refine X.thenN ?_
        refine C.seq ?_
        refine St.condT h rfl ?_
        refine C.skip ?_
        refine X.thenN ?_
        refine C.seq ?_
        refine C.block ?_
        refine C.seq ?_
        refine C.region ?_
        refine St.get h rfl rfl rfl (G.move rfl rfl) fun a h => ?_
        refine St.get h rfl rfl rfl (G.assign rfl rfl) fun a h => ?_
        refine wpl_nil ?_
        refine X.thenN ?_
        refine C.seq ?_
        refine C.region ?_
        refine St.get h rfl rfl rfl (G.move rfl rfl) fun a h => ?_
        refine St.get h rfl rfl rfl (G.nilc rfl rfl) fun a h => ?_
        refine St.get h rfl rfl rfl (G.fadr 0 rfl rfl Try.underlying33 rfl rfl Try.sizeOf30) fun a h => ?_
        refine St.get h rfl rfl rfl (G.ld 0 0 rfl rfl rfl rfl rfl Try.isAgg30) fun a h => ?_
        refine St.get h rfl rfl rfl (G.move rfl rfl) fun a h => ?_
        refine St.get h rfl rfl rfl (G.idxo _ 1 rfl rfl rfl rfl (by omega) (by omega) (by omega) Try.underlying30 Try.sizeOf91) fun a h => ?_
        refine St.get h rfl rfl rfl (G.fadr 2 rfl rfl Try.underlying91 rfl rfl Try.sizeOf3) fun a h => ?_
        refine St.get h rfl rfl rfl (G.ldo _ 1 2 rfl (by assumption) rfl rfl rfl rfl rfl Try.isAgg3) fun a h => ?_
        refine St.get h rfl rfl rfl (G.move rfl rfl) fun a h => ?_
        refine St.getP h rfl rfl rfl (G.bin rfl rfl rfl B.eql) (fun hc a h => ?_) (fun hc a h => ?_)
        refine wpl_nil ?_
        refine X.thenN ?_
        refine St.condT h rfl ?_
        refine C.region ?_
        refine St.get h rfl rfl rfl (G.move rfl rfl) fun a h => ?_
        refine St.get h rfl rfl rfl (G.nilc rfl rfl) fun a h => ?_
        refine St.get h rfl rfl rfl (G.fadr 0 rfl rfl Try.underlying33 rfl rfl Try.sizeOf30) fun a h => ?_
        refine St.get h rfl rfl rfl (G.ld 0 0 rfl rfl rfl rfl rfl Try.isAgg30) fun a h => ?_
        refine St.get h rfl rfl rfl (G.move rfl rfl) fun a h => ?_
        refine St.get h rfl rfl rfl (G.idxo _ 1 rfl rfl rfl rfl (by omega) (by omega) (by omega) Try.underlying30 Try.sizeOf91) fun a h => ?_
        refine St.get h rfl rfl rfl (G.fadr 2 rfl rfl Try.underlying91 rfl rfl Try.sizeOf3) fun a h => ?_
        rotate_left
        refine wpl_nil ?_
        refine X.thenN ?_
        refine St.condF h rfl ?_
        refine C.skip ?_
        refine X.blkN ?_
        refine X.thenN ?_
        refine C.region ?_
        refine St.get h rfl rfl rfl (G.bin rfl rfl rfl (B.addi (by omega) (by omega))) fun a h => ?_
        refine St.get h rfl rfl rfl (G.move rfl rfl) fun a h => ?_
        refine wpl_nil ?_
        refine X.thenN ?_
        rotate_left
        · have hfr : freeI n x = ⟨x.num, x.val, 0⟩ := by simp [freeI, hc]
          refine St.put h rfl rfl (U.sto _ 1 2 (⟨x.num, x.val, 0⟩) rfl (by assumption) rfl rfl rfl rfl rfl (by decide) (by rfl) rfl Try.sizeOf3) fun a w h => ?_
          replace h := h.conv (sl' := _) (L' := [cells _ _ [_, _, _], _, _, _]) rfl rfl
          refine wpl_nil ?_
          refine X.blkN ?_
          refine X.thenN ?_
          refine C.region ?_
          refine St.get h rfl rfl rfl (G.bin rfl rfl rfl (B.addi (by omega) (by omega))) fun a h => ?_
          refine St.get h rfl rfl rfl (G.move rfl rfl) fun a h => ?_
          refine wpl_nil ?_
          refine X.thenN ?_
          exact ⟨m - 1, by omega, i + 1, by omega, (h.conv rfl (L' := [_, ownl encQI 91 gi ci ((q.items.take (i + 1)).map (freeI n) ++ q.items.drop (i + 1)), _, _]) (by
            rw [htk, hfr, Int.toNat_natCast, List.set_append_right _ _ (by omega), hil, Nat.sub_self, hdr]; simp)).sub ⟨rfl, rfl, rfl, rfl, trivial⟩⟩
        · have hfr : freeI n x = x := by simp [freeI, hc]
          exact ⟨m - 1, by omega, i + 1, by omega, (h.conv rfl (L' := [_, ownl encQI 91 gi ci ((q.items.take (i + 1)).map (freeI n) ++ q.items.drop (i + 1)), _, _]) (by
            rw [htk, hfr, hdr]; simp)).sub ⟨rfl, rfl, rfl, rfl, trivial⟩⟩
      · rw [List.take_of_length_le (by omega), List.drop_eq_nil_of_le (by omega), List.append_nil] at h
        have h := h.conv rfl (L' := [cells b o [rlv gi (q.items.map (freeI n)).length ci, _, _], _, _, _]) (by rw [List.length_map])
        refine C.seq ?_
        refine C.region ?_
        refine St.get h rfl rfl rfl (G.bin rfl rfl rfl (B.lssF (by omega))) fun a h => ?_
        refine wpl_nil ?_
        refine X.thenN ?_
        refine C.seq ?_
        refine St.condF h rfl ?_
        refine C.exit ?_
        refine X.thenE ?_
        refine X.thenE ?_
        refine X.blkE ?_
        refine X.thenN ?_
        refine C.seq ?_
        refine C.region ?_
        refine St.get h rfl rfl rfl (G.move rfl rfl) fun a h => ?_
        refine St.get h rfl rfl rfl (G.move rfl rfl) fun a h => ?_
        replace h := h.fold [0, 1, 2, 3] rfl ((QAt_mk (q := ⟨q.items.map (freeI n), q.works, q.given⟩) gi ci gw cw ws hw))
        replace h := h.conv (sl' := _) (L' := [_]) rfl rfl
        refine St.callD h [0] rfl (Ro.nil _) ((gone_spec b o ⟨q.items.map (freeI n), q.works, q.given⟩ n)) rfl rfl rfl Try.call77 rfl rfl fun a w h => ?_
        replace h := h.conv (sl' := _) (L' := [_]) rfl rfl
        refine wpl_nil ?_
        refine X.thenN ?_
        refine C.seq ?_
        refine C.region ?_
        refine St.get h rfl rfl rfl (G.assign rfl rfl) fun a h => ?_
        refine wpl_nil ?_
        refine X.thenN ?_
        refine C.ret ?_
        exact h.ret1 Try.results40 rfl (Ent.refl _) (⟨rfl, rfl⟩)
end Go.Proofs.Ytllhegccpknncaa
