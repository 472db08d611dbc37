/-
  The document's queue: Commit.
-/
import Derived.Test.YtllhegccpknncaaRe
import Derived.Test.YtllhegccpknncaaSeat
set_option linter.unusedVariables false
set_option linter.unusedSimpArgs false
set_option linter.unusedSectionVars false
set_option maxRecDepth 8000
namespace Go.Proofs.Ytllhegccpknncaa
open Go.Tr

def leftR (ws : List QW) (n : Int) (l : List RI) : List RI := l.filter fun x => !decide (takerR x.num ws = n)
theorem leftR_snoc (ws : List QW) (n : Int) (l : List RI) (x : RI) : leftR ws n (l ++ [x]) = leftR ws n l ++ if takerR x.num ws = n then [] else [x] := by
  unfold leftR
  rw [List.filter_append]; congr 1
  by_cases e : takerR x.num ws = n <;> simp [e]
theorem leftR_len (ws : List QW) (n : Int) (l : List RI) : (leftR ws n l).length ≤ l.length := List.length_filter_le _ _
theorem CommitR_spec (b o : Nat) (q : RM) (n : Int) (hq : q.Good) : Meets Try.prog 47 #[.pointer (some ⟨b, o, none⟩), .int .i64 n] [RAt b o q] (Det (.int .i64 (commitR q n).1) [RAt b o (commitR q n).2]) := by
  refine Meets.of_code Try.func47 rfl Try.ntmps47 rfl fun w0 S R a h => ?_
  refine C.seq ?_
  refine C.region ?_
  refine St.get h rfl rfl rfl (G.assign rfl rfl) fun a h => ?_
  refine wpl_nil ?_
  refine X.thenN ?_
  refine C.seq ?_
  refine C.seq ?_
  refine C.region ?_
  refine St.get h rfl rfl rfl (G.move rfl rfl) fun a h => ?_
  refine St.getP h rfl rfl rfl (G.bin rfl rfl rfl B.lss) (fun hc a h => ?_) (fun hc a h => ?_)
  refine wpl_nil ?_
  refine X.thenN ?_
  refine St.condT h rfl ?_
  refine C.seq ?_
  refine C.region ?_
  refine St.get h rfl rfl rfl (G.assign rfl rfl) fun a h => ?_
  refine wpl_nil ?_
  refine X.thenN ?_
  refine C.ret ?_
  refine X.thenR ?_
  rotate_left
  refine wpl_nil ?_
  refine X.thenN ?_
  refine St.condF h rfl ?_
  refine C.skip ?_
  refine X.thenN ?_
  refine C.seq ?_
  refine C.region ?_
  refine St.get h rfl rfl rfl (G.move rfl rfl) fun a h => ?_
  refine St.get h rfl rfl rfl (G.move rfl rfl) fun a h => ?_
  rotate_left
  · have e : commitR q n = (1, q) := by simp [commitR, hc]
    rw [e]
    exact h.ret1 Try.results47 rfl (Ent.refl _) (⟨rfl, rfl⟩)
  · obtain ⟨gi, ci, gw, cw, ws, hw, h⟩ := h.openR 0 rfl
    have hfs := Find_spec b o n (rlv gi q.items.length ci) (.int .i64 q.given) gw cw ws
    have hwl := (hq.lens hw).1
    have hqi := hq.items
    have hq2 := hq.lo
    have hq3 := hq.hi
    rcases hq' : findW n ws with _ | pq
    · rw [hq'] at hfs
      have hnn := findW_none' hq'
      rw [hw] at hnn
      have e : commitR q n = (0, q) := by simp [commitR, hc, hnn]
      rw [e]
      refine St.callD h [0, 1, 1] rfl (Ro.nil _) (hfs) rfl rfl rfl Try.call85 rfl rfl fun a w h => ?_
      replace h := h.conv (sl' := _) (L' := [cells _ _ [_, _, _], _, _, _]) rfl rfl
      refine St.get h rfl rfl rfl (G.assign rfl rfl) fun a h => ?_
      refine wpl_nil ?_
      refine X.thenN ?_
      refine C.seq ?_
      refine C.seq ?_
      refine C.region ?_
      refine St.get h rfl rfl rfl (G.move rfl rfl) fun a h => ?_
      refine St.get h rfl rfl rfl (G.bin rfl rfl rfl (B.peql Try.underlying133 _)) fun a h => ?_
      refine wpl_nil ?_
      refine X.thenN ?_
      refine St.condT h rfl ?_
      refine C.seq ?_
      refine C.region ?_
      refine St.get h rfl rfl rfl (G.assign rfl rfl) fun a h => ?_
      refine wpl_nil ?_
      refine X.thenN ?_
      refine C.ret ?_
      refine X.thenR ?_
      replace h := h.fold [0, 3, 1, 2] rfl ((RAt_mk gi ci gw cw ws hw))
      replace h := h.conv (sl' := _) (L' := [_]) rfl rfl
      exact h.ret1 Try.results47 rfl (Ent.refl _) (⟨rfl, rfl⟩)
    · rw [hq'] at hfs
      obtain ⟨j, p, hi, rfl, hpn, hnn⟩ := findW_some' hq'
      rw [hw] at hnn
      have e : commitR q n = (0, dropR ⟨leftR q.works n q.items ++ newR q.given p.2.list, q.works, q.given + putsQ p.2.list⟩ n) := by simp only [commitR, if_neg hc, hnn]; rfl
      rw [e]
      have hpl := hq.lists p.2 (List.mem_of_getElem? (by rw [← hw]; simp [hi] : q.works[j]? = some p.2))
      have hpu := putsQ_le p.2.list
      refine St.callD h [0, 1, 1] rfl (Ro.nil _) (hfs) rfl rfl rfl Try.call85 rfl rfl fun a w h => ?_
      replace h := h.conv (sl' := _) (L' := [cells _ _ [_, _, _], _, _, _]) rfl rfl
      refine St.get h rfl rfl rfl (G.assign rfl rfl) fun a h => ?_
      refine wpl_nil ?_
      refine X.thenN ?_
      refine C.seq ?_
      refine C.seq ?_
      refine C.region ?_
      refine St.get h rfl rfl rfl (G.move rfl rfl) fun a h => ?_
      refine St.get h rfl rfl rfl (G.bin rfl rfl rfl (B.peql Try.underlying133 _)) fun a h => ?_
      refine wpl_nil ?_
      refine X.thenN ?_
      refine St.condF h rfl ?_
      refine C.skip ?_
      refine X.thenN ?_
      refine C.seq ?_
      refine C.region ?_
      refine St.get h rfl rfl rfl (G.assign rfl rfl) fun a h => ?_
      refine wpl_nil ?_
      refine X.thenN ?_
      refine C.seq ?_
      refine C.seq ?_
      refine C.region ?_
      refine St.get h rfl rfl rfl (G.assign rfl rfl) fun a h => ?_
      refine wpl_nil ?_
      refine X.thenN ?_
      refine C.block ?_
      replace h := h.nil encRI 131
      refine C.loop (fun m a w => ∃ (i : Nat) (gv : Option Addr) (cv : Nat), i + m = q.items.length ∧ St w0 S R 96 [(0, .pointer (some ⟨b, o, none⟩)), (1, .int .i64 n), (5, .pointer (some ⟨p.1, 0, none⟩)), (6, rlv gv (leftR q.works n (q.items.take i)).length cv), (7, .int .i64 i)]
        [ownl encRI 131 gv cv (leftR q.works n (q.items.take i)), cells b o [rlv gi q.items.length ci, rlv gw ws.length cw, .int .i64 q.given], ownl encRI 131 gi ci q.items, ownl encPtr 133 gw cw (ws.map Prod.fst), many (WAt 80) ws] a w) q.items.length ⟨0, none, 0, by omega, ?_⟩ ?_
      · replace h := h.sel [0, 1, 4, 2, 3] rfl
        replace h := h.conv (sl' := _) (L' := [_, cells _ _ [_, _, _], _, _, _]) rfl rfl
        exact h.sub ⟨rfl, rfl, rfl, rfl, rfl, trivial⟩
      rintro m a w ⟨i, gv, cv, him, h⟩
      by_cases hlt : i < q.items.length
      · obtain ⟨x, hx⟩ : ∃ x, q.items[i]? = some x := ⟨_, List.getElem?_eq_getElem hlt⟩
        have hx1 : q.items[(i : Int).toNat]? = some x := by simp [hx]
        have hts := Taker_spec b o x.num (rlv gi q.items.length ci) (.int .i64 q.given) gw cw ws
        rw [hw] at hts
        have hls := leftR_snoc q.works n (q.items.take i) x
        rw [show q.items.take i ++ [x] = q.items.take (i + 1) by rw [List.take_add_one, hx]; rfl] at hls
        have hll := leftR_len q.works n (q.items.take i)
        have htl : (q.items.take i).length ≤ i := by simp; omega
        refine C.seq ?_
        refine C.seq ?_
        refine C.region ?_
        refine St.get h rfl rfl rfl (G.move rfl rfl) fun a h => ?_
        refine St.get h rfl rfl rfl (G.move rfl rfl) fun a h => ?_
        refine St.get h rfl rfl rfl (G.nilc rfl rfl) fun a h => ?_
        refine St.get h rfl rfl rfl (G.fadr 0 rfl rfl Try.underlying42 rfl rfl Try.sizeOf39) fun a h => ?_
        refine St.get h rfl rfl rfl (G.ld 1 0 rfl rfl rfl rfl rfl Try.isAgg39) fun a h => ?_
        refine St.get h rfl rfl rfl (G.lens rfl rfl Try.underlying39) fun a h => ?_
        refine St.get h rfl rfl rfl (G.bin rfl rfl rfl (B.lssT (by omega))) fun a h => ?_
        refine wpl_nil ?_
        refine X.thenN ?_
        refine St.condT h rfl ?_
        refine C.skip ?_
        refine X.thenN ?_
        refine C.seq ?_
        refine C.block ?_
        refine C.seq ?_
        refine C.region ?_
        refine St.get h rfl rfl rfl (G.move rfl rfl) fun a h => ?_
        refine St.get h rfl rfl rfl (G.move rfl rfl) fun a h => ?_
        refine St.get h rfl rfl rfl (G.nilc rfl rfl) fun a h => ?_
        refine St.get h rfl rfl rfl (G.fadr 0 rfl rfl Try.underlying42 rfl rfl Try.sizeOf39) fun a h => ?_
        refine St.get h rfl rfl rfl (G.ld 1 0 rfl rfl rfl rfl rfl Try.isAgg39) fun a h => ?_
        refine St.get h rfl rfl rfl (G.move rfl rfl) fun a h => ?_
        refine St.get h rfl rfl rfl (G.idxo _ 2 rfl rfl rfl rfl (by omega) (by omega) (by omega) Try.underlying39 Try.sizeOf131) fun a h => ?_
        refine St.get h rfl rfl rfl (G.fadr 0 rfl rfl Try.underlying131 rfl rfl Try.sizeOf3) fun a h => ?_
        refine St.get h rfl rfl rfl (G.ldo _ 2 0 rfl (by assumption) rfl rfl rfl rfl rfl Try.isAgg3) fun a h => ?_
        refine St.callD h [1, 2, 2] rfl (Ro.nil _) (hts) rfl rfl rfl Try.call84 rfl rfl fun a w h => ?_
        replace h := h.conv (sl' := _) (L' := [cells _ _ [_, _, _], _, _, _, _]) rfl rfl
        refine St.get h rfl rfl rfl (G.move rfl rfl) fun a h => ?_
        refine St.getP h rfl rfl rfl (G.bin rfl rfl rfl B.neq) (fun hc1 a h => ?_) (fun hc1 a h => ?_)
        refine wpl_nil ?_
        refine X.thenN ?_
        refine St.condT h rfl ?_
        refine C.region ?_
        refine St.get h rfl rfl rfl (G.move rfl rfl) fun a h => ?_
        refine St.get h rfl rfl rfl (G.move rfl rfl) fun a h => ?_
        refine St.get h rfl rfl rfl (G.nilc rfl rfl) fun a h => ?_
        refine St.get h rfl rfl rfl (G.fadr 0 rfl rfl Try.underlying42 rfl rfl Try.sizeOf39) fun a h => ?_
        refine St.get h rfl rfl rfl (G.ld 0 0 rfl rfl rfl rfl rfl Try.isAgg39) fun a h => ?_
        refine St.get h rfl rfl rfl (G.move rfl rfl) fun a h => ?_
        refine St.get h rfl rfl rfl (G.idxo _ 4 rfl rfl rfl rfl (by omega) (by omega) (by omega) Try.underlying39 Try.sizeOf131) fun a h => ?_
        refine St.get h rfl rfl rfl (G.ldoa _ 4 rfl (by assumption) rfl rfl rfl rfl Try.isAgg131 Try.sizeOf131) fun a h => ?_
        replace h := h.conv (sl' := (_, .agg #[_, _]) :: _) (L' := _) rfl rfl
        rotate_left
        refine wpl_nil ?_
        refine X.thenN ?_
        refine St.condF h rfl ?_
        refine C.skip ?_
        refine X.blkN ?_
        refine X.thenN ?_
        refine C.region ?_
        refine St.get h rfl rfl rfl (G.move rfl rfl) fun a h => ?_
        refine St.get h rfl rfl rfl (G.bin rfl rfl rfl (B.addi (by omega) (by omega))) fun a h => ?_
        refine St.get h rfl rfl rfl (G.assign rfl rfl) fun a h => ?_
        refine wpl_nil ?_
        refine X.thenN ?_
        rotate_left
        · rw [if_neg hc1] at hls
          refine St.bslice h (encRI) ([x]) rfl rfl Try.underlying39 Try.sizeOf131 Try.zeroValue131 rfl rfl ⟨rfl, rfl, trivial⟩ rfl rfl rfl fun b1 a w h => ?_
          skip
          refine St.append h _ 4 rfl (Ro.cons 0 rfl (ownl_ro _ _ _ _ _) (Ro.nil _)) rfl rfl rfl (by first | rfl | omega | simp) (by first | rfl | omega | simp) Try.underlying39 Try.typeInfo131 rfl rfl rfl 16 rfl (by (try simp only [List.length_append, List.length_cons, List.length_nil, List.length_map, List.length_take]); omega) (by (try simp only [List.length_append, List.length_cons, List.length_nil, List.length_map, List.length_take]); omega) rfl rfl rfl fun A1 c1 a w hnil h => ?_
          replace h := h.conv (sl' := _) (L' := [_, _, cells _ _ [_, _, _], _, _, _]) rfl rfl
          refine St.get h rfl rfl rfl (G.assign rfl rfl) fun a h => ?_
          refine wpl_nil ?_
          refine X.blkN ?_
          refine X.thenN ?_
          refine C.region ?_
          refine St.get h rfl rfl rfl (G.move rfl rfl) fun a h => ?_
          refine St.get h rfl rfl rfl (G.bin rfl rfl rfl (B.addi (by omega) (by omega))) fun a h => ?_
          refine St.get h rfl rfl rfl (G.assign rfl rfl) fun a h => ?_
          refine wpl_nil ?_
          refine X.thenN ?_
          replace h := h.sel [0, 2, 5, 3, 4] rfl
          replace h := h.conv (sl' := _) (L' := [_, cells _ _ [_, _, _], _, _, _]) rfl rfl
          rw [← hls] at h
          exact ⟨m - 1, by omega, i + 1, A1, c1, by omega, h.sub ⟨rfl, rfl, rfl, rfl, rfl, trivial⟩⟩
        · rw [if_pos (by omega), List.append_nil] at hls
          rw [← hls] at h
          replace h := h.sel [3, 0, 4, 1, 2] rfl
          replace h := h.conv (sl' := _) (L' := [_, cells _ _ [_, _, _], _, _, _]) rfl rfl
          exact ⟨m - 1, by omega, i + 1, gv, cv, by omega, h.sub ⟨rfl, rfl, rfl, rfl, rfl, trivial⟩⟩
      · rw [List.take_of_length_le (by omega)] at h
        refine C.seq ?_
        refine C.seq ?_
        refine C.region ?_
        refine St.get h rfl rfl rfl (G.move rfl rfl) fun a h => ?_
        refine St.get h rfl rfl rfl (G.move rfl rfl) fun a h => ?_
        refine St.get h rfl rfl rfl (G.nilc rfl rfl) fun a h => ?_
        refine St.get h rfl rfl rfl (G.fadr 0 rfl rfl Try.underlying42 rfl rfl Try.sizeOf39) fun a h => ?_
        refine St.get h rfl rfl rfl (G.ld 1 0 rfl rfl rfl rfl rfl Try.isAgg39) fun a h => ?_
        refine St.get h rfl rfl rfl (G.lens rfl rfl Try.underlying39) fun a h => ?_
        refine St.get h rfl rfl rfl (G.bin rfl rfl rfl (B.lssF (by omega))) fun a h => ?_
        refine wpl_nil ?_
        refine X.thenN ?_
        refine St.condF h rfl ?_
        refine C.exit ?_
        refine X.thenE ?_
        refine X.thenE ?_
        refine X.blkE ?_
        refine X.thenN ?_
        refine C.seq ?_
        refine C.seq ?_
        refine C.region ?_
        refine St.get h rfl rfl rfl (G.assign rfl rfl) fun a h => ?_
        refine wpl_nil ?_
        refine X.thenN ?_
        refine C.block ?_
        replace h := h.turn 4 rfl ((many_takeL (WAt _) hi))
        replace h := h.conv (sl' := _) (L' := [_, _, _, cells _ _ [_, _, _], _, _]) rfl rfl
        obtain ⟨g1, c1, h⟩ := h.openW 0 rfl
        generalize hlf : leftR q.works n q.items = lf at *
        have hlfl : lf.length ≤ q.items.length := by rw [← hlf]; exact leftR_len _ _ _
        refine C.loop (fun m a w => ∃ (k : Nat) (gv : Option Addr) (cv : Nat), k + m = p.2.list.length ∧ St w0 S R 96 [(0, .pointer (some ⟨b, o, none⟩)), (1, .int .i64 n), (5, .pointer (some ⟨p.1, 0, none⟩)), (6, rlv gv (lf ++ newR q.given (p.2.list.take k)).length cv), (8, .int .i64 k)]
          [ownl encRI 131 gv cv (lf ++ newR q.given (p.2.list.take k)), cells b o [rlv gi q.items.length ci, rlv gw ws.length cw, .int .i64 (q.given + putsQ (p.2.list.take k))], ownl encRI 131 gi ci q.items, ownl encPtr 133 gw cw (ws.map Prod.fst), many (WAt 80) (ws.eraseIdx j),
            cells p.1 0 [.int .i64 p.2.n, rlv g1 p.2.list.length c1, .bool p.2.prep], ownl encCh 80 g1 c1 p.2.list] a w) p.2.list.length ⟨0, gv, cv, by omega, ?_⟩ ?_
        · have e0 : lf ++ newR q.given (p.2.list.take 0) = lf := by simp [newR]
          have e1 : q.given + putsQ (p.2.list.take 0) = q.given := by simp [putsQ]
          rw [e0, e1]
          replace h := h.sel [3, 4, 5, 6, 2, 0, 1] rfl
          replace h := h.conv (sl' := _) (L' := [_, cells _ _ [_, _, _], _, _, _, cells _ _ [_, _, _], _]) rfl rfl
          exact h.sub ⟨rfl, rfl, rfl, rfl, rfl, trivial⟩
        · rintro m a w ⟨k, gv, cv, hkm, h⟩
          have hpk := putsQ_le (p.2.list.take k)
          have hkl : (p.2.list.take k).length ≤ k := by simp; omega
          have hnl := newR_len (p.2.list.take k) q.given
          by_cases hlt2 : k < p.2.list.length
          · obtain ⟨x, hx⟩ : ∃ x, p.2.list[k]? = some x := ⟨_, List.getElem?_eq_getElem hlt2⟩
            have hx1 : p.2.list[(k : Int).toNat]? = some x := by simp [hx]
            have htk : p.2.list.take (k + 1) = p.2.list.take k ++ [x] := by rw [List.take_add_one, hx]; rfl
            have hpd := putsQ_drop hx
            have htl := newR_snoc x (p.2.list.take k) q.given
            rw [← htk] at htl
            refine C.seq ?_
            refine C.seq ?_
            refine C.region ?_
            refine St.get h rfl rfl rfl (G.move rfl rfl) fun a h => ?_
            refine St.get h rfl rfl rfl (G.move rfl rfl) fun a h => ?_
            refine St.get h rfl rfl rfl (G.nilc rfl rfl) fun a h => ?_
            refine St.get h rfl rfl rfl (G.fadr 1 rfl rfl Try.underlying136 rfl rfl Try.sizeOf23) fun a h => ?_
            refine St.get h rfl rfl rfl (G.ld 5 1 rfl rfl rfl rfl rfl Try.isAgg23) fun a h => ?_
            refine St.get h rfl rfl rfl (G.lens rfl rfl Try.underlying23) fun a h => ?_
            refine St.get h rfl rfl rfl (G.bin rfl rfl rfl (B.lssT (by omega))) fun a h => ?_
            refine wpl_nil ?_
            refine X.thenN ?_
            refine St.condT h rfl ?_
            refine C.skip ?_
            refine X.thenN ?_
            refine C.seq ?_
            refine C.block ?_
            refine C.seq ?_
            refine C.region ?_
            refine St.get h rfl rfl rfl (G.move rfl rfl) fun a h => ?_
            refine St.get h rfl rfl rfl (G.nilc rfl rfl) fun a h => ?_
            refine St.get h rfl rfl rfl (G.fadr 1 rfl rfl Try.underlying136 rfl rfl Try.sizeOf23) fun a h => ?_
            refine St.get h rfl rfl rfl (G.ld 5 1 rfl rfl rfl rfl rfl Try.isAgg23) fun a h => ?_
            refine St.get h rfl rfl rfl (G.move rfl rfl) fun a h => ?_
            refine St.get h rfl rfl rfl (G.idxo _ 6 rfl rfl rfl rfl (by omega) (by omega) (by omega) Try.underlying23 Try.sizeOf80) fun a h => ?_
            refine St.get h rfl rfl rfl (G.fadr 0 rfl rfl Try.underlying80 rfl rfl Try.sizeOf3) fun a h => ?_
            refine St.get h rfl rfl rfl (G.ldo _ 6 0 rfl (by assumption) rfl rfl rfl rfl rfl Try.isAgg3) fun a h => ?_
            refine St.getP h rfl rfl rfl (G.bin rfl rfl rfl B.eql) (fun hc1 a h => ?_) (fun hc1 a h => ?_)
            refine wpl_nil ?_
            refine X.thenN ?_
            refine St.condT h rfl ?_
            refine C.seq ?_
            refine C.region ?_
            refine St.get h rfl rfl rfl (G.move rfl rfl) fun a h => ?_
            refine St.get h rfl rfl rfl (G.move rfl rfl) fun a h => ?_
            refine St.get h rfl rfl rfl (G.nilc rfl rfl) fun a h => ?_
            refine St.get h rfl rfl rfl (G.fadr 2 rfl rfl Try.underlying42 rfl rfl Try.sizeOf3) fun a h => ?_
            refine St.get h rfl rfl rfl (G.ld 1 2 rfl rfl rfl rfl rfl Try.isAgg3) fun a h => ?_
            refine St.get h rfl rfl rfl (G.bin rfl rfl rfl (B.addi (by omega) (by omega))) fun a h => ?_
            refine St.get h rfl rfl rfl (G.nilc rfl rfl) fun a h => ?_
            refine St.get h rfl rfl rfl (G.fadr 2 rfl rfl Try.underlying42 rfl rfl Try.sizeOf3) fun a h => ?_
            refine St.put h rfl rfl (U.st 1 2 rfl rfl rfl rfl rfl rfl rfl Try.sizeOf3) fun a w h => ?_
            replace h := h.conv (sl' := _) (L' := [_, cells _ _ [_, _, _], _, _, _, cells _ _ [_, _, _], _]) rfl rfl
            refine wpl_nil ?_
            refine X.thenN ?_
            rotate_left
            refine wpl_nil ?_
            refine X.thenN ?_
            refine St.condF h rfl ?_
            refine C.skip ?_
            refine X.blkN ?_
            refine X.thenN ?_
            refine C.region ?_
            refine St.get h rfl rfl rfl (G.move rfl rfl) fun a h => ?_
            refine St.get h rfl rfl rfl (G.bin rfl rfl rfl (B.addi (by omega) (by omega))) fun a h => ?_
            refine St.get h rfl rfl rfl (G.assign rfl rfl) fun a h => ?_
            refine wpl_nil ?_
            refine X.thenN ?_
            rotate_left
            · rw [if_pos hc1] at htl hpd
              refine C.anyAt Try_mixed 15 17 [1, 5, 6] (LB := [_, _, _]) h rfl rfl fun w h hcl hI => ?_
              refine St.takeP h 0 15 1 rfl (by decide +kernel) hcl hI (wanted_of rfl _) rfl rfl (G.move rfl rfl) (fun _ _ _ x => x) fun a h hcl hI => ?_
              refine St.takeP h 1 15 3 rfl (by decide +kernel) hcl hI (wanted_of rfl _) rfl rfl (G.move rfl rfl) (fun _ _ _ x => x) fun a h hcl hI => ?_
              refine St.takeP h 2 15 7 rfl (by decide +kernel) hcl hI (wanted_of rfl _) rfl rfl (G.nilc rfl rfl) (fun _ _ _ x => x) fun a h hcl hI => ?_
              refine St.takeP h 3 15 15 rfl (by decide +kernel) hcl hI (wanted_of rfl _) rfl rfl (G.fadr 2 rfl rfl Try.underlying42 rfl rfl Try.sizeOf3) (fun _ _ _ x => x) fun a h hcl hI => ?_
              refine St.takeL h 4 15 31 rfl (by decide +kernel) hcl hI (wanted_of rfl _) rfl rfl (G.ld 0 2 rfl rfl rfl rfl rfl Try.isAgg3) (fun _ _ _ x => x) fun a h hcl hI => ?_
              refine St.takeP h 5 15 63 rfl (by decide +kernel) hcl hI (wanted_of rfl _) rfl rfl (G.move rfl rfl) (fun _ _ _ x => x) fun a h hcl hI => ?_
              refine St.takeP h 6 15 127 rfl (by decide +kernel) hcl hI (wanted_of rfl _) rfl rfl (G.nilc rfl rfl) (fun _ _ _ x => x) fun a h hcl hI => ?_
              refine St.takeP h 7 15 255 rfl (by decide +kernel) hcl hI (wanted_of rfl _) rfl rfl (G.fadr 1 rfl rfl Try.underlying136 rfl rfl Try.sizeOf23) (fun _ _ _ x => x) fun a h hcl hI => ?_
              refine St.takeL h 8 15 511 rfl (by decide +kernel) hcl hI (wanted_of rfl _) rfl rfl (G.ld 1 1 rfl rfl rfl rfl rfl Try.isAgg23) (fun _ _ _ x => x) fun a h hcl hI => ?_
              refine St.takeP h 9 15 1023 rfl (by decide +kernel) hcl hI (wanted_of rfl _) rfl rfl (G.move rfl rfl) (fun _ _ _ x => x) fun a h hcl hI => ?_
              refine St.takeL h 10 15 2047 rfl (by decide +kernel) hcl hI (wanted_of rfl _) rfl rfl (G.idxo _ 2 rfl rfl rfl rfl (by omega) (by omega) (by omega) Try.underlying23 Try.sizeOf80) (fun _ _ _ x => x) fun a h hcl hI => ?_
              refine St.takeP h 11 15 4095 rfl (by decide +kernel) hcl hI (wanted_of rfl _) rfl rfl (G.fadr 2 rfl rfl Try.underlying80 rfl rfl Try.sizeOf22) (fun _ _ _ x => x) fun a h hcl hI => ?_
              refine St.takeL h 12 15 8191 rfl (by decide +kernel) hcl hI (wanted_of rfl _) rfl rfl (G.ldo _ 2 2 rfl (by assumption) rfl rfl rfl rfl rfl Try.isAgg22) (fun _ _ _ x => x) fun a h hcl hI => ?_
              refine St.takeP h 13 15 16383 rfl (by decide +kernel) hcl hI (wanted_of rfl _) rfl rfl (G.build [(0, 1), (1, 1)] rfl rfl Try.zeroValue131 Try.underlying131 ⟨rfl, Try.sizeOf3, rfl, Try.sizeOf22, trivial⟩ rfl) (fun _ _ _ x => x) fun a h hcl hI => ?_
              replace h := h.conv (sl' := (_, .agg #[.int _ _, .int _ _]) :: _) (L' := _) rfl rfl
              refine oneL 14 32767 rfl (by decide +kernel) hcl (wanted_of rfl _) fun hcl => ?_
              refine St.actK h rfl rfl (Acts.bslice (encRI) ([⟨q.given + putsQ (p.2.list.take k) + 1, x.val⟩]) rfl rfl Try.underlying39 Try.sizeOf131 Try.zeroValue131 rfl (Nat.le_of_ble_eq_true rfl) ⟨rfl, rfl, trivial⟩) fun v L a w hp h => ?_
              obtain ⟨b1, rfl, rfl⟩ := hp
              refine St.onL h [2, 6, 7] (LB := [_, _, _]) rfl fun hI => ?_
              refine oneL 15 65535 rfl (by decide +kernel) hcl (wanted_of rfl _) fun hcl => ?_
              refine St.actK h rfl rfl (Acts.append _ 1 rfl (Ro.cons 0 rfl (ownl_ro _ _ _ _ _) (Ro.nil _)) rfl rfl rfl (by first | rfl | omega | simp) (by first | rfl | omega | simp) Try.underlying39 Try.typeInfo131 rfl rfl rfl 16 rfl (by (try simp only [List.length_append, List.length_cons, List.length_nil, List.length_map, List.length_take]); omega) (by (try simp only [List.length_append, List.length_cons, List.length_nil, List.length_map, List.length_take]); omega)) fun v L a w hp h => ?_
              obtain ⟨A1, c2, rfl, hnil, rfl⟩ := hp
              replace h := h.conv (sl' := _) (L' := [_, _, cells _ _ [_, _, _], _, _, _, cells _ _ [_, _, _], _]) rfl rfl
              refine offL rfl fun hI => ?_
              refine St.takeP h 16 15 131071 rfl (by decide +kernel) hcl hI (wanted_of rfl _) rfl rfl (G.assign rfl rfl) (fun _ _ _ x => x) fun a h hcl hI => ?_
              refine doneL (by decide +kernel) ?_
              refine X.blkN ?_
              refine X.thenN ?_
              refine C.region ?_
              refine St.get h rfl rfl rfl (G.move rfl rfl) fun a h => ?_
              refine St.get h rfl rfl rfl (G.bin rfl rfl rfl (B.addi (by omega) (by omega))) fun a h => ?_
              refine St.get h rfl rfl rfl (G.assign rfl rfl) fun a h => ?_
              refine wpl_nil ?_
              refine X.thenN ?_
              replace h := h.sel [0, 2, 3, 4, 5, 6, 7] rfl
              replace h := h.conv (sl' := _) (L' := [_, cells _ _ [_, _, _], _, _, _, cells _ _ [_, _, _], _]) rfl rfl
              rw [List.append_assoc, ← htl, Int.add_assoc, ← hpd] at h
              exact ⟨m - 1, by omega, k + 1, A1, c2, by omega, h.sub ⟨rfl, rfl, rfl, rfl, rfl, trivial⟩⟩
            · rw [if_neg hc1] at htl hpd
              rw [List.append_nil] at htl
              rw [Int.add_zero] at hpd
              rw [← htl, ← hpd] at h
              exact ⟨m - 1, by omega, k + 1, gv, cv, by omega, h.sub ⟨rfl, rfl, rfl, rfl, rfl, trivial⟩⟩
          · rw [List.take_of_length_le (by omega)] at h
            refine C.seq ?_
            refine C.seq ?_
            refine C.region ?_
            refine St.get h rfl rfl rfl (G.move rfl rfl) fun a h => ?_
            refine St.get h rfl rfl rfl (G.move rfl rfl) fun a h => ?_
            refine St.get h rfl rfl rfl (G.nilc rfl rfl) fun a h => ?_
            refine St.get h rfl rfl rfl (G.fadr 1 rfl rfl Try.underlying136 rfl rfl Try.sizeOf23) fun a h => ?_
            refine St.get h rfl rfl rfl (G.ld 5 1 rfl rfl rfl rfl rfl Try.isAgg23) fun a h => ?_
            refine St.get h rfl rfl rfl (G.lens rfl rfl Try.underlying23) fun a h => ?_
            refine St.get h rfl rfl rfl (G.bin rfl rfl rfl (B.lssF (by omega))) fun a h => ?_
            refine wpl_nil ?_
            refine X.thenN ?_
            refine St.condF h rfl ?_
            refine C.exit ?_
            refine X.thenE ?_
            refine X.thenE ?_
            refine X.blkE ?_
            refine X.thenN ?_
            refine C.seq ?_
            refine C.region ?_
            refine St.get h rfl rfl rfl (G.move rfl rfl) fun a h => ?_
            refine St.get h rfl rfl rfl (G.move rfl rfl) fun a h => ?_
            refine St.get h rfl rfl rfl (G.nilc rfl rfl) fun a h => ?_
            refine St.get h rfl rfl rfl (G.fadr 0 rfl rfl Try.underlying42 rfl rfl Try.sizeOf39) fun a h => ?_
            refine St.put h rfl rfl (U.st 1 0 rfl rfl rfl rfl rfl rfl rfl Try.sizeOf39) fun a w h => ?_
            replace h := h.conv (sl' := _) (L' := [_, cells _ _ [_, _, _], _, _, _, cells _ _ [_, _, _], _]) rfl rfl
            refine wpl_nil ?_
            refine X.thenN ?_
            refine C.seq ?_
            refine C.region ?_
            refine St.get h rfl rfl rfl (G.move rfl rfl) fun a h => ?_
            refine St.get h rfl rfl rfl (G.move rfl rfl) fun a h => ?_
            replace h := h.fold [5, 6, 4] rfl ((W_back 80 hi g1 c1))
            replace h := h.conv (sl' := _) (L' := [_, _, cells _ _ [_, _, _], _, _]) rfl rfl
            replace h := h.fold [2, 1, 4, 0] rfl ((RAt_mk (q := ⟨lf ++ newR q.given p.2.list, q.works, q.given + putsQ p.2.list⟩) gv cv gw cw ws hw))
            replace h := h.conv (sl' := _) (L' := [_, _]) rfl rfl
            refine St.callD h [0] rfl (Ro.nil _) ((drop_spec b o ⟨lf ++ newR q.given p.2.list, q.works, q.given + putsQ p.2.list⟩ n hq.works)) rfl rfl rfl Try.call86 rfl rfl fun a w h => ?_
            replace h := h.conv (sl' := _) (L' := [_, _]) rfl rfl
            refine wpl_nil ?_
            refine X.thenN ?_
            refine C.seq ?_
            refine C.region ?_
            refine St.get h rfl rfl rfl (G.assign rfl rfl) fun a h => ?_
            refine wpl_nil ?_
            refine X.thenN ?_
            refine C.ret ?_
            replace h := h.sel [0] rfl
            replace h := h.conv (sl' := _) (L' := [_]) rfl rfl
            exact h.ret1 Try.results47 rfl (Ent.refl _) (⟨rfl, rfl⟩)
end Go.Proofs.Ytllhegccpknncaa
