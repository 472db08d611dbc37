/-
  The queue's New, Busy, Values, Prepare, Load.
-/
import Derived.Test.YtllhegccpknncaaQb
import Derived.Test.YtllhegccpknncaaSeat
set_option linter.unusedVariables false
set_option linter.unusedSimpArgs false
set_option linter.unusedSectionVars false
set_option maxRecDepth 8000
namespace Go.Proofs.Ytllhegccpknncaa
open Go.Tr

theorem Busy_nil (n : Int) : Meets Try.prog 16 #[.pointer none, .int .i64 n] [] (Det (.bool false) []) := by
  refine Meets.of_code Try.func16 rfl Try.ntmps16 rfl fun w0 S R a h => ?_
  refine C.seq ?_
  refine C.region ?_
  refine St.get h rfl rfl rfl (G.assign rfl rfl) fun a h => ?_
  refine wpl_nil ?_
  refine X.thenN ?_
  refine C.seq ?_
  refine C.region ?_
  refine St.get h rfl rfl rfl (G.move rfl rfl) fun a h => ?_
  refine St.get h rfl rfl rfl (G.bin rfl rfl rfl (B.pneq Try.underlying29 _)) fun a h => ?_
  refine St.get h rfl rfl rfl (G.move rfl rfl) fun a h => ?_
  refine St.guard_no h rfl rfl rfl rfl rfl (by decide) rfl rfl fun a h => ?_
  refine St.guard_no h rfl rfl rfl rfl rfl (by decide) rfl rfl fun a h => ?_
  refine St.guard_no h rfl rfl rfl rfl rfl (by decide) rfl rfl fun a h => ?_
  refine St.guard_no h rfl rfl rfl rfl rfl (by decide) rfl rfl fun a h => ?_
  refine St.get h rfl rfl rfl (G.pickF rfl rfl rfl) fun a h => ?_
  refine St.get h rfl rfl rfl (G.assign rfl rfl) fun a h => ?_
  refine wpl_nil ?_
  refine X.thenN ?_
  refine C.ret ?_
  exact h.ret1 Try.results16 rfl (Ent.refl _) (⟨rfl, rfl⟩)
theorem Busy_spec (b o : Nat) (q : QM) (n : Int) : Meets Try.prog 16 #[.pointer (some ⟨b, o, none⟩), .int .i64 n] [QAt b o q] (Det (.bool (findQ n q.works).isSome) [QAt b o q]) := by
  refine Meets.of_code Try.func16 rfl Try.ntmps16 rfl fun w0 S R a h => ?_
  obtain ⟨gi, ci, gw, cw, ws, hw, h⟩ := h.openQ 0 rfl
  have hfs := find_spec b o n (rlv gi q.items.length ci) (.int .i64 q.given) gw cw ws
  replace h := h.conv (sl' := _) (L' := [cells _ _ [_, _, _], _, _, _]) rfl rfl
  refine C.seq ?_
  refine C.region ?_
  refine St.get h rfl rfl rfl (G.assign rfl rfl) fun a h => ?_
  refine wpl_nil ?_
  refine X.thenN ?_
  refine C.seq ?_
  refine C.region ?_
  refine St.get h rfl rfl rfl (G.move rfl rfl) fun a h => ?_
  refine St.get h rfl rfl rfl (G.bin rfl rfl rfl (B.pneq Try.underlying29 _)) fun a h => ?_
  refine St.get h rfl rfl rfl (G.move rfl rfl) fun a h => ?_
  refine St.guard_yes h rfl rfl rfl rfl rfl ?_
  refine St.get h rfl rfl rfl (G.move rfl rfl) fun a h => ?_
  refine St.guard_yes h rfl rfl rfl rfl rfl ?_
  refine St.get h rfl rfl rfl (G.move rfl rfl) fun a h => ?_
  refine St.guard_yes h rfl rfl rfl rfl rfl ?_
  rcases hq : findW n ws with _ | pq
  · rw [hq] at hfs
    have hn := findW_none' hq
    rw [hw] at hn
    refine St.callD h [0, 1, 1] rfl (Ro.nil _) (hfs) rfl rfl rfl Try.call51 rfl rfl fun a w h => ?_
    replace h := h.conv (sl' := _) (L' := [cells _ _ [_, _, _], _, _, _]) rfl rfl
    refine St.guard_yes h rfl rfl rfl rfl rfl ?_
    refine St.get h rfl rfl rfl (G.bin rfl rfl rfl (B.pneq Try.underlying92 _)) fun a h => ?_
    refine St.get h rfl rfl rfl (G.pickT rfl rfl rfl) fun a h => ?_
    refine St.get h rfl rfl rfl (G.assign rfl rfl) fun a h => ?_
    refine wpl_nil ?_
    refine X.thenN ?_
    refine C.ret ?_
    replace h := h.fold [0, 3, 1, 2] rfl ((QAt_mk gi ci gw cw ws hw))
    replace h := h.conv (sl' := _) (L' := [_]) rfl rfl
    exact h.ret1 Try.results16 rfl (Ent.refl _) (⟨by rw [hn]; rfl, rfl⟩)
  · rw [hq] at hfs
    obtain ⟨i, p, hi, rfl, hpn, hn⟩ := findW_some' hq
    rw [hw] at hn
    refine St.callD h [0, 1, 1] rfl (Ro.nil _) (hfs) rfl rfl rfl Try.call51 rfl rfl fun a w h => ?_
    replace h := h.conv (sl' := _) (L' := [cells _ _ [_, _, _], _, _, _]) rfl rfl
    refine St.guard_yes h rfl rfl rfl rfl rfl ?_
    refine St.get h rfl rfl rfl (G.bin rfl rfl rfl (B.pneq Try.underlying92 _)) fun a h => ?_
    refine St.get h rfl rfl rfl (G.pickT rfl rfl rfl) fun a h => ?_
    refine St.get h rfl rfl rfl (G.assign rfl rfl) fun a h => ?_
    refine wpl_nil ?_
    refine X.thenN ?_
    refine C.ret ?_
    replace h := h.fold [0, 3, 1, 2] rfl ((QAt_mk gi ci gw cw ws hw))
    replace h := h.conv (sl' := _) (L' := [_]) rfl rfl
    exact h.ret1 Try.results16 rfl (Ent.refl _) (⟨by rw [hn]; rfl, rfl⟩)
theorem Clone_spec (g : Option Addr) (c : Nat) (l : List Ch) (hl : l.length < 1000000000) : Meets Try.prog 79 #[rlv g l.length c] [rdl encCh g l]
    (fun v L => ∃ A' c', v = rlv A' l.length c' ∧ L = [ownl encCh 80 A' c' l]) := by
  refine Meets.of_code Try.func79 rfl Try.ntmps79 rfl fun w0 S R a h => ?_
  refine C.seq ?_
  refine C.region ?_
  refine St.get h rfl rfl rfl (G.assign rfl rfl) fun a h => ?_
  refine wpl_nil ?_
  refine X.thenN ?_
  refine C.seq ?_
  refine C.seq ?_
  refine C.region ?_
  refine St.get h rfl rfl rfl (G.move rfl rfl) fun a h => ?_
  refine St.get h rfl rfl rfl (G.bin rfl rfl rfl (B.seql Try.underlying23 _ _ _)) fun a h => ?_
  refine wpl_nil ?_
  refine X.thenN ?_
  refine St.cond h rfl (fun hc => ?_) (fun hc => ?_)
  refine C.seq ?_
  refine C.region ?_
  refine St.get h rfl rfl rfl (G.assign rfl rfl) fun a h => ?_
  refine wpl_nil ?_
  refine X.thenN ?_
  refine C.ret ?_
  refine X.thenR ?_
  rotate_left
  refine C.skip ?_
  refine X.thenN ?_
  refine C.seq ?_
  refine C.region ?_
  rotate_left
  · have hg : g = none := by cases g <;> simp_all
    subst hg
    have hl0 := h.tell1 0 rfl fun _ _ _ => rdl_none
    subst hl0
    replace h := (h.nil encCh 80).sel [0] rfl
    replace h := h.conv (sl' := _) (L' := [_]) rfl rfl
    exact h.ret1 Try.results79 rfl (Ent.refl _) (⟨none, 0, rfl, rfl⟩)
  · refine St.bslice h (encCh) ([]) rfl rfl Try.underlying23 Try.sizeOf80 Try.zeroValue80 rfl rfl trivial rfl rfl rfl fun b1 a w h => ?_
    refine St.get h rfl rfl rfl (G.move rfl rfl) fun a h => ?_
    refine St.append h _ 0 rfl (Ro.cons 0 rfl (rdl_ro _ _ _) (Ro.nil _)) rfl rfl rfl (by first | rfl | omega | simp) (by first | rfl | omega | simp) Try.underlying23 Try.typeInfo80 rfl rfl rfl 24 rfl (by (try simp only [List.length_append, List.length_cons, List.length_nil, List.length_map, List.length_take]); omega) (by (try simp only [List.length_append, List.length_cons, List.length_nil, List.length_map, List.length_take]); omega) rfl rfl rfl fun A1 c1 a w hnil h => ?_
    replace h := h.conv (sl' := _) (L' := [_, _]) rfl rfl
    refine St.get h rfl rfl rfl (G.assign rfl rfl) fun a h => ?_
    refine wpl_nil ?_
    refine X.thenN ?_
    refine C.ret ?_
    replace h := h.sel [0] rfl
    replace h := h.conv (sl' := _) (L' := [_]) rfl rfl
    exact h.ret1 Try.results79 rfl (Ent.refl _) (⟨A1, c1, rfl, rfl⟩)
theorem Values_nil : Meets Try.prog 14 #[.pointer none] [] (Det (rlv none 0 0) []) := by
  refine Meets.of_code Try.func14 rfl Try.ntmps14 rfl fun w0 S R a h => ?_
  refine C.seq ?_
  refine C.region ?_
  refine St.get h rfl rfl rfl (G.assign rfl rfl) fun a h => ?_
  refine wpl_nil ?_
  refine X.thenN ?_
  refine C.seq ?_
  refine C.seq ?_
  refine C.region ?_
  refine St.get h rfl rfl rfl (G.move rfl rfl) fun a h => ?_
  refine St.get h rfl rfl rfl (G.bin rfl rfl rfl (B.peql Try.underlying29 _)) fun a h => ?_
  refine wpl_nil ?_
  refine X.thenN ?_
  refine St.condT h rfl ?_
  refine C.seq ?_
  refine C.region ?_
  refine St.get h rfl rfl rfl (G.assign rfl rfl) fun a h => ?_
  refine wpl_nil ?_
  refine X.thenN ?_
  refine C.ret ?_
  refine X.thenR ?_
  exact h.ret1 Try.results14 rfl (Ent.refl _) (⟨rfl, rfl⟩)
theorem Values_spec (b o : Nat) (q : QM) (hq : q.items.length < 1000000000) : Meets Try.prog 14 #[.pointer (some ⟨b, o, none⟩)] [QAt b o q]
    (fun v L => ∃ A' c', v = rlv A' q.items.length c' ∧ L = [QAt b o q, ownl encU64 22 A' c' (q.items.map QI.val)]) := by
  refine Meets.of_code Try.func14 rfl Try.ntmps14 rfl fun w0 S R a h => ?_
  obtain ⟨gi, ci, gw, cw, ws, hw, h⟩ := h.openQ 0 rfl
  replace h := h.conv (sl' := _) (L' := [cells _ _ [_, _, _], _, _, _]) rfl rfl
  refine C.seq ?_
  refine C.region ?_
  refine St.get h rfl rfl rfl (G.assign rfl rfl) fun a h => ?_
  refine wpl_nil ?_
  refine X.thenN ?_
  refine C.seq ?_
  refine C.seq ?_
  refine C.region ?_
  refine St.get h rfl rfl rfl (G.move rfl rfl) fun a h => ?_
  refine St.get h rfl rfl rfl (G.bin rfl rfl rfl (B.peql Try.underlying29 _)) fun a h => ?_
  refine wpl_nil ?_
  refine X.thenN ?_
  refine St.condF h rfl ?_
  refine C.skip ?_
  refine X.thenN ?_
  refine C.seq ?_
  refine C.region ?_
  refine St.get h rfl rfl rfl (G.assign rfl rfl) fun a h => ?_
  refine wpl_nil ?_
  refine X.thenN ?_
  refine C.seq ?_
  refine C.seq ?_
  refine C.region ?_
  refine St.get h rfl rfl rfl (G.move rfl rfl) fun a h => ?_
  refine St.get h rfl rfl rfl (G.nilc rfl rfl) fun a h => ?_
  refine St.get h rfl rfl rfl (G.fadr 0 rfl rfl Try.underlying33 rfl rfl Try.sizeOf30) fun a h => ?_
  refine St.get h rfl rfl rfl (G.ld 0 0 rfl rfl rfl rfl rfl Try.isAgg30) fun a h => ?_
  refine St.get h rfl rfl rfl (G.lens rfl rfl Try.underlying30) fun a h => ?_
  refine St.get h rfl rfl rfl (G.move rfl rfl) fun a h => ?_
  refine wpl_nil ?_
  refine X.thenN ?_
  refine C.block ?_
  replace h := h.nil encU64 22
  refine C.loop (fun m a w => ∃ (i : Nat) (gv : Option Addr) (cv : Nat), i + m = q.items.length ∧ St w0 S R 24 [(3, rlv gv i cv), (11, rlv gi q.items.length ci), (12, .int .i64 q.items.length), (13, .int .i64 i)]
    [ownl encU64 22 gv cv ((q.items.take i).map QI.val), cells b o [rlv gi q.items.length ci, rlv gw ws.length cw, .int .i64 q.given], ownl encQI 91 gi ci q.items, ownl encPtr 92 gw cw (ws.map Prod.fst), many (WAt 80) ws] a w) q.items.length ⟨0, none, 0, by omega, h.sub ⟨rfl, rfl, rfl, rfl, trivial⟩⟩ ?_
  rintro m a w ⟨i, gv, cv, hi, h⟩
  by_cases hlt : i < q.items.length
  · obtain ⟨x, hx⟩ : ∃ x, q.items[i]? = some x := ⟨_, List.getElem?_eq_getElem hlt⟩
    have hx1 : q.items[(i : Int).toNat]? = some x := by simp [hx]
    have htk : (q.items.take (i + 1)).map QI.val = (q.items.take i).map QI.val ++ [x.val] := by rw [List.take_add_one, hx]; simp
    have hl : ((q.items.take i).map QI.val).length = i := by simp; omega
    refine C.seq ?_
    refine C.region ?_
    refine St.get h rfl rfl rfl (G.bin rfl rfl rfl (B.lssT (by omega))) fun a h => ?_
    refine wpl_nil ?_
    refine X.thenN ?_
    refine C.seq ?_
    refine St.condT h rfl ?_
    refine C.skip ?_
    refine X.thenN ?_
    refine C.seq ?_
    refine C.block ?_
    refine C.seq ?_
    refine C.region ?_
    refine St.get h rfl rfl rfl (G.idxo _ 2 rfl rfl rfl rfl (by omega) (by omega) (by omega) Try.underlying30 Try.sizeOf91) fun a h => ?_
    refine St.get h rfl rfl rfl (G.ldoa _ 2 rfl (by assumption) rfl rfl rfl rfl Try.isAgg91 Try.sizeOf91) fun a h => ?_
    replace h := h.conv (sl' := (_, .agg #[_, _, _]) :: _) (L' := _) rfl rfl
    refine St.alloc h Try.zeroValue91 rfl rfl rfl rfl fun b1 a w h => ?_
    replace h := h.conv (sl' := _) (L' := [cells _ _ [_, _, _], _, cells _ _ [_, _, _], _, _, _]) rfl rfl
    refine St.put h rfl rfl (U.sta 0 0 rfl rfl rfl rfl rfl rfl (by simp [Value.oneCell']) Try.sizeOf91 rfl) fun a w h => ?_
    replace h := h.conv (sl' := _) (L' := [cells _ _ [_, _, _], _, cells _ _ [_, _, _], _, _, _]) rfl rfl
    refine wpl_nil ?_
    refine X.thenN ?_
    refine C.region ?_
    refine St.get h rfl rfl rfl (G.move rfl rfl) fun a h => ?_
    refine St.get h rfl rfl rfl (G.fadr 1 rfl rfl Try.underlying91 rfl rfl Try.sizeOf22) fun a h => ?_
    refine St.get h rfl rfl rfl (G.ld 0 1 rfl rfl rfl rfl rfl Try.isAgg22) fun a h => ?_
    refine St.bslice h (encU64) ([x.val]) rfl rfl Try.underlying24 Try.sizeOf22 Try.zeroValue22 rfl rfl ⟨rfl, rfl, trivial⟩ rfl rfl rfl fun b2 a w h => ?_
    skip
    refine St.append h _ 2 rfl (Ro.cons 0 rfl (ownl_ro _ _ _ _ _) (Ro.nil _)) rfl rfl rfl (by first | rfl | omega | simp) (by first | rfl | omega | simp) Try.underlying24 Try.typeInfo22 rfl rfl rfl 8 rfl (by (try simp only [List.length_append, List.length_cons, List.length_nil, List.length_map, List.length_take]); omega) (by (try simp only [List.length_append, List.length_cons, List.length_nil, List.length_map, List.length_take]); omega) rfl rfl rfl fun A1 c1 a w hnil h => ?_
    replace h := h.conv (sl' := _) (L' := [_, _, cells _ _ [_, _, _], cells _ _ [_, _, _], _, _, _]) rfl rfl
    refine St.get h rfl rfl rfl (G.assign rfl rfl) fun a h => ?_
    refine wpl_nil ?_
    refine X.blkN ?_
    refine X.thenN ?_
    refine C.region ?_
    refine St.get h rfl rfl rfl (G.bin rfl rfl rfl (B.addi (by omega) (by omega))) fun a h => ?_
    refine St.get h rfl rfl rfl (G.move rfl rfl) fun a h => ?_
    refine wpl_nil ?_
    refine X.thenN ?_
    replace h := h.sel [0, 3, 4, 5, 6] rfl
    replace h := h.conv (sl' := _) (L' := [_, cells _ _ [_, _, _], _, _, _]) rfl rfl
    have hle : ((q.items.take i).map QI.val ++ [x.val]).length = i + 1 := by simp; omega
    exact ⟨m - 1, by omega, i + 1, A1, c1, by omega, (h.conv rfl (L' := [ownl encU64 22 A1 c1 ((q.items.take (i + 1)).map QI.val), _, _, _, _]) (by rw [htk])).sub ⟨by rw [hle]; rfl, rfl, rfl, rfl, trivial⟩⟩
  · rw [List.take_of_length_le (by omega)] at h
    have hi' : i = q.items.length := by omega
    subst hi'
    refine C.seq ?_
    refine C.region ?_
    refine St.get h rfl rfl rfl (G.bin rfl rfl rfl (B.lssF (by omega))) fun a h => ?_
    refine wpl_nil ?_
    refine X.thenN ?_
    refine C.seq ?_
    refine St.condF h rfl ?_
    refine C.exit ?_
    refine X.thenE ?_
    refine X.thenE ?_
    refine X.blkE ?_
    refine X.thenN ?_
    refine C.seq ?_
    refine C.region ?_
    refine St.get h rfl rfl rfl (G.move rfl rfl) fun a h => ?_
    refine St.get h rfl rfl rfl (G.assign rfl rfl) fun a h => ?_
    refine wpl_nil ?_
    refine X.thenN ?_
    refine C.ret ?_
    replace h := h.fold [1, 2, 3, 4] rfl ((QAt_mk gi ci gw cw ws hw))
    replace h := h.conv (sl' := _) (L' := [_, _]) rfl rfl
    exact h.ret1 Try.results14 rfl (Ent.refl _) (⟨gv, cv, rfl, rfl⟩)
theorem Prepare_nil (n : Int) : Meets Try.prog 41 #[.pointer none, .int .i64 n] [] (Det (.tuple #[rlv none 0 0, .int .i64 6]) []) := by
  refine Meets.of_code Try.func41 rfl Try.ntmps41 rfl fun w0 S R a h => ?_
  refine C.seq ?_
  refine C.region ?_
  refine St.get h rfl rfl rfl (G.assign rfl rfl) fun a h => ?_
  refine St.get h rfl rfl rfl (G.assign rfl rfl) fun a h => ?_
  refine wpl_nil ?_
  refine X.thenN ?_
  refine C.seq ?_
  refine C.seq ?_
  refine C.region ?_
  refine St.get h rfl rfl rfl (G.move rfl rfl) fun a h => ?_
  refine St.get h rfl rfl rfl (G.move rfl rfl) fun a h => ?_
  refine St.callD h [] rfl (Ro.nil _) ((fit_nil n)) rfl rfl rfl Try.call71 rfl rfl fun a w h => ?_
  replace h := h.conv (sl' := _) (L' := []) rfl rfl
  refine St.get h rfl rfl rfl (G.assign rfl rfl) fun a h => ?_
  refine wpl_nil ?_
  refine X.thenN ?_
  refine C.seq ?_
  refine C.region ?_
  refine St.get h rfl rfl rfl (G.move rfl rfl) fun a h => ?_
  refine St.get h rfl rfl rfl (G.bin rfl rfl rfl (B.neqT (by omega))) fun a h => ?_
  refine wpl_nil ?_
  refine X.thenN ?_
  refine St.condT h rfl ?_
  refine C.seq ?_
  refine C.region ?_
  refine St.get h rfl rfl rfl (G.move rfl rfl) fun a h => ?_
  refine St.get h rfl rfl rfl (G.assign rfl rfl) fun a h => ?_
  refine St.get h rfl rfl rfl (G.assign rfl rfl) fun a h => ?_
  refine wpl_nil ?_
  refine X.thenN ?_
  refine C.ret ?_
  refine X.thenR ?_
  exact h.ret2 Try.results41 rfl rfl (Ent.refl _) (⟨rfl, rfl⟩)
theorem Prepare_spec (b o : Nat) (q : QM) (n : Int) (hq : q.Good) : Meets Try.prog 41 #[.pointer (some ⟨b, o, none⟩), .int .i64 n] [QAt b o q]
    (fun v L => ∃ A' c', v = .tuple #[rlv A' (prepQ q n).2.1.length c', .int .i64 (prepQ q n).1] ∧ L = [QAt b o (prepQ q n).2.2, ownl encCh 80 A' c' (prepQ q n).2.1]) := by
  refine Meets.of_code Try.func41 rfl Try.ntmps41 rfl fun w0 S R a h => ?_
  refine C.seq ?_
  refine C.region ?_
  refine St.get h rfl rfl rfl (G.assign rfl rfl) fun a h => ?_
  refine St.get h rfl rfl rfl (G.assign rfl rfl) fun a h => ?_
  refine wpl_nil ?_
  refine X.thenN ?_
  refine C.seq ?_
  refine C.seq ?_
  refine C.region ?_
  refine St.get h rfl rfl rfl (G.move rfl rfl) fun a h => ?_
  refine St.get h rfl rfl rfl (G.move rfl rfl) fun a h => ?_
  refine St.callD h [0] rfl (Ro.nil _) ((fit_spec b o q n)) rfl rfl rfl Try.call71 rfl rfl fun a w h => ?_
  replace h := h.conv (sl' := _) (L' := [_]) rfl rfl
  refine St.get h rfl rfl rfl (G.assign rfl rfl) fun a h => ?_
  refine wpl_nil ?_
  refine X.thenN ?_
  refine C.seq ?_
  refine C.region ?_
  refine St.get h rfl rfl rfl (G.move rfl rfl) fun a h => ?_
  refine St.getP h rfl rfl rfl (G.bin rfl rfl rfl B.neq) (fun hc a h => ?_) (fun hc a h => ?_)
  refine wpl_nil ?_
  refine X.thenN ?_
  refine St.condT h rfl ?_
  refine C.seq ?_
  refine C.region ?_
  refine St.get h rfl rfl rfl (G.move rfl rfl) fun a h => ?_
  refine St.get h rfl rfl rfl (G.assign rfl rfl) fun a h => ?_
  refine St.get h rfl rfl rfl (G.assign rfl rfl) fun a h => ?_
  refine wpl_nil ?_
  refine X.thenN ?_
  refine C.ret ?_
  refine X.thenR ?_
  rotate_left
  refine wpl_nil ?_
  refine X.thenN ?_
  refine St.condF h rfl ?_
  refine C.skip ?_
  refine X.thenN ?_
  refine C.seq ?_
  refine C.region ?_
  refine St.get h rfl rfl rfl (G.move rfl rfl) fun a h => ?_
  refine St.get h rfl rfl rfl (G.move rfl rfl) fun a h => ?_
  rotate_left
  · have e : prepQ q n = (fitQ q n, [], q) := by simp [prepQ, hc]
    rw [e]
    replace h := (h.nil encCh 80).sel [1, 0] rfl
    replace h := h.conv (sl' := _) (L' := [_, _]) rfl rfl
    exact h.ret2 Try.results41 rfl rfl (Ent.refl _) (⟨none, 0, rfl, rfl⟩)
  · obtain ⟨gi, ci, gw, cw, ws, hw, h⟩ := h.openQ 0 rfl
    have hfs := find_spec b o n (rlv gi q.items.length ci) (.int .i64 q.given) gw cw ws
    rcases hq' : findW n ws with _ | pq
    · rw [hq'] at hfs
      have hn := findW_none' hq'
      rw [hw] at hn
      have e : prepQ q n = (0, [], q) := by simp [prepQ, hc, hn]
      rw [e]
      refine St.callD h [0, 1, 1] rfl (Ro.nil _) (hfs) rfl rfl rfl Try.call51 rfl rfl fun a w h => ?_
      replace h := h.conv (sl' := _) (L' := [cells _ _ [_, _, _], _, _, _]) rfl rfl
      refine St.get h rfl rfl rfl (G.assign rfl rfl) fun a h => ?_
      refine wpl_nil ?_
      refine X.thenN ?_
      refine C.seq ?_
      refine C.seq ?_
      refine C.region ?_
      refine St.get h rfl rfl rfl (G.move rfl rfl) fun a h => ?_
      refine St.get h rfl rfl rfl (G.bin rfl rfl rfl (B.peql Try.underlying92 _)) fun a h => ?_
      refine wpl_nil ?_
      refine X.thenN ?_
      refine St.condT h rfl ?_
      refine C.seq ?_
      refine C.region ?_
      refine St.get h rfl rfl rfl (G.assign rfl rfl) fun a h => ?_
      refine St.get h rfl rfl rfl (G.assign rfl rfl) fun a h => ?_
      refine wpl_nil ?_
      refine X.thenN ?_
      refine C.ret ?_
      refine X.thenR ?_
      replace h := h.fold [0, 3, 1, 2] rfl ((QAt_mk gi ci gw cw ws hw))
      replace h := h.conv (sl' := _) (L' := [_]) rfl rfl
      replace h := (h.nil encCh 80).sel [1, 0] rfl
      replace h := h.conv (sl' := _) (L' := [_, _]) rfl rfl
      exact h.ret2 Try.results41 rfl rfl (Ent.refl _) (⟨none, 0, rfl, rfl⟩)
    · rw [hq'] at hfs
      obtain ⟨i, p, hi, rfl, hpn, hn, hup⟩ := findW_upd hq'
      rw [hw] at hn hup
      have e : prepQ q n = (0, p.2.list, { q with works := updW n prepW q.works }) := by simp [prepQ, hc, hn]
      rw [e]
      have hpl := (hq.lens hw).2 p (List.mem_of_getElem? hi)
      refine St.callD h [0, 1, 1] rfl (Ro.nil _) (hfs) rfl rfl rfl Try.call51 rfl rfl fun a w h => ?_
      replace h := h.conv (sl' := _) (L' := [cells _ _ [_, _, _], _, _, _]) rfl rfl
      replace h := h.turn 2 rfl ((many_takeL (WAt _) hi))
      replace h := h.conv (sl' := _) (L' := [_, _, cells _ _ [_, _, _], _, _]) rfl rfl
      obtain ⟨g1, c1, h⟩ := h.openW 0 rfl
      replace h := h.conv (sl' := _) (L' := [cells _ _ [_, _, _], _, _, cells _ _ [_, _, _], _, _]) rfl rfl
      refine St.get h rfl rfl rfl (G.assign rfl rfl) fun a h => ?_
      refine wpl_nil ?_
      refine X.thenN ?_
      refine C.seq ?_
      refine C.seq ?_
      refine C.region ?_
      refine St.get h rfl rfl rfl (G.move rfl rfl) fun a h => ?_
      refine St.get h rfl rfl rfl (G.bin rfl rfl rfl (B.peql Try.underlying92 _)) fun a h => ?_
      refine wpl_nil ?_
      refine X.thenN ?_
      refine St.condF h rfl ?_
      refine C.skip ?_
      refine X.thenN ?_
      refine C.seq ?_
      refine C.region ?_
      refine St.get h rfl rfl rfl (G.move rfl rfl) fun a h => ?_
      refine St.get h rfl rfl rfl (G.nilc rfl rfl) fun a h => ?_
      refine St.get h rfl rfl rfl (G.fadr 2 rfl rfl Try.underlying122 rfl rfl Try.sizeOf4) fun a h => ?_
      refine St.put h rfl rfl (U.st 0 2 rfl rfl rfl rfl rfl rfl rfl Try.sizeOf4) fun a w h => ?_
      replace h := h.conv (sl' := _) (L' := [cells _ _ [_, _, _], _, _, cells _ _ [_, _, _], _, _]) rfl rfl
      refine wpl_nil ?_
      refine X.thenN ?_
      refine C.seq ?_
      refine C.region ?_
      refine St.get h rfl rfl rfl (G.move rfl rfl) fun a h => ?_
      refine St.get h rfl rfl rfl (G.nilc rfl rfl) fun a h => ?_
      refine St.get h rfl rfl rfl (G.fadr 1 rfl rfl Try.underlying122 rfl rfl Try.sizeOf23) fun a h => ?_
      refine St.get h rfl rfl rfl (G.ld 0 1 rfl rfl rfl rfl rfl Try.isAgg23) fun a h => ?_
      refine St.call h [] rfl (Ro.cons 1 rfl (ownl_ro _ _ _ _ _) (Ro.nil _)) ((Clone_spec g1 c1 p.2.list hpl)) rfl rfl rfl Try.call79 rfl rfl fun v L a w hp h => ?_
      obtain ⟨A', c', rfl, rfl⟩ := hp
      replace h := h.conv (sl' := _) (L' := [_, cells _ _ [_, _, _], _, _, cells _ _ [_, _, _], _, _]) rfl rfl
      refine St.get h rfl rfl rfl (G.assign rfl rfl) fun a h => ?_
      refine St.get h rfl rfl rfl (G.assign rfl rfl) fun a h => ?_
      refine wpl_nil ?_
      refine X.thenN ?_
      refine C.ret ?_
      replace h := h.fold [1, 2] rfl ((WAt_mk 80 p.1 p.2.n p.2.list true g1 c1))
      replace h := h.conv (sl' := _) (L' := [_, _, _, cells _ _ [_, _, _], _, _]) rfl rfl
      replace h := h.fold [0, 2] rfl ((many_putL (WAt 80) (p.1, prepW p.2) hi))
      replace h := h.conv (sl' := _) (L' := [_, _, cells _ _ [_, _, _], _, _]) rfl rfl
      have hwl : (ws.set i (p.1, prepW p.2)).map Prod.snd = updW n prepW q.works := by rw [List.map_set, hw, hup]
      have he := map_set_same Prod.fst (p.1, prepW p.2) hi rfl
      have h := h.conv rfl (L' := [_, _, cells b o [_, rlv gw (ws.set i (p.1, prepW p.2)).length cw, _], ownl encPtr 92 gw cw ((ws.set i (p.1, prepW p.2)).map Prod.fst), _]) (by rw [he, List.length_set])
      replace h := h.fold [2, 4, 3, 0] rfl ((QAt_mk (q := { q with works := updW n prepW q.works }) gi ci gw cw (ws.set i (p.1, prepW p.2)) hwl))
      replace h := h.conv (sl' := _) (L' := [_, _]) rfl rfl
      replace h := h.sel [0, 1] rfl
      replace h := h.conv (sl' := _) (L' := [_, _]) rfl rfl
      exact h.ret2 Try.results41 rfl rfl (Ent.refl _) (⟨A', c', rfl, rfl⟩)
end Go.Proofs.Ytllhegccpknncaa
