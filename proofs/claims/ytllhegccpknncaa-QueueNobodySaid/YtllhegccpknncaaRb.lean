/-
  The document's queue: Taker, drop, Backout, Prepare, Take.
-/
import Derived.Test.YtllhegccpknncaaRa
import Derived.Test.YtllhegccpknncaaSeat
set_option linter.unusedVariables false
set_option linter.unusedSimpArgs false
set_option linter.unusedSectionVars false
set_option maxRecDepth 8000
namespace Go.Proofs.Ytllhegccpknncaa
open Go.Tr

theorem drop_cons {α : Type} {l : List α} {i : Nat} {x : α} (h : l[i]? = some x) : l.drop i = x :: l.drop (i + 1) := by
  obtain ⟨h1, rfl⟩ := List.getElem?_eq_some_iff.1 h
  exact List.drop_eq_getElem_cons h1
theorem Taker_spec (b o : Nat) (x : Int) (v0 v2 : Value) (g : Option Addr) (c : Nat) (ws : List (Nat × QW)) :
    Meets Try.prog 84 #[.pointer (some ⟨b, o, none⟩), .int .i64 x] [cells b o [v0, rlv g ws.length c, v2], ownl encPtr 133 g c (ws.map Prod.fst), many (WAt 80) ws]
      (Det (.int .i64 (takerR x (ws.map Prod.snd))) [cells b o [v0, rlv g ws.length c, v2], ownl encPtr 133 g c (ws.map Prod.fst), many (WAt 80) ws]) := by
  refine Meets.of_code Try.func84 rfl Try.ntmps84 rfl fun w0 S R a h => ?_
  have hlen : ws.length ≤ 9223372036854775807 := by have := h.tell1 1 rfl fun _ _ _ => ownl_len; simpa using this
  refine C.seq ?_
  refine C.region ?_
  refine St.get h rfl rfl rfl (G.assign rfl rfl) fun a h => ?_
  refine wpl_nil ?_
  refine X.thenN ?_
  refine C.seq ?_
  refine C.seq ?_
  refine C.region ?_
  refine St.get h rfl rfl rfl (G.assign rfl rfl) fun a h => ?_
  refine wpl_nil ?_
  refine X.thenN ?_
  refine C.block ?_
  refine C.loop (fun m a w => ∃ i : Nat, i + m = ws.length ∧ takerR x (ws.map Prod.snd) = takerR x ((ws.drop i).map Prod.snd) ∧ St w0 S R 64 [(0, .pointer (some ⟨b, o, none⟩)), (1, .int .i64 x), (5, .int .i64 i)]
    [cells b o [v0, rlv g ws.length c, v2], ownl encPtr 133 g c (ws.map Prod.fst), many (WAt 80) ws] a w) ws.length ⟨0, by omega, rfl, h.sub ⟨rfl, rfl, rfl, trivial⟩⟩ ?_
  rintro m a w ⟨i, hi, hf, h⟩
  by_cases hlt : i < ws.length
  · obtain ⟨p, hp⟩ : ∃ p, ws[i]? = some p := ⟨_, List.getElem?_eq_getElem hlt⟩
    have hp1 : (ws.map Prod.fst)[(i : Int).toNat]? = some p.1 := by simp [hp]
    have hll : ws.length ≤ (ws.map Prod.fst).length := by simp
    rw [drop_cons hp, List.map_cons, takerR] at hf
    refine C.seq ?_
    refine C.seq ?_
    refine C.region ?_
    refine St.get h rfl rfl rfl (G.move rfl rfl) fun a h => ?_
    refine St.get h rfl rfl rfl (G.move rfl rfl) fun a h => ?_
    refine St.get h rfl rfl rfl (G.nilc rfl rfl) fun a h => ?_
    refine St.get h rfl rfl rfl (G.fadr 1 rfl rfl Try.underlying42 rfl rfl Try.sizeOf40) fun a h => ?_
    refine St.get h rfl rfl rfl (G.ld 0 1 rfl rfl rfl rfl rfl Try.isAgg40) fun a h => ?_
    refine St.get h rfl rfl rfl (G.lens rfl rfl Try.underlying40) fun a h => ?_
    refine St.get h rfl rfl rfl (G.bin rfl rfl rfl (B.lssT (by omega))) fun a h => ?_
    refine wpl_nil ?_
    refine X.thenN ?_
    refine St.condT h rfl ?_
    refine C.skip ?_
    refine X.thenN ?_
    refine C.seq ?_
    refine C.block ?_
    refine C.seq ?_
    refine C.region ?_
    refine St.get h rfl rfl rfl (G.assign rfl rfl) fun a h => ?_
    refine wpl_nil ?_
    refine X.thenN ?_
    refine C.block ?_
    replace h := h.turn 2 rfl ((many_takeL (WAt _) hp))
    replace h := h.conv (sl' := _) (L' := [_, _, cells _ _ [_, _, _], _]) rfl rfl
    obtain ⟨g1, c1, h⟩ := h.openW 0 rfl
    have hl1 := h.tell1 1 rfl fun _ _ _ => ownl_len
    refine C.loop (fun m' a w => ∃ k : Nat, k + m' = p.2.list.length ∧ hasTake x p.2.list = hasTake x (p.2.list.drop k) ∧ St w0 S R 64 [(0, .pointer (some ⟨b, o, none⟩)), (1, .int .i64 x), (5, .int .i64 i), (6, .int .i64 k)]
      [cells p.1 0 [.int .i64 p.2.n, rlv g1 p.2.list.length c1, .bool p.2.prep], ownl encCh 80 g1 c1 p.2.list, many (WAt 80) (ws.eraseIdx i), cells b o [v0, rlv g ws.length c, v2], ownl encPtr 133 g c (ws.map Prod.fst)] a w) p.2.list.length ⟨0, by omega, rfl, h.sub ⟨rfl, rfl, rfl, rfl, trivial⟩⟩ ?_
    rintro m' a w ⟨k, hk, hf2, h⟩
    by_cases hlt2 : k < p.2.list.length
    · obtain ⟨y, hy⟩ : ∃ y, p.2.list[k]? = some y := ⟨_, List.getElem?_eq_getElem hlt2⟩
      have hy1 : p.2.list[(k : Int).toNat]? = some y := by simp [hy]
      rw [drop_cons hy, hasTake] at hf2
      refine C.seq ?_
      refine C.seq ?_
      refine C.region ?_
      refine St.get h rfl rfl rfl (G.move rfl rfl) fun a h => ?_
      refine St.get h rfl rfl rfl (G.move rfl rfl) fun a h => ?_
      refine St.get h rfl rfl rfl (G.nilc rfl rfl) fun a h => ?_
      refine St.get h rfl rfl rfl (G.fadr 1 rfl rfl Try.underlying42 rfl rfl Try.sizeOf40) fun a h => ?_
      refine St.get h rfl rfl rfl (G.ld 3 1 rfl rfl rfl rfl rfl Try.isAgg40) fun a h => ?_
      refine St.get h rfl rfl rfl (G.move rfl rfl) fun a h => ?_
      refine St.get h rfl rfl rfl (G.idxo _ 4 rfl rfl rfl rfl (by omega) (by omega) (by omega) Try.underlying40 Try.sizeOf133) fun a h => ?_
      refine St.get h rfl rfl rfl (G.ldo _ 4 0 rfl (by assumption) rfl rfl rfl rfl rfl Try.isAgg133) fun a h => ?_
      refine St.get h rfl rfl rfl (G.nilc rfl rfl) fun a h => ?_
      refine St.get h rfl rfl rfl (G.fadr 1 rfl rfl Try.underlying136 rfl rfl Try.sizeOf23) fun a h => ?_
      refine St.get h rfl rfl rfl (G.ld 0 1 rfl rfl rfl rfl rfl Try.isAgg23) fun a h => ?_
      refine St.get h rfl rfl rfl (G.lens rfl rfl Try.underlying23) fun a h => ?_
      refine St.get h rfl rfl rfl (G.bin rfl rfl rfl (B.lssT (by omega))) fun a h => ?_
      refine wpl_nil ?_
      refine X.thenN ?_
      refine St.condT h rfl ?_
      refine C.skip ?_
      refine X.thenN ?_
      refine C.seq ?_
      refine C.block ?_
      refine C.seq ?_
      refine C.region ?_
      refine St.get h rfl rfl rfl (G.move rfl rfl) fun a h => ?_
      refine St.get h rfl rfl rfl (G.nilc rfl rfl) fun a h => ?_
      refine St.get h rfl rfl rfl (G.fadr 1 rfl rfl Try.underlying42 rfl rfl Try.sizeOf40) fun a h => ?_
      refine St.get h rfl rfl rfl (G.ld 3 1 rfl rfl rfl rfl rfl Try.isAgg40) fun a h => ?_
      refine St.get h rfl rfl rfl (G.move rfl rfl) fun a h => ?_
      refine St.get h rfl rfl rfl (G.idxo _ 4 rfl rfl rfl rfl (by omega) (by omega) (by omega) Try.underlying40 Try.sizeOf133) fun a h => ?_
      refine St.get h rfl rfl rfl (G.ldo _ 4 0 rfl (by assumption) rfl rfl rfl rfl rfl Try.isAgg133) fun a h => ?_
      refine St.get h rfl rfl rfl (G.nilc rfl rfl) fun a h => ?_
      refine St.get h rfl rfl rfl (G.fadr 1 rfl rfl Try.underlying136 rfl rfl Try.sizeOf23) fun a h => ?_
      refine St.get h rfl rfl rfl (G.ld 0 1 rfl rfl rfl rfl rfl Try.isAgg23) fun a h => ?_
      refine St.get h rfl rfl rfl (G.move rfl rfl) fun a h => ?_
      refine St.get h rfl rfl rfl (G.idxo _ 1 rfl rfl rfl rfl (by omega) (by omega) (by omega) Try.underlying23 Try.sizeOf80) fun a h => ?_
      refine St.get h rfl rfl rfl (G.ldoa _ 1 rfl (by assumption) rfl rfl rfl rfl Try.isAgg80 Try.sizeOf80) fun a h => ?_
      replace h := h.conv (sl' := (_, .agg #[_, _, _]) :: _) (L' := _) rfl rfl
      refine St.alloc h Try.zeroValue80 rfl rfl rfl rfl fun b1 a w h => ?_
      replace h := h.conv (sl' := _) (L' := [cells _ _ [_, _, _], cells _ _ [_, _, _], _, _, cells _ _ [_, _, _], _]) rfl rfl
      refine St.put h rfl rfl (U.sta 0 0 rfl rfl rfl rfl rfl rfl (by simp [Value.oneCell']) Try.sizeOf80 rfl) fun a w h => ?_
      replace h := h.conv (sl' := _) (L' := [cells _ _ [_, _, _], cells _ _ [_, _, _], _, _, cells _ _ [_, _, _], _]) rfl rfl
      refine wpl_nil ?_
      refine X.thenN ?_
      refine C.seq ?_
      refine C.region ?_
      refine St.get h rfl rfl rfl (G.fadr 0 rfl rfl Try.underlying80 rfl rfl Try.sizeOf3) fun a h => ?_
      refine St.get h rfl rfl rfl (G.ld 0 0 rfl rfl rfl rfl rfl Try.isAgg3) fun a h => ?_
      refine St.getP h rfl rfl rfl (G.bin rfl rfl rfl B.eql) (fun hc a h => ?_) (fun hc a h => ?_)
      refine St.get h rfl rfl rfl (G.move rfl rfl) fun a h => ?_
      refine St.guard_yes h rfl rfl rfl rfl rfl ?_
      refine St.get h rfl rfl rfl (G.fadr 1 rfl rfl Try.underlying80 rfl rfl Try.sizeOf3) fun a h => ?_
      refine St.guard_yes h rfl rfl rfl rfl rfl ?_
      refine St.get h rfl rfl rfl (G.ld 0 1 rfl rfl rfl rfl rfl Try.isAgg3) fun a h => ?_
      refine St.guard_yes h rfl rfl rfl rfl rfl ?_
      refine St.get h rfl rfl rfl (G.move rfl rfl) fun a h => ?_
      refine St.guard_yes h rfl rfl rfl rfl rfl ?_
      refine St.getP h rfl rfl rfl (G.bin rfl rfl rfl B.eql) (fun hc1 a h => ?_) (fun hc1 a h => ?_)
      refine St.get h rfl rfl rfl (G.pickT rfl rfl rfl) fun a h => ?_
      refine wpl_nil ?_
      refine X.thenN ?_
      refine St.condT h rfl ?_
      refine C.seq ?_
      refine C.region ?_
      refine St.get h rfl rfl rfl (G.move rfl rfl) fun a h => ?_
      refine St.get h rfl rfl rfl (G.nilc rfl rfl) fun a h => ?_
      refine St.get h rfl rfl rfl (G.fadr 1 rfl rfl Try.underlying42 rfl rfl Try.sizeOf40) fun a h => ?_
      refine St.get h rfl rfl rfl (G.ld 4 1 rfl rfl rfl rfl rfl Try.isAgg40) fun a h => ?_
      refine St.get h rfl rfl rfl (G.move rfl rfl) fun a h => ?_
      refine St.get h rfl rfl rfl (G.idxo _ 5 rfl rfl rfl rfl (by omega) (by omega) (by omega) Try.underlying40 Try.sizeOf133) fun a h => ?_
      refine St.get h rfl rfl rfl (G.ldo _ 5 0 rfl (by assumption) rfl rfl rfl rfl rfl Try.isAgg133) fun a h => ?_
      refine St.get h rfl rfl rfl (G.nilc rfl rfl) fun a h => ?_
      refine St.get h rfl rfl rfl (G.fadr 0 rfl rfl Try.underlying136 rfl rfl Try.sizeOf3) fun a h => ?_
      refine St.get h rfl rfl rfl (G.ld 1 0 rfl rfl rfl rfl rfl Try.isAgg3) fun a h => ?_
      refine St.get h rfl rfl rfl (G.assign rfl rfl) fun a h => ?_
      refine wpl_nil ?_
      refine X.thenN ?_
      refine C.ret ?_
      refine X.blkR ?_
      refine X.thenR ?_
      refine X.thenR ?_
      refine X.blkR ?_
      refine X.blkR ?_
      refine X.thenR ?_
      refine X.thenR ?_
      refine X.blkR ?_
      refine X.thenR ?_
      rotate_left
      refine St.get h rfl rfl rfl (G.pickT rfl rfl rfl) fun a h => ?_
      refine wpl_nil ?_
      refine X.thenN ?_
      refine St.condF h rfl ?_
      refine C.skip ?_
      refine X.blkN ?_
      refine X.thenN ?_
      refine C.region ?_
      refine St.get h rfl rfl rfl (G.move rfl rfl) fun a h => ?_
      refine St.get h rfl rfl rfl (G.bin rfl rfl rfl (B.addi (by omega) (by omega))) fun a h => ?_
      refine St.get h rfl rfl rfl (G.assign rfl rfl) fun a h => ?_
      refine wpl_nil ?_
      refine X.thenN ?_
      rotate_left
      refine St.get h rfl rfl rfl (G.move rfl rfl) fun a h => ?_
      refine St.guard_no h rfl rfl rfl rfl rfl (by decide) rfl rfl fun a h => ?_
      refine St.guard_no h rfl rfl rfl rfl rfl (by decide) rfl rfl fun a h => ?_
      refine St.guard_no h rfl rfl rfl rfl rfl (by decide) rfl rfl fun a h => ?_
      refine St.guard_no h rfl rfl rfl rfl rfl (by decide) rfl rfl fun a h => ?_
      refine St.get h rfl rfl rfl (G.pickF rfl rfl rfl) fun a h => ?_
      refine wpl_nil ?_
      refine X.thenN ?_
      refine St.condF h rfl ?_
      refine C.skip ?_
      refine X.blkN ?_
      refine X.thenN ?_
      refine C.region ?_
      refine St.get h rfl rfl rfl (G.move rfl rfl) fun a h => ?_
      refine St.get h rfl rfl rfl (G.bin rfl rfl rfl (B.addi (by omega) (by omega))) fun a h => ?_
      refine St.get h rfl rfl rfl (G.assign rfl rfl) fun a h => ?_
      refine wpl_nil ?_
      refine X.thenN ?_
      rotate_left
      · rw [if_pos ⟨hc, hc1⟩] at hf2
        rw [if_pos hf2] at hf
        replace h := h.fold [1, 2, 3] rfl ((W_back 80 hp g1 c1))
        replace h := h.conv (sl' := _) (L' := [_, cells _ _ [_, _, _], cells _ _ [_, _, _], _]) rfl rfl
        replace h := h.sel [2, 3, 0] rfl
        replace h := h.conv (sl' := _) (L' := [cells _ _ [_, _, _], _, _]) rfl rfl
        exact h.ret1 Try.results84 rfl (Ent.refl _) (⟨by rw [hf], rfl⟩)
      · rw [if_neg (by omega)] at hf2
        replace h := h.sel [1, 2, 3, 4, 5] rfl
        replace h := h.conv (sl' := _) (L' := [cells _ _ [_, _, _], _, _, cells _ _ [_, _, _], _]) rfl rfl
        exact ⟨m' - 1, by omega, k + 1, by omega, hf2, h.sub ⟨rfl, rfl, rfl, rfl, trivial⟩⟩
      · rw [if_neg (by omega)] at hf2
        replace h := h.sel [1, 2, 3, 4, 5] rfl
        replace h := h.conv (sl' := _) (L' := [cells _ _ [_, _, _], _, _, cells _ _ [_, _, _], _]) rfl rfl
        exact ⟨m' - 1, by omega, k + 1, by omega, hf2, h.sub ⟨rfl, rfl, rfl, rfl, trivial⟩⟩
    · rw [List.drop_eq_nil_of_le (by omega)] at hf2
      rw [hf2, if_neg (by simp [hasTake])] at hf
      refine C.seq ?_
      refine C.seq ?_
      refine C.region ?_
      refine St.get h rfl rfl rfl (G.move rfl rfl) fun a h => ?_
      refine St.get h rfl rfl rfl (G.move rfl rfl) fun a h => ?_
      refine St.get h rfl rfl rfl (G.nilc rfl rfl) fun a h => ?_
      refine St.get h rfl rfl rfl (G.fadr 1 rfl rfl Try.underlying42 rfl rfl Try.sizeOf40) fun a h => ?_
      refine St.get h rfl rfl rfl (G.ld 3 1 rfl rfl rfl rfl rfl Try.isAgg40) fun a h => ?_
      refine St.get h rfl rfl rfl (G.move rfl rfl) fun a h => ?_
      refine St.get h rfl rfl rfl (G.idxo _ 4 rfl rfl rfl rfl (by omega) (by omega) (by omega) Try.underlying40 Try.sizeOf133) fun a h => ?_
      refine St.get h rfl rfl rfl (G.ldo _ 4 0 rfl (by assumption) rfl rfl rfl rfl rfl Try.isAgg133) fun a h => ?_
      refine St.get h rfl rfl rfl (G.nilc rfl rfl) fun a h => ?_
      refine St.get h rfl rfl rfl (G.fadr 1 rfl rfl Try.underlying136 rfl rfl Try.sizeOf23) fun a h => ?_
      refine St.get h rfl rfl rfl (G.ld 0 1 rfl rfl rfl rfl rfl Try.isAgg23) fun a h => ?_
      refine St.get h rfl rfl rfl (G.lens rfl rfl Try.underlying23) fun a h => ?_
      refine St.get h rfl rfl rfl (G.bin rfl rfl rfl (B.lssF (by omega))) fun a h => ?_
      refine wpl_nil ?_
      refine X.thenN ?_
      refine St.condF h rfl ?_
      refine C.exit ?_
      refine X.thenE ?_
      refine X.thenE ?_
      refine X.blkE ?_
      refine X.blkN ?_
      refine X.thenN ?_
      refine C.region ?_
      refine St.get h rfl rfl rfl (G.move rfl rfl) fun a h => ?_
      refine St.get h rfl rfl rfl (G.bin rfl rfl rfl (B.addi (by omega) (by omega))) fun a h => ?_
      refine St.get h rfl rfl rfl (G.assign rfl rfl) fun a h => ?_
      refine wpl_nil ?_
      refine X.thenN ?_
      replace h := h.fold [0, 1, 2] rfl ((W_back 80 hp g1 c1))
      replace h := h.conv (sl' := _) (L' := [_, cells _ _ [_, _, _], _]) rfl rfl
      replace h := h.sel [1, 2, 0] rfl
      replace h := h.conv (sl' := _) (L' := [cells _ _ [_, _, _], _, _]) rfl rfl
      exact ⟨m - 1, by omega, i + 1, by omega, hf, h.sub ⟨rfl, rfl, rfl, trivial⟩⟩
  · refine C.seq ?_
    refine C.seq ?_
    refine C.region ?_
    refine St.get h rfl rfl rfl (G.move rfl rfl) fun a h => ?_
    refine St.get h rfl rfl rfl (G.move rfl rfl) fun a h => ?_
    refine St.get h rfl rfl rfl (G.nilc rfl rfl) fun a h => ?_
    refine St.get h rfl rfl rfl (G.fadr 1 rfl rfl Try.underlying42 rfl rfl Try.sizeOf40) fun a h => ?_
    refine St.get h rfl rfl rfl (G.ld 0 1 rfl rfl rfl rfl rfl Try.isAgg40) fun a h => ?_
    refine St.get h rfl rfl rfl (G.lens rfl rfl Try.underlying40) fun a h => ?_
    refine St.get h rfl rfl rfl (G.bin rfl rfl rfl (B.lssF (by omega))) fun a h => ?_
    refine wpl_nil ?_
    refine X.thenN ?_
    refine St.condF h rfl ?_
    refine C.exit ?_
    refine X.thenE ?_
    refine X.thenE ?_
    refine X.blkE ?_
    refine X.thenN ?_
    refine C.seq ?_
    refine C.region ?_
    refine St.get h rfl rfl rfl (G.assign rfl rfl) fun a h => ?_
    refine wpl_nil ?_
    refine X.thenN ?_
    refine C.ret ?_
    exact h.ret1 Try.results84 rfl (Ent.refl _) (⟨by rw [hf, List.drop_eq_nil_of_le (by omega)]; rfl, rfl⟩)
theorem drop_spec (b o : Nat) (q : RM) (n : Int) (hq : q.works.length < 1000000000) : Meets Try.prog 86 #[.pointer (some ⟨b, o, none⟩), .int .i64 n] [RAt b o q] (Det (.tuple #[]) [RAt b o (dropR q n)]) := by
  refine Meets.of_code Try.func86 rfl Try.ntmps86 rfl fun w0 S R a h => ?_
  obtain ⟨gi, ci, gw, cw, ws, hw, h⟩ := h.openR 0 rfl
  have hwl : ws.length < 1000000000 := by rw [← hw] at hq; simpa using hq
  replace h := h.conv (sl' := _) (L' := [cells _ _ [_, _, _], _, _, _]) rfl rfl
  refine C.seq ?_
  refine C.region ?_
  refine St.get h rfl rfl rfl (G.assign rfl rfl) fun a h => ?_
  refine wpl_nil ?_
  refine X.thenN ?_
  refine C.seq ?_
  refine C.seq ?_
  refine C.region ?_
  refine St.get h rfl rfl rfl (G.assign rfl rfl) fun a h => ?_
  refine wpl_nil ?_
  refine X.thenN ?_
  refine C.block ?_
  replace h := h.nil encPtr 133
  refine C.loop (fun m a w => ∃ (i : Nat) (gv : Option Addr) (cv : Nat), i + m = ws.length ∧ St w0 S R 41 [(0, .pointer (some ⟨b, o, none⟩)), (1, .int .i64 n), (4, rlv gv ((ws.take i).filter fun x => !decide (x.2.n = n)).length cv), (5, .int .i64 i)]
    [ownl encPtr 133 gv cv (((ws.take i).filter fun x => !decide (x.2.n = n)).map Prod.fst), cells b o [rlv gi q.items.length ci, rlv gw ws.length cw, .int .i64 q.given], ownl encRI 131 gi ci q.items, ownl encPtr 133 gw cw (ws.map Prod.fst), many (WAt 80) ws] a w) ws.length ⟨0, none, 0, by omega, h.sub ⟨rfl, rfl, rfl, rfl, trivial⟩⟩ ?_
  rintro m a w ⟨i, gv, cv, hi, h⟩
  by_cases hlt : i < ws.length
  · obtain ⟨p, hp⟩ : ∃ p, ws[i]? = some p := ⟨_, List.getElem?_eq_getElem hlt⟩
    have hp1 : (ws.map Prod.fst)[(i : Int).toNat]? = some p.1 := by simp [hp]
    have hll : ws.length ≤ (ws.map Prod.fst).length := by simp
    have ht : Tell (many (WAt 80) ws) p.1 0 (.int .i64 p.2.n) := Tell.many hp (WAt_tell _ p)
    have htk : (ws.take (i + 1)).filter (fun x => !decide (x.2.n = n)) = (ws.take i).filter (fun x => !decide (x.2.n = n)) ++ if p.2.n = n then [] else [p] := by
      rw [List.take_add_one, hp]; simp only [Option.toList_some, List.filter_append]; congr 1; by_cases e : p.2.n = n <;> simp [e]
    have hfl : ((ws.take i).filter fun x => !decide (x.2.n = n)).length ≤ (ws.take i).length := List.length_filter_le _ _
    have hfl2 : (ws.take i).length ≤ i := by simp; omega
    refine C.seq ?_
    refine C.seq ?_
    refine C.region ?_
    refine St.get h rfl rfl rfl (G.move rfl rfl) fun a h => ?_
    refine St.get h rfl rfl rfl (G.move rfl rfl) fun a h => ?_
    refine St.get h rfl rfl rfl (G.nilc rfl rfl) fun a h => ?_
    refine St.get h rfl rfl rfl (G.fadr 1 rfl rfl Try.underlying42 rfl rfl Try.sizeOf40) fun a h => ?_
    refine St.get h rfl rfl rfl (G.ld 1 1 rfl rfl rfl rfl rfl Try.isAgg40) fun a h => ?_
    refine St.get h rfl rfl rfl (G.lens rfl rfl Try.underlying40) fun a h => ?_
    refine St.get h rfl rfl rfl (G.bin rfl rfl rfl (B.lssT (by omega))) fun a h => ?_
    refine wpl_nil ?_
    refine X.thenN ?_
    refine St.condT h rfl ?_
    refine C.skip ?_
    refine X.thenN ?_
    refine C.seq ?_
    refine C.block ?_
    refine C.seq ?_
    refine C.region ?_
    refine St.get h rfl rfl rfl (G.move rfl rfl) fun a h => ?_
    refine St.get h rfl rfl rfl (G.nilc rfl rfl) fun a h => ?_
    refine St.get h rfl rfl rfl (G.fadr 1 rfl rfl Try.underlying42 rfl rfl Try.sizeOf40) fun a h => ?_
    refine St.get h rfl rfl rfl (G.ld 1 1 rfl rfl rfl rfl rfl Try.isAgg40) fun a h => ?_
    refine St.get h rfl rfl rfl (G.move rfl rfl) fun a h => ?_
    refine St.get h rfl rfl rfl (G.idxo _ 3 rfl rfl rfl rfl (by omega) (by omega) (by omega) Try.underlying40 Try.sizeOf133) fun a h => ?_
    refine St.get h rfl rfl rfl (G.ldo _ 3 0 rfl (by assumption) rfl rfl rfl rfl rfl Try.isAgg133) fun a h => ?_
    refine St.get h rfl rfl rfl (G.nilc rfl rfl) fun a h => ?_
    refine St.get h rfl rfl rfl (G.fadr 0 rfl rfl Try.underlying136 rfl rfl Try.sizeOf3) fun a h => ?_
    refine St.get h rfl rfl rfl (G.ldt (Tells.of 4 rfl ht) rfl rfl Try.isAgg3) fun a h => ?_
    refine St.get h rfl rfl rfl (G.move rfl rfl) fun a h => ?_
    refine St.getP h rfl rfl rfl (G.bin rfl rfl rfl B.neq) (fun hc a h => ?_) (fun hc a h => ?_)
    refine wpl_nil ?_
    refine X.thenN ?_
    refine St.condT h rfl ?_
    refine C.region ?_
    refine St.get h rfl rfl rfl (G.move rfl rfl) fun a h => ?_
    refine St.get h rfl rfl rfl (G.move rfl rfl) fun a h => ?_
    refine St.get h rfl rfl rfl (G.nilc rfl rfl) fun a h => ?_
    refine St.get h rfl rfl rfl (G.fadr 1 rfl rfl Try.underlying42 rfl rfl Try.sizeOf40) fun a h => ?_
    refine St.get h rfl rfl rfl (G.ld 1 1 rfl rfl rfl rfl rfl Try.isAgg40) fun a h => ?_
    refine St.get h rfl rfl rfl (G.move rfl rfl) fun a h => ?_
    refine St.get h rfl rfl rfl (G.idxo _ 3 rfl rfl rfl rfl (by omega) (by omega) (by omega) Try.underlying40 Try.sizeOf133) fun a h => ?_
    refine St.get h rfl rfl rfl (G.ldo _ 3 0 rfl (by assumption) rfl rfl rfl rfl rfl Try.isAgg133) fun a h => ?_
    rotate_left
    refine wpl_nil ?_
    refine X.thenN ?_
    refine St.condF h rfl ?_
    refine C.skip ?_
    refine X.blkN ?_
    refine X.thenN ?_
    refine C.region ?_
    refine St.get h rfl rfl rfl (G.move rfl rfl) fun a h => ?_
    refine St.get h rfl rfl rfl (G.bin rfl rfl rfl (B.addi (by omega) (by omega))) fun a h => ?_
    refine St.get h rfl rfl rfl (G.assign rfl rfl) fun a h => ?_
    refine wpl_nil ?_
    refine X.thenN ?_
    rotate_left
    · rw [if_neg hc] at htk
      refine St.bslice h (encPtr) ([p.1]) rfl rfl Try.underlying40 Try.sizeOf133 Try.zeroValue133 rfl rfl ⟨rfl, rfl, trivial⟩ rfl rfl rfl fun b1 a w h => ?_
      skip
      refine St.append h _ 1 rfl (Ro.cons 0 rfl (ownl_ro _ _ _ _ _) (Ro.nil _)) rfl rfl rfl (by first | rfl | omega | simp) (by first | rfl | omega | simp) Try.underlying40 Try.typeInfo133 rfl rfl rfl 8 rfl (by (try simp only [List.length_append, List.length_cons, List.length_nil, List.length_map, List.length_take]); omega) (by (try simp only [List.length_append, List.length_cons, List.length_nil, List.length_map, List.length_take]); omega) rfl rfl rfl fun A1 c1 a w hnil h => ?_
      replace h := h.conv (sl' := _) (L' := [_, _, cells _ _ [_, _, _], _, _, _]) rfl rfl
      refine St.get h rfl rfl rfl (G.assign rfl rfl) fun a h => ?_
      refine wpl_nil ?_
      refine X.blkN ?_
      refine X.thenN ?_
      refine C.region ?_
      refine St.get h rfl rfl rfl (G.move rfl rfl) fun a h => ?_
      refine St.get h rfl rfl rfl (G.bin rfl rfl rfl (B.addi (by omega) (by omega))) fun a h => ?_
      refine St.get h rfl rfl rfl (G.assign rfl rfl) fun a h => ?_
      refine wpl_nil ?_
      refine X.thenN ?_
      replace h := h.sel [0, 2, 3, 4, 5] rfl
      replace h := h.conv (sl' := _) (L' := [_, cells _ _ [_, _, _], _, _, _]) rfl rfl
      have hle : ((((ws.take i).filter fun x => !decide (x.2.n = n)).map Prod.fst) ++ [p.1]).length = ((ws.take (i + 1)).filter fun x => !decide (x.2.n = n)).length := by rw [htk]; simp
      replace h := h.conv (L' := [ownl encPtr 133 A1 c1 (((ws.take (i + 1)).filter fun x => !decide (x.2.n = n)).map Prod.fst), _, _, _, _]) rfl (by rw [htk, List.map_append]; rfl)
      rw [hle] at h
      exact ⟨m - 1, by omega, i + 1, A1, c1, by omega, h.sub ⟨rfl, rfl, rfl, rfl, trivial⟩⟩
    · rw [if_pos (by omega), List.append_nil] at htk
      rw [← htk] at h
      exact ⟨m - 1, by omega, i + 1, gv, cv, by omega, h.sub ⟨rfl, rfl, rfl, rfl, trivial⟩⟩
  · rw [List.take_of_length_le (by omega)] at h
    refine C.seq ?_
    refine C.seq ?_
    refine C.region ?_
    refine St.get h rfl rfl rfl (G.move rfl rfl) fun a h => ?_
    refine St.get h rfl rfl rfl (G.move rfl rfl) fun a h => ?_
    refine St.get h rfl rfl rfl (G.nilc rfl rfl) fun a h => ?_
    refine St.get h rfl rfl rfl (G.fadr 1 rfl rfl Try.underlying42 rfl rfl Try.sizeOf40) fun a h => ?_
    refine St.get h rfl rfl rfl (G.ld 1 1 rfl rfl rfl rfl rfl Try.isAgg40) fun a h => ?_
    refine St.get h rfl rfl rfl (G.lens rfl rfl Try.underlying40) fun a h => ?_
    refine St.get h rfl rfl rfl (G.bin rfl rfl rfl (B.lssF (by omega))) fun a h => ?_
    refine wpl_nil ?_
    refine X.thenN ?_
    refine St.condF h rfl ?_
    refine C.exit ?_
    refine X.thenE ?_
    refine X.thenE ?_
    refine X.blkE ?_
    refine X.thenN ?_
    refine C.region ?_
    refine St.get h rfl rfl rfl (G.move rfl rfl) fun a h => ?_
    refine St.get h rfl rfl rfl (G.move rfl rfl) fun a h => ?_
    refine St.get h rfl rfl rfl (G.nilc rfl rfl) fun a h => ?_
    refine St.get h rfl rfl rfl (G.fadr 1 rfl rfl Try.underlying42 rfl rfl Try.sizeOf40) fun a h => ?_
    refine St.put h rfl rfl (U.st 1 1 rfl rfl rfl rfl rfl rfl rfl Try.sizeOf40) fun a w h => ?_
    replace h := h.conv (sl' := _) (L' := [_, cells _ _ [_, _, _], _, _, _]) rfl rfl
    refine wpl_nil ?_
    replace h := h.turn 4 rfl ((stars_one (many_filter (WAt 80) (fun x => !decide (x.2.n = n)) ws)))
    replace h := h.conv (sl' := _) (L' := [_, _, cells _ _ [_, _, _], _, _]) rfl rfl
    have hw' : (ws.filter fun x => !decide (x.2.n = n)).map Prod.snd = (dropR q n).works := by rw [filter_snd, hw]; rfl
    replace h := h.fold [2, 3, 1, 0] rfl ((RAt_mk (q := dropR q n) gi ci gv cv (ws.filter fun x => !decide (x.2.n = n)) hw'))
    replace h := h.conv (sl' := _) (L' := [_, _]) rfl rfl
    replace h := h.sel [0] rfl
    replace h := h.conv (sl' := _) (L' := [_]) rfl rfl
    exact h.end0 Try.results86 (Ent.refl _) (⟨rfl, rfl⟩)
theorem BackoutR_spec (b o : Nat) (q : RM) (n : Int) (hq : q.works.length < 1000000000) : Meets Try.prog 48 #[.pointer (some ⟨b, o, none⟩), .int .i64 n] [RAt b o q] (Det (.int .i64 (backR q n).1) [RAt b o (backR q n).2]) := by
  refine Meets.of_code Try.func48 rfl Try.ntmps48 rfl fun w0 S R a h => ?_
  refine C.seq ?_
  refine C.region ?_
  refine St.get h rfl rfl rfl (G.assign rfl rfl) fun a h => ?_
  refine wpl_nil ?_
  refine X.thenN ?_
  refine C.seq ?_
  refine C.seq ?_
  refine C.region ?_
  refine St.get h rfl rfl rfl (G.move rfl rfl) fun a h => ?_
  refine St.getP h rfl rfl rfl (G.bin rfl rfl rfl B.lss) (fun hc a h => ?_) (fun hc a h => ?_)
  refine wpl_nil ?_
  refine X.thenN ?_
  refine St.condT h rfl ?_
  refine C.seq ?_
  refine C.region ?_
  refine St.get h rfl rfl rfl (G.assign rfl rfl) fun a h => ?_
  refine wpl_nil ?_
  refine X.thenN ?_
  refine C.ret ?_
  refine X.thenR ?_
  rotate_left
  refine wpl_nil ?_
  refine X.thenN ?_
  refine St.condF h rfl ?_
  refine C.skip ?_
  refine X.thenN ?_
  refine C.seq ?_
  refine C.region ?_
  refine St.get h rfl rfl rfl (G.move rfl rfl) fun a h => ?_
  refine St.get h rfl rfl rfl (G.move rfl rfl) fun a h => ?_
  rotate_left
  · have e : backR q n = (1, q) := by simp [backR, hc]
    rw [e]
    exact h.ret1 Try.results48 rfl (Ent.refl _) (⟨rfl, rfl⟩)
  · have e : backR q n = (0, dropR q n) := by simp [backR, hc]
    rw [e]
    refine St.callD h [0] rfl (Ro.nil _) ((drop_spec b o q n hq)) rfl rfl rfl Try.call86 rfl rfl fun a w h => ?_
    replace h := h.conv (sl' := _) (L' := [_]) rfl rfl
    refine wpl_nil ?_
    refine X.thenN ?_
    refine C.seq ?_
    refine C.region ?_
    refine St.get h rfl rfl rfl (G.assign rfl rfl) fun a h => ?_
    refine wpl_nil ?_
    refine X.thenN ?_
    refine C.ret ?_
    exact h.ret1 Try.results48 rfl (Ent.refl _) (⟨rfl, rfl⟩)
theorem PrepareR_spec (b o : Nat) (q : RM) (n : Int) (hq : q.Good) : Meets Try.prog 46 #[.pointer (some ⟨b, o, none⟩), .int .i64 n] [RAt b o q]
    (fun v L => ∃ A' c', v = .tuple #[rlv A' (prepR q n).2.1.length c', .int .i64 (prepR q n).1] ∧ L = [RAt b o (prepR q n).2.2, ownl encCh 80 A' c' (prepR q n).2.1]) := by
  refine Meets.of_code Try.func46 rfl Try.ntmps46 rfl fun w0 S R a h => ?_
  refine C.seq ?_
  refine C.region ?_
  refine St.get h rfl rfl rfl (G.assign rfl rfl) fun a h => ?_
  refine St.get h rfl rfl rfl (G.assign rfl rfl) fun a h => ?_
  refine wpl_nil ?_
  refine X.thenN ?_
  refine C.seq ?_
  refine C.region ?_
  refine St.get h rfl rfl rfl (G.move rfl rfl) fun a h => ?_
  refine St.get h rfl rfl rfl (G.move rfl rfl) fun a h => ?_
  refine St.callD h [0] rfl (Ro.nil _) ((may_spec b o q n)) rfl rfl rfl Try.call81 rfl rfl fun a w h => ?_
  replace h := h.conv (sl' := _) (L' := [_]) rfl rfl
  refine St.get h rfl rfl rfl (G.assign rfl rfl) fun a h => ?_
  refine wpl_nil ?_
  refine X.thenN ?_
  refine C.seq ?_
  refine C.seq ?_
  refine C.region ?_
  refine St.get h rfl rfl rfl (G.move rfl rfl) fun a h => ?_
  refine St.getP h rfl rfl rfl (G.bin rfl rfl rfl B.neq) (fun hc a h => ?_) (fun hc a h => ?_)
  refine wpl_nil ?_
  refine X.thenN ?_
  refine St.condT h rfl ?_
  refine C.seq ?_
  refine C.region ?_
  refine St.get h rfl rfl rfl (G.move rfl rfl) fun a h => ?_
  refine St.get h rfl rfl rfl (G.assign rfl rfl) fun a h => ?_
  refine St.get h rfl rfl rfl (G.assign rfl rfl) fun a h => ?_
  refine wpl_nil ?_
  refine X.thenN ?_
  refine C.ret ?_
  refine X.thenR ?_
  rotate_left
  refine wpl_nil ?_
  refine X.thenN ?_
  refine St.condF h rfl ?_
  refine C.skip ?_
  refine X.thenN ?_
  refine C.seq ?_
  refine C.region ?_
  refine St.get h rfl rfl rfl (G.move rfl rfl) fun a h => ?_
  refine St.get h rfl rfl rfl (G.move rfl rfl) fun a h => ?_
  rotate_left
  · have e : prepR q n = (mayR q n, [], q) := by simp [prepR, hc]
    rw [e]
    replace h := (h.nil encCh 80).sel [1, 0] rfl
    replace h := h.conv (sl' := _) (L' := [_, _]) rfl rfl
    exact h.ret2 Try.results46 rfl rfl (Ent.refl _) (⟨none, 0, rfl, rfl⟩)
  · have e0 : mayR q n = 0 := by simpa using hc
    obtain ⟨gi, ci, gw, cw, ws, hw, h⟩ := h.openR 0 rfl
    have hfs := Find_spec b o n (rlv gi q.items.length ci) (.int .i64 q.given) gw cw ws
    rcases hq' : findW n ws with _ | pq
    · rw [hq'] at hfs
      have hn := findW_none' hq'
      rw [hw] at hn
      have e : prepR q n = (0, [], q) := by simp [prepR, e0, hn]
      rw [e]
      refine St.callD h [0, 1, 1] rfl (Ro.nil _) (hfs) rfl rfl rfl Try.call85 rfl rfl fun a w h => ?_
      replace h := h.conv (sl' := _) (L' := [cells _ _ [_, _, _], _, _, _]) rfl rfl
      refine St.get h rfl rfl rfl (G.assign rfl rfl) fun a h => ?_
      refine wpl_nil ?_
      refine X.thenN ?_
      refine C.seq ?_
      refine C.region ?_
      refine St.get h rfl rfl rfl (G.assign rfl rfl) fun a h => ?_
      refine wpl_nil ?_
      refine X.thenN ?_
      refine C.seq ?_
      refine C.seq ?_
      refine C.region ?_
      refine St.get h rfl rfl rfl (G.move rfl rfl) fun a h => ?_
      refine St.get h rfl rfl rfl (G.bin rfl rfl rfl (B.pneq Try.underlying133 _)) fun a h => ?_
      refine wpl_nil ?_
      refine X.thenN ?_
      refine St.condF h rfl ?_
      refine C.skip ?_
      refine X.thenN ?_
      refine C.seq ?_
      refine C.region ?_
      refine St.get h rfl rfl rfl (G.move rfl rfl) fun a h => ?_
      refine St.get h rfl rfl rfl (G.move rfl rfl) fun a h => ?_
      refine St.get h rfl rfl rfl (G.assign rfl rfl) fun a h => ?_
      refine St.get h rfl rfl rfl (G.assign rfl rfl) fun a h => ?_
      refine wpl_nil ?_
      refine X.thenN ?_
      refine C.ret ?_
      replace h := h.fold [0, 3, 1, 2] rfl ((RAt_mk gi ci gw cw ws hw))
      replace h := h.conv (sl' := _) (L' := [_]) rfl rfl
      replace h := (h.nil encCh 80).sel [1, 0] rfl
      replace h := h.conv (sl' := _) (L' := [_, _]) rfl rfl
      exact h.ret2 Try.results46 rfl rfl (Ent.refl _) (⟨none, 0, by rw [e0]; rfl, rfl⟩)
    · rw [hq'] at hfs
      obtain ⟨i, p, hi, rfl, hpn, hn, hup⟩ := findW_upd hq'
      rw [hw] at hn hup
      have e : prepR q n = (0, p.2.list, { q with works := updW n prepW q.works }) := by simp [prepR, e0, hn]
      rw [e]
      have hpl := (hq.lens hw).2 p (List.mem_of_getElem? hi)
      refine St.callD h [0, 1, 1] rfl (Ro.nil _) (hfs) rfl rfl rfl Try.call85 rfl rfl fun a w h => ?_
      replace h := h.conv (sl' := _) (L' := [cells _ _ [_, _, _], _, _, _]) rfl rfl
      replace h := h.turn 2 rfl ((many_takeL (WAt _) hi))
      replace h := h.conv (sl' := _) (L' := [_, _, cells _ _ [_, _, _], _, _]) rfl rfl
      obtain ⟨g1, c1, h⟩ := h.openW 0 rfl
      replace h := h.conv (sl' := _) (L' := [cells _ _ [_, _, _], _, _, cells _ _ [_, _, _], _, _]) rfl rfl
      refine St.get h rfl rfl rfl (G.assign rfl rfl) fun a h => ?_
      refine wpl_nil ?_
      refine X.thenN ?_
      refine C.seq ?_
      refine C.region ?_
      refine St.get h rfl rfl rfl (G.assign rfl rfl) fun a h => ?_
      refine wpl_nil ?_
      refine X.thenN ?_
      refine C.seq ?_
      refine C.seq ?_
      refine C.region ?_
      refine St.get h rfl rfl rfl (G.move rfl rfl) fun a h => ?_
      refine St.get h rfl rfl rfl (G.bin rfl rfl rfl (B.pneq Try.underlying133 _)) fun a h => ?_
      refine wpl_nil ?_
      refine X.thenN ?_
      refine St.condT h rfl ?_
      refine C.seq ?_
      refine C.region ?_
      refine St.get h rfl rfl rfl (G.move rfl rfl) fun a h => ?_
      refine St.get h rfl rfl rfl (G.nilc rfl rfl) fun a h => ?_
      refine St.get h rfl rfl rfl (G.fadr 2 rfl rfl Try.underlying136 rfl rfl Try.sizeOf4) fun a h => ?_
      refine St.put h rfl rfl (U.st 0 2 rfl rfl rfl rfl rfl rfl rfl Try.sizeOf4) fun a w h => ?_
      replace h := h.conv (sl' := _) (L' := [cells _ _ [_, _, _], _, _, cells _ _ [_, _, _], _, _]) rfl rfl
      refine wpl_nil ?_
      refine X.thenN ?_
      refine C.region ?_
      refine St.get h rfl rfl rfl (G.move rfl rfl) fun a h => ?_
      refine St.get h rfl rfl rfl (G.move rfl rfl) fun a h => ?_
      refine St.get h rfl rfl rfl (G.nilc rfl rfl) fun a h => ?_
      refine St.get h rfl rfl rfl (G.fadr 1 rfl rfl Try.underlying136 rfl rfl Try.sizeOf23) fun a h => ?_
      refine St.get h rfl rfl rfl (G.ld 0 1 rfl rfl rfl rfl rfl Try.isAgg23) fun a h => ?_
      replace h := h.nil encCh 80
      refine St.append h _ 0 rfl (Ro.cons 1 rfl (ownl_ro _ _ _ _ _) (Ro.nil _)) rfl rfl rfl (by first | rfl | omega | simp) (by first | rfl | omega | simp) Try.underlying23 Try.typeInfo80 rfl rfl rfl 24 rfl (by (try simp only [List.length_append, List.length_cons, List.length_nil, List.length_map, List.length_take]); omega) (by (try simp only [List.length_append, List.length_cons, List.length_nil, List.length_map, List.length_take]); omega) rfl rfl rfl fun A1 c2 a w hnil h => ?_
      replace h := h.conv (sl' := _) (L' := [_, cells _ _ [_, _, _], _, _, cells _ _ [_, _, _], _, _]) rfl rfl
      refine St.get h rfl rfl rfl (G.assign rfl rfl) fun a h => ?_
      refine wpl_nil ?_
      refine X.thenN ?_
      refine C.seq ?_
      refine C.region ?_
      refine St.get h rfl rfl rfl (G.move rfl rfl) fun a h => ?_
      refine St.get h rfl rfl rfl (G.move rfl rfl) fun a h => ?_
      refine St.get h rfl rfl rfl (G.assign rfl rfl) fun a h => ?_
      refine St.get h rfl rfl rfl (G.assign rfl rfl) fun a h => ?_
      refine wpl_nil ?_
      refine X.thenN ?_
      refine C.ret ?_
      replace h := h.fold [1, 2] rfl ((WAt_mk 80 p.1 p.2.n p.2.list true g1 c1))
      replace h := h.conv (sl' := _) (L' := [_, _, _, cells _ _ [_, _, _], _, _]) rfl rfl
      replace h := h.fold [0, 2] rfl ((many_putL (WAt 80) (p.1, prepW p.2) hi))
      replace h := h.conv (sl' := _) (L' := [_, _, cells _ _ [_, _, _], _, _]) rfl rfl
      have hwl : (ws.set i (p.1, prepW p.2)).map Prod.snd = updW n prepW q.works := by rw [List.map_set, hw, hup]
      have he := map_set_same Prod.fst (p.1, prepW p.2) hi rfl
      replace h := h.conv (L' := [_, _, cells b o [_, rlv gw (ws.set i (p.1, prepW p.2)).length cw, _], ownl encPtr 133 gw cw ((ws.set i (p.1, prepW p.2)).map Prod.fst), _]) rfl (by rw [he, List.length_set])
      replace h := h.fold [2, 4, 3, 0] rfl ((RAt_mk (q := { q with works := updW n prepW q.works }) gi ci gw cw (ws.set i (p.1, prepW p.2)) hwl))
      replace h := h.conv (sl' := _) (L' := [_, _]) rfl rfl
      replace h := h.sel [0, 1] rfl
      replace h := h.conv (sl' := _) (L' := [_, _]) rfl rfl
      exact h.ret2 Try.results46 rfl rfl (Ent.refl _) (⟨A1, c2, by rw [e0]; rfl, rfl⟩)
theorem TakeR_spec (b o : Nat) (q : RM) (n : Int) (hq : q.Good) : Meets Try.prog 45 #[.pointer (some ⟨b, o, none⟩), .int .i64 n] [RAt b o q]
    (Det (.tuple #[.int .u64 (takeR q n).1, .int .i64 (takeR q n).2.1]) [RAt b o (takeR q n).2.2]) := by
  refine Meets.of_code Try.func45 rfl Try.ntmps45 rfl fun w0 S R a h => ?_
  refine C.seq ?_
  refine C.region ?_
  refine St.get h rfl rfl rfl (G.assign rfl rfl) fun a h => ?_
  refine St.get h rfl rfl rfl (G.assign rfl rfl) fun a h => ?_
  refine wpl_nil ?_
  refine X.thenN ?_
  refine C.seq ?_
  refine C.region ?_
  refine St.get h rfl rfl rfl (G.move rfl rfl) fun a h => ?_
  refine St.get h rfl rfl rfl (G.move rfl rfl) fun a h => ?_
  refine St.callD h [0] rfl (Ro.nil _) ((may_spec b o q n)) rfl rfl rfl Try.call81 rfl rfl fun a w h => ?_
  replace h := h.conv (sl' := _) (L' := [_]) rfl rfl
  refine St.get h rfl rfl rfl (G.assign rfl rfl) fun a h => ?_
  refine wpl_nil ?_
  refine X.thenN ?_
  refine C.seq ?_
  refine C.seq ?_
  refine C.region ?_
  refine St.get h rfl rfl rfl (G.move rfl rfl) fun a h => ?_
  refine St.getP h rfl rfl rfl (G.bin rfl rfl rfl B.neq) (fun hc a h => ?_) (fun hc a h => ?_)
  refine wpl_nil ?_
  refine X.thenN ?_
  refine St.condT h rfl ?_
  refine C.seq ?_
  refine C.region ?_
  refine St.get h rfl rfl rfl (G.move rfl rfl) fun a h => ?_
  refine St.get h rfl rfl rfl (G.assign rfl rfl) fun a h => ?_
  refine St.get h rfl rfl rfl (G.assign rfl rfl) fun a h => ?_
  refine wpl_nil ?_
  refine X.thenN ?_
  refine C.ret ?_
  refine X.thenR ?_
  rotate_left
  refine wpl_nil ?_
  refine X.thenN ?_
  refine St.condF h rfl ?_
  refine C.skip ?_
  refine X.thenN ?_
  refine C.seq ?_
  refine C.seq ?_
  refine C.region ?_
  refine St.get h rfl rfl rfl (G.assign rfl rfl) fun a h => ?_
  refine wpl_nil ?_
  refine X.thenN ?_
  refine C.block ?_
  rotate_left
  · have e : takeR q n = (0, mayR q n, q) := by simp [takeR, hc]
    rw [e]
    exact h.ret2 Try.results45 rfl rfl (Ent.refl _) (⟨rfl, rfl⟩)
  · have e0 : mayR q n = 0 := by simpa using hc
    obtain ⟨gi, ci, gw, cw, ws, hw, h⟩ := h.openR 0 rfl
    have hlen := h.tell1 1 rfl fun _ _ _ => ownl_len
    refine C.loop (fun m a w => ∃ i : Nat, i + m = q.items.length ∧ takeG q.works n q.items = takeG q.works n (q.items.drop i) ∧ St w0 S R 52 [(0, .pointer (some ⟨b, o, none⟩)), (1, .int .i64 n), (6, .int .i64 0), (7, .int .i64 i)]
      [cells b o [rlv gi q.items.length ci, rlv gw ws.length cw, .int .i64 q.given], ownl encRI 131 gi ci q.items, ownl encPtr 133 gw cw (ws.map Prod.fst), many (WAt 80) ws] a w) q.items.length ⟨0, by omega, rfl, h.sub ⟨rfl, rfl, by rw [e0]; rfl, rfl, trivial⟩⟩ ?_
    rintro m a w ⟨i, hi, hf, h⟩
    by_cases hlt : i < q.items.length
    · obtain ⟨x, hx⟩ : ∃ x, q.items[i]? = some x := ⟨_, List.getElem?_eq_getElem hlt⟩
      have hx1 : q.items[(i : Int).toNat]? = some x := by simp [hx]
      rw [drop_cons hx, takeG] at hf
      have hts := Taker_spec b o x.num (rlv gi q.items.length ci) (.int .i64 q.given) gw cw ws
      rw [hw] at hts
      refine C.seq ?_
      refine C.seq ?_
      refine C.region ?_
      refine St.get h rfl rfl rfl (G.move rfl rfl) fun a h => ?_
      refine St.get h rfl rfl rfl (G.move rfl rfl) fun a h => ?_
      refine St.get h rfl rfl rfl (G.nilc rfl rfl) fun a h => ?_
      refine St.get h rfl rfl rfl (G.fadr 0 rfl rfl Try.underlying42 rfl rfl Try.sizeOf39) fun a h => ?_
      refine St.get h rfl rfl rfl (G.ld 0 0 rfl rfl rfl rfl rfl Try.isAgg39) fun a h => ?_
      refine St.get h rfl rfl rfl (G.lens rfl rfl Try.underlying39) fun a h => ?_
      refine St.get h rfl rfl rfl (G.bin rfl rfl rfl (B.lssT (by omega))) fun a h => ?_
      refine wpl_nil ?_
      refine X.thenN ?_
      refine St.condT h rfl ?_
      refine C.skip ?_
      refine X.thenN ?_
      refine C.seq ?_
      refine C.block ?_
      refine C.seq ?_
      refine C.region ?_
      refine St.get h rfl rfl rfl (G.move rfl rfl) fun a h => ?_
      refine St.get h rfl rfl rfl (G.nilc rfl rfl) fun a h => ?_
      refine St.get h rfl rfl rfl (G.fadr 0 rfl rfl Try.underlying42 rfl rfl Try.sizeOf39) fun a h => ?_
      refine St.get h rfl rfl rfl (G.ld 0 0 rfl rfl rfl rfl rfl Try.isAgg39) fun a h => ?_
      refine St.get h rfl rfl rfl (G.move rfl rfl) fun a h => ?_
      refine St.get h rfl rfl rfl (G.idxo _ 1 rfl rfl rfl rfl (by omega) (by omega) (by omega) Try.underlying39 Try.sizeOf131) fun a h => ?_
      refine St.get h rfl rfl rfl (G.ldoa _ 1 rfl (by assumption) rfl rfl rfl rfl Try.isAgg131 Try.sizeOf131) fun a h => ?_
      replace h := h.conv (sl' := (_, .agg #[_, _]) :: _) (L' := _) rfl rfl
      refine St.alloc h Try.zeroValue131 rfl rfl rfl rfl fun b1 a w h => ?_
      replace h := h.conv (sl' := _) (L' := [cells _ _ [_, _], cells _ _ [_, _, _], _, _, _]) rfl rfl
      refine St.put h rfl rfl (U.sta 0 0 rfl rfl rfl rfl rfl rfl (by simp [Value.oneCell']) Try.sizeOf131 rfl) fun a w h => ?_
      replace h := h.conv (sl' := _) (L' := [cells _ _ [_, _], cells _ _ [_, _, _], _, _, _]) rfl rfl
      refine wpl_nil ?_
      refine X.thenN ?_
      refine C.seq ?_
      refine C.region ?_
      refine St.get h rfl rfl rfl (G.move rfl rfl) fun a h => ?_
      refine St.get h rfl rfl rfl (G.fadr 0 rfl rfl Try.underlying131 rfl rfl Try.sizeOf3) fun a h => ?_
      refine St.get h rfl rfl rfl (G.ld 0 0 rfl rfl rfl rfl rfl Try.isAgg3) fun a h => ?_
      refine St.callD h [1, 2, 2] rfl (Ro.nil _) (hts) rfl rfl rfl Try.call84 rfl rfl fun a w h => ?_
      replace h := h.conv (sl' := _) (L' := [cells _ _ [_, _, _], _, _, cells _ _ [_, _], _]) rfl rfl
      refine St.get h rfl rfl rfl (G.assign rfl rfl) fun a h => ?_
      refine wpl_nil ?_
      refine X.thenN ?_
      refine C.seq ?_
      refine C.seq ?_
      refine C.region ?_
      refine St.get h rfl rfl rfl (G.move rfl rfl) fun a h => ?_
      refine St.get h rfl rfl rfl (G.move rfl rfl) fun a h => ?_
      refine St.getP h rfl rfl rfl (G.bin rfl rfl rfl B.eql) (fun hc1 a h => ?_) (fun hc1 a h => ?_)
      refine wpl_nil ?_
      refine X.thenN ?_
      refine St.condT h rfl ?_
      refine C.exit ?_
      refine X.thenE ?_
      refine X.blkE ?_
      refine X.thenN ?_
      refine C.region ?_
      refine St.get h rfl rfl rfl (G.move rfl rfl) fun a h => ?_
      refine St.get h rfl rfl rfl (G.bin rfl rfl rfl (B.addi (by omega) (by omega))) fun a h => ?_
      refine St.get h rfl rfl rfl (G.assign rfl rfl) fun a h => ?_
      refine wpl_nil ?_
      refine X.thenN ?_
      rotate_left
      refine wpl_nil ?_
      refine X.thenN ?_
      refine St.condF h rfl ?_
      refine C.skip ?_
      refine X.thenN ?_
      refine C.seq ?_
      refine C.seq ?_
      refine C.region ?_
      refine St.get h rfl rfl rfl (G.move rfl rfl) fun a h => ?_
      refine St.getP h rfl rfl rfl (G.bin rfl rfl rfl B.neq) (fun hc2 a h => ?_) (fun hc2 a h => ?_)
      refine wpl_nil ?_
      refine X.thenN ?_
      refine St.condT h rfl ?_
      refine C.seq ?_
      refine C.region ?_
      refine St.get h rfl rfl rfl (G.assign rfl rfl) fun a h => ?_
      refine St.get h rfl rfl rfl (G.assign rfl rfl) fun a h => ?_
      refine wpl_nil ?_
      refine X.thenN ?_
      refine C.ret ?_
      refine X.thenR ?_
      refine X.blkR ?_
      refine X.thenR ?_
      refine X.thenR ?_
      refine X.blkR ?_
      refine X.thenR ?_
      rotate_left
      refine wpl_nil ?_
      refine X.thenN ?_
      refine St.condF h rfl ?_
      refine C.skip ?_
      refine X.thenN ?_
      refine C.seq ?_
      refine C.region ?_
      refine St.get h rfl rfl rfl (G.move rfl rfl) fun a h => ?_
      refine St.get h rfl rfl rfl (G.move rfl rfl) fun a h => ?_
      refine St.get h rfl rfl rfl (G.fadr 0 rfl rfl Try.underlying131 rfl rfl Try.sizeOf3) fun a h => ?_
      refine St.get h rfl rfl rfl (G.ld 3 0 rfl rfl rfl rfl rfl Try.isAgg3) fun a h => ?_
      refine St.get h rfl rfl rfl (G.fadr 1 rfl rfl Try.underlying131 rfl rfl Try.sizeOf22) fun a h => ?_
      refine St.get h rfl rfl rfl (G.ld 3 1 rfl rfl rfl rfl rfl Try.isAgg22) fun a h => ?_
      refine St.get h rfl rfl rfl (G.build [(0, 1), (1, 1), (2, 1)] rfl rfl Try.zeroValue80 Try.underlying80 ⟨rfl, Try.sizeOf3, rfl, Try.sizeOf3, rfl, Try.sizeOf22, trivial⟩ rfl) fun a h => ?_
      replace h := h.conv (sl' := (_, .agg #[.int _ _, .int _ _, .int _ _]) :: _) (L' := _) rfl rfl
      rotate_left
      · rw [if_pos hc1] at hf
        replace h := h.sel [0, 4, 1, 2] rfl
        replace h := h.conv (sl' := _) (L' := [cells _ _ [_, _, _], _, _, _]) rfl rfl
        exact ⟨m - 1, by omega, i + 1, by omega, hf, h.sub ⟨rfl, rfl, rfl, rfl, trivial⟩⟩
      · rw [if_neg hc1, if_pos hc2] at hf
        have e : takeR q n = (0, 120, q) := by simp [takeR, e0, hf]
        rw [e]
        replace h := h.fold [0, 4, 1, 2] rfl ((RAt_mk gi ci gw cw ws hw))
        replace h := h.conv (sl' := _) (L' := [_, cells _ _ [_, _]]) rfl rfl
        replace h := h.sel [0] rfl
        replace h := h.conv (sl' := _) (L' := [_]) rfl rfl
        exact h.ret2 Try.results45 rfl rfl (Ent.refl _) (⟨rfl, rfl⟩)
      · rw [if_neg hc1, if_neg hc2] at hf
        have e : takeR q n = (x.val, 0, { q with works := noteM n ⟨4, x.num, x.val⟩ q.works }) := by simp [takeR, e0, hf]
        rw [e]
        refine St.call h [0, 0, 0] rfl (Ro.nil _) ((noteR_spec b o n ⟨4, x.num, x.val⟩ (rlv gi q.items.length ci) (.int .i64 q.given) gw cw ws (hq.lens hw).1 (hq.lens hw).2)) rfl rfl rfl Try.call83 rfl rfl fun v L a w hp h => ?_
        obtain ⟨rfl, gw', cw', ws', hw', rfl⟩ := hp
        replace h := h.conv (sl' := _) (L' := [cells _ _ [_, _, _], _, _, cells _ _ [_, _], _]) rfl rfl
        refine wpl_nil ?_
        refine X.thenN ?_
        refine C.seq ?_
        refine C.region ?_
        refine St.get h rfl rfl rfl (G.fadr 1 rfl rfl Try.underlying131 rfl rfl Try.sizeOf22) fun a h => ?_
        refine St.get h rfl rfl rfl (G.ld 3 1 rfl rfl rfl rfl rfl Try.isAgg22) fun a h => ?_
        refine St.get h rfl rfl rfl (G.move rfl rfl) fun a h => ?_
        refine St.get h rfl rfl rfl (G.assign rfl rfl) fun a h => ?_
        refine St.get h rfl rfl rfl (G.assign rfl rfl) fun a h => ?_
        refine wpl_nil ?_
        refine X.thenN ?_
        refine C.ret ?_
        refine X.blkR ?_
        refine X.thenR ?_
        refine X.thenR ?_
        refine X.blkR ?_
        refine X.thenR ?_
        replace h := h.fold [0, 4, 1, 2] rfl ((RAt_mk (q := { q with works := noteM n ⟨4, x.num, x.val⟩ q.works }) gi ci gw' cw' ws' (by rw [hw', hw])))
        replace h := h.conv (sl' := _) (L' := [_, cells _ _ [_, _]]) rfl rfl
        replace h := h.sel [0] rfl
        replace h := h.conv (sl' := _) (L' := [_]) rfl rfl
        exact h.ret2 Try.results45 rfl rfl (Ent.refl _) (⟨rfl, rfl⟩)
    · rw [List.drop_eq_nil_of_le (by omega)] at hf
      have e : takeR q n = (0, 140, q) := by simp [takeR, e0, hf, takeG]
      rw [e]
      refine C.seq ?_
      refine C.seq ?_
      refine C.region ?_
      refine St.get h rfl rfl rfl (G.move rfl rfl) fun a h => ?_
      refine St.get h rfl rfl rfl (G.move rfl rfl) fun a h => ?_
      refine St.get h rfl rfl rfl (G.nilc rfl rfl) fun a h => ?_
      refine St.get h rfl rfl rfl (G.fadr 0 rfl rfl Try.underlying42 rfl rfl Try.sizeOf39) fun a h => ?_
      refine St.get h rfl rfl rfl (G.ld 0 0 rfl rfl rfl rfl rfl Try.isAgg39) fun a h => ?_
      refine St.get h rfl rfl rfl (G.lens rfl rfl Try.underlying39) fun a h => ?_
      refine St.get h rfl rfl rfl (G.bin rfl rfl rfl (B.lssF (by omega))) fun a h => ?_
      refine wpl_nil ?_
      refine X.thenN ?_
      refine St.condF h rfl ?_
      refine C.exit ?_
      refine X.thenE ?_
      refine X.thenE ?_
      refine X.blkE ?_
      refine X.thenN ?_
      refine C.seq ?_
      refine C.region ?_
      refine St.get h rfl rfl rfl (G.assign rfl rfl) fun a h => ?_
      refine St.get h rfl rfl rfl (G.assign rfl rfl) fun a h => ?_
      refine wpl_nil ?_
      refine X.thenN ?_
      refine C.ret ?_
      replace h := h.fold [0, 1, 2, 3] rfl ((RAt_mk gi ci gw cw ws hw))
      replace h := h.conv (sl' := _) (L' := [_]) rfl rfl
      exact h.ret2 Try.results45 rfl rfl (Ent.refl _) (⟨rfl, rfl⟩)
end Go.Proofs.Ytllhegccpknncaa
