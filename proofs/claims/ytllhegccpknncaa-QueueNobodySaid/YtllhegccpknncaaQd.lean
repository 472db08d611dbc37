/-
  The queue's Load, right, Restore.
-/
import Derived.Test.YtllhegccpknncaaQc
import Derived.Test.YtllhegccpknncaaSeat
set_option linter.unusedVariables false
set_option linter.unusedSimpArgs false
set_option linter.unusedSectionVars false
set_option maxRecDepth 8000
namespace Go.Proofs.Ytllhegccpknncaa
open Go.Tr

theorem Load_nil (g : Option Addr) (c : Nat) (vals : List Int) (next : Int) : Meets Try.prog 43 #[.pointer none, rlv g vals.length c, .int .i64 next] [] (Det (.int .i64 6) []) := by
  refine Meets.of_code Try.func43 rfl Try.ntmps43 rfl fun w0 S R a h => ?_
  refine C.seq ?_
  refine C.region ?_
  refine St.get h rfl rfl rfl (G.assign rfl rfl) fun a h => ?_
  refine wpl_nil ?_
  refine X.thenN ?_
  refine C.seq ?_
  refine C.block ?_
  refine C.seq ?_
  refine C.region ?_
  refine St.get h rfl rfl rfl (G.move rfl rfl) fun a h => ?_
  refine St.get h rfl rfl rfl (G.bin rfl rfl rfl (B.peql Try.underlying29 _)) fun a h => ?_
  refine St.get h rfl rfl rfl (G.assign rfl rfl) fun a h => ?_
  refine wpl_nil ?_
  refine X.thenN ?_
  refine St.condT h rfl ?_
  refine C.seq ?_
  refine C.region ?_
  refine St.get h rfl rfl rfl (G.assign rfl rfl) fun a h => ?_
  refine wpl_nil ?_
  refine X.thenN ?_
  refine C.ret ?_
  refine X.blkR ?_
  refine X.thenR ?_
  exact h.ret1 Try.results43 rfl (Ent.refl _) (⟨rfl, rfl⟩)
theorem Load_spec (b o : Nat) (q : QM) (hq : q.Good) (g : Option Addr) (c : Nat) (vals : List Int) (next : Int) (hn0 : -9223372036854775808 ≤ next) : Meets Try.prog 43 #[.pointer (some ⟨b, o, none⟩), rlv g vals.length c, .int .i64 next] [QAt b o q, rdl encU64 g vals]
    (Det (.int .i64 (loadQ q vals next).1) [QAt b o (loadQ q vals next).2]) := by
  refine Meets.of_code Try.func43 rfl Try.ntmps43 rfl fun w0 S R a h => ?_
  have hlen : vals.length ≤ 9223372036854775807 := by have := h.tell1 1 rfl fun _ _ _ => rdl_len; simpa using this
  obtain ⟨gi, ci, gw, cw, ws, hw, h⟩ := h.openQ 0 rfl
  have hwl : ws.length = q.works.length := by rw [← hw]; simp
  have h1 := hq.items
  have h2 := hq.works
  replace h := h.conv (sl' := _) (L' := [cells _ _ [_, _, _], _, _, _, _]) rfl rfl
  refine C.seq ?_
  refine C.region ?_
  refine St.get h rfl rfl rfl (G.assign rfl rfl) fun a h => ?_
  refine wpl_nil ?_
  refine X.thenN ?_
  refine C.seq ?_
  refine C.block ?_
  refine C.seq ?_
  refine C.region ?_
  refine St.get h rfl rfl rfl (G.move rfl rfl) fun a h => ?_
  refine St.get h rfl rfl rfl (G.bin rfl rfl rfl (B.peql Try.underlying29 _)) fun a h => ?_
  refine St.get h rfl rfl rfl (G.assign rfl rfl) fun a h => ?_
  refine wpl_nil ?_
  refine X.thenN ?_
  refine St.condF h rfl ?_
  refine C.seq ?_
  refine C.still Try_mixed h (by decide +kernel) fun w h => ?_
  refine St.getS h rfl rfl rfl (G.move rfl rfl) fun a h => ?_
  refine St.getS h rfl rfl rfl (G.nilc rfl rfl) fun a h => ?_
  refine St.getS h rfl rfl rfl (G.fadr 0 rfl rfl Try.underlying33 rfl rfl Try.sizeOf30) fun a h => ?_
  refine St.getS h rfl rfl rfl (G.ld 0 0 rfl rfl rfl rfl rfl Try.isAgg30) fun a h => ?_
  refine St.getS h rfl rfl rfl (G.lens rfl rfl Try.underlying30) fun a h => ?_
  refine St.getS h rfl rfl rfl (G.move rfl rfl) fun a h => ?_
  refine St.getS h rfl rfl rfl (G.nilc rfl rfl) fun a h => ?_
  refine St.getS h rfl rfl rfl (G.fadr 1 rfl rfl Try.underlying33 rfl rfl Try.sizeOf31) fun a h => ?_
  refine St.getS h rfl rfl rfl (G.ld 0 1 rfl rfl rfl rfl rfl Try.isAgg31) fun a h => ?_
  refine St.getS h rfl rfl rfl (G.lens rfl rfl Try.underlying31) fun a h => ?_
  refine St.getS h rfl rfl rfl (G.bin rfl rfl rfl (B.addi (by omega) (by omega))) fun a h => ?_
  refine St.getPS h rfl rfl rfl (G.bin rfl rfl rfl B.gtr) (fun hc a h => ?_) (fun hc a h => ?_)
  refine St.getS h rfl rfl rfl (G.assign rfl rfl) fun a h => ?_
  refine wps_nil ?_
  refine X.thenN ?_
  refine St.condT h rfl ?_
  refine C.seq ?_
  refine C.region ?_
  refine St.get h rfl rfl rfl (G.assign rfl rfl) fun a h => ?_
  refine wpl_nil ?_
  refine X.thenN ?_
  refine C.ret ?_
  refine X.blkR ?_
  refine X.thenR ?_
  rotate_left
  refine St.getS h rfl rfl rfl (G.assign rfl rfl) fun a h => ?_
  refine wps_nil ?_
  refine X.thenN ?_
  refine St.condF h rfl ?_
  refine C.seq ?_
  refine C.region ?_
  refine St.get h rfl rfl rfl (G.move rfl rfl) fun a h => ?_
  refine St.get h rfl rfl rfl (G.lens rfl rfl Try.underlying24) fun a h => ?_
  refine St.getP h rfl rfl rfl (G.bin rfl rfl rfl B.gtr) (fun hc1 a h => ?_) (fun hc1 a h => ?_)
  refine St.get h rfl rfl rfl (G.move rfl rfl) fun a h => ?_
  refine St.guard_no h rfl rfl rfl rfl rfl (by decide) rfl rfl fun a h => ?_
  refine St.guard_no h rfl rfl rfl rfl rfl (by decide) rfl rfl fun a h => ?_
  refine St.guard_no h rfl rfl rfl rfl rfl (by decide) rfl rfl fun a h => ?_
  refine St.guard_no h rfl rfl rfl rfl rfl (by decide) rfl rfl fun a h => ?_
  refine St.get h rfl rfl rfl (G.pickT rfl rfl rfl) fun a h => ?_
  refine St.get h rfl rfl rfl (G.move rfl rfl) fun a h => ?_
  refine St.guard_no h rfl rfl rfl rfl rfl (by decide) rfl rfl fun a h => ?_
  refine St.guard_no h rfl rfl rfl rfl rfl (by decide) rfl rfl fun a h => ?_
  refine St.get h rfl rfl rfl (G.pickT rfl rfl rfl) fun a h => ?_
  refine St.get h rfl rfl rfl (G.assign rfl rfl) fun a h => ?_
  refine wpl_nil ?_
  refine X.thenN ?_
  refine St.condT h rfl ?_
  refine C.seq ?_
  refine C.region ?_
  refine St.get h rfl rfl rfl (G.assign rfl rfl) fun a h => ?_
  refine wpl_nil ?_
  refine X.thenN ?_
  refine C.ret ?_
  refine X.blkR ?_
  refine X.thenR ?_
  rotate_left
  refine St.get h rfl rfl rfl (G.move rfl rfl) fun a h => ?_
  refine St.guard_yes h rfl rfl rfl rfl rfl ?_
  refine St.get h rfl rfl rfl (G.move rfl rfl) fun a h => ?_
  refine St.guard_yes h rfl rfl rfl rfl rfl ?_
  refine St.get h rfl rfl rfl (G.move rfl rfl) fun a h => ?_
  refine St.guard_yes h rfl rfl rfl rfl rfl ?_
  refine St.get h rfl rfl rfl (G.lens rfl rfl Try.underlying24) fun a h => ?_
  refine St.guard_yes h rfl rfl rfl rfl rfl ?_
  refine St.getP h rfl rfl rfl (G.bin rfl rfl rfl B.leq) (fun hc2 a h => ?_) (fun hc2 a h => ?_)
  refine St.get h rfl rfl rfl (G.pickF rfl rfl rfl) fun a h => ?_
  refine St.get h rfl rfl rfl (G.move rfl rfl) fun a h => ?_
  refine St.guard_no h rfl rfl rfl rfl rfl (by decide) rfl rfl fun a h => ?_
  refine St.guard_no h rfl rfl rfl rfl rfl (by decide) rfl rfl fun a h => ?_
  refine St.get h rfl rfl rfl (G.pickT rfl rfl rfl) fun a h => ?_
  refine St.get h rfl rfl rfl (G.assign rfl rfl) fun a h => ?_
  refine wpl_nil ?_
  refine X.thenN ?_
  refine St.condT h rfl ?_
  refine C.seq ?_
  refine C.region ?_
  refine St.get h rfl rfl rfl (G.assign rfl rfl) fun a h => ?_
  refine wpl_nil ?_
  refine X.thenN ?_
  refine C.ret ?_
  refine X.blkR ?_
  refine X.thenR ?_
  rotate_left
  refine St.get h rfl rfl rfl (G.pickF rfl rfl rfl) fun a h => ?_
  refine St.get h rfl rfl rfl (G.move rfl rfl) fun a h => ?_
  refine St.guard_yes h rfl rfl rfl rfl rfl ?_
  refine St.get h rfl rfl rfl (G.move rfl rfl) fun a h => ?_
  refine St.guard_yes h rfl rfl rfl rfl rfl ?_
  refine St.getP h rfl rfl rfl (G.bin rfl rfl rfl B.gtr) (fun hc3 a h => ?_) (fun hc3 a h => ?_)
  refine St.get h rfl rfl rfl (G.pickF rfl rfl rfl) fun a h => ?_
  refine St.get h rfl rfl rfl (G.assign rfl rfl) fun a h => ?_
  refine wpl_nil ?_
  refine X.thenN ?_
  refine St.condT h rfl ?_
  refine C.seq ?_
  refine C.region ?_
  refine St.get h rfl rfl rfl (G.assign rfl rfl) fun a h => ?_
  refine wpl_nil ?_
  refine X.thenN ?_
  refine C.ret ?_
  refine X.blkR ?_
  refine X.thenR ?_
  rotate_left
  refine St.get h rfl rfl rfl (G.pickF rfl rfl rfl) fun a h => ?_
  refine St.get h rfl rfl rfl (G.assign rfl rfl) fun a h => ?_
  refine wpl_nil ?_
  refine X.thenN ?_
  refine St.condF h rfl ?_
  refine C.skip ?_
  refine X.blkN ?_
  refine X.thenN ?_
  refine C.seq ?_
  refine C.seq ?_
  refine C.region ?_
  refine St.get h rfl rfl rfl (G.move rfl rfl) fun a h => ?_
  refine St.get h rfl rfl rfl (G.lens rfl rfl Try.underlying24) fun a h => ?_
  refine St.get h rfl rfl rfl (G.move rfl rfl) fun a h => ?_
  refine wpl_nil ?_
  refine X.thenN ?_
  refine C.block ?_
  rotate_left
  · have e : loadQ q vals next = (7, q) := by unfold loadQ; rw [if_pos (by omega)]
    rw [e]
    replace h := h.fold [0, 1, 2, 3] rfl ((QAt_mk gi ci gw cw ws hw))
    replace h := h.conv (sl' := _) (L' := [_, _]) rfl rfl
    replace h := h.sel [0] rfl
    replace h := h.conv (sl' := _) (L' := [_]) rfl rfl
    exact h.ret1 Try.results43 rfl (Ent.refl _) (⟨rfl, rfl⟩)
  · have e : loadQ q vals next = (1, q) := by unfold loadQ; rw [if_neg (by omega), if_pos (by omega)]
    rw [e]
    replace h := h.fold [0, 1, 2, 3] rfl ((QAt_mk gi ci gw cw ws hw))
    replace h := h.conv (sl' := _) (L' := [_, _]) rfl rfl
    replace h := h.sel [0] rfl
    replace h := h.conv (sl' := _) (L' := [_]) rfl rfl
    exact h.ret1 Try.results43 rfl (Ent.refl _) (⟨rfl, rfl⟩)
  · have e : loadQ q vals next = (1, q) := by unfold loadQ; rw [if_neg (by omega), if_pos (by omega)]
    rw [e]
    replace h := h.fold [0, 1, 2, 3] rfl ((QAt_mk gi ci gw cw ws hw))
    replace h := h.conv (sl' := _) (L' := [_, _]) rfl rfl
    replace h := h.sel [0] rfl
    replace h := h.conv (sl' := _) (L' := [_]) rfl rfl
    exact h.ret1 Try.results43 rfl (Ent.refl _) (⟨rfl, rfl⟩)
  · have e : loadQ q vals next = (1, q) := by unfold loadQ; rw [if_neg (by omega), if_pos (by omega)]
    rw [e]
    replace h := h.fold [0, 1, 2, 3] rfl ((QAt_mk gi ci gw cw ws hw))
    replace h := h.conv (sl' := _) (L' := [_, _]) rfl rfl
    replace h := h.sel [0] rfl
    replace h := h.conv (sl' := _) (L' := [_]) rfl rfl
    exact h.ret1 Try.results43 rfl (Ent.refl _) (⟨rfl, rfl⟩)
  · have e : loadQ q vals next = (0, ⟨loadI (next - vals.length) vals, q.works, next - 1⟩) := by unfold loadQ; rw [if_neg (by omega), if_neg (by omega)]
    rw [e]
    have hi0 : q.items = [] := List.length_eq_zero_iff.1 (by omega)
    rw [hi0] at h
    refine C.loop (fun m a w => ∃ (i : Nat) (gi' : Option Addr) (ci' : Nat), i + m = vals.length ∧ St w0 S R 69 [(0, .pointer (some ⟨b, o, none⟩)), (1, rlv g vals.length c), (2, .int .i64 next), (39, rlv g vals.length c), (40, .int .i64 vals.length), (41, .int .i64 i)]
      [cells b o [rlv gi' i ci', rlv gw ws.length cw, .int .i64 q.given], ownl encQI 91 gi' ci' (loadI (next - vals.length) (vals.take i)), ownl encPtr 92 gw cw (ws.map Prod.fst), many (WAt 80) ws, rdl encU64 g vals] a w) vals.length ⟨0, gi, ci, by omega, h.sub ⟨rfl, rfl, rfl, rfl, rfl, rfl, trivial⟩⟩ ?_
    rintro m a w ⟨i, gi', ci', hi, h⟩
    by_cases hlt : i < vals.length
    · obtain ⟨x, hx⟩ : ∃ x, vals[i]? = some x := ⟨_, List.getElem?_eq_getElem hlt⟩
      have hx1 : vals[(i : Int).toNat]? = some x := by simp [hx]
      have htl : (vals.take i).length = i := by simp; omega
      have hll := loadI_len (vals.take i) (next - vals.length)
      have htk : loadI (next - vals.length) (vals.take (i + 1)) = loadI (next - vals.length) (vals.take i) ++ [⟨next - vals.length + i, x, 0⟩] := by rw [List.take_add_one, hx]; simp only [Option.toList_some]; rw [loadI_snoc, htl]
      refine C.seq ?_
      refine C.region ?_
      refine St.get h rfl rfl rfl (G.bin rfl rfl rfl (B.lssT (by omega))) fun a h => ?_
      refine wpl_nil ?_
      refine X.thenN ?_
      refine C.seq ?_
      refine St.condT h rfl ?_
      refine C.skip ?_
      refine X.thenN ?_
      refine C.seq ?_
      refine C.block ?_
      refine C.seq ?_
      refine C.region ?_
      refine St.get h rfl rfl rfl (G.move rfl rfl) fun a h => ?_
      refine St.get h rfl rfl rfl (G.idxr _ 4 rfl rfl rfl rfl (by omega) (by omega) (by omega) Try.underlying24 Try.sizeOf22) fun a h => ?_
      refine St.get h rfl rfl rfl (G.lde _ 4 0 rfl (by assumption) rfl rfl rfl rfl rfl Try.isAgg22) fun a h => ?_
      refine St.get h rfl rfl rfl (G.assign rfl rfl) fun a h => ?_
      refine St.get h rfl rfl rfl (G.assign rfl rfl) fun a h => ?_
      refine wpl_nil ?_
      refine X.thenN ?_
      refine C.region ?_
      refine St.get h rfl rfl rfl (G.move rfl rfl) fun a h => ?_
      refine St.get h rfl rfl rfl (G.move rfl rfl) fun a h => ?_
      refine St.get h rfl rfl rfl (G.nilc rfl rfl) fun a h => ?_
      refine St.get h rfl rfl rfl (G.fadr 0 rfl rfl Try.underlying33 rfl rfl Try.sizeOf30) fun a h => ?_
      refine St.get h rfl rfl rfl (G.ld 0 0 rfl rfl rfl rfl rfl Try.isAgg30) fun a h => ?_
      refine St.get h rfl rfl rfl (G.move rfl rfl) fun a h => ?_
      refine St.get h rfl rfl rfl (G.move rfl rfl) fun a h => ?_
      refine St.get h rfl rfl rfl (G.lens rfl rfl Try.underlying24) fun a h => ?_
      refine St.get h rfl rfl rfl (G.bin rfl rfl rfl (B.subi (by omega) (by omega))) fun a h => ?_
      refine St.get h rfl rfl rfl (G.move rfl rfl) fun a h => ?_
      refine St.get h rfl rfl rfl (G.bin rfl rfl rfl (B.addi (by omega) (by omega))) fun a h => ?_
      refine St.get h rfl rfl rfl (G.move rfl rfl) fun a h => ?_
      refine St.get h rfl rfl rfl (G.build [(0, 1), (1, 1), (2, 1)] rfl rfl Try.zeroValue91 Try.underlying91 ⟨rfl, Try.sizeOf3, rfl, Try.sizeOf22, rfl, Try.sizeOf3, trivial⟩ rfl) fun a h => ?_
      replace h := h.conv (sl' := (_, .agg #[.int _ _, .int _ _, _]) :: _) (L' := _) rfl rfl
      refine St.bslice h (encQI) ([⟨next - vals.length + i, x, 0⟩]) rfl rfl Try.underlying30 Try.sizeOf91 Try.zeroValue91 rfl rfl ⟨rfl, rfl, trivial⟩ rfl rfl rfl fun b1 a w h => ?_
      skip
      refine St.append h _ 2 rfl (Ro.cons 0 rfl (ownl_ro _ _ _ _ _) (Ro.nil _)) rfl rfl rfl (by first | rfl | omega | simp) (by first | rfl | omega | simp) Try.underlying30 Try.typeInfo91 rfl rfl rfl 24 rfl (by (try simp only [List.length_append, List.length_cons, List.length_nil, List.length_map, List.length_take]); omega) (by (try simp only [List.length_append, List.length_cons, List.length_nil, List.length_map, List.length_take]); omega) rfl rfl rfl fun A1 c1 a w hnil h => ?_
      replace h := h.conv (sl' := _) (L' := [_, _, cells _ _ [_, _, _], _, _, _]) rfl rfl
      refine St.get h rfl rfl rfl (G.nilc rfl rfl) fun a h => ?_
      refine St.get h rfl rfl rfl (G.fadr 0 rfl rfl Try.underlying33 rfl rfl Try.sizeOf30) fun a h => ?_
      refine St.put h rfl rfl (U.st 2 0 rfl rfl rfl rfl rfl rfl rfl Try.sizeOf30) fun a w h => ?_
      replace h := h.conv (sl' := _) (L' := [_, _, cells _ _ [_, _, _], _, _, _]) rfl rfl
      refine wpl_nil ?_
      refine X.blkN ?_
      refine X.thenN ?_
      refine C.region ?_
      refine St.get h rfl rfl rfl (G.bin rfl rfl rfl (B.addi (by omega) (by omega))) fun a h => ?_
      refine St.get h rfl rfl rfl (G.move rfl rfl) fun a h => ?_
      refine wpl_nil ?_
      refine X.thenN ?_
      replace h := h.sel [2, 0, 3, 4, 5] rfl
      replace h := h.conv (sl' := _) (L' := [cells _ _ [_, _, _], _, _, _, _]) rfl rfl
      have hle : (loadI (next - vals.length) (vals.take i) ++ ([⟨next - vals.length + i, x, 0⟩] : List QI)).length = i + 1 := by simp; omega
      exact ⟨m - 1, by omega, i + 1, A1, c1, by omega, (h.conv rfl (L' := [cells b o [rlv A1 (i + 1) c1, _, _], ownl encQI 91 A1 c1 (loadI (next - vals.length) (vals.take (i + 1))), _, _, _]) (by rw [htk, hle])).sub ⟨rfl, rfl, rfl, rfl, rfl, rfl, trivial⟩⟩
    · rw [List.take_of_length_le (by omega)] at h
      have hi' : i = (loadI (next - vals.length) vals).length := by rw [loadI_len]; omega
      subst hi'
      refine C.seq ?_
      refine C.region ?_
      refine St.get h rfl rfl rfl (G.bin rfl rfl rfl (B.lssF (by omega))) fun a h => ?_
      refine wpl_nil ?_
      refine X.thenN ?_
      refine C.seq ?_
      refine St.condF h rfl ?_
      refine C.exit ?_
      refine X.thenE ?_
      refine X.thenE ?_
      refine X.blkE ?_
      refine X.thenN ?_
      refine C.seq ?_
      refine C.region ?_
      refine St.get h rfl rfl rfl (G.move rfl rfl) fun a h => ?_
      refine St.get h rfl rfl rfl (G.move rfl rfl) fun a h => ?_
      refine St.get h rfl rfl rfl (G.bin rfl rfl rfl (B.subi (by omega) (by omega))) fun a h => ?_
      refine St.get h rfl rfl rfl (G.nilc rfl rfl) fun a h => ?_
      refine St.get h rfl rfl rfl (G.fadr 2 rfl rfl Try.underlying33 rfl rfl Try.sizeOf3) fun a h => ?_
      refine St.put h rfl rfl (U.st 0 2 rfl rfl rfl rfl rfl rfl rfl Try.sizeOf3) fun a w h => ?_
      replace h := h.conv (sl' := _) (L' := [cells _ _ [_, _, _], _, _, _, _]) rfl rfl
      refine wpl_nil ?_
      refine X.thenN ?_
      refine C.seq ?_
      refine C.region ?_
      refine St.get h rfl rfl rfl (G.assign rfl rfl) fun a h => ?_
      refine wpl_nil ?_
      refine X.thenN ?_
      refine C.ret ?_
      replace h := h.fold [0, 1, 2, 3] rfl ((QAt_mk (q := ⟨loadI (next - vals.length) vals, q.works, next - 1⟩) gi' ci' gw cw ws hw))
      replace h := h.conv (sl' := _) (L' := [_, _]) rfl rfl
      replace h := h.sel [0] rfl
      replace h := h.conv (sl' := _) (L' := [_]) rfl rfl
      exact h.ret1 Try.results43 rfl (Ent.refl _) (⟨rfl, rfl⟩)
theorem right_spec (b o : Nat) (q : QM) (hq : q.Good) (g : Option Addr) (c : Nat) (l : List Ch) (hl : l.length < 1000000000) : Meets Try.prog 80 #[.pointer (some ⟨b, o, none⟩), rlv g l.length c] [QAt b o q, rdl encCh g l]
    (Det (.bool (rightQ q l)) [QAt b o q]) := by
  refine Meets.of_code Try.func80 rfl Try.ntmps80 rfl fun w0 S R a h => ?_
  obtain ⟨gi, ci, gw, cw, ws, hw, h⟩ := h.openQ 0 rfl
  have h1 := hq.items
  replace h := h.conv (sl' := _) (L' := [cells _ _ [_, _, _], _, _, _, _]) rfl rfl
  refine C.seq ?_
  refine C.region ?_
  refine St.get h rfl rfl rfl (G.assign rfl rfl) fun a h => ?_
  refine wpl_nil ?_
  refine X.thenN ?_
  refine C.seq ?_
  refine C.region ?_
  refine St.get h rfl rfl rfl (G.assign rfl rfl) fun a h => ?_
  refine wpl_nil ?_
  refine X.thenN ?_
  refine C.seq ?_
  refine C.seq ?_
  refine C.region ?_
  refine St.get h rfl rfl rfl (G.move rfl rfl) fun a h => ?_
  refine St.get h rfl rfl rfl (G.lens rfl rfl Try.underlying23) fun a h => ?_
  refine St.get h rfl rfl rfl (G.move rfl rfl) fun a h => ?_
  refine wpl_nil ?_
  refine X.thenN ?_
  refine C.block ?_
  refine C.loop (fun m a w => ∃ i k : Nat, i + m = l.length ∧ k ≤ q.items.length ∧ rightG l q.items = rightG (l.drop i) (q.items.drop k) ∧ St w0 S R 60 [(0, .pointer (some ⟨b, o, none⟩)), (1, rlv g l.length c), (5, .int .i64 k), (8, rlv g l.length c), (9, .int .i64 l.length), (10, .int .i64 i)]
    [cells b o [rlv gi q.items.length ci, rlv gw ws.length cw, .int .i64 q.given], ownl encQI 91 gi ci q.items, ownl encPtr 92 gw cw (ws.map Prod.fst), many (WAt 80) ws, rdl encCh g l] a w) l.length ⟨0, 0, by omega, by omega, rfl, h.sub ⟨rfl, rfl, rfl, rfl, rfl, rfl, trivial⟩⟩ ?_
  rintro m a w ⟨i, k, hi, hk, hf, h⟩
  by_cases hlt : i < l.length
  · obtain ⟨x, hx⟩ : ∃ x, l[i]? = some x := ⟨_, List.getElem?_eq_getElem hlt⟩
    have hx1 : l[(i : Int).toNat]? = some x := by simp [hx]
    have hdx : l.drop i = x :: l.drop (i + 1) := by
      obtain ⟨h1, rfl⟩ := List.getElem?_eq_some_iff.1 hx
      exact List.drop_eq_getElem_cons h1
    by_cases hkl : k < q.items.length
    · obtain ⟨y, hy⟩ : ∃ y, q.items[k]? = some y := ⟨_, List.getElem?_eq_getElem hkl⟩
      have hy1 : q.items[(k : Int).toNat]? = some y := by simp [hy]
      have hdy : q.items.drop k = y :: q.items.drop (k + 1) := by
        obtain ⟨h1, rfl⟩ := List.getElem?_eq_some_iff.1 hy
        exact List.drop_eq_getElem_cons h1
      rw [hdx, hdy] at hf
      refine C.seq ?_
      refine C.region ?_
      refine St.get h rfl rfl rfl (G.bin rfl rfl rfl (B.lssT (by omega))) fun a h => ?_
      refine wpl_nil ?_
      refine X.thenN ?_
      refine C.seq ?_
      refine St.condT h rfl ?_
      refine C.skip ?_
      refine X.thenN ?_
      refine C.seq ?_
      refine C.block ?_
      refine C.seq ?_
      refine C.region ?_
      refine St.get h rfl rfl rfl (G.idxr _ 4 rfl rfl rfl rfl (by omega) (by omega) (by omega) Try.underlying23 Try.sizeOf80) fun a h => ?_
      refine St.get h rfl rfl rfl (G.ldea _ 4 rfl (by assumption) rfl rfl rfl rfl Try.isAgg80 Try.sizeOf80) fun a h => ?_
      replace h := h.conv (sl' := (_, .agg #[_, _, _]) :: _) (L' := _) rfl rfl
      refine St.alloc h Try.zeroValue80 rfl rfl rfl rfl fun b1 a w h => ?_
      replace h := h.conv (sl' := _) (L' := [cells _ _ [_, _, _], cells _ _ [_, _, _], _, _, _, _]) rfl rfl
      refine St.put h rfl rfl (U.sta 0 0 rfl rfl rfl rfl rfl rfl (by simp [Value.oneCell']) Try.sizeOf80 rfl) fun a w h => ?_
      replace h := h.conv (sl' := _) (L' := [cells _ _ [_, _, _], cells _ _ [_, _, _], _, _, _, _]) rfl rfl
      refine wpl_nil ?_
      refine X.thenN ?_
      refine C.block ?_
      refine C.seq ?_
      refine C.region ?_
      refine St.get h rfl rfl rfl (G.fadr 0 rfl rfl Try.underlying80 rfl rfl Try.sizeOf3) fun a h => ?_
      refine St.get h rfl rfl rfl (G.ld 0 0 rfl rfl rfl rfl rfl Try.isAgg3) fun a h => ?_
      refine St.getP h rfl rfl rfl (G.bin rfl rfl rfl B.eql) (fun hc a h => ?_) (fun hc a h => ?_)
      refine St.get h rfl rfl rfl (G.move rfl rfl) fun a h => ?_
      refine St.guard_yes h rfl rfl rfl rfl rfl ?_
      refine St.get h rfl rfl rfl (G.fadr 1 rfl rfl Try.underlying80 rfl rfl Try.sizeOf3) fun a h => ?_
      refine St.guard_yes h rfl rfl rfl rfl rfl ?_
      refine St.get h rfl rfl rfl (G.ld 0 1 rfl rfl rfl rfl rfl Try.isAgg3) fun a h => ?_
      refine St.guard_yes h rfl rfl rfl rfl rfl ?_
      refine St.getP h rfl rfl rfl (G.bin rfl rfl rfl B.eql) (fun hc1 a h => ?_) (fun hc1 a h => ?_)
      refine St.get h rfl rfl rfl (G.pickT rfl rfl rfl) fun a h => ?_
      refine St.get h rfl rfl rfl (G.assign rfl rfl) fun a h => ?_
      refine wpl_nil ?_
      refine X.thenN ?_
      refine St.condT h rfl ?_
      refine C.skip ?_
      refine X.blkN ?_
      refine X.blkN ?_
      refine X.thenN ?_
      refine C.region ?_
      refine St.get h rfl rfl rfl (G.bin rfl rfl rfl (B.addi (by omega) (by omega))) fun a h => ?_
      refine St.get h rfl rfl rfl (G.move rfl rfl) fun a h => ?_
      refine wpl_nil ?_
      refine X.thenN ?_
      rotate_left
      refine St.get h rfl rfl rfl (G.pickT rfl rfl rfl) fun a h => ?_
      refine St.get h rfl rfl rfl (G.assign rfl rfl) fun a h => ?_
      refine wpl_nil ?_
      refine X.thenN ?_
      refine St.condF h rfl ?_
      refine C.seq ?_
      refine C.still Try_mixed h (by decide +kernel) fun w h => ?_
      refine St.getS h rfl rfl rfl (G.fadr 0 rfl rfl Try.underlying80 rfl rfl Try.sizeOf3) fun a h => ?_
      refine St.getS h rfl rfl rfl (G.ld 0 0 rfl rfl rfl rfl rfl Try.isAgg3) fun a h => ?_
      refine St.getS h rfl rfl rfl (G.bin rfl rfl rfl (B.eqlF (by omega))) fun a h => ?_
      refine St.getS h rfl rfl rfl (G.move rfl rfl) fun a h => ?_
      refine St.guardS_no h rfl rfl rfl rfl rfl (by decide) rfl rfl fun a h => ?_
      refine St.guardS_no h rfl rfl rfl rfl rfl (by decide) rfl rfl fun a h => ?_
      refine St.guardS_no h rfl rfl rfl rfl rfl (by decide) rfl rfl fun a h => ?_
      refine St.guardS_no h rfl rfl rfl rfl rfl (by decide) rfl rfl fun a h => ?_
      refine St.guardS_no h rfl rfl rfl rfl rfl (by decide) rfl rfl fun a h => ?_
      refine St.guardS_no h rfl rfl rfl rfl rfl (by decide) rfl rfl fun a h => ?_
      refine St.guardS_no h rfl rfl rfl rfl rfl (by decide) rfl rfl fun a h => ?_
      refine St.getS h rfl rfl rfl (G.pickF rfl rfl rfl) fun a h => ?_
      refine St.getS h rfl rfl rfl (G.move rfl rfl) fun a h => ?_
      refine St.guardS_no h rfl rfl rfl rfl rfl (by decide) rfl rfl fun a h => ?_
      refine St.guardS_no h rfl rfl rfl rfl rfl (by decide) rfl rfl fun a h => ?_
      refine St.guardS_no h rfl rfl rfl rfl rfl (by decide) rfl rfl fun a h => ?_
      refine St.guardS_no h rfl rfl rfl rfl rfl (by decide) rfl rfl fun a h => ?_
      refine St.guardS_no h rfl rfl rfl rfl rfl (by decide) rfl rfl fun a h => ?_
      refine St.guardS_no h rfl rfl rfl rfl rfl (by decide) rfl rfl fun a h => ?_
      refine St.guardS_no h rfl rfl rfl rfl rfl (by decide) rfl rfl fun a h => ?_
      refine St.guardS_no h rfl rfl rfl rfl rfl (by decide) rfl rfl fun a h => ?_
      refine St.guardS_no h rfl rfl rfl rfl rfl (by decide) rfl rfl fun a h => ?_
      refine St.guardS_no h rfl rfl rfl rfl rfl (by decide) rfl rfl fun a h => ?_
      refine St.guardS_no h rfl rfl rfl rfl rfl (by decide) rfl rfl fun a h => ?_
      refine St.guardS_no h rfl rfl rfl rfl rfl (by decide) rfl rfl fun a h => ?_
      refine St.guardS_no h rfl rfl rfl rfl rfl (by decide) rfl rfl fun a h => ?_
      refine St.getS h rfl rfl rfl (G.pickF rfl rfl rfl) fun a h => ?_
      refine St.getS h rfl rfl rfl (G.assign rfl rfl) fun a h => ?_
      refine wps_nil ?_
      refine X.thenN ?_
      refine St.condF h rfl ?_
      refine C.seq ?_
      refine C.region ?_
      refine St.get h rfl rfl rfl (G.assign rfl rfl) fun a h => ?_
      refine wpl_nil ?_
      refine X.thenN ?_
      refine C.ret ?_
      refine X.blkR ?_
      refine X.blkR ?_
      refine X.thenR ?_
      refine X.thenR ?_
      refine X.blkR ?_
      refine X.thenR ?_
      rotate_left
      refine St.get h rfl rfl rfl (G.move rfl rfl) fun a h => ?_
      refine St.guard_no h rfl rfl rfl rfl rfl (by decide) rfl rfl fun a h => ?_
      refine St.guard_no h rfl rfl rfl rfl rfl (by decide) rfl rfl fun a h => ?_
      refine St.guard_no h rfl rfl rfl rfl rfl (by decide) rfl rfl fun a h => ?_
      refine St.get h rfl rfl rfl (G.pickF rfl rfl rfl) fun a h => ?_
      refine St.get h rfl rfl rfl (G.assign rfl rfl) fun a h => ?_
      refine wpl_nil ?_
      refine X.thenN ?_
      refine St.condF h rfl ?_
      refine C.seq ?_
      refine C.still Try_mixed h (by decide +kernel) fun w h => ?_
      refine St.getS h rfl rfl rfl (G.fadr 0 rfl rfl Try.underlying80 rfl rfl Try.sizeOf3) fun a h => ?_
      refine St.getS h rfl rfl rfl (G.ld 0 0 rfl rfl rfl rfl rfl Try.isAgg3) fun a h => ?_
      refine St.getPS h rfl rfl rfl (G.bin rfl rfl rfl B.eql) (fun hc1 a h => ?_) (fun hc1 a h => ?_)
      refine St.getS h rfl rfl rfl (G.move rfl rfl) fun a h => ?_
      refine St.guardS_yes h rfl rfl rfl rfl rfl ?_
      refine St.getS h rfl rfl rfl (G.move rfl rfl) fun a h => ?_
      refine St.guardS_yes h rfl rfl rfl rfl rfl ?_
      refine St.getS h rfl rfl rfl (G.move rfl rfl) fun a h => ?_
      refine St.guardS_yes h rfl rfl rfl rfl rfl ?_
      refine St.getS h rfl rfl rfl (G.nilc rfl rfl) fun a h => ?_
      refine St.guardS_yes h rfl rfl rfl rfl rfl ?_
      refine St.getS h rfl rfl rfl (G.fadr 0 rfl rfl Try.underlying33 rfl rfl Try.sizeOf30) fun a h => ?_
      refine St.guardS_yes h rfl rfl rfl rfl rfl ?_
      refine St.getS h rfl rfl rfl (G.ld 1 0 rfl rfl rfl rfl rfl Try.isAgg30) fun a h => ?_
      refine St.guardS_yes h rfl rfl rfl rfl rfl ?_
      refine St.getS h rfl rfl rfl (G.lens rfl rfl Try.underlying30) fun a h => ?_
      refine St.guardS_yes h rfl rfl rfl rfl rfl ?_
      refine St.getS h rfl rfl rfl (G.bin rfl rfl rfl (B.lssT (by omega))) fun a h => ?_
      refine St.getS h rfl rfl rfl (G.pickT rfl rfl rfl) fun a h => ?_
      refine St.getS h rfl rfl rfl (G.move rfl rfl) fun a h => ?_
      refine St.guardS_yes h rfl rfl rfl rfl rfl ?_
      refine St.getS h rfl rfl rfl (G.move rfl rfl) fun a h => ?_
      refine St.guardS_yes h rfl rfl rfl rfl rfl ?_
      refine St.getS h rfl rfl rfl (G.nilc rfl rfl) fun a h => ?_
      refine St.guardS_yes h rfl rfl rfl rfl rfl ?_
      refine St.getS h rfl rfl rfl (G.fadr 0 rfl rfl Try.underlying33 rfl rfl Try.sizeOf30) fun a h => ?_
      refine St.guardS_yes h rfl rfl rfl rfl rfl ?_
      refine St.getS h rfl rfl rfl (G.ld 1 0 rfl rfl rfl rfl rfl Try.isAgg30) fun a h => ?_
      refine St.guardS_yes h rfl rfl rfl rfl rfl ?_
      refine St.getS h rfl rfl rfl (G.move rfl rfl) fun a h => ?_
      refine St.guardS_yes h rfl rfl rfl rfl rfl ?_
      refine St.getS h rfl rfl rfl (G.idxo _ 2 rfl rfl rfl rfl (by omega) (by omega) (by omega) Try.underlying30 Try.sizeOf91) fun a h => ?_
      refine St.guardS_yes h rfl rfl rfl rfl rfl ?_
      refine St.getS h rfl rfl rfl (G.ldoa _ 2 rfl (by assumption) rfl rfl rfl rfl Try.isAgg91 Try.sizeOf91) fun a h => ?_
      replace h := h.conv (sl' := (_, .agg #[_, _, _]) :: _) (L' := _) rfl rfl
      refine St.guardS_yes h rfl rfl rfl rfl rfl ?_
      refine St.getS h rfl rfl rfl (G.fadr 1 rfl rfl Try.underlying80 rfl rfl Try.sizeOf3) fun a h => ?_
      refine St.guardS_yes h rfl rfl rfl rfl rfl ?_
      refine St.getS h rfl rfl rfl (G.ld 0 1 rfl rfl rfl rfl rfl Try.isAgg3) fun a h => ?_
      refine St.guardS_yes h rfl rfl rfl rfl rfl ?_
      refine St.getS h rfl rfl rfl (G.fadr 2 rfl rfl Try.underlying80 rfl rfl Try.sizeOf22) fun a h => ?_
      refine St.guardS_yes h rfl rfl rfl rfl rfl ?_
      refine St.getS h rfl rfl rfl (G.ld 0 2 rfl rfl rfl rfl rfl Try.isAgg22) fun a h => ?_
      refine St.guardS_yes h rfl rfl rfl rfl rfl ?_
      refine St.getS h rfl rfl rfl (G.build [(0, 1), (1, 1), (2, 1)] rfl rfl Try.zeroValue91 Try.underlying91 ⟨rfl, Try.sizeOf3, rfl, Try.sizeOf22, rfl, Try.sizeOf3, trivial⟩ rfl) fun a h => ?_
      replace h := h.conv (sl' := (_, .agg #[.int _ _, .int _ _, .int _ _]) :: _) (L' := _) rfl rfl
      refine St.guardS_yes h rfl rfl rfl rfl rfl ?_
      refine St.getPS h rfl rfl rfl (G.bin rfl rfl rfl (B.eqs3 Try.eqGuardType91 Try.stoodInHeld91 Try.underlying91 rfl rfl rfl rfl rfl rfl Try.underlying3 Try.underlying22 Try.underlying3 Try.isAgg3 Try.isAgg22 Try.isAgg3 Try.sizeOf3 Try.sizeOf22 Try.sizeOf3)) (fun hc2 a h => ?_) (fun hc2 a h => ?_)
      refine St.getS h rfl rfl rfl (G.pickT rfl rfl rfl) fun a h => ?_
      refine St.getS h rfl rfl rfl (G.assign rfl rfl) fun a h => ?_
      refine wps_nil ?_
      refine X.thenN ?_
      refine St.condT h rfl ?_
      refine C.region ?_
      refine St.get h rfl rfl rfl (G.move rfl rfl) fun a h => ?_
      refine St.get h rfl rfl rfl (G.bin rfl rfl rfl (B.addi (by omega) (by omega))) fun a h => ?_
      refine St.get h rfl rfl rfl (G.assign rfl rfl) fun a h => ?_
      refine wpl_nil ?_
      refine X.blkN ?_
      refine X.blkN ?_
      refine X.thenN ?_
      refine C.region ?_
      refine St.get h rfl rfl rfl (G.bin rfl rfl rfl (B.addi (by omega) (by omega))) fun a h => ?_
      refine St.get h rfl rfl rfl (G.move rfl rfl) fun a h => ?_
      refine wpl_nil ?_
      refine X.thenN ?_
      rotate_left
      refine St.getS h rfl rfl rfl (G.pickT rfl rfl rfl) fun a h => ?_
      refine St.getS h rfl rfl rfl (G.assign rfl rfl) fun a h => ?_
      refine wps_nil ?_
      refine X.thenN ?_
      refine St.condF h rfl ?_
      refine C.seq ?_
      refine C.region ?_
      refine St.get h rfl rfl rfl (G.assign rfl rfl) fun a h => ?_
      refine wpl_nil ?_
      refine X.thenN ?_
      refine C.ret ?_
      refine X.blkR ?_
      refine X.blkR ?_
      refine X.thenR ?_
      refine X.thenR ?_
      refine X.blkR ?_
      refine X.thenR ?_
      rotate_left
      refine St.getS h rfl rfl rfl (G.move rfl rfl) fun a h => ?_
      refine St.guardS_no h rfl rfl rfl rfl rfl (by decide) rfl rfl fun a h => ?_
      refine St.guardS_no h rfl rfl rfl rfl rfl (by decide) rfl rfl fun a h => ?_
      refine St.guardS_no h rfl rfl rfl rfl rfl (by decide) rfl rfl fun a h => ?_
      refine St.guardS_no h rfl rfl rfl rfl rfl (by decide) rfl rfl fun a h => ?_
      refine St.guardS_no h rfl rfl rfl rfl rfl (by decide) rfl rfl fun a h => ?_
      refine St.guardS_no h rfl rfl rfl rfl rfl (by decide) rfl rfl fun a h => ?_
      refine St.guardS_no h rfl rfl rfl rfl rfl (by decide) rfl rfl fun a h => ?_
      refine St.getS h rfl rfl rfl (G.pickF rfl rfl rfl) fun a h => ?_
      refine St.getS h rfl rfl rfl (G.move rfl rfl) fun a h => ?_
      refine St.guardS_no h rfl rfl rfl rfl rfl (by decide) rfl rfl fun a h => ?_
      refine St.guardS_no h rfl rfl rfl rfl rfl (by decide) rfl rfl fun a h => ?_
      refine St.guardS_no h rfl rfl rfl rfl rfl (by decide) rfl rfl fun a h => ?_
      refine St.guardS_no h rfl rfl rfl rfl rfl (by decide) rfl rfl fun a h => ?_
      refine St.guardS_no h rfl rfl rfl rfl rfl (by decide) rfl rfl fun a h => ?_
      refine St.guardS_no h rfl rfl rfl rfl rfl (by decide) rfl rfl fun a h => ?_
      refine St.guardS_no h rfl rfl rfl rfl rfl (by decide) rfl rfl fun a h => ?_
      refine St.guardS_no h rfl rfl rfl rfl rfl (by decide) rfl rfl fun a h => ?_
      refine St.guardS_no h rfl rfl rfl rfl rfl (by decide) rfl rfl fun a h => ?_
      refine St.guardS_no h rfl rfl rfl rfl rfl (by decide) rfl rfl fun a h => ?_
      refine St.guardS_no h rfl rfl rfl rfl rfl (by decide) rfl rfl fun a h => ?_
      refine St.guardS_no h rfl rfl rfl rfl rfl (by decide) rfl rfl fun a h => ?_
      refine St.guardS_no h rfl rfl rfl rfl rfl (by decide) rfl rfl fun a h => ?_
      refine St.getS h rfl rfl rfl (G.pickF rfl rfl rfl) fun a h => ?_
      refine St.getS h rfl rfl rfl (G.assign rfl rfl) fun a h => ?_
      refine wps_nil ?_
      refine X.thenN ?_
      refine St.condF h rfl ?_
      refine C.seq ?_
      refine C.region ?_
      refine St.get h rfl rfl rfl (G.assign rfl rfl) fun a h => ?_
      refine wpl_nil ?_
      refine X.thenN ?_
      refine C.ret ?_
      refine X.blkR ?_
      refine X.blkR ?_
      refine X.thenR ?_
      refine X.thenR ?_
      refine X.blkR ?_
      refine X.thenR ?_
      rotate_left
      · rw [rightG, if_pos ⟨hc, hc1⟩, ← hdy] at hf
        replace h := h.sel [1, 2, 3, 4, 5] rfl
        replace h := h.conv (sl' := _) (L' := [cells _ _ [_, _, _], _, _, _, _]) rfl rfl
        exact ⟨m - 1, by omega, i + 1, k, by omega, by omega, hf, h.sub ⟨rfl, rfl, rfl, rfl, rfl, rfl, trivial⟩⟩
      · rw [rightG, if_neg (by omega), if_neg (by omega)] at hf
        replace h := h.fold [1, 2, 3, 4] rfl ((QAt_mk gi ci gw cw ws hw))
        replace h := h.conv (sl' := _) (L' := [_, cells _ _ [_, _, _], _]) rfl rfl
        replace h := h.sel [0] rfl
        replace h := h.conv (sl' := _) (L' := [_]) rfl rfl
        exact h.ret1 Try.results80 rfl (Ent.refl _) (⟨by rw [rightQ, hf]; rfl, rfl⟩)
      · rw [rightG, if_neg (by omega), if_pos hc1] at hf
        simp only [if_pos hc2] at hf
        replace h := h.sel [1, 2, 3, 4, 5] rfl
        replace h := h.conv (sl' := _) (L' := [cells _ _ [_, _, _], _, _, _, _]) rfl rfl
        exact ⟨m - 1, by omega, i + 1, k + 1, by omega, by omega, hf, h.sub ⟨rfl, rfl, rfl, rfl, rfl, rfl, trivial⟩⟩
      · rw [rightG, if_neg (by omega), if_pos hc1] at hf
        simp only [if_neg hc2] at hf
        replace h := h.fold [1, 2, 3, 4] rfl ((QAt_mk gi ci gw cw ws hw))
        replace h := h.conv (sl' := _) (L' := [_, cells _ _ [_, _, _], _]) rfl rfl
        replace h := h.sel [0] rfl
        replace h := h.conv (sl' := _) (L' := [_]) rfl rfl
        exact h.ret1 Try.results80 rfl (Ent.refl _) (⟨by rw [rightQ, hf]; rfl, rfl⟩)
      · rw [rightG, if_neg (by omega), if_neg (by omega)] at hf
        replace h := h.fold [1, 2, 3, 4] rfl ((QAt_mk gi ci gw cw ws hw))
        replace h := h.conv (sl' := _) (L' := [_, cells _ _ [_, _, _], _]) rfl rfl
        replace h := h.sel [0] rfl
        replace h := h.conv (sl' := _) (L' := [_]) rfl rfl
        exact h.ret1 Try.results80 rfl (Ent.refl _) (⟨by rw [rightQ, hf]; rfl, rfl⟩)
    · have hnil : q.items.drop k = [] := List.drop_eq_nil_of_le (by omega)
      rw [hdx, hnil] at hf
      refine C.seq ?_
      refine C.region ?_
      refine St.get h rfl rfl rfl (G.bin rfl rfl rfl (B.lssT (by omega))) fun a h => ?_
      refine wpl_nil ?_
      refine X.thenN ?_
      refine C.seq ?_
      refine St.condT h rfl ?_
      refine C.skip ?_
      refine X.thenN ?_
      refine C.seq ?_
      refine C.block ?_
      refine C.seq ?_
      refine C.region ?_
      refine St.get h rfl rfl rfl (G.idxr _ 4 rfl rfl rfl rfl (by omega) (by omega) (by omega) Try.underlying23 Try.sizeOf80) fun a h => ?_
      refine St.get h rfl rfl rfl (G.ldea _ 4 rfl (by assumption) rfl rfl rfl rfl Try.isAgg80 Try.sizeOf80) fun a h => ?_
      replace h := h.conv (sl' := (_, .agg #[_, _, _]) :: _) (L' := _) rfl rfl
      refine St.alloc h Try.zeroValue80 rfl rfl rfl rfl fun b1 a w h => ?_
      replace h := h.conv (sl' := _) (L' := [cells _ _ [_, _, _], cells _ _ [_, _, _], _, _, _, _]) rfl rfl
      refine St.put h rfl rfl (U.sta 0 0 rfl rfl rfl rfl rfl rfl (by simp [Value.oneCell']) Try.sizeOf80 rfl) fun a w h => ?_
      replace h := h.conv (sl' := _) (L' := [cells _ _ [_, _, _], cells _ _ [_, _, _], _, _, _, _]) rfl rfl
      refine wpl_nil ?_
      refine X.thenN ?_
      refine C.block ?_
      refine C.seq ?_
      refine C.region ?_
      refine St.get h rfl rfl rfl (G.fadr 0 rfl rfl Try.underlying80 rfl rfl Try.sizeOf3) fun a h => ?_
      refine St.get h rfl rfl rfl (G.ld 0 0 rfl rfl rfl rfl rfl Try.isAgg3) fun a h => ?_
      refine St.getP h rfl rfl rfl (G.bin rfl rfl rfl B.eql) (fun hc a h => ?_) (fun hc a h => ?_)
      refine St.get h rfl rfl rfl (G.move rfl rfl) fun a h => ?_
      refine St.guard_yes h rfl rfl rfl rfl rfl ?_
      refine St.get h rfl rfl rfl (G.fadr 1 rfl rfl Try.underlying80 rfl rfl Try.sizeOf3) fun a h => ?_
      refine St.guard_yes h rfl rfl rfl rfl rfl ?_
      refine St.get h rfl rfl rfl (G.ld 0 1 rfl rfl rfl rfl rfl Try.isAgg3) fun a h => ?_
      refine St.guard_yes h rfl rfl rfl rfl rfl ?_
      refine St.getP h rfl rfl rfl (G.bin rfl rfl rfl B.eql) (fun hc1 a h => ?_) (fun hc1 a h => ?_)
      refine St.get h rfl rfl rfl (G.pickT rfl rfl rfl) fun a h => ?_
      refine St.get h rfl rfl rfl (G.assign rfl rfl) fun a h => ?_
      refine wpl_nil ?_
      refine X.thenN ?_
      refine St.condT h rfl ?_
      refine C.skip ?_
      refine X.blkN ?_
      refine X.blkN ?_
      refine X.thenN ?_
      refine C.region ?_
      refine St.get h rfl rfl rfl (G.bin rfl rfl rfl (B.addi (by omega) (by omega))) fun a h => ?_
      refine St.get h rfl rfl rfl (G.move rfl rfl) fun a h => ?_
      refine wpl_nil ?_
      refine X.thenN ?_
      rotate_left
      refine St.get h rfl rfl rfl (G.pickT rfl rfl rfl) fun a h => ?_
      refine St.get h rfl rfl rfl (G.assign rfl rfl) fun a h => ?_
      refine wpl_nil ?_
      refine X.thenN ?_
      refine St.condF h rfl ?_
      refine C.seq ?_
      refine C.still Try_mixed h (by decide +kernel) fun w h => ?_
      refine St.getS h rfl rfl rfl (G.fadr 0 rfl rfl Try.underlying80 rfl rfl Try.sizeOf3) fun a h => ?_
      refine St.getS h rfl rfl rfl (G.ld 0 0 rfl rfl rfl rfl rfl Try.isAgg3) fun a h => ?_
      refine St.getS h rfl rfl rfl (G.bin rfl rfl rfl (B.eqlF (by omega))) fun a h => ?_
      refine St.getS h rfl rfl rfl (G.move rfl rfl) fun a h => ?_
      refine St.guardS_no h rfl rfl rfl rfl rfl (by decide) rfl rfl fun a h => ?_
      refine St.guardS_no h rfl rfl rfl rfl rfl (by decide) rfl rfl fun a h => ?_
      refine St.guardS_no h rfl rfl rfl rfl rfl (by decide) rfl rfl fun a h => ?_
      refine St.guardS_no h rfl rfl rfl rfl rfl (by decide) rfl rfl fun a h => ?_
      refine St.guardS_no h rfl rfl rfl rfl rfl (by decide) rfl rfl fun a h => ?_
      refine St.guardS_no h rfl rfl rfl rfl rfl (by decide) rfl rfl fun a h => ?_
      refine St.guardS_no h rfl rfl rfl rfl rfl (by decide) rfl rfl fun a h => ?_
      refine St.getS h rfl rfl rfl (G.pickF rfl rfl rfl) fun a h => ?_
      refine St.getS h rfl rfl rfl (G.move rfl rfl) fun a h => ?_
      refine St.guardS_no h rfl rfl rfl rfl rfl (by decide) rfl rfl fun a h => ?_
      refine St.guardS_no h rfl rfl rfl rfl rfl (by decide) rfl rfl fun a h => ?_
      refine St.guardS_no h rfl rfl rfl rfl rfl (by decide) rfl rfl fun a h => ?_
      refine St.guardS_no h rfl rfl rfl rfl rfl (by decide) rfl rfl fun a h => ?_
      refine St.guardS_no h rfl rfl rfl rfl rfl (by decide) rfl rfl fun a h => ?_
      refine St.guardS_no h rfl rfl rfl rfl rfl (by decide) rfl rfl fun a h => ?_
      refine St.guardS_no h rfl rfl rfl rfl rfl (by decide) rfl rfl fun a h => ?_
      refine St.guardS_no h rfl rfl rfl rfl rfl (by decide) rfl rfl fun a h => ?_
      refine St.guardS_no h rfl rfl rfl rfl rfl (by decide) rfl rfl fun a h => ?_
      refine St.guardS_no h rfl rfl rfl rfl rfl (by decide) rfl rfl fun a h => ?_
      refine St.guardS_no h rfl rfl rfl rfl rfl (by decide) rfl rfl fun a h => ?_
      refine St.guardS_no h rfl rfl rfl rfl rfl (by decide) rfl rfl fun a h => ?_
      refine St.guardS_no h rfl rfl rfl rfl rfl (by decide) rfl rfl fun a h => ?_
      refine St.getS h rfl rfl rfl (G.pickF rfl rfl rfl) fun a h => ?_
      refine St.getS h rfl rfl rfl (G.assign rfl rfl) fun a h => ?_
      refine wps_nil ?_
      refine X.thenN ?_
      refine St.condF h rfl ?_
      refine C.seq ?_
      refine C.region ?_
      refine St.get h rfl rfl rfl (G.assign rfl rfl) fun a h => ?_
      refine wpl_nil ?_
      refine X.thenN ?_
      refine C.ret ?_
      refine X.blkR ?_
      refine X.blkR ?_
      refine X.thenR ?_
      refine X.thenR ?_
      refine X.blkR ?_
      refine X.thenR ?_
      rotate_left
      refine St.get h rfl rfl rfl (G.move rfl rfl) fun a h => ?_
      refine St.guard_no h rfl rfl rfl rfl rfl (by decide) rfl rfl fun a h => ?_
      refine St.guard_no h rfl rfl rfl rfl rfl (by decide) rfl rfl fun a h => ?_
      refine St.guard_no h rfl rfl rfl rfl rfl (by decide) rfl rfl fun a h => ?_
      refine St.get h rfl rfl rfl (G.pickF rfl rfl rfl) fun a h => ?_
      refine St.get h rfl rfl rfl (G.assign rfl rfl) fun a h => ?_
      refine wpl_nil ?_
      refine X.thenN ?_
      refine St.condF h rfl ?_
      refine C.seq ?_
      refine C.still Try_mixed h (by decide +kernel) fun w h => ?_
      refine St.getS h rfl rfl rfl (G.fadr 0 rfl rfl Try.underlying80 rfl rfl Try.sizeOf3) fun a h => ?_
      refine St.getS h rfl rfl rfl (G.ld 0 0 rfl rfl rfl rfl rfl Try.isAgg3) fun a h => ?_
      refine St.getPS h rfl rfl rfl (G.bin rfl rfl rfl B.eql) (fun hc1 a h => ?_) (fun hc1 a h => ?_)
      refine St.getS h rfl rfl rfl (G.move rfl rfl) fun a h => ?_
      refine St.guardS_yes h rfl rfl rfl rfl rfl ?_
      refine St.getS h rfl rfl rfl (G.move rfl rfl) fun a h => ?_
      refine St.guardS_yes h rfl rfl rfl rfl rfl ?_
      refine St.getS h rfl rfl rfl (G.move rfl rfl) fun a h => ?_
      refine St.guardS_yes h rfl rfl rfl rfl rfl ?_
      refine St.getS h rfl rfl rfl (G.nilc rfl rfl) fun a h => ?_
      refine St.guardS_yes h rfl rfl rfl rfl rfl ?_
      refine St.getS h rfl rfl rfl (G.fadr 0 rfl rfl Try.underlying33 rfl rfl Try.sizeOf30) fun a h => ?_
      refine St.guardS_yes h rfl rfl rfl rfl rfl ?_
      refine St.getS h rfl rfl rfl (G.ld 1 0 rfl rfl rfl rfl rfl Try.isAgg30) fun a h => ?_
      refine St.guardS_yes h rfl rfl rfl rfl rfl ?_
      refine St.getS h rfl rfl rfl (G.lens rfl rfl Try.underlying30) fun a h => ?_
      refine St.guardS_yes h rfl rfl rfl rfl rfl ?_
      refine St.getS h rfl rfl rfl (G.bin rfl rfl rfl (B.lssF (by omega))) fun a h => ?_
      refine St.getS h rfl rfl rfl (G.pickT rfl rfl rfl) fun a h => ?_
      refine St.getS h rfl rfl rfl (G.move rfl rfl) fun a h => ?_
      refine St.guardS_no h rfl rfl rfl rfl rfl (by decide) rfl rfl fun a h => ?_
      refine St.guardS_no h rfl rfl rfl rfl rfl (by decide) rfl rfl fun a h => ?_
      refine St.guardS_no h rfl rfl rfl rfl rfl (by decide) rfl rfl fun a h => ?_
      refine St.guardS_no h rfl rfl rfl rfl rfl (by decide) rfl rfl fun a h => ?_
      refine St.guardS_no h rfl rfl rfl rfl rfl (by decide) rfl rfl fun a h => ?_
      refine St.guardS_no h rfl rfl rfl rfl rfl (by decide) rfl rfl fun a h => ?_
      refine St.guardS_no h rfl rfl rfl rfl rfl (by decide) rfl rfl fun a h => ?_
      refine St.guardS_no h rfl rfl rfl rfl rfl (by decide) rfl rfl fun a h => ?_
      refine St.guardS_no h rfl rfl rfl rfl rfl (by decide) rfl rfl fun a h => ?_
      refine St.guardS_no h rfl rfl rfl rfl rfl (by decide) rfl rfl fun a h => ?_
      refine St.guardS_no h rfl rfl rfl rfl rfl (by decide) rfl rfl fun a h => ?_
      refine St.guardS_no h rfl rfl rfl rfl rfl (by decide) rfl rfl fun a h => ?_
      refine St.guardS_no h rfl rfl rfl rfl rfl (by decide) rfl rfl fun a h => ?_
      refine St.getS h rfl rfl rfl (G.pickF rfl rfl rfl) fun a h => ?_
      refine St.getS h rfl rfl rfl (G.assign rfl rfl) fun a h => ?_
      refine wps_nil ?_
      refine X.thenN ?_
      refine St.condF h rfl ?_
      refine C.seq ?_
      refine C.region ?_
      refine St.get h rfl rfl rfl (G.assign rfl rfl) fun a h => ?_
      refine wpl_nil ?_
      refine X.thenN ?_
      refine C.ret ?_
      refine X.blkR ?_
      refine X.blkR ?_
      refine X.thenR ?_
      refine X.thenR ?_
      refine X.blkR ?_
      refine X.thenR ?_
      rotate_left
      refine St.getS h rfl rfl rfl (G.move rfl rfl) fun a h => ?_
      refine St.guardS_no h rfl rfl rfl rfl rfl (by decide) rfl rfl fun a h => ?_
      refine St.guardS_no h rfl rfl rfl rfl rfl (by decide) rfl rfl fun a h => ?_
      refine St.guardS_no h rfl rfl rfl rfl rfl (by decide) rfl rfl fun a h => ?_
      refine St.guardS_no h rfl rfl rfl rfl rfl (by decide) rfl rfl fun a h => ?_
      refine St.guardS_no h rfl rfl rfl rfl rfl (by decide) rfl rfl fun a h => ?_
      refine St.guardS_no h rfl rfl rfl rfl rfl (by decide) rfl rfl fun a h => ?_
      refine St.guardS_no h rfl rfl rfl rfl rfl (by decide) rfl rfl fun a h => ?_
      refine St.getS h rfl rfl rfl (G.pickF rfl rfl rfl) fun a h => ?_
      refine St.getS h rfl rfl rfl (G.move rfl rfl) fun a h => ?_
      refine St.guardS_no h rfl rfl rfl rfl rfl (by decide) rfl rfl fun a h => ?_
      refine St.guardS_no h rfl rfl rfl rfl rfl (by decide) rfl rfl fun a h => ?_
      refine St.guardS_no h rfl rfl rfl rfl rfl (by decide) rfl rfl fun a h => ?_
      refine St.guardS_no h rfl rfl rfl rfl rfl (by decide) rfl rfl fun a h => ?_
      refine St.guardS_no h rfl rfl rfl rfl rfl (by decide) rfl rfl fun a h => ?_
      refine St.guardS_no h rfl rfl rfl rfl rfl (by decide) rfl rfl fun a h => ?_
      refine St.guardS_no h rfl rfl rfl rfl rfl (by decide) rfl rfl fun a h => ?_
      refine St.guardS_no h rfl rfl rfl rfl rfl (by decide) rfl rfl fun a h => ?_
      refine St.guardS_no h rfl rfl rfl rfl rfl (by decide) rfl rfl fun a h => ?_
      refine St.guardS_no h rfl rfl rfl rfl rfl (by decide) rfl rfl fun a h => ?_
      refine St.guardS_no h rfl rfl rfl rfl rfl (by decide) rfl rfl fun a h => ?_
      refine St.guardS_no h rfl rfl rfl rfl rfl (by decide) rfl rfl fun a h => ?_
      refine St.guardS_no h rfl rfl rfl rfl rfl (by decide) rfl rfl fun a h => ?_
      refine St.getS h rfl rfl rfl (G.pickF rfl rfl rfl) fun a h => ?_
      refine St.getS h rfl rfl rfl (G.assign rfl rfl) fun a h => ?_
      refine wps_nil ?_
      refine X.thenN ?_
      refine St.condF h rfl ?_
      refine C.seq ?_
      refine C.region ?_
      refine St.get h rfl rfl rfl (G.assign rfl rfl) fun a h => ?_
      refine wpl_nil ?_
      refine X.thenN ?_
      refine C.ret ?_
      refine X.blkR ?_
      refine X.blkR ?_
      refine X.thenR ?_
      refine X.thenR ?_
      refine X.blkR ?_
      refine X.thenR ?_
      rotate_left
      · rw [rightG, if_pos ⟨hc, hc1⟩] at hf
        replace h := h.sel [1, 2, 3, 4, 5] rfl
        replace h := h.conv (sl' := _) (L' := [cells _ _ [_, _, _], _, _, _, _]) rfl rfl
        exact ⟨m - 1, by omega, i + 1, k, by omega, by omega, by rw [hf, hnil], h.sub ⟨rfl, rfl, rfl, rfl, rfl, rfl, trivial⟩⟩
      all_goals
        have hf' : rightG l q.items = false := by
          rw [hf, rightG, if_neg (by omega)]
          split <;> rfl
        replace h := h.fold [1, 2, 3, 4] rfl ((QAt_mk gi ci gw cw ws hw))
        replace h := h.conv (sl' := _) (L' := [_, cells _ _ [_, _, _], _]) rfl rfl
        replace h := h.sel [0] rfl
        replace h := h.conv (sl' := _) (L' := [_]) rfl rfl
        exact h.ret1 Try.results80 rfl (Ent.refl _) (⟨by rw [rightQ, hf']; rfl, rfl⟩)
  · rw [List.drop_eq_nil_of_le (by omega)] at hf
    have hf' : rightG l q.items = true := hf
    refine C.seq ?_
    refine C.region ?_
    refine St.get h rfl rfl rfl (G.bin rfl rfl rfl (B.lssF (by omega))) fun a h => ?_
    refine wpl_nil ?_
    refine X.thenN ?_
    refine C.seq ?_
    refine St.condF h rfl ?_
    refine C.exit ?_
    refine X.thenE ?_
    refine X.thenE ?_
    refine X.blkE ?_
    refine X.thenN ?_
    refine C.seq ?_
    refine C.region ?_
    refine St.get h rfl rfl rfl (G.move rfl rfl) fun a h => ?_
    refine St.callD h [] rfl (Ro.cons 4 rfl (rdl_ro _ _ _) (Ro.nil _)) ((puts_spec g c l)) rfl rfl rfl Try.call97 rfl rfl fun a w h => ?_
    replace h := h.conv (sl' := _) (L' := [cells _ _ [_, _, _], _, _, _, _]) rfl rfl
    replace h := h.fold [0, 1, 2, 3] rfl ((QAt_mk gi ci gw cw ws hw))
    replace h := h.conv (sl' := _) (L' := [_, _]) rfl rfl
    refine St.get h rfl rfl rfl (G.move rfl rfl) fun a h => ?_
    refine St.callD h [0] rfl (Ro.nil _) ((room_spec b o q hq)) rfl rfl rfl Try.call72 rfl rfl fun a w h => ?_
    replace h := h.conv (sl' := _) (L' := [_, _]) rfl rfl
    refine St.get h rfl rfl rfl (G.blt rfl rfl B.max) fun a h => ?_
    refine St.getP h rfl rfl rfl (G.bin rfl rfl rfl B.leq) (fun hc a h => ?_) (fun hc a h => ?_)
    refine St.get h rfl rfl rfl (G.assign rfl rfl) fun a h => ?_
    refine wpl_nil ?_
    refine X.thenN ?_
    refine C.ret ?_
    rotate_left
    refine St.get h rfl rfl rfl (G.assign rfl rfl) fun a h => ?_
    refine wpl_nil ?_
    refine X.thenN ?_
    refine C.ret ?_
    rotate_left
    · replace h := h.sel [0] rfl
      replace h := h.conv (sl' := _) (L' := [_]) rfl rfl
      exact h.ret1 Try.results80 rfl (Ent.refl _) (⟨by rw [rightQ, hf', Bool.true_and, decide_eq_true (by split at hc <;> omega)], rfl⟩)
    · replace h := h.sel [0] rfl
      replace h := h.conv (sl' := _) (L' := [_]) rfl rfl
      exact h.ret1 Try.results80 rfl (Ent.refl _) (⟨by rw [rightQ, hf', Bool.true_and, decide_eq_false (by split at hc <;> omega)], rfl⟩)
end Go.Proofs.Ytllhegccpknncaa
