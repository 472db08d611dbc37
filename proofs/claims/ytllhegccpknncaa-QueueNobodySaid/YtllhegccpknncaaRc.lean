/-
  The document's queue: Load, Right, Restore.
-/
import Derived.Test.YtllhegccpknncaaRb
import Derived.Test.YtllhegccpknncaaSeat
set_option linter.unusedVariables false
set_option linter.unusedSimpArgs false
set_option linter.unusedSectionVars false
set_option maxRecDepth 8000
namespace Go.Proofs.Ytllhegccpknncaa
open Go.Tr

theorem LoadR_spec (b o : Nat) (q : RM) (hq : q.Good) (g : Option Addr) (c : Nat) (vals : List Int) (next : Int) (hn0 : -9223372036854775808 ≤ next) : Meets Try.prog 50 #[.pointer (some ⟨b, o, none⟩), rlv g vals.length c, .int .i64 next] [RAt b o q, rdl encU64 g vals]
    (Det (.int .i64 (loadR q vals next).1) [RAt b o (loadR q vals next).2]) := by
  refine Meets.of_code Try.func50 rfl Try.ntmps50 rfl fun w0 S R a h => ?_
  have hlen : vals.length ≤ 9223372036854775807 := by have := h.tell1 1 rfl fun _ _ _ => rdl_len; simpa using this
  obtain ⟨gi, ci, gw, cw, ws, hw, h⟩ := h.openR 0 rfl
  have hwl : ws.length = q.works.length := by rw [← hw]; simp
  have h1 := hq.items
  have h2 := hq.works
  replace h := h.conv (sl' := _) (L' := [cells _ _ [_, _, _], _, _, _, _]) rfl rfl
  refine C.seq ?_
  refine C.region ?_
  refine St.get h rfl rfl rfl (G.assign rfl rfl) fun a h => ?_
  refine wpl_nil ?_
  refine X.thenN ?_
  refine C.seq ?_
  refine C.seq ?_
  refine C.region ?_
  refine St.get h rfl rfl rfl (G.move rfl rfl) fun a h => ?_
  refine St.get h rfl rfl rfl (G.nilc rfl rfl) fun a h => ?_
  refine St.get h rfl rfl rfl (G.fadr 0 rfl rfl Try.underlying42 rfl rfl Try.sizeOf39) fun a h => ?_
  refine St.get h rfl rfl rfl (G.ld 0 0 rfl rfl rfl rfl rfl Try.isAgg39) fun a h => ?_
  refine St.get h rfl rfl rfl (G.lens rfl rfl Try.underlying39) fun a h => ?_
  refine St.getP h rfl rfl rfl (G.bin rfl rfl rfl B.gtr) (fun hc a h => ?_) (fun hc a h => ?_)
  refine St.get h rfl rfl rfl (G.move rfl rfl) fun a h => ?_
  refine St.guard_no h rfl rfl rfl rfl rfl (by decide) rfl rfl fun a h => ?_
  refine St.guard_no h rfl rfl rfl rfl rfl (by decide) rfl rfl fun a h => ?_
  refine St.guard_no h rfl rfl rfl rfl rfl (by decide) rfl rfl fun a h => ?_
  refine St.guard_no h rfl rfl rfl rfl rfl (by decide) rfl rfl fun a h => ?_
  refine St.guard_no h rfl rfl rfl rfl rfl (by decide) rfl rfl fun a h => ?_
  refine St.guard_no h rfl rfl rfl rfl rfl (by decide) rfl rfl fun a h => ?_
  refine St.get h rfl rfl rfl (G.pickT rfl rfl rfl) fun a h => ?_
  refine wpl_nil ?_
  refine X.thenN ?_
  refine St.condT h rfl ?_
  refine C.seq ?_
  refine C.region ?_
  refine St.get h rfl rfl rfl (G.assign rfl rfl) fun a h => ?_
  refine wpl_nil ?_
  refine X.thenN ?_
  refine C.ret ?_
  refine X.thenR ?_
  rotate_left
  refine St.get h rfl rfl rfl (G.move rfl rfl) fun a h => ?_
  refine St.guard_yes h rfl rfl rfl rfl rfl ?_
  refine St.get h rfl rfl rfl (G.move rfl rfl) fun a h => ?_
  refine St.guard_yes h rfl rfl rfl rfl rfl ?_
  refine St.get h rfl rfl rfl (G.nilc rfl rfl) fun a h => ?_
  refine St.guard_yes h rfl rfl rfl rfl rfl ?_
  refine St.get h rfl rfl rfl (G.fadr 1 rfl rfl Try.underlying42 rfl rfl Try.sizeOf40) fun a h => ?_
  refine St.guard_yes h rfl rfl rfl rfl rfl ?_
  refine St.get h rfl rfl rfl (G.ld 0 1 rfl rfl rfl rfl rfl Try.isAgg40) fun a h => ?_
  refine St.guard_yes h rfl rfl rfl rfl rfl ?_
  refine St.get h rfl rfl rfl (G.lens rfl rfl Try.underlying40) fun a h => ?_
  refine St.guard_yes h rfl rfl rfl rfl rfl ?_
  refine St.getP h rfl rfl rfl (G.bin rfl rfl rfl B.gtr) (fun hc1 a h => ?_) (fun hc1 a h => ?_)
  refine St.get h rfl rfl rfl (G.pickF rfl rfl rfl) fun a h => ?_
  refine wpl_nil ?_
  refine X.thenN ?_
  refine St.condT h rfl ?_
  refine C.seq ?_
  refine C.region ?_
  refine St.get h rfl rfl rfl (G.assign rfl rfl) fun a h => ?_
  refine wpl_nil ?_
  refine X.thenN ?_
  refine C.ret ?_
  refine X.thenR ?_
  rotate_left
  refine St.get h rfl rfl rfl (G.pickF rfl rfl rfl) fun a h => ?_
  refine wpl_nil ?_
  refine X.thenN ?_
  refine St.condF h rfl ?_
  refine C.skip ?_
  refine X.thenN ?_
  refine C.seq ?_
  refine C.seq ?_
  refine C.region ?_
  refine St.get h rfl rfl rfl (G.move rfl rfl) fun a h => ?_
  refine St.get h rfl rfl rfl (G.lens rfl rfl Try.underlying24) fun a h => ?_
  refine St.getP h rfl rfl rfl (G.bin rfl rfl rfl B.gtr) (fun hc2 a h => ?_) (fun hc2 a h => ?_)
  refine St.get h rfl rfl rfl (G.move rfl rfl) fun a h => ?_
  refine St.guard_no h rfl rfl rfl rfl rfl (by decide) rfl rfl fun a h => ?_
  refine St.guard_no h rfl rfl rfl rfl rfl (by decide) rfl rfl fun a h => ?_
  refine St.guard_no h rfl rfl rfl rfl rfl (by decide) rfl rfl fun a h => ?_
  refine St.guard_no h rfl rfl rfl rfl rfl (by decide) rfl rfl fun a h => ?_
  refine St.get h rfl rfl rfl (G.pickT rfl rfl rfl) fun a h => ?_
  refine St.get h rfl rfl rfl (G.move rfl rfl) fun a h => ?_
  refine St.guard_no h rfl rfl rfl rfl rfl (by decide) rfl rfl fun a h => ?_
  refine St.guard_no h rfl rfl rfl rfl rfl (by decide) rfl rfl fun a h => ?_
  refine St.get h rfl rfl rfl (G.pickT rfl rfl rfl) fun a h => ?_
  refine wpl_nil ?_
  refine X.thenN ?_
  refine St.condT h rfl ?_
  refine C.seq ?_
  refine C.region ?_
  refine St.get h rfl rfl rfl (G.assign rfl rfl) fun a h => ?_
  refine wpl_nil ?_
  refine X.thenN ?_
  refine C.ret ?_
  refine X.thenR ?_
  rotate_left
  refine St.get h rfl rfl rfl (G.move rfl rfl) fun a h => ?_
  refine St.guard_yes h rfl rfl rfl rfl rfl ?_
  refine St.get h rfl rfl rfl (G.move rfl rfl) fun a h => ?_
  refine St.guard_yes h rfl rfl rfl rfl rfl ?_
  refine St.get h rfl rfl rfl (G.move rfl rfl) fun a h => ?_
  refine St.guard_yes h rfl rfl rfl rfl rfl ?_
  refine St.get h rfl rfl rfl (G.lens rfl rfl Try.underlying24) fun a h => ?_
  refine St.guard_yes h rfl rfl rfl rfl rfl ?_
  refine St.getP h rfl rfl rfl (G.bin rfl rfl rfl B.leq) (fun hc3 a h => ?_) (fun hc3 a h => ?_)
  refine St.get h rfl rfl rfl (G.pickF rfl rfl rfl) fun a h => ?_
  refine St.get h rfl rfl rfl (G.move rfl rfl) fun a h => ?_
  refine St.guard_no h rfl rfl rfl rfl rfl (by decide) rfl rfl fun a h => ?_
  refine St.guard_no h rfl rfl rfl rfl rfl (by decide) rfl rfl fun a h => ?_
  refine St.get h rfl rfl rfl (G.pickT rfl rfl rfl) fun a h => ?_
  refine wpl_nil ?_
  refine X.thenN ?_
  refine St.condT h rfl ?_
  refine C.seq ?_
  refine C.region ?_
  refine St.get h rfl rfl rfl (G.assign rfl rfl) fun a h => ?_
  refine wpl_nil ?_
  refine X.thenN ?_
  refine C.ret ?_
  refine X.thenR ?_
  rotate_left
  refine St.get h rfl rfl rfl (G.pickF rfl rfl rfl) fun a h => ?_
  refine St.get h rfl rfl rfl (G.move rfl rfl) fun a h => ?_
  refine St.guard_yes h rfl rfl rfl rfl rfl ?_
  refine St.get h rfl rfl rfl (G.move rfl rfl) fun a h => ?_
  refine St.guard_yes h rfl rfl rfl rfl rfl ?_
  refine St.getP h rfl rfl rfl (G.bin rfl rfl rfl B.gtr) (fun hc4 a h => ?_) (fun hc4 a h => ?_)
  refine St.get h rfl rfl rfl (G.pickF rfl rfl rfl) fun a h => ?_
  refine wpl_nil ?_
  refine X.thenN ?_
  refine St.condT h rfl ?_
  refine C.seq ?_
  refine C.region ?_
  refine St.get h rfl rfl rfl (G.assign rfl rfl) fun a h => ?_
  refine wpl_nil ?_
  refine X.thenN ?_
  refine C.ret ?_
  refine X.thenR ?_
  rotate_left
  refine St.get h rfl rfl rfl (G.pickF rfl rfl rfl) fun a h => ?_
  refine wpl_nil ?_
  refine X.thenN ?_
  refine St.condF h rfl ?_
  refine C.skip ?_
  refine X.thenN ?_
  refine C.seq ?_
  refine C.seq ?_
  refine C.region ?_
  refine St.get h rfl rfl rfl (G.assign rfl rfl) fun a h => ?_
  refine wpl_nil ?_
  refine X.thenN ?_
  refine C.block ?_
  rotate_left
  · have e : loadR q vals next = (7, q) := by unfold loadR; rw [if_pos (by omega)]
    rw [e]
    replace h := h.fold [0, 1, 2, 3] rfl ((RAt_mk gi ci gw cw ws hw))
    replace h := h.conv (sl' := _) (L' := [_, _]) rfl rfl
    replace h := h.sel [0] rfl
    replace h := h.conv (sl' := _) (L' := [_]) rfl rfl
    exact h.ret1 Try.results50 rfl (Ent.refl _) (⟨rfl, rfl⟩)
  · have e : loadR q vals next = (7, q) := by unfold loadR; rw [if_pos (by omega)]
    rw [e]
    replace h := h.fold [0, 1, 2, 3] rfl ((RAt_mk gi ci gw cw ws hw))
    replace h := h.conv (sl' := _) (L' := [_, _]) rfl rfl
    replace h := h.sel [0] rfl
    replace h := h.conv (sl' := _) (L' := [_]) rfl rfl
    exact h.ret1 Try.results50 rfl (Ent.refl _) (⟨rfl, rfl⟩)
  · have e : loadR q vals next = (1, q) := by unfold loadR; rw [if_neg (by omega), if_pos (by omega)]
    rw [e]
    replace h := h.fold [0, 1, 2, 3] rfl ((RAt_mk gi ci gw cw ws hw))
    replace h := h.conv (sl' := _) (L' := [_, _]) rfl rfl
    replace h := h.sel [0] rfl
    replace h := h.conv (sl' := _) (L' := [_]) rfl rfl
    exact h.ret1 Try.results50 rfl (Ent.refl _) (⟨rfl, rfl⟩)
  · have e : loadR q vals next = (1, q) := by unfold loadR; rw [if_neg (by omega), if_pos (by omega)]
    rw [e]
    replace h := h.fold [0, 1, 2, 3] rfl ((RAt_mk gi ci gw cw ws hw))
    replace h := h.conv (sl' := _) (L' := [_, _]) rfl rfl
    replace h := h.sel [0] rfl
    replace h := h.conv (sl' := _) (L' := [_]) rfl rfl
    exact h.ret1 Try.results50 rfl (Ent.refl _) (⟨rfl, rfl⟩)
  · have e : loadR q vals next = (1, q) := by unfold loadR; rw [if_neg (by omega), if_pos (by omega)]
    rw [e]
    replace h := h.fold [0, 1, 2, 3] rfl ((RAt_mk gi ci gw cw ws hw))
    replace h := h.conv (sl' := _) (L' := [_, _]) rfl rfl
    replace h := h.sel [0] rfl
    replace h := h.conv (sl' := _) (L' := [_]) rfl rfl
    exact h.ret1 Try.results50 rfl (Ent.refl _) (⟨rfl, rfl⟩)
  · have e : loadR q vals next = (0, ⟨loadJ (next - vals.length) vals, q.works, next - 1⟩) := by unfold loadR; rw [if_neg (by omega), if_neg (by omega)]
    rw [e]
    have hi0 : q.items = [] := List.length_eq_zero_iff.1 (by omega)
    rw [hi0] at h
    refine C.loop (fun m a w => ∃ (i : Nat) (gi' : Option Addr) (ci' : Nat), i + m = vals.length ∧ St w0 S R 66 [(0, .pointer (some ⟨b, o, none⟩)), (1, rlv g vals.length c), (2, .int .i64 next), (7, .int .i64 i)]
      [cells b o [rlv gi' i ci', rlv gw ws.length cw, .int .i64 q.given], ownl encRI 131 gi' ci' (loadJ (next - vals.length) (vals.take i)), ownl encPtr 133 gw cw (ws.map Prod.fst), many (WAt 80) ws, rdl encU64 g vals] a w) vals.length ⟨0, gi, ci, by omega, h.sub ⟨rfl, rfl, rfl, rfl, trivial⟩⟩ ?_
    rintro m a w ⟨i, gi', ci', hi, h⟩
    by_cases hlt : i < vals.length
    · obtain ⟨x, hx⟩ : ∃ x, vals[i]? = some x := ⟨_, List.getElem?_eq_getElem hlt⟩
      have hx1 : vals[(i : Int).toNat]? = some x := by simp [hx]
      have htl : (vals.take i).length = i := by simp; omega
      have hll := loadJ_len (vals.take i) (next - vals.length)
      have htk : loadJ (next - vals.length) (vals.take (i + 1)) = loadJ (next - vals.length) (vals.take i) ++ [⟨next - vals.length + i, x⟩] := by rw [List.take_add_one, hx]; simp only [Option.toList_some]; rw [loadJ_snoc, htl]
      refine C.seq ?_
      refine C.seq ?_
      refine C.region ?_
      refine St.get h rfl rfl rfl (G.move rfl rfl) fun a h => ?_
      refine St.get h rfl rfl rfl (G.move rfl rfl) fun a h => ?_
      refine St.get h rfl rfl rfl (G.lens rfl rfl Try.underlying24) fun a h => ?_
      refine St.get h rfl rfl rfl (G.bin rfl rfl rfl (B.lssT (by omega))) fun a h => ?_
      refine wpl_nil ?_
      refine X.thenN ?_
      refine St.condT h rfl ?_
      refine C.skip ?_
      refine X.thenN ?_
      refine C.seq ?_
      refine C.block ?_
      refine C.anyAt Try_mixed 17 21 [0, 4] (LB := [_, _]) h rfl rfl fun w h hcl hI => ?_
      refine St.takeP h 0 17 1 rfl (by decide +kernel) hcl hI (wanted_of rfl _) rfl rfl (G.move rfl rfl) (fun _ _ _ x => x) fun a h hcl hI => ?_
      refine St.takeP h 1 17 3 rfl (by decide +kernel) hcl hI (wanted_of rfl _) rfl rfl (G.move rfl rfl) (fun _ _ _ x => x) fun a h hcl hI => ?_
      refine St.takeP h 2 17 7 rfl (by decide +kernel) hcl hI (wanted_of rfl _) rfl rfl (G.nilc rfl rfl) (fun _ _ _ x => x) fun a h hcl hI => ?_
      refine St.takeP h 3 17 15 rfl (by decide +kernel) hcl hI (wanted_of rfl _) rfl rfl (G.fadr 0 rfl rfl Try.underlying42 rfl rfl Try.sizeOf39) (fun _ _ _ x => x) fun a h hcl hI => ?_
      refine St.takeL h 4 17 31 rfl (by decide +kernel) hcl hI (wanted_of rfl _) rfl rfl (G.ld 0 0 rfl rfl rfl rfl rfl Try.isAgg39) (fun _ _ _ x => x) fun a h hcl hI => ?_
      refine St.takeP h 5 17 63 rfl (by decide +kernel) hcl hI (wanted_of rfl _) rfl rfl (G.move rfl rfl) (fun _ _ _ x => x) fun a h hcl hI => ?_
      refine St.takeP h 6 17 127 rfl (by decide +kernel) hcl hI (wanted_of rfl _) rfl rfl (G.move rfl rfl) (fun _ _ _ x => x) fun a h hcl hI => ?_
      refine St.takeP h 7 17 255 rfl (by decide +kernel) hcl hI (wanted_of rfl _) rfl rfl (G.lens rfl rfl Try.underlying24) (fun _ _ _ x => x) fun a h hcl hI => ?_
      refine St.takeP h 8 17 511 rfl (by decide +kernel) hcl hI (wanted_of rfl _) rfl rfl (G.bin rfl rfl rfl (B.subi (by omega) (by omega))) (fun _ _ _ x => x) fun a h hcl hI => ?_
      refine St.takeP h 9 17 1023 rfl (by decide +kernel) hcl hI (wanted_of rfl _) rfl rfl (G.move rfl rfl) (fun _ _ _ x => x) fun a h hcl hI => ?_
      refine St.takeP h 10 17 2047 rfl (by decide +kernel) hcl hI (wanted_of rfl _) rfl rfl (G.bin rfl rfl rfl (B.addi (by omega) (by omega))) (fun _ _ _ x => x) fun a h hcl hI => ?_
      refine St.takeP h 11 17 4095 rfl (by decide +kernel) hcl hI (wanted_of rfl _) rfl rfl (G.move rfl rfl) (fun _ _ _ x => x) fun a h hcl hI => ?_
      refine St.takeP h 12 17 8191 rfl (by decide +kernel) hcl hI (wanted_of rfl _) rfl rfl (G.move rfl rfl) (fun _ _ _ x => x) fun a h hcl hI => ?_
      refine St.takeL h 13 17 16383 rfl (by decide +kernel) hcl hI (wanted_of rfl _) rfl rfl (G.idxr _ 1 rfl rfl rfl rfl (by omega) (by omega) (by omega) Try.underlying24 Try.sizeOf22) (fun _ _ _ x => x) fun a h hcl hI => ?_
      refine St.takeL h 14 17 32767 rfl (by decide +kernel) hcl hI (wanted_of rfl _) rfl rfl (G.lde _ 1 0 rfl (by assumption) rfl rfl rfl rfl rfl Try.isAgg22) (fun _ _ _ x => x) fun a h hcl hI => ?_
      refine St.takeP h 15 17 65535 rfl (by decide +kernel) hcl hI (wanted_of rfl _) rfl rfl (G.build [(0, 1), (1, 1)] rfl rfl Try.zeroValue131 Try.underlying131 ⟨rfl, Try.sizeOf3, rfl, Try.sizeOf22, trivial⟩ rfl) (fun _ _ _ x => x) fun a h hcl hI => ?_
      replace h := h.conv (sl' := (_, .agg #[.int _ _, .int _ _]) :: _) (L' := _) rfl rfl
      refine oneL 16 131071 rfl (by decide +kernel) hcl (wanted_of rfl _) fun hcl => ?_
      refine St.actK h rfl rfl (Acts.bslice (encRI) ([⟨next - vals.length + i, x⟩]) rfl rfl Try.underlying39 Try.sizeOf131 Try.zeroValue131 rfl (Nat.le_of_ble_eq_true rfl) ⟨rfl, rfl, trivial⟩) fun v L a w hp h => ?_
      obtain ⟨b1, rfl, rfl⟩ := hp
      refine St.onL h [1, 5] (LB := [_, _]) rfl fun hI => ?_
      refine oneL 17 262143 rfl (by decide +kernel) hcl (wanted_of rfl _) fun hcl => ?_
      refine St.actK h rfl rfl (Acts.append _ 2 rfl (Ro.cons 0 rfl (ownl_ro _ _ _ _ _) (Ro.nil _)) rfl rfl rfl (by first | rfl | omega | simp) (by first | rfl | omega | simp) Try.underlying39 Try.typeInfo131 rfl rfl rfl 16 rfl (by (try simp only [List.length_append, List.length_cons, List.length_nil, List.length_map, List.length_take]); omega) (by (try simp only [List.length_append, List.length_cons, List.length_nil, List.length_map, List.length_take]); omega)) fun v L a w hp h => ?_
      obtain ⟨A1, c1, rfl, hnil, rfl⟩ := hp
      replace h := h.conv (sl' := _) (L' := [_, _, cells _ _ [_, _, _], _, _, _]) rfl rfl
      refine offL rfl fun hI => ?_
      refine St.takeP h 18 17 524287 rfl (by decide +kernel) hcl hI (wanted_of rfl _) rfl rfl (G.nilc rfl rfl) (fun _ _ _ x => x) fun a h hcl hI => ?_
      refine St.takeP h 19 17 1048575 rfl (by decide +kernel) hcl hI (wanted_of rfl _) rfl rfl (G.fadr 0 rfl rfl Try.underlying42 rfl rfl Try.sizeOf39) (fun _ _ _ x => x) fun a h hcl hI => ?_
      refine oneL 20 2097151 rfl (by decide +kernel) hcl (wanted_of rfl _) fun hcl => ?_
      refine St.putK h rfl (U.st 2 0 rfl rfl rfl rfl rfl rfl rfl Try.sizeOf39) fun a w h => ?_
      replace h := h.conv (sl' := _) (L' := [_, _, cells _ _ [_, _, _], _, _, _]) rfl rfl
      refine offL rfl fun hI => ?_
      refine doneL (by decide +kernel) ?_
      refine X.blkN ?_
      refine X.thenN ?_
      refine C.region ?_
      refine St.get h rfl rfl rfl (G.move rfl rfl) fun a h => ?_
      refine St.get h rfl rfl rfl (G.bin rfl rfl rfl (B.addi (by omega) (by omega))) fun a h => ?_
      refine St.get h rfl rfl rfl (G.assign rfl rfl) fun a h => ?_
      refine wpl_nil ?_
      refine X.thenN ?_
      replace h := h.sel [2, 0, 3, 4, 5] rfl
      replace h := h.conv (sl' := _) (L' := [cells _ _ [_, _, _], _, _, _, _]) rfl rfl
      have hle : (loadJ (next - vals.length) (vals.take i) ++ ([⟨next - vals.length + i, x⟩] : List RI)).length = i + 1 := by simp; omega
      replace h := h.conv (L' := [cells b o [rlv A1 (i + 1) c1, _, _], ownl encRI 131 A1 c1 (loadJ (next - vals.length) (vals.take (i + 1))), _, _, _]) rfl (by rw [htk, hle])
      exact ⟨m - 1, by omega, i + 1, A1, c1, by omega, h.sub ⟨rfl, rfl, rfl, rfl, trivial⟩⟩
    · rw [List.take_of_length_le (by omega)] at h
      have hi' : i = (loadJ (next - vals.length) vals).length := by rw [loadJ_len]; omega
      subst hi'
      refine C.seq ?_
      refine C.seq ?_
      refine C.region ?_
      refine St.get h rfl rfl rfl (G.move rfl rfl) fun a h => ?_
      refine St.get h rfl rfl rfl (G.move rfl rfl) fun a h => ?_
      refine St.get h rfl rfl rfl (G.lens rfl rfl Try.underlying24) fun a h => ?_
      refine St.get h rfl rfl rfl (G.bin rfl rfl rfl (B.lssF (by omega))) fun a h => ?_
      refine wpl_nil ?_
      refine X.thenN ?_
      refine St.condF h rfl ?_
      refine C.exit ?_
      refine X.thenE ?_
      refine X.thenE ?_
      refine X.blkE ?_
      refine X.thenN ?_
      refine C.seq ?_
      refine C.region ?_
      refine St.get h rfl rfl rfl (G.move rfl rfl) fun a h => ?_
      refine St.get h rfl rfl rfl (G.move rfl rfl) fun a h => ?_
      refine St.get h rfl rfl rfl (G.bin rfl rfl rfl (B.subi (by omega) (by omega))) fun a h => ?_
      refine St.get h rfl rfl rfl (G.nilc rfl rfl) fun a h => ?_
      refine St.get h rfl rfl rfl (G.fadr 2 rfl rfl Try.underlying42 rfl rfl Try.sizeOf3) fun a h => ?_
      refine St.put h rfl rfl (U.st 0 2 rfl rfl rfl rfl rfl rfl rfl Try.sizeOf3) fun a w h => ?_
      replace h := h.conv (sl' := _) (L' := [cells _ _ [_, _, _], _, _, _, _]) rfl rfl
      refine wpl_nil ?_
      refine X.thenN ?_
      refine C.seq ?_
      refine C.region ?_
      refine St.get h rfl rfl rfl (G.assign rfl rfl) fun a h => ?_
      refine wpl_nil ?_
      refine X.thenN ?_
      refine C.ret ?_
      replace h := h.fold [0, 1, 2, 3] rfl ((RAt_mk (q := ⟨loadJ (next - vals.length) vals, q.works, next - 1⟩) gi' ci' gw cw ws hw))
      replace h := h.conv (sl' := _) (L' := [_, _]) rfl rfl
      replace h := h.sel [0] rfl
      replace h := h.conv (sl' := _) (L' := [_]) rfl rfl
      exact h.ret1 Try.results50 rfl (Ent.refl _) (⟨rfl, rfl⟩)
end Go.Proofs.Ytllhegccpknncaa
