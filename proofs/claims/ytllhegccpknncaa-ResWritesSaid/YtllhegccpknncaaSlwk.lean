/-
  slices.IndexFunc and slices.DeleteFunc of a queue's works, by their numbers; gone.
-/
import Derived.Test.YtllhegccpknncaaSlit
import Derived.Test.YtllhegccpknncaaSeat
set_option linter.unusedVariables false
set_option linter.unusedSimpArgs false
set_option linter.unusedSectionVars false
set_option maxRecDepth 8000
namespace Go.Proofs.Ytllhegccpknncaa
open Go.Tr

theorem gone1_spec (x : Nat × QW) (bn : Nat) (n : Int) : Meets Try.prog 100 #[.pointer (some ⟨x.1, 0, none⟩), .pointer (some ⟨bn, 0, none⟩)] [rcells x.1 0 [.int .i64 x.2.n], rcells bn 0 [.int .i64 n]] (Det (.bool (decide (x.2.n = n))) []) := by
  refine Meets.of_code Try.func100 rfl Try.ntmps100 rfl fun w0 S R a h => ?_
  refine C.seq ?_
  refine C.region ?_
  refine St.get h rfl rfl rfl (G.assign rfl rfl) fun a h => ?_
  refine wpl_nil ?_
  refine X.thenN ?_
  refine C.seq ?_
  refine C.still Try_mixed h (by decide +kernel) fun w h => ?_
  refine St.getS h rfl rfl rfl (G.move rfl rfl) fun a h => ?_
  refine St.getS h rfl rfl rfl (G.nilc rfl rfl) fun a h => ?_
  refine St.getS h rfl rfl rfl (G.fadr 0 rfl rfl Try.underlying122 rfl rfl Try.sizeOf3) fun a h => ?_
  refine St.getS h rfl rfl rfl (G.ldr 0 0 rfl rfl rfl rfl rfl Try.isAgg3) fun a h => ?_
  refine St.getS h rfl rfl rfl (G.ldr 1 0 rfl rfl rfl rfl rfl Try.isAgg3) fun a h => ?_
  refine St.getPS h rfl rfl rfl (G.bin rfl rfl rfl B.eql) (fun hc a h => ?_) (fun hc a h => ?_)
  refine St.getS h rfl rfl rfl (G.assign rfl rfl) fun a h => ?_
  refine wps_nil ?_
  refine X.thenN ?_
  refine C.ret ?_
  rotate_left
  refine St.getS h rfl rfl rfl (G.assign rfl rfl) fun a h => ?_
  refine wps_nil ?_
  refine X.thenN ?_
  refine C.ret ?_
  rotate_left
  · replace h := h.sel [] rfl
    exact h.ret1 Try.results100 rfl (Ent.refl _) (⟨by simp [hc], rfl⟩)
  · replace h := h.sel [] rfl
    exact h.ret1 Try.results100 rfl (Ent.refl _) (⟨by simp [hc], rfl⟩)
theorem IndexFunc_works (g : Option Addr) (c : Nat) (ys : List (Nat × QW)) (bn : Nat) (n : Int) :
    Meets Try.prog 105 #[rlv g ys.length c, .func (.func 100) #[] #[.pointer (some ⟨bn, 0, none⟩)]] [rdl encPtr g (ys.map Prod.fst), rmany WRd ys, rcells bn 0 [.int .i64 n]] (Det (.int .i64 (firstI (fun x => decide (x.2.n = n)) ys 0)) []) := by
  refine Meets.of_code Try.func105 rfl Try.ntmps105 rfl fun w0 S R a h => ?_
  have hlen : ys.length ≤ 9223372036854775807 := by have := h.tell1 0 rfl fun _ _ _ => rdl_len; simpa using this
  refine C.seq ?_
  refine C.region ?_
  refine St.get h rfl rfl rfl (G.assign rfl rfl) fun a h => ?_
  refine wpl_nil ?_
  refine X.thenN ?_
  refine C.seq ?_
  refine C.seq ?_
  refine C.region ?_
  refine St.get h rfl rfl rfl (G.move rfl rfl) fun a h => ?_
  refine St.get h rfl rfl rfl (G.lens rfl rfl Try.underlying31) fun a h => ?_
  refine St.get h rfl rfl rfl (G.move rfl rfl) fun a h => ?_
  refine wpl_nil ?_
  refine X.thenN ?_
  refine C.block ?_
  refine C.loop (fun m a w => ∃ i : Nat, i + m = ys.length ∧ firstI (fun x => decide (x.2.n = n)) ys 0 = firstI (fun x => decide (x.2.n = n)) (ys.drop i) i ∧ St w0 S R 19 [(0, rlv g ys.length c), (1, .func (.func 100) #[] #[.pointer (some ⟨bn, 0, none⟩)]), (6, rlv g ys.length c), (7, .int .i64 ys.length), (8, .int .i64 i)] [rdl encPtr g (ys.map Prod.fst), rmany WRd ys, rcells bn 0 [.int .i64 n]] a w) ys.length ⟨0, by omega, rfl, h.sub ⟨rfl, rfl, rfl, rfl, rfl, trivial⟩⟩ ?_
  rintro m a w ⟨i, hi, hf, h⟩
  by_cases hlt : i < ys.length
  · obtain ⟨x, hx⟩ : ∃ x, ys[i]? = some x := ⟨_, List.getElem?_eq_getElem hlt⟩
    have hx1 : (ys.map Prod.fst)[(i : Int).toNat]? = some x.1 := by simp [hx]
    have hll : ys.length ≤ (ys.map Prod.fst).length := by simp
    have hro : Ro (rmany WRd ys) (rcells x.1 0 [.int .i64 x.2.n]) := rmany_one (WRd_ro x) hx
    refine C.seq ?_
    refine C.region ?_
    refine St.get h rfl rfl rfl (G.bin rfl rfl rfl (B.lssT (by omega))) fun a h => ?_
    refine wpl_nil ?_
    refine X.thenN ?_
    refine C.seq ?_
    refine St.condT h rfl ?_
    refine C.skip ?_
    refine X.thenN ?_
    refine C.seq ?_
    refine C.block ?_
    refine C.seq ?_
    refine C.region ?_
    refine St.get h rfl rfl rfl (G.move rfl rfl) fun a h => ?_
    refine St.get h rfl rfl rfl (G.assign rfl rfl) fun a h => ?_
    refine wpl_nil ?_
    refine X.thenN ?_
    refine C.seq ?_
    refine C.region ?_
    refine St.get h rfl rfl rfl (G.move rfl rfl) fun a h => ?_
    refine St.get h rfl rfl rfl (G.move rfl rfl) fun a h => ?_
    refine St.get h rfl rfl rfl (G.move rfl rfl) fun a h => ?_
    refine St.get h rfl rfl rfl (G.idxr _ 0 rfl rfl rfl rfl (by omega) (by omega) (by omega) Try.underlying31 Try.sizeOf92) fun a h => ?_
    refine St.get h rfl rfl rfl (G.lde _ 0 0 rfl (by assumption) rfl rfl rfl rfl rfl Try.isAgg92) fun a h => ?_
    refine St.callv h [] rfl (Ro.cons 1 rfl (by assumption) (Ro.cons 2 rfl (rcells_ro _ _ _) (Ro.nil _))) rfl rfl rfl rfl rfl ((gone1_spec x bn n)) Try.call100 rfl rfl fun v L a w hp h => ?_
    obtain ⟨rfl, rfl⟩ := hp
    replace h := h.conv (sl' := _) (L' := [_, _, rcells _ _ [_]]) rfl rfl
    refine wpl_nil ?_
    refine X.thenN ?_
    refine St.cond h rfl (fun hc => ?_) (fun hc => ?_)
    refine C.seq ?_
    refine C.region ?_
    refine St.get h rfl rfl rfl (G.move rfl rfl) fun a h => ?_
    refine St.get h rfl rfl rfl (G.assign rfl rfl) fun a h => ?_
    refine wpl_nil ?_
    refine X.thenN ?_
    refine C.ret ?_
    refine X.blkR ?_
    refine X.thenR ?_
    refine X.thenR ?_
    refine X.blkR ?_
    refine X.thenR ?_
    rotate_left
    refine C.skip ?_
    refine X.blkN ?_
    refine X.thenN ?_
    refine C.region ?_
    refine St.get h rfl rfl rfl (G.bin rfl rfl rfl (B.addi (by omega) (by omega))) fun a h => ?_
    refine St.get h rfl rfl rfl (G.move rfl rfl) fun a h => ?_
    refine wpl_nil ?_
    refine X.thenN ?_
    rotate_left
    · replace h := h.sel [] rfl
      exact h.ret1 Try.results105 rfl (Ent.refl _) (⟨by rw [hf, firstI_hit hx (by simp [hc])], rfl⟩)
    · exact ⟨m - 1, by omega, i + 1, by omega, by rw [hf, firstI_skip hx (by simp [hc])]; rfl, h.sub ⟨rfl, rfl, rfl, rfl, rfl, trivial⟩⟩
  · refine C.seq ?_
    refine C.region ?_
    refine St.get h rfl rfl rfl (G.bin rfl rfl rfl (B.lssF (by omega))) fun a h => ?_
    refine wpl_nil ?_
    refine X.thenN ?_
    refine C.seq ?_
    refine St.condF h rfl ?_
    refine C.exit ?_
    refine X.thenE ?_
    refine X.thenE ?_
    refine X.blkE ?_
    refine X.thenN ?_
    refine C.seq ?_
    refine C.region ?_
    refine St.get h rfl rfl rfl (G.assign rfl rfl) fun a h => ?_
    refine wpl_nil ?_
    refine X.thenN ?_
    refine C.ret ?_
    replace h := h.sel [] rfl
    exact h.ret1 Try.results105 rfl (Ent.refl _) (⟨by rw [hf, List.drop_eq_nil_of_le (by omega)]; rfl, rfl⟩)

theorem DeleteFunc_works (g : Option Addr) (c : Nat) (ys : List (Nat × QW)) (bn : Nat) (n : Int) :
    Meets Try.prog 99 #[rlv g ys.length c, .func (.func 100) #[] #[.pointer (some ⟨bn, 0, none⟩)]] [ownl encPtr 92 g c (ys.map Prod.fst), rmany WRd ys, rcells bn 0 [.int .i64 n]]
      (Det (rlv g (ys.filter (fun x => !decide (x.2.n = n))).length c) [ownl encPtr 92 g c ((ys.filter (fun x => !decide (x.2.n = n))).map Prod.fst)]) := by
  refine Meets.of_code Try.func99 rfl Try.ntmps99 rfl fun w0 S R a h => ?_
  have hcap : ys.length ≤ c ∧ c ≤ 9223372036854775807 := by have := h.tell1 0 rfl fun _ _ _ => ownl_cap; simpa using this
  refine C.seq ?_
  refine C.region ?_
  refine St.get h rfl rfl rfl (G.assign rfl rfl) fun a h => ?_
  refine wpl_nil ?_
  refine X.thenN ?_
  refine C.seq ?_
  refine C.region ?_
  refine St.get h rfl rfl rfl (G.move rfl rfl) fun a h => ?_
  refine St.get h rfl rfl rfl (G.move rfl rfl) fun a h => ?_
  refine St.callD h [] rfl (Ro.cons 0 rfl (ownl_ro _ _ _ _ _) (Ro.cons 1 rfl (rmany_ro WRd_ro _) (Ro.cons 2 rfl (rcells_ro _ _ _) (Ro.nil _)))) ((IndexFunc_works g c ys bn n)) rfl rfl rfl Try.call105 rfl rfl fun a w h => ?_
  replace h := h.conv (sl' := _) (L' := [_, _, rcells _ _ [_]]) rfl rfl
  rcases firstI_cases (fun x : Nat × QW => decide (x.2.n = n)) ys 0 with ⟨h1, h2⟩ | ⟨i0, h1, h2, h3⟩
  · rw [show ((0 : Nat) : Int) = 0 from rfl] at h1
    rw [h1] at h
    refine St.get h rfl rfl rfl (G.assign rfl rfl) fun a h => ?_
    refine wpl_nil ?_
    refine X.thenN ?_
    refine C.seq ?_
    refine C.seq ?_
    refine C.region ?_
    refine St.get h rfl rfl rfl (G.move rfl rfl) fun a h => ?_
    refine St.get h rfl rfl rfl (G.bin rfl rfl rfl (B.eqlT (by omega))) fun a h => ?_
    refine wpl_nil ?_
    refine X.thenN ?_
    refine St.condT h rfl ?_
    refine C.seq ?_
    refine C.region ?_
    refine St.get h rfl rfl rfl (G.move rfl rfl) fun a h => ?_
    refine St.get h rfl rfl rfl (G.assign rfl rfl) fun a h => ?_
    refine wpl_nil ?_
    refine X.thenN ?_
    refine C.ret ?_
    refine X.thenR ?_
    replace h := h.sel [0] rfl
    replace h := h.conv (sl' := _) (L' := [_]) rfl rfl
    exact h.ret1 Try.results99 rfl (Ent.refl _) (⟨by rw [h2], by rw [h2]⟩)
  · rw [show ((0 : Nat) : Int) = 0 from rfl, Nat.zero_add] at h1
    rw [h1] at h
    refine St.get h rfl rfl rfl (G.assign rfl rfl) fun a h => ?_
    refine wpl_nil ?_
    refine X.thenN ?_
    refine C.seq ?_
    refine C.seq ?_
    refine C.region ?_
    refine St.get h rfl rfl rfl (G.move rfl rfl) fun a h => ?_
    refine St.get h rfl rfl rfl (G.bin rfl rfl rfl (B.eqlF (by omega))) fun a h => ?_
    refine wpl_nil ?_
    refine X.thenN ?_
    refine St.condF h rfl ?_
    refine C.skip ?_
    refine X.thenN ?_
    refine C.seq ?_
    refine C.seq ?_
    refine C.region ?_
    refine St.get h rfl rfl rfl (G.move rfl rfl) fun a h => ?_
    refine St.get h rfl rfl rfl (G.bin rfl rfl rfl (B.addi (by omega) (by omega))) fun a h => ?_
    refine St.get h rfl rfl rfl (G.assign rfl rfl) fun a h => ?_
    refine wpl_nil ?_
    refine X.thenN ?_
    refine C.block ?_
    refine C.loop (fun m a w => ∃ i j zs, j + m = ys.length ∧ Moved (fun x : Nat × QW => decide (x.2.n = n)) ys zs i j ∧ St w0 S R 42 [(0, rlv g ys.length c), (1, .func (.func 100) #[] #[.pointer (some ⟨bn, 0, none⟩)]), (5, .int .i64 i), (6, .int .i64 j)] [ownl encPtr 92 g c (zs.map Prod.fst), rmany WRd ys, rcells bn 0 [.int .i64 n]] a w) (ys.length - (i0 + 1))
      ⟨i0, i0 + 1, ys, by omega, ⟨rfl, by omega, by omega, h3.symm, fun _ _ => rfl⟩, h.sub ⟨rfl, rfl, rfl, rfl, trivial⟩⟩ ?_
    rintro m a w ⟨i, j, zs, hjm, hM, h⟩
    have hlen := hM.len
    have hll : (zs.map Prod.fst).length = ys.length := by simp [hlen]
    have hilt := hM.lt
    have hjle := hM.le
    by_cases hlt : j < ys.length
    · obtain ⟨x, hx⟩ : ∃ x, ys[j]? = some x := ⟨_, List.getElem?_eq_getElem hlt⟩
      have hz : zs[j]? = some x := by rw [← hx]; exact hM.back j (Nat.le_refl _)
      have hx1 : (zs.map Prod.fst)[(j : Int).toNat]? = some x.1 := by simp [hz]
      have hi1 : (zs.map Prod.fst)[(i : Int).toNat]? = some ((zs.map Prod.fst)[i]'(by omega)) := List.getElem?_eq_getElem _
      have hro : Ro (rmany WRd ys) (rcells x.1 0 [.int .i64 x.2.n]) := rmany_one (WRd_ro x) hx
      refine C.seq ?_
      refine C.seq ?_
      refine C.region ?_
      refine St.get h rfl rfl rfl (G.move rfl rfl) fun a h => ?_
      refine St.get h rfl rfl rfl (G.move rfl rfl) fun a h => ?_
      refine St.get h rfl rfl rfl (G.lens rfl rfl Try.underlying31) fun a h => ?_
      refine St.get h rfl rfl rfl (G.bin rfl rfl rfl (B.lssT (by omega))) fun a h => ?_
      refine wpl_nil ?_
      refine X.thenN ?_
      refine St.condT h rfl ?_
      refine C.skip ?_
      refine X.thenN ?_
      refine C.seq ?_
      refine C.block ?_
      refine C.seq ?_
      refine C.region ?_
      refine St.get h rfl rfl rfl (G.move rfl rfl) fun a h => ?_
      refine St.get h rfl rfl rfl (G.move rfl rfl) fun a h => ?_
      refine St.get h rfl rfl rfl (G.idxo _ 0 rfl rfl rfl rfl (by omega) (by omega) (by omega) Try.underlying31 Try.sizeOf92) fun a h => ?_
      refine St.get h rfl rfl rfl (G.ldo _ 0 0 rfl (by assumption) rfl rfl rfl rfl rfl Try.isAgg92) fun a h => ?_
      refine St.get h rfl rfl rfl (G.assign rfl rfl) fun a h => ?_
      refine wpl_nil ?_
      refine X.thenN ?_
      refine C.seq ?_
      refine C.region ?_
      refine St.get h rfl rfl rfl (G.move rfl rfl) fun a h => ?_
      refine St.get h rfl rfl rfl (G.move rfl rfl) fun a h => ?_
      refine St.callv h [] rfl (Ro.cons 1 rfl (by assumption) (Ro.cons 2 rfl (rcells_ro _ _ _) (Ro.nil _))) rfl rfl rfl rfl rfl ((gone1_spec x bn n)) Try.call100 rfl rfl fun v L a w hp h => ?_
      obtain ⟨rfl, rfl⟩ := hp
      replace h := h.conv (sl' := _) (L' := [_, _, rcells _ _ [_]]) rfl rfl
      refine St.get h rfl rfl rfl (G.un rfl rfl B.not) fun a h => ?_
      refine wpl_nil ?_
      refine X.thenN ?_
      refine St.cond h rfl (fun hc => ?_) (fun hc => ?_)
      refine C.seq ?_
      refine C.region ?_
      refine St.get h rfl rfl rfl (G.move rfl rfl) fun a h => ?_
      refine St.get h rfl rfl rfl (G.move rfl rfl) fun a h => ?_
      refine St.get h rfl rfl rfl (G.move rfl rfl) fun a h => ?_
      refine St.get h rfl rfl rfl (G.idxo _ 0 rfl rfl rfl rfl (by omega) (by omega) (by omega) Try.underlying31 Try.sizeOf92) fun a h => ?_
      rotate_left
      refine C.skip ?_
      refine X.blkN ?_
      refine X.thenN ?_
      refine C.region ?_
      refine St.get h rfl rfl rfl (G.move rfl rfl) fun a h => ?_
      refine St.get h rfl rfl rfl (G.bin rfl rfl rfl (B.addi (by omega) (by omega))) fun a h => ?_
      refine St.get h rfl rfl rfl (G.assign rfl rfl) fun a h => ?_
      refine wpl_nil ?_
      refine X.thenN ?_
      rotate_left
      · have hx2 : x.2.n ≠ n := by simpa using hc
        refine St.put h rfl rfl (U.sto _ 0 0 (x.1) rfl (by assumption) rfl rfl rfl rfl rfl (by decide) (by rfl) rfl Try.sizeOf92) fun a w h => ?_
        replace h := h.conv (sl' := _) (L' := [_, _, rcells _ _ [_]]) rfl rfl
        refine wpl_nil ?_
        refine X.thenN ?_
        refine C.region ?_
        refine St.get h rfl rfl rfl (G.move rfl rfl) fun a h => ?_
        refine St.get h rfl rfl rfl (G.bin rfl rfl rfl (B.addi (by omega) (by omega))) fun a h => ?_
        refine St.get h rfl rfl rfl (G.assign rfl rfl) fun a h => ?_
        refine wpl_nil ?_
        refine X.blkN ?_
        refine X.thenN ?_
        refine C.region ?_
        refine St.get h rfl rfl rfl (G.move rfl rfl) fun a h => ?_
        refine St.get h rfl rfl rfl (G.bin rfl rfl rfl (B.addi (by omega) (by omega))) fun a h => ?_
        refine St.get h rfl rfl rfl (G.assign rfl rfl) fun a h => ?_
        refine wpl_nil ?_
        refine X.thenN ?_
        exact ⟨m - 1, by omega, i + 1, j + 1, zs.set i x, by omega, hM.stay hx (by simp [hx2]), (h.conv rfl (L' := [ownl encPtr 92 g c ((zs.set i x).map Prod.fst), _, _]) (by rw [List.map_set]; rfl)).sub ⟨rfl, rfl, rfl, rfl, trivial⟩⟩
      · have hx2 : x.2.n = n := by simpa using hc
        exact ⟨m - 1, by omega, i, j + 1, zs, by omega, hM.go hx (by simp [hx2]), h.sub ⟨rfl, rfl, rfl, rfl, trivial⟩⟩
    · obtain ⟨hd1, hd2⟩ := hM.done hlt
      refine C.seq ?_
      refine C.seq ?_
      refine C.region ?_
      refine St.get h rfl rfl rfl (G.move rfl rfl) fun a h => ?_
      refine St.get h rfl rfl rfl (G.move rfl rfl) fun a h => ?_
      refine St.get h rfl rfl rfl (G.lens rfl rfl Try.underlying31) fun a h => ?_
      refine St.get h rfl rfl rfl (G.bin rfl rfl rfl (B.lssF (by omega))) fun a h => ?_
      refine wpl_nil ?_
      refine X.thenN ?_
      refine St.condF h rfl ?_
      refine C.exit ?_
      refine X.thenE ?_
      refine X.thenE ?_
      refine X.blkE ?_
      refine X.thenN ?_
      refine C.seq ?_
      refine C.region ?_
      refine St.get h rfl rfl rfl (G.move rfl rfl) fun a h => ?_
      refine St.get h rfl rfl rfl (G.move rfl rfl) fun a h => ?_
      refine St.get h rfl rfl rfl (G.cut (i) _ _ rfl rfl Try.underlying31 Try.sizeOf92 ⟨_, _, rfl, by omega⟩ rfl rfl (by omega) (by omega) (by omega)) fun a h => ?_
      refine St.act0 h rfl rfl (Acts.clear _ 0 (i) rfl rfl rfl (by omega) (fun hne => cutA_ne (by omega)) Try.underlying31 Try.zeroValue92 rfl (by decide)) fun v L a w hp h => ?_
      obtain ⟨rfl, rfl⟩ := hp
      replace h := h.conv (sl' := _) (L' := [_, _, rcells _ _ [_]]) rfl rfl
      refine wpl_nil ?_
      refine X.thenN ?_
      refine C.seq ?_
      refine C.region ?_
      refine St.get h rfl rfl rfl (G.move rfl rfl) fun a h => ?_
      refine St.get h rfl rfl rfl (G.move rfl rfl) fun a h => ?_
      refine St.get h rfl rfl rfl (G.cut _ (i) _ rfl rfl Try.underlying31 Try.sizeOf92 rfl ⟨_, _, rfl, by omega⟩ rfl (by omega) (by omega) (by omega)) fun a h => ?_
      refine St.get h rfl rfl rfl (G.assign rfl rfl) fun a h => ?_
      refine wpl_nil ?_
      refine X.thenN ?_
      refine C.ret ?_
      replace h := h.sel [0] rfl
      replace h := h.conv (sl' := _) (L' := [_]) rfl rfl
      exact h.ret1 Try.results99 rfl (Ent.refl _) (⟨by rw [cutA_zero, hd2]; rfl, by rw [← List.map_take, hd1]⟩)
theorem filter_snd {n : Int} {ws : List (Nat × QW)} : (ws.filter fun x => !decide (x.2.n = n)).map Prod.snd = (ws.map Prod.snd).filter fun x => !decide (x.n = n) := by
  rw [List.filter_map]; rfl
theorem gone_spec (b o : Nat) (q : QM) (n : Int) : Meets Try.prog 77 #[.pointer (some ⟨b, o, none⟩), .int .i64 n] [QAt b o q] (Det (.tuple #[]) [QAt b o { q with works := q.works.filter fun x => !decide (x.n = n) }]) := by
  refine Meets.of_code Try.func77 rfl Try.ntmps77 rfl fun w0 S R a h => ?_
  obtain ⟨gi, ci, gw, cw, ws, hw, h⟩ := h.openQ 0 rfl
  replace h := h.conv (sl' := _) (L' := [cells _ _ [_, _, _], _, _, _]) rfl rfl
  refine C.seq ?_
  refine C.region ?_
  refine St.box h rfl rfl rfl rfl rfl fun b1 a w h => ?_
  replace h := h.conv (sl' := _) (L' := [cells _ _ [_], cells _ _ [_, _, _], _, _, _]) rfl rfl
  refine wpl_nil ?_
  refine X.thenN ?_
  refine C.region ?_
  refine St.get h rfl rfl rfl (G.move rfl rfl) fun a h => ?_
  refine St.get h rfl rfl rfl (G.move rfl rfl) fun a h => ?_
  refine St.get h rfl rfl rfl (G.nilc rfl rfl) fun a h => ?_
  refine St.get h rfl rfl rfl (G.fadr 1 rfl rfl Try.underlying33 rfl rfl Try.sizeOf31) fun a h => ?_
  refine St.get h rfl rfl rfl (G.ld 1 1 rfl rfl rfl rfl rfl Try.isAgg31) fun a h => ?_
  refine St.get h rfl rfl rfl (G.mkf rfl rfl) fun a h => ?_
  refine St.callD h [3] rfl (Ro.cons 3 rfl (many_rmany (WAt_rd _) _) (Ro.cons 0 rfl (cells_ro _ _ _) (Ro.nil _))) ((DeleteFunc_works gw cw ws b1 n)) rfl rfl rfl Try.call99 rfl rfl fun a w h => ?_
  replace h := h.conv (sl' := _) (L' := [_, cells _ _ [_], cells _ _ [_, _, _], _, _]) rfl rfl
  refine St.get h rfl rfl rfl (G.nilc rfl rfl) fun a h => ?_
  refine St.get h rfl rfl rfl (G.fadr 1 rfl rfl Try.underlying33 rfl rfl Try.sizeOf31) fun a h => ?_
  refine St.put h rfl rfl (U.st 2 1 rfl rfl rfl rfl rfl rfl rfl Try.sizeOf31) fun a w h => ?_
  replace h := h.conv (sl' := _) (L' := [_, cells _ _ [_], cells _ _ [_, _, _], _, _]) rfl rfl
  refine wpl_nil ?_
  replace h := h.turn 4 rfl ((stars_one (many_filter (WAt 80) (fun x => !decide (x.2.n = n)) ws)))
  replace h := h.conv (sl' := _) (L' := [_, _, cells _ _ [_], cells _ _ [_, _, _], _]) rfl rfl
  have hw' : (ws.filter fun x => !decide (x.2.n = n)).map Prod.snd = q.works.filter fun x => !decide (x.n = n) := by rw [filter_snd, hw]
  replace h := h.fold [3, 4, 1, 0] rfl ((QAt_mk (q := { q with works := q.works.filter fun x => !decide (x.n = n) }) gi ci gw cw (ws.filter fun x => !decide (x.2.n = n)) hw'))
  replace h := h.conv (sl' := _) (L' := [_, cells _ _ [_]]) rfl rfl
  replace h := h.sel [0] rfl
  replace h := h.conv (sl' := _) (L' := [_]) rfl rfl
  exact h.end0 Try.results77 (Ent.refl _) (⟨rfl, rfl⟩)
end Go.Proofs.Ytllhegccpknncaa
