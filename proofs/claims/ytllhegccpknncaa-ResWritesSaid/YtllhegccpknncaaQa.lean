/-
  The queue's small methods: Next, New, puts, room, fit, decided.
-/
import Derived.Test.YtllhegccpknncaaQnote
import Derived.Test.YtllhegccpknncaaSeat
set_option linter.unusedVariables false
set_option linter.unusedSimpArgs false
set_option linter.unusedSectionVars false
set_option maxRecDepth 8000
namespace Go.Proofs.Ytllhegccpknncaa
open Go.Tr

theorem Next_nil : Meets Try.prog 15 #[.pointer none] [] (Det (.int .i64 0) []) := by
  refine Meets.of_code Try.func15 rfl Try.ntmps15 rfl fun w0 S R a h => ?_
  refine C.seq ?_
  refine C.region ?_
  refine St.get h rfl rfl rfl (G.assign rfl rfl) fun a h => ?_
  refine wpl_nil ?_
  refine X.thenN ?_
  refine C.seq ?_
  refine C.seq ?_
  refine C.region ?_
  refine St.get h rfl rfl rfl (G.move rfl rfl) fun a h => ?_
  refine St.get h rfl rfl rfl (G.bin rfl rfl rfl (B.peql Try.underlying29 _)) fun a h => ?_
  refine wpl_nil ?_
  refine X.thenN ?_
  refine St.condT h rfl ?_
  refine C.seq ?_
  refine C.region ?_
  refine St.get h rfl rfl rfl (G.assign rfl rfl) fun a h => ?_
  refine wpl_nil ?_
  refine X.thenN ?_
  refine C.ret ?_
  refine X.thenR ?_
  exact h.ret1 Try.results15 rfl (Ent.refl _) (⟨rfl, rfl⟩)
theorem Next_open (b o : Nat) (v0 v1 : Value) (g : Int) (h1 : 0 ≤ g) (h2 : g ≤ 4611686018427387904) : Meets Try.prog 15 #[.pointer (some ⟨b, o, none⟩)] [rcells b o [v0, v1, .int .i64 g]] (Det (.int .i64 (g + 1)) []) := by
  refine Meets.of_code Try.func15 rfl Try.ntmps15 rfl fun w0 S R a h => ?_
  refine C.seq ?_
  refine C.region ?_
  refine St.get h rfl rfl rfl (G.assign rfl rfl) fun a h => ?_
  refine wpl_nil ?_
  refine X.thenN ?_
  refine C.seq ?_
  refine C.seq ?_
  refine C.region ?_
  refine St.get h rfl rfl rfl (G.move rfl rfl) fun a h => ?_
  refine St.get h rfl rfl rfl (G.bin rfl rfl rfl (B.peql Try.underlying29 _)) fun a h => ?_
  refine wpl_nil ?_
  refine X.thenN ?_
  refine St.condF h rfl ?_
  refine C.skip ?_
  refine X.thenN ?_
  refine C.seq ?_
  refine C.region ?_
  refine St.get h rfl rfl rfl (G.move rfl rfl) fun a h => ?_
  refine St.get h rfl rfl rfl (G.nilc rfl rfl) fun a h => ?_
  refine St.get h rfl rfl rfl (G.fadr 2 rfl rfl Try.underlying33 rfl rfl Try.sizeOf3) fun a h => ?_
  refine St.get h rfl rfl rfl (G.ldr 0 2 rfl rfl rfl rfl rfl Try.isAgg3) fun a h => ?_
  refine St.get h rfl rfl rfl (G.bin rfl rfl rfl (B.addi (by omega) (by omega))) fun a h => ?_
  refine St.get h rfl rfl rfl (G.assign rfl rfl) fun a h => ?_
  refine wpl_nil ?_
  refine X.thenN ?_
  refine C.ret ?_
  replace h := h.sel [] rfl
  exact h.ret1 Try.results15 rfl (Ent.refl _) (⟨rfl, rfl⟩)
theorem Next_spec (b o : Nat) (q : QM) (hq : q.Good) : Meets Try.prog 15 #[.pointer (some ⟨b, o, none⟩)] [QAt b o q] (Det (.int .i64 (q.given + 1)) [QAt b o q]) := by
  refine Meets.of_code Try.func15 rfl Try.ntmps15 rfl fun w0 S R a h => ?_
  have h1 := hq.lo
  have h2 := hq.hi
  obtain ⟨gi, ci, gw, cw, ws, hw, h⟩ := h.openQ 0 rfl
  replace h := h.conv (sl' := _) (L' := [cells _ _ [_, _, _], _, _, _]) rfl rfl
  refine C.seq ?_
  refine C.region ?_
  refine St.get h rfl rfl rfl (G.assign rfl rfl) fun a h => ?_
  refine wpl_nil ?_
  refine X.thenN ?_
  refine C.seq ?_
  refine C.seq ?_
  refine C.region ?_
  refine St.get h rfl rfl rfl (G.move rfl rfl) fun a h => ?_
  refine St.get h rfl rfl rfl (G.bin rfl rfl rfl (B.peql Try.underlying29 _)) fun a h => ?_
  refine wpl_nil ?_
  refine X.thenN ?_
  refine St.condF h rfl ?_
  refine C.skip ?_
  refine X.thenN ?_
  refine C.seq ?_
  refine C.region ?_
  refine St.get h rfl rfl rfl (G.move rfl rfl) fun a h => ?_
  refine St.get h rfl rfl rfl (G.nilc rfl rfl) fun a h => ?_
  refine St.get h rfl rfl rfl (G.fadr 2 rfl rfl Try.underlying33 rfl rfl Try.sizeOf3) fun a h => ?_
  refine St.get h rfl rfl rfl (G.ld 0 2 rfl rfl rfl rfl rfl Try.isAgg3) fun a h => ?_
  refine St.get h rfl rfl rfl (G.bin rfl rfl rfl (B.addi (by omega) (by omega))) fun a h => ?_
  refine St.get h rfl rfl rfl (G.assign rfl rfl) fun a h => ?_
  refine wpl_nil ?_
  refine X.thenN ?_
  refine C.ret ?_
  replace h := h.fold [0, 1, 2, 3] rfl ((QAt_mk gi ci gw cw ws hw))
  replace h := h.conv (sl' := _) (L' := [_]) rfl rfl
  exact h.ret1 Try.results15 rfl (Ent.refl _) (⟨rfl, rfl⟩)
theorem decided_nil (n : Int) : Meets Try.prog 74 #[.pointer none, .int .i64 n] [] (Det (.int .i64 6) []) := by
  refine Meets.of_code Try.func74 rfl Try.ntmps74 rfl fun w0 S R a h => ?_
  refine C.seq ?_
  refine C.region ?_
  refine St.get h rfl rfl rfl (G.assign rfl rfl) fun a h => ?_
  refine wpl_nil ?_
  refine X.thenN ?_
  refine C.seq ?_
  refine C.seq ?_
  refine C.region ?_
  refine St.get h rfl rfl rfl (G.move rfl rfl) fun a h => ?_
  refine St.get h rfl rfl rfl (G.bin rfl rfl rfl (B.peql Try.underlying29 _)) fun a h => ?_
  refine wpl_nil ?_
  refine X.thenN ?_
  refine St.condT h rfl ?_
  refine C.seq ?_
  refine C.region ?_
  refine St.get h rfl rfl rfl (G.assign rfl rfl) fun a h => ?_
  refine wpl_nil ?_
  refine X.thenN ?_
  refine C.ret ?_
  refine X.thenR ?_
  exact h.ret1 Try.results74 rfl (Ent.refl _) (⟨rfl, rfl⟩)
theorem decided_spec (b o : Nat) (n : Int) : Meets Try.prog 74 #[.pointer (some ⟨b, o, none⟩), .int .i64 n] [] (Det (.int .i64 (decQ n)) []) := by
  refine Meets.of_code Try.func74 rfl Try.ntmps74 rfl fun w0 S R a h => ?_
  refine C.seq ?_
  refine C.region ?_
  refine St.get h rfl rfl rfl (G.assign rfl rfl) fun a h => ?_
  refine wpl_nil ?_
  refine X.thenN ?_
  refine C.seq ?_
  refine C.seq ?_
  refine C.region ?_
  refine St.get h rfl rfl rfl (G.move rfl rfl) fun a h => ?_
  refine St.get h rfl rfl rfl (G.bin rfl rfl rfl (B.peql Try.underlying29 _)) fun a h => ?_
  refine wpl_nil ?_
  refine X.thenN ?_
  refine St.condF h rfl ?_
  refine C.skip ?_
  refine X.thenN ?_
  refine C.seq ?_
  refine C.seq ?_
  refine C.region ?_
  refine St.get h rfl rfl rfl (G.move rfl rfl) fun a h => ?_
  refine St.getP h rfl rfl rfl (G.bin rfl rfl rfl B.lss) (fun hc a h => ?_) (fun hc a h => ?_)
  refine wpl_nil ?_
  refine X.thenN ?_
  refine St.condT h rfl ?_
  refine C.seq ?_
  refine C.region ?_
  refine St.get h rfl rfl rfl (G.assign rfl rfl) fun a h => ?_
  refine wpl_nil ?_
  refine X.thenN ?_
  refine C.ret ?_
  refine X.thenR ?_
  rotate_left
  refine wpl_nil ?_
  refine X.thenN ?_
  refine St.condF h rfl ?_
  refine C.skip ?_
  refine X.thenN ?_
  refine C.seq ?_
  refine C.region ?_
  refine St.get h rfl rfl rfl (G.assign rfl rfl) fun a h => ?_
  refine wpl_nil ?_
  refine X.thenN ?_
  refine C.ret ?_
  rotate_left
  · exact h.ret1 Try.results74 rfl (Ent.refl _) (⟨by simp [decQ, hc], rfl⟩)
  · exact h.ret1 Try.results74 rfl (Ent.refl _) (⟨by simp [decQ, hc], rfl⟩)
theorem putsQ_drop {l : List Ch} {i : Nat} {c : Ch} (h : l[i]? = some c) : putsQ (l.take (i + 1)) = putsQ (l.take i) + (if c.kind = 3 then 1 else 0) := by
  induction l generalizing i with
  | nil => simp at h
  | cons x l ih =>
    cases i with
    | zero => simp at h; subst h; simp [putsQ]
    | succ i => simp at h; simp [putsQ, ih h]; omega
theorem puts_spec (g : Option Addr) (c : Nat) (l : List Ch) : Meets Try.prog 97 #[rlv g l.length c] [rdl encCh g l] (Det (.int .i64 (putsQ l)) []) := by
  refine Meets.of_code Try.func97 rfl Try.ntmps97 rfl fun w0 S R a h => ?_
  have hlen : l.length ≤ 9223372036854775807 := by have := h.tell1 0 rfl fun _ _ _ => rdl_len; simpa using this
  refine C.seq ?_
  refine C.region ?_
  refine St.get h rfl rfl rfl (G.assign rfl rfl) fun a h => ?_
  refine wpl_nil ?_
  refine X.thenN ?_
  refine C.seq ?_
  refine C.region ?_
  refine St.get h rfl rfl rfl (G.assign rfl rfl) fun a h => ?_
  refine wpl_nil ?_
  refine X.thenN ?_
  refine C.seq ?_
  refine C.seq ?_
  refine C.region ?_
  refine St.get h rfl rfl rfl (G.move rfl rfl) fun a h => ?_
  refine St.get h rfl rfl rfl (G.lens rfl rfl Try.underlying23) fun a h => ?_
  refine St.get h rfl rfl rfl (G.move rfl rfl) fun a h => ?_
  refine wpl_nil ?_
  refine X.thenN ?_
  refine C.block ?_
  refine C.loop (fun m a w => ∃ i : Nat, i + m = l.length ∧ St w0 S R 19 [(3, .int .i64 (putsQ (l.take i))), (6, rlv g l.length c), (7, .int .i64 l.length), (8, .int .i64 i)] [rdl encCh g l] a w) l.length ⟨0, by omega, h.sub ⟨rfl, rfl, rfl, rfl, trivial⟩⟩ ?_
  rintro m a w ⟨i, hi, h⟩
  by_cases hlt : i < l.length
  · obtain ⟨x, hx⟩ : ∃ x, l[i]? = some x := ⟨_, List.getElem?_eq_getElem hlt⟩
    have hx1 : l[(i : Int).toNat]? = some x := by simp [hx]
    have hp := putsQ_drop hx
    have hb := putsQ_le (l.take i)
    have hb2 : (l.take i).length ≤ i := by simp; omega
    refine C.seq ?_
    refine C.region ?_
    refine St.get h rfl rfl rfl (G.bin rfl rfl rfl (B.lssT (by omega))) fun a h => ?_
    refine wpl_nil ?_
    refine X.thenN ?_
    refine C.seq ?_
    refine St.condT h rfl ?_
    refine C.skip ?_
    refine X.thenN ?_
    refine C.seq ?_
    refine C.block ?_
    refine C.seq ?_
    refine C.region ?_
    refine St.get h rfl rfl rfl (G.idxr _ 0 rfl rfl rfl rfl (by omega) (by omega) (by omega) Try.underlying23 Try.sizeOf80) fun a h => ?_
    refine St.get h rfl rfl rfl (G.ldea _ 0 rfl (by assumption) rfl rfl rfl rfl Try.isAgg80 Try.sizeOf80) fun a h => ?_
    replace h := h.conv (sl' := (_, .agg #[_, _, _]) :: _) (L' := _) rfl rfl
    refine St.alloc h Try.zeroValue80 rfl rfl rfl rfl fun b1 a w h => ?_
    replace h := h.conv (sl' := _) (L' := [cells _ _ [_, _, _], _]) rfl rfl
    refine St.put h rfl rfl (U.sta 0 0 rfl rfl rfl rfl rfl rfl (by simp [Value.oneCell']) Try.sizeOf80 rfl) fun a w h => ?_
    replace h := h.conv (sl' := _) (L' := [cells _ _ [_, _, _], _]) rfl rfl
    refine wpl_nil ?_
    refine X.thenN ?_
    refine C.seq ?_
    refine C.region ?_
    refine St.get h rfl rfl rfl (G.fadr 0 rfl rfl Try.underlying80 rfl rfl Try.sizeOf3) fun a h => ?_
    refine St.get h rfl rfl rfl (G.ld 0 0 rfl rfl rfl rfl rfl Try.isAgg3) fun a h => ?_
    refine St.getP h rfl rfl rfl (G.bin rfl rfl rfl B.eql) (fun hc a h => ?_) (fun hc a h => ?_)
    refine wpl_nil ?_
    refine X.thenN ?_
    refine St.condT h rfl ?_
    refine C.region ?_
    refine St.get h rfl rfl rfl (G.move rfl rfl) fun a h => ?_
    refine St.get h rfl rfl rfl (G.bin rfl rfl rfl (B.addi (by omega) (by omega))) fun a h => ?_
    refine St.get h rfl rfl rfl (G.assign rfl rfl) fun a h => ?_
    refine wpl_nil ?_
    refine X.blkN ?_
    refine X.thenN ?_
    refine C.region ?_
    refine St.get h rfl rfl rfl (G.bin rfl rfl rfl (B.addi (by omega) (by omega))) fun a h => ?_
    refine St.get h rfl rfl rfl (G.move rfl rfl) fun a h => ?_
    refine wpl_nil ?_
    refine X.thenN ?_
    rotate_left
    refine wpl_nil ?_
    refine X.thenN ?_
    refine St.condF h rfl ?_
    refine C.skip ?_
    refine X.blkN ?_
    refine X.thenN ?_
    refine C.region ?_
    refine St.get h rfl rfl rfl (G.bin rfl rfl rfl (B.addi (by omega) (by omega))) fun a h => ?_
    refine St.get h rfl rfl rfl (G.move rfl rfl) fun a h => ?_
    refine wpl_nil ?_
    refine X.thenN ?_
    rotate_left
    · replace h := h.sel [1] rfl
      replace h := h.conv (sl' := _) (L' := [_]) rfl rfl
      exact ⟨m - 1, by omega, i + 1, by omega, h.sub ⟨by rw [hp, if_pos hc]; rfl, rfl, rfl, rfl, trivial⟩⟩
    · replace h := h.sel [1] rfl
      replace h := h.conv (sl' := _) (L' := [_]) rfl rfl
      exact ⟨m - 1, by omega, i + 1, by omega, h.sub ⟨by rw [hp, if_neg hc, Int.add_zero]; rfl, rfl, rfl, rfl, trivial⟩⟩
  · refine C.seq ?_
    refine C.region ?_
    refine St.get h rfl rfl rfl (G.bin rfl rfl rfl (B.lssF (by omega))) fun a h => ?_
    refine wpl_nil ?_
    refine X.thenN ?_
    refine C.seq ?_
    refine St.condF h rfl ?_
    refine C.exit ?_
    refine X.thenE ?_
    refine X.thenE ?_
    refine X.blkE ?_
    refine X.thenN ?_
    refine C.seq ?_
    refine C.region ?_
    refine St.get h rfl rfl rfl (G.move rfl rfl) fun a h => ?_
    refine St.get h rfl rfl rfl (G.assign rfl rfl) fun a h => ?_
    refine wpl_nil ?_
    refine X.thenN ?_
    refine C.ret ?_
    replace h := h.sel [] rfl
    exact h.ret1 Try.results97 rfl (Ent.refl _) (⟨by rw [List.take_of_length_le (by omega)], rfl⟩)
theorem putsAll_drop {l : List QW} {i : Nat} {c : QW} (h : l[i]? = some c) : putsAll (l.take (i + 1)) = putsAll (l.take i) + putsQ c.list := by
  induction l generalizing i with
  | nil => simp at h
  | cons x l ih =>
    cases i with
    | zero => simp at h; subst h; simp [putsAll]
    | succ i => simp at h; simp [putsAll, ih h]; omega
theorem set_self {α : Type} {l : List α} {i : Nat} {x : α} (h : l[i]? = some x) : l.set i x = l := by
  obtain ⟨h1, rfl⟩ := List.getElem?_eq_some_iff.1 h
  exact List.set_getElem_self h1
theorem room_spec (b o : Nat) (q : QM) (hq : q.Good) : Meets Try.prog 72 #[.pointer (some ⟨b, o, none⟩)] [QAt b o q] (Det (.int .i64 (roomQ q)) [QAt b o q]) := by
  refine Meets.of_code Try.func72 rfl Try.ntmps72 rfl fun w0 S R a h => ?_
  obtain ⟨gi, ci, gw, cw, ws, hw, h⟩ := h.openQ 0 rfl
  have hwl : ws.length = q.works.length := by rw [← hw]; simp
  have h1 := hq.items
  have h2 := hq.works
  have h3 := putsAll_le q.works hq.lists
  have h4 := hq.lo
  have h5 := hq.hi
  replace h := h.conv (sl' := _) (L' := [cells _ _ [_, _, _], _, _, _]) rfl rfl
  refine C.seq ?_
  refine C.region ?_
  refine St.get h rfl rfl rfl (G.assign rfl rfl) fun a h => ?_
  refine wpl_nil ?_
  refine X.thenN ?_
  refine C.seq ?_
  refine C.region ?_
  refine St.get h rfl rfl rfl (G.assign rfl rfl) fun a h => ?_
  refine wpl_nil ?_
  refine X.thenN ?_
  refine C.seq ?_
  refine C.seq ?_
  refine C.region ?_
  refine St.get h rfl rfl rfl (G.move rfl rfl) fun a h => ?_
  refine St.get h rfl rfl rfl (G.nilc rfl rfl) fun a h => ?_
  refine St.get h rfl rfl rfl (G.fadr 1 rfl rfl Try.underlying33 rfl rfl Try.sizeOf31) fun a h => ?_
  refine St.get h rfl rfl rfl (G.ld 0 1 rfl rfl rfl rfl rfl Try.isAgg31) fun a h => ?_
  refine St.get h rfl rfl rfl (G.lens rfl rfl Try.underlying31) fun a h => ?_
  refine St.get h rfl rfl rfl (G.move rfl rfl) fun a h => ?_
  refine wpl_nil ?_
  refine X.thenN ?_
  refine C.block ?_
  refine C.loop (fun m a w => ∃ i : Nat, i + m = ws.length ∧ St w0 S R 37 [(0, .pointer (some ⟨b, o, none⟩)), (3, .int .i64 (putsAll (q.works.take i))), (9, rlv gw ws.length cw), (10, .int .i64 ws.length), (11, .int .i64 i)]
    [cells b o [rlv gi q.items.length ci, rlv gw ws.length cw, .int .i64 q.given], ownl encQI 91 gi ci q.items, ownl encPtr 92 gw cw (ws.map Prod.fst), many (WAt 80) ws] a w) ws.length ⟨0, by omega, h.sub ⟨rfl, rfl, rfl, rfl, rfl, trivial⟩⟩ ?_
  rintro m a w ⟨i, hi, h⟩
  by_cases hlt : i < ws.length
  · obtain ⟨p, hp⟩ : ∃ p, ws[i]? = some p := ⟨_, List.getElem?_eq_getElem hlt⟩
    have hp1 : (ws.map Prod.fst)[(i : Int).toNat]? = some p.1 := by simp [hp]
    have hp2 : q.works[i]? = some p.2 := by rw [← hw]; simp [hp]
    have hll : ws.length ≤ (ws.map Prod.fst).length := by simp
    have hpd := putsAll_drop hp2
    have hb := putsAll_le (q.works.take i) fun w hw => hq.lists w (List.mem_of_mem_take hw)
    have hb2 : (q.works.take i).length ≤ i := by simp; omega
    have hb3 := putsQ_le p.2.list
    have hb4 := hq.lists p.2 (List.mem_of_getElem? hp2)
    replace h := h.turn 3 rfl ((many_takeL (WAt _) hp))
    replace h := h.conv (sl' := _) (L' := [_, _, cells _ _ [_, _, _], _, _]) rfl rfl
    obtain ⟨g1, c1, h⟩ := h.openW 0 rfl
    replace h := h.conv (sl' := _) (L' := [cells _ _ [_, _, _], _, _, cells _ _ [_, _, _], _, _]) rfl rfl
    refine C.seq ?_
    refine C.region ?_
    refine St.get h rfl rfl rfl (G.bin rfl rfl rfl (B.lssT (by omega))) fun a h => ?_
    refine wpl_nil ?_
    refine X.thenN ?_
    refine C.seq ?_
    refine St.condT h rfl ?_
    refine C.skip ?_
    refine X.thenN ?_
    refine C.seq ?_
    refine C.block ?_
    refine C.seq ?_
    refine C.region ?_
    refine St.get h rfl rfl rfl (G.idxo _ 5 rfl rfl rfl rfl (by omega) (by omega) (by omega) Try.underlying31 Try.sizeOf92) fun a h => ?_
    refine St.get h rfl rfl rfl (G.ldo _ 5 0 rfl (by assumption) rfl rfl rfl rfl rfl Try.isAgg92) fun a h => ?_
    refine St.get h rfl rfl rfl (G.assign rfl rfl) fun a h => ?_
    refine wpl_nil ?_
    refine X.thenN ?_
    refine C.region ?_
    refine St.get h rfl rfl rfl (G.move rfl rfl) fun a h => ?_
    refine St.get h rfl rfl rfl (G.move rfl rfl) fun a h => ?_
    refine St.get h rfl rfl rfl (G.nilc rfl rfl) fun a h => ?_
    refine St.get h rfl rfl rfl (G.fadr 1 rfl rfl Try.underlying122 rfl rfl Try.sizeOf23) fun a h => ?_
    refine St.get h rfl rfl rfl (G.ld 0 1 rfl rfl rfl rfl rfl Try.isAgg23) fun a h => ?_
    refine St.callD h [] rfl (Ro.cons 1 rfl (ownl_ro _ _ _ _ _) (Ro.nil _)) ((puts_spec g1 c1 p.2.list)) rfl rfl rfl Try.call97 rfl rfl fun a w h => ?_
    replace h := h.conv (sl' := _) (L' := [cells _ _ [_, _, _], _, _, cells _ _ [_, _, _], _, _]) rfl rfl
    refine St.get h rfl rfl rfl (G.bin rfl rfl rfl (B.addi (by omega) (by omega))) fun a h => ?_
    refine St.get h rfl rfl rfl (G.assign rfl rfl) fun a h => ?_
    refine wpl_nil ?_
    refine X.blkN ?_
    refine X.thenN ?_
    refine C.region ?_
    refine St.get h rfl rfl rfl (G.bin rfl rfl rfl (B.addi (by omega) (by omega))) fun a h => ?_
    refine St.get h rfl rfl rfl (G.move rfl rfl) fun a h => ?_
    refine wpl_nil ?_
    refine X.thenN ?_
    replace h := h.fold [0, 1] rfl ((WAt_mk _ _ _ _ _ _ _))
    replace h := h.conv (sl' := _) (L' := [_, _, cells _ _ [_, _, _], _, _]) rfl rfl
    replace h := h.fold [0, 1] rfl ((many_putL (WAt _) p hp))
    replace h := h.conv (sl' := _) (L' := [_, cells _ _ [_, _, _], _, _]) rfl rfl
    replace h := h.sel [1, 2, 3, 0] rfl
    replace h := h.conv (sl' := _) (L' := [cells _ _ [_, _, _], _, _, _]) rfl rfl
    exact ⟨m - 1, by omega, i + 1, by omega, (h.conv rfl (L' := [_, _, _, many (WAt 80) ws]) (by rw [set_self hp])).sub ⟨rfl, by rw [hpd]; rfl, rfl, rfl, rfl, trivial⟩⟩
  · have hi' : i = q.works.length := by omega
    rw [hi', List.take_of_length_le (Nat.le_refl _)] at h
    refine C.seq ?_
    refine C.region ?_
    refine St.get h rfl rfl rfl (G.bin rfl rfl rfl (B.lssF (by omega))) fun a h => ?_
    refine wpl_nil ?_
    refine X.thenN ?_
    refine C.seq ?_
    refine St.condF h rfl ?_
    refine C.exit ?_
    refine X.thenE ?_
    refine X.thenE ?_
    refine X.blkE ?_
    refine X.thenN ?_
    refine C.seq ?_
    refine C.anyAt Try_mixed 15 15 [0] (LB := [_]) h rfl rfl fun w h hcl hI => ?_
    refine St.takeP h 0 15 1 rfl (by decide +kernel) hcl hI (wanted_of rfl _) rfl rfl (G.move rfl rfl) (fun _ _ _ x => x) fun a h hcl hI => ?_
    refine St.takeP h 1 15 3 rfl (by decide +kernel) hcl hI (wanted_of rfl _) rfl rfl (G.nilc rfl rfl) (fun _ _ _ x => x) fun a h hcl hI => ?_
    refine St.takeP h 2 15 7 rfl (by decide +kernel) hcl hI (wanted_of rfl _) rfl rfl (G.fadr 0 rfl rfl Try.underlying33 rfl rfl Try.sizeOf30) (fun _ _ _ x => x) fun a h hcl hI => ?_
    refine St.takeL h 3 15 15 rfl (by decide +kernel) hcl hI (wanted_of rfl _) rfl rfl (G.ld 0 0 rfl rfl rfl rfl rfl Try.isAgg30) (fun _ _ _ x => x) fun a h hcl hI => ?_
    refine St.takeP h 4 15 31 rfl (by decide +kernel) hcl hI (wanted_of rfl _) rfl rfl (G.lens rfl rfl Try.underlying30) (fun _ _ _ x => x) fun a h hcl hI => ?_
    refine St.takeP h 5 15 63 rfl (by decide +kernel) hcl hI (wanted_of rfl _) rfl rfl (G.bin rfl rfl rfl (B.subi (by omega) (by omega))) (fun _ _ _ x => x) fun a h hcl hI => ?_
    refine St.takeP h 6 15 127 rfl (by decide +kernel) hcl hI (wanted_of rfl _) rfl rfl (G.move rfl rfl) (fun _ _ _ x => x) fun a h hcl hI => ?_
    refine St.takeP h 7 15 255 rfl (by decide +kernel) hcl hI (wanted_of rfl _) rfl rfl (G.bin rfl rfl rfl (B.subi (by omega) (by omega))) (fun _ _ _ x => x) fun a h hcl hI => ?_
    refine St.takeP h 8 15 511 rfl (by decide +kernel) hcl hI (wanted_of rfl _) rfl rfl (G.move rfl rfl) (fun _ _ _ x => x) fun a h hcl hI => ?_
    refine St.takeP h 11 15 2559 rfl (by decide +kernel) hcl hI (wanted_of rfl _) rfl rfl (G.move rfl rfl) (fun _ _ _ x => x) fun a h hcl hI => ?_
    refine oneL 9 3071 rfl (by decide +kernel) hcl (wanted_of rfl _) fun hcl => ?_
    refine St.callK h [] rfl (Ro.cons 0 rfl (cells_ro _ _ _) (Ro.nil _)) ((Next_open b o (rlv gi q.items.length ci) (rlv gw ws.length cw) q.given h4 h5)) rfl rfl Try.call15 rfl rfl fun v L a w hp h => ?_
    obtain ⟨rfl, rfl⟩ := hp
    replace h := h.conv (sl' := _) (L' := [cells _ _ [_, _, _], _, _, _]) rfl rfl
    refine St.onL h [0] (LB := [_]) rfl fun hI => ?_
    refine St.takeP h 10 15 4095 rfl (by decide +kernel) hcl hI (wanted_of rfl _) rfl rfl (G.bin rfl rfl rfl (B.subi (by omega) (by omega))) (fun _ _ _ x => x) fun a h hcl hI => ?_
    refine St.takeP h 12 15 8191 rfl (by decide +kernel) hcl hI (wanted_of rfl _) rfl rfl (G.bin rfl rfl rfl (B.subi (by omega) (by omega))) (fun _ _ _ x => x) fun a h hcl hI => ?_
    refine St.takeP h 13 15 16383 rfl (by decide +kernel) hcl hI (wanted_of rfl _) rfl rfl (G.blt rfl rfl B.min) (fun _ _ _ x => x) fun a h hcl hI => ?_
    refine St.takeP h 14 15 32767 rfl (by decide +kernel) hcl hI (wanted_of rfl _) rfl rfl (G.assign rfl rfl) (fun _ _ _ x => x) fun a h hcl hI => ?_
    refine doneL (by decide +kernel) ?_
    refine X.thenN ?_
    refine C.ret ?_
    replace h := h.fold [0, 1, 2, 3] rfl ((QAt_mk gi ci gw cw ws hw))
    replace h := h.conv (sl' := _) (L' := [_]) rfl rfl
    exact h.ret1 Try.results72 rfl (Ent.refl _) (⟨by unfold roomQ; congr 1; split <;> omega, rfl⟩)
theorem WAt_tell2 (e : TypeId) (p : Nat × QW) : Tell (WAt e p) p.1 2 (.bool p.2.prep) :=
  Tell.ex fun _ => Tell.stars (Tells.of 0 rfl (Tell.cells 2 rfl rfl))
theorem fit_nil (n : Int) : Meets Try.prog 71 #[.pointer none, .int .i64 n] [] (Det (.int .i64 6) []) := by
  refine Meets.of_code Try.func71 rfl Try.ntmps71 rfl fun w0 S R a h => ?_
  refine C.seq ?_
  refine C.region ?_
  refine St.get h rfl rfl rfl (G.assign rfl rfl) fun a h => ?_
  refine wpl_nil ?_
  refine X.thenN ?_
  refine C.seq ?_
  refine C.seq ?_
  refine C.region ?_
  refine St.get h rfl rfl rfl (G.move rfl rfl) fun a h => ?_
  refine St.get h rfl rfl rfl (G.bin rfl rfl rfl (B.peql Try.underlying29 _)) fun a h => ?_
  refine wpl_nil ?_
  refine X.thenN ?_
  refine St.condT h rfl ?_
  refine C.seq ?_
  refine C.region ?_
  refine St.get h rfl rfl rfl (G.assign rfl rfl) fun a h => ?_
  refine wpl_nil ?_
  refine X.thenN ?_
  refine C.ret ?_
  refine X.thenR ?_
  exact h.ret1 Try.results71 rfl (Ent.refl _) (⟨rfl, rfl⟩)
theorem fit_spec (b o : Nat) (q : QM) (n : Int) : Meets Try.prog 71 #[.pointer (some ⟨b, o, none⟩), .int .i64 n] [QAt b o q] (Det (.int .i64 (fitQ q n)) [QAt b o q]) := by
  refine Meets.of_code Try.func71 rfl Try.ntmps71 rfl fun w0 S R a h => ?_
  refine C.seq ?_
  refine C.region ?_
  refine St.get h rfl rfl rfl (G.assign rfl rfl) fun a h => ?_
  refine wpl_nil ?_
  refine X.thenN ?_
  refine C.seq ?_
  refine C.seq ?_
  refine C.region ?_
  refine St.get h rfl rfl rfl (G.move rfl rfl) fun a h => ?_
  refine St.get h rfl rfl rfl (G.bin rfl rfl rfl (B.peql Try.underlying29 _)) fun a h => ?_
  refine wpl_nil ?_
  refine X.thenN ?_
  refine St.condF h rfl ?_
  refine C.skip ?_
  refine X.thenN ?_
  refine C.seq ?_
  refine C.seq ?_
  refine C.region ?_
  refine St.get h rfl rfl rfl (G.move rfl rfl) fun a h => ?_
  refine St.getP h rfl rfl rfl (G.bin rfl rfl rfl B.lss) (fun hc a h => ?_) (fun hc a h => ?_)
  refine wpl_nil ?_
  refine X.thenN ?_
  refine St.condT h rfl ?_
  refine C.seq ?_
  refine C.region ?_
  refine St.get h rfl rfl rfl (G.assign rfl rfl) fun a h => ?_
  refine wpl_nil ?_
  refine X.thenN ?_
  refine C.ret ?_
  refine X.thenR ?_
  rotate_left
  refine wpl_nil ?_
  refine X.thenN ?_
  refine St.condF h rfl ?_
  refine C.skip ?_
  refine X.thenN ?_
  refine C.seq ?_
  refine C.seq ?_
  refine C.region ?_
  refine St.get h rfl rfl rfl (G.move rfl rfl) fun a h => ?_
  refine St.get h rfl rfl rfl (G.move rfl rfl) fun a h => ?_
  rotate_left
  · exact h.ret1 Try.results71 rfl (Ent.refl _) (⟨by simp [fitQ, hc], rfl⟩)
  · obtain ⟨gi, ci, gw, cw, ws, hw, h⟩ := h.openQ 0 rfl
    have hfs := find_spec b o n (rlv gi q.items.length ci) (.int .i64 q.given) gw cw ws
    rcases hq : findW n ws with _ | pq
    · rw [hq] at hfs
      have hn := findW_none' hq
      refine St.callD h [0, 1, 1] rfl (Ro.nil _) (hfs) rfl rfl rfl Try.call51 rfl rfl fun a w h => ?_
      replace h := h.conv (sl' := _) (L' := [cells _ _ [_, _, _], _, _, _]) rfl rfl
      refine St.get h rfl rfl rfl (G.assign rfl rfl) fun a h => ?_
      refine wpl_nil ?_
      refine X.thenN ?_
      refine C.seq ?_
      refine C.region ?_
      refine St.get h rfl rfl rfl (G.move rfl rfl) fun a h => ?_
      refine St.get h rfl rfl rfl (G.bin rfl rfl rfl (B.pneq Try.underlying92 _)) fun a h => ?_
      refine St.get h rfl rfl rfl (G.move rfl rfl) fun a h => ?_
      refine St.guard_no h rfl rfl rfl rfl rfl (by decide) rfl rfl fun a h => ?_
      refine St.guard_no h rfl rfl rfl rfl rfl (by decide) rfl rfl fun a h => ?_
      refine St.guard_no h rfl rfl rfl rfl rfl (by decide) rfl rfl fun a h => ?_
      refine St.guard_no h rfl rfl rfl rfl rfl (by decide) rfl rfl fun a h => ?_
      refine St.get h rfl rfl rfl (G.pickF rfl rfl rfl) fun a h => ?_
      refine wpl_nil ?_
      refine X.thenN ?_
      refine St.condF h rfl ?_
      refine C.skip ?_
      refine X.thenN ?_
      refine C.seq ?_
      refine C.region ?_
      refine St.get h rfl rfl rfl (G.assign rfl rfl) fun a h => ?_
      refine wpl_nil ?_
      refine X.thenN ?_
      refine C.ret ?_
      replace h := h.fold [0, 3, 1, 2] rfl ((QAt_mk gi ci gw cw ws hw))
      replace h := h.conv (sl' := _) (L' := [_]) rfl rfl
      exact h.ret1 Try.results71 rfl (Ent.refl _) (⟨by simp [fitQ, hc, ← hw, hn], rfl⟩)
    · rw [hq] at hfs
      obtain ⟨i, p, hi, rfl, hpn, hn⟩ := findW_some' hq
      have ht : Tell (many (WAt 80) ws) p.1 2 (.bool p.2.prep) := Tell.many hi (WAt_tell2 _ p)
      have hgo : ∀ t, p.2.prep = t → fitQ q n = if t then 7 else 0 := fun t e => by simp [fitQ, hc, ← hw, hn, e]
      refine St.callD h [0, 1, 1] rfl (Ro.nil _) (hfs) rfl rfl rfl Try.call51 rfl rfl fun a w h => ?_
      replace h := h.conv (sl' := _) (L' := [cells _ _ [_, _, _], _, _, _]) rfl rfl
      refine St.get h rfl rfl rfl (G.assign rfl rfl) fun a h => ?_
      refine wpl_nil ?_
      refine X.thenN ?_
      refine C.seq ?_
      refine C.region ?_
      refine St.get h rfl rfl rfl (G.move rfl rfl) fun a h => ?_
      refine St.get h rfl rfl rfl (G.bin rfl rfl rfl (B.pneq Try.underlying92 _)) fun a h => ?_
      refine St.get h rfl rfl rfl (G.move rfl rfl) fun a h => ?_
      refine St.guard_yes h rfl rfl rfl rfl rfl ?_
      refine St.get h rfl rfl rfl (G.move rfl rfl) fun a h => ?_
      refine St.guard_yes h rfl rfl rfl rfl rfl ?_
      refine St.get h rfl rfl rfl (G.nilc rfl rfl) fun a h => ?_
      refine St.guard_yes h rfl rfl rfl rfl rfl ?_
      refine St.get h rfl rfl rfl (G.fadr 2 rfl rfl Try.underlying122 rfl rfl Try.sizeOf4) fun a h => ?_
      refine St.guard_yes h rfl rfl rfl rfl rfl ?_
      refine St.get h rfl rfl rfl (G.ldt (Tells.of 2 rfl ht) rfl rfl Try.isAgg4) fun a h => ?_
      refine St.get h rfl rfl rfl (G.pickT rfl rfl rfl) fun a h => ?_
      refine wpl_nil ?_
      refine X.thenN ?_
      refine St.cond h rfl (fun hc1 => ?_) (fun hc1 => ?_)
      refine C.seq ?_
      refine C.region ?_
      refine St.get h rfl rfl rfl (G.assign rfl rfl) fun a h => ?_
      refine wpl_nil ?_
      refine X.thenN ?_
      refine C.ret ?_
      refine X.thenR ?_
      rotate_left
      refine C.skip ?_
      refine X.thenN ?_
      refine C.seq ?_
      refine C.region ?_
      refine St.get h rfl rfl rfl (G.assign rfl rfl) fun a h => ?_
      refine wpl_nil ?_
      refine X.thenN ?_
      refine C.ret ?_
      rotate_left
      · replace h := h.fold [0, 3, 1, 2] rfl ((QAt_mk gi ci gw cw ws hw))
        replace h := h.conv (sl' := _) (L' := [_]) rfl rfl
        exact h.ret1 Try.results71 rfl (Ent.refl _) (⟨by rw [hgo _ hc1]; rfl, rfl⟩)
      · replace h := h.fold [0, 3, 1, 2] rfl ((QAt_mk gi ci gw cw ws hw))
        replace h := h.conv (sl' := _) (L' := [_]) rfl rfl
        exact h.ret1 Try.results71 rfl (Ent.refl _) (⟨by rw [hgo _ hc1]; rfl, rfl⟩)
theorem Put_nil (n v : Int) : Meets Try.prog 37 #[.pointer none, .int .i64 n, .int .u64 v] [] (Det (.int .i64 6) []) := by
  refine Meets.of_code Try.func37 rfl Try.ntmps37 rfl fun w0 S R a h => ?_
  refine C.seq ?_
  refine C.region ?_
  refine St.get h rfl rfl rfl (G.assign rfl rfl) fun a h => ?_
  refine wpl_nil ?_
  refine X.thenN ?_
  refine C.seq ?_
  refine C.seq ?_
  refine C.region ?_
  refine St.get h rfl rfl rfl (G.move rfl rfl) fun a h => ?_
  refine St.get h rfl rfl rfl (G.move rfl rfl) fun a h => ?_
  refine St.callD h [] rfl (Ro.nil _) ((fit_nil n)) rfl rfl rfl Try.call71 rfl rfl fun a w h => ?_
  replace h := h.conv (sl' := _) (L' := []) rfl rfl
  refine St.get h rfl rfl rfl (G.assign rfl rfl) fun a h => ?_
  refine wpl_nil ?_
  refine X.thenN ?_
  refine C.seq ?_
  refine C.region ?_
  refine St.get h rfl rfl rfl (G.move rfl rfl) fun a h => ?_
  refine St.get h rfl rfl rfl (G.bin rfl rfl rfl (B.neqT (by omega))) fun a h => ?_
  refine wpl_nil ?_
  refine X.thenN ?_
  refine St.condT h rfl ?_
  refine C.seq ?_
  refine C.region ?_
  refine St.get h rfl rfl rfl (G.move rfl rfl) fun a h => ?_
  refine St.get h rfl rfl rfl (G.assign rfl rfl) fun a h => ?_
  refine wpl_nil ?_
  refine X.thenN ?_
  refine C.ret ?_
  refine X.thenR ?_
  exact h.ret1 Try.results37 rfl (Ent.refl _) (⟨rfl, rfl⟩)
theorem Put_spec (b o : Nat) (q : QM) (n v : Int) (hq : q.Good) : Meets Try.prog 37 #[.pointer (some ⟨b, o, none⟩), .int .i64 n, .int .u64 v] [QAt b o q] (Det (.int .i64 (putQ q n v).1) [QAt b o (putQ q n v).2]) := by
  refine Meets.of_code Try.func37 rfl Try.ntmps37 rfl fun w0 S R a h => ?_
  refine C.seq ?_
  refine C.region ?_
  refine St.get h rfl rfl rfl (G.assign rfl rfl) fun a h => ?_
  refine wpl_nil ?_
  refine X.thenN ?_
  refine C.seq ?_
  refine C.seq ?_
  refine C.region ?_
  refine St.get h rfl rfl rfl (G.move rfl rfl) fun a h => ?_
  refine St.get h rfl rfl rfl (G.move rfl rfl) fun a h => ?_
  refine St.callD h [0] rfl (Ro.nil _) ((fit_spec b o q n)) rfl rfl rfl Try.call71 rfl rfl fun a w h => ?_
  replace h := h.conv (sl' := _) (L' := [_]) rfl rfl
  refine St.get h rfl rfl rfl (G.assign rfl rfl) fun a h => ?_
  refine wpl_nil ?_
  refine X.thenN ?_
  refine C.seq ?_
  refine C.region ?_
  refine St.get h rfl rfl rfl (G.move rfl rfl) fun a h => ?_
  refine St.getP h rfl rfl rfl (G.bin rfl rfl rfl B.neq) (fun hc a h => ?_) (fun hc a h => ?_)
  refine wpl_nil ?_
  refine X.thenN ?_
  refine St.condT h rfl ?_
  refine C.seq ?_
  refine C.region ?_
  refine St.get h rfl rfl rfl (G.move rfl rfl) fun a h => ?_
  refine St.get h rfl rfl rfl (G.assign rfl rfl) fun a h => ?_
  refine wpl_nil ?_
  refine X.thenN ?_
  refine C.ret ?_
  refine X.thenR ?_
  rotate_left
  refine wpl_nil ?_
  refine X.thenN ?_
  refine St.condF h rfl ?_
  refine C.skip ?_
  refine X.thenN ?_
  refine C.seq ?_
  refine C.seq ?_
  refine C.region ?_
  refine St.get h rfl rfl rfl (G.move rfl rfl) fun a h => ?_
  rotate_left
  · have e : putQ q n v = (fitQ q n, q) := by simp [putQ, hc]
    rw [e]
    exact h.ret1 Try.results37 rfl (Ent.refl _) (⟨rfl, rfl⟩)
  · refine St.callD h [0] rfl (Ro.nil _) ((room_spec b o q hq)) rfl rfl rfl Try.call72 rfl rfl fun a w h => ?_
    replace h := h.conv (sl' := _) (L' := [_]) rfl rfl
    refine St.getP h rfl rfl rfl (G.bin rfl rfl rfl B.lss) (fun hc1 a h => ?_) (fun hc1 a h => ?_)
    refine wpl_nil ?_
    refine X.thenN ?_
    refine St.condT h rfl ?_
    refine C.seq ?_
    refine C.region ?_
    refine St.get h rfl rfl rfl (G.assign rfl rfl) fun a h => ?_
    refine wpl_nil ?_
    refine X.thenN ?_
    refine C.ret ?_
    refine X.thenR ?_
    rotate_left
    refine wpl_nil ?_
    refine X.thenN ?_
    refine St.condF h rfl ?_
    refine C.skip ?_
    refine X.thenN ?_
    refine C.seq ?_
    refine C.region ?_
    refine St.get h rfl rfl rfl (G.move rfl rfl) fun a h => ?_
    refine St.get h rfl rfl rfl (G.move rfl rfl) fun a h => ?_
    refine St.get h rfl rfl rfl (G.move rfl rfl) fun a h => ?_
    refine St.get h rfl rfl rfl (G.build [(0, 1), (1, 1), (2, 1)] rfl rfl Try.zeroValue80 Try.underlying80 ⟨rfl, Try.sizeOf3, rfl, Try.sizeOf3, rfl, Try.sizeOf22, trivial⟩ rfl) fun a h => ?_
    replace h := h.conv (sl' := (_, .agg #[.int _ _, _, .int _ _]) :: _) (L' := _) rfl rfl
    rotate_left
    · have e : putQ q n v = (5, q) := by simp [putQ, hc, hc1]
      rw [e]
      exact h.ret1 Try.results37 rfl (Ent.refl _) (⟨rfl, rfl⟩)
    · have e : putQ q n v = (0, { q with works := noteM n ⟨3, 0, v⟩ q.works }) := by simp [putQ, hc, hc1]
      rw [e]
      obtain ⟨gi, ci, gw, cw, ws, hw, h⟩ := h.openQ 0 rfl
      refine St.call h [0, 1, 1] rfl (Ro.nil _) ((note_spec b o n ⟨3, 0, v⟩ (rlv gi q.items.length ci) (.int .i64 q.given) gw cw ws (hq.lens hw).1 (hq.lens hw).2)) rfl rfl rfl Try.call73 rfl rfl fun v L a w hp h => ?_
      obtain ⟨rfl, gw', cw', ws', hw', rfl⟩ := hp
      replace h := h.conv (sl' := _) (L' := [cells _ _ [_, _, _], _, _, _]) rfl rfl
      refine wpl_nil ?_
      refine X.thenN ?_
      refine C.seq ?_
      refine C.region ?_
      refine St.get h rfl rfl rfl (G.assign rfl rfl) fun a h => ?_
      refine wpl_nil ?_
      refine X.thenN ?_
      refine C.ret ?_
      replace h := h.fold [0, 3, 1, 2] rfl ((QAt_mk (q := { q with works := noteM n ⟨3, 0, v⟩ q.works }) gi ci gw' cw' ws' (by rw [hw', hw])))
      replace h := h.conv (sl' := _) (L' := [_]) rfl rfl
      exact h.ret1 Try.results37 rfl (Ent.refl _) (⟨rfl, rfl⟩)
end Go.Proofs.Ytllhegccpknncaa
