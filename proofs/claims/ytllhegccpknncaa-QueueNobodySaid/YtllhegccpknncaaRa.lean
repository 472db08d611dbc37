/-
  The document's queue: Find, may, Puts, Room, note, Put.
-/
import Derived.Test.YtllhegccpknncaaRmd
import Derived.Test.YtllhegccpknncaaSeat
set_option linter.unusedVariables false
set_option linter.unusedSimpArgs false
set_option linter.unusedSectionVars false
set_option maxRecDepth 8000
namespace Go.Proofs.Ytllhegccpknncaa
open Go.Tr

theorem Find_spec (b o : Nat) (n : Int) (v0 v2 : Value) (g : Option Addr) (c : Nat) (ws : List (Nat × QW)) :
    Meets Try.prog 85 #[.pointer (some ⟨b, o, none⟩), .int .i64 n] [cells b o [v0, rlv g ws.length c, v2], ownl encPtr 133 g c (ws.map Prod.fst), many (WAt 80) ws]
      (Det (pv (findW n ws)) [cells b o [v0, rlv g ws.length c, v2], ownl encPtr 133 g c (ws.map Prod.fst), many (WAt 80) ws]) := by
  refine Meets.of_code Try.func85 rfl Try.ntmps85 rfl fun w0 S R a h => ?_
  have hlen : ws.length ≤ 9223372036854775807 := by have := h.tell1 1 rfl fun _ _ _ => ownl_len; simpa using this
  refine C.seq ?_
  refine C.region ?_
  refine St.get h rfl rfl rfl (G.assign rfl rfl) fun a h => ?_
  refine wpl_nil ?_
  refine X.thenN ?_
  refine C.seq ?_
  refine C.seq ?_
  refine C.region ?_
  refine St.get h rfl rfl rfl (G.assign rfl rfl) fun a h => ?_
  refine wpl_nil ?_
  refine X.thenN ?_
  refine C.block ?_
  refine C.loop (fun m a w => ∃ i : Nat, i + m = ws.length ∧ findW n ws = findW n (ws.drop i) ∧ St w0 S R 34 [(0, .pointer (some ⟨b, o, none⟩)), (1, .int .i64 n), (5, .int .i64 i)]
    [cells b o [v0, rlv g ws.length c, v2], ownl encPtr 133 g c (ws.map Prod.fst), many (WAt 80) ws] a w) ws.length ⟨0, by omega, rfl, h.sub ⟨rfl, rfl, rfl, trivial⟩⟩ ?_
  rintro m a w ⟨i, hi, hf, h⟩
  by_cases hlt : i < ws.length
  · obtain ⟨p, hp⟩ : ∃ p, ws[i]? = some p := ⟨_, List.getElem?_eq_getElem hlt⟩
    have hp1 : (ws.map Prod.fst)[(i : Int).toNat]? = some p.1 := by simp [hp]
    have ht : Tell (many (WAt 80) ws) p.1 0 (.int .i64 p.2.n) := Tell.many hp (WAt_tell _ p)
    have hll : ws.length ≤ (ws.map Prod.fst).length := by simp
    refine C.seq ?_
    refine C.seq ?_
    refine C.region ?_
    refine St.get h rfl rfl rfl (G.move rfl rfl) fun a h => ?_
    refine St.get h rfl rfl rfl (G.move rfl rfl) fun a h => ?_
    refine St.get h rfl rfl rfl (G.nilc rfl rfl) fun a h => ?_
    refine St.get h rfl rfl rfl (G.fadr 1 rfl rfl Try.underlying42 rfl rfl Try.sizeOf40) fun a h => ?_
    refine St.get h rfl rfl rfl (G.ld 0 1 rfl rfl rfl rfl rfl Try.isAgg40) fun a h => ?_
    refine St.get h rfl rfl rfl (G.lens rfl rfl Try.underlying40) fun a h => ?_
    refine St.get h rfl rfl rfl (G.bin rfl rfl rfl (B.lssT (by omega))) fun a h => ?_
    refine wpl_nil ?_
    refine X.thenN ?_
    refine St.condT h rfl ?_
    refine C.skip ?_
    refine X.thenN ?_
    refine C.seq ?_
    refine C.block ?_
    refine C.seq ?_
    refine C.region ?_
    refine St.get h rfl rfl rfl (G.move rfl rfl) fun a h => ?_
    refine St.get h rfl rfl rfl (G.nilc rfl rfl) fun a h => ?_
    refine St.get h rfl rfl rfl (G.fadr 1 rfl rfl Try.underlying42 rfl rfl Try.sizeOf40) fun a h => ?_
    refine St.get h rfl rfl rfl (G.ld 0 1 rfl rfl rfl rfl rfl Try.isAgg40) fun a h => ?_
    refine St.get h rfl rfl rfl (G.move rfl rfl) fun a h => ?_
    refine St.get h rfl rfl rfl (G.idxo _ 1 rfl rfl rfl rfl (by omega) (by omega) (by omega) Try.underlying40 Try.sizeOf133) fun a h => ?_
    refine St.get h rfl rfl rfl (G.ldo _ 1 0 rfl (by assumption) rfl rfl rfl rfl rfl Try.isAgg133) fun a h => ?_
    refine St.get h rfl rfl rfl (G.nilc rfl rfl) fun a h => ?_
    refine St.get h rfl rfl rfl (G.fadr 0 rfl rfl Try.underlying136 rfl rfl Try.sizeOf3) fun a h => ?_
    refine St.get h rfl rfl rfl (G.ldt (Tells.of 2 rfl ht) rfl rfl Try.isAgg3) fun a h => ?_
    refine St.get h rfl rfl rfl (G.move rfl rfl) fun a h => ?_
    refine St.getP h rfl rfl rfl (G.bin rfl rfl rfl B.eql) (fun hc a h => ?_) (fun hc a h => ?_)
    refine wpl_nil ?_
    refine X.thenN ?_
    refine St.condT h rfl ?_
    refine C.seq ?_
    refine C.region ?_
    refine St.get h rfl rfl rfl (G.move rfl rfl) fun a h => ?_
    refine St.get h rfl rfl rfl (G.nilc rfl rfl) fun a h => ?_
    refine St.get h rfl rfl rfl (G.fadr 1 rfl rfl Try.underlying42 rfl rfl Try.sizeOf40) fun a h => ?_
    refine St.get h rfl rfl rfl (G.ld 0 1 rfl rfl rfl rfl rfl Try.isAgg40) fun a h => ?_
    refine St.get h rfl rfl rfl (G.move rfl rfl) fun a h => ?_
    refine St.get h rfl rfl rfl (G.idxo _ 1 rfl rfl rfl rfl (by omega) (by omega) (by omega) Try.underlying40 Try.sizeOf133) fun a h => ?_
    refine St.get h rfl rfl rfl (G.ldo _ 1 0 rfl (by assumption) rfl rfl rfl rfl rfl Try.isAgg133) fun a h => ?_
    refine St.get h rfl rfl rfl (G.assign rfl rfl) fun a h => ?_
    refine wpl_nil ?_
    refine X.thenN ?_
    refine C.ret ?_
    refine X.blkR ?_
    refine X.thenR ?_
    refine X.thenR ?_
    refine X.blkR ?_
    refine X.thenR ?_
    rotate_left
    refine wpl_nil ?_
    refine X.thenN ?_
    refine St.condF h rfl ?_
    refine C.skip ?_
    refine X.blkN ?_
    refine X.thenN ?_
    refine C.region ?_
    refine St.get h rfl rfl rfl (G.move rfl rfl) fun a h => ?_
    refine St.get h rfl rfl rfl (G.bin rfl rfl rfl (B.addi (by omega) (by omega))) fun a h => ?_
    refine St.get h rfl rfl rfl (G.assign rfl rfl) fun a h => ?_
    refine wpl_nil ?_
    refine X.thenN ?_
    rotate_left
    · exact h.ret1 Try.results85 rfl (Ent.refl _) (⟨by rw [hf, findW_hit hp hc]; rfl, rfl⟩)
    · exact ⟨m - 1, by omega, i + 1, by omega, by rw [hf, findW_skip hp hc], h.sub ⟨rfl, rfl, rfl, trivial⟩⟩
  · refine C.seq ?_
    refine C.seq ?_
    refine C.region ?_
    refine St.get h rfl rfl rfl (G.move rfl rfl) fun a h => ?_
    refine St.get h rfl rfl rfl (G.move rfl rfl) fun a h => ?_
    refine St.get h rfl rfl rfl (G.nilc rfl rfl) fun a h => ?_
    refine St.get h rfl rfl rfl (G.fadr 1 rfl rfl Try.underlying42 rfl rfl Try.sizeOf40) fun a h => ?_
    refine St.get h rfl rfl rfl (G.ld 0 1 rfl rfl rfl rfl rfl Try.isAgg40) fun a h => ?_
    refine St.get h rfl rfl rfl (G.lens rfl rfl Try.underlying40) fun a h => ?_
    refine St.get h rfl rfl rfl (G.bin rfl rfl rfl (B.lssF (by omega))) fun a h => ?_
    refine wpl_nil ?_
    refine X.thenN ?_
    refine St.condF h rfl ?_
    refine C.exit ?_
    refine X.thenE ?_
    refine X.thenE ?_
    refine X.blkE ?_
    refine X.thenN ?_
    refine C.seq ?_
    refine C.region ?_
    refine St.get h rfl rfl rfl (G.assign rfl rfl) fun a h => ?_
    refine wpl_nil ?_
    refine X.thenN ?_
    refine C.ret ?_
    exact h.ret1 Try.results85 rfl (Ent.refl _) (⟨by rw [hf, List.drop_eq_nil_of_le (by omega)]; rfl, rfl⟩)
theorem may_spec (b o : Nat) (q : RM) (n : Int) : Meets Try.prog 81 #[.pointer (some ⟨b, o, none⟩), .int .i64 n] [RAt b o q] (Det (.int .i64 (mayR q n)) [RAt b o q]) := by
  refine Meets.of_code Try.func81 rfl Try.ntmps81 rfl fun w0 S R a h => ?_
  refine C.seq ?_
  refine C.region ?_
  refine St.get h rfl rfl rfl (G.assign rfl rfl) fun a h => ?_
  refine wpl_nil ?_
  refine X.thenN ?_
  refine C.seq ?_
  refine C.seq ?_
  refine C.region ?_
  refine St.get h rfl rfl rfl (G.move rfl rfl) fun a h => ?_
  refine St.getP h rfl rfl rfl (G.bin rfl rfl rfl B.lss) (fun hc a h => ?_) (fun hc a h => ?_)
  refine wpl_nil ?_
  refine X.thenN ?_
  refine St.condT h rfl ?_
  refine C.seq ?_
  refine C.region ?_
  refine St.get h rfl rfl rfl (G.assign rfl rfl) fun a h => ?_
  refine wpl_nil ?_
  refine X.thenN ?_
  refine C.ret ?_
  refine X.thenR ?_
  rotate_left
  refine wpl_nil ?_
  refine X.thenN ?_
  refine St.condF h rfl ?_
  refine C.skip ?_
  refine X.thenN ?_
  refine C.seq ?_
  refine C.region ?_
  refine St.get h rfl rfl rfl (G.move rfl rfl) fun a h => ?_
  refine St.get h rfl rfl rfl (G.move rfl rfl) fun a h => ?_
  rotate_left
  · exact h.ret1 Try.results81 rfl (Ent.refl _) (⟨by simp [mayR, hc], rfl⟩)
  · obtain ⟨gi, ci, gw, cw, ws, hw, h⟩ := h.openR 0 rfl
    have hfs := Find_spec b o n (rlv gi q.items.length ci) (.int .i64 q.given) gw cw ws
    rcases hq : findW n ws with _ | pq
    · rw [hq] at hfs
      have hn := findW_none' hq
      refine St.callD h [0, 1, 1] rfl (Ro.nil _) (hfs) rfl rfl rfl Try.call85 rfl rfl fun a w h => ?_
      replace h := h.conv (sl' := _) (L' := [cells _ _ [_, _, _], _, _, _]) rfl rfl
      refine St.get h rfl rfl rfl (G.assign rfl rfl) fun a h => ?_
      refine wpl_nil ?_
      refine X.thenN ?_
      refine C.seq ?_
      refine C.seq ?_
      refine C.region ?_
      refine St.get h rfl rfl rfl (G.move rfl rfl) fun a h => ?_
      refine St.get h rfl rfl rfl (G.bin rfl rfl rfl (B.pneq Try.underlying133 _)) fun a h => ?_
      refine St.get h rfl rfl rfl (G.move rfl rfl) fun a h => ?_
      refine St.guard_no h rfl rfl rfl rfl rfl (by decide) rfl rfl fun a h => ?_
      refine St.guard_no h rfl rfl rfl rfl rfl (by decide) rfl rfl fun a h => ?_
      refine St.guard_no h rfl rfl rfl rfl rfl (by decide) rfl rfl fun a h => ?_
      refine St.guard_no h rfl rfl rfl rfl rfl (by decide) rfl rfl fun a h => ?_
      refine St.get h rfl rfl rfl (G.pickF rfl rfl rfl) fun a h => ?_
      refine wpl_nil ?_
      refine X.thenN ?_
      refine St.condF h rfl ?_
      refine C.skip ?_
      refine X.thenN ?_
      refine C.seq ?_
      refine C.region ?_
      refine St.get h rfl rfl rfl (G.assign rfl rfl) fun a h => ?_
      refine wpl_nil ?_
      refine X.thenN ?_
      refine C.ret ?_
      replace h := h.fold [0, 3, 1, 2] rfl ((RAt_mk gi ci gw cw ws hw))
      replace h := h.conv (sl' := _) (L' := [_]) rfl rfl
      exact h.ret1 Try.results81 rfl (Ent.refl _) (⟨by simp [mayR, hc, ← hw, hn], rfl⟩)
    · rw [hq] at hfs
      obtain ⟨i, p, hi, rfl, hpn, hn⟩ := findW_some' hq
      have ht : Tell (many (WAt 80) ws) p.1 2 (.bool p.2.prep) := Tell.many hi (WAt_tell2 _ p)
      have hgo : ∀ t, p.2.prep = t → mayR q n = if t then 7 else 0 := fun t e => by simp [mayR, hc, ← hw, hn, e]
      refine St.callD h [0, 1, 1] rfl (Ro.nil _) (hfs) rfl rfl rfl Try.call85 rfl rfl fun a w h => ?_
      replace h := h.conv (sl' := _) (L' := [cells _ _ [_, _, _], _, _, _]) rfl rfl
      refine St.get h rfl rfl rfl (G.assign rfl rfl) fun a h => ?_
      refine wpl_nil ?_
      refine X.thenN ?_
      refine C.seq ?_
      refine C.seq ?_
      refine C.region ?_
      refine St.get h rfl rfl rfl (G.move rfl rfl) fun a h => ?_
      refine St.get h rfl rfl rfl (G.bin rfl rfl rfl (B.pneq Try.underlying133 _)) fun a h => ?_
      refine St.get h rfl rfl rfl (G.move rfl rfl) fun a h => ?_
      refine St.guard_yes h rfl rfl rfl rfl rfl ?_
      refine St.get h rfl rfl rfl (G.move rfl rfl) fun a h => ?_
      refine St.guard_yes h rfl rfl rfl rfl rfl ?_
      refine St.get h rfl rfl rfl (G.nilc rfl rfl) fun a h => ?_
      refine St.guard_yes h rfl rfl rfl rfl rfl ?_
      refine St.get h rfl rfl rfl (G.fadr 2 rfl rfl Try.underlying136 rfl rfl Try.sizeOf4) fun a h => ?_
      refine St.guard_yes h rfl rfl rfl rfl rfl ?_
      refine St.get h rfl rfl rfl (G.ldt (Tells.of 2 rfl ht) rfl rfl Try.isAgg4) fun a h => ?_
      refine St.get h rfl rfl rfl (G.pickT rfl rfl rfl) fun a h => ?_
      refine wpl_nil ?_
      refine X.thenN ?_
      refine St.cond h rfl (fun hc1 => ?_) (fun hc1 => ?_)
      refine C.seq ?_
      refine C.region ?_
      refine St.get h rfl rfl rfl (G.assign rfl rfl) fun a h => ?_
      refine wpl_nil ?_
      refine X.thenN ?_
      refine C.ret ?_
      refine X.thenR ?_
      rotate_left
      refine C.skip ?_
      refine X.thenN ?_
      refine C.seq ?_
      refine C.region ?_
      refine St.get h rfl rfl rfl (G.assign rfl rfl) fun a h => ?_
      refine wpl_nil ?_
      refine X.thenN ?_
      refine C.ret ?_
      rotate_left
      · replace h := h.fold [0, 3, 1, 2] rfl ((RAt_mk gi ci gw cw ws hw))
        replace h := h.conv (sl' := _) (L' := [_]) rfl rfl
        exact h.ret1 Try.results81 rfl (Ent.refl _) (⟨by rw [hgo _ hc1]; rfl, rfl⟩)
      · replace h := h.fold [0, 3, 1, 2] rfl ((RAt_mk gi ci gw cw ws hw))
        replace h := h.conv (sl' := _) (L' := [_]) rfl rfl
        exact h.ret1 Try.results81 rfl (Ent.refl _) (⟨by rw [hgo _ hc1]; rfl, rfl⟩)
theorem Puts_spec (g : Option Addr) (c : Nat) (l : List Ch) : Meets Try.prog 102 #[rlv g l.length c] [rdl encCh g l] (Det (.int .i64 (putsQ l)) []) := by
  refine Meets.of_code Try.func102 rfl Try.ntmps102 rfl fun w0 S R a h => ?_
  have hlen : l.length ≤ 9223372036854775807 := by have := h.tell1 0 rfl fun _ _ _ => rdl_len; simpa using this
  refine C.seq ?_
  refine C.region ?_
  refine St.get h rfl rfl rfl (G.assign rfl rfl) fun a h => ?_
  refine wpl_nil ?_
  refine X.thenN ?_
  refine C.seq ?_
  refine C.region ?_
  refine St.get h rfl rfl rfl (G.assign rfl rfl) fun a h => ?_
  refine wpl_nil ?_
  refine X.thenN ?_
  refine C.seq ?_
  refine C.seq ?_
  refine C.region ?_
  refine St.get h rfl rfl rfl (G.assign rfl rfl) fun a h => ?_
  refine wpl_nil ?_
  refine X.thenN ?_
  refine C.block ?_
  refine C.loop (fun m a w => ∃ i : Nat, i + m = l.length ∧ St w0 S R 20 [(0, rlv g l.length c), (3, .int .i64 (putsQ (l.take i))), (4, .int .i64 i)] [rdl encCh g l] a w) l.length ⟨0, by omega, h.sub ⟨rfl, rfl, rfl, trivial⟩⟩ ?_
  rintro m a w ⟨i, hi, h⟩
  by_cases hlt : i < l.length
  · obtain ⟨x, hx⟩ : ∃ x, l[i]? = some x := ⟨_, List.getElem?_eq_getElem hlt⟩
    have hx1 : l[(i : Int).toNat]? = some x := by simp [hx]
    have hp := putsQ_drop hx
    have hb := putsQ_le (l.take i)
    have hb2 : (l.take i).length ≤ i := by simp; omega
    refine C.seq ?_
    refine C.seq ?_
    refine C.region ?_
    refine St.get h rfl rfl rfl (G.move rfl rfl) fun a h => ?_
    refine St.get h rfl rfl rfl (G.move rfl rfl) fun a h => ?_
    refine St.get h rfl rfl rfl (G.lens rfl rfl Try.underlying23) fun a h => ?_
    refine St.get h rfl rfl rfl (G.bin rfl rfl rfl (B.lssT (by omega))) fun a h => ?_
    refine wpl_nil ?_
    refine X.thenN ?_
    refine St.condT h rfl ?_
    refine C.skip ?_
    refine X.thenN ?_
    refine C.seq ?_
    refine C.block ?_
    refine C.seq ?_
    refine C.region ?_
    refine St.get h rfl rfl rfl (G.move rfl rfl) fun a h => ?_
    refine St.get h rfl rfl rfl (G.move rfl rfl) fun a h => ?_
    refine St.get h rfl rfl rfl (G.idxr _ 0 rfl rfl rfl rfl (by omega) (by omega) (by omega) Try.underlying23 Try.sizeOf80) fun a h => ?_
    refine St.get h rfl rfl rfl (G.fadr 0 rfl rfl Try.underlying80 rfl rfl Try.sizeOf3) fun a h => ?_
    refine St.get h rfl rfl rfl (G.lde _ 0 0 rfl (by assumption) rfl rfl rfl rfl rfl Try.isAgg3) fun a h => ?_
    refine St.getP h rfl rfl rfl (G.bin rfl rfl rfl B.eql) (fun hc a h => ?_) (fun hc a h => ?_)
    refine wpl_nil ?_
    refine X.thenN ?_
    refine St.condT h rfl ?_
    refine C.region ?_
    refine St.get h rfl rfl rfl (G.move rfl rfl) fun a h => ?_
    refine St.get h rfl rfl rfl (G.bin rfl rfl rfl (B.addi (by omega) (by omega))) fun a h => ?_
    refine St.get h rfl rfl rfl (G.assign rfl rfl) fun a h => ?_
    refine wpl_nil ?_
    refine X.blkN ?_
    refine X.thenN ?_
    refine C.region ?_
    refine St.get h rfl rfl rfl (G.move rfl rfl) fun a h => ?_
    refine St.get h rfl rfl rfl (G.bin rfl rfl rfl (B.addi (by omega) (by omega))) fun a h => ?_
    refine St.get h rfl rfl rfl (G.assign rfl rfl) fun a h => ?_
    refine wpl_nil ?_
    refine X.thenN ?_
    rotate_left
    refine wpl_nil ?_
    refine X.thenN ?_
    refine St.condF h rfl ?_
    refine C.skip ?_
    refine X.blkN ?_
    refine X.thenN ?_
    refine C.region ?_
    refine St.get h rfl rfl rfl (G.move rfl rfl) fun a h => ?_
    refine St.get h rfl rfl rfl (G.bin rfl rfl rfl (B.addi (by omega) (by omega))) fun a h => ?_
    refine St.get h rfl rfl rfl (G.assign rfl rfl) fun a h => ?_
    refine wpl_nil ?_
    refine X.thenN ?_
    rotate_left
    · exact ⟨m - 1, by omega, i + 1, by omega, h.sub ⟨rfl, by rw [hp, if_pos hc]; rfl, rfl, trivial⟩⟩
    · exact ⟨m - 1, by omega, i + 1, by omega, h.sub ⟨rfl, by rw [hp, if_neg hc, Int.add_zero]; rfl, rfl, trivial⟩⟩
  · refine C.seq ?_
    refine C.seq ?_
    refine C.region ?_
    refine St.get h rfl rfl rfl (G.move rfl rfl) fun a h => ?_
    refine St.get h rfl rfl rfl (G.move rfl rfl) fun a h => ?_
    refine St.get h rfl rfl rfl (G.lens rfl rfl Try.underlying23) fun a h => ?_
    refine St.get h rfl rfl rfl (G.bin rfl rfl rfl (B.lssF (by omega))) fun a h => ?_
    refine wpl_nil ?_
    refine X.thenN ?_
    refine St.condF h rfl ?_
    refine C.exit ?_
    refine X.thenE ?_
    refine X.thenE ?_
    refine X.blkE ?_
    refine X.thenN ?_
    refine C.seq ?_
    refine C.region ?_
    refine St.get h rfl rfl rfl (G.move rfl rfl) fun a h => ?_
    refine St.get h rfl rfl rfl (G.assign rfl rfl) fun a h => ?_
    refine wpl_nil ?_
    refine X.thenN ?_
    refine C.ret ?_
    replace h := h.sel [] rfl
    exact h.ret1 Try.results102 rfl (Ent.refl _) (⟨by rw [List.take_of_length_le (by omega)], rfl⟩)
theorem Room_spec (b o : Nat) (q : RM) (hq : q.Good) : Meets Try.prog 82 #[.pointer (some ⟨b, o, none⟩)] [RAt b o q] (Det (.int .i64 (roomR q)) [RAt b o q]) := by
  refine Meets.of_code Try.func82 rfl Try.ntmps82 rfl fun w0 S R a h => ?_
  obtain ⟨gi, ci, gw, cw, ws, hw, h⟩ := h.openR 0 rfl
  have hwl : ws.length = q.works.length := by rw [← hw]; simp
  have h1 := hq.items
  have h2 := hq.works
  have h3 := putsAll_le q.works hq.lists
  have h4 := hq.lo
  have h5 := hq.hi
  replace h := h.conv (sl' := _) (L' := [cells _ _ [_, _, _], _, _, _]) rfl rfl
  refine C.seq ?_
  refine C.region ?_
  refine St.get h rfl rfl rfl (G.assign rfl rfl) fun a h => ?_
  refine wpl_nil ?_
  refine X.thenN ?_
  refine C.seq ?_
  refine C.region ?_
  refine St.get h rfl rfl rfl (G.assign rfl rfl) fun a h => ?_
  refine wpl_nil ?_
  refine X.thenN ?_
  refine C.seq ?_
  refine C.seq ?_
  refine C.region ?_
  refine St.get h rfl rfl rfl (G.assign rfl rfl) fun a h => ?_
  refine wpl_nil ?_
  refine X.thenN ?_
  refine C.block ?_
  refine C.loop (fun m a w => ∃ i : Nat, i + m = ws.length ∧ St w0 S R 50 [(0, .pointer (some ⟨b, o, none⟩)), (3, .int .i64 (putsAll (q.works.take i))), (4, .int .i64 i)]
    [cells b o [rlv gi q.items.length ci, rlv gw ws.length cw, .int .i64 q.given], ownl encRI 131 gi ci q.items, ownl encPtr 133 gw cw (ws.map Prod.fst), many (WAt 80) ws] a w) ws.length ⟨0, by omega, h.sub ⟨rfl, rfl, rfl, trivial⟩⟩ ?_
  rintro m a w ⟨i, hi, h⟩
  by_cases hlt : i < ws.length
  · obtain ⟨p, hp⟩ : ∃ p, ws[i]? = some p := ⟨_, List.getElem?_eq_getElem hlt⟩
    have hp1 : (ws.map Prod.fst)[(i : Int).toNat]? = some p.1 := by simp [hp]
    have hp2 : q.works[i]? = some p.2 := by rw [← hw]; simp [hp]
    have hll : ws.length ≤ (ws.map Prod.fst).length := by simp
    have hpd := putsAll_drop hp2
    have hb := putsAll_le (q.works.take i) fun w hw => hq.lists w (List.mem_of_mem_take hw)
    have hb2 : (q.works.take i).length ≤ i := by simp; omega
    have hb3 := putsQ_le p.2.list
    have hb4 := hq.lists p.2 (List.mem_of_getElem? hp2)
    replace h := h.turn 3 rfl ((many_takeL (WAt _) hp))
    replace h := h.conv (sl' := _) (L' := [_, _, cells _ _ [_, _, _], _, _]) rfl rfl
    obtain ⟨g1, c1, h⟩ := h.openW 0 rfl
    replace h := h.conv (sl' := _) (L' := [cells _ _ [_, _, _], _, _, cells _ _ [_, _, _], _, _]) rfl rfl
    refine C.seq ?_
    refine C.seq ?_
    refine C.region ?_
    refine St.get h rfl rfl rfl (G.move rfl rfl) fun a h => ?_
    refine St.get h rfl rfl rfl (G.move rfl rfl) fun a h => ?_
    refine St.get h rfl rfl rfl (G.nilc rfl rfl) fun a h => ?_
    refine St.get h rfl rfl rfl (G.fadr 1 rfl rfl Try.underlying42 rfl rfl Try.sizeOf40) fun a h => ?_
    refine St.get h rfl rfl rfl (G.ld 3 1 rfl rfl rfl rfl rfl Try.isAgg40) fun a h => ?_
    refine St.get h rfl rfl rfl (G.lens rfl rfl Try.underlying40) fun a h => ?_
    refine St.get h rfl rfl rfl (G.bin rfl rfl rfl (B.lssT (by omega))) fun a h => ?_
    refine wpl_nil ?_
    refine X.thenN ?_
    refine St.condT h rfl ?_
    refine C.skip ?_
    refine X.thenN ?_
    refine C.seq ?_
    refine C.block ?_
    refine C.region ?_
    refine St.get h rfl rfl rfl (G.move rfl rfl) fun a h => ?_
    refine St.get h rfl rfl rfl (G.move rfl rfl) fun a h => ?_
    refine St.get h rfl rfl rfl (G.nilc rfl rfl) fun a h => ?_
    refine St.get h rfl rfl rfl (G.fadr 1 rfl rfl Try.underlying42 rfl rfl Try.sizeOf40) fun a h => ?_
    refine St.get h rfl rfl rfl (G.ld 3 1 rfl rfl rfl rfl rfl Try.isAgg40) fun a h => ?_
    refine St.get h rfl rfl rfl (G.move rfl rfl) fun a h => ?_
    refine St.get h rfl rfl rfl (G.idxo _ 5 rfl rfl rfl rfl (by omega) (by omega) (by omega) Try.underlying40 Try.sizeOf133) fun a h => ?_
    refine St.get h rfl rfl rfl (G.ldo _ 5 0 rfl (by assumption) rfl rfl rfl rfl rfl Try.isAgg133) fun a h => ?_
    refine St.get h rfl rfl rfl (G.nilc rfl rfl) fun a h => ?_
    refine St.get h rfl rfl rfl (G.fadr 1 rfl rfl Try.underlying136 rfl rfl Try.sizeOf23) fun a h => ?_
    refine St.get h rfl rfl rfl (G.ld 0 1 rfl rfl rfl rfl rfl Try.isAgg23) fun a h => ?_
    refine St.callD h [] rfl (Ro.cons 1 rfl (ownl_ro _ _ _ _ _) (Ro.nil _)) ((Puts_spec g1 c1 p.2.list)) rfl rfl rfl Try.call102 rfl rfl fun a w h => ?_
    replace h := h.conv (sl' := _) (L' := [cells _ _ [_, _, _], _, _, cells _ _ [_, _, _], _, _]) rfl rfl
    refine St.get h rfl rfl rfl (G.bin rfl rfl rfl (B.addi (by omega) (by omega))) fun a h => ?_
    refine St.get h rfl rfl rfl (G.assign rfl rfl) fun a h => ?_
    refine wpl_nil ?_
    refine X.blkN ?_
    refine X.thenN ?_
    refine C.region ?_
    refine St.get h rfl rfl rfl (G.move rfl rfl) fun a h => ?_
    refine St.get h rfl rfl rfl (G.bin rfl rfl rfl (B.addi (by omega) (by omega))) fun a h => ?_
    refine St.get h rfl rfl rfl (G.assign rfl rfl) fun a h => ?_
    refine wpl_nil ?_
    refine X.thenN ?_
    replace h := h.fold [0, 1] rfl ((WAt_mk 80 p.1 p.2.n p.2.list p.2.prep g1 c1))
    replace h := h.conv (sl' := _) (L' := [_, _, cells _ _ [_, _, _], _, _]) rfl rfl
    replace h := h.fold [0, 1] rfl ((many_putL (WAt 80) p hp))
    replace h := h.conv (sl' := _) (L' := [_, cells _ _ [_, _, _], _, _]) rfl rfl
    rw [set_self hp] at h
    replace h := h.sel [1, 2, 3, 0] rfl
    replace h := h.conv (sl' := _) (L' := [cells _ _ [_, _, _], _, _, _]) rfl rfl
    exact ⟨m - 1, by omega, i + 1, by omega, h.sub ⟨rfl, by rw [hpd]; rfl, rfl, trivial⟩⟩
  · have hi' : i = q.works.length := by omega
    rw [hi', List.take_of_length_le (Nat.le_refl _)] at h
    refine C.seq ?_
    refine C.seq ?_
    refine C.region ?_
    refine St.get h rfl rfl rfl (G.move rfl rfl) fun a h => ?_
    refine St.get h rfl rfl rfl (G.move rfl rfl) fun a h => ?_
    refine St.get h rfl rfl rfl (G.nilc rfl rfl) fun a h => ?_
    refine St.get h rfl rfl rfl (G.fadr 1 rfl rfl Try.underlying42 rfl rfl Try.sizeOf40) fun a h => ?_
    refine St.get h rfl rfl rfl (G.ld 0 1 rfl rfl rfl rfl rfl Try.isAgg40) fun a h => ?_
    refine St.get h rfl rfl rfl (G.lens rfl rfl Try.underlying40) fun a h => ?_
    refine St.get h rfl rfl rfl (G.bin rfl rfl rfl (B.lssF (by omega))) fun a h => ?_
    refine wpl_nil ?_
    refine X.thenN ?_
    refine St.condF h rfl ?_
    refine C.exit ?_
    refine X.thenE ?_
    refine X.thenE ?_
    refine X.blkE ?_
    refine X.thenN ?_
    refine C.seq ?_
    refine C.still Try_mixed h (by decide +kernel) fun w h => ?_
    refine St.getS h rfl rfl rfl (G.move rfl rfl) fun a h => ?_
    refine St.getS h rfl rfl rfl (G.nilc rfl rfl) fun a h => ?_
    refine St.getS h rfl rfl rfl (G.fadr 0 rfl rfl Try.underlying42 rfl rfl Try.sizeOf39) fun a h => ?_
    refine St.getS h rfl rfl rfl (G.ld 0 0 rfl rfl rfl rfl rfl Try.isAgg39) fun a h => ?_
    refine St.getS h rfl rfl rfl (G.lens rfl rfl Try.underlying39) fun a h => ?_
    refine St.getS h rfl rfl rfl (G.bin rfl rfl rfl (B.subi (by omega) (by omega))) fun a h => ?_
    refine St.getS h rfl rfl rfl (G.move rfl rfl) fun a h => ?_
    refine St.getS h rfl rfl rfl (G.bin rfl rfl rfl (B.subi (by omega) (by omega))) fun a h => ?_
    refine St.getS h rfl rfl rfl (G.move rfl rfl) fun a h => ?_
    refine St.getS h rfl rfl rfl (G.nilc rfl rfl) fun a h => ?_
    refine St.getS h rfl rfl rfl (G.fadr 2 rfl rfl Try.underlying42 rfl rfl Try.sizeOf3) fun a h => ?_
    refine St.getS h rfl rfl rfl (G.ld 0 2 rfl rfl rfl rfl rfl Try.isAgg3) fun a h => ?_
    refine St.getS h rfl rfl rfl (G.bin rfl rfl rfl (B.addi (by omega) (by omega))) fun a h => ?_
    refine St.getS h rfl rfl rfl (G.bin rfl rfl rfl (B.subi (by omega) (by omega))) fun a h => ?_
    refine St.getS h rfl rfl rfl (G.move rfl rfl) fun a h => ?_
    refine St.getS h rfl rfl rfl (G.bin rfl rfl rfl (B.subi (by omega) (by omega))) fun a h => ?_
    refine St.getS h rfl rfl rfl (G.assign rfl rfl) fun a h => ?_
    refine St.getS h rfl rfl rfl (G.assign rfl rfl) fun a h => ?_
    refine wps_nil ?_
    refine X.thenN ?_
    refine C.seq ?_
    refine C.seq ?_
    refine C.region ?_
    refine St.get h rfl rfl rfl (G.move rfl rfl) fun a h => ?_
    refine St.get h rfl rfl rfl (G.move rfl rfl) fun a h => ?_
    refine St.getP h rfl rfl rfl (G.bin rfl rfl rfl B.lss) (fun hc a h => ?_) (fun hc a h => ?_)
    refine wpl_nil ?_
    refine X.thenN ?_
    refine St.condT h rfl ?_
    refine C.seq ?_
    refine C.region ?_
    refine St.get h rfl rfl rfl (G.move rfl rfl) fun a h => ?_
    refine St.get h rfl rfl rfl (G.assign rfl rfl) fun a h => ?_
    refine wpl_nil ?_
    refine X.thenN ?_
    refine C.ret ?_
    refine X.thenR ?_
    rotate_left
    refine wpl_nil ?_
    refine X.thenN ?_
    refine St.condF h rfl ?_
    refine C.skip ?_
    refine X.thenN ?_
    refine C.seq ?_
    refine C.region ?_
    refine St.get h rfl rfl rfl (G.move rfl rfl) fun a h => ?_
    refine St.get h rfl rfl rfl (G.assign rfl rfl) fun a h => ?_
    refine wpl_nil ?_
    refine X.thenN ?_
    refine C.ret ?_
    rotate_left
    · replace h := h.fold [0, 1, 2, 3] rfl ((RAt_mk gi ci gw cw ws hw))
      replace h := h.conv (sl' := _) (L' := [_]) rfl rfl
      exact h.ret1 Try.results82 rfl (Ent.refl _) (⟨by unfold roomR; congr 1; omega, rfl⟩)
    · replace h := h.fold [0, 1, 2, 3] rfl ((RAt_mk gi ci gw cw ws hw))
      replace h := h.conv (sl' := _) (L' := [_]) rfl rfl
      exact h.ret1 Try.results82 rfl (Ent.refl _) (⟨by unfold roomR; congr 1; omega, rfl⟩)
theorem noteR_spec (b o : Nat) (n : Int) (ch : Ch) (v0 v2 : Value) (A : Option Addr) (cw : Nat) (ws : List (Nat × QW)) (hw : ws.length < 1000000000) (hl : ∀ p ∈ ws, p.2.list.length < 1000000000) :
    Meets Try.prog 83 #[.pointer (some ⟨b, o, none⟩), .int .i64 n, .agg #[.int .i64 ch.kind, .int .i64 ch.key, .int .u64 ch.val]]
      [cells b o [v0, rlv A ws.length cw, v2], ownl encPtr 133 A cw (ws.map Prod.fst), many (WAt 80) ws]
      (fun v L => v = .tuple #[] ∧ ∃ A' cw' ws', ws'.map Prod.snd = noteM n ch (ws.map Prod.snd) ∧ L = [cells b o [v0, rlv A' ws'.length cw', v2], ownl encPtr 133 A' cw' (ws'.map Prod.fst), many (WAt 80) ws']) := by
  have hfs := Find_spec b o n v0 v2 A cw ws
  rcases hq : findW n ws with _ | q
  · rw [hq] at hfs
    refine Meets.of_code Try.func83 rfl Try.ntmps83 rfl fun w0 S R a h => ?_
    refine C.seq ?_
    refine C.region ?_
    refine St.box h rfl rfl rfl rfl rfl fun b1 a w h => ?_
    replace h := h.conv (sl' := _) (L' := [cells _ _ [_, _, _], cells _ _ [_, _, _], _, _]) rfl rfl
    refine wpl_nil ?_
    refine X.thenN ?_
    refine C.seq ?_
    refine C.region ?_
    refine St.get h rfl rfl rfl (G.move rfl rfl) fun a h => ?_
    refine St.get h rfl rfl rfl (G.move rfl rfl) fun a h => ?_
    refine St.callD h [1, 1, 1] rfl (Ro.nil _) (hfs) rfl rfl rfl Try.call85 rfl rfl fun a w h => ?_
    replace h := h.conv (sl' := _) (L' := [cells _ _ [_, _, _], _, _, cells _ _ [_, _, _]]) rfl rfl
    refine St.get h rfl rfl rfl (G.assign rfl rfl) fun a h => ?_
    refine wpl_nil ?_
    refine X.thenN ?_
    refine C.seq ?_
    refine C.seq ?_
    refine C.region ?_
    refine St.get h rfl rfl rfl (G.move rfl rfl) fun a h => ?_
    refine St.get h rfl rfl rfl (G.bin rfl rfl rfl (B.peql Try.underlying133 _)) fun a h => ?_
    refine wpl_nil ?_
    refine X.thenN ?_
    refine St.condT h rfl ?_
    refine C.seq ?_
    refine C.region ?_
    refine St.get h rfl rfl rfl (G.move rfl rfl) fun a h => ?_
    refine St.get h rfl rfl rfl (G.build [(0, 1), (1, 1), (2, 1)] rfl rfl Try.zeroValue136 Try.underlying136 ⟨rfl, Try.sizeOf3, rfl, Try.sizeOf23, rfl, Try.sizeOf4, trivial⟩ rfl) fun a h => ?_
    replace h := h.conv (sl' := (_, .agg #[.int _ _, _, _]) :: _) (L' := _) rfl rfl
    refine St.box h rfl rfl rfl rfl rfl fun b2 a w h => ?_
    replace h := h.conv (sl' := _) (L' := [cells _ _ [_, _, _], cells _ _ [_, _, _], _, _, cells _ _ [_, _, _]]) rfl rfl
    refine St.get h rfl rfl rfl (G.assign rfl rfl) fun a h => ?_
    refine wpl_nil ?_
    refine X.thenN ?_
    refine C.region ?_
    refine St.get h rfl rfl rfl (G.move rfl rfl) fun a h => ?_
    refine St.get h rfl rfl rfl (G.move rfl rfl) fun a h => ?_
    refine St.get h rfl rfl rfl (G.nilc rfl rfl) fun a h => ?_
    refine St.get h rfl rfl rfl (G.fadr 1 rfl rfl Try.underlying42 rfl rfl Try.sizeOf40) fun a h => ?_
    refine St.get h rfl rfl rfl (G.ld 1 1 rfl rfl rfl rfl rfl Try.isAgg40) fun a h => ?_
    refine St.get h rfl rfl rfl (G.move rfl rfl) fun a h => ?_
    refine St.bslice h (encPtr) ([b2]) rfl rfl Try.underlying40 Try.sizeOf133 Try.zeroValue133 rfl rfl ⟨rfl, rfl, trivial⟩ rfl rfl rfl fun b3 a w h => ?_
    skip
    refine St.append h _ 3 rfl (Ro.cons 0 rfl (ownl_ro _ _ _ _ _) (Ro.nil _)) rfl rfl rfl (by first | rfl | omega | simp) (by first | rfl | omega | simp) Try.underlying40 Try.typeInfo133 rfl rfl rfl 8 rfl (by (try simp only [List.length_append, List.length_cons, List.length_nil, List.length_map, List.length_take]); omega) (by (try simp only [List.length_append, List.length_cons, List.length_nil, List.length_map, List.length_take]); omega) rfl rfl rfl fun A1 c1 a w hnil h => ?_
    replace h := h.conv (sl' := _) (L' := [_, _, cells _ _ [_, _, _], cells _ _ [_, _, _], _, cells _ _ [_, _, _]]) rfl rfl
    refine St.get h rfl rfl rfl (G.nilc rfl rfl) fun a h => ?_
    refine St.get h rfl rfl rfl (G.fadr 1 rfl rfl Try.underlying42 rfl rfl Try.sizeOf40) fun a h => ?_
    refine St.put h rfl rfl (U.st 3 1 rfl rfl rfl rfl rfl rfl rfl Try.sizeOf40) fun a w h => ?_
    replace h := h.conv (sl' := _) (L' := [_, _, cells _ _ [_, _, _], cells _ _ [_, _, _], _, cells _ _ [_, _, _]]) rfl rfl
    refine wpl_nil ?_
    refine X.thenN ?_
    replace h := (h.nil encCh 80).sel [4, 1, 5, 3, 6, 0] rfl
    replace h := h.conv (sl' := _) (L' := [cells _ _ [_, _, _], _, _, cells _ _ [_, _, _], cells _ _ [_, _, _], _]) rfl rfl
    refine C.anyAt Try_mixed 7 11 [3, 4] (LB := [_, _]) h rfl rfl fun w h hcl hI => ?_
    refine St.takeP h 0 7 1 rfl (by decide +kernel) hcl hI (wanted_of rfl _) rfl rfl (G.move rfl rfl) (fun _ _ _ x => x) fun a h hcl hI => ?_
    refine St.takeP h 1 7 3 rfl (by decide +kernel) hcl hI (wanted_of rfl _) rfl rfl (G.move rfl rfl) (fun _ _ _ x => x) fun a h hcl hI => ?_
    refine St.takeP h 2 7 7 rfl (by decide +kernel) hcl hI (wanted_of rfl _) rfl rfl (G.nilc rfl rfl) (fun _ _ _ x => x) fun a h hcl hI => ?_
    refine St.takeP h 3 7 15 rfl (by decide +kernel) hcl hI (wanted_of rfl _) rfl rfl (G.fadr 1 rfl rfl Try.underlying136 rfl rfl Try.sizeOf23) (fun _ _ _ x => x) fun a h hcl hI => ?_
    refine St.takeL h 4 7 31 rfl (by decide +kernel) hcl hI (wanted_of rfl _) rfl rfl (G.ld 0 1 rfl rfl rfl rfl rfl Try.isAgg23) (fun _ _ _ x => x) fun a h hcl hI => ?_
    refine St.takeL h 5 7 63 rfl (by decide +kernel) hcl hI (wanted_of rfl _) rfl rfl (G.lda 1 0 3 rfl rfl rfl rfl rfl Try.isAgg80 Try.sizeOf80) (fun _ _ _ x => x) fun a h hcl hI => ?_
    replace h := h.conv (sl' := (_, .agg #[_, _, _]) :: _) (L' := _) rfl rfl
    refine oneL 6 127 rfl (by decide +kernel) hcl (wanted_of rfl _) fun hcl => ?_
    refine St.actK h rfl rfl (Acts.bslice (encCh) ([ch]) rfl rfl Try.underlying23 Try.sizeOf80 Try.zeroValue80 rfl (Nat.le_of_ble_eq_true rfl) ⟨rfl, rfl, trivial⟩) fun v L a w hp h => ?_
    obtain ⟨b4, rfl, rfl⟩ := hp
    refine St.onL h [4, 5] (LB := [_, _]) rfl fun hI => ?_
    refine oneL 7 255 rfl (by decide +kernel) hcl (wanted_of rfl _) fun hcl => ?_
    refine St.actK h rfl rfl (Acts.append _ 6 rfl (Ro.cons 0 rfl (ownl_ro _ _ _ _ _) (Ro.nil _)) rfl rfl rfl (by first | rfl | omega | simp) (by first | rfl | omega | simp) Try.underlying23 Try.typeInfo80 rfl rfl rfl 24 rfl (by (try simp only [List.length_append, List.length_cons, List.length_nil, List.length_map, List.length_take]); omega) (by (try simp only [List.length_append, List.length_cons, List.length_nil, List.length_map, List.length_take]); omega)) fun v L a w hp h => ?_
    obtain ⟨A2, c2, rfl, hnil, rfl⟩ := hp
    replace h := h.conv (sl' := _) (L' := [_, _, cells _ _ [_, _, _], _, _, cells _ _ [_, _, _], cells _ _ [_, _, _]]) rfl rfl
    refine offL rfl fun hI => ?_
    refine St.takeP h 8 7 511 rfl (by decide +kernel) hcl hI (wanted_of rfl _) rfl rfl (G.nilc rfl rfl) (fun _ _ _ x => x) fun a h hcl hI => ?_
    refine St.takeP h 9 7 1023 rfl (by decide +kernel) hcl hI (wanted_of rfl _) rfl rfl (G.fadr 1 rfl rfl Try.underlying136 rfl rfl Try.sizeOf23) (fun _ _ _ x => x) fun a h hcl hI => ?_
    refine oneL 10 2047 rfl (by decide +kernel) hcl (wanted_of rfl _) fun hcl => ?_
    refine St.putK h rfl (U.st 5 1 rfl rfl rfl rfl rfl rfl rfl Try.sizeOf23) fun a w h => ?_
    replace h := h.conv (sl' := _) (L' := [_, _, cells _ _ [_, _, _], _, _, cells _ _ [_, _, _], cells _ _ [_, _, _]]) rfl rfl
    refine offL rfl fun hI => ?_
    refine doneL (by decide +kernel) ?_
    replace h := h.fold [5, 0] rfl (WAt_mk _ _ _ _ _ _ _)
    replace h := h.fold [0, 4] rfl (many_snocL (WAt _) _ (b2, ⟨n, [] ++ [ch], false⟩))
    replace h := h.sel [2, 3, 0] rfl
    exact h.end0 rfl (Ent.refl _) ⟨rfl, A1, c1, ws ++ [(b2, ⟨n, [] ++ [ch], false⟩)], by simp [findW_none hq], by simp⟩
  · rw [hq] at hfs
    obtain ⟨i, p, hi, rfl, hpn, hnote⟩ := findW_some hq
    have hpl := hl p (List.mem_of_getElem? hi)
    refine Meets.of_code Try.func83 rfl Try.ntmps83 rfl fun w0 S R a h => ?_
    refine C.seq ?_
    refine C.region ?_
    refine St.box h rfl rfl rfl rfl rfl fun b1 a w h => ?_
    replace h := h.conv (sl' := _) (L' := [cells _ _ [_, _, _], cells _ _ [_, _, _], _, _]) rfl rfl
    refine wpl_nil ?_
    refine X.thenN ?_
    refine C.seq ?_
    refine C.region ?_
    refine St.get h rfl rfl rfl (G.move rfl rfl) fun a h => ?_
    refine St.get h rfl rfl rfl (G.move rfl rfl) fun a h => ?_
    refine St.callD h [1, 1, 1] rfl (Ro.nil _) (hfs) rfl rfl rfl Try.call85 rfl rfl fun a w h => ?_
    replace h := h.conv (sl' := _) (L' := [cells _ _ [_, _, _], _, _, cells _ _ [_, _, _]]) rfl rfl
    refine St.get h rfl rfl rfl (G.assign rfl rfl) fun a h => ?_
    refine wpl_nil ?_
    refine X.thenN ?_
    refine C.seq ?_
    refine C.seq ?_
    refine C.region ?_
    refine St.get h rfl rfl rfl (G.move rfl rfl) fun a h => ?_
    refine St.get h rfl rfl rfl (G.bin rfl rfl rfl (B.peql Try.underlying133 _)) fun a h => ?_
    refine wpl_nil ?_
    refine X.thenN ?_
    refine St.condF h rfl ?_
    refine C.skip ?_
    refine X.thenN ?_
    replace h := h.turn 2 rfl (many_takeL (WAt _) hi)
    replace h := h.conv (sl' := _) (L' := [_, _, cells _ _ [_, _, _], _, cells _ _ [_, _, _]]) rfl rfl
    obtain ⟨A1, c1, h⟩ := h.openW 0 rfl
    replace h := h.conv (sl' := _) (L' := [cells _ _ [_, _, _], _, _, cells _ _ [_, _, _], _, cells _ _ [_, _, _]]) rfl rfl
    refine C.anyAt Try_mixed 7 11 [0, 5] (LB := [_, _]) h rfl rfl fun w h hcl hI => ?_
    refine St.takeP h 0 7 1 rfl (by decide +kernel) hcl hI (wanted_of rfl _) rfl rfl (G.move rfl rfl) (fun _ _ _ x => x) fun a h hcl hI => ?_
    refine St.takeP h 1 7 3 rfl (by decide +kernel) hcl hI (wanted_of rfl _) rfl rfl (G.move rfl rfl) (fun _ _ _ x => x) fun a h hcl hI => ?_
    refine St.takeP h 2 7 7 rfl (by decide +kernel) hcl hI (wanted_of rfl _) rfl rfl (G.nilc rfl rfl) (fun _ _ _ x => x) fun a h hcl hI => ?_
    refine St.takeP h 3 7 15 rfl (by decide +kernel) hcl hI (wanted_of rfl _) rfl rfl (G.fadr 1 rfl rfl Try.underlying136 rfl rfl Try.sizeOf23) (fun _ _ _ x => x) fun a h hcl hI => ?_
    refine St.takeL h 4 7 31 rfl (by decide +kernel) hcl hI (wanted_of rfl _) rfl rfl (G.ld 0 1 rfl rfl rfl rfl rfl Try.isAgg23) (fun _ _ _ x => x) fun a h hcl hI => ?_
    refine St.takeL h 5 7 63 rfl (by decide +kernel) hcl hI (wanted_of rfl _) rfl rfl (G.lda 1 0 3 rfl rfl rfl rfl rfl Try.isAgg80 Try.sizeOf80) (fun _ _ _ x => x) fun a h hcl hI => ?_
    replace h := h.conv (sl' := (_, .agg #[_, _, _]) :: _) (L' := _) rfl rfl
    refine oneL 6 127 rfl (by decide +kernel) hcl (wanted_of rfl _) fun hcl => ?_
    refine St.actK h rfl rfl (Acts.bslice (encCh) ([ch]) rfl rfl Try.underlying23 Try.sizeOf80 Try.zeroValue80 rfl (Nat.le_of_ble_eq_true rfl) ⟨rfl, rfl, trivial⟩) fun v L a w hp h => ?_
    obtain ⟨b2, rfl, rfl⟩ := hp
    refine St.onL h [1, 6] (LB := [_, _]) rfl fun hI => ?_
    refine oneL 7 255 rfl (by decide +kernel) hcl (wanted_of rfl _) fun hcl => ?_
    refine St.actK h rfl rfl (Acts.append _ 2 rfl (Ro.cons 0 rfl (ownl_ro _ _ _ _ _) (Ro.nil _)) rfl rfl rfl (by first | rfl | omega | simp) (by first | rfl | omega | simp) Try.underlying23 Try.typeInfo80 rfl rfl rfl 24 rfl (by (try simp only [List.length_append, List.length_cons, List.length_nil, List.length_map, List.length_take]); omega) (by (try simp only [List.length_append, List.length_cons, List.length_nil, List.length_map, List.length_take]); omega)) fun v L a w hp h => ?_
    obtain ⟨A2, c2, rfl, hnil, rfl⟩ := hp
    replace h := h.conv (sl' := _) (L' := [_, _, cells _ _ [_, _, _], _, cells _ _ [_, _, _], _, cells _ _ [_, _, _]]) rfl rfl
    refine offL rfl fun hI => ?_
    refine St.takeP h 8 7 511 rfl (by decide +kernel) hcl hI (wanted_of rfl _) rfl rfl (G.nilc rfl rfl) (fun _ _ _ x => x) fun a h hcl hI => ?_
    refine St.takeP h 9 7 1023 rfl (by decide +kernel) hcl hI (wanted_of rfl _) rfl rfl (G.fadr 1 rfl rfl Try.underlying136 rfl rfl Try.sizeOf23) (fun _ _ _ x => x) fun a h hcl hI => ?_
    refine oneL 10 2047 rfl (by decide +kernel) hcl (wanted_of rfl _) fun hcl => ?_
    refine St.putK h rfl (U.st 2 1 rfl rfl rfl rfl rfl rfl rfl Try.sizeOf23) fun a w h => ?_
    replace h := h.conv (sl' := _) (L' := [_, _, cells _ _ [_, _, _], _, cells _ _ [_, _, _], _, cells _ _ [_, _, _]]) rfl rfl
    refine offL rfl fun hI => ?_
    refine doneL (by decide +kernel) ?_
    replace h := h.fold [2, 0] rfl (WAt_mk _ _ _ _ _ _ _)
    replace h := h.fold [0, 2] rfl (many_putL (WAt _) (p.1, ⟨p.2.n, p.2.list ++ [ch], p.2.prep⟩) hi)
    replace h := h.sel [2, 3, 0] rfl
    have he := map_set_same Prod.fst (p.1, ⟨p.2.n, p.2.list ++ [ch], p.2.prep⟩) hi rfl
    exact h.end0 rfl (Ent.refl _) ⟨rfl, A, cw, ws.set i (p.1, ⟨p.2.n, p.2.list ++ [ch], p.2.prep⟩), by rw [List.map_set, ← hnote], by rw [he, List.length_set]⟩
theorem noteR_closed (b o : Nat) (q : RM) (n : Int) (ch : Ch) (h1 : q.works.length < 1000000000) (h2 : ∀ w ∈ q.works, w.list.length < 1000000000) :
    Meets Try.prog 83 #[.pointer (some ⟨b, o, none⟩), .int .i64 n, .agg #[.int .i64 ch.kind, .int .i64 ch.key, .int .u64 ch.val]] [RAt b o q]
      (Det (.tuple #[]) [RAt b o { q with works := noteM n ch q.works }]) := by
  unfold RAt
  refine Meets.exi fun x => ?_
  obtain ⟨⟨gi, ci⟩, ⟨gw, cw⟩, ws⟩ := x
  refine Meets.told (p := ws.map Prod.snd = q.works) (fun _ _ _ ⟨_, _, _, _, _, ⟨_, _, _, _, _, hw, _⟩, _⟩ => hw) fun hw => ?_
  have hl : ws.length < 1000000000 ∧ ∀ p ∈ ws, p.2.list.length < 1000000000 := by
    refine ⟨by rw [← hw] at h1; simpa using h1, fun p hp => h2 p.2 (by rw [← hw]; exact List.mem_map_of_mem hp)⟩
  have hs := Meets.frame (noteR_spec b o n ch (rlv gi q.items.length ci) (.int .i64 q.given) gw cw ws hl.1 hl.2) (F := [ownl encRI 131 gi ci q.items])
  refine (hs.pre ?_).post ?_
  · intro w S R ⟨S1, S2, h1, h2, hd, ⟨T1, T2, ht1, ht2, htd, _, h⟩, _⟩
    have h := (stars _).mono h (fun b o x => h1 b o (ht2 b o x)) (fun _ _ x => x)
    exact Ent.picks (rel [0, 2, 3, 1]) rfl w S R h
  · rintro v L1 ⟨L2, ⟨rfl, gw', cw', ws', hw', rfl⟩, rfl⟩
    refine ⟨_, ⟨rfl, rfl⟩, ?_⟩
    intro w S R h
    exact ⟨S, fun _ _ => False, fun _ _ x => x, fun _ _ x => x.elim, fun _ _ _ x => x, RAt_mk (q := { q with works := noteM n ch q.works }) gi ci gw' cw' ws' (by rw [hw', hw]) w S R (Ent.picks (rel [0, 3, 1, 2]) rfl w S R h), trivial⟩
theorem PutR_spec (b o : Nat) (q : RM) (n v : Int) (hq : q.Good) : Meets Try.prog 44 #[.pointer (some ⟨b, o, none⟩), .int .i64 n, .int .u64 v] [RAt b o q] (Det (.int .i64 (putR q n v).1) [RAt b o (putR q n v).2]) := by
  refine Meets.of_code Try.func44 rfl Try.ntmps44 rfl fun w0 S R a h => ?_
  refine C.seq ?_
  refine C.region ?_
  refine St.get h rfl rfl rfl (G.assign rfl rfl) fun a h => ?_
  refine wpl_nil ?_
  refine X.thenN ?_
  refine C.seq ?_
  refine C.region ?_
  refine St.get h rfl rfl rfl (G.move rfl rfl) fun a h => ?_
  refine St.get h rfl rfl rfl (G.move rfl rfl) fun a h => ?_
  refine St.callD h [0] rfl (Ro.nil _) ((may_spec b o q n)) rfl rfl rfl Try.call81 rfl rfl fun a w h => ?_
  replace h := h.conv (sl' := _) (L' := [_]) rfl rfl
  refine St.get h rfl rfl rfl (G.assign rfl rfl) fun a h => ?_
  refine wpl_nil ?_
  refine X.thenN ?_
  refine C.seq ?_
  refine C.seq ?_
  refine C.region ?_
  refine St.get h rfl rfl rfl (G.move rfl rfl) fun a h => ?_
  refine St.getP h rfl rfl rfl (G.bin rfl rfl rfl B.neq) (fun hc a h => ?_) (fun hc a h => ?_)
  refine wpl_nil ?_
  refine X.thenN ?_
  refine St.condT h rfl ?_
  refine C.seq ?_
  refine C.region ?_
  refine St.get h rfl rfl rfl (G.move rfl rfl) fun a h => ?_
  refine St.get h rfl rfl rfl (G.assign rfl rfl) fun a h => ?_
  refine wpl_nil ?_
  refine X.thenN ?_
  refine C.ret ?_
  refine X.thenR ?_
  rotate_left
  refine wpl_nil ?_
  refine X.thenN ?_
  refine St.condF h rfl ?_
  refine C.skip ?_
  refine X.thenN ?_
  refine C.seq ?_
  refine C.seq ?_
  refine C.region ?_
  refine St.get h rfl rfl rfl (G.move rfl rfl) fun a h => ?_
  rotate_left
  · have e : putR q n v = (mayR q n, q) := by simp [putR, hc]
    rw [e]
    exact h.ret1 Try.results44 rfl (Ent.refl _) (⟨rfl, rfl⟩)
  · have e0 : mayR q n = 0 := by simpa using hc
    refine St.callD h [0] rfl (Ro.nil _) ((Room_spec b o q hq)) rfl rfl rfl Try.call82 rfl rfl fun a w h => ?_
    replace h := h.conv (sl' := _) (L' := [_]) rfl rfl
    refine St.getP h rfl rfl rfl (G.bin rfl rfl rfl B.leq) (fun hc1 a h => ?_) (fun hc1 a h => ?_)
    refine wpl_nil ?_
    refine X.thenN ?_
    refine St.condT h rfl ?_
    refine C.seq ?_
    refine C.region ?_
    refine St.get h rfl rfl rfl (G.assign rfl rfl) fun a h => ?_
    refine wpl_nil ?_
    refine X.thenN ?_
    refine C.ret ?_
    refine X.thenR ?_
    rotate_left
    refine wpl_nil ?_
    refine X.thenN ?_
    refine St.condF h rfl ?_
    refine C.skip ?_
    refine X.thenN ?_
    refine C.seq ?_
    refine C.region ?_
    refine St.get h rfl rfl rfl (G.move rfl rfl) fun a h => ?_
    refine St.get h rfl rfl rfl (G.move rfl rfl) fun a h => ?_
    refine St.get h rfl rfl rfl (G.move rfl rfl) fun a h => ?_
    refine St.get h rfl rfl rfl (G.build [(0, 1), (1, 1), (2, 1)] rfl rfl Try.zeroValue80 Try.underlying80 ⟨rfl, Try.sizeOf3, rfl, Try.sizeOf3, rfl, Try.sizeOf22, trivial⟩ rfl) fun a h => ?_
    replace h := h.conv (sl' := (_, .agg #[.int _ _, _, .int _ _]) :: _) (L' := _) rfl rfl
    rotate_left
    · have e : putR q n v = (5, q) := by simp [putR, e0, hc1]
      rw [e]
      exact h.ret1 Try.results44 rfl (Ent.refl _) (⟨rfl, rfl⟩)
    · have e : putR q n v = (0, { q with works := noteM n ⟨3, 0, v⟩ q.works }) := by simp [putR, e0, hc1]
      rw [e]
      refine St.callD h [0] rfl (Ro.nil _) ((noteR_closed b o q n ⟨3, 0, v⟩ (by have := hq.works; omega) (fun w hw => by have := hq.lists w hw; omega))) rfl rfl rfl Try.call83 rfl rfl fun a w h => ?_
      replace h := h.conv (sl' := _) (L' := [_]) rfl rfl
      refine wpl_nil ?_
      refine X.thenN ?_
      refine C.seq ?_
      refine C.region ?_
      refine St.get h rfl rfl rfl (G.move rfl rfl) fun a h => ?_
      refine St.get h rfl rfl rfl (G.assign rfl rfl) fun a h => ?_
      refine wpl_nil ?_
      refine X.thenN ?_
      refine C.ret ?_
      exact h.ret1 Try.results44 rfl (Ent.refl _) (⟨by rw [e0], rfl⟩)
end Go.Proofs.Ytllhegccpknncaa
