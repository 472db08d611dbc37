/-
  The queue's Restore.
-/
import Derived.Test.YtllhegccpknncaaQd
import Derived.Test.YtllhegccpknncaaSeat
set_option linter.unusedVariables false
set_option linter.unusedSimpArgs false
set_option linter.unusedSectionVars false
set_option maxRecDepth 8000
namespace Go.Proofs.Ytllhegccpknncaa
open Go.Tr

theorem note_closed (b o : Nat) (q : QM) (n : Int) (ch : Ch) (h1 : q.works.length < 1000000000) (h2 : ∀ w ∈ q.works, w.list.length < 1000000000) :
    Meets Try.prog 73 #[.pointer (some ⟨b, o, none⟩), .int .i64 n, .agg #[.int .i64 ch.kind, .int .i64 ch.key, .int .u64 ch.val]] [QAt b o q]
      (Det (.tuple #[]) [QAt b o { q with works := noteM n ch q.works }]) := by
  unfold QAt
  refine Meets.exi fun x => ?_
  obtain ⟨⟨gi, ci⟩, ⟨gw, cw⟩, ws⟩ := x
  refine Meets.told (p := ws.map Prod.snd = q.works) (fun _ _ _ ⟨_, _, _, _, _, ⟨_, _, _, _, _, hw, _⟩, _⟩ => hw) fun hw => ?_
  have hl : ws.length < 1000000000 ∧ ∀ p ∈ ws, p.2.list.length < 1000000000 := by
    refine ⟨by rw [← hw] at h1; simpa using h1, fun p hp => h2 p.2 (by rw [← hw]; exact List.mem_map_of_mem hp)⟩
  have hs := Meets.frame (note_spec b o n ch (rlv gi q.items.length ci) (.int .i64 q.given) gw cw ws hl.1 hl.2) (F := [ownl encQI 91 gi ci q.items])
  refine (hs.pre ?_).post ?_
  · intro w S R ⟨S1, S2, h1, h2, hd, ⟨T1, T2, ht1, ht2, htd, _, h⟩, _⟩
    have h := (stars _).mono h (fun b o x => h1 b o (ht2 b o x)) (fun _ _ x => x)
    exact Ent.picks (rel [0, 2, 3, 1]) rfl w S R h
  · rintro v L1 ⟨L2, ⟨rfl, gw', cw', ws', hw', rfl⟩, rfl⟩
    refine ⟨_, ⟨rfl, rfl⟩, ?_⟩
    intro w S R h
    exact ⟨S, fun _ _ => False, fun _ _ x => x, fun _ _ x => x.elim, fun _ _ _ x => x, QAt_mk (q := { q with works := noteM n ch q.works }) gi ci gw' cw' ws' (by rw [hw', hw]) w S R (Ent.picks (rel [0, 3, 1, 2]) rfl w S R h), trivial⟩
theorem Restore_nil (g : Option Addr) (c : Nat) (l : List Ch) (n : Int) : Meets Try.prog 42 #[.pointer none, .int .i64 n, rlv g l.length c] [] (Det (.int .i64 6) []) := by
  refine Meets.of_code Try.func42 rfl Try.ntmps42 rfl fun w0 S R a h => ?_
  refine C.seq ?_
  refine C.region ?_
  refine St.get h rfl rfl rfl (G.assign rfl rfl) fun a h => ?_
  refine wpl_nil ?_
  refine X.thenN ?_
  refine C.seq ?_
  refine C.seq ?_
  refine C.region ?_
  refine St.get h rfl rfl rfl (G.move rfl rfl) fun a h => ?_
  refine St.get h rfl rfl rfl (G.move rfl rfl) fun a h => ?_
  refine St.callD h [] rfl (Ro.nil _) ((decided_nil n)) rfl rfl rfl Try.call74 rfl rfl fun a w h => ?_
  replace h := h.conv (sl' := _) (L' := []) rfl rfl
  refine St.get h rfl rfl rfl (G.assign rfl rfl) fun a h => ?_
  refine wpl_nil ?_
  refine X.thenN ?_
  refine C.seq ?_
  refine C.region ?_
  refine St.get h rfl rfl rfl (G.move rfl rfl) fun a h => ?_
  refine St.get h rfl rfl rfl (G.bin rfl rfl rfl (B.neqT (by omega))) fun a h => ?_
  refine wpl_nil ?_
  refine X.thenN ?_
  refine St.condT h rfl ?_
  refine C.seq ?_
  refine C.region ?_
  refine St.get h rfl rfl rfl (G.move rfl rfl) fun a h => ?_
  refine St.get h rfl rfl rfl (G.assign rfl rfl) fun a h => ?_
  refine wpl_nil ?_
  refine X.thenN ?_
  refine C.ret ?_
  refine X.thenR ?_
  exact h.ret1 Try.results42 rfl (Ent.refl _) (⟨rfl, rfl⟩)
theorem restW_len (n : Int) (ws : List QW) (l : List Ch) (p : Bool) : (restW n ws l p).length ≤ ws.length + 1 := by
  unfold restW; split
  · omega
  · simp
theorem restW_lens {n : Int} {ws : List QW} {l : List Ch} {p : Bool} (h : ws.length < 1000000000) (hl : ∀ w ∈ ws, w.list.length < 1000000) (hll : l.length < 1000000) : (restW n ws l p).length < 1000000001 ∧ ∀ w ∈ restW n ws l p, w.list.length < 1000000000 := by
  unfold restW
  split
  · exact ⟨by omega, fun w hw => by have := hl w hw; omega⟩
  · refine ⟨by simp; omega, fun w hw => ?_⟩
    rcases List.mem_append.1 hw with h1 | h1
    · have := hl w h1; omega
    · simp at h1; subst h1; simp; omega
theorem Restore_spec (b o : Nat) (q : QM) (hq : q.Good) (hw9 : q.works.length < 900000000) (g : Option Addr) (c : Nat) (l : List Ch) (n : Int) (hl : l.length < 1000000) : Meets Try.prog 42 #[.pointer (some ⟨b, o, none⟩), .int .i64 n, rlv g l.length c] [QAt b o q, rdl encCh g l]
    (Det (.int .i64 (restQ q n l).1) [QAt b o (restQ q n l).2]) := by
  refine Meets.of_code Try.func42 rfl Try.ntmps42 rfl fun w0 S R a h => ?_
  refine C.seq ?_
  refine C.region ?_
  refine St.get h rfl rfl rfl (G.assign rfl rfl) fun a h => ?_
  refine wpl_nil ?_
  refine X.thenN ?_
  refine C.seq ?_
  refine C.seq ?_
  refine C.region ?_
  refine St.get h rfl rfl rfl (G.move rfl rfl) fun a h => ?_
  refine St.get h rfl rfl rfl (G.move rfl rfl) fun a h => ?_
  refine St.callD h [] rfl (Ro.nil _) ((decided_spec b o n)) rfl rfl rfl Try.call74 rfl rfl fun a w h => ?_
  replace h := h.conv (sl' := _) (L' := [_, _]) rfl rfl
  by_cases hn : n < 1
  · have e : restQ q n l = (1, q) := by simp [restQ, hn]
    have e1 : decQ n = 1 := by simp [decQ, hn]
    rw [e1] at h
    rw [e]
    refine St.get h rfl rfl rfl (G.assign rfl rfl) fun a h => ?_
    refine wpl_nil ?_
    refine X.thenN ?_
    refine C.seq ?_
    refine C.region ?_
    refine St.get h rfl rfl rfl (G.move rfl rfl) fun a h => ?_
    refine St.get h rfl rfl rfl (G.bin rfl rfl rfl (B.neqT (by omega))) fun a h => ?_
    refine wpl_nil ?_
    refine X.thenN ?_
    refine St.condT h rfl ?_
    refine C.seq ?_
    refine C.region ?_
    refine St.get h rfl rfl rfl (G.move rfl rfl) fun a h => ?_
    refine St.get h rfl rfl rfl (G.assign rfl rfl) fun a h => ?_
    refine wpl_nil ?_
    refine X.thenN ?_
    refine C.ret ?_
    refine X.thenR ?_
    replace h := h.sel [0] rfl
    replace h := h.conv (sl' := _) (L' := [_]) rfl rfl
    exact h.ret1 Try.results42 rfl (Ent.refl _) (⟨rfl, rfl⟩)
  have e1 : decQ n = 0 := by simp [decQ, hn]
  rw [e1] at h
  refine St.get h rfl rfl rfl (G.assign rfl rfl) fun a h => ?_
  refine wpl_nil ?_
  refine X.thenN ?_
  refine C.seq ?_
  refine C.region ?_
  refine St.get h rfl rfl rfl (G.move rfl rfl) fun a h => ?_
  refine St.get h rfl rfl rfl (G.bin rfl rfl rfl (B.neqF (by omega))) fun a h => ?_
  refine wpl_nil ?_
  refine X.thenN ?_
  refine St.condF h rfl ?_
  refine C.skip ?_
  refine X.thenN ?_
  refine C.seq ?_
  refine C.seq ?_
  refine C.region ?_
  refine St.get h rfl rfl rfl (G.move rfl rfl) fun a h => ?_
  refine St.get h rfl rfl rfl (G.move rfl rfl) fun a h => ?_
  refine St.callD h [0] rfl (Ro.cons 0 rfl (rdl_ro _ _ _) (Ro.nil _)) ((right_spec b o q hq g c l (by omega))) rfl rfl rfl Try.call80 rfl rfl fun a w h => ?_
  replace h := h.conv (sl' := _) (L' := [_, _]) rfl rfl
  cases hr : rightQ q l
  · have e : restQ q n l = (1, q) := by simp [restQ, hn, hr]
    rw [e]
    rw [hr] at h
    refine St.get h rfl rfl rfl (G.un rfl rfl B.not) fun a h => ?_
    refine wpl_nil ?_
    refine X.thenN ?_
    refine St.condT h rfl ?_
    refine C.seq ?_
    refine C.region ?_
    refine St.get h rfl rfl rfl (G.assign rfl rfl) fun a h => ?_
    refine wpl_nil ?_
    refine X.thenN ?_
    refine C.ret ?_
    refine X.thenR ?_
    replace h := h.sel [0] rfl
    replace h := h.conv (sl' := _) (L' := [_]) rfl rfl
    exact h.ret1 Try.results42 rfl (Ent.refl _) (⟨rfl, rfl⟩)
  rw [hr] at h
  refine St.get h rfl rfl rfl (G.un rfl rfl B.not) fun a h => ?_
  refine wpl_nil ?_
  refine X.thenN ?_
  refine St.condF h rfl ?_
  refine C.skip ?_
  refine X.thenN ?_
  refine C.seq ?_
  refine C.seq ?_
  refine C.region ?_
  refine St.get h rfl rfl rfl (G.move rfl rfl) fun a h => ?_
  refine St.get h rfl rfl rfl (G.move rfl rfl) fun a h => ?_
  obtain ⟨gi, ci, gw, cw, ws, hw, h⟩ := h.openQ 0 rfl
  have hfs := find_spec b o n (rlv gi q.items.length ci) (.int .i64 q.given) gw cw ws
  rcases hq' : findW n ws with _ | pq
  · rw [hq'] at hfs
    have hnn := findW_none' hq'
    rw [hw] at hnn
    have e : restQ q n l = (0, ⟨markI n (takesQ l) q.items, restW n q.works l true, q.given⟩) := by simp [restQ, hn, hr, hnn]
    rw [e]
    refine St.callD h [0, 1, 1] rfl (Ro.nil _) (hfs) rfl rfl rfl Try.call51 rfl rfl fun a w h => ?_
    replace h := h.conv (sl' := _) (L' := [cells _ _ [_, _, _], _, _, _, _]) rfl rfl
    refine St.get h rfl rfl rfl (G.bin rfl rfl rfl (B.pneq Try.underlying92 _)) fun a h => ?_
    refine wpl_nil ?_
    refine X.thenN ?_
    refine St.condF h rfl ?_
    refine C.skip ?_
    refine X.thenN ?_
    refine C.seq ?_
    refine C.region ?_
    refine St.get h rfl rfl rfl (G.assign rfl rfl) fun a h => ?_
    refine wpl_nil ?_
    refine X.thenN ?_
    refine C.seq ?_
    refine C.seq ?_
    refine C.region ?_
    refine St.get h rfl rfl rfl (G.move rfl rfl) fun a h => ?_
    refine St.get h rfl rfl rfl (G.lens rfl rfl Try.underlying23) fun a h => ?_
    refine St.get h rfl rfl rfl (G.move rfl rfl) fun a h => ?_
    refine wpl_nil ?_
    refine X.thenN ?_
    refine C.block ?_
    replace h := h.fold [0, 3, 1, 2] rfl ((QAt_mk gi ci gw cw ws hw))
    replace h := h.conv (sl' := _) (L' := [_, _]) rfl rfl
    have hqi := hq.items
    have htk := rightG_takes l q.items (by simp [rightQ] at hr; exact hr.1)
    refine C.loop (fun m a w => ∃ i : Nat, i + m = l.length ∧ St w0 S R 58 [(0, .pointer (some ⟨b, o, none⟩)), (1, .int .i64 n), (8, .int .i64 (takesQ (l.take i))), (26, rlv g l.length c), (27, .int .i64 l.length), (28, .int .i64 i)]
      [QAt b o ⟨markI n (takesQ (l.take i)) q.items, restW n q.works (l.take i) false, q.given⟩, rdl encCh g l] a w) l.length ⟨0, by omega, ?_⟩ ?_
    · have e0 : (⟨markI n (takesQ (l.take 0)) q.items, restW n q.works (l.take 0) false, q.given⟩ : QM) = q := by simp [markI, takesQ, restW]
      rw [e0]
      exact h.sub ⟨rfl, rfl, rfl, rfl, rfl, rfl, trivial⟩
    · rintro m a w ⟨i, hi, h⟩
      by_cases hlt : i < l.length
      · obtain ⟨x, hx⟩ : ∃ x, l[i]? = some x := ⟨_, List.getElem?_eq_getElem hlt⟩
        have hx1 : l[(i : Int).toNat]? = some x := by simp [hx]
        have htx : l.take (i + 1) = l.take i ++ [x] := by rw [List.take_add_one, hx]; rfl
        have htq := takesQ_snoc x (l.take i)
        have hnr := noteM_restW (c := x) (l := l.take i) hnn
        have htl : (l.take i).length < 1000000 := by simp; omega
        have hlens := restW_lens (n := n) (p := false) (by omega) hq.lists htl
        have hrl := restW_len n q.works (l.take i) false
        have hmono := takesQ_take l (i + 1)
        refine C.seq ?_
        refine C.region ?_
        refine St.get h rfl rfl rfl (G.bin rfl rfl rfl (B.lssT (by omega))) fun a h => ?_
        refine wpl_nil ?_
        refine X.thenN ?_
        refine C.seq ?_
        refine St.condT h rfl ?_
        refine C.skip ?_
        refine X.thenN ?_
        refine C.seq ?_
        refine C.block ?_
        refine C.seq ?_
        refine C.region ?_
        refine St.get h rfl rfl rfl (G.idxr _ 1 rfl rfl rfl rfl (by omega) (by omega) (by omega) Try.underlying23 Try.sizeOf80) fun a h => ?_
        refine St.get h rfl rfl rfl (G.ldea _ 1 rfl (by assumption) rfl rfl rfl rfl Try.isAgg80 Try.sizeOf80) fun a h => ?_
        replace h := h.conv (sl' := (_, .agg #[_, _, _]) :: _) (L' := _) rfl rfl
        refine St.alloc h Try.zeroValue80 rfl rfl rfl rfl fun b1 a w h => ?_
        replace h := h.conv (sl' := _) (L' := [cells _ _ [_, _, _], _, _]) rfl rfl
        refine St.put h rfl rfl (U.sta 0 0 rfl rfl rfl rfl rfl rfl (by simp [Value.oneCell']) Try.sizeOf80 rfl) fun a w h => ?_
        replace h := h.conv (sl' := _) (L' := [cells _ _ [_, _, _], _, _]) rfl rfl
        refine wpl_nil ?_
        refine X.thenN ?_
        refine C.seq ?_
        refine C.seq ?_
        refine C.region ?_
        refine St.get h rfl rfl rfl (G.fadr 0 rfl rfl Try.underlying80 rfl rfl Try.sizeOf3) fun a h => ?_
        refine St.get h rfl rfl rfl (G.ld 0 0 rfl rfl rfl rfl rfl Try.isAgg3) fun a h => ?_
        refine St.getP h rfl rfl rfl (G.bin rfl rfl rfl B.eql) (fun hc a h => ?_) (fun hc a h => ?_)
        refine wpl_nil ?_
        refine X.thenN ?_
        refine St.condT h rfl ?_
        refine C.seq ?_
        refine C.region ?_
        refine St.get h rfl rfl rfl (G.move rfl rfl) fun a h => ?_
        refine St.get h rfl rfl rfl (G.nilc rfl rfl) fun a h => ?_
        refine St.get h rfl rfl rfl (G.fadr 0 rfl rfl Try.underlying33 rfl rfl Try.sizeOf30) fun a h => ?_
        rotate_left
        refine wpl_nil ?_
        refine X.thenN ?_
        refine St.condF h rfl ?_
        refine C.skip ?_
        refine X.thenN ?_
        refine C.region ?_
        refine St.get h rfl rfl rfl (G.move rfl rfl) fun a h => ?_
        refine St.get h rfl rfl rfl (G.move rfl rfl) fun a h => ?_
        refine St.get h rfl rfl rfl (G.lda 0 0 3 rfl rfl rfl rfl rfl Try.isAgg80 Try.sizeOf80) fun a h => ?_
        replace h := h.conv (sl' := (_, .agg #[_, _, _]) :: _) (L' := _) rfl rfl
        rotate_left
        · rw [if_pos hc] at htq
          rw [htx, htq] at hmono
          obtain ⟨gi, ci, gw, cw, ws, hw, h⟩ := h.openM 1 rfl
          obtain ⟨y, hy⟩ : ∃ y, q.items[takesQ (l.take i)]? = some y := ⟨_, List.getElem?_eq_getElem (by omega)⟩
          have hmg := markI_get (n := n) hy
          have hml := markI_len n (takesQ (l.take i)) q.items
          have hms := markI_set (n := n) hy
          have hmg1 : (markI n (takesQ (l.take i)) q.items)[((takesQ (l.take i) : Nat) : Int).toNat]? = some y := hmg
          replace h := h.conv (sl' := _) (L' := [cells _ _ [_, _, _], _, _, _, cells _ _ [_, _, _], _]) rfl rfl
          refine St.get h rfl rfl rfl (G.ld 0 0 rfl rfl rfl rfl rfl Try.isAgg30) fun a h => ?_
          refine St.get h rfl rfl rfl (G.move rfl rfl) fun a h => ?_
          refine St.get h rfl rfl rfl (G.move rfl rfl) fun a h => ?_
          refine St.get h rfl rfl rfl (G.idxo _ 1 rfl rfl rfl rfl (by omega) (by omega) (by omega) Try.underlying30 Try.sizeOf91) fun a h => ?_
          refine St.get h rfl rfl rfl (G.fadr 2 rfl rfl Try.underlying91 rfl rfl Try.sizeOf3) fun a h => ?_
          refine St.put h rfl rfl (U.sto _ 1 2 (⟨y.num, y.val, n⟩) rfl (by assumption) rfl rfl rfl rfl rfl (by decide) (by rfl) rfl Try.sizeOf3) fun a w h => ?_
          replace h := h.conv (sl' := _) (L' := [cells _ _ [_, _, _], _, _, _, cells _ _ [_, _, _], _]) rfl rfl
          replace h := h.conv rfl (L' := [cells b o [rlv gi (markI n (takesQ (l.take i) + 1) q.items).length ci, _, _], ownl encQI 91 gi ci (markI n (takesQ (l.take i) + 1) q.items), _, _, _, _]) (by rw [Int.toNat_natCast, hms, markI_len, markI_len])
          refine wpl_nil ?_
          refine X.thenN ?_
          refine C.region ?_
          refine St.get h rfl rfl rfl (G.move rfl rfl) fun a h => ?_
          refine St.get h rfl rfl rfl (G.bin rfl rfl rfl (B.addi (by omega) (by omega))) fun a h => ?_
          refine St.get h rfl rfl rfl (G.assign rfl rfl) fun a h => ?_
          refine wpl_nil ?_
          refine X.thenN ?_
          refine C.region ?_
          refine St.get h rfl rfl rfl (G.move rfl rfl) fun a h => ?_
          refine St.get h rfl rfl rfl (G.move rfl rfl) fun a h => ?_
          refine St.get h rfl rfl rfl (G.lda 4 0 3 rfl rfl rfl rfl rfl Try.isAgg80 Try.sizeOf80) fun a h => ?_
          replace h := h.conv (sl' := (_, .agg #[_, _, _]) :: _) (L' := _) rfl rfl
          replace h := h.fold [0, 1, 2, 3] rfl ((QAt_mk (q := ⟨markI n (takesQ (l.take i) + 1) q.items, restW n q.works (l.take i) false, q.given⟩) gi ci gw cw ws hw))
          replace h := h.conv (sl' := _) (L' := [_, cells _ _ [_, _, _], _]) rfl rfl
          refine St.callD h [0] rfl (Ro.nil _) ((note_closed b o ⟨markI n (takesQ (l.take i) + 1) q.items, restW n q.works (l.take i) false, q.given⟩ n x (by simp; omega) hlens.2)) rfl rfl rfl Try.call73 rfl rfl fun a w h => ?_
          replace h := h.conv (sl' := _) (L' := [_, cells _ _ [_, _, _], _]) rfl rfl
          refine wpl_nil ?_
          refine X.blkN ?_
          refine X.thenN ?_
          refine C.region ?_
          refine St.get h rfl rfl rfl (G.bin rfl rfl rfl (B.addi (by omega) (by omega))) fun a h => ?_
          refine St.get h rfl rfl rfl (G.move rfl rfl) fun a h => ?_
          refine wpl_nil ?_
          refine X.thenN ?_
          replace h := h.sel [0, 2] rfl
          replace h := h.conv (sl' := _) (L' := [_, _]) rfl rfl
          exact ⟨m - 1, by omega, i + 1, by omega, (h.conv rfl (L' := [QAt b o ⟨markI n (takesQ (l.take (i + 1))) q.items, restW n q.works (l.take (i + 1)) false, q.given⟩, _]) (by rw [htx, htq]; simp only [hnr])).sub ⟨rfl, rfl, by rw [htx, htq]; rfl, rfl, rfl, rfl, trivial⟩⟩
        · rw [if_neg hc, Nat.add_zero] at htq
          refine St.callD h [1] rfl (Ro.nil _) ((note_closed b o ⟨markI n (takesQ (l.take i)) q.items, restW n q.works (l.take i) false, q.given⟩ n x (by simp; omega) hlens.2)) rfl rfl rfl Try.call73 rfl rfl fun a w h => ?_
          replace h := h.conv (sl' := _) (L' := [_, cells _ _ [_, _, _], _]) rfl rfl
          refine wpl_nil ?_
          refine X.blkN ?_
          refine X.thenN ?_
          refine C.region ?_
          refine St.get h rfl rfl rfl (G.bin rfl rfl rfl (B.addi (by omega) (by omega))) fun a h => ?_
          refine St.get h rfl rfl rfl (G.move rfl rfl) fun a h => ?_
          refine wpl_nil ?_
          refine X.thenN ?_
          replace h := h.sel [0, 2] rfl
          replace h := h.conv (sl' := _) (L' := [_, _]) rfl rfl
          exact ⟨m - 1, by omega, i + 1, by omega, (h.conv rfl (L' := [QAt b o ⟨markI n (takesQ (l.take (i + 1))) q.items, restW n q.works (l.take (i + 1)) false, q.given⟩, _]) (by rw [htx, htq]; simp only [hnr])).sub ⟨rfl, rfl, by rw [htx, htq]; rfl, rfl, rfl, rfl, trivial⟩⟩
      · rw [List.take_of_length_le (by omega)] at h
        obtain ⟨gi, ci, gw, cw, ws, hw, h⟩ := h.openM 0 rfl
        have hfs := find_spec b o n (rlv gi (markI n (takesQ l) q.items).length ci) (.int .i64 q.given) gw cw ws
        replace h := h.conv (sl' := _) (L' := [cells _ _ [_, _, _], _, _, _, _]) rfl rfl
        refine C.seq ?_
        refine C.region ?_
        refine St.get h rfl rfl rfl (G.bin rfl rfl rfl (B.lssF (by omega))) fun a h => ?_
        refine wpl_nil ?_
        refine X.thenN ?_
        refine C.seq ?_
        refine St.condF h rfl ?_
        refine C.exit ?_
        refine X.thenE ?_
        refine X.thenE ?_
        refine X.blkE ?_
        refine X.thenN ?_
        refine C.seq ?_
        refine C.seq ?_
        refine C.region ?_
        refine St.get h rfl rfl rfl (G.move rfl rfl) fun a h => ?_
        refine St.get h rfl rfl rfl (G.move rfl rfl) fun a h => ?_
        by_cases hl0 : l = []
        · subst hl0
          have e2 : restW n q.works [] false = q.works := rfl
          have e3 : restW n q.works [] true = q.works := rfl
          rw [e2] at hw
          rw [e3]
          rcases hq2 : findW n ws with _ | pq
          · rw [hq2] at hfs
            refine St.callD h [0, 1, 1] rfl (Ro.nil _) (hfs) rfl rfl rfl Try.call51 rfl rfl fun a w h => ?_
            replace h := h.conv (sl' := _) (L' := [cells _ _ [_, _, _], _, _, _, _]) rfl rfl
            refine St.get h rfl rfl rfl (G.assign rfl rfl) fun a h => ?_
            refine wpl_nil ?_
            refine X.thenN ?_
            refine C.seq ?_
            refine C.region ?_
            refine St.get h rfl rfl rfl (G.move rfl rfl) fun a h => ?_
            refine St.get h rfl rfl rfl (G.bin rfl rfl rfl (B.pneq Try.underlying92 _)) fun a h => ?_
            refine wpl_nil ?_
            refine X.thenN ?_
            refine St.condF h rfl ?_
            refine C.skip ?_
            refine X.thenN ?_
            refine C.seq ?_
            refine C.region ?_
            refine St.get h rfl rfl rfl (G.assign rfl rfl) fun a h => ?_
            refine wpl_nil ?_
            refine X.thenN ?_
            refine C.ret ?_
            replace h := h.fold [0, 3, 1, 2] rfl ((QAt_mk (q := ⟨markI n (takesQ []) q.items, q.works, q.given⟩) gi ci gw cw ws hw))
            replace h := h.conv (sl' := _) (L' := [_, _]) rfl rfl
            replace h := h.sel [0] rfl
            replace h := h.conv (sl' := _) (L' := [_]) rfl rfl
            exact h.ret1 Try.results42 rfl (Ent.refl _) (⟨rfl, rfl⟩)
          · obtain ⟨i, p, hi, rfl, hpn, hnn2⟩ := findW_some' hq2
            rw [hw, hnn] at hnn2
            cases hnn2
        · have e2 : restW n q.works l false = q.works ++ [⟨n, l, false⟩] := by simp [restW, hl0]
          have e3 : restW n q.works l true = q.works ++ [⟨n, l, true⟩] := by simp [restW, hl0]
          obtain ⟨hu1, hu2⟩ := upd_restW hl0 hnn
          rw [e2] at hw
          rw [e3]
          rcases hq2 : findW n ws with _ | pq
          · have := findW_none' hq2
            rw [hw, hu2] at this
            cases this
          · rw [hq2] at hfs
            obtain ⟨i, p, hi, rfl, hpn, hnn2, hup⟩ := findW_upd hq2
            have hup := hup prepW
            rw [hw, hu1] at hup
            refine St.callD h [0, 1, 1] rfl (Ro.nil _) (hfs) rfl rfl rfl Try.call51 rfl rfl fun a w h => ?_
            replace h := h.conv (sl' := _) (L' := [cells _ _ [_, _, _], _, _, _, _]) rfl rfl
            replace h := h.turn 2 rfl ((many_takeL (WAt _) hi))
            replace h := h.conv (sl' := _) (L' := [_, _, cells _ _ [_, _, _], _, _, _]) rfl rfl
            obtain ⟨g1, c1, h⟩ := h.openW 0 rfl
            replace h := h.conv (sl' := _) (L' := [cells _ _ [_, _, _], _, _, cells _ _ [_, _, _], _, _, _]) rfl rfl
            refine St.get h rfl rfl rfl (G.assign rfl rfl) fun a h => ?_
            refine wpl_nil ?_
            refine X.thenN ?_
            refine C.seq ?_
            refine C.region ?_
            refine St.get h rfl rfl rfl (G.move rfl rfl) fun a h => ?_
            refine St.get h rfl rfl rfl (G.bin rfl rfl rfl (B.pneq Try.underlying92 _)) fun a h => ?_
            refine wpl_nil ?_
            refine X.thenN ?_
            refine St.condT h rfl ?_
            refine C.region ?_
            refine St.get h rfl rfl rfl (G.move rfl rfl) fun a h => ?_
            refine St.get h rfl rfl rfl (G.nilc rfl rfl) fun a h => ?_
            refine St.get h rfl rfl rfl (G.fadr 2 rfl rfl Try.underlying122 rfl rfl Try.sizeOf4) fun a h => ?_
            refine St.put h rfl rfl (U.st 0 2 rfl rfl rfl rfl rfl rfl rfl Try.sizeOf4) fun a w h => ?_
            replace h := h.conv (sl' := _) (L' := [cells _ _ [_, _, _], _, _, cells _ _ [_, _, _], _, _, _]) rfl rfl
            refine wpl_nil ?_
            refine X.thenN ?_
            refine C.seq ?_
            refine C.region ?_
            refine St.get h rfl rfl rfl (G.assign rfl rfl) fun a h => ?_
            refine wpl_nil ?_
            refine X.thenN ?_
            refine C.ret ?_
            replace h := h.fold [0, 1] rfl ((WAt_mk 80 p.1 p.2.n p.2.list true g1 c1))
            replace h := h.conv (sl' := _) (L' := [_, _, cells _ _ [_, _, _], _, _, _]) rfl rfl
            replace h := h.fold [0, 1] rfl ((many_putL (WAt 80) (p.1, prepW p.2) hi))
            replace h := h.conv (sl' := _) (L' := [_, cells _ _ [_, _, _], _, _, _]) rfl rfl
            have hwl : (ws.set i (p.1, prepW p.2)).map Prod.snd = q.works ++ [⟨n, l, true⟩] := by rw [List.map_set, hw, hup]
            have he := map_set_same Prod.fst (p.1, prepW p.2) hi rfl
            replace h := h.conv rfl (L' := [_, cells b o [_, rlv gw (ws.set i (p.1, prepW p.2)).length cw, _], ownl encPtr 92 gw cw ((ws.set i (p.1, prepW p.2)).map Prod.fst), _, _]) (by rw [he, List.length_set])
            replace h := h.fold [1, 3, 2, 0] rfl ((QAt_mk (q := ⟨markI n (takesQ l) q.items, q.works ++ [⟨n, l, true⟩], q.given⟩) gi ci gw cw (ws.set i (p.1, prepW p.2)) hwl))
            replace h := h.conv (sl' := _) (L' := [_, _]) rfl rfl
            replace h := h.sel [0] rfl
            replace h := h.conv (sl' := _) (L' := [_]) rfl rfl
            exact h.ret1 Try.results42 rfl (Ent.refl _) (⟨rfl, rfl⟩)
  · rw [hq'] at hfs
    obtain ⟨i, p, hi, rfl, hpn, hnn⟩ := findW_some' hq'
    rw [hw] at hnn
    have e : restQ q n l = (7, q) := by simp [restQ, hn, hr, hnn]
    rw [e]
    refine St.callD h [0, 1, 1] rfl (Ro.nil _) (hfs) rfl rfl rfl Try.call51 rfl rfl fun a w h => ?_
    replace h := h.conv (sl' := _) (L' := [cells _ _ [_, _, _], _, _, _, _]) rfl rfl
    refine St.get h rfl rfl rfl (G.bin rfl rfl rfl (B.pneq Try.underlying92 _)) fun a h => ?_
    refine wpl_nil ?_
    refine X.thenN ?_
    refine St.condT h rfl ?_
    refine C.seq ?_
    refine C.region ?_
    refine St.get h rfl rfl rfl (G.assign rfl rfl) fun a h => ?_
    refine wpl_nil ?_
    refine X.thenN ?_
    refine C.ret ?_
    refine X.thenR ?_
    replace h := h.fold [0, 3, 1, 2] rfl ((QAt_mk gi ci gw cw ws hw))
    replace h := h.conv (sl' := _) (L' := [_, _]) rfl rfl
    replace h := h.sel [0] rfl
    replace h := h.conv (sl' := _) (L' := [_]) rfl rfl
    exact h.ret1 Try.results42 rfl (Ent.refl _) (⟨rfl, rfl⟩)
end Go.Proofs.Ytllhegccpknncaa
