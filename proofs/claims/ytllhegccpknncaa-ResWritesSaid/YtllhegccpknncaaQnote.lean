/-
  (*queue.Queue).note: a change behind a work's others.
-/
import Derived.Test.YtllhegccpknncaaQfind
import Derived.Test.YtllhegccpknncaaSeat
set_option linter.unusedVariables false
set_option linter.unusedSimpArgs false
set_option linter.unusedSectionVars false
set_option maxRecDepth 8000
namespace Go.Proofs.Ytllhegccpknncaa
open Go.Tr

theorem findW_none {n : Int} {c : Ch} : ∀ {ws : List (Nat × QW)}, findW n ws = none → noteM n c (ws.map Prod.snd) = ws.map Prod.snd ++ [⟨n, [c], false⟩]
  | [], _ => rfl
  | p :: ws, h => by
    simp only [findW] at h
    split at h
    · cases h
    · rename_i hn
      simp [noteM, hn, findW_none h]
theorem findW_some {n : Int} {q : Nat} : ∀ {ws : List (Nat × QW)}, findW n ws = some q → ∃ i p, ws[i]? = some p ∧ p.1 = q ∧ p.2.n = n ∧ ∀ c, noteM n c (ws.map Prod.snd) = (ws.map Prod.snd).set i { p.2 with list := p.2.list ++ [c] }
  | [], h => by simp [findW] at h
  | p :: ws, h => by
    simp only [findW] at h
    split at h
    · rename_i hn
      injection h with h
      exact ⟨0, p, rfl, h, hn, fun c => by simp [noteM, hn]⟩
    · rename_i hn
      obtain ⟨i, p', h1, h2, h3, h4⟩ := findW_some h
      exact ⟨i + 1, p', by simpa using h1, h2, h3, fun c => by simp [noteM, hn, h4 c]⟩

theorem note_spec (b o : Nat) (n : Int) (ch : Ch) (v0 v2 : Value) (A : Option Addr) (cw : Nat) (ws : List (Nat × QW)) (hw : ws.length < 1000000000) (hl : ∀ p ∈ ws, p.2.list.length < 1000000000) :
    Meets Try.prog 73 #[.pointer (some ⟨b, o, none⟩), .int .i64 n, .agg #[.int .i64 ch.kind, .int .i64 ch.key, .int .u64 ch.val]]
      [cells b o [v0, rlv A ws.length cw, v2], ownl encPtr 92 A cw (ws.map Prod.fst), many (WAt 80) ws]
      (fun v L => v = .tuple #[] ∧ ∃ A' cw' ws', ws'.map Prod.snd = noteM n ch (ws.map Prod.snd) ∧ L = [cells b o [v0, rlv A' ws'.length cw', v2], ownl encPtr 92 A' cw' (ws'.map Prod.fst), many (WAt 80) ws']) := by
  have hfs := find_spec b o n v0 v2 A cw ws
  rcases hq : findW n ws with _ | q
  · rw [hq] at hfs
    refine Meets.of_code Try.func73 rfl Try.ntmps73 rfl fun w0 S R a h => ?_
    refine C.seq ?_
    refine C.region ?_
    refine St.box h rfl rfl rfl rfl rfl fun b1 a w h => ?_
    replace h := h.conv (sl' := _) (L' := [cells _ _ [_, _, _], cells _ _ [_, _, _], _, _]) rfl rfl
    refine wpl_nil ?_
    refine X.thenN ?_
    refine C.seq ?_
    refine C.region ?_
    refine St.get h rfl rfl rfl (G.move rfl rfl) fun a h => ?_
    refine St.get h rfl rfl rfl (G.move rfl rfl) fun a h => ?_
    refine St.callD h [1, 1, 1] rfl (Ro.nil _) (hfs) rfl rfl rfl Try.call51 rfl rfl fun a w h => ?_
    replace h := h.conv (sl' := _) (L' := [cells _ _ [_, _, _], _, _, cells _ _ [_, _, _]]) rfl rfl
    refine St.get h rfl rfl rfl (G.assign rfl rfl) fun a h => ?_
    refine wpl_nil ?_
    refine X.thenN ?_
    refine C.seq ?_
    refine C.seq ?_
    refine C.region ?_
    refine St.get h rfl rfl rfl (G.move rfl rfl) fun a h => ?_
    refine St.get h rfl rfl rfl (G.bin rfl rfl rfl (B.peql Try.underlying92 _)) fun a h => ?_
    refine wpl_nil ?_
    refine X.thenN ?_
    refine St.condT h rfl ?_
    refine C.seq ?_
    refine C.region ?_
    refine St.get h rfl rfl rfl (G.move rfl rfl) fun a h => ?_
    refine St.get h rfl rfl rfl (G.build [(0, 1), (1, 1), (2, 1)] rfl rfl Try.zeroValue122 Try.underlying122 ⟨rfl, Try.sizeOf3, rfl, Try.sizeOf23, rfl, Try.sizeOf4, trivial⟩ rfl) fun a h => ?_
    replace h := h.conv (sl' := (_, .agg #[.int _ _, _, _]) :: _) (L' := _) rfl rfl
    refine St.box h rfl rfl rfl rfl rfl fun b2 a w h => ?_
    replace h := h.conv (sl' := _) (L' := [cells _ _ [_, _, _], cells _ _ [_, _, _], _, _, cells _ _ [_, _, _]]) rfl rfl
    refine St.get h rfl rfl rfl (G.assign rfl rfl) fun a h => ?_
    refine wpl_nil ?_
    refine X.thenN ?_
    refine C.region ?_
    refine St.get h rfl rfl rfl (G.move rfl rfl) fun a h => ?_
    refine St.get h rfl rfl rfl (G.move rfl rfl) fun a h => ?_
    refine St.get h rfl rfl rfl (G.nilc rfl rfl) fun a h => ?_
    refine St.get h rfl rfl rfl (G.fadr 1 rfl rfl Try.underlying33 rfl rfl Try.sizeOf31) fun a h => ?_
    refine St.get h rfl rfl rfl (G.ld 1 1 rfl rfl rfl rfl rfl Try.isAgg31) fun a h => ?_
    refine St.get h rfl rfl rfl (G.move rfl rfl) fun a h => ?_
    refine St.bslice h (encPtr) ([b2]) rfl rfl Try.underlying31 Try.sizeOf92 Try.zeroValue92 rfl rfl ⟨rfl, rfl, trivial⟩ rfl rfl rfl fun b3 a w h => ?_
    skip
    refine St.append h _ 3 rfl (Ro.cons 0 rfl (ownl_ro _ _ _ _ _) (Ro.nil _)) rfl rfl rfl (by first | rfl | omega | simp) (by first | rfl | omega | simp) Try.underlying31 Try.typeInfo92 rfl rfl rfl 8 rfl (by (try simp only [List.length_append, List.length_cons, List.length_nil, List.length_map, List.length_take]); omega) (by (try simp only [List.length_append, List.length_cons, List.length_nil, List.length_map, List.length_take]); omega) rfl rfl rfl fun A1 c1 a w hnil h => ?_
    replace h := h.conv (sl' := _) (L' := [_, _, cells _ _ [_, _, _], cells _ _ [_, _, _], _, cells _ _ [_, _, _]]) rfl rfl
    refine St.get h rfl rfl rfl (G.nilc rfl rfl) fun a h => ?_
    refine St.get h rfl rfl rfl (G.fadr 1 rfl rfl Try.underlying33 rfl rfl Try.sizeOf31) fun a h => ?_
    refine St.put h rfl rfl (U.st 3 1 rfl rfl rfl rfl rfl rfl rfl Try.sizeOf31) fun a w h => ?_
    replace h := h.conv (sl' := _) (L' := [_, _, cells _ _ [_, _, _], cells _ _ [_, _, _], _, cells _ _ [_, _, _]]) rfl rfl
    refine wpl_nil ?_
    refine X.thenN ?_
    replace h := (h.nil encCh 80).sel [4, 1, 5, 3, 6, 0] rfl
    replace h := h.conv (sl' := _) (L' := [cells _ _ [_, _, _], _, _, cells _ _ [_, _, _], cells _ _ [_, _, _], _]) rfl rfl
    refine C.anyAt Try_mixed 7 11 [3, 4] (LB := [_, _]) h rfl rfl fun w h hcl hI => ?_
    refine St.takeP h 0 7 1 rfl (by decide +kernel) hcl hI (wanted_of rfl _) rfl rfl (G.move rfl rfl) (fun _ _ _ x => x) fun a h hcl hI => ?_
    refine St.takeP h 1 7 3 rfl (by decide +kernel) hcl hI (wanted_of rfl _) rfl rfl (G.move rfl rfl) (fun _ _ _ x => x) fun a h hcl hI => ?_
    refine St.takeP h 2 7 7 rfl (by decide +kernel) hcl hI (wanted_of rfl _) rfl rfl (G.nilc rfl rfl) (fun _ _ _ x => x) fun a h hcl hI => ?_
    refine St.takeP h 3 7 15 rfl (by decide +kernel) hcl hI (wanted_of rfl _) rfl rfl (G.fadr 1 rfl rfl Try.underlying122 rfl rfl Try.sizeOf23) (fun _ _ _ x => x) fun a h hcl hI => ?_
    refine St.takeL h 4 7 31 rfl (by decide +kernel) hcl hI (wanted_of rfl _) rfl rfl (G.ld 0 1 rfl rfl rfl rfl rfl Try.isAgg23) (fun _ _ _ x => x) fun a h hcl hI => ?_
    refine St.takeL h 5 7 63 rfl (by decide +kernel) hcl hI (wanted_of rfl _) rfl rfl (G.lda 1 0 3 rfl rfl rfl rfl rfl Try.isAgg80 Try.sizeOf80) (fun _ _ _ x => x) fun a h hcl hI => ?_
    replace h := h.conv (sl' := (_, .agg #[_, _, _]) :: _) (L' := _) rfl rfl
    refine oneL 6 127 rfl (by decide +kernel) hcl (wanted_of rfl _) fun hcl => ?_
    refine St.actK h rfl rfl (Acts.bslice (encCh) ([ch]) rfl rfl Try.underlying23 Try.sizeOf80 Try.zeroValue80 rfl (Nat.le_of_ble_eq_true rfl) ⟨rfl, rfl, trivial⟩) fun v L a w hp h => ?_
    obtain ⟨b4, rfl, rfl⟩ := hp
    refine St.onL h [4, 5] (LB := [_, _]) rfl fun hI => ?_
    refine oneL 7 255 rfl (by decide +kernel) hcl (wanted_of rfl _) fun hcl => ?_
    refine St.actK h rfl rfl (Acts.append _ 6 rfl (Ro.cons 0 rfl (ownl_ro _ _ _ _ _) (Ro.nil _)) rfl rfl rfl (by first | rfl | omega | simp) (by first | rfl | omega | simp) Try.underlying23 Try.typeInfo80 rfl rfl rfl 24 rfl (by (try simp only [List.length_append, List.length_cons, List.length_nil, List.length_map, List.length_take]); omega) (by (try simp only [List.length_append, List.length_cons, List.length_nil, List.length_map, List.length_take]); omega)) fun v L a w hp h => ?_
    obtain ⟨A2, c2, rfl, hnil, rfl⟩ := hp
    replace h := h.conv (sl' := _) (L' := [_, _, cells _ _ [_, _, _], _, _, cells _ _ [_, _, _], cells _ _ [_, _, _]]) rfl rfl
    refine offL rfl fun hI => ?_
    refine St.takeP h 8 7 511 rfl (by decide +kernel) hcl hI (wanted_of rfl _) rfl rfl (G.nilc rfl rfl) (fun _ _ _ x => x) fun a h hcl hI => ?_
    refine St.takeP h 9 7 1023 rfl (by decide +kernel) hcl hI (wanted_of rfl _) rfl rfl (G.fadr 1 rfl rfl Try.underlying122 rfl rfl Try.sizeOf23) (fun _ _ _ x => x) fun a h hcl hI => ?_
    refine oneL 10 2047 rfl (by decide +kernel) hcl (wanted_of rfl _) fun hcl => ?_
    refine St.putK h rfl (U.st 5 1 rfl rfl rfl rfl rfl rfl rfl Try.sizeOf23) fun a w h => ?_
    replace h := h.conv (sl' := _) (L' := [_, _, cells _ _ [_, _, _], _, _, cells _ _ [_, _, _], cells _ _ [_, _, _]]) rfl rfl
    refine offL rfl fun hI => ?_
    refine doneL (by decide +kernel) ?_
    replace h := h.fold [5, 0] rfl (WAt_mk _ _ _ _ _ _ _)
    replace h := h.fold [0, 4] rfl (many_snocL (WAt _) _ (b2, ⟨n, [] ++ [ch], false⟩))
    replace h := h.sel [2, 3, 0] rfl
    exact h.end0 rfl (Ent.refl _) ⟨rfl, A1, c1, ws ++ [(b2, ⟨n, [] ++ [ch], false⟩)], by simp [findW_none hq], by simp⟩
  · rw [hq] at hfs
    obtain ⟨i, p, hi, rfl, hpn, hnote⟩ := findW_some hq
    have hpl := hl p (List.mem_of_getElem? hi)
    refine Meets.of_code Try.func73 rfl Try.ntmps73 rfl fun w0 S R a h => ?_
    refine C.seq ?_
    refine C.region ?_
    refine St.box h rfl rfl rfl rfl rfl fun b1 a w h => ?_
    replace h := h.conv (sl' := _) (L' := [cells _ _ [_, _, _], cells _ _ [_, _, _], _, _]) rfl rfl
    refine wpl_nil ?_
    refine X.thenN ?_
    refine C.seq ?_
    refine C.region ?_
    refine St.get h rfl rfl rfl (G.move rfl rfl) fun a h => ?_
    refine St.get h rfl rfl rfl (G.move rfl rfl) fun a h => ?_
    refine St.callD h [1, 1, 1] rfl (Ro.nil _) (hfs) rfl rfl rfl Try.call51 rfl rfl fun a w h => ?_
    replace h := h.conv (sl' := _) (L' := [cells _ _ [_, _, _], _, _, cells _ _ [_, _, _]]) rfl rfl
    refine St.get h rfl rfl rfl (G.assign rfl rfl) fun a h => ?_
    refine wpl_nil ?_
    refine X.thenN ?_
    refine C.seq ?_
    refine C.seq ?_
    refine C.region ?_
    refine St.get h rfl rfl rfl (G.move rfl rfl) fun a h => ?_
    refine St.get h rfl rfl rfl (G.bin rfl rfl rfl (B.peql Try.underlying92 _)) fun a h => ?_
    refine wpl_nil ?_
    refine X.thenN ?_
    refine St.condF h rfl ?_
    refine C.skip ?_
    refine X.thenN ?_
    replace h := h.turn 2 rfl (many_takeL (WAt _) hi)
    replace h := h.conv (sl' := _) (L' := [_, _, cells _ _ [_, _, _], _, cells _ _ [_, _, _]]) rfl rfl
    obtain ⟨A1, c1, h⟩ := h.openW 0 rfl
    replace h := h.conv (sl' := _) (L' := [cells _ _ [_, _, _], _, _, cells _ _ [_, _, _], _, cells _ _ [_, _, _]]) rfl rfl
    refine C.anyAt Try_mixed 7 11 [0, 5] (LB := [_, _]) h rfl rfl fun w h hcl hI => ?_
    refine St.takeP h 0 7 1 rfl (by decide +kernel) hcl hI (wanted_of rfl _) rfl rfl (G.move rfl rfl) (fun _ _ _ x => x) fun a h hcl hI => ?_
    refine St.takeP h 1 7 3 rfl (by decide +kernel) hcl hI (wanted_of rfl _) rfl rfl (G.move rfl rfl) (fun _ _ _ x => x) fun a h hcl hI => ?_
    refine St.takeP h 2 7 7 rfl (by decide +kernel) hcl hI (wanted_of rfl _) rfl rfl (G.nilc rfl rfl) (fun _ _ _ x => x) fun a h hcl hI => ?_
    refine St.takeP h 3 7 15 rfl (by decide +kernel) hcl hI (wanted_of rfl _) rfl rfl (G.fadr 1 rfl rfl Try.underlying122 rfl rfl Try.sizeOf23) (fun _ _ _ x => x) fun a h hcl hI => ?_
    refine St.takeL h 4 7 31 rfl (by decide +kernel) hcl hI (wanted_of rfl _) rfl rfl (G.ld 0 1 rfl rfl rfl rfl rfl Try.isAgg23) (fun _ _ _ x => x) fun a h hcl hI => ?_
    refine St.takeL h 5 7 63 rfl (by decide +kernel) hcl hI (wanted_of rfl _) rfl rfl (G.lda 1 0 3 rfl rfl rfl rfl rfl Try.isAgg80 Try.sizeOf80) (fun _ _ _ x => x) fun a h hcl hI => ?_
    replace h := h.conv (sl' := (_, .agg #[_, _, _]) :: _) (L' := _) rfl rfl
    refine oneL 6 127 rfl (by decide +kernel) hcl (wanted_of rfl _) fun hcl => ?_
    refine St.actK h rfl rfl (Acts.bslice (encCh) ([ch]) rfl rfl Try.underlying23 Try.sizeOf80 Try.zeroValue80 rfl (Nat.le_of_ble_eq_true rfl) ⟨rfl, rfl, trivial⟩) fun v L a w hp h => ?_
    obtain ⟨b2, rfl, rfl⟩ := hp
    refine St.onL h [1, 6] (LB := [_, _]) rfl fun hI => ?_
    refine oneL 7 255 rfl (by decide +kernel) hcl (wanted_of rfl _) fun hcl => ?_
    refine St.actK h rfl rfl (Acts.append _ 2 rfl (Ro.cons 0 rfl (ownl_ro _ _ _ _ _) (Ro.nil _)) rfl rfl rfl (by first | rfl | omega | simp) (by first | rfl | omega | simp) Try.underlying23 Try.typeInfo80 rfl rfl rfl 24 rfl (by (try simp only [List.length_append, List.length_cons, List.length_nil, List.length_map, List.length_take]); omega) (by (try simp only [List.length_append, List.length_cons, List.length_nil, List.length_map, List.length_take]); omega)) fun v L a w hp h => ?_
    obtain ⟨A2, c2, rfl, hnil, rfl⟩ := hp
    replace h := h.conv (sl' := _) (L' := [_, _, cells _ _ [_, _, _], _, cells _ _ [_, _, _], _, cells _ _ [_, _, _]]) rfl rfl
    refine offL rfl fun hI => ?_
    refine St.takeP h 8 7 511 rfl (by decide +kernel) hcl hI (wanted_of rfl _) rfl rfl (G.nilc rfl rfl) (fun _ _ _ x => x) fun a h hcl hI => ?_
    refine St.takeP h 9 7 1023 rfl (by decide +kernel) hcl hI (wanted_of rfl _) rfl rfl (G.fadr 1 rfl rfl Try.underlying122 rfl rfl Try.sizeOf23) (fun _ _ _ x => x) fun a h hcl hI => ?_
    refine oneL 10 2047 rfl (by decide +kernel) hcl (wanted_of rfl _) fun hcl => ?_
    refine St.putK h rfl (U.st 2 1 rfl rfl rfl rfl rfl rfl rfl Try.sizeOf23) fun a w h => ?_
    replace h := h.conv (sl' := _) (L' := [_, _, cells _ _ [_, _, _], _, cells _ _ [_, _, _], _, cells _ _ [_, _, _]]) rfl rfl
    refine offL rfl fun hI => ?_
    refine doneL (by decide +kernel) ?_
    replace h := h.fold [2, 0] rfl (WAt_mk _ _ _ _ _ _ _)
    replace h := h.fold [0, 2] rfl (many_putL (WAt _) (p.1, ⟨p.2.n, p.2.list ++ [ch], p.2.prep⟩) hi)
    replace h := h.sel [2, 3, 0] rfl
    have he := map_set_same Prod.fst (p.1, ⟨p.2.n, p.2.list ++ [ch], p.2.prep⟩) hi rfl
    exact h.end0 rfl (Ent.refl _) ⟨rfl, A, cw, ws.set i (p.1, ⟨p.2.n, p.2.list ++ [ch], p.2.prep⟩), by rw [List.map_set, ← hnote], by rw [he, List.length_set]⟩
end Go.Proofs.Ytllhegccpknncaa
