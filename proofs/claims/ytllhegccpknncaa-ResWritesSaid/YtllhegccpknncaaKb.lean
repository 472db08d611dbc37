/-
  The store of keys: Get, Put, Del, Prepare, Backout.
-/
import Derived.Test.YtllhegccpknncaaKa
import Derived.Test.YtllhegccpknncaaQc
import Derived.Test.YtllhegccpknncaaSeat
set_option linter.unusedVariables false
set_option linter.unusedSimpArgs false
set_option linter.unusedSectionVars false
set_option maxRecDepth 8000
namespace Go.Proofs.Ytllhegccpknncaa
open Go.Tr
theorem firstI_none {α : Type} {p : α → Bool} : ∀ {l : List α} {i : Int}, 0 ≤ i → firstI p l i < 0 → ∀ x ∈ l, p x = false
  | [], _, _, _, x, hx => by simp at hx
  | y :: l, i, hi, h, x, hx => by
    simp only [firstI] at h
    split at h
    · omega
    · rename_i hp
      rcases List.mem_cons.1 hx with rfl | hx
      · simpa using hp
      · exact firstI_none (by omega) h x hx
theorem firstI_at {α : Type} {p : α → Bool} : ∀ {l : List α} {i : Int}, 0 ≤ i → 0 ≤ firstI p l i → ∃ (k : Nat) (x : α), firstI p l i = i + k ∧ l[k]? = some x ∧ p x = true
  | [], i, hi, h => by simp [firstI] at h
  | y :: l, i, hi, h => by
    simp only [firstI] at h ⊢
    split
    · rename_i hp; exact ⟨0, y, by simp, rfl, hp⟩
    · rename_i hp
      rw [if_neg hp] at h
      obtain ⟨k, x, h1, h2, h3⟩ := firstI_at (by omega) h
      exact ⟨k + 1, x, by rw [h1]; omega, by simpa using h2, h3⟩
theorem atK_at {l : List Ch} {key : Int} (h : 0 ≤ atK l key) : ∃ (k : Nat) (x : Ch), atK l key = k ∧ l[k]? = some x ∧ x.key = key := by
  obtain ⟨k, x, h1, h2, h3⟩ := firstI_at (p := fun (c : Ch) => decide (c.key = key)) (l := l) (i := 0) (by omega) h
  exact ⟨k, x, by unfold atK; rw [h1]; omega, h2, of_decide_eq_true h3⟩
theorem touchK_same (s : KM) (n key : Int) (alone : Bool) : (touchK s n key alone).2.vals = s.vals ∧ (touchK s n key alone).2.there = s.there := by
  unfold touchK
  dsimp only
  (repeat' split) <;> exact ⟨rfl, rfl⟩
theorem mem_putM {K V : Type} [DecidableEq K] {x : K} {v : V} {w : K × V} : ∀ {l : List (K × V)}, w ∈ putM x v l → w = (x, v) ∨ w ∈ l
  | [], h => by simpa [putM] using h
  | y :: l, h => by
    simp only [putM] at h
    split at h
    · rcases List.mem_cons.1 h with h | h
      · exact .inl h
      · exact .inr (List.mem_cons_of_mem _ h)
    · rcases List.mem_cons.1 h with h | h
      · exact .inr (by rw [h]; exact List.mem_cons_self ..)
      · exact (mem_putM h).imp id (List.mem_cons_of_mem _)
theorem touchK_lists {s : KM} (hs : s.Good) (n key : Int) (alone : Bool) : ∀ w ∈ (touchK s n key alone).2.works, KeysOk w.2.list := by
  have hl := hs.lists
  intro w hw
  unfold touchK at hw
  dsimp only at hw
  (repeat' split at hw) <;> first | exact hl w hw | (rcases mem_putM hw with h | h <;> first | exact hl w h | (subst h; exact ⟨fun c hc => by simp at hc, .nil⟩))
theorem KW_back (e : TypeId) {ws : KWs} {i : Nat} {p : Nat} {kw : KW} (hi : ws.ps[i]? = some (p, kw)) (A : Option Addr) (c : Nat) :
    Ent (stars [cells p 0 [rlv A kw.list.length c, .bool kw.prep], ownl encCh e A c kw.list, many (KWAt e) (ws.ps.eraseIdx i)]) (many (KWAt e) ws.ps) := by
  have h1 := Ent.foldL [0, 1] (L := [cells p 0 [rlv A kw.list.length c, .bool kw.prep], ownl encCh e A c kw.list, many (KWAt e) (ws.ps.eraseIdx i)]) rfl (KWAt_mk e p kw.list kw.prep A c)
  have h2 := many_putL (KWAt e) (p, kw) hi
  rw [set_self hi] at h2
  exact h1.trans h2
theorem KGet_spec (b o : Nat) (s : KM) (hs : s.Good) (n key : Int) : Meets Try.prog 88 #[.pointer (some ⟨b, o, none⟩), .int .i64 n, .int .i64 key] [KAt b o s]
    (Det (.tuple #[.int .u64 (getK s n key).1, .bool (getK s n key).2.1, .int .i64 (getK s n key).2.2.1]) [KAt b o (getK s n key).2.2.2]) := by
  refine Meets.of_code Try.func88 rfl Try.ntmps88 rfl fun w0 S R a h => ?_
  refine C.seq ?_
  refine C.region ?_
  refine St.get h rfl rfl rfl (G.assign rfl rfl) fun a h => ?_
  refine St.get h rfl rfl rfl (G.assign rfl rfl) fun a h => ?_
  refine St.get h rfl rfl rfl (G.assign rfl rfl) fun a h => ?_
  refine wpl_nil ?_
  refine X.thenN ?_
  refine C.seq ?_
  refine C.region ?_
  refine St.get h rfl rfl rfl (G.move rfl rfl) fun a h => ?_
  refine St.get h rfl rfl rfl (G.move rfl rfl) fun a h => ?_
  refine St.get h rfl rfl rfl (G.move rfl rfl) fun a h => ?_
  refine St.call h [0] rfl (Ro.nil _) ((touch_spec b o s hs n key false)) rfl rfl rfl Try.call103 rfl rfl fun v L a w hp h => ?_
  obtain ⟨E1, s1, hE⟩ : ∃ e s1, touchK s n key false = (e, s1) := ⟨_, _, rfl⟩
  obtain ⟨T, hT⟩ : ∃ x, getK s n key = x := ⟨_, rfl⟩
  rw [hT]
  rw [getK, hE] at hT
  rw [hE] at hp
  dsimp only at hT hp
  rcases hp with ⟨he, rfl, _, rfl⟩ | ⟨he, A, ws, p, kw, hg, hw, _, hrange, rfl, rfl⟩
  · rw [if_pos he] at hT
    subst hT
    replace h := h.conv (sl' := _) (L' := [_]) rfl rfl
    refine St.get h rfl rfl rfl (G.move rfl rfl) fun a h => ?_
    refine St.get h rfl rfl rfl (G.extract rfl rfl rfl) fun a h => ?_
    refine St.get h rfl rfl rfl (G.extract rfl rfl rfl) fun a h => ?_
    refine St.get h rfl rfl rfl (G.assign rfl rfl) fun a h => ?_
    refine St.get h rfl rfl rfl (G.assign rfl rfl) fun a h => ?_
    refine wpl_nil ?_
    refine X.thenN ?_
    refine C.seq ?_
    refine C.seq ?_
    refine C.region ?_
    refine St.get h rfl rfl rfl (G.move rfl rfl) fun a h => ?_
    refine St.get h rfl rfl rfl (G.bin rfl rfl rfl (B.neqT (by omega))) fun a h => ?_
    refine wpl_nil ?_
    refine X.thenN ?_
    refine St.condT h rfl ?_
    refine C.seq ?_
    refine C.region ?_
    refine St.get h rfl rfl rfl (G.move rfl rfl) fun a h => ?_
    refine St.get h rfl rfl rfl (G.assign rfl rfl) fun a h => ?_
    refine St.get h rfl rfl rfl (G.assign rfl rfl) fun a h => ?_
    refine St.get h rfl rfl rfl (G.assign rfl rfl) fun a h => ?_
    refine wpl_nil ?_
    refine X.thenN ?_
    refine C.ret ?_
    refine X.thenR ?_
    exact h.ret3 Try.results88 rfl rfl rfl (Ent.refl _) (⟨rfl, rfl⟩)
  · rw [if_neg (by simp [he]), ← hw, getM_works, hg] at hT
    simp only [Option.map_some] at hT
    obtain ⟨i, hi, hgp, _, hps, hwk, hpt⟩ := KWs.get hg
    replace h := h.conv (L' := [_, _, _, _, _, _]) rfl rfl
    have hsame := touchK_same s n key false
    rw [hE] at hsame
    refine St.get h rfl rfl rfl (G.move rfl rfl) fun a h => ?_
    refine St.get h rfl rfl rfl (G.extract rfl rfl rfl) fun a h => ?_
    refine St.get h rfl rfl rfl (G.extract rfl rfl rfl) fun a h => ?_
    refine St.get h rfl rfl rfl (G.assign rfl rfl) fun a h => ?_
    refine St.get h rfl rfl rfl (G.assign rfl rfl) fun a h => ?_
    refine wpl_nil ?_
    refine X.thenN ?_
    refine C.seq ?_
    refine C.seq ?_
    refine C.region ?_
    refine St.get h rfl rfl rfl (G.move rfl rfl) fun a h => ?_
    refine St.get h rfl rfl rfl (G.bin rfl rfl rfl (B.neqF (by omega))) fun a h => ?_
    refine wpl_nil ?_
    refine X.thenN ?_
    refine St.condF h rfl ?_
    refine C.skip ?_
    refine X.thenN ?_
    refine C.seq ?_
    refine C.seq ?_
    refine C.region ?_
    refine St.get h rfl rfl rfl (G.move rfl rfl) fun a h => ?_
    refine St.get h rfl rfl rfl (G.nilc rfl rfl) fun a h => ?_
    refine St.get h rfl rfl rfl (G.fadr 0 rfl rfl Try.underlying144 rfl rfl Try.sizeOf142) fun a h => ?_
    refine St.get h rfl rfl rfl (G.move rfl rfl) fun a h => ?_
    replace h := h.turn 4 rfl ((many_takeL (KWAt _) hi))
    replace h := h.conv (sl' := _) (L' := [_, _, _, _, cells _ _ [_], _, _]) rfl rfl
    obtain ⟨g1, c1, h⟩ := h.openKW 0 rfl
    refine St.callD h [0, 0] rfl (Ro.nil _) ((Kat_spec p g1 c1 kw.list (.bool kw.prep) key)) rfl rfl rfl Try.call104 rfl rfl fun a w h => ?_
    replace h := h.conv (sl' := _) (L' := [cells _ _ [_, _], _, _, _, _, cells _ _ [_], _, _]) rfl rfl
    by_cases hc : 0 ≤ atK kw.list key
    · obtain ⟨k, x, hk, hx, hkey⟩ := atK_at hc
      rw [if_pos hc, hk, Int.toNat_natCast, hx] at hT
      subst hT
      rw [hk] at h
      have hx1 : kw.list[(k : Int).toNat]? = some x := by rw [Int.toNat_natCast]; exact hx
      have hkl : k < kw.list.length := (List.getElem?_eq_some_iff.1 hx).1
      refine St.get h rfl rfl rfl (G.assign rfl rfl) fun a h => ?_
      refine wpl_nil ?_
      refine X.thenN ?_
      refine C.seq ?_
      refine C.region ?_
      refine St.get h rfl rfl rfl (G.move rfl rfl) fun a h => ?_
      refine St.get h rfl rfl rfl (G.bin rfl rfl rfl (B.geqT (by omega))) fun a h => ?_
      refine wpl_nil ?_
      refine X.thenN ?_
      refine St.condT h rfl ?_
      refine C.seq ?_
      refine C.still Try_mixed h (by decide +kernel) fun w h => ?_
      refine St.getS h rfl rfl rfl (G.move rfl rfl) fun a h => ?_
      refine St.getS h rfl rfl rfl (G.nilc rfl rfl) fun a h => ?_
      refine St.getS h rfl rfl rfl (G.fadr 0 rfl rfl Try.underlying144 rfl rfl Try.sizeOf142) fun a h => ?_
      refine St.getS h rfl rfl rfl (G.fadr 0 rfl rfl Try.underlying142 rfl rfl Try.sizeOf23) fun a h => ?_
      refine St.getS h rfl rfl rfl (G.ld 0 0 rfl rfl rfl rfl rfl Try.isAgg23) fun a h => ?_
      refine St.getS h rfl rfl rfl (G.move rfl rfl) fun a h => ?_
      refine St.getS h rfl rfl rfl (G.idxo _ 1 rfl rfl rfl rfl (by omega) (by omega) (by omega) Try.underlying23 Try.sizeOf80) fun a h => ?_
      refine St.getS h rfl rfl rfl (G.fadr 2 rfl rfl Try.underlying80 rfl rfl Try.sizeOf22) fun a h => ?_
      refine St.getS h rfl rfl rfl (G.ldo _ 1 2 rfl (by assumption) rfl rfl rfl rfl rfl Try.isAgg22) fun a h => ?_
      refine St.getS h rfl rfl rfl (G.move rfl rfl) fun a h => ?_
      refine St.getS h rfl rfl rfl (G.nilc rfl rfl) fun a h => ?_
      refine St.getS h rfl rfl rfl (G.fadr 0 rfl rfl Try.underlying144 rfl rfl Try.sizeOf142) fun a h => ?_
      refine St.getS h rfl rfl rfl (G.fadr 0 rfl rfl Try.underlying142 rfl rfl Try.sizeOf23) fun a h => ?_
      refine St.getS h rfl rfl rfl (G.ld 0 0 rfl rfl rfl rfl rfl Try.isAgg23) fun a h => ?_
      refine St.getS h rfl rfl rfl (G.move rfl rfl) fun a h => ?_
      refine St.getS h rfl rfl rfl (G.idxo _ 1 rfl rfl rfl rfl (by omega) (by omega) (by omega) Try.underlying23 Try.sizeOf80) fun a h => ?_
      refine St.getS h rfl rfl rfl (G.fadr 0 rfl rfl Try.underlying80 rfl rfl Try.sizeOf3) fun a h => ?_
      refine St.getS h rfl rfl rfl (G.ldo _ 1 0 rfl (by assumption) rfl rfl rfl rfl rfl Try.isAgg3) fun a h => ?_
      refine St.getPS h rfl rfl rfl (G.bin rfl rfl rfl B.eql) (fun hc1 a h => ?_) (fun hc1 a h => ?_)
      refine St.getS h rfl rfl rfl (G.assign rfl rfl) fun a h => ?_
      refine St.getS h rfl rfl rfl (G.assign rfl rfl) fun a h => ?_
      refine St.getS h rfl rfl rfl (G.assign rfl rfl) fun a h => ?_
      refine wps_nil ?_
      refine X.thenN ?_
      refine C.ret ?_
      refine X.thenR ?_
      rotate_left
      refine St.getS h rfl rfl rfl (G.assign rfl rfl) fun a h => ?_
      refine St.getS h rfl rfl rfl (G.assign rfl rfl) fun a h => ?_
      refine St.getS h rfl rfl rfl (G.assign rfl rfl) fun a h => ?_
      refine wps_nil ?_
      refine X.thenN ?_
      refine C.ret ?_
      refine X.thenR ?_
      rotate_left
      · replace h := h.fold [0, 1, 2] rfl ((KW_back 80 hi g1 c1))
        replace h := h.conv (sl' := _) (L' := [_, _, _, cells _ _ [_], _, _]) rfl rfl
        replace h := h.fold [1, 2, 3, 4, 0, 5] rfl ((KAt_mk A ws hw))
        replace h := h.conv (sl' := _) (L' := [_]) rfl rfl
        exact h.ret3 Try.results88 rfl rfl rfl (Ent.refl _) (⟨by simp [hc1], rfl⟩)
      · replace h := h.fold [0, 1, 2] rfl ((KW_back 80 hi g1 c1))
        replace h := h.conv (sl' := _) (L' := [_, _, _, cells _ _ [_], _, _]) rfl rfl
        replace h := h.fold [1, 2, 3, 4, 0, 5] rfl ((KAt_mk A ws hw))
        replace h := h.conv (sl' := _) (L' := [_]) rfl rfl
        exact h.ret3 Try.results88 rfl rfl rfl (Ent.refl _) (⟨by simp [hc1], rfl⟩)
    · rw [if_neg hc] at hT
      subst hT
      have h1 : (s1.vals.map (Value.int .u64))[key.toNat]? = some (.int .u64 (s.vals.getD key.toNat 0)) := by rw [hsame.1, List.getElem?_map, getD_get (d := 0) (by rw [hs.vals]; omega)]; rfl
      have h2 : (s1.there.map Value.bool)[key.toNat]? = some (.bool (s.there.getD key.toNat false)) := by rw [hsame.2, List.getElem?_map, getD_get (d := false) (by rw [hs.there]; omega)]; rfl
      refine St.get h rfl rfl rfl (G.assign rfl rfl) fun a h => ?_
      refine wpl_nil ?_
      refine X.thenN ?_
      refine C.seq ?_
      refine C.region ?_
      refine St.get h rfl rfl rfl (G.move rfl rfl) fun a h => ?_
      refine St.get h rfl rfl rfl (G.bin rfl rfl rfl (B.geqF (by omega))) fun a h => ?_
      refine wpl_nil ?_
      refine X.thenN ?_
      refine St.condF h rfl ?_
      refine C.skip ?_
      refine X.thenN ?_
      refine C.seq ?_
      refine C.still Try_mixed h (by decide +kernel) fun w h => ?_
      refine St.getS h rfl rfl rfl (G.move rfl rfl) fun a h => ?_
      refine St.getS h rfl rfl rfl (G.move rfl rfl) fun a h => ?_
      refine St.getS h rfl rfl rfl (G.nilc rfl rfl) fun a h => ?_
      refine St.getS h rfl rfl rfl (G.fadr 0 rfl rfl Try.underlying107 rfl rfl Try.sizeOf100) fun a h => ?_
      refine St.getS h rfl rfl rfl (G.idxa1 rfl rfl rfl (by omega) (by omega) Try.underlying100 Try.sizeOf22) fun a h => ?_
      refine St.getS h rfl rfl rfl (G.lds 3 rfl (by assumption) rfl rfl rfl Try.isAgg22) fun a h => ?_
      refine St.getS h rfl rfl rfl (G.move rfl rfl) fun a h => ?_
      refine St.getS h rfl rfl rfl (G.move rfl rfl) fun a h => ?_
      refine St.getS h rfl rfl rfl (G.nilc rfl rfl) fun a h => ?_
      refine St.getS h rfl rfl rfl (G.fadr 16 rfl rfl Try.underlying107 rfl rfl Try.sizeOf101) fun a h => ?_
      refine St.getS h rfl rfl rfl (G.idxa1 rfl rfl rfl (by omega) (by omega) Try.underlying101 Try.sizeOf4) fun a h => ?_
      refine St.getS h rfl rfl rfl (G.lds 4 rfl (by assumption) rfl rfl rfl Try.isAgg4) fun a h => ?_
      refine St.getS h rfl rfl rfl (G.assign rfl rfl) fun a h => ?_
      refine St.getS h rfl rfl rfl (G.assign rfl rfl) fun a h => ?_
      refine St.getS h rfl rfl rfl (G.assign rfl rfl) fun a h => ?_
      refine wps_nil ?_
      refine X.thenN ?_
      refine C.ret ?_
      replace h := h.fold [0, 1, 2] rfl ((KW_back 80 hi g1 c1))
      replace h := h.conv (sl' := _) (L' := [_, _, _, cells _ _ [_], _, _]) rfl rfl
      replace h := h.fold [1, 2, 3, 4, 0, 5] rfl ((KAt_mk A ws hw))
      replace h := h.conv (sl' := _) (L' := [_]) rfl rfl
      exact h.ret3 Try.results88 rfl rfl rfl (Ent.refl _) (⟨rfl, rfl⟩)
theorem KPrepare_spec (b o : Nat) (s : KM) (hs : s.Good) (n : Int) : Meets Try.prog 65 #[.pointer (some ⟨b, o, none⟩), .int .i64 n] [KAt b o s]
    (fun v L => ∃ A' c', v = .tuple #[rlv A' (prepK s n).2.1.length c', .int .i64 (prepK s n).1] ∧ L = [KAt b o (prepK s n).2.2, ownl encCh 80 A' c' (prepK s n).2.1]) := by
  refine Meets.of_code Try.func65 rfl Try.ntmps65 rfl fun w0 S R a h => ?_
  refine C.seq ?_
  refine C.region ?_
  refine St.get h rfl rfl rfl (G.assign rfl rfl) fun a h => ?_
  refine St.get h rfl rfl rfl (G.assign rfl rfl) fun a h => ?_
  refine wpl_nil ?_
  refine X.thenN ?_
  refine C.seq ?_
  refine C.seq ?_
  refine C.region ?_
  refine St.get h rfl rfl rfl (G.move rfl rfl) fun a h => ?_
  refine St.get h rfl rfl rfl (G.move rfl rfl) fun a h => ?_
  refine St.callD h [] rfl (Ro.nil _) ((Kfit_spec b o n)) rfl rfl rfl Try.call91 rfl rfl fun a w h => ?_
  replace h := h.conv (sl' := _) (L' := [_]) rfl rfl
  obtain ⟨T, hT⟩ : ∃ x, prepK s n = x := ⟨_, rfl⟩
  rw [hT]
  rw [prepK] at hT
  by_cases hn : n < 1
  · rw [if_pos hn] at hT
    subst hT
    have e1 : decQ n = 1 := by simp [decQ, hn]
    rw [e1] at h
    refine St.get h rfl rfl rfl (G.assign rfl rfl) fun a h => ?_
    refine wpl_nil ?_
    refine X.thenN ?_
    refine C.seq ?_
    refine C.region ?_
    refine St.get h rfl rfl rfl (G.move rfl rfl) fun a h => ?_
    refine St.get h rfl rfl rfl (G.bin rfl rfl rfl (B.neqT (by omega))) fun a h => ?_
    refine wpl_nil ?_
    refine X.thenN ?_
    refine St.condT h rfl ?_
    refine C.seq ?_
    refine C.region ?_
    refine St.get h rfl rfl rfl (G.move rfl rfl) fun a h => ?_
    refine St.get h rfl rfl rfl (G.assign rfl rfl) fun a h => ?_
    refine St.get h rfl rfl rfl (G.assign rfl rfl) fun a h => ?_
    refine wpl_nil ?_
    refine X.thenN ?_
    refine C.ret ?_
    refine X.thenR ?_
    replace h := h.nil encCh 80
    replace h := h.sel [1, 0] rfl
    replace h := h.conv (sl' := _) (L' := [_, _]) rfl rfl
    exact h.ret2 Try.results65 rfl rfl (Ent.refl _) (⟨none, 0, rfl, rfl⟩)
  have e1 : decQ n = 0 := by simp [decQ, hn]
  rw [e1] at h
  rw [if_neg hn] at hT
  obtain ⟨A, ws, hw, h⟩ := h.openK 0 rfl
  rw [← hw, getM_works] at hT
  cases hg : getM n ws with
  | some pw =>
    obtain ⟨p, kw⟩ := pw
    obtain ⟨i, hi, hgp, hgw, hps, hwk, hpt⟩ := KWs.get hg
    have hmem : (n, kw) ∈ s.works := by rw [← hw]; exact getM_mem hgw
    have hll : kw.list.length < 1000000 := hs.len hmem
    rw [hg] at hT
    simp only [Option.map_some] at hT
    replace h := h.conv (sl' := _) (L' := [_, _, cells _ _ [_], _, _, _]) rfl rfl
    replace h := h.turn 4 rfl ((many_takeL (KWAt _) hi))
    replace h := h.conv (sl' := _) (L' := [_, _, _, _, cells _ _ [_], _, _]) rfl rfl
    obtain ⟨g1, c1, h⟩ := h.openKW 0 rfl
    cases hpr : kw.prep
    · rw [hpr] at h
      rw [if_neg (by simp [hpr])] at hT
      by_cases hl0 : kw.list = []
      · rw [if_pos hl0] at hT
        subst hT
        have hlen : (kw.list.length : Int) = 0 := by simp [hl0]
        replace h := h.conv (sl' := _) (L' := [cells _ _ [_, _], _, _, _, _, cells _ _ [_], _, _]) rfl rfl
        refine St.get h rfl rfl rfl (G.assign rfl rfl) fun a h => ?_
        refine wpl_nil ?_
        refine X.thenN ?_
        refine C.seq ?_
        refine C.region ?_
        refine St.get h rfl rfl rfl (G.move rfl rfl) fun a h => ?_
        refine St.get h rfl rfl rfl (G.bin rfl rfl rfl (B.neqF (by omega))) fun a h => ?_
        refine wpl_nil ?_
        refine X.thenN ?_
        refine St.condF h rfl ?_
        refine C.skip ?_
        refine X.thenN ?_
        refine C.seq ?_
        refine C.region ?_
        refine St.get h rfl rfl rfl (G.move rfl rfl) fun a h => ?_
        refine St.get h rfl rfl rfl (G.nilc rfl rfl) fun a h => ?_
        refine St.get h rfl rfl rfl (G.fadr 32 rfl rfl Try.underlying107 rfl rfl Try.sizeOf102) fun a h => ?_
        refine St.get h rfl rfl rfl (G.ld 5 0 rfl rfl rfl rfl rfl Try.isAgg102) fun a h => ?_
        refine St.get h rfl rfl rfl (G.move rfl rfl) fun a h => ?_
        refine St.get h rfl rfl rfl (G.lookS (k := n) 6 (by assumption) rfl rfl rfl rfl Try.underlying102 Try.zeroValue139) fun a h => ?_
        refine St.get h rfl rfl rfl (G.assign rfl rfl) fun a h => ?_
        refine wpl_nil ?_
        refine X.thenN ?_
        refine C.seq ?_
        refine C.block ?_
        refine C.seq ?_
        refine C.region ?_
        refine St.get h rfl rfl rfl (G.move rfl rfl) fun a h => ?_
        refine St.get h rfl rfl rfl (G.bin rfl rfl rfl (B.pneq Try.underlying139 _)) fun a h => ?_
        refine St.get h rfl rfl rfl (G.move rfl rfl) fun a h => ?_
        refine St.guard_yes h rfl rfl rfl rfl rfl ?_
        refine St.get h rfl rfl rfl (G.move rfl rfl) fun a h => ?_
        refine St.guard_yes h rfl rfl rfl rfl rfl ?_
        refine St.get h rfl rfl rfl (G.nilc rfl rfl) fun a h => ?_
        refine St.guard_yes h rfl rfl rfl rfl rfl ?_
        refine St.get h rfl rfl rfl (G.fadr 1 rfl rfl Try.underlying144 rfl rfl Try.sizeOf4) fun a h => ?_
        refine St.guard_yes h rfl rfl rfl rfl rfl ?_
        refine St.get h rfl rfl rfl (G.ld 0 1 rfl rfl rfl rfl rfl Try.isAgg4) fun a h => ?_
        refine St.get h rfl rfl rfl (G.pickT rfl rfl rfl) fun a h => ?_
        refine St.get h rfl rfl rfl (G.assign rfl rfl) fun a h => ?_
        refine wpl_nil ?_
        refine X.thenN ?_
        refine St.condF h rfl ?_
        refine C.seq ?_
        refine C.region ?_
        refine St.get h rfl rfl rfl (G.move rfl rfl) fun a h => ?_
        refine St.get h rfl rfl rfl (G.bin rfl rfl rfl (B.peql Try.underlying139 _)) fun a h => ?_
        refine St.get h rfl rfl rfl (G.move rfl rfl) fun a h => ?_
        refine St.guard_yes h rfl rfl rfl rfl rfl ?_
        refine St.get h rfl rfl rfl (G.move rfl rfl) fun a h => ?_
        refine St.guard_yes h rfl rfl rfl rfl rfl ?_
        refine St.get h rfl rfl rfl (G.nilc rfl rfl) fun a h => ?_
        refine St.guard_yes h rfl rfl rfl rfl rfl ?_
        refine St.get h rfl rfl rfl (G.fadr 0 rfl rfl Try.underlying144 rfl rfl Try.sizeOf142) fun a h => ?_
        refine St.guard_yes h rfl rfl rfl rfl rfl ?_
        refine St.get h rfl rfl rfl (G.fadr 0 rfl rfl Try.underlying142 rfl rfl Try.sizeOf23) fun a h => ?_
        refine St.guard_yes h rfl rfl rfl rfl rfl ?_
        refine St.get h rfl rfl rfl (G.ld 0 0 rfl rfl rfl rfl rfl Try.isAgg23) fun a h => ?_
        refine St.guard_yes h rfl rfl rfl rfl rfl ?_
        refine St.get h rfl rfl rfl (G.lens rfl rfl Try.underlying23) fun a h => ?_
        refine St.guard_yes h rfl rfl rfl rfl rfl ?_
        refine St.get h rfl rfl rfl (G.bin rfl rfl rfl (B.eqlT (by omega))) fun a h => ?_
        refine St.get h rfl rfl rfl (G.pickF rfl rfl rfl) fun a h => ?_
        refine St.get h rfl rfl rfl (G.assign rfl rfl) fun a h => ?_
        refine wpl_nil ?_
        refine X.thenN ?_
        refine St.condT h rfl ?_
        refine C.seq ?_
        refine C.region ?_
        refine St.get h rfl rfl rfl (G.move rfl rfl) fun a h => ?_
        refine St.get h rfl rfl rfl (G.move rfl rfl) fun a h => ?_
        rw [← hpr] at h
        replace h := h.fold [0, 1, 2] rfl ((KW_back 80 hi g1 c1))
        replace h := h.conv (sl' := _) (L' := [_, _, _, cells _ _ [_], _, _]) rfl rfl
        replace h := h.fold [1, 2, 3, 4, 0, 5] rfl ((KAt_mk A ws hw))
        replace h := h.conv (sl' := _) (L' := [_]) rfl rfl
        refine St.callD h [0] rfl (Ro.nil _) ((Kgone_spec b o s hs n)) rfl rfl rfl Try.call92 rfl rfl fun a w h => ?_
        replace h := h.conv (sl' := _) (L' := [_]) rfl rfl
        refine wpl_nil ?_
        refine X.thenN ?_
        refine C.seq ?_
        refine C.region ?_
        refine St.get h rfl rfl rfl (G.assign rfl rfl) fun a h => ?_
        refine St.get h rfl rfl rfl (G.assign rfl rfl) fun a h => ?_
        refine wpl_nil ?_
        refine X.thenN ?_
        refine C.ret ?_
        refine X.blkR ?_
        refine X.thenR ?_
        replace h := h.nil encCh 80
        replace h := h.sel [1, 0] rfl
        replace h := h.conv (sl' := _) (L' := [_, _]) rfl rfl
        exact h.ret2 Try.results65 rfl rfl (Ent.refl _) (⟨none, 0, rfl, rfl⟩)
      · rw [if_neg hl0] at hT
        subst hT
        have hlen : (kw.list.length : Int) ≠ 0 := by simp [hl0]
        replace h := h.conv (sl' := _) (L' := [cells _ _ [_, _], _, _, _, _, cells _ _ [_], _, _]) rfl rfl
        refine St.get h rfl rfl rfl (G.assign rfl rfl) fun a h => ?_
        refine wpl_nil ?_
        refine X.thenN ?_
        refine C.seq ?_
        refine C.region ?_
        refine St.get h rfl rfl rfl (G.move rfl rfl) fun a h => ?_
        refine St.get h rfl rfl rfl (G.bin rfl rfl rfl (B.neqF (by omega))) fun a h => ?_
        refine wpl_nil ?_
        refine X.thenN ?_
        refine St.condF h rfl ?_
        refine C.skip ?_
        refine X.thenN ?_
        refine C.seq ?_
        refine C.region ?_
        refine St.get h rfl rfl rfl (G.move rfl rfl) fun a h => ?_
        refine St.get h rfl rfl rfl (G.nilc rfl rfl) fun a h => ?_
        refine St.get h rfl rfl rfl (G.fadr 32 rfl rfl Try.underlying107 rfl rfl Try.sizeOf102) fun a h => ?_
        refine St.get h rfl rfl rfl (G.ld 5 0 rfl rfl rfl rfl rfl Try.isAgg102) fun a h => ?_
        refine St.get h rfl rfl rfl (G.move rfl rfl) fun a h => ?_
        refine St.get h rfl rfl rfl (G.lookS (k := n) 6 (by assumption) rfl rfl rfl rfl Try.underlying102 Try.zeroValue139) fun a h => ?_
        refine St.get h rfl rfl rfl (G.assign rfl rfl) fun a h => ?_
        refine wpl_nil ?_
        refine X.thenN ?_
        refine C.seq ?_
        refine C.block ?_
        refine C.seq ?_
        refine C.region ?_
        refine St.get h rfl rfl rfl (G.move rfl rfl) fun a h => ?_
        refine St.get h rfl rfl rfl (G.bin rfl rfl rfl (B.pneq Try.underlying139 _)) fun a h => ?_
        refine St.get h rfl rfl rfl (G.move rfl rfl) fun a h => ?_
        refine St.guard_yes h rfl rfl rfl rfl rfl ?_
        refine St.get h rfl rfl rfl (G.move rfl rfl) fun a h => ?_
        refine St.guard_yes h rfl rfl rfl rfl rfl ?_
        refine St.get h rfl rfl rfl (G.nilc rfl rfl) fun a h => ?_
        refine St.guard_yes h rfl rfl rfl rfl rfl ?_
        refine St.get h rfl rfl rfl (G.fadr 1 rfl rfl Try.underlying144 rfl rfl Try.sizeOf4) fun a h => ?_
        refine St.guard_yes h rfl rfl rfl rfl rfl ?_
        refine St.get h rfl rfl rfl (G.ld 0 1 rfl rfl rfl rfl rfl Try.isAgg4) fun a h => ?_
        refine St.get h rfl rfl rfl (G.pickT rfl rfl rfl) fun a h => ?_
        refine St.get h rfl rfl rfl (G.assign rfl rfl) fun a h => ?_
        refine wpl_nil ?_
        refine X.thenN ?_
        refine St.condF h rfl ?_
        refine C.seq ?_
        refine C.region ?_
        refine St.get h rfl rfl rfl (G.move rfl rfl) fun a h => ?_
        refine St.get h rfl rfl rfl (G.bin rfl rfl rfl (B.peql Try.underlying139 _)) fun a h => ?_
        refine St.get h rfl rfl rfl (G.move rfl rfl) fun a h => ?_
        refine St.guard_yes h rfl rfl rfl rfl rfl ?_
        refine St.get h rfl rfl rfl (G.move rfl rfl) fun a h => ?_
        refine St.guard_yes h rfl rfl rfl rfl rfl ?_
        refine St.get h rfl rfl rfl (G.nilc rfl rfl) fun a h => ?_
        refine St.guard_yes h rfl rfl rfl rfl rfl ?_
        refine St.get h rfl rfl rfl (G.fadr 0 rfl rfl Try.underlying144 rfl rfl Try.sizeOf142) fun a h => ?_
        refine St.guard_yes h rfl rfl rfl rfl rfl ?_
        refine St.get h rfl rfl rfl (G.fadr 0 rfl rfl Try.underlying142 rfl rfl Try.sizeOf23) fun a h => ?_
        refine St.guard_yes h rfl rfl rfl rfl rfl ?_
        refine St.get h rfl rfl rfl (G.ld 0 0 rfl rfl rfl rfl rfl Try.isAgg23) fun a h => ?_
        refine St.guard_yes h rfl rfl rfl rfl rfl ?_
        refine St.get h rfl rfl rfl (G.lens rfl rfl Try.underlying23) fun a h => ?_
        refine St.guard_yes h rfl rfl rfl rfl rfl ?_
        refine St.get h rfl rfl rfl (G.bin rfl rfl rfl (B.eqlF (by omega))) fun a h => ?_
        refine St.get h rfl rfl rfl (G.pickF rfl rfl rfl) fun a h => ?_
        refine St.get h rfl rfl rfl (G.assign rfl rfl) fun a h => ?_
        refine wpl_nil ?_
        refine X.thenN ?_
        refine St.condF h rfl ?_
        refine C.skip ?_
        refine X.blkN ?_
        refine X.thenN ?_
        refine C.seq ?_
        refine C.region ?_
        refine St.get h rfl rfl rfl (G.move rfl rfl) fun a h => ?_
        refine St.get h rfl rfl rfl (G.nilc rfl rfl) fun a h => ?_
        refine St.get h rfl rfl rfl (G.fadr 1 rfl rfl Try.underlying144 rfl rfl Try.sizeOf4) fun a h => ?_
        refine St.put h rfl rfl (U.st 0 1 rfl rfl rfl rfl rfl rfl rfl Try.sizeOf4) fun a w h => ?_
        replace h := h.conv (sl' := _) (L' := [cells _ _ [_, _], _, _, _, _, cells _ _ [_], _, _]) rfl rfl
        refine wpl_nil ?_
        refine X.thenN ?_
        refine C.seq ?_
        refine C.region ?_
        refine St.get h rfl rfl rfl (G.move rfl rfl) fun a h => ?_
        refine St.get h rfl rfl rfl (G.nilc rfl rfl) fun a h => ?_
        refine St.get h rfl rfl rfl (G.fadr 0 rfl rfl Try.underlying144 rfl rfl Try.sizeOf142) fun a h => ?_
        refine St.get h rfl rfl rfl (G.fadr 0 rfl rfl Try.underlying142 rfl rfl Try.sizeOf23) fun a h => ?_
        refine St.get h rfl rfl rfl (G.ld 0 0 rfl rfl rfl rfl rfl Try.isAgg23) fun a h => ?_
        refine St.call h [] rfl (Ro.cons 1 rfl (ownl_ro _ _ _ _ _) (Ro.nil _)) ((Clone_spec g1 c1 kw.list (by omega))) rfl rfl rfl Try.call79 rfl rfl fun v L a w hp h => ?_
        obtain ⟨A', c', rfl, rfl⟩ := hp
        replace h := h.conv (sl' := _) (L' := [_, cells _ _ [_, _], _, _, _, _, cells _ _ [_], _, _]) rfl rfl
        refine St.get h rfl rfl rfl (G.assign rfl rfl) fun a h => ?_
        refine St.get h rfl rfl rfl (G.assign rfl rfl) fun a h => ?_
        refine wpl_nil ?_
        refine X.thenN ?_
        refine C.ret ?_
        replace h := h.fold [1, 2] rfl ((KWAt_mk 80 p kw.list true g1 c1))
        replace h := h.conv (sl' := _) (L' := [_, _, _, _, _, cells _ _ [_], _, _]) rfl rfl
        replace h := h.fold [0, 2] rfl ((many_putL (KWAt 80) (p, ⟨kw.list, true⟩) hi))
        replace h := h.conv (sl' := _) (L' := [_, _, _, _, cells _ _ [_], _, _]) rfl rfl
        rw [hps, ← hpt ⟨kw.list, true⟩] at h
        replace h := h.fold [2, 3, 4, 5, 0, 6] rfl ((KAt_mk (s := { s with works := putM n ⟨kw.list, true⟩ s.works }) A (putM n (p, ⟨kw.list, true⟩) ws) (by rw [hwk, hw])))
        replace h := h.conv (sl' := _) (L' := [_, _]) rfl rfl
        replace h := h.sel [0, 1] rfl
        replace h := h.conv (sl' := _) (L' := [_, _]) rfl rfl
        exact h.ret2 Try.results65 rfl rfl (Ent.refl _) (⟨A', c', rfl, by rw [hw]⟩)
    · rw [if_pos hpr] at hT
      subst hT
      rw [hpr] at h
      replace h := h.conv (sl' := _) (L' := [cells _ _ [_, _], _, _, _, _, cells _ _ [_], _, _]) rfl rfl
      refine St.get h rfl rfl rfl (G.assign rfl rfl) fun a h => ?_
      refine wpl_nil ?_
      refine X.thenN ?_
      refine C.seq ?_
      refine C.region ?_
      refine St.get h rfl rfl rfl (G.move rfl rfl) fun a h => ?_
      refine St.get h rfl rfl rfl (G.bin rfl rfl rfl (B.neqF (by omega))) fun a h => ?_
      refine wpl_nil ?_
      refine X.thenN ?_
      refine St.condF h rfl ?_
      refine C.skip ?_
      refine X.thenN ?_
      refine C.seq ?_
      refine C.region ?_
      refine St.get h rfl rfl rfl (G.move rfl rfl) fun a h => ?_
      refine St.get h rfl rfl rfl (G.nilc rfl rfl) fun a h => ?_
      refine St.get h rfl rfl rfl (G.fadr 32 rfl rfl Try.underlying107 rfl rfl Try.sizeOf102) fun a h => ?_
      refine St.get h rfl rfl rfl (G.ld 5 0 rfl rfl rfl rfl rfl Try.isAgg102) fun a h => ?_
      refine St.get h rfl rfl rfl (G.move rfl rfl) fun a h => ?_
      refine St.get h rfl rfl rfl (G.lookS (k := n) 6 (by assumption) rfl rfl rfl rfl Try.underlying102 Try.zeroValue139) fun a h => ?_
      refine St.get h rfl rfl rfl (G.assign rfl rfl) fun a h => ?_
      refine wpl_nil ?_
      refine X.thenN ?_
      refine C.seq ?_
      refine C.block ?_
      refine C.seq ?_
      refine C.region ?_
      refine St.get h rfl rfl rfl (G.move rfl rfl) fun a h => ?_
      refine St.get h rfl rfl rfl (G.bin rfl rfl rfl (B.pneq Try.underlying139 _)) fun a h => ?_
      refine St.get h rfl rfl rfl (G.move rfl rfl) fun a h => ?_
      refine St.guard_yes h rfl rfl rfl rfl rfl ?_
      refine St.get h rfl rfl rfl (G.move rfl rfl) fun a h => ?_
      refine St.guard_yes h rfl rfl rfl rfl rfl ?_
      refine St.get h rfl rfl rfl (G.nilc rfl rfl) fun a h => ?_
      refine St.guard_yes h rfl rfl rfl rfl rfl ?_
      refine St.get h rfl rfl rfl (G.fadr 1 rfl rfl Try.underlying144 rfl rfl Try.sizeOf4) fun a h => ?_
      refine St.guard_yes h rfl rfl rfl rfl rfl ?_
      refine St.get h rfl rfl rfl (G.ld 0 1 rfl rfl rfl rfl rfl Try.isAgg4) fun a h => ?_
      refine St.get h rfl rfl rfl (G.pickT rfl rfl rfl) fun a h => ?_
      refine St.get h rfl rfl rfl (G.assign rfl rfl) fun a h => ?_
      refine wpl_nil ?_
      refine X.thenN ?_
      refine St.condT h rfl ?_
      refine C.seq ?_
      refine C.region ?_
      refine St.get h rfl rfl rfl (G.assign rfl rfl) fun a h => ?_
      refine St.get h rfl rfl rfl (G.assign rfl rfl) fun a h => ?_
      refine wpl_nil ?_
      refine X.thenN ?_
      refine C.ret ?_
      refine X.blkR ?_
      refine X.thenR ?_
      rw [← hpr] at h
      replace h := h.fold [0, 1, 2] rfl ((KW_back 80 hi g1 c1))
      replace h := h.conv (sl' := _) (L' := [_, _, _, cells _ _ [_], _, _]) rfl rfl
      replace h := h.fold [1, 2, 3, 4, 0, 5] rfl ((KAt_mk A ws hw))
      replace h := h.conv (sl' := _) (L' := [_]) rfl rfl
      replace h := h.nil encCh 80
      replace h := h.sel [1, 0] rfl
      replace h := h.conv (sl' := _) (L' := [_, _]) rfl rfl
      exact h.ret2 Try.results65 rfl rfl (Ent.refl _) (⟨none, 0, rfl, rfl⟩)
  | none =>
    have hgp : getM n ws.ptrs = none := by rw [getM_ptrs, hg]; rfl
    rw [hg] at hT
    subst hT
    replace h := h.conv (sl' := _) (L' := [_, _, cells _ _ [_], _, _, _]) rfl rfl
    refine St.get h rfl rfl rfl (G.assign rfl rfl) fun a h => ?_
    refine wpl_nil ?_
    refine X.thenN ?_
    refine C.seq ?_
    refine C.region ?_
    refine St.get h rfl rfl rfl (G.move rfl rfl) fun a h => ?_
    refine St.get h rfl rfl rfl (G.bin rfl rfl rfl (B.neqF (by omega))) fun a h => ?_
    refine wpl_nil ?_
    refine X.thenN ?_
    refine St.condF h rfl ?_
    refine C.skip ?_
    refine X.thenN ?_
    refine C.seq ?_
    refine C.region ?_
    refine St.get h rfl rfl rfl (G.move rfl rfl) fun a h => ?_
    refine St.get h rfl rfl rfl (G.nilc rfl rfl) fun a h => ?_
    refine St.get h rfl rfl rfl (G.fadr 32 rfl rfl Try.underlying107 rfl rfl Try.sizeOf102) fun a h => ?_
    refine St.get h rfl rfl rfl (G.ld 2 0 rfl rfl rfl rfl rfl Try.isAgg102) fun a h => ?_
    refine St.get h rfl rfl rfl (G.move rfl rfl) fun a h => ?_
    refine St.get h rfl rfl rfl (G.lookN (k := n) 3 (by assumption) rfl rfl rfl rfl Try.underlying102 Try.zeroValue139) fun a h => ?_
    refine St.get h rfl rfl rfl (G.assign rfl rfl) fun a h => ?_
    refine wpl_nil ?_
    refine X.thenN ?_
    refine C.seq ?_
    refine C.block ?_
    refine C.seq ?_
    refine C.region ?_
    refine St.get h rfl rfl rfl (G.move rfl rfl) fun a h => ?_
    refine St.get h rfl rfl rfl (G.bin rfl rfl rfl (B.pneq Try.underlying139 _)) fun a h => ?_
    refine St.get h rfl rfl rfl (G.move rfl rfl) fun a h => ?_
    refine St.guard_no h rfl rfl rfl rfl rfl (by decide) rfl rfl fun a h => ?_
    refine St.guard_no h rfl rfl rfl rfl rfl (by decide) rfl rfl fun a h => ?_
    refine St.guard_no h rfl rfl rfl rfl rfl (by decide) rfl rfl fun a h => ?_
    refine St.guard_no h rfl rfl rfl rfl rfl (by decide) rfl rfl fun a h => ?_
    refine St.get h rfl rfl rfl (G.pickF rfl rfl rfl) fun a h => ?_
    refine St.get h rfl rfl rfl (G.assign rfl rfl) fun a h => ?_
    refine wpl_nil ?_
    refine X.thenN ?_
    refine St.condF h rfl ?_
    refine C.seq ?_
    refine C.region ?_
    refine St.get h rfl rfl rfl (G.move rfl rfl) fun a h => ?_
    refine St.get h rfl rfl rfl (G.bin rfl rfl rfl (B.peql Try.underlying139 _)) fun a h => ?_
    refine St.get h rfl rfl rfl (G.move rfl rfl) fun a h => ?_
    refine St.guard_no h rfl rfl rfl rfl rfl (by decide) rfl rfl fun a h => ?_
    refine St.guard_no h rfl rfl rfl rfl rfl (by decide) rfl rfl fun a h => ?_
    refine St.guard_no h rfl rfl rfl rfl rfl (by decide) rfl rfl fun a h => ?_
    refine St.guard_no h rfl rfl rfl rfl rfl (by decide) rfl rfl fun a h => ?_
    refine St.guard_no h rfl rfl rfl rfl rfl (by decide) rfl rfl fun a h => ?_
    refine St.guard_no h rfl rfl rfl rfl rfl (by decide) rfl rfl fun a h => ?_
    refine St.guard_no h rfl rfl rfl rfl rfl (by decide) rfl rfl fun a h => ?_
    refine St.get h rfl rfl rfl (G.pickT rfl rfl rfl) fun a h => ?_
    refine St.get h rfl rfl rfl (G.assign rfl rfl) fun a h => ?_
    refine wpl_nil ?_
    refine X.thenN ?_
    refine St.condT h rfl ?_
    refine C.seq ?_
    refine C.region ?_
    refine St.get h rfl rfl rfl (G.move rfl rfl) fun a h => ?_
    refine St.get h rfl rfl rfl (G.move rfl rfl) fun a h => ?_
    replace h := h.fold [0, 1, 2, 3, 4, 5] rfl ((KAt_mk A ws hw))
    replace h := h.conv (sl' := _) (L' := [_]) rfl rfl
    refine St.callD h [0] rfl (Ro.nil _) ((Kgone_spec b o s hs n)) rfl rfl rfl Try.call92 rfl rfl fun a w h => ?_
    replace h := h.conv (sl' := _) (L' := [_]) rfl rfl
    refine wpl_nil ?_
    refine X.thenN ?_
    refine C.seq ?_
    refine C.region ?_
    refine St.get h rfl rfl rfl (G.assign rfl rfl) fun a h => ?_
    refine St.get h rfl rfl rfl (G.assign rfl rfl) fun a h => ?_
    refine wpl_nil ?_
    refine X.thenN ?_
    refine C.ret ?_
    refine X.blkR ?_
    refine X.thenR ?_
    replace h := h.nil encCh 80
    replace h := h.sel [1, 0] rfl
    replace h := h.conv (sl' := _) (L' := [_, _]) rfl rfl
    exact h.ret2 Try.results65 rfl rfl (Ent.refl _) (⟨none, 0, rfl, rfl⟩)
theorem KBackout_spec (b o : Nat) (s : KM) (hs : s.Good) (n : Int) : Meets Try.prog 70 #[.pointer (some ⟨b, o, none⟩), .int .i64 n] [KAt b o s] (Det (.int .i64 (backK s n).1) [KAt b o (backK s n).2]) := by
  refine Meets.of_code Try.func70 rfl Try.ntmps70 rfl fun w0 S R a h => ?_
  refine C.seq ?_
  refine C.region ?_
  refine St.get h rfl rfl rfl (G.assign rfl rfl) fun a h => ?_
  refine wpl_nil ?_
  refine X.thenN ?_
  refine C.seq ?_
  refine C.seq ?_
  refine C.region ?_
  refine St.get h rfl rfl rfl (G.move rfl rfl) fun a h => ?_
  refine St.get h rfl rfl rfl (G.move rfl rfl) fun a h => ?_
  refine St.callD h [] rfl (Ro.nil _) ((Kfit_spec b o n)) rfl rfl rfl Try.call91 rfl rfl fun a w h => ?_
  replace h := h.conv (sl' := _) (L' := [_]) rfl rfl
  by_cases hn : n < 1
  · have e : backK s n = (1, s) := if_pos hn
    have e1 : decQ n = 1 := by simp [decQ, hn]
    rw [e1] at h
    rw [e]
    refine St.get h rfl rfl rfl (G.assign rfl rfl) fun a h => ?_
    refine wpl_nil ?_
    refine X.thenN ?_
    refine C.seq ?_
    refine C.region ?_
    refine St.get h rfl rfl rfl (G.move rfl rfl) fun a h => ?_
    refine St.get h rfl rfl rfl (G.bin rfl rfl rfl (B.neqT (by omega))) fun a h => ?_
    refine wpl_nil ?_
    refine X.thenN ?_
    refine St.condT h rfl ?_
    refine C.seq ?_
    refine C.region ?_
    refine St.get h rfl rfl rfl (G.move rfl rfl) fun a h => ?_
    refine St.get h rfl rfl rfl (G.assign rfl rfl) fun a h => ?_
    refine wpl_nil ?_
    refine X.thenN ?_
    refine C.ret ?_
    refine X.thenR ?_
    exact h.ret1 Try.results70 rfl (Ent.refl _) (⟨rfl, rfl⟩)
  · have e : backK s n = (0, goneK s n) := if_neg hn
    have e1 : decQ n = 0 := by simp [decQ, hn]
    rw [e1] at h
    rw [e]
    refine St.get h rfl rfl rfl (G.assign rfl rfl) fun a h => ?_
    refine wpl_nil ?_
    refine X.thenN ?_
    refine C.seq ?_
    refine C.region ?_
    refine St.get h rfl rfl rfl (G.move rfl rfl) fun a h => ?_
    refine St.get h rfl rfl rfl (G.bin rfl rfl rfl (B.neqF (by omega))) fun a h => ?_
    refine wpl_nil ?_
    refine X.thenN ?_
    refine St.condF h rfl ?_
    refine C.skip ?_
    refine X.thenN ?_
    refine C.seq ?_
    refine C.region ?_
    refine St.get h rfl rfl rfl (G.move rfl rfl) fun a h => ?_
    refine St.get h rfl rfl rfl (G.move rfl rfl) fun a h => ?_
    refine St.callD h [0] rfl (Ro.nil _) ((Kgone_spec b o s hs n)) rfl rfl rfl Try.call92 rfl rfl fun a w h => ?_
    replace h := h.conv (sl' := _) (L' := [_]) rfl rfl
    refine wpl_nil ?_
    refine X.thenN ?_
    refine C.seq ?_
    refine C.region ?_
    refine St.get h rfl rfl rfl (G.assign rfl rfl) fun a h => ?_
    refine wpl_nil ?_
    refine X.thenN ?_
    refine C.ret ?_
    exact h.ret1 Try.results70 rfl (Ent.refl _) (⟨rfl, rfl⟩)
theorem change_spec (b o : Nat) (s : KM) (hs : s.Good) (n : Int) (c : Ch) : Meets Try.prog 90 #[.pointer (some ⟨b, o, none⟩), .int .i64 n, .agg #[.int .i64 c.kind, .int .i64 c.key, .int .u64 c.val]] [KAt b o s]
    (Det (.int .i64 (changeK s n c).1) [KAt b o (changeK s n c).2]) := by
  refine Meets.of_code Try.func90 rfl Try.ntmps90 rfl fun w0 S R a h => ?_
  refine C.seq ?_
  refine C.region ?_
  refine St.box h rfl rfl rfl rfl rfl fun b1 a w h => ?_
  replace h := h.conv (sl' := _) (L' := [cells _ _ [_, _, _], _]) rfl rfl
  refine St.get h rfl rfl rfl (G.assign rfl rfl) fun a h => ?_
  refine wpl_nil ?_
  refine X.thenN ?_
  refine C.seq ?_
  refine C.region ?_
  refine St.get h rfl rfl rfl (G.move rfl rfl) fun a h => ?_
  refine St.get h rfl rfl rfl (G.move rfl rfl) fun a h => ?_
  refine St.get h rfl rfl rfl (G.fadr 1 rfl rfl Try.underlying80 rfl rfl Try.sizeOf3) fun a h => ?_
  refine St.get h rfl rfl rfl (G.ld 0 1 rfl rfl rfl rfl rfl Try.isAgg3) fun a h => ?_
  refine St.call h [1] rfl (Ro.nil _) ((touch_spec b o s hs n c.key true)) rfl rfl rfl Try.call103 rfl rfl fun v L a w hp h => ?_
  obtain ⟨E1, s1, hE⟩ : ∃ e s1, touchK s n c.key true = (e, s1) := ⟨_, _, rfl⟩
  obtain ⟨T, hT⟩ : ∃ x, changeK s n c = x := ⟨_, rfl⟩
  rw [hT]
  rw [changeK, hE] at hT
  rw [hE] at hp
  dsimp only at hT hp
  rcases hp with ⟨he, rfl, _, rfl⟩ | ⟨he, A, ws, p, kw, hg, hw, _, hrange, rfl, rfl⟩
  · rw [if_pos he] at hT
    subst hT
    replace h := h.conv (sl' := _) (L' := [_, cells _ _ [_, _, _]]) rfl rfl
    refine St.get h rfl rfl rfl (G.move rfl rfl) fun a h => ?_
    refine St.get h rfl rfl rfl (G.extract rfl rfl rfl) fun a h => ?_
    refine St.get h rfl rfl rfl (G.extract rfl rfl rfl) fun a h => ?_
    refine St.get h rfl rfl rfl (G.assign rfl rfl) fun a h => ?_
    refine St.get h rfl rfl rfl (G.assign rfl rfl) fun a h => ?_
    refine wpl_nil ?_
    refine X.thenN ?_
    refine C.seq ?_
    refine C.seq ?_
    refine C.region ?_
    refine St.get h rfl rfl rfl (G.move rfl rfl) fun a h => ?_
    refine St.get h rfl rfl rfl (G.bin rfl rfl rfl (B.neqT (by omega))) fun a h => ?_
    refine wpl_nil ?_
    refine X.thenN ?_
    refine St.condT h rfl ?_
    refine C.seq ?_
    refine C.region ?_
    refine St.get h rfl rfl rfl (G.move rfl rfl) fun a h => ?_
    refine St.get h rfl rfl rfl (G.assign rfl rfl) fun a h => ?_
    refine wpl_nil ?_
    refine X.thenN ?_
    refine C.ret ?_
    refine X.thenR ?_
    replace h := h.sel [0] rfl
    replace h := h.conv (sl' := _) (L' := [_]) rfl rfl
    exact h.ret1 Try.results90 rfl (Ent.refl _) (⟨rfl, rfl⟩)
  · rw [if_neg (by simp [he]), ← hw, getM_works, hg] at hT
    simp only [Option.map_some] at hT
    obtain ⟨i, hi, hgp, hgw, hps, hwk, hpt⟩ := KWs.get hg
    replace h := h.conv (L' := [_, _, _, _, _, _, _]) rfl rfl
    subst hT
    refine St.get h rfl rfl rfl (G.move rfl rfl) fun a h => ?_
    refine St.get h rfl rfl rfl (G.extract rfl rfl rfl) fun a h => ?_
    refine St.get h rfl rfl rfl (G.extract rfl rfl rfl) fun a h => ?_
    refine St.get h rfl rfl rfl (G.assign rfl rfl) fun a h => ?_
    refine St.get h rfl rfl rfl (G.assign rfl rfl) fun a h => ?_
    refine wpl_nil ?_
    refine X.thenN ?_
    refine C.seq ?_
    refine C.seq ?_
    refine C.region ?_
    refine St.get h rfl rfl rfl (G.move rfl rfl) fun a h => ?_
    refine St.get h rfl rfl rfl (G.bin rfl rfl rfl (B.neqF (by omega))) fun a h => ?_
    refine wpl_nil ?_
    refine X.thenN ?_
    refine St.condF h rfl ?_
    refine C.skip ?_
    refine X.thenN ?_
    refine C.seq ?_
    refine C.seq ?_
    refine C.stillTail Try_mixed 5 h (by decide +kernel) fun w h => ?_
    refine St.getS h rfl rfl rfl (G.move rfl rfl) fun a h => ?_
    refine St.getS h rfl rfl rfl (G.nilc rfl rfl) fun a h => ?_
    refine St.getS h rfl rfl rfl (G.fadr 0 rfl rfl Try.underlying144 rfl rfl Try.sizeOf142) fun a h => ?_
    refine St.getS h rfl rfl rfl (G.fadr 1 rfl rfl Try.underlying80 rfl rfl Try.sizeOf3) fun a h => ?_
    refine St.getS h rfl rfl rfl (G.ld 6 1 rfl rfl rfl rfl rfl Try.isAgg3) fun a h => ?_
    refine wps_nil ?_
    replace h := h.turn 4 rfl ((many_takeL (KWAt _) hi))
    replace h := h.conv (sl' := _) (L' := [_, _, _, _, cells _ _ [_], _, _, cells _ _ [_, _, _]]) rfl rfl
    obtain ⟨g1, c1, h⟩ := h.openKW 0 rfl
    refine St.callD h [0, 0] rfl (Ro.nil _) ((Kat_spec p g1 c1 kw.list (.bool kw.prep) c.key)) rfl rfl rfl Try.call104 rfl rfl fun a w h => ?_
    replace h := h.conv (sl' := _) (L' := [cells _ _ [_, _], _, _, _, _, cells _ _ [_], _, _, cells _ _ [_, _, _]]) rfl rfl
    by_cases hc : 0 ≤ atK kw.list c.key
    · obtain ⟨k, x, hk, hx, hkey⟩ := atK_at hc
      have hpc : putC kw.list c = kw.list.set (k : Int).toNat c := by unfold putC; rw [if_pos hc, hk]
      have hlen : (kw.list.set (k : Int).toNat c).length = kw.list.length := List.length_set ..
      have hkl : k < kw.list.length := (List.getElem?_eq_some_iff.1 hx).1
      rw [hk] at h
      refine St.get h rfl rfl rfl (G.assign rfl rfl) fun a h => ?_
      refine wpl_nil ?_
      refine X.thenN ?_
      refine C.seq ?_
      refine C.region ?_
      refine St.get h rfl rfl rfl (G.move rfl rfl) fun a h => ?_
      refine St.get h rfl rfl rfl (G.bin rfl rfl rfl (B.geqT (by omega))) fun a h => ?_
      refine wpl_nil ?_
      refine X.thenN ?_
      refine St.condT h rfl ?_
      refine C.stillTail Try_mixed 8 h (by decide +kernel) fun w h => ?_
      refine St.getS h rfl rfl rfl (G.move rfl rfl) fun a h => ?_
      refine St.getS h rfl rfl rfl (G.nilc rfl rfl) fun a h => ?_
      refine St.getS h rfl rfl rfl (G.fadr 0 rfl rfl Try.underlying144 rfl rfl Try.sizeOf142) fun a h => ?_
      refine St.getS h rfl rfl rfl (G.fadr 0 rfl rfl Try.underlying142 rfl rfl Try.sizeOf23) fun a h => ?_
      refine St.getS h rfl rfl rfl (G.ld 0 0 rfl rfl rfl rfl rfl Try.isAgg23) fun a h => ?_
      refine St.getS h rfl rfl rfl (G.move rfl rfl) fun a h => ?_
      refine St.getS h rfl rfl rfl (G.lda 8 0 3 rfl rfl rfl rfl rfl Try.isAgg80 Try.sizeOf80) fun a h => ?_
      replace h := h.conv (sl' := (_, .agg #[_, _, _]) :: _) (L' := _) rfl rfl
      refine St.getS h rfl rfl rfl (G.idxo _ 1 rfl rfl rfl rfl (by omega) (by omega) (by omega) Try.underlying23 Try.sizeOf80) fun a h => ?_
      refine wps_nil ?_
      refine St.put h rfl rfl (U.stoa _ 1 (c) rfl (by omega) rfl rfl rfl rfl rfl rfl Try.sizeOf80) fun a w h => ?_
      replace h := h.conv (sl' := _) (L' := [cells _ _ [_, _], _, _, _, _, cells _ _ [_], _, _, cells _ _ [_, _, _]]) rfl rfl
      refine wpl_nil ?_
      refine X.thenN ?_
      refine C.seq ?_
      refine C.region ?_
      refine St.get h rfl rfl rfl (G.assign rfl rfl) fun a h => ?_
      refine wpl_nil ?_
      refine X.thenN ?_
      refine C.ret ?_
      rw [← hlen, ← hpc] at h
      replace h := h.fold [0, 1] rfl ((KWAt_mk 80 p (putC kw.list c) kw.prep g1 c1))
      replace h := h.conv (sl' := _) (L' := [_, _, _, _, cells _ _ [_], _, _, cells _ _ [_, _, _]]) rfl rfl
      replace h := h.fold [0, 1] rfl ((many_putL (KWAt 80) (p, ⟨putC kw.list c, kw.prep⟩) hi))
      replace h := h.conv (sl' := _) (L' := [_, _, _, cells _ _ [_], _, _, cells _ _ [_, _, _]]) rfl rfl
      rw [hps, ← hpt ⟨putC kw.list c, kw.prep⟩] at h
      replace h := h.fold [1, 2, 3, 4, 0, 5] rfl ((KAt_mk (s := { s1 with works := putM n ⟨putC kw.list c, kw.prep⟩ s1.works }) A (putM n (p, ⟨putC kw.list c, kw.prep⟩) ws) (by rw [hwk, hw])))
      replace h := h.conv (sl' := _) (L' := [_, cells _ _ [_, _, _]]) rfl rfl
      replace h := h.sel [0] rfl
      replace h := h.conv (sl' := _) (L' := [_]) rfl rfl
      exact h.ret1 Try.results90 rfl (Ent.refl _) (⟨by simp [he], by rw [← hw]⟩)
    · have hpc : putC kw.list c = kw.list ++ [c] := by unfold putC; rw [if_neg hc]
      refine St.get h rfl rfl rfl (G.assign rfl rfl) fun a h => ?_
      refine wpl_nil ?_
      refine X.thenN ?_
      refine C.seq ?_
      refine C.region ?_
      refine St.get h rfl rfl rfl (G.move rfl rfl) fun a h => ?_
      refine St.get h rfl rfl rfl (G.bin rfl rfl rfl (B.geqF (by omega))) fun a h => ?_
      refine wpl_nil ?_
      refine X.thenN ?_
      refine St.condF h rfl ?_
      have hll : kw.list.length < 1000000 := by
        have := touchK_lists hs n c.key true
        rw [hE, ← hw] at this
        exact Nat.lt_of_le_of_lt (this (n, kw) (getM_mem hgw)).len (by decide)
      refine C.anyAt Try_mixed 8 13 [0, 8] (LB := [_, _]) h rfl rfl fun w h hcl hI => ?_
      refine St.takeP h 0 8 1 rfl (by decide +kernel) hcl hI (wanted_of rfl _) rfl rfl (G.move rfl rfl) (fun _ _ _ x => x) fun a h hcl hI => ?_
      refine St.takeP h 1 8 3 rfl (by decide +kernel) hcl hI (wanted_of rfl _) rfl rfl (G.move rfl rfl) (fun _ _ _ x => x) fun a h hcl hI => ?_
      refine St.takeP h 2 8 7 rfl (by decide +kernel) hcl hI (wanted_of rfl _) rfl rfl (G.nilc rfl rfl) (fun _ _ _ x => x) fun a h hcl hI => ?_
      refine St.takeP h 3 8 15 rfl (by decide +kernel) hcl hI (wanted_of rfl _) rfl rfl (G.fadr 0 rfl rfl Try.underlying144 rfl rfl Try.sizeOf142) (fun _ _ _ x => x) fun a h hcl hI => ?_
      refine St.takeP h 4 8 31 rfl (by decide +kernel) hcl hI (wanted_of rfl _) rfl rfl (G.fadr 0 rfl rfl Try.underlying142 rfl rfl Try.sizeOf23) (fun _ _ _ x => x) fun a h hcl hI => ?_
      refine St.takeL h 5 8 63 rfl (by decide +kernel) hcl hI (wanted_of rfl _) rfl rfl (G.ld 0 0 rfl rfl rfl rfl rfl Try.isAgg23) (fun _ _ _ x => x) fun a h hcl hI => ?_
      refine St.takeL h 6 8 127 rfl (by decide +kernel) hcl hI (wanted_of rfl _) rfl rfl (G.lda 1 0 3 rfl rfl rfl rfl rfl Try.isAgg80 Try.sizeOf80) (fun _ _ _ x => x) fun a h hcl hI => ?_
      replace h := h.conv (sl' := (_, .agg #[_, _, _]) :: _) (L' := _) rfl rfl
      refine oneL 7 255 rfl (by decide +kernel) hcl (wanted_of rfl _) fun hcl => ?_
      refine St.actK h rfl rfl (Acts.bslice (encCh) ([c]) rfl rfl Try.underlying23 Try.sizeOf80 Try.zeroValue80 rfl (Nat.le_of_ble_eq_true rfl) ⟨rfl, rfl, trivial⟩) fun v L a w hp h => ?_
      obtain ⟨b2, rfl, rfl⟩ := hp
      refine St.onL h [1, 9] (LB := [_, _]) rfl fun hI => ?_
      refine oneL 8 511 rfl (by decide +kernel) hcl (wanted_of rfl _) fun hcl => ?_
      refine St.actK h rfl rfl (Acts.append _ 2 rfl (Ro.cons 0 rfl (ownl_ro _ _ _ _ _) (Ro.nil _)) rfl rfl rfl (by first | rfl | omega | simp) (by first | rfl | omega | simp) Try.underlying23 Try.typeInfo80 rfl rfl rfl 24 rfl (by (try simp only [List.length_append, List.length_cons, List.length_nil, List.length_map, List.length_take]); omega) (by (try simp only [List.length_append, List.length_cons, List.length_nil, List.length_map, List.length_take]); omega)) fun v L a w hp h => ?_
      obtain ⟨A1, c2, rfl, hnil, rfl⟩ := hp
      replace h := h.conv (sl' := _) (L' := [_, _, cells _ _ [_, _], _, _, _, cells _ _ [_], _, _, cells _ _ [_, _, _]]) rfl rfl
      refine offL rfl fun hI => ?_
      refine St.takeP h 9 8 1023 rfl (by decide +kernel) hcl hI (wanted_of rfl _) rfl rfl (G.nilc rfl rfl) (fun _ _ _ x => x) fun a h hcl hI => ?_
      refine St.takeP h 10 8 2047 rfl (by decide +kernel) hcl hI (wanted_of rfl _) rfl rfl (G.fadr 0 rfl rfl Try.underlying144 rfl rfl Try.sizeOf142) (fun _ _ _ x => x) fun a h hcl hI => ?_
      refine St.takeP h 11 8 4095 rfl (by decide +kernel) hcl hI (wanted_of rfl _) rfl rfl (G.fadr 0 rfl rfl Try.underlying142 rfl rfl Try.sizeOf23) (fun _ _ _ x => x) fun a h hcl hI => ?_
      refine oneL 12 8191 rfl (by decide +kernel) hcl (wanted_of rfl _) fun hcl => ?_
      refine St.putK h rfl (U.st 2 0 rfl rfl rfl rfl rfl rfl rfl Try.sizeOf23) fun a w h => ?_
      replace h := h.conv (sl' := _) (L' := [_, _, cells _ _ [_, _], _, _, _, cells _ _ [_], _, _, cells _ _ [_, _, _]]) rfl rfl
      refine offL rfl fun hI => ?_
      refine doneL (by decide +kernel) ?_
      refine X.thenN ?_
      refine C.seq ?_
      refine C.region ?_
      refine St.get h rfl rfl rfl (G.assign rfl rfl) fun a h => ?_
      refine wpl_nil ?_
      refine X.thenN ?_
      refine C.ret ?_
      rw [← hpc] at h
      replace h := h.fold [2, 0] rfl ((KWAt_mk 80 p (putC kw.list c) kw.prep A1 c2))
      replace h := h.conv (sl' := _) (L' := [_, _, _, _, _, cells _ _ [_], _, _, cells _ _ [_, _, _]]) rfl rfl
      replace h := h.fold [0, 2] rfl ((many_putL (KWAt 80) (p, ⟨putC kw.list c, kw.prep⟩) hi))
      replace h := h.conv (sl' := _) (L' := [_, _, _, _, cells _ _ [_], _, _, cells _ _ [_, _, _]]) rfl rfl
      rw [hps, ← hpt ⟨putC kw.list c, kw.prep⟩] at h
      replace h := h.fold [2, 3, 4, 5, 0, 6] rfl ((KAt_mk (s := { s1 with works := putM n ⟨putC kw.list c, kw.prep⟩ s1.works }) A (putM n (p, ⟨putC kw.list c, kw.prep⟩) ws) (by rw [hwk, hw])))
      replace h := h.conv (sl' := _) (L' := [_, _, cells _ _ [_, _, _]]) rfl rfl
      replace h := h.sel [0] rfl
      replace h := h.conv (sl' := _) (L' := [_]) rfl rfl
      exact h.ret1 Try.results90 rfl (Ent.refl _) (⟨by simp [he], by rw [← hw]⟩)
theorem KPut_spec (b o : Nat) (s : KM) (hs : s.Good) (n key val : Int) : Meets Try.prog 64 #[.pointer (some ⟨b, o, none⟩), .int .i64 n, .int .i64 key, .int .u64 val] [KAt b o s]
    (Det (.int .i64 (changeK s n ⟨1, key, val⟩).1) [KAt b o (changeK s n ⟨1, key, val⟩).2]) := by
  refine Meets.of_code Try.func64 rfl Try.ntmps64 rfl fun w0 S R a h => ?_
  refine C.seq ?_
  refine C.region ?_
  refine St.get h rfl rfl rfl (G.assign rfl rfl) fun a h => ?_
  refine wpl_nil ?_
  refine X.thenN ?_
  refine C.seq ?_
  refine C.region ?_
  refine St.get h rfl rfl rfl (G.move rfl rfl) fun a h => ?_
  refine St.get h rfl rfl rfl (G.move rfl rfl) fun a h => ?_
  refine St.get h rfl rfl rfl (G.move rfl rfl) fun a h => ?_
  refine St.get h rfl rfl rfl (G.move rfl rfl) fun a h => ?_
  refine St.get h rfl rfl rfl (G.build [(0, 1), (1, 1), (2, 1)] rfl rfl Try.zeroValue80 Try.underlying80 ⟨rfl, Try.sizeOf3, rfl, Try.sizeOf3, rfl, Try.sizeOf22, trivial⟩ rfl) fun a h => ?_
  replace h := h.conv (sl' := (_, .agg #[.int _ _, .int _ _, .int _ _]) :: _) (L' := _) rfl rfl
  refine St.callD h [0] rfl (Ro.nil _) ((change_spec b o s hs n ⟨1, key, val⟩)) rfl rfl rfl Try.call90 rfl rfl fun a w h => ?_
  replace h := h.conv (sl' := _) (L' := [_]) rfl rfl
  refine St.get h rfl rfl rfl (G.assign rfl rfl) fun a h => ?_
  refine wpl_nil ?_
  refine X.thenN ?_
  refine C.ret ?_
  exact h.ret1 Try.results64 rfl (Ent.refl _) (⟨rfl, rfl⟩)
theorem KDel_spec (b o : Nat) (s : KM) (hs : s.Good) (n key : Int) : Meets Try.prog 89 #[.pointer (some ⟨b, o, none⟩), .int .i64 n, .int .i64 key] [KAt b o s]
    (Det (.int .i64 (changeK s n ⟨2, key, 0⟩).1) [KAt b o (changeK s n ⟨2, key, 0⟩).2]) := by
  refine Meets.of_code Try.func89 rfl Try.ntmps89 rfl fun w0 S R a h => ?_
  refine C.seq ?_
  refine C.region ?_
  refine St.get h rfl rfl rfl (G.assign rfl rfl) fun a h => ?_
  refine wpl_nil ?_
  refine X.thenN ?_
  refine C.seq ?_
  refine C.region ?_
  refine St.get h rfl rfl rfl (G.move rfl rfl) fun a h => ?_
  refine St.get h rfl rfl rfl (G.move rfl rfl) fun a h => ?_
  refine St.get h rfl rfl rfl (G.move rfl rfl) fun a h => ?_
  refine St.get h rfl rfl rfl (G.build [(0, 1), (1, 1), (2, 1)] rfl rfl Try.zeroValue80 Try.underlying80 ⟨rfl, Try.sizeOf3, rfl, Try.sizeOf3, rfl, Try.sizeOf22, trivial⟩ rfl) fun a h => ?_
  replace h := h.conv (sl' := (_, .agg #[.int _ _, .int _ _, _]) :: _) (L' := _) rfl rfl
  refine St.callD h [0] rfl (Ro.nil _) ((change_spec b o s hs n ⟨2, key, 0⟩)) rfl rfl rfl Try.call90 rfl rfl fun a w h => ?_
  replace h := h.conv (sl' := _) (L' := [_]) rfl rfl
  refine St.get h rfl rfl rfl (G.assign rfl rfl) fun a h => ?_
  refine wpl_nil ?_
  refine X.thenN ?_
  refine C.ret ?_
  exact h.ret1 Try.results89 rfl (Ent.refl _) (⟨rfl, rfl⟩)
end Go.Proofs.Ytllhegccpknncaa
