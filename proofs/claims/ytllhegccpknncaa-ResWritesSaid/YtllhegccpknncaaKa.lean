/-
  The store of keys: fit, set, at, touch, gone.
-/
import Derived.Test.YtllhegccpknncaaKmd
import Derived.Test.YtllhegccpknncaaLa
import Derived.Test.YtllhegccpknncaaSeat
set_option linter.unusedVariables false
set_option linter.unusedSimpArgs false
set_option linter.unusedSectionVars false
set_option maxRecDepth 8000
namespace Go.Proofs.Ytllhegccpknncaa
open Go.Tr
theorem Kfit_spec (b o : Nat) (n : Int) : Meets Try.prog 91 #[.pointer (some ⟨b, o, none⟩), .int .i64 n] [] (Det (.int .i64 (decQ n)) []) := by
  refine Meets.of_code Try.func91 rfl Try.ntmps91 rfl fun w0 S R a h => ?_
  refine C.seq ?_
  refine C.region ?_
  refine St.get h rfl rfl rfl (G.assign rfl rfl) fun a h => ?_
  refine wpl_nil ?_
  refine X.thenN ?_
  refine C.seq ?_
  refine C.seq ?_
  refine C.region ?_
  refine St.get h rfl rfl rfl (G.move rfl rfl) fun a h => ?_
  refine St.get h rfl rfl rfl (G.bin rfl rfl rfl (B.peql Try.underlying138 _)) fun a h => ?_
  refine wpl_nil ?_
  refine X.thenN ?_
  refine St.condF h rfl ?_
  refine C.skip ?_
  refine X.thenN ?_
  refine C.seq ?_
  refine C.seq ?_
  refine C.region ?_
  refine St.get h rfl rfl rfl (G.move rfl rfl) fun a h => ?_
  refine St.getP h rfl rfl rfl (G.bin rfl rfl rfl B.lss) (fun hc a h => ?_) (fun hc a h => ?_)
  refine wpl_nil ?_
  refine X.thenN ?_
  refine St.condT h rfl ?_
  refine C.seq ?_
  refine C.region ?_
  refine St.get h rfl rfl rfl (G.assign rfl rfl) fun a h => ?_
  refine wpl_nil ?_
  refine X.thenN ?_
  refine C.ret ?_
  refine X.thenR ?_
  rotate_left
  refine wpl_nil ?_
  refine X.thenN ?_
  refine St.condF h rfl ?_
  refine C.skip ?_
  refine X.thenN ?_
  refine C.seq ?_
  refine C.region ?_
  refine St.get h rfl rfl rfl (G.assign rfl rfl) fun a h => ?_
  refine wpl_nil ?_
  refine X.thenN ?_
  refine C.ret ?_
  rotate_left
  · exact h.ret1 Try.results91 rfl (Ent.refl _) (⟨by simp [decQ, hc], rfl⟩)
  · exact h.ret1 Try.results91 rfl (Ent.refl _) (⟨by simp [decQ, hc], rfl⟩)
theorem Kset_spec (b o : Nat) (n : Int) (p : Nat) (A : Option Nat) (es : List (Int × Nat)) : Meets Try.prog 96 #[.pointer (some ⟨b, o, none⟩), .int .i64 n, .pointer (some ⟨p, 0, none⟩)] [cells b (o + 32) [.map A], mapl (Value.int .i64) ptrV A es]
    (fun v L => v = .tuple #[] ∧ ∃ A', L = [cells b (o + 32) [.map A'], mapl (Value.int .i64) ptrV A' (putM n p es)]) := by
  refine Meets.of_code Try.func96 rfl Try.ntmps96 rfl fun w0 S R a h => ?_
  rcases A with _ | m0
  · have ht : es = [] := h.tell1 1 rfl fun _ _ _ hh => (mapl_told hh).1 rfl
    subst ht
    refine C.seq ?_
    refine C.seq ?_
    refine C.region ?_
    refine St.get h rfl rfl rfl (G.move rfl rfl) fun a h => ?_
    refine St.get h rfl rfl rfl (G.nilc rfl rfl) fun a h => ?_
    refine St.get h rfl rfl rfl (G.fadr 32 rfl rfl Try.underlying107 rfl rfl Try.sizeOf102) fun a h => ?_
    refine St.get h rfl rfl rfl (G.ld 0 0 rfl rfl rfl rfl rfl Try.isAgg102) fun a h => ?_
    refine St.get h rfl rfl rfl (G.bin rfl rfl rfl (B.meql Try.underlying102 _)) fun a h => ?_
    refine wpl_nil ?_
    refine X.thenN ?_
    refine St.condT h rfl ?_
    refine C.region ?_
    refine St.get h rfl rfl rfl (G.move rfl rfl) fun a h => ?_
    refine St.mkmap h ((Value.int .i64)) (ptrV) rfl rfl rfl rfl fun m1 a w h => ?_
    refine St.get h rfl rfl rfl (G.nilc rfl rfl) fun a h => ?_
    refine St.get h rfl rfl rfl (G.fadr 32 rfl rfl Try.underlying107 rfl rfl Try.sizeOf102) fun a h => ?_
    refine St.put h rfl rfl (U.st 1 0 rfl rfl rfl rfl rfl rfl rfl Try.sizeOf102) fun a w h => ?_
    replace h := h.conv (sl' := _) (L' := [_, cells _ _ [_], _]) rfl rfl
    refine wpl_nil ?_
    refine X.thenN ?_
    refine C.region ?_
    refine St.get h rfl rfl rfl (G.move rfl rfl) fun a h => ?_
    refine St.get h rfl rfl rfl (G.nilc rfl rfl) fun a h => ?_
    refine St.get h rfl rfl rfl (G.fadr 32 rfl rfl Try.underlying107 rfl rfl Try.sizeOf102) fun a h => ?_
    refine St.get h rfl rfl rfl (G.ld 1 0 rfl rfl rfl rfl rfl Try.isAgg102) fun a h => ?_
    refine St.get h rfl rfl rfl (G.move rfl rfl) fun a h => ?_
    refine St.get h rfl rfl rfl (G.move rfl rfl) fun a h => ?_
    refine St.mput (k := n) h 0 rfl rfl rfl rfl rfl Try.underlying102 rfl rfl fun a w h => ?_
    replace h := h.conv (sl' := _) (L' := [_, cells _ _ [_], _]) rfl rfl
    refine wpl_nil ?_
    replace h := h.sel [1, 0] rfl
    replace h := h.conv (sl' := _) (L' := [cells _ _ [_], _]) rfl rfl
    exact h.end0 Try.results96 (Ent.refl _) (⟨rfl, _, rfl⟩)
  · refine C.seq ?_
    refine C.seq ?_
    refine C.region ?_
    refine St.get h rfl rfl rfl (G.move rfl rfl) fun a h => ?_
    refine St.get h rfl rfl rfl (G.nilc rfl rfl) fun a h => ?_
    refine St.get h rfl rfl rfl (G.fadr 32 rfl rfl Try.underlying107 rfl rfl Try.sizeOf102) fun a h => ?_
    refine St.get h rfl rfl rfl (G.ld 0 0 rfl rfl rfl rfl rfl Try.isAgg102) fun a h => ?_
    refine St.get h rfl rfl rfl (G.bin rfl rfl rfl (B.meql Try.underlying102 _)) fun a h => ?_
    refine wpl_nil ?_
    refine X.thenN ?_
    refine St.condF h rfl ?_
    refine C.skip ?_
    refine X.thenN ?_
    refine C.region ?_
    refine St.get h rfl rfl rfl (G.move rfl rfl) fun a h => ?_
    refine St.get h rfl rfl rfl (G.nilc rfl rfl) fun a h => ?_
    refine St.get h rfl rfl rfl (G.fadr 32 rfl rfl Try.underlying107 rfl rfl Try.sizeOf102) fun a h => ?_
    refine St.get h rfl rfl rfl (G.ld 0 0 rfl rfl rfl rfl rfl Try.isAgg102) fun a h => ?_
    refine St.get h rfl rfl rfl (G.move rfl rfl) fun a h => ?_
    refine St.get h rfl rfl rfl (G.move rfl rfl) fun a h => ?_
    refine St.mput (k := n) h 1 rfl rfl rfl rfl rfl Try.underlying102 rfl rfl fun a w h => ?_
    replace h := h.conv (sl' := _) (L' := [cells _ _ [_], _]) rfl rfl
    refine wpl_nil ?_
    exact h.end0 Try.results96 (Ent.refl _) (⟨rfl, _, rfl⟩)
theorem Kat1_spec (x : Ch) (bn : Nat) (key : Int) : Meets Try.prog 107 #[.agg #[.int .i64 x.kind, .int .i64 x.key, .int .u64 x.val], .pointer (some ⟨bn, 0, none⟩)] [rcells bn 0 [.int .i64 key]] (Det (.bool (decide (x.key = key))) []) := by
  refine Meets.of_code Try.func107 rfl Try.ntmps107 rfl fun w0 S R a h => ?_
  refine C.seq ?_
  refine C.region ?_
  refine St.box h rfl rfl rfl rfl rfl fun b1 a w h => ?_
  replace h := h.conv (sl' := _) (L' := [cells _ _ [_, _, _], rcells _ _ [_]]) rfl rfl
  refine St.get h rfl rfl rfl (G.assign rfl rfl) fun a h => ?_
  refine wpl_nil ?_
  refine X.thenN ?_
  refine C.seq ?_
  refine C.region ?_
  refine St.get h rfl rfl rfl (G.fadr 1 rfl rfl Try.underlying80 rfl rfl Try.sizeOf3) fun a h => ?_
  refine St.get h rfl rfl rfl (G.ld 0 1 rfl rfl rfl rfl rfl Try.isAgg3) fun a h => ?_
  refine St.get h rfl rfl rfl (G.ldr 1 0 rfl rfl rfl rfl rfl Try.isAgg3) fun a h => ?_
  refine St.getP h rfl rfl rfl (G.bin rfl rfl rfl B.eql) (fun hc a h => ?_) (fun hc a h => ?_)
  refine St.get h rfl rfl rfl (G.assign rfl rfl) fun a h => ?_
  refine wpl_nil ?_
  refine X.thenN ?_
  refine C.ret ?_
  rotate_left
  refine St.get h rfl rfl rfl (G.assign rfl rfl) fun a h => ?_
  refine wpl_nil ?_
  refine X.thenN ?_
  refine C.ret ?_
  rotate_left
  · replace h := h.sel [] rfl
    exact h.ret1 Try.results107 rfl (Ent.refl _) (⟨by simp [hc], rfl⟩)
  · replace h := h.sel [] rfl
    exact h.ret1 Try.results107 rfl (Ent.refl _) (⟨by simp [hc], rfl⟩)
theorem IndexFunc_changes (g : Option Addr) (c : Nat) (ys : List Ch) (bn : Nat) (key : Int) :
    Meets Try.prog 106 #[rlv g ys.length c, .func (.func 107) #[] #[.pointer (some ⟨bn, 0, none⟩)]] [rdl encCh g ys, rcells bn 0 [.int .i64 key]] (Det (.int .i64 (atK ys key)) []) := by
  refine Meets.of_code Try.func106 rfl Try.ntmps106 rfl fun w0 S R a h => ?_
  have hlen : ys.length ≤ 9223372036854775807 := by have := h.tell1 0 rfl fun _ _ _ => rdl_len; simpa using this
  refine C.seq ?_
  refine C.region ?_
  refine St.get h rfl rfl rfl (G.assign rfl rfl) fun a h => ?_
  refine wpl_nil ?_
  refine X.thenN ?_
  refine C.seq ?_
  refine C.seq ?_
  refine C.region ?_
  refine St.get h rfl rfl rfl (G.move rfl rfl) fun a h => ?_
  refine St.get h rfl rfl rfl (G.lens rfl rfl Try.underlying23) fun a h => ?_
  refine St.get h rfl rfl rfl (G.move rfl rfl) fun a h => ?_
  refine wpl_nil ?_
  refine X.thenN ?_
  refine C.block ?_
  refine C.loop (fun m a w => ∃ i : Nat, i + m = ys.length ∧ atK ys key = firstI (fun x => decide (x.key = key)) (ys.drop i) i ∧ St w0 S R 19 [(0, rlv g ys.length c), (1, .func (.func 107) #[] #[.pointer (some ⟨bn, 0, none⟩)]), (6, rlv g ys.length c), (7, .int .i64 ys.length), (8, .int .i64 i)] [rdl encCh g ys, rcells bn 0 [.int .i64 key]] a w) ys.length ⟨0, by omega, rfl, h.sub ⟨rfl, rfl, rfl, rfl, rfl, trivial⟩⟩ ?_
  rintro m a w ⟨i, hi, hf, h⟩
  by_cases hlt : i < ys.length
  · obtain ⟨x, hx⟩ : ∃ x, ys[i]? = some x := ⟨_, List.getElem?_eq_getElem hlt⟩
    have hx1 : ys[(i : Int).toNat]? = some x := by simp [hx]
    refine C.seq ?_
    refine C.region ?_
    refine St.get h rfl rfl rfl (G.bin rfl rfl rfl (B.lssT (by omega))) fun a h => ?_
    refine wpl_nil ?_
    refine X.thenN ?_
    refine C.seq ?_
    refine St.condT h rfl ?_
    refine C.skip ?_
    refine X.thenN ?_
    refine C.seq ?_
    refine C.block ?_
    refine C.seq ?_
    refine C.region ?_
    refine St.get h rfl rfl rfl (G.move rfl rfl) fun a h => ?_
    refine St.get h rfl rfl rfl (G.assign rfl rfl) fun a h => ?_
    refine wpl_nil ?_
    refine X.thenN ?_
    refine C.seq ?_
    refine C.region ?_
    refine St.get h rfl rfl rfl (G.move rfl rfl) fun a h => ?_
    refine St.get h rfl rfl rfl (G.move rfl rfl) fun a h => ?_
    refine St.get h rfl rfl rfl (G.move rfl rfl) fun a h => ?_
    refine St.get h rfl rfl rfl (G.idxr _ 0 rfl rfl rfl rfl (by omega) (by omega) (by omega) Try.underlying23 Try.sizeOf80) fun a h => ?_
    refine St.get h rfl rfl rfl (G.ldea _ 0 rfl (by assumption) rfl rfl rfl rfl Try.isAgg80 Try.sizeOf80) fun a h => ?_
    replace h := h.conv (sl' := (_, .agg #[_, _, _]) :: _) (L' := _) rfl rfl
    refine St.callv h [] rfl (Ro.cons 1 rfl (rcells_ro _ _ _) (Ro.nil _)) rfl rfl rfl rfl rfl ((Kat1_spec x bn key)) Try.call107 rfl rfl fun v L a w hp h => ?_
    obtain ⟨rfl, rfl⟩ := hp
    replace h := h.conv (sl' := _) (L' := [_, rcells _ _ [_]]) rfl rfl
    refine wpl_nil ?_
    refine X.thenN ?_
    refine St.cond h rfl (fun hc => ?_) (fun hc => ?_)
    refine C.seq ?_
    refine C.region ?_
    refine St.get h rfl rfl rfl (G.move rfl rfl) fun a h => ?_
    refine St.get h rfl rfl rfl (G.assign rfl rfl) fun a h => ?_
    refine wpl_nil ?_
    refine X.thenN ?_
    refine C.ret ?_
    refine X.blkR ?_
    refine X.thenR ?_
    refine X.thenR ?_
    refine X.blkR ?_
    refine X.thenR ?_
    rotate_left
    refine C.skip ?_
    refine X.blkN ?_
    refine X.thenN ?_
    refine C.region ?_
    refine St.get h rfl rfl rfl (G.bin rfl rfl rfl (B.addi (by omega) (by omega))) fun a h => ?_
    refine St.get h rfl rfl rfl (G.move rfl rfl) fun a h => ?_
    refine wpl_nil ?_
    refine X.thenN ?_
    rotate_left
    · replace h := h.sel [] rfl
      exact h.ret1 Try.results106 rfl (Ent.refl _) (⟨by rw [hf, firstI_hit hx (by simp [hc])], rfl⟩)
    · exact ⟨m - 1, by omega, i + 1, by omega, by rw [hf, firstI_skip hx (by simp [hc])]; rfl, h.sub ⟨rfl, rfl, rfl, rfl, rfl, trivial⟩⟩
  · refine C.seq ?_
    refine C.region ?_
    refine St.get h rfl rfl rfl (G.bin rfl rfl rfl (B.lssF (by omega))) fun a h => ?_
    refine wpl_nil ?_
    refine X.thenN ?_
    refine C.seq ?_
    refine St.condF h rfl ?_
    refine C.exit ?_
    refine X.thenE ?_
    refine X.thenE ?_
    refine X.blkE ?_
    refine X.thenN ?_
    refine C.seq ?_
    refine C.region ?_
    refine St.get h rfl rfl rfl (G.assign rfl rfl) fun a h => ?_
    refine wpl_nil ?_
    refine X.thenN ?_
    refine C.ret ?_
    replace h := h.sel [] rfl
    exact h.ret1 Try.results106 rfl (Ent.refl _) (⟨by rw [hf, List.drop_eq_nil_of_le (by omega)]; rfl, rfl⟩)
theorem Kat_spec (b : Nat) (g : Option Addr) (c : Nat) (ys : List Ch) (v1 : Value) (key : Int) :
    Meets Try.prog 104 #[.pointer (some ⟨b, 0, none⟩), .int .i64 key] [cells b 0 [rlv g ys.length c, v1], ownl encCh 80 g c ys] (Det (.int .i64 (atK ys key)) [cells b 0 [rlv g ys.length c, v1], ownl encCh 80 g c ys]) := by
  refine Meets.of_code Try.func104 rfl Try.ntmps104 rfl fun w0 S R a h => ?_
  refine C.seq ?_
  refine C.region ?_
  refine St.box h rfl rfl rfl rfl rfl fun b1 a w h => ?_
  replace h := h.conv (sl' := _) (L' := [cells _ _ [_], cells _ _ [_, _], _]) rfl rfl
  refine St.get h rfl rfl rfl (G.assign rfl rfl) fun a h => ?_
  refine wpl_nil ?_
  refine X.thenN ?_
  refine C.seq ?_
  refine C.region ?_
  refine St.get h rfl rfl rfl (G.move rfl rfl) fun a h => ?_
  refine St.get h rfl rfl rfl (G.nilc rfl rfl) fun a h => ?_
  refine St.get h rfl rfl rfl (G.fadr 0 rfl rfl Try.underlying142 rfl rfl Try.sizeOf23) fun a h => ?_
  refine St.get h rfl rfl rfl (G.ld 1 0 rfl rfl rfl rfl rfl Try.isAgg23) fun a h => ?_
  refine St.get h rfl rfl rfl (G.mkf rfl rfl) fun a h => ?_
  refine St.callD h [] rfl (Ro.cons 2 rfl (ownl_ro _ _ _ _ _) (Ro.cons 0 rfl (cells_ro _ _ _) (Ro.nil _))) ((IndexFunc_changes g c ys b1 key)) rfl rfl rfl Try.call106 rfl rfl fun a w h => ?_
  replace h := h.conv (sl' := _) (L' := [cells _ _ [_], cells _ _ [_, _], _]) rfl rfl
  refine St.get h rfl rfl rfl (G.assign rfl rfl) fun a h => ?_
  refine wpl_nil ?_
  refine X.thenN ?_
  refine C.ret ?_
  replace h := h.sel [1, 2] rfl
  replace h := h.conv (sl' := _) (L' := [cells _ _ [_, _], _]) rfl rfl
  exact h.ret1 Try.results104 rfl (Ent.refl _) (⟨rfl, rfl⟩)
theorem touch_spec (b o : Nat) (s : KM) (hs : s.Good) (n key : Int) (alone : Bool) : Meets Try.prog 103 #[.pointer (some ⟨b, o, none⟩), .int .i64 n, .int .i64 key, .bool alone] [KAt b o s]
    (fun v L => ((touchK s n key alone).1 ≠ 0 ∧ v = .tuple #[.pointer none, .int .i64 (touchK s n key alone).1] ∧ (touchK s n key alone).2 = s ∧ L = [KAt b o s]) ∨
      ((touchK s n key alone).1 = 0 ∧ ∃ (A : Option Nat) (ws : KWs) (p : Nat) (w : KW), getM n ws = some (p, w) ∧ ws.works = (touchK s n key alone).2.works ∧ w.prep = false ∧ (0 < n ∧ 0 ≤ key ∧ key < 16) ∧ v = .tuple #[.pointer (some ⟨p, 0, none⟩), .int .i64 0] ∧ L = KOpen b o (touchK s n key alone).2 A ws)) := by
  refine Meets.of_code Try.func103 rfl Try.ntmps103 rfl fun w0 S R a h => ?_
  refine C.seq ?_
  refine C.region ?_
  refine St.get h rfl rfl rfl (G.assign rfl rfl) fun a h => ?_
  refine St.get h rfl rfl rfl (G.assign rfl rfl) fun a h => ?_
  refine wpl_nil ?_
  refine X.thenN ?_
  refine C.seq ?_
  refine C.seq ?_
  refine C.region ?_
  refine St.get h rfl rfl rfl (G.move rfl rfl) fun a h => ?_
  refine St.get h rfl rfl rfl (G.bin rfl rfl rfl (B.peql Try.underlying138 _)) fun a h => ?_
  refine wpl_nil ?_
  refine X.thenN ?_
  refine St.condF h rfl ?_
  refine C.skip ?_
  refine X.thenN ?_
  refine C.seq ?_
  refine C.seq ?_
  refine C.region ?_
  refine St.get h rfl rfl rfl (G.move rfl rfl) fun a h => ?_
  refine St.getP h rfl rfl rfl (G.bin rfl rfl rfl B.lss) (fun hc a h => ?_) (fun hc a h => ?_)
  refine St.get h rfl rfl rfl (G.move rfl rfl) fun a h => ?_
  refine St.guard_no h rfl rfl rfl rfl rfl (by decide) rfl rfl fun a h => ?_
  refine St.guard_no h rfl rfl rfl rfl rfl (by decide) rfl rfl fun a h => ?_
  refine St.get h rfl rfl rfl (G.pickT rfl rfl rfl) fun a h => ?_
  refine St.get h rfl rfl rfl (G.move rfl rfl) fun a h => ?_
  refine St.guard_no h rfl rfl rfl rfl rfl (by decide) rfl rfl fun a h => ?_
  refine St.guard_no h rfl rfl rfl rfl rfl (by decide) rfl rfl fun a h => ?_
  refine St.get h rfl rfl rfl (G.pickT rfl rfl rfl) fun a h => ?_
  refine wpl_nil ?_
  refine X.thenN ?_
  refine St.condT h rfl ?_
  refine C.seq ?_
  refine C.region ?_
  refine St.get h rfl rfl rfl (G.assign rfl rfl) fun a h => ?_
  refine St.get h rfl rfl rfl (G.assign rfl rfl) fun a h => ?_
  refine wpl_nil ?_
  refine X.thenN ?_
  refine C.ret ?_
  refine X.thenR ?_
  rotate_left
  refine St.get h rfl rfl rfl (G.move rfl rfl) fun a h => ?_
  refine St.guard_yes h rfl rfl rfl rfl rfl ?_
  refine St.get h rfl rfl rfl (G.move rfl rfl) fun a h => ?_
  refine St.guard_yes h rfl rfl rfl rfl rfl ?_
  refine St.getP h rfl rfl rfl (G.bin rfl rfl rfl B.lss) (fun hc1 a h => ?_) (fun hc1 a h => ?_)
  refine St.get h rfl rfl rfl (G.pickF rfl rfl rfl) fun a h => ?_
  refine St.get h rfl rfl rfl (G.move rfl rfl) fun a h => ?_
  refine St.guard_no h rfl rfl rfl rfl rfl (by decide) rfl rfl fun a h => ?_
  refine St.guard_no h rfl rfl rfl rfl rfl (by decide) rfl rfl fun a h => ?_
  refine St.get h rfl rfl rfl (G.pickT rfl rfl rfl) fun a h => ?_
  refine wpl_nil ?_
  refine X.thenN ?_
  refine St.condT h rfl ?_
  refine C.seq ?_
  refine C.region ?_
  refine St.get h rfl rfl rfl (G.assign rfl rfl) fun a h => ?_
  refine St.get h rfl rfl rfl (G.assign rfl rfl) fun a h => ?_
  refine wpl_nil ?_
  refine X.thenN ?_
  refine C.ret ?_
  refine X.thenR ?_
  rotate_left
  refine St.get h rfl rfl rfl (G.pickF rfl rfl rfl) fun a h => ?_
  refine St.get h rfl rfl rfl (G.move rfl rfl) fun a h => ?_
  refine St.guard_yes h rfl rfl rfl rfl rfl ?_
  refine St.get h rfl rfl rfl (G.move rfl rfl) fun a h => ?_
  refine St.guard_yes h rfl rfl rfl rfl rfl ?_
  refine St.getP h rfl rfl rfl (G.bin rfl rfl rfl B.geq) (fun hc2 a h => ?_) (fun hc2 a h => ?_)
  refine St.get h rfl rfl rfl (G.pickF rfl rfl rfl) fun a h => ?_
  refine wpl_nil ?_
  refine X.thenN ?_
  refine St.condT h rfl ?_
  refine C.seq ?_
  refine C.region ?_
  refine St.get h rfl rfl rfl (G.assign rfl rfl) fun a h => ?_
  refine St.get h rfl rfl rfl (G.assign rfl rfl) fun a h => ?_
  refine wpl_nil ?_
  refine X.thenN ?_
  refine C.ret ?_
  refine X.thenR ?_
  rotate_left
  refine St.get h rfl rfl rfl (G.pickF rfl rfl rfl) fun a h => ?_
  refine wpl_nil ?_
  refine X.thenN ?_
  refine St.condF h rfl ?_
  refine C.skip ?_
  refine X.thenN ?_
  refine C.seq ?_
  refine C.region ?_
  refine St.get h rfl rfl rfl (G.move rfl rfl) fun a h => ?_
  refine St.get h rfl rfl rfl (G.nilc rfl rfl) fun a h => ?_
  refine St.get h rfl rfl rfl (G.fadr 32 rfl rfl Try.underlying107 rfl rfl Try.sizeOf102) fun a h => ?_
  rotate_left
  · have e : touchK s n key alone = (1, s) := by unfold touchK; rw [if_pos (by omega)]
    rw [e]
    exact h.ret2 Try.results103 rfl rfl (Ent.refl _) (.inl ⟨by simp, rfl, rfl, rfl⟩)
  · have e : touchK s n key alone = (1, s) := by unfold touchK; rw [if_pos (by omega)]
    rw [e]
    exact h.ret2 Try.results103 rfl rfl (Ent.refl _) (.inl ⟨by simp, rfl, rfl, rfl⟩)
  · have e : touchK s n key alone = (1, s) := by unfold touchK; rw [if_pos (by omega)]
    rw [e]
    exact h.ret2 Try.results103 rfl rfl (Ent.refl _) (.inl ⟨by simp, rfl, rfl, rfl⟩)
  · obtain ⟨A, ws, hw, h⟩ := h.openK 0 rfl
    obtain ⟨T, hT⟩ : ∃ x, touchK s n key alone = x := ⟨_, rfl⟩
    rw [hT]
    rw [touchK, if_neg (by omega), ← hw, getM_works] at hT
    cases hg : getM n ws with
    | some pw =>
      obtain ⟨p, kw⟩ := pw
      obtain ⟨i, hi, hgp, hgw, _⟩ := KWs.get hg
      have ht : Tell (many (KWAt 80) ws.ps) p 1 (.bool kw.prep) := Tell.many hi (KWAt_tell1 _ (p, kw))
      rw [hg] at hT
      simp only [Option.map_some, Option.isSome_some, if_true] at hT
      replace h := h.conv (sl' := _) (L' := [_, _, cells _ _ [_], _, _, _]) rfl rfl
      refine St.get h rfl rfl rfl (G.ld 2 0 rfl rfl rfl rfl rfl Try.isAgg102) fun a h => ?_
      refine St.get h rfl rfl rfl (G.move rfl rfl) fun a h => ?_
      refine St.get h rfl rfl rfl (G.lookS (k := n) 3 (by assumption) rfl rfl rfl rfl Try.underlying102 Try.zeroValue139) fun a h => ?_
      refine St.get h rfl rfl rfl (G.assign rfl rfl) fun a h => ?_
      refine wpl_nil ?_
      refine X.thenN ?_
      refine C.seq ?_
      refine C.seq ?_
      refine C.region ?_
      refine St.get h rfl rfl rfl (G.move rfl rfl) fun a h => ?_
      refine St.get h rfl rfl rfl (G.bin rfl rfl rfl (B.pneq Try.underlying139 _)) fun a h => ?_
      refine St.get h rfl rfl rfl (G.move rfl rfl) fun a h => ?_
      refine St.guard_yes h rfl rfl rfl rfl rfl ?_
      refine St.get h rfl rfl rfl (G.move rfl rfl) fun a h => ?_
      refine St.guard_yes h rfl rfl rfl rfl rfl ?_
      refine St.get h rfl rfl rfl (G.nilc rfl rfl) fun a h => ?_
      refine St.guard_yes h rfl rfl rfl rfl rfl ?_
      refine St.get h rfl rfl rfl (G.fadr 1 rfl rfl Try.underlying144 rfl rfl Try.sizeOf4) fun a h => ?_
      refine St.guard_yes h rfl rfl rfl rfl rfl ?_
      refine St.get h rfl rfl rfl (G.ldt (Tells.of 4 rfl ht) rfl rfl Try.isAgg4) fun a h => ?_
      refine St.get h rfl rfl rfl (G.pickT rfl rfl rfl) fun a h => ?_
      refine wpl_nil ?_
      refine X.thenN ?_
      refine St.cond h rfl (fun hc3 => ?_) (fun hc3 => ?_)
      refine C.seq ?_
      refine C.region ?_
      refine St.get h rfl rfl rfl (G.assign rfl rfl) fun a h => ?_
      refine St.get h rfl rfl rfl (G.assign rfl rfl) fun a h => ?_
      refine wpl_nil ?_
      refine X.thenN ?_
      refine C.ret ?_
      refine X.thenR ?_
      rotate_left
      refine C.skip ?_
      refine X.thenN ?_
      refine C.seq ?_
      refine C.seq ?_
      refine C.region ?_
      refine St.get h rfl rfl rfl (G.move rfl rfl) fun a h => ?_
      refine St.get h rfl rfl rfl (G.nilc rfl rfl) fun a h => ?_
      refine St.get h rfl rfl rfl (G.fadr 33 rfl rfl Try.underlying107 rfl rfl Try.sizeOf105) fun a h => ?_
      refine St.get h rfl rfl rfl (G.move rfl rfl) fun a h => ?_
      refine St.get h rfl rfl rfl (G.move rfl rfl) fun a h => ?_
      refine St.get h rfl rfl rfl (G.move rfl rfl) fun a h => ?_
      rotate_left
      · rw [if_pos hc3] at hT
        subst hT
        replace h := h.fold [0, 1, 2, 3, 4, 5] rfl ((KAt_mk A ws hw))
        replace h := h.conv (sl' := _) (L' := [_]) rfl rfl
        exact h.ret2 Try.results103 rfl rfl (Ent.refl _) (.inl ⟨by simp, rfl, rfl, rfl⟩)
      · rw [if_neg (by simp [hc3])] at hT
        refine St.callD h [5] rfl (Ro.nil _) ((LTake_spec b (o + 33) s.locks n key alone hs.locks')) rfl rfl rfl Try.call94 rfl rfl fun a w h => ?_
        replace h := h.conv (sl' := _) (L' := [_, _, _, cells _ _ [_], _, _]) rfl rfl
        refine St.get h rfl rfl rfl (G.assign rfl rfl) fun a h => ?_
        refine wpl_nil ?_
        refine X.thenN ?_
        refine C.seq ?_
        refine C.region ?_
        refine St.get h rfl rfl rfl (G.move rfl rfl) fun a h => ?_
        refine St.getP h rfl rfl rfl (G.bin rfl rfl rfl B.neq) (fun hc4 a h => ?_) (fun hc4 a h => ?_)
        refine wpl_nil ?_
        refine X.thenN ?_
        refine St.condT h rfl ?_
        refine C.seq ?_
        refine C.region ?_
        refine St.get h rfl rfl rfl (G.move rfl rfl) fun a h => ?_
        refine St.get h rfl rfl rfl (G.assign rfl rfl) fun a h => ?_
        refine St.get h rfl rfl rfl (G.assign rfl rfl) fun a h => ?_
        refine wpl_nil ?_
        refine X.thenN ?_
        refine C.ret ?_
        refine X.thenR ?_
        rotate_left
        refine wpl_nil ?_
        refine X.thenN ?_
        refine St.condF h rfl ?_
        refine C.skip ?_
        refine X.thenN ?_
        refine C.seq ?_
        refine C.seq ?_
        refine C.region ?_
        refine St.get h rfl rfl rfl (G.move rfl rfl) fun a h => ?_
        refine St.get h rfl rfl rfl (G.bin rfl rfl rfl (B.peql Try.underlying139 _)) fun a h => ?_
        refine wpl_nil ?_
        refine X.thenN ?_
        refine St.condF h rfl ?_
        refine C.skip ?_
        refine X.thenN ?_
        refine C.seq ?_
        refine C.region ?_
        refine St.get h rfl rfl rfl (G.move rfl rfl) fun a h => ?_
        refine St.get h rfl rfl rfl (G.assign rfl rfl) fun a h => ?_
        refine St.get h rfl rfl rfl (G.assign rfl rfl) fun a h => ?_
        refine wpl_nil ?_
        refine X.thenN ?_
        refine C.ret ?_
        rotate_left
        · rw [if_pos hc4] at hT
          subst hT
          rw [takeL_err hc4] at h
          replace h := h.fold [1, 2, 3, 4, 5, 0] rfl ((KAt_mk A ws hw))
          replace h := h.conv (sl' := _) (L' := [_]) rfl rfl
          exact h.ret2 Try.results103 rfl rfl (Ent.refl _) (.inl ⟨hc4, rfl, rfl, rfl⟩)
        · rw [if_neg hc4] at hT
          subst hT
          replace h := h.sel [1, 2, 3, 4, 5, 0] rfl
          replace h := h.conv (sl' := _) (L' := [_, _, cells _ _ [_], _, _, _]) rfl rfl
          exact h.ret2 Try.results103 rfl rfl (Ent.refl _) (.inr ⟨rfl, A, ws, p, kw, hg, rfl, hc3, ⟨by omega, by omega, by omega⟩, rfl, rfl⟩)
    | none =>
      rw [hg] at hT
      simp only [Option.map_none, Bool.false_eq_true, if_false, Option.isSome_none] at hT
      have hgp : getM n ws.ptrs = none := by rw [getM_ptrs, hg]; rfl
      replace h := h.conv (sl' := _) (L' := [_, _, cells _ _ [_], _, _, _]) rfl rfl
      refine St.get h rfl rfl rfl (G.ld 2 0 rfl rfl rfl rfl rfl Try.isAgg102) fun a h => ?_
      refine St.get h rfl rfl rfl (G.move rfl rfl) fun a h => ?_
      refine St.get h rfl rfl rfl (G.lookN (k := n) 3 (by assumption) rfl rfl rfl rfl Try.underlying102 Try.zeroValue139) fun a h => ?_
      refine St.get h rfl rfl rfl (G.assign rfl rfl) fun a h => ?_
      refine wpl_nil ?_
      refine X.thenN ?_
      refine C.seq ?_
      refine C.seq ?_
      refine C.region ?_
      refine St.get h rfl rfl rfl (G.move rfl rfl) fun a h => ?_
      refine St.get h rfl rfl rfl (G.bin rfl rfl rfl (B.pneq Try.underlying139 _)) fun a h => ?_
      refine St.get h rfl rfl rfl (G.move rfl rfl) fun a h => ?_
      refine St.guard_no h rfl rfl rfl rfl rfl (by decide) rfl rfl fun a h => ?_
      refine St.guard_no h rfl rfl rfl rfl rfl (by decide) rfl rfl fun a h => ?_
      refine St.guard_no h rfl rfl rfl rfl rfl (by decide) rfl rfl fun a h => ?_
      refine St.guard_no h rfl rfl rfl rfl rfl (by decide) rfl rfl fun a h => ?_
      refine St.get h rfl rfl rfl (G.pickF rfl rfl rfl) fun a h => ?_
      refine wpl_nil ?_
      refine X.thenN ?_
      refine St.condF h rfl ?_
      refine C.skip ?_
      refine X.thenN ?_
      refine C.seq ?_
      refine C.seq ?_
      refine C.region ?_
      refine St.get h rfl rfl rfl (G.move rfl rfl) fun a h => ?_
      refine St.get h rfl rfl rfl (G.nilc rfl rfl) fun a h => ?_
      refine St.get h rfl rfl rfl (G.fadr 33 rfl rfl Try.underlying107 rfl rfl Try.sizeOf105) fun a h => ?_
      refine St.get h rfl rfl rfl (G.move rfl rfl) fun a h => ?_
      refine St.get h rfl rfl rfl (G.move rfl rfl) fun a h => ?_
      refine St.get h rfl rfl rfl (G.move rfl rfl) fun a h => ?_
      refine St.callD h [5] rfl (Ro.nil _) ((LTake_spec b (o + 33) s.locks n key alone hs.locks')) rfl rfl rfl Try.call94 rfl rfl fun a w h => ?_
      replace h := h.conv (sl' := _) (L' := [_, _, _, cells _ _ [_], _, _]) rfl rfl
      refine St.get h rfl rfl rfl (G.assign rfl rfl) fun a h => ?_
      refine wpl_nil ?_
      refine X.thenN ?_
      refine C.seq ?_
      refine C.region ?_
      refine St.get h rfl rfl rfl (G.move rfl rfl) fun a h => ?_
      refine St.getP h rfl rfl rfl (G.bin rfl rfl rfl B.neq) (fun hc3 a h => ?_) (fun hc3 a h => ?_)
      refine wpl_nil ?_
      refine X.thenN ?_
      refine St.condT h rfl ?_
      refine C.seq ?_
      refine C.region ?_
      refine St.get h rfl rfl rfl (G.move rfl rfl) fun a h => ?_
      refine St.get h rfl rfl rfl (G.assign rfl rfl) fun a h => ?_
      refine St.get h rfl rfl rfl (G.assign rfl rfl) fun a h => ?_
      refine wpl_nil ?_
      refine X.thenN ?_
      refine C.ret ?_
      refine X.thenR ?_
      rotate_left
      refine wpl_nil ?_
      refine X.thenN ?_
      refine St.condF h rfl ?_
      refine C.skip ?_
      refine X.thenN ?_
      refine C.seq ?_
      refine C.seq ?_
      refine C.region ?_
      refine St.get h rfl rfl rfl (G.move rfl rfl) fun a h => ?_
      refine St.get h rfl rfl rfl (G.bin rfl rfl rfl (B.peql Try.underlying139 _)) fun a h => ?_
      refine wpl_nil ?_
      refine X.thenN ?_
      refine St.condT h rfl ?_
      refine C.seq ?_
      refine C.region ?_
      refine St.get h rfl rfl rfl (G.build [(0, 1), (1, 1)] rfl rfl Try.zeroValue144 Try.underlying144 ⟨rfl, Try.sizeOf142, rfl, Try.sizeOf4, trivial⟩ rfl) fun a h => ?_
      replace h := h.conv (sl' := (_, .agg #[_, _]) :: _) (L' := _) rfl rfl
      refine St.box h rfl rfl rfl rfl rfl fun b1 a w h => ?_
      replace h := h.conv (sl' := _) (L' := [cells _ _ [_, _], _, _, _, cells _ _ [_], _, _]) rfl rfl
      refine St.get h rfl rfl rfl (G.assign rfl rfl) fun a h => ?_
      refine wpl_nil ?_
      refine X.thenN ?_
      refine C.region ?_
      refine St.get h rfl rfl rfl (G.move rfl rfl) fun a h => ?_
      refine St.get h rfl rfl rfl (G.move rfl rfl) fun a h => ?_
      refine St.get h rfl rfl rfl (G.move rfl rfl) fun a h => ?_
      rotate_left
      · rw [if_pos hc3] at hT
        subst hT
        rw [takeL_err hc3] at h
        replace h := h.fold [1, 2, 3, 4, 5, 0] rfl ((KAt_mk A ws hw))
        replace h := h.conv (sl' := _) (L' := [_]) rfl rfl
        exact h.ret2 Try.results103 rfl rfl (Ent.refl _) (.inl ⟨hc3, rfl, rfl, rfl⟩)
      · rw [if_neg hc3] at hT
        subst hT
        obtain ⟨e1, e2, e3, e4⟩ := KWs.put_new hg b1 ⟨[], false⟩
        refine St.call h [4, 4] rfl (Ro.nil _) ((Kset_spec b o n b1 A ws.ptrs)) rfl rfl rfl Try.call96 rfl rfl fun v L a w hp h => ?_
        obtain ⟨rfl, A', rfl⟩ := hp
        replace h := h.conv (sl' := _) (L' := [cells _ _ [_], _, cells _ _ [_, _], _, _, _, _]) rfl rfl
        refine wpl_nil ?_
        refine X.thenN ?_
        refine C.seq ?_
        refine C.region ?_
        refine St.get h rfl rfl rfl (G.move rfl rfl) fun a h => ?_
        refine St.get h rfl rfl rfl (G.assign rfl rfl) fun a h => ?_
        refine St.get h rfl rfl rfl (G.assign rfl rfl) fun a h => ?_
        refine wpl_nil ?_
        refine X.thenN ?_
        refine C.ret ?_
        replace h := h.nil encCh 80
        replace h := h.fold [3, 0] rfl ((KWAt_mk 80 b1 [] false none 0))
        replace h := h.conv (sl' := _) (L' := [_, cells _ _ [_], _, _, _, _, _]) rfl rfl
        replace h := h.fold [0, 6] rfl ((many_snocL (KWAt 80) ws.ps (b1, ⟨[], false⟩)))
        replace h := h.conv (sl' := _) (L' := [_, cells _ _ [_], _, _, _, _]) rfl rfl
        rw [← e1, ← e3] at h
        replace h := h.sel [4, 5, 1, 2, 0, 3] rfl
        replace h := h.conv (sl' := _) (L' := [_, _, cells _ _ [_], _, _, _]) rfl rfl
        exact h.ret2 Try.results103 rfl rfl (Ent.refl _) (.inr ⟨rfl, A', _, b1, ⟨[], false⟩, e4, e2, rfl, ⟨by omega, by omega, by omega⟩, rfl, rfl⟩)
theorem Kgone_spec (b o : Nat) (s : KM) (hs : s.Good) (n : Int) : Meets Try.prog 92 #[.pointer (some ⟨b, o, none⟩), .int .i64 n] [KAt b o s] (Det (.tuple #[]) [KAt b o (goneK s n)]) := by
  refine Meets.of_code Try.func92 rfl Try.ntmps92 rfl fun w0 S R a h => ?_
  obtain ⟨A, ws, hw, h⟩ := h.openK 0 rfl
  replace h := h.conv (sl' := _) (L' := [_, _, cells _ _ [_], _, _, _]) rfl rfl
  refine C.seq ?_
  refine C.region ?_
  refine St.get h rfl rfl rfl (G.move rfl rfl) fun a h => ?_
  refine St.get h rfl rfl rfl (G.nilc rfl rfl) fun a h => ?_
  refine St.get h rfl rfl rfl (G.fadr 33 rfl rfl Try.underlying107 rfl rfl Try.sizeOf105) fun a h => ?_
  refine St.get h rfl rfl rfl (G.move rfl rfl) fun a h => ?_
  refine St.call h [5] rfl (Ro.nil _) ((LDrop_spec b (o + 33) s.locks n hs.locks')) rfl rfl rfl Try.call95 rfl rfl fun v L a w hp h => ?_
  obtain ⟨k, rfl, rfl⟩ := hp
  replace h := h.conv (sl' := _) (L' := [_, _, _, cells _ _ [_], _, _]) rfl rfl
  refine wpl_nil ?_
  refine X.thenN ?_
  refine C.region ?_
  refine St.get h rfl rfl rfl (G.move rfl rfl) fun a h => ?_
  refine St.get h rfl rfl rfl (G.nilc rfl rfl) fun a h => ?_
  refine St.get h rfl rfl rfl (G.fadr 32 rfl rfl Try.underlying107 rfl rfl Try.sizeOf102) fun a h => ?_
  refine St.get h rfl rfl rfl (G.ld 3 0 rfl rfl rfl rfl rfl Try.isAgg102) fun a h => ?_
  refine St.get h rfl rfl rfl (G.move rfl rfl) fun a h => ?_
  refine St.mdel (k := n) h 4 rfl rfl rfl rfl Try.underlying102 rfl rfl fun a w h => ?_
  replace h := h.conv (sl' := _) (L' := [_, _, _, cells _ _ [_], _, _]) rfl rfl
  refine wpl_nil ?_
  obtain ⟨e1, e2⟩ := KWs.del ws n
  rw [e1] at h
  replace h := h.fold [5] rfl ((stars_of_one (KWs.del_ent 80 ws n)))
  replace h := h.conv (sl' := _) (L' := [_, _, _, _, cells _ _ [_], _]) rfl rfl
  replace h := h.fold [2, 3, 4, 5, 0, 1] rfl ((KAt_mk (s := goneK s n) A (delM n ws) (by rw [← e2, hw]; rfl)))
  replace h := h.conv (sl' := _) (L' := [_]) rfl rfl
  exact h.end0 Try.results92 (Ent.refl _) (⟨rfl, rfl⟩)
theorem KBusy_spec (b o : Nat) (s : KM) (n : Int) : Meets Try.prog 60 #[.pointer (some ⟨b, o, none⟩), .int .i64 n] [KAt b o s] (Det (.bool (getM n s.works).isSome) [KAt b o s]) := by
  refine Meets.of_code Try.func60 rfl Try.ntmps60 rfl fun w0 S R a h => ?_
  obtain ⟨A, ws, hw, h⟩ := h.openK 0 rfl
  cases hg : getM n ws with
  | some pw =>
    have hgp : getM n ws.ptrs = some pw.1 := by rw [getM_ptrs, hg]; rfl
    replace h := h.conv (sl' := _) (L' := [_, _, cells _ _ [_], _, _, _]) rfl rfl
    refine C.seq ?_
    refine C.region ?_
    refine St.get h rfl rfl rfl (G.assign rfl rfl) fun a h => ?_
    refine wpl_nil ?_
    refine X.thenN ?_
    refine C.seq ?_
    refine C.region ?_
    refine St.get h rfl rfl rfl (G.move rfl rfl) fun a h => ?_
    refine St.get h rfl rfl rfl (G.bin rfl rfl rfl (B.pneq Try.underlying138 _)) fun a h => ?_
    refine St.get h rfl rfl rfl (G.move rfl rfl) fun a h => ?_
    refine St.guard_yes h rfl rfl rfl rfl rfl ?_
    refine St.get h rfl rfl rfl (G.move rfl rfl) fun a h => ?_
    refine St.guard_yes h rfl rfl rfl rfl rfl ?_
    refine St.get h rfl rfl rfl (G.nilc rfl rfl) fun a h => ?_
    refine St.guard_yes h rfl rfl rfl rfl rfl ?_
    refine St.get h rfl rfl rfl (G.fadr 32 rfl rfl Try.underlying107 rfl rfl Try.sizeOf102) fun a h => ?_
    refine St.guard_yes h rfl rfl rfl rfl rfl ?_
    refine St.get h rfl rfl rfl (G.ld 2 0 rfl rfl rfl rfl rfl Try.isAgg102) fun a h => ?_
    refine St.guard_yes h rfl rfl rfl rfl rfl ?_
    refine St.get h rfl rfl rfl (G.move rfl rfl) fun a h => ?_
    refine St.guard_yes h rfl rfl rfl rfl rfl ?_
    refine St.get h rfl rfl rfl (G.lookS (k := n) 3 (by assumption) rfl rfl rfl rfl Try.underlying102 Try.zeroValue139) fun a h => ?_
    refine St.guard_yes h rfl rfl rfl rfl rfl ?_
    refine St.get h rfl rfl rfl (G.bin rfl rfl rfl (B.pneq Try.underlying139 _)) fun a h => ?_
    refine St.get h rfl rfl rfl (G.pickT rfl rfl rfl) fun a h => ?_
    refine St.get h rfl rfl rfl (G.assign rfl rfl) fun a h => ?_
    refine wpl_nil ?_
    refine X.thenN ?_
    refine C.ret ?_
    replace h := h.fold [0, 1, 2, 3, 4, 5] rfl ((KAt_mk A ws hw))
    replace h := h.conv (sl' := _) (L' := [_]) rfl rfl
    exact h.ret1 Try.results60 rfl (Ent.refl _) (⟨by rw [← hw, getM_works, hg]; rfl, rfl⟩)
  | none =>
    have hgp : getM n ws.ptrs = none := by rw [getM_ptrs, hg]; rfl
    replace h := h.conv (sl' := _) (L' := [_, _, cells _ _ [_], _, _, _]) rfl rfl
    refine C.seq ?_
    refine C.region ?_
    refine St.get h rfl rfl rfl (G.assign rfl rfl) fun a h => ?_
    refine wpl_nil ?_
    refine X.thenN ?_
    refine C.seq ?_
    refine C.region ?_
    refine St.get h rfl rfl rfl (G.move rfl rfl) fun a h => ?_
    refine St.get h rfl rfl rfl (G.bin rfl rfl rfl (B.pneq Try.underlying138 _)) fun a h => ?_
    refine St.get h rfl rfl rfl (G.move rfl rfl) fun a h => ?_
    refine St.guard_yes h rfl rfl rfl rfl rfl ?_
    refine St.get h rfl rfl rfl (G.move rfl rfl) fun a h => ?_
    refine St.guard_yes h rfl rfl rfl rfl rfl ?_
    refine St.get h rfl rfl rfl (G.nilc rfl rfl) fun a h => ?_
    refine St.guard_yes h rfl rfl rfl rfl rfl ?_
    refine St.get h rfl rfl rfl (G.fadr 32 rfl rfl Try.underlying107 rfl rfl Try.sizeOf102) fun a h => ?_
    refine St.guard_yes h rfl rfl rfl rfl rfl ?_
    refine St.get h rfl rfl rfl (G.ld 2 0 rfl rfl rfl rfl rfl Try.isAgg102) fun a h => ?_
    refine St.guard_yes h rfl rfl rfl rfl rfl ?_
    refine St.get h rfl rfl rfl (G.move rfl rfl) fun a h => ?_
    refine St.guard_yes h rfl rfl rfl rfl rfl ?_
    refine St.get h rfl rfl rfl (G.lookN (k := n) 3 (by assumption) rfl rfl rfl rfl Try.underlying102 Try.zeroValue139) fun a h => ?_
    refine St.guard_yes h rfl rfl rfl rfl rfl ?_
    refine St.get h rfl rfl rfl (G.bin rfl rfl rfl (B.pneq Try.underlying139 _)) fun a h => ?_
    refine St.get h rfl rfl rfl (G.pickT rfl rfl rfl) fun a h => ?_
    refine St.get h rfl rfl rfl (G.assign rfl rfl) fun a h => ?_
    refine wpl_nil ?_
    refine X.thenN ?_
    refine C.ret ?_
    replace h := h.fold [0, 1, 2, 3, 4, 5] rfl ((KAt_mk A ws hw))
    replace h := h.conv (sl' := _) (L' := [_]) rfl rfl
    exact h.ret1 Try.results60 rfl (Ent.refl _) (⟨by rw [← hw, getM_works, hg]; rfl, rfl⟩)
theorem KBusy_nil (n : Int) : Meets Try.prog 60 #[.pointer none, .int .i64 n] [] (Det (.bool false) []) := by
  refine Meets.of_code Try.func60 rfl Try.ntmps60 rfl fun w0 S R a h => ?_
  refine C.seq ?_
  refine C.region ?_
  refine St.get h rfl rfl rfl (G.assign rfl rfl) fun a h => ?_
  refine wpl_nil ?_
  refine X.thenN ?_
  refine C.seq ?_
  refine C.region ?_
  refine St.get h rfl rfl rfl (G.move rfl rfl) fun a h => ?_
  refine St.get h rfl rfl rfl (G.bin rfl rfl rfl (B.pneq Try.underlying138 _)) fun a h => ?_
  refine St.get h rfl rfl rfl (G.move rfl rfl) fun a h => ?_
  refine St.guard_no h rfl rfl rfl rfl rfl (by decide) rfl rfl fun a h => ?_
  refine St.guard_no h rfl rfl rfl rfl rfl (by decide) rfl rfl fun a h => ?_
  refine St.guard_no h rfl rfl rfl rfl rfl (by decide) rfl rfl fun a h => ?_
  refine St.guard_no h rfl rfl rfl rfl rfl (by decide) rfl rfl fun a h => ?_
  refine St.guard_no h rfl rfl rfl rfl rfl (by decide) rfl rfl fun a h => ?_
  refine St.guard_no h rfl rfl rfl rfl rfl (by decide) rfl rfl fun a h => ?_
  refine St.guard_no h rfl rfl rfl rfl rfl (by decide) rfl rfl fun a h => ?_
  refine St.get h rfl rfl rfl (G.pickF rfl rfl rfl) fun a h => ?_
  refine St.get h rfl rfl rfl (G.assign rfl rfl) fun a h => ?_
  refine wpl_nil ?_
  refine X.thenN ?_
  refine C.ret ?_
  exact h.ret1 Try.results60 rfl (Ent.refl _) (⟨rfl, rfl⟩)
theorem getD_get {α : Type} {l : List α} {i : Nat} {d : α} (h : i < l.length) : l[i]? = some (l.getD i d) := by
  rw [List.getElem?_eq_getElem h, List.getD_eq_getElem?_getD, List.getElem?_eq_getElem h]; rfl
theorem KValue_spec (b o : Nat) (s : KM) (hs : s.Good) (key : Int) : Meets Try.prog 62 #[.pointer (some ⟨b, o, none⟩), .int .i64 key] [KAt b o s]
    (Det (.tuple #[.int .u64 (valueK s key).1, .bool (valueK s key).2]) [KAt b o s]) := by
  refine Meets.of_code Try.func62 rfl Try.ntmps62 rfl fun w0 S R a h => ?_
  obtain ⟨A, ws, hw, h⟩ := h.openK 0 rfl
  by_cases hk : key < 0 ∨ 16 ≤ key
  · have e : valueK s key = (0, false) := if_pos hk
    rw [e]
    replace h := h.conv (sl' := _) (L' := [_, _, cells _ _ [_], _, _, _]) rfl rfl
    refine C.seq ?_
    refine C.region ?_
    refine St.get h rfl rfl rfl (G.assign rfl rfl) fun a h => ?_
    refine St.get h rfl rfl rfl (G.assign rfl rfl) fun a h => ?_
    refine wpl_nil ?_
    refine X.thenN ?_
    refine C.seq ?_
    refine C.seq ?_
    refine C.region ?_
    refine St.get h rfl rfl rfl (G.move rfl rfl) fun a h => ?_
    refine St.get h rfl rfl rfl (G.bin rfl rfl rfl (B.peql Try.underlying138 _)) fun a h => ?_
    refine St.get h rfl rfl rfl (G.move rfl rfl) fun a h => ?_
    refine St.guard_yes h rfl rfl rfl rfl rfl ?_
    refine St.get h rfl rfl rfl (G.move rfl rfl) fun a h => ?_
    refine St.guard_yes h rfl rfl rfl rfl rfl ?_
    refine St.getP h rfl rfl rfl (G.bin rfl rfl rfl B.lss) (fun hc a h => ?_) (fun hc a h => ?_)
    refine St.get h rfl rfl rfl (G.pickF rfl rfl rfl) fun a h => ?_
    refine St.get h rfl rfl rfl (G.move rfl rfl) fun a h => ?_
    refine St.guard_no h rfl rfl rfl rfl rfl (by decide) rfl rfl fun a h => ?_
    refine St.guard_no h rfl rfl rfl rfl rfl (by decide) rfl rfl fun a h => ?_
    refine St.get h rfl rfl rfl (G.pickT rfl rfl rfl) fun a h => ?_
    refine wpl_nil ?_
    refine X.thenN ?_
    refine St.condT h rfl ?_
    refine C.seq ?_
    refine C.region ?_
    refine St.get h rfl rfl rfl (G.assign rfl rfl) fun a h => ?_
    refine St.get h rfl rfl rfl (G.assign rfl rfl) fun a h => ?_
    refine wpl_nil ?_
    refine X.thenN ?_
    refine C.ret ?_
    refine X.thenR ?_
    rotate_left
    refine St.get h rfl rfl rfl (G.pickF rfl rfl rfl) fun a h => ?_
    refine St.get h rfl rfl rfl (G.move rfl rfl) fun a h => ?_
    refine St.guard_yes h rfl rfl rfl rfl rfl ?_
    refine St.get h rfl rfl rfl (G.move rfl rfl) fun a h => ?_
    refine St.guard_yes h rfl rfl rfl rfl rfl ?_
    refine St.get h rfl rfl rfl (G.bin rfl rfl rfl (B.geqT (by omega))) fun a h => ?_
    refine St.get h rfl rfl rfl (G.pickF rfl rfl rfl) fun a h => ?_
    refine wpl_nil ?_
    refine X.thenN ?_
    refine St.condT h rfl ?_
    refine C.seq ?_
    refine C.region ?_
    refine St.get h rfl rfl rfl (G.assign rfl rfl) fun a h => ?_
    refine St.get h rfl rfl rfl (G.assign rfl rfl) fun a h => ?_
    refine wpl_nil ?_
    refine X.thenN ?_
    refine C.ret ?_
    refine X.thenR ?_
    rotate_left
    · replace h := h.fold [0, 1, 2, 3, 4, 5] rfl ((KAt_mk A ws hw))
      replace h := h.conv (sl' := _) (L' := [_]) rfl rfl
      exact h.ret2 Try.results62 rfl rfl (Ent.refl _) (⟨rfl, rfl⟩)
    · replace h := h.fold [0, 1, 2, 3, 4, 5] rfl ((KAt_mk A ws hw))
      replace h := h.conv (sl' := _) (L' := [_]) rfl rfl
      exact h.ret2 Try.results62 rfl rfl (Ent.refl _) (⟨rfl, rfl⟩)
  · have e : valueK s key = (s.vals.getD key.toNat 0, s.there.getD key.toNat false) := if_neg hk
    rw [e]
    have h1 : (s.vals.map (Value.int .u64))[key.toNat]? = some (.int .u64 (s.vals.getD key.toNat 0)) := by rw [List.getElem?_map, getD_get (d := 0) (by rw [hs.vals]; omega)]; rfl
    have h2 : (s.there.map Value.bool)[key.toNat]? = some (.bool (s.there.getD key.toNat false)) := by rw [List.getElem?_map, getD_get (d := false) (by rw [hs.there]; omega)]; rfl
    replace h := h.conv (sl' := _) (L' := [_, _, cells _ _ [_], _, _, _]) rfl rfl
    refine C.seq ?_
    refine C.region ?_
    refine St.get h rfl rfl rfl (G.assign rfl rfl) fun a h => ?_
    refine St.get h rfl rfl rfl (G.assign rfl rfl) fun a h => ?_
    refine wpl_nil ?_
    refine X.thenN ?_
    refine C.seq ?_
    refine C.seq ?_
    refine C.region ?_
    refine St.get h rfl rfl rfl (G.move rfl rfl) fun a h => ?_
    refine St.get h rfl rfl rfl (G.bin rfl rfl rfl (B.peql Try.underlying138 _)) fun a h => ?_
    refine St.get h rfl rfl rfl (G.move rfl rfl) fun a h => ?_
    refine St.guard_yes h rfl rfl rfl rfl rfl ?_
    refine St.get h rfl rfl rfl (G.move rfl rfl) fun a h => ?_
    refine St.guard_yes h rfl rfl rfl rfl rfl ?_
    refine St.get h rfl rfl rfl (G.bin rfl rfl rfl (B.lssF (by omega))) fun a h => ?_
    refine St.get h rfl rfl rfl (G.pickF rfl rfl rfl) fun a h => ?_
    refine St.get h rfl rfl rfl (G.move rfl rfl) fun a h => ?_
    refine St.guard_yes h rfl rfl rfl rfl rfl ?_
    refine St.get h rfl rfl rfl (G.move rfl rfl) fun a h => ?_
    refine St.guard_yes h rfl rfl rfl rfl rfl ?_
    refine St.get h rfl rfl rfl (G.bin rfl rfl rfl (B.geqF (by omega))) fun a h => ?_
    refine St.get h rfl rfl rfl (G.pickF rfl rfl rfl) fun a h => ?_
    refine wpl_nil ?_
    refine X.thenN ?_
    refine St.condF h rfl ?_
    refine C.skip ?_
    refine X.thenN ?_
    refine C.seq ?_
    refine C.still Try_mixed h (by decide +kernel) fun w h => ?_
    refine St.getS h rfl rfl rfl (G.move rfl rfl) fun a h => ?_
    refine St.getS h rfl rfl rfl (G.move rfl rfl) fun a h => ?_
    refine St.getS h rfl rfl rfl (G.nilc rfl rfl) fun a h => ?_
    refine St.getS h rfl rfl rfl (G.fadr 0 rfl rfl Try.underlying107 rfl rfl Try.sizeOf100) fun a h => ?_
    refine St.getS h rfl rfl rfl (G.idxa1 rfl rfl rfl (by omega) (by omega) Try.underlying100 Try.sizeOf22) fun a h => ?_
    refine St.getS h rfl rfl rfl (G.lds 0 rfl (by assumption) rfl rfl rfl Try.isAgg22) fun a h => ?_
    refine St.getS h rfl rfl rfl (G.move rfl rfl) fun a h => ?_
    refine St.getS h rfl rfl rfl (G.move rfl rfl) fun a h => ?_
    refine St.getS h rfl rfl rfl (G.nilc rfl rfl) fun a h => ?_
    refine St.getS h rfl rfl rfl (G.fadr 16 rfl rfl Try.underlying107 rfl rfl Try.sizeOf101) fun a h => ?_
    refine St.getS h rfl rfl rfl (G.idxa1 rfl rfl rfl (by omega) (by omega) Try.underlying101 Try.sizeOf4) fun a h => ?_
    refine St.getS h rfl rfl rfl (G.lds 1 rfl (by assumption) rfl rfl rfl Try.isAgg4) fun a h => ?_
    refine St.getS h rfl rfl rfl (G.assign rfl rfl) fun a h => ?_
    refine St.getS h rfl rfl rfl (G.assign rfl rfl) fun a h => ?_
    refine wps_nil ?_
    refine X.thenN ?_
    refine C.ret ?_
    replace h := h.fold [0, 1, 2, 3, 4, 5] rfl ((KAt_mk A ws hw))
    replace h := h.conv (sl' := _) (L' := [_]) rfl rfl
    exact h.ret2 Try.results62 rfl rfl (Ent.refl _) (⟨rfl, rfl⟩)
end Go.Proofs.Ytllhegccpknncaa
