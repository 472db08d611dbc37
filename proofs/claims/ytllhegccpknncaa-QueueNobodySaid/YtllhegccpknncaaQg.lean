/-
  The queue's Take: a range over a function.
-/
import Derived.Test.YtllhegccpknncaaQf
import Derived.Test.YtllhegccpknncaaSeat
set_option linter.unusedVariables false
set_option linter.unusedSimpArgs false
set_option linter.unusedSectionVars false
set_option maxRecDepth 8000
namespace Go.Proofs.Ytllhegccpknncaa
open Go.Tr

theorem others_spec (b o : Nat) (n : Int) : Meets Try.prog 78 #[.pointer (some ⟨b, o, none⟩), .int .i64 n] []
    (fun v L => ∃ b1 b2, v = .func (.func 101) #[] #[.pointer (some ⟨b1, 0, none⟩), .pointer (some ⟨b2, 0, none⟩)] ∧ L = [cells b2 0 [.int .i64 n], cells b1 0 [.pointer (some ⟨b, o, none⟩)]]) := by
  refine Meets.of_code Try.func78 rfl Try.ntmps78 rfl fun w0 S R a h => ?_
  refine C.seq ?_
  refine C.region ?_
  refine St.box h rfl rfl rfl rfl rfl fun b1 a w h => ?_
  replace h := h.conv (sl' := _) (L' := [cells _ _ [_]]) rfl rfl
  refine St.box h rfl rfl rfl rfl rfl fun b2 a w h => ?_
  replace h := h.conv (sl' := _) (L' := [cells _ _ [_], cells _ _ [_]]) rfl rfl
  refine St.get h rfl rfl rfl (G.assign rfl rfl) fun a h => ?_
  refine wpl_nil ?_
  refine X.thenN ?_
  refine C.seq ?_
  refine C.region ?_
  refine St.get h rfl rfl rfl (G.mkf rfl rfl) fun a h => ?_
  refine St.get h rfl rfl rfl (G.assign rfl rfl) fun a h => ?_
  refine wpl_nil ?_
  refine X.thenN ?_
  refine C.ret ?_
  exact h.ret1 Try.results78 rfl (Ent.refl _) (⟨b1, b2, rfl, rfl⟩)

def itemAt (gi : Option Addr) (i : Nat) : Value := .pointer (some ⟨(gi.getD default).block, (gi.getD default).off + i * 3, none⟩)
theorem others1_spec (l b1 b2 b o : Nat) (n : Int) (v1 v2 : Value) (gi : Option Addr) (ci : Nat) (items : List QI) (F : Assn) [Excl F] (J : Nat → Assn) [hJ : ∀ i, Excl (J i)]
    (hy : ∀ (i : Nat) (x : QI), items[i]? = some x → x.by_ ≠ n → (∀ (j : Nat) (y : QI), j < i → items[j]? = some y → y.by_ = n) →
      YieldMeets Try.prog l #[itemAt gi i] [cells b2 0 [.int .i64 n], cells b1 0 [.pointer (some ⟨b, o, none⟩)], cells b o [rlv gi items.length ci, v1, v2], ownl encQI 91 gi ci items, F] (fun v L => v = .bool false ∧ L = [J i])) :
    Meets Try.prog 101 #[.func (.yield l) #[] #[], .pointer (some ⟨b1, 0, none⟩), .pointer (some ⟨b2, 0, none⟩)]
      [cells b2 0 [.int .i64 n], cells b1 0 [.pointer (some ⟨b, o, none⟩)], cells b o [rlv gi items.length ci, v1, v2], ownl encQI 91 gi ci items, F]
      (fun v L => ((∀ (j : Nat) (y : QI), items[j]? = some y → y.by_ = n) ∧ L = [cells b2 0 [.int .i64 n], cells b1 0 [.pointer (some ⟨b, o, none⟩)], cells b o [rlv gi items.length ci, v1, v2], ownl encQI 91 gi ci items, F]) ∨
        ∃ i x, items[i]? = some x ∧ x.by_ ≠ n ∧ (∀ (j : Nat) (y : QI), j < i → items[j]? = some y → y.by_ = n) ∧ L = [J i]) := by
  refine Meets.of_code Try.func101 rfl Try.ntmps101 rfl fun w0 S R a h => ?_
  have hlen : items.length ≤ 9223372036854775807 := by have := h.tell1 3 rfl fun _ _ _ => ownl_len; simpa using this
  refine C.seq ?_
  refine C.region ?_
  refine St.get h rfl rfl rfl (G.ld 1 0 rfl rfl rfl rfl rfl Try.isAgg29) fun a h => ?_
  refine St.get h rfl rfl rfl (G.nilc rfl rfl) fun a h => ?_
  refine St.get h rfl rfl rfl (G.fadr 0 rfl rfl Try.underlying33 rfl rfl Try.sizeOf30) fun a h => ?_
  refine St.get h rfl rfl rfl (G.ld 2 0 rfl rfl rfl rfl rfl Try.isAgg30) fun a h => ?_
  refine St.get h rfl rfl rfl (G.lens rfl rfl Try.underlying30) fun a h => ?_
  refine St.get h rfl rfl rfl (G.move rfl rfl) fun a h => ?_
  refine wpl_nil ?_
  refine X.thenN ?_
  refine C.block ?_
  refine C.loop (fun m a w => ∃ i : Nat, i + m = items.length ∧ (∀ (j : Nat) (y : QI), j < i → items[j]? = some y → y.by_ = n) ∧ St w0 S R 35 [(0, .func (.yield l) #[] #[]), (1, .pointer (some ⟨b1, 0, none⟩)), (2, .pointer (some ⟨b2, 0, none⟩)), (9, .int .i64 items.length), (10, .int .i64 i)]
    [cells b2 0 [.int .i64 n], cells b1 0 [.pointer (some ⟨b, o, none⟩)], cells b o [rlv gi items.length ci, v1, v2], ownl encQI 91 gi ci items, F] a w) items.length ⟨0, by omega, fun j y hj => by omega, h.sub ⟨rfl, rfl, rfl, rfl, rfl, trivial⟩⟩ ?_
  rintro m a w ⟨i, hi, hall, h⟩
  by_cases hlt : i < items.length
  · obtain ⟨x, hx⟩ : ∃ x, items[i]? = some x := ⟨_, List.getElem?_eq_getElem hlt⟩
    have hx1 : items[(i : Int).toNat]? = some x := by simp [hx]
    have hs : ∀ hne : x.by_ = n, ∀ j y, j < i + 1 → items[j]? = some y → y.by_ = n := fun hne j y hj hy => by
      rcases Nat.lt_succ_iff_lt_or_eq.1 hj with h1 | h1
      · exact hall j y h1 hy
      · subst h1; rw [hx] at hy; injection hy with hy; rw [← hy]; exact hne
    refine C.seq ?_
    refine C.region ?_
    refine St.get h rfl rfl rfl (G.bin rfl rfl rfl (B.lssT (by omega))) fun a h => ?_
    refine wpl_nil ?_
    refine X.thenN ?_
    refine C.seq ?_
    refine St.condT h rfl ?_
    refine C.skip ?_
    refine X.thenN ?_
    refine C.seq ?_
    refine C.block ?_
    refine C.seq ?_
    refine C.region ?_
    refine St.get h rfl rfl rfl (G.move rfl rfl) fun a h => ?_
    refine St.get h rfl rfl rfl (G.assign rfl rfl) fun a h => ?_
    refine wpl_nil ?_
    refine X.thenN ?_
    refine C.seq ?_
    refine C.regionYS 18 Try_mixed h (by decide +kernel) fun w h => ?_
    refine St.getS h rfl rfl rfl (G.ld 1 0 rfl rfl rfl rfl rfl Try.isAgg29) fun a h => ?_
    refine St.getS h rfl rfl rfl (G.nilc rfl rfl) fun a h => ?_
    refine St.getS h rfl rfl rfl (G.fadr 0 rfl rfl Try.underlying33 rfl rfl Try.sizeOf30) fun a h => ?_
    refine St.getS h rfl rfl rfl (G.ld 2 0 rfl rfl rfl rfl rfl Try.isAgg30) fun a h => ?_
    refine St.getS h rfl rfl rfl (G.move rfl rfl) fun a h => ?_
    refine St.getS h rfl rfl rfl (G.idxo _ 3 rfl rfl rfl rfl (by omega) (by omega) (by omega) Try.underlying30 Try.sizeOf91) fun a h => ?_
    refine St.getS h rfl rfl rfl (G.fadr 2 rfl rfl Try.underlying91 rfl rfl Try.sizeOf3) fun a h => ?_
    refine St.getS h rfl rfl rfl (G.ldo _ 3 2 rfl (by assumption) rfl rfl rfl rfl rfl Try.isAgg3) fun a h => ?_
    refine St.getS h rfl rfl rfl (G.ld 0 0 rfl rfl rfl rfl rfl Try.isAgg3) fun a h => ?_
    refine St.getPS h rfl rfl rfl (G.bin rfl rfl rfl B.neq) (fun hc a h => ?_) (fun hc a h => ?_)
    refine St.getS h rfl rfl rfl (G.move rfl rfl) fun a h => ?_
    refine St.guardS_yes h rfl rfl rfl rfl rfl ?_
    refine St.getS h rfl rfl rfl (G.move rfl rfl) fun a h => ?_
    refine St.guardS_yes h rfl rfl rfl rfl rfl ?_
    refine St.getS h rfl rfl rfl (G.ld 1 0 rfl rfl rfl rfl rfl Try.isAgg29) fun a h => ?_
    refine St.guardS_yes h rfl rfl rfl rfl rfl ?_
    refine St.getS h rfl rfl rfl (G.nilc rfl rfl) fun a h => ?_
    refine St.guardS_yes h rfl rfl rfl rfl rfl ?_
    refine St.getS h rfl rfl rfl (G.fadr 0 rfl rfl Try.underlying33 rfl rfl Try.sizeOf30) fun a h => ?_
    refine St.guardS_yes h rfl rfl rfl rfl rfl ?_
    refine St.getS h rfl rfl rfl (G.ld 2 0 rfl rfl rfl rfl rfl Try.isAgg30) fun a h => ?_
    refine St.guardS_yes h rfl rfl rfl rfl rfl ?_
    refine St.getS h rfl rfl rfl (G.move rfl rfl) fun a h => ?_
    refine St.guardS_yes h rfl rfl rfl rfl rfl ?_
    refine St.getS h rfl rfl rfl (G.idxo _ 3 rfl rfl rfl rfl (by omega) (by omega) (by omega) Try.underlying30 Try.sizeOf91) fun a h => ?_
    refine wps_nil ?_
    refine St.guardY_yes h rfl rfl rfl rfl rfl ?_
    rotate_left
    refine St.getS h rfl rfl rfl (G.move rfl rfl) fun a h => ?_
    refine St.guardS_no h rfl rfl rfl rfl rfl (by decide) rfl rfl fun a h => ?_
    refine St.guardS_no h rfl rfl rfl rfl rfl (by decide) rfl rfl fun a h => ?_
    refine St.guardS_no h rfl rfl rfl rfl rfl (by decide) rfl rfl fun a h => ?_
    refine St.guardS_no h rfl rfl rfl rfl rfl (by decide) rfl rfl fun a h => ?_
    refine St.guardS_no h rfl rfl rfl rfl rfl (by decide) rfl rfl fun a h => ?_
    refine St.guardS_no h rfl rfl rfl rfl rfl (by decide) rfl rfl fun a h => ?_
    refine St.guardS_no h rfl rfl rfl rfl rfl (by decide) rfl rfl fun a h => ?_
    refine wps_nil ?_
    refine St.guardY_no h rfl rfl rfl rfl rfl (by decide) rfl rfl (by intro ⟨_, _, x⟩; exact x) fun a h => ?_
    refine St.guard_no h rfl rfl rfl rfl rfl (by decide) rfl rfl fun a h => ?_
    refine St.get h rfl rfl rfl (G.pickF rfl rfl rfl) fun a h => ?_
    refine wpl_nil ?_
    refine X.thenN ?_
    refine St.condF h rfl ?_
    refine C.skip ?_
    refine X.blkN ?_
    refine X.thenN ?_
    refine C.region ?_
    refine St.get h rfl rfl rfl (G.bin rfl rfl rfl (B.addi (by omega) (by omega))) fun a h => ?_
    refine St.get h rfl rfl rfl (G.move rfl rfl) fun a h => ?_
    refine wpl_nil ?_
    refine X.thenN ?_
    rotate_left
    · refine St.yield h [0, 0, 0, 0, 0] rfl (Ro.nil _) ((hy i x hx (by omega) hall)) rfl rfl rfl rfl rfl rfl (by intro ⟨_, _, x⟩; exact x) fun v L a w hp h => ?_
      obtain ⟨rfl, rfl⟩ := hp
      replace h := h.conv (sl' := _) (L' := [_]) rfl rfl
      refine St.guard_yes h rfl rfl rfl rfl rfl ?_
      refine St.get h rfl rfl rfl (G.un rfl rfl B.not) fun a h => ?_
      refine St.get h rfl rfl rfl (G.pickT rfl rfl rfl) fun a h => ?_
      refine wpl_nil ?_
      refine X.thenN ?_
      refine St.condT h rfl ?_
      refine C.ret ?_
      refine X.blkR ?_
      refine X.thenR ?_
      refine X.thenR ?_
      refine X.blkR ?_
      exact h.ret0 Try.results101 (Ent.refl _) (.inr ⟨i, x, hx, by omega, hall, rfl⟩)
    · exact ⟨m - 1, by omega, i + 1, by omega, hs (by omega), h.sub ⟨rfl, rfl, rfl, rfl, rfl, trivial⟩⟩
  · refine C.seq ?_
    refine C.region ?_
    refine St.get h rfl rfl rfl (G.bin rfl rfl rfl (B.lssF (by omega))) fun a h => ?_
    refine wpl_nil ?_
    refine X.thenN ?_
    refine C.seq ?_
    refine St.condF h rfl ?_
    refine C.exit ?_
    refine X.thenE ?_
    refine X.thenE ?_
    refine X.blkE ?_
    exact h.end0 Try.results101 (Ent.refl _) (.inl ⟨fun j y hy => hall j y (by have := (List.getElem?_eq_some_iff.1 hy).1; omega) hy, rfl⟩)

/-- The first item that is not a work's own. -/
def otherQ (n : Int) : List QI → Nat → Option (Nat × QI)
  | [], _ => none
  | x :: l, k => if x.by_ = n then otherQ n l (k + 1) else some (k, x)
theorem otherQ_none {n : Int} : ∀ {l : List QI} {k : Nat}, (∀ (j : Nat) (y : QI), l[j]? = some y → y.by_ = n) → otherQ n l k = none
  | [], _, _ => rfl
  | x :: l, k, h => by
    simp only [otherQ]
    rw [if_pos (h 0 x rfl)]
    exact otherQ_none fun j y hy => h (j + 1) y (by simpa using hy)
theorem otherQ_some {n : Int} : ∀ {l : List QI} {i k : Nat} {x : QI}, l[i]? = some x → x.by_ ≠ n → (∀ (j : Nat) (y : QI), j < i → l[j]? = some y → y.by_ = n) → otherQ n l k = some (k + i, x)
  | [], i, k, x, h, _, _ => by simp at h
  | y :: l, 0, k, x, h, hx, _ => by
    simp at h; subst h
    simp [otherQ, hx]
  | y :: l, i + 1, k, x, h, hx, hall => by
    simp only [otherQ]
    rw [if_pos (hall 0 y (by omega) rfl), otherQ_some (i := i) (by simpa using h) hx fun j z hj hz => hall (j + 1) z (by omega) (by simpa using hz)]
    congr 2
    omega
def takeQ (q : QM) (n : Int) : Int × Int × QM :=
  if fitQ q n ≠ 0 then (0, fitQ q n, q) else
    match otherQ n q.items 0 with
    | none => (0, 140, q)
    | some (i, x) => if x.by_ ≠ 0 then (0, 120, q) else (x.val, 0, { q with items := q.items.set i { x with by_ := n }, works := noteM n ⟨4, x.num, x.val⟩ q.works })
theorem Take_nil (n : Int) : Meets Try.prog 39 #[.pointer none, .int .i64 n] [] (Det (.tuple #[.int .u64 0, .int .i64 6]) []) := by
  refine Meets.of_code Try.func39 rfl Try.ntmps39 rfl fun w0 S R a h => ?_
  refine C.seq ?_
  refine C.region ?_
  refine St.box h rfl rfl rfl rfl rfl fun b1 a w h => ?_
  replace h := h.conv (sl' := _) (L' := [cells _ _ [_]]) rfl rfl
  refine St.box h rfl rfl rfl rfl rfl fun b2 a w h => ?_
  replace h := h.conv (sl' := _) (L' := [cells _ _ [_], cells _ _ [_]]) rfl rfl
  refine St.get h rfl rfl rfl (G.assign rfl rfl) fun a h => ?_
  refine St.get h rfl rfl rfl (G.assign rfl rfl) fun a h => ?_
  refine wpl_nil ?_
  refine X.thenN ?_
  refine C.scope ?_
  refine C.seq ?_
  refine C.seq ?_
  refine C.region ?_
  refine St.get h rfl rfl rfl (G.ld 1 0 rfl rfl rfl rfl rfl Try.isAgg29) fun a h => ?_
  refine St.get h rfl rfl rfl (G.ld 0 0 rfl rfl rfl rfl rfl Try.isAgg3) fun a h => ?_
  refine St.callD h [] rfl (Ro.nil _) ((fit_nil n)) rfl rfl rfl Try.call71 rfl rfl fun a w h => ?_
  replace h := h.conv (sl' := _) (L' := [cells _ _ [_], cells _ _ [_]]) rfl rfl
  refine St.get h rfl rfl rfl (G.assign rfl rfl) fun a h => ?_
  refine wpl_nil ?_
  refine X.thenN ?_
  refine C.seq ?_
  refine C.region ?_
  refine St.get h rfl rfl rfl (G.move rfl rfl) fun a h => ?_
  refine St.get h rfl rfl rfl (G.bin rfl rfl rfl (B.neqT (by omega))) fun a h => ?_
  refine wpl_nil ?_
  refine X.thenN ?_
  refine St.condT h rfl ?_
  refine C.seq ?_
  refine C.region ?_
  refine St.get h rfl rfl rfl (G.move rfl rfl) fun a h => ?_
  refine St.get h rfl rfl rfl (G.assign rfl rfl) fun a h => ?_
  refine St.get h rfl rfl rfl (G.assign rfl rfl) fun a h => ?_
  refine wpl_nil ?_
  refine X.thenN ?_
  refine C.ret ?_
  refine X.thenR ?_
  refine X.ngR ?_
  replace h := h.sel [] rfl
  exact h.ret2 Try.results39 rfl rfl (Ent.refl _) (⟨rfl, rfl⟩)
theorem Take_spec (b o : Nat) (q : QM) (n : Int) (hq : q.Good) : Meets Try.prog 39 #[.pointer (some ⟨b, o, none⟩), .int .i64 n] [QAt b o q] (Det (.tuple #[.int .u64 (takeQ q n).1, .int .i64 (takeQ q n).2.1]) [QAt b o (takeQ q n).2.2]) := by
  refine Meets.of_code Try.func39 rfl Try.ntmps39 rfl fun w0 S R a h => ?_
  refine C.seq ?_
  refine C.region ?_
  refine St.box h rfl rfl rfl rfl rfl fun b1 a w h => ?_
  replace h := h.conv (sl' := _) (L' := [cells _ _ [_], _]) rfl rfl
  refine St.box h rfl rfl rfl rfl rfl fun b2 a w h => ?_
  replace h := h.conv (sl' := _) (L' := [cells _ _ [_], cells _ _ [_], _]) rfl rfl
  refine St.get h rfl rfl rfl (G.assign rfl rfl) fun a h => ?_
  refine St.get h rfl rfl rfl (G.assign rfl rfl) fun a h => ?_
  refine wpl_nil ?_
  refine X.thenN ?_
  refine C.scope ?_
  refine C.seq ?_
  refine C.seq ?_
  refine C.region ?_
  refine St.get h rfl rfl rfl (G.ld 1 0 rfl rfl rfl rfl rfl Try.isAgg29) fun a h => ?_
  refine St.get h rfl rfl rfl (G.ld 0 0 rfl rfl rfl rfl rfl Try.isAgg3) fun a h => ?_
  refine St.callD h [2] rfl (Ro.nil _) ((fit_spec b o q n)) rfl rfl rfl Try.call71 rfl rfl fun a w h => ?_
  replace h := h.conv (sl' := _) (L' := [_, cells _ _ [_], cells _ _ [_]]) rfl rfl
  refine St.get h rfl rfl rfl (G.assign rfl rfl) fun a h => ?_
  refine wpl_nil ?_
  refine X.thenN ?_
  refine C.seq ?_
  refine C.region ?_
  refine St.get h rfl rfl rfl (G.move rfl rfl) fun a h => ?_
  refine St.getP h rfl rfl rfl (G.bin rfl rfl rfl B.neq) (fun hc a h => ?_) (fun hc a h => ?_)
  refine wpl_nil ?_
  refine X.thenN ?_
  refine St.condT h rfl ?_
  refine C.seq ?_
  refine C.region ?_
  refine St.get h rfl rfl rfl (G.move rfl rfl) fun a h => ?_
  refine St.get h rfl rfl rfl (G.assign rfl rfl) fun a h => ?_
  refine St.get h rfl rfl rfl (G.assign rfl rfl) fun a h => ?_
  refine wpl_nil ?_
  refine X.thenN ?_
  refine C.ret ?_
  refine X.thenR ?_
  refine X.ngR ?_
  rotate_left
  refine wpl_nil ?_
  refine X.thenN ?_
  refine St.condF h rfl ?_
  refine C.skip ?_
  refine X.thenN ?_
  refine C.seq ?_
  refine C.region ?_
  refine St.alloc h Try.zeroValue22 rfl rfl rfl rfl fun b3 a w h => ?_
  replace h := h.conv (sl' := _) (L' := [cells _ _ [_], _, cells _ _ [_], cells _ _ [_]]) rfl rfl
  refine St.alloc h Try.zeroValue34 rfl rfl rfl rfl fun b4 a w h => ?_
  replace h := h.conv (sl' := _) (L' := [cells _ _ [_], cells _ _ [_], _, cells _ _ [_], cells _ _ [_]]) rfl rfl
  refine St.put h rfl rfl (U.st 1 0 rfl rfl rfl rfl rfl rfl rfl Try.sizeOf22) fun a w h => ?_
  replace h := h.conv (sl' := _) (L' := [cells _ _ [_], cells _ _ [_], _, cells _ _ [_], cells _ _ [_]]) rfl rfl
  refine St.put h rfl rfl (U.st 0 0 rfl rfl rfl rfl rfl rfl rfl Try.sizeOf34) fun a w h => ?_
  replace h := h.conv (sl' := _) (L' := [cells _ _ [_], cells _ _ [_], _, cells _ _ [_], cells _ _ [_]]) rfl rfl
  refine wpl_nil ?_
  refine X.thenN ?_
  refine C.seq ?_
  refine C.label ?_
  refine X.thenN ?_
  refine C.seq ?_
  refine C.seq ?_
  refine C.region ?_
  refine St.get h rfl rfl rfl (G.ld 4 0 rfl rfl rfl rfl rfl Try.isAgg29) fun a h => ?_
  refine St.get h rfl rfl rfl (G.ld 3 0 rfl rfl rfl rfl rfl Try.isAgg3) fun a h => ?_
  rotate_left
  · have e : takeQ q n = (0, fitQ q n, q) := by simp [takeQ, hc]
    rw [e]
    replace h := h.sel [0] rfl
    replace h := h.conv (sl' := _) (L' := [_]) rfl rfl
    exact h.ret2 Try.results39 rfl rfl (Ent.refl _) (⟨rfl, rfl⟩)
  · refine St.call h [] rfl (Ro.nil _) ((others_spec b o n)) rfl rfl rfl Try.call78 rfl rfl fun v L a w hp h => ?_
    obtain ⟨c1, c2, rfl, rfl⟩ := hp
    replace h := h.conv (sl' := _) (L' := [cells _ _ [_], cells _ _ [_], cells _ _ [_], cells _ _ [_], _, cells _ _ [_], cells _ _ [_]]) rfl rfl
    refine wpl_nil ?_
    refine X.thenN ?_
    refine C.block ?_
    obtain ⟨gi, ci, gw, cw, ws, hw, h⟩ := h.openQ 4 rfl
    obtain ⟨T, hT⟩ : ∃ T, takeQ q n = T := ⟨_, rfl⟩
    rw [hT]
    obtain ⟨PL, hPL⟩ : ∃ PL : List Assn, PL = [cells c2 0 [.int .i64 n], cells c1 0 [.pointer (some ⟨b, o, none⟩)], cells b4 0 [.int .i64 T.2.1], cells b3 0 [.int .u64 T.1], QAt b o T.2.2, cells b2 0 [.int .i64 n], cells b1 0 [.pointer (some ⟨b, o, none⟩)]] := ⟨_, rfl⟩
    replace h := h.sel [4, 5, 0, 1, 2, 3, 6, 7, 8, 9] rfl
    replace h := h.conv (sl' := _) (L' := [cells _ _ [_], cells _ _ [_], cells _ _ [_, _, _], _, _, _, cells _ _ [_], cells _ _ [_], cells _ _ [_], cells _ _ [_]]) rfl rfl
    refine St.rangeFunc h [0, 0, 0, 0, 0, 0, 0, 0, 0, 0] rfl (Ro.nil _) rfl Try.call101 (Inv := (fun j L => (j = none ∨ j = some (.exit 0)) ∧ L = PL)) (fun l r hst hpe hsz hsl hps has hbd => ?_) (fun L a w hI h => ?_) (fun c L a w hI h => ?_) (by intro ⟨_, _, x⟩; exact x)
    · have hy : ∀ (i : Nat) (x : QI), q.items[i]? = some x → x.by_ ≠ n → (∀ (j : Nat) (y : QI), j < i → q.items[j]? = some y → y.by_ = n) →
          YieldMeets Try.prog l #[itemAt gi i] (recAt l r :: [cells c2 0 [.int .i64 n], cells c1 0 [.pointer (some ⟨b, o, none⟩)], cells b o [rlv gi q.items.length ci, rlv gw ws.length cw, .int .i64 q.given], ownl encQI 91 gi ci q.items, ownl encPtr 92 gw cw (ws.map Prod.fst), many (WAt 80) ws, cells b4 0 [.int .i64 140], cells b3 0 [.int .u64 0], cells b2 0 [.int .i64 n], cells b1 0 [.pointer (some ⟨b, o, none⟩)]])
            (fun v L => ∃ j L'', (j = some (.exit 0) ∧ L'' = PL) ∧ v = .bool j.isNone ∧ L = recAt l (loopOf r j) :: L'') := by
        intro i x hi hx hall
        refine YieldMeets.of_round (B := fun j L => j = some (.exit 0) ∧ L = PL) (vs := [itemAt gi i]) hst hsz hsl (by rw [hps]; rfl) (by rw [hps]; rfl) has rfl fun w S R a h => ?_
        rw [hps] at h
        rw [hbd]
        replace h := h.conv (sl' := (19, itemAt gi i) :: _) rfl rfl
        refine St.get h rfl rfl rfl (G.assign rfl rfl) fun a h => ?_
        refine wpl_nil ?_
        refine X.thenN ?_
        refine RoundMid.of h fun w S h => ?_
        refine CR.block ?_
        refine CR.seq ?_
        refine CR.seq ?_
        refine CR.region (by intro ⟨_, _, x⟩; exact x) rfl ?_
        refine St.get h rfl rfl rfl (G.move rfl rfl) fun a h => ?_
        refine St.get h rfl rfl rfl (G.nilc rfl rfl) fun a h => ?_
        refine St.get h rfl rfl rfl (G.fadr 2 rfl rfl Try.underlying91 rfl rfl Try.sizeOf3) fun a h => ?_
        refine St.get h rfl rfl rfl (G.ldo _ 3 2 rfl (by assumption) rfl rfl rfl rfl rfl Try.isAgg3) fun a h => ?_
        refine St.getP h rfl rfl rfl (G.bin rfl rfl rfl B.neq) (fun hc1 a h => ?_) (fun hc1 a h => ?_)
        refine wpl_nil ?_
        refine X.thenN ?_
        refine St.condRT h rfl ?_
        refine CR.seq ?_
        refine CR.region (by intro ⟨_, _, x⟩; exact x) rfl ?_
        refine St.put h rfl rfl (U.st 6 0 rfl rfl rfl rfl rfl rfl rfl Try.sizeOf34) fun a w h => ?_
        replace h := h.conv (sl' := _) (L' := [cells _ _ [_], cells _ _ [_], cells _ _ [_, _, _], _, _, _, cells _ _ [_], cells _ _ [_], cells _ _ [_], cells _ _ [_]]) rfl rfl
        refine wpl_nil ?_
        refine X.thenN ?_
        refine CR.exit ?_
        refine X.thenE ?_
        refine X.blkO rfl ?_
        rotate_left
        refine wpl_nil ?_
        refine X.thenN ?_
        refine St.condRF h rfl ?_
        refine CR.skip ?_
        refine X.thenN ?_
        refine CR.seq ?_
        refine CR.stillTail Try_mixed (by intro ⟨_, _, x⟩; exact x) 8 rfl h (by decide +kernel) fun w h => ?_
        refine St.getS h rfl rfl rfl (G.move rfl rfl) fun a h => ?_
        refine St.getS h rfl rfl rfl (G.ld 8 0 rfl rfl rfl rfl rfl Try.isAgg3) fun a h => ?_
        refine St.getS h rfl rfl rfl (G.move rfl rfl) fun a h => ?_
        refine St.getS h rfl rfl rfl (G.nilc rfl rfl) fun a h => ?_
        refine St.getS h rfl rfl rfl (G.fadr 1 rfl rfl Try.underlying91 rfl rfl Try.sizeOf22) fun a h => ?_
        refine St.getS h rfl rfl rfl (G.ldo _ 3 1 rfl (by assumption) rfl rfl rfl rfl rfl Try.isAgg22) fun a h => ?_
        refine St.getS h rfl rfl rfl (G.nilc rfl rfl) fun a h => ?_
        refine St.getS h rfl rfl rfl (G.fadr 2 rfl rfl Try.underlying91 rfl rfl Try.sizeOf3) fun a h => ?_
        refine wps_nil ?_
        rotate_left
        · have e : takeQ q n = (0, 120, q) := by
            have h0 : fitQ q n = 0 := by omega
            simp [takeQ, h0, otherQ_some (k := 0) hi hx hall, hc1]
          replace h := h.fold [2, 3, 4, 5] rfl ((QAt_mk gi ci gw cw ws hw))
          replace h := h.conv (sl' := _) (L' := [_, cells _ _ [_], cells _ _ [_], cells _ _ [_], cells _ _ [_], cells _ _ [_], cells _ _ [_]]) rfl rfl
          replace h := h.sel [1, 2, 3, 4, 0, 5, 6] rfl
          replace h := h.conv (sl' := _) (L' := [cells _ _ [_], cells _ _ [_], cells _ _ [_], cells _ _ [_], _, cells _ _ [_], cells _ _ [_]]) rfl rfl
          exact St.ends_round h rfl (Ent.refl _) (⟨rfl, by rw [hPL, ← hT, e]⟩)
        · have h0 : fitQ q n = 0 := by omega
          have hb0 : x.by_ = 0 := by omega
          have e : takeQ q n = (x.val, 0, { q with items := q.items.set i { x with by_ := n }, works := noteM n ⟨4, x.num, x.val⟩ q.works }) := by
            simp [takeQ, h0, otherQ_some (k := 0) hi hx hall, hb0]
          have hx1 : (q.items.set i ⟨x.num, x.val, n⟩)[i]? = some ⟨x.num, x.val, n⟩ := by
            rw [List.getElem?_set_self (List.getElem?_eq_some_iff.1 hi).1]
          refine St.put h rfl rfl (U.sto _ 3 2 (⟨x.num, x.val, n⟩) rfl (by assumption) rfl rfl rfl rfl rfl (by decide) (by rfl) rfl Try.sizeOf3) fun a w h => ?_
          replace h := h.conv (sl' := _) (L' := [cells _ _ [_], cells _ _ [_], cells _ _ [_, _, _], _, _, _, cells _ _ [_], cells _ _ [_], cells _ _ [_], cells _ _ [_]]) rfl rfl
          refine St.put h rfl rfl (U.st 7 0 rfl rfl rfl rfl rfl rfl rfl Try.sizeOf22) fun a w h => ?_
          replace h := h.conv (sl' := _) (L' := [cells _ _ [_], cells _ _ [_], cells _ _ [_, _, _], _, _, _, cells _ _ [_], cells _ _ [_], cells _ _ [_], cells _ _ [_]]) rfl rfl
          refine St.put h rfl rfl (U.st 6 0 rfl rfl rfl rfl rfl rfl rfl Try.sizeOf34) fun a w h => ?_
          replace h := h.conv (sl' := _) (L' := [cells _ _ [_], cells _ _ [_], cells _ _ [_, _, _], _, _, _, cells _ _ [_], cells _ _ [_], cells _ _ [_], cells _ _ [_]]) rfl rfl
          refine wpl_nil ?_
          refine X.thenN ?_
          refine CR.seq ?_
          refine CR.stillTail Try_mixed (by intro ⟨_, _, x⟩; exact x) 11 rfl h (by decide +kernel) fun w h => ?_
          refine St.getS h rfl rfl rfl (G.ld 9 0 rfl rfl rfl rfl rfl Try.isAgg29) fun a h => ?_
          refine St.getS h rfl rfl rfl (G.ld 8 0 rfl rfl rfl rfl rfl Try.isAgg3) fun a h => ?_
          refine St.getS h rfl rfl rfl (G.move rfl rfl) fun a h => ?_
          refine St.getS h rfl rfl rfl (G.nilc rfl rfl) fun a h => ?_
          refine St.getS h rfl rfl rfl (G.fadr 0 rfl rfl Try.underlying91 rfl rfl Try.sizeOf3) fun a h => ?_
          refine St.getS h rfl rfl rfl (G.ldo _ 3 0 rfl (by assumption) rfl rfl rfl rfl rfl Try.isAgg3) fun a h => ?_
          refine St.getS h rfl rfl rfl (G.move rfl rfl) fun a h => ?_
          refine St.getS h rfl rfl rfl (G.nilc rfl rfl) fun a h => ?_
          refine St.getS h rfl rfl rfl (G.fadr 1 rfl rfl Try.underlying91 rfl rfl Try.sizeOf22) fun a h => ?_
          refine St.getS h rfl rfl rfl (G.ldo _ 3 1 rfl (by assumption) rfl rfl rfl rfl rfl Try.isAgg22) fun a h => ?_
          refine St.getS h rfl rfl rfl (G.build [(0, 1), (1, 1), (2, 1)] rfl rfl Try.zeroValue80 Try.underlying80 ⟨rfl, Try.sizeOf3, rfl, Try.sizeOf3, rfl, Try.sizeOf22, trivial⟩ rfl) fun a h => ?_
          replace h := h.conv (sl' := (_, .agg #[.int _ _, .int _ _, .int _ _]) :: _) (L' := _) rfl rfl
          refine wps_nil ?_
          refine St.call h [2, 3, 3] rfl (Ro.nil _) ((note_spec b o n ⟨4, x.num, x.val⟩ (rlv gi q.items.length ci) (.int .i64 q.given) gw cw ws (hq.lens hw).1 (hq.lens hw).2)) rfl rfl rfl Try.call73 rfl rfl fun v L a w hp h => ?_
          obtain ⟨rfl, gw', cw', ws', hw', rfl⟩ := hp
          replace h := h.conv (sl' := _) (L' := [cells _ _ [_, _, _], _, _, cells _ _ [_], cells _ _ [_], _, cells _ _ [_], cells _ _ [_], cells _ _ [_], cells _ _ [_]]) rfl rfl
          refine wpl_nil ?_
          refine X.thenN ?_
          refine CR.exit ?_
          refine X.blkO rfl ?_
          replace h := h.conv (L' := [cells b o [rlv gi (q.items.set i ⟨x.num, x.val, n⟩).length ci, _, _], _, _, _, _, _, _, _, _, _]) rfl (by rw [List.length_set])
          replace h := h.fold [0, 5, 1, 2] rfl ((QAt_mk (q := { q with items := q.items.set i { x with by_ := n }, works := noteM n ⟨4, x.num, x.val⟩ q.works }) gi ci gw' cw' ws' (by rw [hw', hw])))
          replace h := h.conv (sl' := _) (L' := [_, cells _ _ [_], cells _ _ [_], cells _ _ [_], cells _ _ [_], cells _ _ [_], cells _ _ [_]]) rfl rfl
          replace h := h.sel [1, 2, 3, 4, 0, 5, 6] rfl
          replace h := h.conv (sl' := _) (L' := [cells _ _ [_], cells _ _ [_], cells _ _ [_], cells _ _ [_], _, cells _ _ [_], cells _ _ [_]]) rfl rfl
          exact St.ends_round h rfl (Ent.refl _) (⟨rfl, by rw [hPL, ← hT, e]⟩)
      have hex : ∀ _ : Nat, Excl (stars (recAt l (loopOf r (some (.exit 0))) :: PL)) := fun _ => by rw [hPL]; infer_instance
      refine ((others1_spec l c1 c2 b o n (rlv gw ws.length cw) (.int .i64 q.given) gi ci q.items
        (stars [recAt l r, ownl encPtr 92 gw cw (ws.map Prod.fst), many (WAt 80) ws, cells b4 0 [.int .i64 140], cells b3 0 [.int .u64 0], cells b2 0 [.int .i64 n], cells b1 0 [.pointer (some ⟨b, o, none⟩)]])
        (fun _ => stars (recAt l (loopOf r (some (.exit 0))) :: PL)) (hJ := hex) (fun i x hi hx hall => ((hy i x hi hx hall).pre ?_).post ?_)).pre ?_).post ?_
      · exact (stars_unpack [_, _, _, _] _).trans (Ent.picks (rel [4, 0, 1, 2, 3, 5, 6, 7, 8, 9, 10]) rfl)
      · rintro v L1 ⟨j, L'', ⟨rfl, rfl⟩, rfl, rfl⟩
        exact ⟨_, ⟨rfl, rfl⟩, stars_one (Ent.refl _)⟩
      · exact (Ent.picks (rel [1, 2, 3, 4, 0, 5, 6, 7, 8, 9, 10]) rfl).trans (stars_pack [_, _, _, _] _)
      · rintro v L1 (⟨hall, rfl⟩ | ⟨i, x, hi, hx, hall, rfl⟩)
        · refine ⟨_, ⟨none, PL, ⟨.inl rfl, rfl⟩, rfl⟩, ?_⟩
          have e : takeQ q n = (0, 140, q) := by
            have h0 : fitQ q n = 0 := by omega
            simp [takeQ, h0, otherQ_none (k := 0) hall]
          rw [loopOf_none hst hpe, hPL, ← hT, e]
          refine (stars_unpack [_, _, _, _] _).trans ((Ent.foldL [2, 3, 5, 6] rfl (QAt_mk gi ci gw cw ws hw)).trans (Ent.picks (rel [3, 1, 2, 4, 5, 0, 6, 7]) rfl))
        · exact ⟨_, ⟨some (.exit 0), PL, ⟨.inr rfl, rfl⟩, rfl⟩, star_fst _ _⟩
    · obtain ⟨_, rfl⟩ := hI
      rw [hPL] at h
      replace h := h.conv (L' := [_, _, _, _, _, _, _]) rfl rfl
      refine X.blkN ?_
      refine X.thenN ?_
      refine C.seq ?_
      refine C.still Try_mixed h (by decide +kernel) fun w h => ?_
      refine St.getS h rfl rfl rfl (G.ld 3 0 rfl rfl rfl rfl rfl Try.isAgg22) fun a h => ?_
      refine St.getS h rfl rfl rfl (G.ld 2 0 rfl rfl rfl rfl rfl Try.isAgg34) fun a h => ?_
      refine St.getS h rfl rfl rfl (G.assign rfl rfl) fun a h => ?_
      refine St.getS h rfl rfl rfl (G.assign rfl rfl) fun a h => ?_
      refine wps_nil ?_
      refine X.thenN ?_
      refine C.ret ?_
      refine X.ngR ?_
      replace h := h.sel [4] rfl
      replace h := h.conv (sl' := _) (L' := [_]) rfl rfl
      exact h.ret2 Try.results39 rfl rfl (Ent.refl _) (⟨rfl, rfl⟩)
    · obtain ⟨hj, rfl⟩ := hI
      rw [hPL] at h
      replace h := h.conv (L' := [_, _, _, _, _, _, _]) rfl rfl
      have hc' : c = .exit 0 := by rcases hj with hj | hj <;> simp at hj; exact hj
      subst hc'
      refine C.exit ?_
      refine X.blkE ?_
      refine X.thenN ?_
      refine C.seq ?_
      refine C.still Try_mixed h (by decide +kernel) fun w h => ?_
      refine St.getS h rfl rfl rfl (G.ld 3 0 rfl rfl rfl rfl rfl Try.isAgg22) fun a h => ?_
      refine St.getS h rfl rfl rfl (G.ld 2 0 rfl rfl rfl rfl rfl Try.isAgg34) fun a h => ?_
      refine St.getS h rfl rfl rfl (G.assign rfl rfl) fun a h => ?_
      refine St.getS h rfl rfl rfl (G.assign rfl rfl) fun a h => ?_
      refine wps_nil ?_
      refine X.thenN ?_
      refine C.ret ?_
      refine X.ngR ?_
      replace h := h.sel [4] rfl
      replace h := h.conv (sl' := _) (L' := [_]) rfl rfl
      exact h.ret2 Try.results39 rfl rfl (Ent.refl _) (⟨rfl, rfl⟩)
end Go.Proofs.Ytllhegccpknncaa
