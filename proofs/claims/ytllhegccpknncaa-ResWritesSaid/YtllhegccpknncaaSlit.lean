/-
  slices.IndexFunc and slices.DeleteFunc of a queue's items.
-/
import Derived.Test.YtllhegccpknncaaQa
import Derived.Test.YtllhegccpknncaaSeat
set_option linter.unusedVariables false
set_option linter.unusedSimpArgs false
set_option linter.unusedSectionVars false
set_option maxRecDepth 8000
namespace Go.Proofs.Ytllhegccpknncaa
open Go.Tr

/-- The first place from i on where p holds, or -1. -/
def firstI {α : Type} (p : α → Bool) : List α → Int → Int
  | [], _ => -1
  | x :: l, i => if p x then i else firstI p l (i + 1)
theorem firstI_skip {α : Type} {p : α → Bool} {l : List α} {i : Nat} {x : α} (h : l[i]? = some x) (hp : p x = false) : firstI p (l.drop i) i = firstI p (l.drop (i + 1)) (i + 1) := by
  obtain ⟨hlt, rfl⟩ := List.getElem?_eq_some_iff.1 h
  rw [List.drop_eq_getElem_cons hlt]
  simp [firstI, hp]
theorem firstI_hit {α : Type} {p : α → Bool} {l : List α} {i : Nat} {x : α} (h : l[i]? = some x) (hp : p x = true) : firstI p (l.drop i) i = i := by
  obtain ⟨hlt, rfl⟩ := List.getElem?_eq_some_iff.1 h
  rw [List.drop_eq_getElem_cons hlt]
  simp [firstI, hp]

theorem Commit1_spec (x : QI) (bn : Nat) (n : Int) : Meets Try.prog 76 #[.agg #[.int .i64 x.num, .int .u64 x.val, .int .i64 x.by_], .pointer (some ⟨bn, 0, none⟩)] [rcells bn 0 [.int .i64 n]] (Det (.bool (decide (x.by_ = n))) []) := by
  refine Meets.of_code Try.func76 rfl Try.ntmps76 rfl fun w0 S R a h => ?_
  refine C.seq ?_
  refine C.region ?_
  refine St.box h rfl rfl rfl rfl rfl fun b1 a w h => ?_
  replace h := h.conv (sl' := _) (L' := [cells _ _ [_, _, _], rcells _ _ [_]]) rfl rfl
  refine St.get h rfl rfl rfl (G.assign rfl rfl) fun a h => ?_
  refine wpl_nil ?_
  refine X.thenN ?_
  refine C.seq ?_
  refine C.region ?_
  refine St.get h rfl rfl rfl (G.fadr 2 rfl rfl Try.underlying91 rfl rfl Try.sizeOf3) fun a h => ?_
  refine St.get h rfl rfl rfl (G.ld 0 2 rfl rfl rfl rfl rfl Try.isAgg3) fun a h => ?_
  refine St.get h rfl rfl rfl (G.ldr 1 0 rfl rfl rfl rfl rfl Try.isAgg3) fun a h => ?_
  refine St.getP h rfl rfl rfl (G.bin rfl rfl rfl B.eql) (fun hc a h => ?_) (fun hc a h => ?_)
  refine St.get h rfl rfl rfl (G.assign rfl rfl) fun a h => ?_
  refine wpl_nil ?_
  refine X.thenN ?_
  refine C.ret ?_
  rotate_left
  refine St.get h rfl rfl rfl (G.assign rfl rfl) fun a h => ?_
  refine wpl_nil ?_
  refine X.thenN ?_
  refine C.ret ?_
  rotate_left
  · replace h := h.sel [] rfl
    exact h.ret1 Try.results76 rfl (Ent.refl _) (⟨by simp [hc], rfl⟩)
  · replace h := h.sel [] rfl
    exact h.ret1 Try.results76 rfl (Ent.refl _) (⟨by simp [hc], rfl⟩)
theorem IndexFunc_items (g : Option Addr) (c : Nat) (ys : List QI) (bn : Nat) (n : Int) :
    Meets Try.prog 98 #[rlv g ys.length c, .func (.func 76) #[] #[.pointer (some ⟨bn, 0, none⟩)]] [rdl encQI g ys, rcells bn 0 [.int .i64 n]] (Det (.int .i64 (firstI (fun x => decide (x.by_ = n)) ys 0)) []) := by
  refine Meets.of_code Try.func98 rfl Try.ntmps98 rfl fun w0 S R a h => ?_
  have hlen : ys.length ≤ 9223372036854775807 := by have := h.tell1 0 rfl fun _ _ _ => rdl_len; simpa using this
  refine C.seq ?_
  refine C.region ?_
  refine St.get h rfl rfl rfl (G.assign rfl rfl) fun a h => ?_
  refine wpl_nil ?_
  refine X.thenN ?_
  refine C.seq ?_
  refine C.seq ?_
  refine C.region ?_
  refine St.get h rfl rfl rfl (G.move rfl rfl) fun a h => ?_
  refine St.get h rfl rfl rfl (G.lens rfl rfl Try.underlying30) fun a h => ?_
  refine St.get h rfl rfl rfl (G.move rfl rfl) fun a h => ?_
  refine wpl_nil ?_
  refine X.thenN ?_
  refine C.block ?_
  refine C.loop (fun m a w => ∃ i : Nat, i + m = ys.length ∧ firstI (fun x => decide (x.by_ = n)) ys 0 = firstI (fun x => decide (x.by_ = n)) (ys.drop i) i ∧ St w0 S R 19 [(0, rlv g ys.length c), (1, .func (.func 76) #[] #[.pointer (some ⟨bn, 0, none⟩)]), (6, rlv g ys.length c), (7, .int .i64 ys.length), (8, .int .i64 i)] [rdl encQI g ys, rcells bn 0 [.int .i64 n]] a w) ys.length ⟨0, by omega, rfl, h.sub ⟨rfl, rfl, rfl, rfl, rfl, trivial⟩⟩ ?_
  rintro m a w ⟨i, hi, hf, h⟩
  by_cases hlt : i < ys.length
  · obtain ⟨x, hx⟩ : ∃ x, ys[i]? = some x := ⟨_, List.getElem?_eq_getElem hlt⟩
    have hx1 : ys[(i : Int).toNat]? = some x := by simp [hx]
    refine C.seq ?_
    refine C.region ?_
    refine St.get h rfl rfl rfl (G.bin rfl rfl rfl (B.lssT (by omega))) fun a h => ?_
    refine wpl_nil ?_
    refine X.thenN ?_
    refine C.seq ?_
    refine St.condT h rfl ?_
    refine C.skip ?_
    refine X.thenN ?_
    refine C.seq ?_
    refine C.block ?_
    refine C.seq ?_
    refine C.region ?_
    refine St.get h rfl rfl rfl (G.move rfl rfl) fun a h => ?_
    refine St.get h rfl rfl rfl (G.assign rfl rfl) fun a h => ?_
    refine wpl_nil ?_
    refine X.thenN ?_
    refine C.seq ?_
    refine C.region ?_
    refine St.get h rfl rfl rfl (G.move rfl rfl) fun a h => ?_
    refine St.get h rfl rfl rfl (G.move rfl rfl) fun a h => ?_
    refine St.get h rfl rfl rfl (G.move rfl rfl) fun a h => ?_
    refine St.get h rfl rfl rfl (G.idxr _ 0 rfl rfl rfl rfl (by omega) (by omega) (by omega) Try.underlying30 Try.sizeOf91) fun a h => ?_
    refine St.get h rfl rfl rfl (G.ldea _ 0 rfl (by assumption) rfl rfl rfl rfl Try.isAgg91 Try.sizeOf91) fun a h => ?_
    replace h := h.conv (sl' := (_, .agg #[_, _, _]) :: _) (L' := _) rfl rfl
    refine St.callv h [] rfl (Ro.cons 1 rfl (rcells_ro _ _ _) (Ro.nil _)) rfl rfl rfl rfl rfl ((Commit1_spec x bn n)) Try.call76 rfl rfl fun v L a w hp h => ?_
    obtain ⟨rfl, rfl⟩ := hp
    replace h := h.conv (sl' := _) (L' := [_, rcells _ _ [_]]) rfl rfl
    refine wpl_nil ?_
    refine X.thenN ?_
    refine St.cond h rfl (fun hc => ?_) (fun hc => ?_)
    refine C.seq ?_
    refine C.region ?_
    refine St.get h rfl rfl rfl (G.move rfl rfl) fun a h => ?_
    refine St.get h rfl rfl rfl (G.assign rfl rfl) fun a h => ?_
    refine wpl_nil ?_
    refine X.thenN ?_
    refine C.ret ?_
    refine X.blkR ?_
    refine X.thenR ?_
    refine X.thenR ?_
    refine X.blkR ?_
    refine X.thenR ?_
    rotate_left
    refine C.skip ?_
    refine X.blkN ?_
    refine X.thenN ?_
    refine C.region ?_
    refine St.get h rfl rfl rfl (G.bin rfl rfl rfl (B.addi (by omega) (by omega))) fun a h => ?_
    refine St.get h rfl rfl rfl (G.move rfl rfl) fun a h => ?_
    refine wpl_nil ?_
    refine X.thenN ?_
    rotate_left
    · replace h := h.sel [] rfl
      exact h.ret1 Try.results98 rfl (Ent.refl _) (⟨by rw [hf, firstI_hit hx (by simp [hc])], rfl⟩)
    · exact ⟨m - 1, by omega, i + 1, by omega, by rw [hf, firstI_skip hx (by simp [hc])]; rfl, h.sub ⟨rfl, rfl, rfl, rfl, rfl, trivial⟩⟩
  · refine C.seq ?_
    refine C.region ?_
    refine St.get h rfl rfl rfl (G.bin rfl rfl rfl (B.lssF (by omega))) fun a h => ?_
    refine wpl_nil ?_
    refine X.thenN ?_
    refine C.seq ?_
    refine St.condF h rfl ?_
    refine C.exit ?_
    refine X.thenE ?_
    refine X.thenE ?_
    refine X.blkE ?_
    refine X.thenN ?_
    refine C.seq ?_
    refine C.region ?_
    refine St.get h rfl rfl rfl (G.assign rfl rfl) fun a h => ?_
    refine wpl_nil ?_
    refine X.thenN ?_
    refine C.ret ?_
    replace h := h.sel [] rfl
    exact h.ret1 Try.results98 rfl (Ent.refl _) (⟨by rw [hf, List.drop_eq_nil_of_le (by omega)]; rfl, rfl⟩)
theorem firstI_cases {α : Type} (p : α → Bool) : ∀ (l : List α) (i : Nat), (firstI p l i = -1 ∧ l.filter (fun x => !p x) = l) ∨ ∃ k : Nat, firstI p l i = ((i + k : Nat) : Int) ∧ k < l.length ∧ (l.take (k + 1)).filter (fun x => !p x) = l.take k
  | [], i => .inl ⟨rfl, rfl⟩
  | x :: l, i => by
    cases hp : p x with
    | true => exact .inr ⟨0, by simp [firstI, hp], by simp, by simp [hp]⟩
    | false =>
      rcases firstI_cases p l (i + 1) with ⟨h1, h2⟩ | ⟨k, h1, h2, h3⟩
      · exact .inl ⟨by simp [firstI, hp]; exact h1, by simp [hp]; simpa using h2⟩
      · exact .inr ⟨k + 1, by simp [firstI, hp]; have := h1; simp at this; omega, by simpa using h2, by simp [hp] at h3 ⊢; exact h3⟩
/-- What is left of a row in which what stays is moved forward. -/
structure Moved {α : Type} (p : α → Bool) (ys zs : List α) (i j : Nat) : Prop where
  len : zs.length = ys.length
  lt : i < j
  le : j ≤ ys.length
  front : zs.take i = (ys.take j).filter fun x => !p x
  back : ∀ k, j ≤ k → zs[k]? = ys[k]?
theorem Moved.stay {α : Type} {p : α → Bool} {ys zs : List α} {i j : Nat} {x : α} (h : Moved p ys zs i j) (hx : ys[j]? = some x) (hp : p x = false) : Moved p ys (zs.set i x) (i + 1) (j + 1) := by
  have hj := (List.getElem?_eq_some_iff.1 hx).1
  have hlt := h.lt
  have hl := h.len
  refine ⟨by simp [h.len], by omega, hj, ?_, fun k hk => ?_⟩
  · have h1 : (zs.set i x).take (i + 1) = zs.take i ++ [x] := by
      rw [List.take_set, List.take_succ_eq_append_getElem (by rw [h.len]; omega), List.set_append_right _ _ (by simp; omega)]
      have : i - (zs.take i).length = 0 := by simp; omega
      rw [this]; rfl
    rw [h1, h.front, List.take_add_one, hx]
    simp [hp]
  · rw [List.getElem?_set_ne (by omega)]; exact h.back k (by omega)
theorem Moved.go {α : Type} {p : α → Bool} {ys zs : List α} {i j : Nat} {x : α} (h : Moved p ys zs i j) (hx : ys[j]? = some x) (hp : p x = true) : Moved p ys zs i (j + 1) := by
  have hj := (List.getElem?_eq_some_iff.1 hx).1
  have hlt := h.lt
  refine ⟨h.len, by omega, hj, ?_, fun k hk => h.back k (by omega)⟩
  rw [h.front, List.take_add_one, hx]
  simp [hp]
theorem Moved.done {α : Type} {p : α → Bool} {ys zs : List α} {i j : Nat} (h : Moved p ys zs i j) (hj : ¬ j < ys.length) : zs.take i = ys.filter (fun x => !p x) ∧ (ys.filter (fun x => !p x)).length = i := by
  have h1 := h.front
  rw [List.take_of_length_le (l := ys) (by omega)] at h1
  refine ⟨h1, ?_⟩
  rw [← h1, List.length_take, h.len]
  have h2 := h.lt
  have h3 := h.le
  omega

theorem DeleteFunc_items (g : Option Addr) (c : Nat) (ys : List QI) (bn : Nat) (n : Int) :
    Meets Try.prog 75 #[rlv g ys.length c, .func (.func 76) #[] #[.pointer (some ⟨bn, 0, none⟩)]] [ownl encQI 91 g c ys, rcells bn 0 [.int .i64 n]]
      (Det (rlv g (ys.filter (fun x => !decide (x.by_ = n))).length c) [ownl encQI 91 g c (ys.filter (fun x => !decide (x.by_ = n)))]) := by
  refine Meets.of_code Try.func75 rfl Try.ntmps75 rfl fun w0 S R a h => ?_
  have hcap := h.tell1 0 rfl fun _ _ _ => ownl_cap
  refine C.seq ?_
  refine C.region ?_
  refine St.get h rfl rfl rfl (G.assign rfl rfl) fun a h => ?_
  refine wpl_nil ?_
  refine X.thenN ?_
  refine C.seq ?_
  refine C.region ?_
  refine St.get h rfl rfl rfl (G.move rfl rfl) fun a h => ?_
  refine St.get h rfl rfl rfl (G.move rfl rfl) fun a h => ?_
  refine St.callD h [] rfl (Ro.cons 0 rfl (ownl_ro _ _ _ _ _) (Ro.cons 1 rfl (rcells_ro _ _ _) (Ro.nil _))) ((IndexFunc_items g c ys bn n)) rfl rfl rfl Try.call98 rfl rfl fun a w h => ?_
  replace h := h.conv (sl' := _) (L' := [_, rcells _ _ [_]]) rfl rfl
  rcases firstI_cases (fun x : QI => decide (x.by_ = n)) ys 0 with ⟨h1, h2⟩ | ⟨i0, h1, h2, h3⟩
  · rw [show ((0 : Nat) : Int) = 0 from rfl] at h1
    rw [h1] at h
    refine St.get h rfl rfl rfl (G.assign rfl rfl) fun a h => ?_
    refine wpl_nil ?_
    refine X.thenN ?_
    refine C.seq ?_
    refine C.seq ?_
    refine C.region ?_
    refine St.get h rfl rfl rfl (G.move rfl rfl) fun a h => ?_
    refine St.get h rfl rfl rfl (G.bin rfl rfl rfl (B.eqlT (by omega))) fun a h => ?_
    refine wpl_nil ?_
    refine X.thenN ?_
    refine St.condT h rfl ?_
    refine C.seq ?_
    refine C.region ?_
    refine St.get h rfl rfl rfl (G.move rfl rfl) fun a h => ?_
    refine St.get h rfl rfl rfl (G.assign rfl rfl) fun a h => ?_
    refine wpl_nil ?_
    refine X.thenN ?_
    refine C.ret ?_
    refine X.thenR ?_
    replace h := h.sel [0] rfl
    replace h := h.conv (sl' := _) (L' := [_]) rfl rfl
    exact h.ret1 Try.results75 rfl (Ent.refl _) (⟨by rw [h2], by rw [h2]⟩)
  · rw [show ((0 : Nat) : Int) = 0 from rfl, Nat.zero_add] at h1
    rw [h1] at h
    refine St.get h rfl rfl rfl (G.assign rfl rfl) fun a h => ?_
    refine wpl_nil ?_
    refine X.thenN ?_
    refine C.seq ?_
    refine C.seq ?_
    refine C.region ?_
    refine St.get h rfl rfl rfl (G.move rfl rfl) fun a h => ?_
    refine St.get h rfl rfl rfl (G.bin rfl rfl rfl (B.eqlF (by omega))) fun a h => ?_
    refine wpl_nil ?_
    refine X.thenN ?_
    refine St.condF h rfl ?_
    refine C.skip ?_
    refine X.thenN ?_
    refine C.seq ?_
    refine C.seq ?_
    refine C.region ?_
    refine St.get h rfl rfl rfl (G.move rfl rfl) fun a h => ?_
    refine St.get h rfl rfl rfl (G.bin rfl rfl rfl (B.addi (by omega) (by omega))) fun a h => ?_
    refine St.get h rfl rfl rfl (G.assign rfl rfl) fun a h => ?_
    refine wpl_nil ?_
    refine X.thenN ?_
    refine C.block ?_
    refine C.loop (fun m a w => ∃ i j zs, j + m = ys.length ∧ Moved (fun x : QI => decide (x.by_ = n)) ys zs i j ∧ St w0 S R 42 [(0, rlv g ys.length c), (1, .func (.func 76) #[] #[.pointer (some ⟨bn, 0, none⟩)]), (5, .int .i64 i), (6, .int .i64 j)] [ownl encQI 91 g c zs, rcells bn 0 [.int .i64 n]] a w) (ys.length - (i0 + 1))
      ⟨i0, i0 + 1, ys, by omega, ⟨rfl, by omega, by omega, h3.symm, fun _ _ => rfl⟩, h.sub ⟨rfl, rfl, rfl, rfl, trivial⟩⟩ ?_
    rintro m a w ⟨i, j, zs, hjm, hM, h⟩
    have hlen := hM.len
    have hilt := hM.lt
    have hjle := hM.le
    by_cases hlt : j < ys.length
    · obtain ⟨x, hx⟩ : ∃ x, ys[j]? = some x := ⟨_, List.getElem?_eq_getElem hlt⟩
      have hx1 : zs[(j : Int).toNat]? = some x := by rw [← hx]; exact hM.back j (Nat.le_refl _)
      refine C.seq ?_
      refine C.seq ?_
      refine C.region ?_
      refine St.get h rfl rfl rfl (G.move rfl rfl) fun a h => ?_
      refine St.get h rfl rfl rfl (G.move rfl rfl) fun a h => ?_
      refine St.get h rfl rfl rfl (G.lens rfl rfl Try.underlying30) fun a h => ?_
      refine St.get h rfl rfl rfl (G.bin rfl rfl rfl (B.lssT (by omega))) fun a h => ?_
      refine wpl_nil ?_
      refine X.thenN ?_
      refine St.condT h rfl ?_
      refine C.skip ?_
      refine X.thenN ?_
      refine C.seq ?_
      refine C.block ?_
      refine C.seq ?_
      refine C.region ?_
      refine St.get h rfl rfl rfl (G.move rfl rfl) fun a h => ?_
      refine St.get h rfl rfl rfl (G.move rfl rfl) fun a h => ?_
      refine St.get h rfl rfl rfl (G.idxo _ 0 rfl rfl rfl rfl (by omega) (by omega) (by omega) Try.underlying30 Try.sizeOf91) fun a h => ?_
      refine St.get h rfl rfl rfl (G.ldoa _ 0 rfl (by assumption) rfl rfl rfl rfl Try.isAgg91 Try.sizeOf91) fun a h => ?_
      replace h := h.conv (sl' := (_, .agg #[_, _, _]) :: _) (L' := _) rfl rfl
      refine St.alloc h Try.zeroValue91 rfl rfl rfl rfl fun b1 a w h => ?_
      replace h := h.conv (sl' := _) (L' := [cells _ _ [_, _, _], _, rcells _ _ [_]]) rfl rfl
      refine St.put h rfl rfl (U.sta 0 0 rfl rfl rfl rfl rfl rfl (by simp [Value.oneCell']) Try.sizeOf91 rfl) fun a w h => ?_
      replace h := h.conv (sl' := _) (L' := [cells _ _ [_, _, _], _, rcells _ _ [_]]) rfl rfl
      refine wpl_nil ?_
      refine X.thenN ?_
      refine C.seq ?_
      refine C.region ?_
      refine St.get h rfl rfl rfl (G.move rfl rfl) fun a h => ?_
      refine St.get h rfl rfl rfl (G.lda 0 0 3 rfl rfl rfl rfl rfl Try.isAgg91 Try.sizeOf91) fun a h => ?_
      replace h := h.conv (sl' := (_, .agg #[_, _, _]) :: _) (L' := _) rfl rfl
      refine St.callv h [] rfl (Ro.cons 2 rfl (rcells_ro _ _ _) (Ro.nil _)) rfl rfl rfl rfl rfl ((Commit1_spec x bn n)) Try.call76 rfl rfl fun v L a w hp h => ?_
      obtain ⟨rfl, rfl⟩ := hp
      replace h := h.conv (sl' := _) (L' := [cells _ _ [_, _, _], _, rcells _ _ [_]]) rfl rfl
      refine St.get h rfl rfl rfl (G.un rfl rfl B.not) fun a h => ?_
      refine wpl_nil ?_
      refine X.thenN ?_
      refine St.cond h rfl (fun hc => ?_) (fun hc => ?_)
      refine C.seq ?_
      refine C.region ?_
      refine St.get h rfl rfl rfl (G.move rfl rfl) fun a h => ?_
      refine St.get h rfl rfl rfl (G.move rfl rfl) fun a h => ?_
      refine St.get h rfl rfl rfl (G.lda 0 0 3 rfl rfl rfl rfl rfl Try.isAgg91 Try.sizeOf91) fun a h => ?_
      replace h := h.conv (sl' := (_, .agg #[_, _, _]) :: _) (L' := _) rfl rfl
      refine St.get h rfl rfl rfl (G.idxo _ 1 rfl rfl rfl rfl (by omega) (by omega) (by omega) Try.underlying30 Try.sizeOf91) fun a h => ?_
      rotate_left
      refine C.skip ?_
      refine X.blkN ?_
      refine X.thenN ?_
      refine C.region ?_
      refine St.get h rfl rfl rfl (G.move rfl rfl) fun a h => ?_
      refine St.get h rfl rfl rfl (G.bin rfl rfl rfl (B.addi (by omega) (by omega))) fun a h => ?_
      refine St.get h rfl rfl rfl (G.assign rfl rfl) fun a h => ?_
      refine wpl_nil ?_
      refine X.thenN ?_
      rotate_left
      · have hx2 : x.by_ ≠ n := by simpa using hc
        refine St.put h rfl rfl (U.stoa _ 1 (x) rfl (by omega) rfl rfl rfl rfl rfl rfl Try.sizeOf91) fun a w h => ?_
        replace h := h.conv (sl' := _) (L' := [cells _ _ [_, _, _], _, rcells _ _ [_]]) rfl rfl
        refine wpl_nil ?_
        refine X.thenN ?_
        refine C.region ?_
        refine St.get h rfl rfl rfl (G.move rfl rfl) fun a h => ?_
        refine St.get h rfl rfl rfl (G.bin rfl rfl rfl (B.addi (by omega) (by omega))) fun a h => ?_
        refine St.get h rfl rfl rfl (G.assign rfl rfl) fun a h => ?_
        refine wpl_nil ?_
        refine X.blkN ?_
        refine X.thenN ?_
        refine C.region ?_
        refine St.get h rfl rfl rfl (G.move rfl rfl) fun a h => ?_
        refine St.get h rfl rfl rfl (G.bin rfl rfl rfl (B.addi (by omega) (by omega))) fun a h => ?_
        refine St.get h rfl rfl rfl (G.assign rfl rfl) fun a h => ?_
        refine wpl_nil ?_
        refine X.thenN ?_
        replace h := h.sel [1, 2] rfl
        replace h := h.conv (sl' := _) (L' := [_, rcells _ _ [_]]) rfl rfl
        exact ⟨m - 1, by omega, i + 1, j + 1, zs.set i x, by omega, hM.stay hx (by simp [hx2]), h.sub ⟨rfl, rfl, rfl, rfl, trivial⟩⟩
      · have hx2 : x.by_ = n := by simpa using hc
        replace h := h.sel [1, 2] rfl
        replace h := h.conv (sl' := _) (L' := [_, rcells _ _ [_]]) rfl rfl
        exact ⟨m - 1, by omega, i, j + 1, zs, by omega, hM.go hx (by simp [hx2]), h.sub ⟨rfl, rfl, rfl, rfl, trivial⟩⟩
    · obtain ⟨hd1, hd2⟩ := hM.done hlt
      refine C.seq ?_
      refine C.seq ?_
      refine C.region ?_
      refine St.get h rfl rfl rfl (G.move rfl rfl) fun a h => ?_
      refine St.get h rfl rfl rfl (G.move rfl rfl) fun a h => ?_
      refine St.get h rfl rfl rfl (G.lens rfl rfl Try.underlying30) fun a h => ?_
      refine St.get h rfl rfl rfl (G.bin rfl rfl rfl (B.lssF (by omega))) fun a h => ?_
      refine wpl_nil ?_
      refine X.thenN ?_
      refine St.condF h rfl ?_
      refine C.exit ?_
      refine X.thenE ?_
      refine X.thenE ?_
      refine X.blkE ?_
      refine X.thenN ?_
      refine C.seq ?_
      refine C.region ?_
      refine St.get h rfl rfl rfl (G.move rfl rfl) fun a h => ?_
      refine St.get h rfl rfl rfl (G.move rfl rfl) fun a h => ?_
      refine St.get h rfl rfl rfl (G.cut (i) _ _ rfl rfl Try.underlying30 Try.sizeOf91 ⟨_, _, rfl, by omega⟩ rfl rfl (by omega) (by omega) (by omega)) fun a h => ?_
      refine St.act0 h rfl rfl (Acts.clear _ 0 (i) rfl rfl rfl (by omega) (fun hne => cutA_ne (by omega)) Try.underlying30 Try.zeroValue91 rfl (by decide)) fun v L a w hp h => ?_
      obtain ⟨rfl, rfl⟩ := hp
      replace h := h.conv (sl' := _) (L' := [_, rcells _ _ [_]]) rfl rfl
      refine wpl_nil ?_
      refine X.thenN ?_
      refine C.seq ?_
      refine C.region ?_
      refine St.get h rfl rfl rfl (G.move rfl rfl) fun a h => ?_
      refine St.get h rfl rfl rfl (G.move rfl rfl) fun a h => ?_
      refine St.get h rfl rfl rfl (G.cut _ (i) _ rfl rfl Try.underlying30 Try.sizeOf91 rfl ⟨_, _, rfl, by omega⟩ rfl (by omega) (by omega) (by omega)) fun a h => ?_
      refine St.get h rfl rfl rfl (G.assign rfl rfl) fun a h => ?_
      refine wpl_nil ?_
      refine X.thenN ?_
      refine C.ret ?_
      replace h := h.sel [0] rfl
      replace h := h.conv (sl' := _) (L' := [_]) rfl rfl
      exact h.ret1 Try.results75 rfl (Ent.refl _) (⟨by rw [cutA_zero, hd2]; rfl, by rw [hd1]⟩)
end Go.Proofs.Ytllhegccpknncaa
