/-
  Changes as bytes: Write, both ways.
-/
import Derived.Test.YtllhegccpknncaaOb
import Derived.Test.YtllhegccpknncaaRead
import Derived.Test.YtllhegccpknncaaSeat
set_option linter.unusedVariables false
set_option linter.unusedSimpArgs false
set_option linter.unusedSectionVars false
set_option maxRecDepth 8000
namespace Go.Tr
def bytesC (c : Ch) : List Int := c.kind :: (octs 8 c.key ++ octs 8 c.val)
def okC (c : Ch) : Prop := 1 ≤ c.kind ∧ c.kind ≤ 4 ∧ 0 ≤ c.key
instance (c : Ch) : Decidable (okC c) := by unfold okC; infer_instance
def writeM (l : List Ch) : List Int × Int := if 48 < l.length then ([], 2) else if ∀ c ∈ l, okC c then (l.flatMap bytesC, 0) else ([], 30)
theorem bytesC_len (c : Ch) : (bytesC c).length = 17 := by simp [bytesC, octs_len]
theorem flat_len : ∀ l : List Ch, (l.flatMap bytesC).length = 17 * l.length
  | [] => rfl
  | c :: l => by rw [List.flatMap_cons, List.length_append, bytesC_len, flat_len l, List.length_cons]; omega
theorem take_snoc {α : Type} {l : List α} {i : Nat} {x : α} (h : l[i]? = some x) : l.take (i + 1) = l.take i ++ [x] := by rw [List.take_add_one, h]; rfl
end Go.Tr
namespace Go.Proofs.Ytllhegccpknncaa
open Go.Tr
theorem oWrite_spec (g : Option Addr) (c : Nat) (l : List Ch) (hl : l.length ≤ 200) (hf : ∀ x ∈ l, ChFits x) : Meets Try.prog 18 #[rlv g l.length c] [rdl encCh g l]
    (fun u L => ∃ A k, u = .tuple #[rlv A (writeM l).1.length k, .int .i64 (writeM l).2] ∧ L = [ownl encU8 5 A k (writeM l).1]) := by
  refine Meets.of_code Try.func18 rfl Try.ntmps18 rfl fun w0 S R a h => ?_
  refine C.seq ?_
  refine C.region ?_
  refine St.get h rfl rfl rfl (G.assign rfl rfl) fun a h => ?_
  refine St.get h rfl rfl rfl (G.assign rfl rfl) fun a h => ?_
  refine wpl_nil ?_
  refine X.thenN ?_
  refine C.seq ?_
  refine C.seq ?_
  refine C.region ?_
  refine St.get h rfl rfl rfl (G.move rfl rfl) fun a h => ?_
  refine St.get h rfl rfl rfl (G.lens rfl rfl Try.underlying23) fun a h => ?_
  refine St.getP h rfl rfl rfl (G.bin rfl rfl rfl B.gtr) (fun hc a h => ?_) (fun hc a h => ?_)
  refine wpl_nil ?_
  refine X.thenN ?_
  refine St.condT h rfl ?_
  refine C.seq ?_
  refine C.region ?_
  refine St.get h rfl rfl rfl (G.assign rfl rfl) fun a h => ?_
  refine St.get h rfl rfl rfl (G.assign rfl rfl) fun a h => ?_
  refine wpl_nil ?_
  refine X.thenN ?_
  refine C.ret ?_
  refine X.thenR ?_
  rotate_left
  refine wpl_nil ?_
  refine X.thenN ?_
  refine St.condF h rfl ?_
  refine C.skip ?_
  refine X.thenN ?_
  refine C.seq ?_
  refine C.region ?_
  refine St.get h rfl rfl rfl (G.assign rfl rfl) fun a h => ?_
  refine wpl_nil ?_
  refine X.thenN ?_
  refine C.seq ?_
  refine C.seq ?_
  refine C.region ?_
  refine St.get h rfl rfl rfl (G.move rfl rfl) fun a h => ?_
  refine St.get h rfl rfl rfl (G.lens rfl rfl Try.underlying23) fun a h => ?_
  refine St.get h rfl rfl rfl (G.move rfl rfl) fun a h => ?_
  refine wpl_nil ?_
  refine X.thenN ?_
  refine C.block ?_
  rotate_left
  · have e : writeM l = ([], 2) := if_pos (by omega)
    rw [e]
    replace h := h.nil encU8 5
    replace h := h.sel [0] rfl
    replace h := h.conv (sl' := _) (L' := [_]) rfl rfl
    exact h.ret2 Try.results18 rfl rfl (Ent.refl _) (⟨none, 0, rfl, rfl⟩)
  replace h := h.nil encU8 5
  refine C.loop (fun m a w => ∃ (i : Nat) (A : Option Addr) (k : Nat), i + m = l.length ∧ (∀ x ∈ l.take i, okC x) ∧ St w0 S R 58 [(4, rlv A (17 * i) k), (14, rlv g l.length c), (15, .int .i64 l.length), (16, .int .i64 i)]
    [ownl encU8 5 A k ((l.take i).flatMap bytesC), rdl encCh g l] a w) l.length ⟨0, none, 0, by omega, by simp, h.sub ⟨rfl, rfl, rfl, rfl, trivial⟩⟩ ?_
  rintro m a w ⟨i, A, k, hi, hok, h⟩
  by_cases hlt : i < l.length
  · obtain ⟨x, hx⟩ : ∃ x, l[i]? = some x := ⟨_, List.getElem?_eq_getElem hlt⟩
    have hx1 : l[(i : Int).toNat]? = some x := by simp [hx]
    have hm := List.mem_of_getElem? hx
    obtain ⟨⟨f1, f2⟩, ⟨f3, f4⟩, f5, f6⟩ := hf x hm
    have hbad : ¬ okC x → writeM l = ([], 30) := fun hn => by unfold writeM; rw [if_neg (by omega), if_neg fun ha => hn (ha x hm)]
    have hln : ((l.take i).flatMap bytesC).length = 17 * i := by rw [flat_len, List.length_take]; omega
    refine C.seq ?_
    refine C.region ?_
    refine St.get h rfl rfl rfl (G.bin rfl rfl rfl (B.lssT (by omega))) fun a h => ?_
    refine wpl_nil ?_
    refine X.thenN ?_
    refine C.seq ?_
    refine St.condT h rfl ?_
    refine C.skip ?_
    refine X.thenN ?_
    refine C.seq ?_
    refine C.block ?_
    refine C.seq ?_
    refine C.region ?_
    refine St.get h rfl rfl rfl (G.idxr _ 1 rfl rfl rfl rfl (by omega) (by omega) (by omega) Try.underlying23 Try.sizeOf80) fun a h => ?_
    refine St.get h rfl rfl rfl (G.ldea _ 1 rfl (by assumption) rfl rfl rfl rfl Try.isAgg80 Try.sizeOf80) fun a h => ?_
    replace h := h.conv (sl' := (_, .agg #[_, _, _]) :: _) (L' := _) rfl rfl
    refine St.alloc h Try.zeroValue80 rfl rfl rfl rfl fun b1 a w h => ?_
    replace h := h.conv (sl' := _) (L' := [cells _ _ [_, _, _], _, _]) rfl rfl
    refine St.put h rfl rfl (U.sta 0 0 rfl rfl rfl rfl rfl rfl (by simp [Value.oneCell']) Try.sizeOf80 rfl) fun a w h => ?_
    replace h := h.conv (sl' := _) (L' := [cells _ _ [_, _, _], _, _]) rfl rfl
    refine wpl_nil ?_
    refine X.thenN ?_
    refine C.seq ?_
    refine C.seq ?_
    refine C.region ?_
    refine St.get h rfl rfl rfl (G.fadr 0 rfl rfl Try.underlying80 rfl rfl Try.sizeOf3) fun a h => ?_
    refine St.get h rfl rfl rfl (G.ld 0 0 rfl rfl rfl rfl rfl Try.isAgg3) fun a h => ?_
    refine St.getP h rfl rfl rfl (G.bin rfl rfl rfl B.lss) (fun hc1 a h => ?_) (fun hc1 a h => ?_)
    refine St.get h rfl rfl rfl (G.move rfl rfl) fun a h => ?_
    refine St.guard_no h rfl rfl rfl rfl rfl (by decide) rfl rfl fun a h => ?_
    refine St.guard_no h rfl rfl rfl rfl rfl (by decide) rfl rfl fun a h => ?_
    refine St.guard_no h rfl rfl rfl rfl rfl (by decide) rfl rfl fun a h => ?_
    refine St.get h rfl rfl rfl (G.pickT rfl rfl rfl) fun a h => ?_
    refine St.get h rfl rfl rfl (G.move rfl rfl) fun a h => ?_
    refine St.guard_no h rfl rfl rfl rfl rfl (by decide) rfl rfl fun a h => ?_
    refine St.guard_no h rfl rfl rfl rfl rfl (by decide) rfl rfl fun a h => ?_
    refine St.guard_no h rfl rfl rfl rfl rfl (by decide) rfl rfl fun a h => ?_
    refine St.get h rfl rfl rfl (G.pickT rfl rfl rfl) fun a h => ?_
    refine wpl_nil ?_
    refine X.thenN ?_
    refine St.condT h rfl ?_
    refine C.seq ?_
    refine C.region ?_
    refine St.get h rfl rfl rfl (G.assign rfl rfl) fun a h => ?_
    refine St.get h rfl rfl rfl (G.assign rfl rfl) fun a h => ?_
    refine wpl_nil ?_
    refine X.thenN ?_
    refine C.ret ?_
    refine X.thenR ?_
    refine X.blkR ?_
    refine X.thenR ?_
    refine X.thenR ?_
    refine X.blkR ?_
    refine X.thenR ?_
    rotate_left
    refine St.get h rfl rfl rfl (G.move rfl rfl) fun a h => ?_
    refine St.guard_yes h rfl rfl rfl rfl rfl ?_
    refine St.get h rfl rfl rfl (G.fadr 0 rfl rfl Try.underlying80 rfl rfl Try.sizeOf3) fun a h => ?_
    refine St.guard_yes h rfl rfl rfl rfl rfl ?_
    refine St.get h rfl rfl rfl (G.ld 0 0 rfl rfl rfl rfl rfl Try.isAgg3) fun a h => ?_
    refine St.guard_yes h rfl rfl rfl rfl rfl ?_
    refine St.getP h rfl rfl rfl (G.bin rfl rfl rfl B.gtr) (fun hc2 a h => ?_) (fun hc2 a h => ?_)
    refine St.get h rfl rfl rfl (G.pickF rfl rfl rfl) fun a h => ?_
    refine St.get h rfl rfl rfl (G.move rfl rfl) fun a h => ?_
    refine St.guard_no h rfl rfl rfl rfl rfl (by decide) rfl rfl fun a h => ?_
    refine St.guard_no h rfl rfl rfl rfl rfl (by decide) rfl rfl fun a h => ?_
    refine St.guard_no h rfl rfl rfl rfl rfl (by decide) rfl rfl fun a h => ?_
    refine St.get h rfl rfl rfl (G.pickT rfl rfl rfl) fun a h => ?_
    refine wpl_nil ?_
    refine X.thenN ?_
    refine St.condT h rfl ?_
    refine C.seq ?_
    refine C.region ?_
    refine St.get h rfl rfl rfl (G.assign rfl rfl) fun a h => ?_
    refine St.get h rfl rfl rfl (G.assign rfl rfl) fun a h => ?_
    refine wpl_nil ?_
    refine X.thenN ?_
    refine C.ret ?_
    refine X.thenR ?_
    refine X.blkR ?_
    refine X.thenR ?_
    refine X.thenR ?_
    refine X.blkR ?_
    refine X.thenR ?_
    rotate_left
    refine St.get h rfl rfl rfl (G.pickF rfl rfl rfl) fun a h => ?_
    refine St.get h rfl rfl rfl (G.move rfl rfl) fun a h => ?_
    refine St.guard_yes h rfl rfl rfl rfl rfl ?_
    refine St.get h rfl rfl rfl (G.fadr 1 rfl rfl Try.underlying80 rfl rfl Try.sizeOf3) fun a h => ?_
    refine St.guard_yes h rfl rfl rfl rfl rfl ?_
    refine St.get h rfl rfl rfl (G.ld 0 1 rfl rfl rfl rfl rfl Try.isAgg3) fun a h => ?_
    refine St.guard_yes h rfl rfl rfl rfl rfl ?_
    refine St.getP h rfl rfl rfl (G.bin rfl rfl rfl B.lss) (fun hc3 a h => ?_) (fun hc3 a h => ?_)
    refine St.get h rfl rfl rfl (G.pickF rfl rfl rfl) fun a h => ?_
    refine wpl_nil ?_
    refine X.thenN ?_
    refine St.condT h rfl ?_
    refine C.seq ?_
    refine C.region ?_
    refine St.get h rfl rfl rfl (G.assign rfl rfl) fun a h => ?_
    refine St.get h rfl rfl rfl (G.assign rfl rfl) fun a h => ?_
    refine wpl_nil ?_
    refine X.thenN ?_
    refine C.ret ?_
    refine X.thenR ?_
    refine X.blkR ?_
    refine X.thenR ?_
    refine X.thenR ?_
    refine X.blkR ?_
    refine X.thenR ?_
    rotate_left
    refine St.get h rfl rfl rfl (G.pickF rfl rfl rfl) fun a h => ?_
    refine wpl_nil ?_
    refine X.thenN ?_
    refine St.condF h rfl ?_
    refine C.skip ?_
    refine X.thenN ?_
    refine C.seq ?_
    refine C.region ?_
    refine St.get h rfl rfl rfl (G.fadr 1 rfl rfl Try.underlying80 rfl rfl Try.sizeOf3) fun a h => ?_
    refine St.get h rfl rfl rfl (G.ld 0 1 rfl rfl rfl rfl rfl Try.isAgg3) fun a h => ?_
    refine St.get h rfl rfl rfl (G.conv rfl rfl (B.cvtn Try.underlying3 Try.underlying22 (wrap_u64 (by omega) (by omega)))) fun a h => ?_
    rotate_left
    · rw [hbad (fun hn => by unfold okC at hn; omega)]
      replace h := h.nil encU8 5
      replace h := h.sel [0] rfl
      replace h := h.conv (sl' := _) (L' := [_]) rfl rfl
      exact h.ret2 Try.results18 rfl rfl (Ent.refl _) (⟨none, 0, rfl, rfl⟩)
    · rw [hbad (fun hn => by unfold okC at hn; omega)]
      replace h := h.nil encU8 5
      replace h := h.sel [0] rfl
      replace h := h.conv (sl' := _) (L' := [_]) rfl rfl
      exact h.ret2 Try.results18 rfl rfl (Ent.refl _) (⟨none, 0, rfl, rfl⟩)
    · rw [hbad (fun hn => by unfold okC at hn; omega)]
      replace h := h.nil encU8 5
      replace h := h.sel [0] rfl
      replace h := h.conv (sl' := _) (L' := [_]) rfl rfl
      exact h.ret2 Try.results18 rfl rfl (Ent.refl _) (⟨none, 0, rfl, rfl⟩)
    · refine St.call h [] rfl (Ro.nil _) ((oPut_spec x.key (by omega) (by omega))) rfl rfl rfl Try.call53 rfl rfl fun v L a w hp h => ?_
      obtain ⟨A2, c2, rfl, rfl⟩ := hp
      replace h := h.conv (sl' := _) (L' := [_, cells _ _ [_, _, _], _, _]) rfl rfl
      refine St.get h rfl rfl rfl (G.move rfl rfl) fun a h => ?_
      refine St.get h rfl rfl rfl (G.extract rfl rfl rfl) fun a h => ?_
      refine St.get h rfl rfl rfl (G.extract rfl rfl rfl) fun a h => ?_
      refine St.get h rfl rfl rfl (G.assign rfl rfl) fun a h => ?_
      refine St.get h rfl rfl rfl (G.assign rfl rfl) fun a h => ?_
      refine wpl_nil ?_
      refine X.thenN ?_
      refine C.seq ?_
      refine C.region ?_
      refine St.get h rfl rfl rfl (G.fadr 2 rfl rfl Try.underlying80 rfl rfl Try.sizeOf22) fun a h => ?_
      refine St.get h rfl rfl rfl (G.ld 1 2 rfl rfl rfl rfl rfl Try.isAgg22) fun a h => ?_
      refine St.call h [] rfl (Ro.nil _) ((oPut_spec x.val f5 f6)) rfl rfl rfl Try.call53 rfl rfl fun v L a w hp h => ?_
      obtain ⟨A3, c3, rfl, rfl⟩ := hp
      replace h := h.conv (sl' := _) (L' := [_, _, cells _ _ [_, _, _], _, _]) rfl rfl
      refine St.get h rfl rfl rfl (G.move rfl rfl) fun a h => ?_
      refine St.get h rfl rfl rfl (G.extract rfl rfl rfl) fun a h => ?_
      refine St.get h rfl rfl rfl (G.extract rfl rfl rfl) fun a h => ?_
      refine St.get h rfl rfl rfl (G.assign rfl rfl) fun a h => ?_
      refine St.get h rfl rfl rfl (G.assign rfl rfl) fun a h => ?_
      refine wpl_nil ?_
      refine X.thenN ?_
      refine C.region ?_
      refine St.get h rfl rfl rfl (G.move rfl rfl) fun a h => ?_
      refine St.get h rfl rfl rfl (G.fadr 0 rfl rfl Try.underlying80 rfl rfl Try.sizeOf3) fun a h => ?_
      refine St.get h rfl rfl rfl (G.ld 2 0 rfl rfl rfl rfl rfl Try.isAgg3) fun a h => ?_
      refine St.get h rfl rfl rfl (G.conv rfl rfl (B.cvtn Try.underlying3 Try.underlying5 (wrap_u8 (by omega) (by omega)))) fun a h => ?_
      have l1 := octs_len 8 x.key
      have l2 := octs_len 8 x.val
      refine St.bslice h (encU8) ([x.kind]) rfl rfl Try.underlying47 Try.sizeOf5 Try.zeroValue5 rfl rfl ⟨rfl, rfl, trivial⟩ rfl rfl rfl fun b2 a w h => ?_
      skip
      refine St.append h _ 4 rfl (Ro.cons 0 rfl (ownl_ro _ _ _ _ _) (Ro.nil _)) rfl rfl rfl (by first | rfl | omega | simp) (by first | rfl | omega | simp) Try.underlying47 Try.typeInfo5 rfl rfl rfl 1 rfl (by (try simp only [List.length_append, List.length_cons, List.length_nil, List.length_map, List.length_take]); omega) (by (try simp only [List.length_append, List.length_cons, List.length_nil, List.length_map, List.length_take]); omega) rfl rfl rfl fun A1 c1 a w hnil h => ?_
      replace h := h.conv (sl' := _) (L' := [_, _, _, _, cells _ _ [_, _, _], _]) rfl rfl
      refine St.get h rfl rfl rfl (G.move rfl rfl) fun a h => ?_
      refine St.append h _ 0 rfl (Ro.cons 2 rfl (ownl_ro _ _ _ _ _) (Ro.nil _)) rfl rfl rfl (by first | rfl | omega | simp) (by first | rfl | omega | simp) Try.underlying47 Try.typeInfo5 rfl rfl rfl 1 rfl (by (try simp only [List.length_append, List.length_cons, List.length_nil, List.length_map, List.length_take]); omega) (by (try simp only [List.length_append, List.length_cons, List.length_nil, List.length_map, List.length_take]); omega) rfl rfl rfl fun A4 c4 a w hnil h => ?_
      replace h := h.conv (sl' := _) (L' := [_, _, _, _, cells _ _ [_, _, _], _]) rfl rfl
      refine St.get h rfl rfl rfl (G.move rfl rfl) fun a h => ?_
      refine St.append h _ 0 rfl (Ro.cons 1 rfl (ownl_ro _ _ _ _ _) (Ro.nil _)) rfl rfl rfl (by first | rfl | omega | simp) (by first | rfl | omega | simp) Try.underlying47 Try.typeInfo5 rfl rfl rfl 1 rfl (by (try simp only [List.length_append, List.length_cons, List.length_nil, List.length_map, List.length_take]); omega) (by (try simp only [List.length_append, List.length_cons, List.length_nil, List.length_map, List.length_take]); omega) rfl rfl rfl fun A5 c5 a w hnil h => ?_
      replace h := h.conv (sl' := _) (L' := [_, _, _, _, cells _ _ [_, _, _], _]) rfl rfl
      refine St.get h rfl rfl rfl (G.assign rfl rfl) fun a h => ?_
      refine wpl_nil ?_
      refine X.blkN ?_
      refine X.thenN ?_
      refine C.region ?_
      refine St.get h rfl rfl rfl (G.bin rfl rfl rfl (B.addi (by omega) (by omega))) fun a h => ?_
      refine St.get h rfl rfl rfl (G.move rfl rfl) fun a h => ?_
      refine wpl_nil ?_
      refine X.thenN ?_
      have hr : (l.take i).flatMap bytesC ++ [x.kind] ++ octs 8 x.key ++ octs 8 x.val = (l.take (i + 1)).flatMap bytesC := by rw [take_snoc hx, List.flatMap_append]; simp [bytesC]
      have hl3 : ((l.take (i + 1)).flatMap bytesC).length = 17 * (i + 1) := by rw [flat_len, List.length_take]; omega
      rw [hr, hl3] at h
      replace h := h.sel [0, 5] rfl
      replace h := h.conv (sl' := _) (L' := [_, _]) rfl rfl
      exact ⟨m - 1, by omega, i + 1, A5, c5, by omega, fun y hy => by
        rw [take_snoc hx] at hy
        rcases List.mem_append.1 hy with hy | hy
        · exact hok y hy
        · rw [List.mem_singleton.1 hy]; unfold okC; omega, h.sub ⟨rfl, rfl, rfl, rfl, trivial⟩⟩
  · refine C.seq ?_
    refine C.region ?_
    refine St.get h rfl rfl rfl (G.bin rfl rfl rfl (B.lssF (by omega))) fun a h => ?_
    refine wpl_nil ?_
    refine X.thenN ?_
    refine C.seq ?_
    refine St.condF h rfl ?_
    refine C.exit ?_
    refine X.thenE ?_
    refine X.thenE ?_
    refine X.blkE ?_
    refine X.thenN ?_
    refine C.seq ?_
    refine C.region ?_
    refine St.get h rfl rfl rfl (G.move rfl rfl) fun a h => ?_
    refine St.get h rfl rfl rfl (G.assign rfl rfl) fun a h => ?_
    refine St.get h rfl rfl rfl (G.assign rfl rfl) fun a h => ?_
    refine wpl_nil ?_
    refine X.thenN ?_
    refine C.ret ?_
    have e : writeM l = (l.flatMap bytesC, 0) := by
      unfold writeM
      rw [if_neg (by omega), if_pos (by rw [List.take_of_length_le (by omega)] at hok; exact hok)]
    have hln : (l.flatMap bytesC).length = 17 * i := by rw [flat_len]; omega
    rw [List.take_of_length_le (by omega), ← hln] at h
    rw [e]
    replace h := h.sel [0] rfl
    replace h := h.conv (sl' := _) (L' := [_]) rfl rfl
    exact h.ret2 Try.results18 rfl rfl (Ent.refl _) (⟨_, _, rfl, rfl⟩)
theorem rWrite_spec (g : Option Addr) (c : Nat) (l : List Ch) (hl : l.length ≤ 200) (hf : ∀ x ∈ l, ChFits x) : Meets Try.prog 19 #[rlv g l.length c] [rdl encCh g l]
    (fun u L => ∃ A k, u = .tuple #[rlv A (writeM l).1.length k, .int .i64 (writeM l).2] ∧ L = [ownl encU8 5 A k (writeM l).1]) := by
  refine Meets.of_code Try.func19 rfl Try.ntmps19 rfl fun w0 S R a h => ?_
  refine C.seq ?_
  refine C.region ?_
  refine St.get h rfl rfl rfl (G.assign rfl rfl) fun a h => ?_
  refine St.get h rfl rfl rfl (G.assign rfl rfl) fun a h => ?_
  refine wpl_nil ?_
  refine X.thenN ?_
  refine C.seq ?_
  refine C.seq ?_
  refine C.region ?_
  refine St.get h rfl rfl rfl (G.move rfl rfl) fun a h => ?_
  refine St.get h rfl rfl rfl (G.lens rfl rfl Try.underlying23) fun a h => ?_
  refine St.getP h rfl rfl rfl (G.bin rfl rfl rfl B.gtr) (fun hc a h => ?_) (fun hc a h => ?_)
  refine wpl_nil ?_
  refine X.thenN ?_
  refine St.condT h rfl ?_
  refine C.seq ?_
  refine C.region ?_
  refine St.get h rfl rfl rfl (G.assign rfl rfl) fun a h => ?_
  refine St.get h rfl rfl rfl (G.assign rfl rfl) fun a h => ?_
  refine wpl_nil ?_
  refine X.thenN ?_
  refine C.ret ?_
  refine X.thenR ?_
  rotate_left
  refine wpl_nil ?_
  refine X.thenN ?_
  refine St.condF h rfl ?_
  refine C.skip ?_
  refine X.thenN ?_
  refine C.seq ?_
  refine C.region ?_
  refine St.get h rfl rfl rfl (G.assign rfl rfl) fun a h => ?_
  refine wpl_nil ?_
  refine X.thenN ?_
  refine C.seq ?_
  refine C.seq ?_
  refine C.region ?_
  refine St.get h rfl rfl rfl (G.assign rfl rfl) fun a h => ?_
  refine wpl_nil ?_
  refine X.thenN ?_
  refine C.block ?_
  rotate_left
  · have e : writeM l = ([], 2) := if_pos (by omega)
    rw [e]
    replace h := h.nil encU8 5
    replace h := h.sel [0] rfl
    replace h := h.conv (sl' := _) (L' := [_]) rfl rfl
    exact h.ret2 Try.results19 rfl rfl (Ent.refl _) (⟨none, 0, rfl, rfl⟩)
  replace h := h.nil encU8 5
  refine C.loop (fun m a w => ∃ (i : Nat) (A : Option Addr) (k : Nat), i + m = l.length ∧ (∀ x ∈ l.take i, okC x) ∧ St w0 S R 63 [(4, rlv A (17 * i) k), (0, rlv g l.length c), (5, .int .i64 i)]
    [ownl encU8 5 A k ((l.take i).flatMap bytesC), rdl encCh g l] a w) l.length ⟨0, none, 0, by omega, by simp, h.sub ⟨rfl, rfl, rfl, trivial⟩⟩ ?_
  rintro m a w ⟨i, A, k, hi, hok, h⟩
  by_cases hlt : i < l.length
  · obtain ⟨x, hx⟩ : ∃ x, l[i]? = some x := ⟨_, List.getElem?_eq_getElem hlt⟩
    have hx1 : l[(i : Int).toNat]? = some x := by simp [hx]
    have hm := List.mem_of_getElem? hx
    obtain ⟨⟨f1, f2⟩, ⟨f3, f4⟩, f5, f6⟩ := hf x hm
    have hbad : ¬ okC x → writeM l = ([], 30) := fun hn => by unfold writeM; rw [if_neg (by omega), if_neg fun ha => hn (ha x hm)]
    have hln : ((l.take i).flatMap bytesC).length = 17 * i := by rw [flat_len, List.length_take]; omega
    refine C.seq ?_
    refine C.seq ?_
    refine C.region ?_
    refine St.get h rfl rfl rfl (G.move rfl rfl) fun a h => ?_
    refine St.get h rfl rfl rfl (G.move rfl rfl) fun a h => ?_
    refine St.get h rfl rfl rfl (G.lens rfl rfl Try.underlying23) fun a h => ?_
    refine St.get h rfl rfl rfl (G.bin rfl rfl rfl (B.lssT (by omega))) fun a h => ?_
    refine wpl_nil ?_
    refine X.thenN ?_
    refine St.condT h rfl ?_
    refine C.skip ?_
    refine X.thenN ?_
    refine C.seq ?_
    refine C.block ?_
    refine C.seq ?_
    refine C.region ?_
    refine St.get h rfl rfl rfl (G.move rfl rfl) fun a h => ?_
    refine St.get h rfl rfl rfl (G.move rfl rfl) fun a h => ?_
    refine St.get h rfl rfl rfl (G.idxr _ 1 rfl rfl rfl rfl (by omega) (by omega) (by omega) Try.underlying23 Try.sizeOf80) fun a h => ?_
    refine St.get h rfl rfl rfl (G.ldea _ 1 rfl (by assumption) rfl rfl rfl rfl Try.isAgg80 Try.sizeOf80) fun a h => ?_
    replace h := h.conv (sl' := (_, .agg #[_, _, _]) :: _) (L' := _) rfl rfl
    refine St.alloc h Try.zeroValue80 rfl rfl rfl rfl fun b1 a w h => ?_
    replace h := h.conv (sl' := _) (L' := [cells _ _ [_, _, _], _, _]) rfl rfl
    refine St.put h rfl rfl (U.sta 0 0 rfl rfl rfl rfl rfl rfl (by simp [Value.oneCell']) Try.sizeOf80 rfl) fun a w h => ?_
    replace h := h.conv (sl' := _) (L' := [cells _ _ [_, _, _], _, _]) rfl rfl
    refine wpl_nil ?_
    refine X.thenN ?_
    refine C.seq ?_
    refine C.seq ?_
    refine C.region ?_
    refine St.get h rfl rfl rfl (G.fadr 0 rfl rfl Try.underlying80 rfl rfl Try.sizeOf3) fun a h => ?_
    refine St.get h rfl rfl rfl (G.ld 0 0 rfl rfl rfl rfl rfl Try.isAgg3) fun a h => ?_
    refine St.getP h rfl rfl rfl (G.bin rfl rfl rfl B.lss) (fun hc1 a h => ?_) (fun hc1 a h => ?_)
    refine St.get h rfl rfl rfl (G.move rfl rfl) fun a h => ?_
    refine St.guard_no h rfl rfl rfl rfl rfl (by decide) rfl rfl fun a h => ?_
    refine St.guard_no h rfl rfl rfl rfl rfl (by decide) rfl rfl fun a h => ?_
    refine St.guard_no h rfl rfl rfl rfl rfl (by decide) rfl rfl fun a h => ?_
    refine St.get h rfl rfl rfl (G.pickT rfl rfl rfl) fun a h => ?_
    refine St.get h rfl rfl rfl (G.move rfl rfl) fun a h => ?_
    refine St.guard_no h rfl rfl rfl rfl rfl (by decide) rfl rfl fun a h => ?_
    refine St.guard_no h rfl rfl rfl rfl rfl (by decide) rfl rfl fun a h => ?_
    refine St.guard_no h rfl rfl rfl rfl rfl (by decide) rfl rfl fun a h => ?_
    refine St.get h rfl rfl rfl (G.pickT rfl rfl rfl) fun a h => ?_
    refine wpl_nil ?_
    refine X.thenN ?_
    refine St.condT h rfl ?_
    refine C.seq ?_
    refine C.region ?_
    refine St.get h rfl rfl rfl (G.assign rfl rfl) fun a h => ?_
    refine St.get h rfl rfl rfl (G.assign rfl rfl) fun a h => ?_
    refine wpl_nil ?_
    refine X.thenN ?_
    refine C.ret ?_
    refine X.thenR ?_
    refine X.blkR ?_
    refine X.thenR ?_
    refine X.thenR ?_
    refine X.blkR ?_
    refine X.thenR ?_
    rotate_left
    refine St.get h rfl rfl rfl (G.move rfl rfl) fun a h => ?_
    refine St.guard_yes h rfl rfl rfl rfl rfl ?_
    refine St.get h rfl rfl rfl (G.fadr 0 rfl rfl Try.underlying80 rfl rfl Try.sizeOf3) fun a h => ?_
    refine St.guard_yes h rfl rfl rfl rfl rfl ?_
    refine St.get h rfl rfl rfl (G.ld 0 0 rfl rfl rfl rfl rfl Try.isAgg3) fun a h => ?_
    refine St.guard_yes h rfl rfl rfl rfl rfl ?_
    refine St.getP h rfl rfl rfl (G.bin rfl rfl rfl B.gtr) (fun hc2 a h => ?_) (fun hc2 a h => ?_)
    refine St.get h rfl rfl rfl (G.pickF rfl rfl rfl) fun a h => ?_
    refine St.get h rfl rfl rfl (G.move rfl rfl) fun a h => ?_
    refine St.guard_no h rfl rfl rfl rfl rfl (by decide) rfl rfl fun a h => ?_
    refine St.guard_no h rfl rfl rfl rfl rfl (by decide) rfl rfl fun a h => ?_
    refine St.guard_no h rfl rfl rfl rfl rfl (by decide) rfl rfl fun a h => ?_
    refine St.get h rfl rfl rfl (G.pickT rfl rfl rfl) fun a h => ?_
    refine wpl_nil ?_
    refine X.thenN ?_
    refine St.condT h rfl ?_
    refine C.seq ?_
    refine C.region ?_
    refine St.get h rfl rfl rfl (G.assign rfl rfl) fun a h => ?_
    refine St.get h rfl rfl rfl (G.assign rfl rfl) fun a h => ?_
    refine wpl_nil ?_
    refine X.thenN ?_
    refine C.ret ?_
    refine X.thenR ?_
    refine X.blkR ?_
    refine X.thenR ?_
    refine X.thenR ?_
    refine X.blkR ?_
    refine X.thenR ?_
    rotate_left
    refine St.get h rfl rfl rfl (G.pickF rfl rfl rfl) fun a h => ?_
    refine St.get h rfl rfl rfl (G.move rfl rfl) fun a h => ?_
    refine St.guard_yes h rfl rfl rfl rfl rfl ?_
    refine St.get h rfl rfl rfl (G.fadr 1 rfl rfl Try.underlying80 rfl rfl Try.sizeOf3) fun a h => ?_
    refine St.guard_yes h rfl rfl rfl rfl rfl ?_
    refine St.get h rfl rfl rfl (G.ld 0 1 rfl rfl rfl rfl rfl Try.isAgg3) fun a h => ?_
    refine St.guard_yes h rfl rfl rfl rfl rfl ?_
    refine St.getP h rfl rfl rfl (G.bin rfl rfl rfl B.lss) (fun hc3 a h => ?_) (fun hc3 a h => ?_)
    refine St.get h rfl rfl rfl (G.pickF rfl rfl rfl) fun a h => ?_
    refine wpl_nil ?_
    refine X.thenN ?_
    refine St.condT h rfl ?_
    refine C.seq ?_
    refine C.region ?_
    refine St.get h rfl rfl rfl (G.assign rfl rfl) fun a h => ?_
    refine St.get h rfl rfl rfl (G.assign rfl rfl) fun a h => ?_
    refine wpl_nil ?_
    refine X.thenN ?_
    refine C.ret ?_
    refine X.thenR ?_
    refine X.blkR ?_
    refine X.thenR ?_
    refine X.thenR ?_
    refine X.blkR ?_
    refine X.thenR ?_
    rotate_left
    refine St.get h rfl rfl rfl (G.pickF rfl rfl rfl) fun a h => ?_
    refine wpl_nil ?_
    refine X.thenN ?_
    refine St.condF h rfl ?_
    refine C.skip ?_
    refine X.thenN ?_
    refine C.seq ?_
    refine C.region ?_
    refine St.get h rfl rfl rfl (G.fadr 1 rfl rfl Try.underlying80 rfl rfl Try.sizeOf3) fun a h => ?_
    refine St.get h rfl rfl rfl (G.ld 0 1 rfl rfl rfl rfl rfl Try.isAgg3) fun a h => ?_
    refine St.get h rfl rfl rfl (G.conv rfl rfl (B.cvtn Try.underlying3 Try.underlying22 (wrap_u64 (by omega) (by omega)))) fun a h => ?_
    rotate_left
    · rw [hbad (fun hn => by unfold okC at hn; omega)]
      replace h := h.nil encU8 5
      replace h := h.sel [0] rfl
      replace h := h.conv (sl' := _) (L' := [_]) rfl rfl
      exact h.ret2 Try.results19 rfl rfl (Ent.refl _) (⟨none, 0, rfl, rfl⟩)
    · rw [hbad (fun hn => by unfold okC at hn; omega)]
      replace h := h.nil encU8 5
      replace h := h.sel [0] rfl
      replace h := h.conv (sl' := _) (L' := [_]) rfl rfl
      exact h.ret2 Try.results19 rfl rfl (Ent.refl _) (⟨none, 0, rfl, rfl⟩)
    · rw [hbad (fun hn => by unfold okC at hn; omega)]
      replace h := h.nil encU8 5
      replace h := h.sel [0] rfl
      replace h := h.conv (sl' := _) (L' := [_]) rfl rfl
      exact h.ret2 Try.results19 rfl rfl (Ent.refl _) (⟨none, 0, rfl, rfl⟩)
    · refine St.call h [] rfl (Ro.nil _) ((rPut_spec x.key (by omega) (by omega))) rfl rfl rfl Try.call54 rfl rfl fun v L a w hp h => ?_
      obtain ⟨A2, c2, rfl, rfl⟩ := hp
      replace h := h.conv (sl' := _) (L' := [_, cells _ _ [_, _, _], _, _]) rfl rfl
      refine St.get h rfl rfl rfl (G.move rfl rfl) fun a h => ?_
      refine St.get h rfl rfl rfl (G.extract rfl rfl rfl) fun a h => ?_
      refine St.get h rfl rfl rfl (G.extract rfl rfl rfl) fun a h => ?_
      refine St.get h rfl rfl rfl (G.assign rfl rfl) fun a h => ?_
      refine St.get h rfl rfl rfl (G.assign rfl rfl) fun a h => ?_
      refine wpl_nil ?_
      refine X.thenN ?_
      refine C.seq ?_
      refine C.region ?_
      refine St.get h rfl rfl rfl (G.fadr 2 rfl rfl Try.underlying80 rfl rfl Try.sizeOf22) fun a h => ?_
      refine St.get h rfl rfl rfl (G.ld 1 2 rfl rfl rfl rfl rfl Try.isAgg22) fun a h => ?_
      refine St.call h [] rfl (Ro.nil _) ((rPut_spec x.val f5 f6)) rfl rfl rfl Try.call54 rfl rfl fun v L a w hp h => ?_
      obtain ⟨A3, c3, rfl, rfl⟩ := hp
      replace h := h.conv (sl' := _) (L' := [_, _, cells _ _ [_, _, _], _, _]) rfl rfl
      refine St.get h rfl rfl rfl (G.move rfl rfl) fun a h => ?_
      refine St.get h rfl rfl rfl (G.extract rfl rfl rfl) fun a h => ?_
      refine St.get h rfl rfl rfl (G.extract rfl rfl rfl) fun a h => ?_
      refine St.get h rfl rfl rfl (G.assign rfl rfl) fun a h => ?_
      refine St.get h rfl rfl rfl (G.assign rfl rfl) fun a h => ?_
      refine wpl_nil ?_
      refine X.thenN ?_
      refine C.seq ?_
      refine C.region ?_
      refine St.get h rfl rfl rfl (G.move rfl rfl) fun a h => ?_
      refine St.get h rfl rfl rfl (G.fadr 0 rfl rfl Try.underlying80 rfl rfl Try.sizeOf3) fun a h => ?_
      refine St.get h rfl rfl rfl (G.ld 2 0 rfl rfl rfl rfl rfl Try.isAgg3) fun a h => ?_
      refine St.get h rfl rfl rfl (G.conv rfl rfl (B.cvtn Try.underlying3 Try.underlying5 (wrap_u8 (by omega) (by omega)))) fun a h => ?_
      have l1 := octs_len 8 x.key
      have l2 := octs_len 8 x.val
      refine St.bslice h (encU8) ([x.kind]) rfl rfl Try.underlying47 Try.sizeOf5 Try.zeroValue5 rfl rfl ⟨rfl, rfl, trivial⟩ rfl rfl rfl fun b2 a w h => ?_
      skip
      refine St.append h _ 4 rfl (Ro.cons 0 rfl (ownl_ro _ _ _ _ _) (Ro.nil _)) rfl rfl rfl (by first | rfl | omega | simp) (by first | rfl | omega | simp) Try.underlying47 Try.typeInfo5 rfl rfl rfl 1 rfl (by (try simp only [List.length_append, List.length_cons, List.length_nil, List.length_map, List.length_take]); omega) (by (try simp only [List.length_append, List.length_cons, List.length_nil, List.length_map, List.length_take]); omega) rfl rfl rfl fun A1 c1 a w hnil h => ?_
      replace h := h.conv (sl' := _) (L' := [_, _, _, _, cells _ _ [_, _, _], _]) rfl rfl
      refine St.get h rfl rfl rfl (G.assign rfl rfl) fun a h => ?_
      refine wpl_nil ?_
      refine X.thenN ?_
      refine C.seq ?_
      refine C.region ?_
      refine St.get h rfl rfl rfl (G.move rfl rfl) fun a h => ?_
      refine St.get h rfl rfl rfl (G.move rfl rfl) fun a h => ?_
      refine St.append h _ 0 rfl (Ro.cons 2 rfl (ownl_ro _ _ _ _ _) (Ro.nil _)) rfl rfl rfl (by first | rfl | omega | simp) (by first | rfl | omega | simp) Try.underlying47 Try.typeInfo5 rfl rfl rfl 1 rfl (by (try simp only [List.length_append, List.length_cons, List.length_nil, List.length_map, List.length_take]); omega) (by (try simp only [List.length_append, List.length_cons, List.length_nil, List.length_map, List.length_take]); omega) rfl rfl rfl fun A4 c4 a w hnil h => ?_
      replace h := h.conv (sl' := _) (L' := [_, _, _, _, cells _ _ [_, _, _], _]) rfl rfl
      refine St.get h rfl rfl rfl (G.assign rfl rfl) fun a h => ?_
      refine wpl_nil ?_
      refine X.thenN ?_
      refine C.region ?_
      refine St.get h rfl rfl rfl (G.move rfl rfl) fun a h => ?_
      refine St.get h rfl rfl rfl (G.move rfl rfl) fun a h => ?_
      refine St.append h _ 0 rfl (Ro.cons 1 rfl (ownl_ro _ _ _ _ _) (Ro.nil _)) rfl rfl rfl (by first | rfl | omega | simp) (by first | rfl | omega | simp) Try.underlying47 Try.typeInfo5 rfl rfl rfl 1 rfl (by (try simp only [List.length_append, List.length_cons, List.length_nil, List.length_map, List.length_take]); omega) (by (try simp only [List.length_append, List.length_cons, List.length_nil, List.length_map, List.length_take]); omega) rfl rfl rfl fun A5 c5 a w hnil h => ?_
      replace h := h.conv (sl' := _) (L' := [_, _, _, _, cells _ _ [_, _, _], _]) rfl rfl
      refine St.get h rfl rfl rfl (G.assign rfl rfl) fun a h => ?_
      refine wpl_nil ?_
      refine X.blkN ?_
      refine X.thenN ?_
      refine C.region ?_
      refine St.get h rfl rfl rfl (G.move rfl rfl) fun a h => ?_
      refine St.get h rfl rfl rfl (G.bin rfl rfl rfl (B.addi (by omega) (by omega))) fun a h => ?_
      refine St.get h rfl rfl rfl (G.assign rfl rfl) fun a h => ?_
      refine wpl_nil ?_
      refine X.thenN ?_
      have hr : (l.take i).flatMap bytesC ++ [x.kind] ++ octs 8 x.key ++ octs 8 x.val = (l.take (i + 1)).flatMap bytesC := by rw [take_snoc hx, List.flatMap_append]; simp [bytesC]
      have hl3 : ((l.take (i + 1)).flatMap bytesC).length = 17 * (i + 1) := by rw [flat_len, List.length_take]; omega
      rw [hr, hl3] at h
      replace h := h.sel [0, 5] rfl
      replace h := h.conv (sl' := _) (L' := [_, _]) rfl rfl
      exact ⟨m - 1, by omega, i + 1, A5, c5, by omega, fun y hy => by
        rw [take_snoc hx] at hy
        rcases List.mem_append.1 hy with hy | hy
        · exact hok y hy
        · rw [List.mem_singleton.1 hy]; unfold okC; omega, h.sub ⟨rfl, rfl, rfl, trivial⟩⟩
  · refine C.seq ?_
    refine C.seq ?_
    refine C.region ?_
    refine St.get h rfl rfl rfl (G.move rfl rfl) fun a h => ?_
    refine St.get h rfl rfl rfl (G.move rfl rfl) fun a h => ?_
    refine St.get h rfl rfl rfl (G.lens rfl rfl Try.underlying23) fun a h => ?_
    refine St.get h rfl rfl rfl (G.bin rfl rfl rfl (B.lssF (by omega))) fun a h => ?_
    refine wpl_nil ?_
    refine X.thenN ?_
    refine St.condF h rfl ?_
    refine C.exit ?_
    refine X.thenE ?_
    refine X.thenE ?_
    refine X.blkE ?_
    refine X.thenN ?_
    refine C.seq ?_
    refine C.region ?_
    refine St.get h rfl rfl rfl (G.move rfl rfl) fun a h => ?_
    refine St.get h rfl rfl rfl (G.assign rfl rfl) fun a h => ?_
    refine St.get h rfl rfl rfl (G.assign rfl rfl) fun a h => ?_
    refine wpl_nil ?_
    refine X.thenN ?_
    refine C.ret ?_
    have e : writeM l = (l.flatMap bytesC, 0) := by
      unfold writeM
      rw [if_neg (by omega), if_pos (by rw [List.take_of_length_le (by omega)] at hok; exact hok)]
    have hln : (l.flatMap bytesC).length = 17 * i := by rw [flat_len]; omega
    rw [List.take_of_length_le (by omega), ← hln] at h
    rw [e]
    replace h := h.sel [0] rfl
    replace h := h.conv (sl' := _) (L' := [_]) rfl rfl
    exact h.ret2 Try.results19 rfl rfl (Ent.refl _) (⟨_, _, rfl, rfl⟩)
end Go.Proofs.Ytllhegccpknncaa
