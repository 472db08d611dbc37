/-
  Bytes as changes: the document's Read.
-/
import Derived.Test.YtllhegccpknncaaOr
import Derived.Test.YtllhegccpknncaaSeat
set_option linter.unusedVariables false
set_option linter.unusedSimpArgs false
set_option linter.unusedSectionVars false
set_option maxRecDepth 8000
namespace Go.Proofs.Ytllhegccpknncaa
open Go.Tr
theorem rRead_spec (A : Option Addr) (c : Nat) (bs : List Int) (hl : bs.length ≤ 4000) (hcl : bs.length ≤ c) (hcm : c ≤ 9223372036854775807) (hb : ∀ x ∈ bs, 0 ≤ x ∧ x < 256) : Meets Try.prog 21 #[rlv A bs.length c] [rdl encU8 A bs]
    (fun u L => ∃ A k, u = .tuple #[rlv A (readM bs).1.length k, .int .i64 (readM bs).2] ∧ L = [ownl encCh 80 A k (readM bs).1]) := by
  refine Meets.of_code Try.func21 rfl Try.ntmps21 rfl fun w0 S R a h => ?_
  have em : (bs.length : Int).tmod 17 = ((bs.length % 17 : Nat) : Int) := by rw [Int.tmod_eq_emod_of_nonneg (by omega)]; omega
  have eq1 : IntKind.i64.wrap ((bs.length : Int).tdiv 17) = ((bs.length / 17 : Nat) : Int) := by
    rw [Int.tdiv_eq_ediv_of_nonneg (by omega), wrap_i64 (by omega) (by omega)]; omega
  by_cases h17 : bs.length % 17 ≠ 0
  · have e : readM bs = ([], 11) := if_pos h17
    rw [e]
    replace h := h.nil encCh 80
    refine C.seq ?_
    refine C.region ?_
    refine St.get h rfl rfl rfl (G.assign rfl rfl) fun a h => ?_
    refine St.get h rfl rfl rfl (G.assign rfl rfl) fun a h => ?_
    refine wpl_nil ?_
    refine X.thenN ?_
    refine C.seq ?_
    refine C.seq ?_
    refine C.region ?_
    refine St.get h rfl rfl rfl (G.move rfl rfl) fun a h => ?_
    refine St.get h rfl rfl rfl (G.lens rfl rfl Try.underlying47) fun a h => ?_
    refine St.get h rfl rfl rfl (G.bin rfl rfl rfl (B.rem (by omega))) fun a h => ?_
    refine St.get h rfl rfl rfl (G.bin rfl rfl rfl (B.gtrT (by omega))) fun a h => ?_
    refine wpl_nil ?_
    refine X.thenN ?_
    refine St.condT h rfl ?_
    refine C.seq ?_
    refine C.region ?_
    refine St.get h rfl rfl rfl (G.assign rfl rfl) fun a h => ?_
    refine St.get h rfl rfl rfl (G.assign rfl rfl) fun a h => ?_
    refine wpl_nil ?_
    refine X.thenN ?_
    refine C.ret ?_
    refine X.thenR ?_
    replace h := h.sel [0] rfl
    replace h := h.conv (sl' := _) (L' := [_]) rfl rfl
    exact h.ret2 Try.results21 rfl rfl (Ent.refl _) (⟨none, 0, rfl, rfl⟩)
  by_cases h816 : 816 < bs.length
  · have e : readM bs = ([], 2) := by unfold readM; rw [if_neg h17, if_pos h816]
    rw [e]
    replace h := h.nil encCh 80
    refine C.seq ?_
    refine C.region ?_
    refine St.get h rfl rfl rfl (G.assign rfl rfl) fun a h => ?_
    refine St.get h rfl rfl rfl (G.assign rfl rfl) fun a h => ?_
    refine wpl_nil ?_
    refine X.thenN ?_
    refine C.seq ?_
    refine C.seq ?_
    refine C.region ?_
    refine St.get h rfl rfl rfl (G.move rfl rfl) fun a h => ?_
    refine St.get h rfl rfl rfl (G.lens rfl rfl Try.underlying47) fun a h => ?_
    refine St.get h rfl rfl rfl (G.bin rfl rfl rfl (B.rem (by omega))) fun a h => ?_
    refine St.get h rfl rfl rfl (G.bin rfl rfl rfl (B.gtrF (by omega))) fun a h => ?_
    refine wpl_nil ?_
    refine X.thenN ?_
    refine St.condF h rfl ?_
    refine C.skip ?_
    refine X.thenN ?_
    refine C.seq ?_
    refine C.seq ?_
    refine C.region ?_
    refine St.get h rfl rfl rfl (G.move rfl rfl) fun a h => ?_
    refine St.get h rfl rfl rfl (G.lens rfl rfl Try.underlying47) fun a h => ?_
    refine St.get h rfl rfl rfl (G.bin rfl rfl rfl (B.quo (by omega))) fun a h => ?_
    refine St.get h rfl rfl rfl (G.bin rfl rfl rfl (B.gtrT (by omega))) fun a h => ?_
    refine wpl_nil ?_
    refine X.thenN ?_
    refine St.condT h rfl ?_
    refine C.seq ?_
    refine C.region ?_
    refine St.get h rfl rfl rfl (G.assign rfl rfl) fun a h => ?_
    refine St.get h rfl rfl rfl (G.assign rfl rfl) fun a h => ?_
    refine wpl_nil ?_
    refine X.thenN ?_
    refine C.ret ?_
    refine X.thenR ?_
    replace h := h.sel [0] rfl
    replace h := h.conv (sl' := _) (L' := [_]) rfl rfl
    exact h.ret2 Try.results21 rfl rfl (Ent.refl _) (⟨none, 0, rfl, rfl⟩)
  have e : readM bs = readO [] (readG (bs.length / 17) bs) := by unfold readM; rw [if_neg h17, if_neg h816]
  rw [e]
  obtain ⟨T, hT⟩ : ∃ x, readO [] (readG (bs.length / 17) bs) = x := ⟨_, rfl⟩
  rw [hT]
  refine C.seq ?_
  refine C.region ?_
  refine St.get h rfl rfl rfl (G.assign rfl rfl) fun a h => ?_
  refine St.get h rfl rfl rfl (G.assign rfl rfl) fun a h => ?_
  refine wpl_nil ?_
  refine X.thenN ?_
  refine C.seq ?_
  refine C.seq ?_
  refine C.region ?_
  refine St.get h rfl rfl rfl (G.move rfl rfl) fun a h => ?_
  refine St.get h rfl rfl rfl (G.lens rfl rfl Try.underlying47) fun a h => ?_
  refine St.get h rfl rfl rfl (G.bin rfl rfl rfl (B.rem (by omega))) fun a h => ?_
  refine St.get h rfl rfl rfl (G.bin rfl rfl rfl (B.gtrF (by omega))) fun a h => ?_
  refine wpl_nil ?_
  refine X.thenN ?_
  refine St.condF h rfl ?_
  refine C.skip ?_
  refine X.thenN ?_
  refine C.seq ?_
  refine C.seq ?_
  refine C.region ?_
  refine St.get h rfl rfl rfl (G.move rfl rfl) fun a h => ?_
  refine St.get h rfl rfl rfl (G.lens rfl rfl Try.underlying47) fun a h => ?_
  refine St.get h rfl rfl rfl (G.bin rfl rfl rfl (B.quo (by omega))) fun a h => ?_
  refine St.get h rfl rfl rfl (G.bin rfl rfl rfl (B.gtrF (by omega))) fun a h => ?_
  refine wpl_nil ?_
  refine X.thenN ?_
  refine St.condF h rfl ?_
  refine C.skip ?_
  refine X.thenN ?_
  refine C.seq ?_
  refine C.region ?_
  refine St.get h rfl rfl rfl (G.assign rfl rfl) fun a h => ?_
  refine wpl_nil ?_
  refine X.thenN ?_
  refine C.seq ?_
  refine C.seq ?_
  refine C.region ?_
  refine St.get h rfl rfl rfl (G.assign rfl rfl) fun a h => ?_
  refine wpl_nil ?_
  refine X.thenN ?_
  refine C.block ?_
  rw [eq1] at h
  skip
  replace h := h.nil encCh 80
  refine C.loop (fun n a w => ∃ (j : Nat) (out : List Ch) (D : Option Addr) (d : Nat), 17 * (j + n) = bs.length ∧ out.length + n ≤ 48 ∧ readO out (readG n (bs.drop (17 * j))) = T ∧
    St w0 S R 73 [(0, rlv A bs.length c), (4, rlv D out.length d), (5, .int .i64 (17 * j : Nat))] [ownl encCh 80 D d out, rdl encU8 A bs] a w) (bs.length / 17) ⟨0, [], none, 0, by omega, by simp; omega, hT, h.sub ⟨rfl, rfl, rfl, trivial⟩⟩ ?_
  rintro n a w ⟨j, out, D, d, hj, hol, hro, h⟩
  rcases n with _ | n
  · rw [readG, readO, List.append_nil] at hro
    subst hro
    refine C.seq ?_
    refine C.seq ?_
    refine C.region ?_
    refine St.get h rfl rfl rfl (G.move rfl rfl) fun a h => ?_
    refine St.get h rfl rfl rfl (G.move rfl rfl) fun a h => ?_
    refine St.get h rfl rfl rfl (G.lens rfl rfl Try.underlying47) fun a h => ?_
    refine St.get h rfl rfl rfl (G.bin rfl rfl rfl (B.lssF (by omega))) fun a h => ?_
    refine wpl_nil ?_
    refine X.thenN ?_
    refine St.condF h rfl ?_
    refine C.exit ?_
    refine X.thenE ?_
    refine X.thenE ?_
    refine X.blkE ?_
    refine X.thenN ?_
    refine C.seq ?_
    refine C.region ?_
    refine St.get h rfl rfl rfl (G.move rfl rfl) fun a h => ?_
    refine St.get h rfl rfl rfl (G.assign rfl rfl) fun a h => ?_
    refine St.get h rfl rfl rfl (G.assign rfl rfl) fun a h => ?_
    refine wpl_nil ?_
    refine X.thenN ?_
    refine C.ret ?_
    replace h := h.sel [0] rfl
    replace h := h.conv (sl' := _) (L' := [_]) rfl rfl
    exact h.ret2 Try.results21 rfl rfl (Ent.refl _) (⟨_, _, rfl, rfl⟩)
  · obtain ⟨rest, hrest⟩ : ∃ x, bs.drop (17 * j) = x := ⟨_, rfl⟩
    have hrl : rest.length = 17 * (n + 1) := by rw [← hrest, List.length_drop]; omega
    have hrb : ∀ x ∈ rest, 0 ≤ x ∧ x < 256 := fun x hx => hb x (List.mem_of_mem_drop (by rw [hrest]; exact hx))
    obtain ⟨x, hx⟩ : ∃ x, rest[0]? = some x := ⟨_, List.getElem?_eq_getElem (by omega)⟩
    have hx1 : bs[((17 * j : Nat) : Int).toNat]? = some x := by
      rw [← hrest, List.getElem?_drop] at hx
      rw [Int.toNat_natCast]; exact hx
    have hhd : rest.headD 0 = x := by cases rest with | nil => simp at hx | cons y l => simpa using hx
    have hxb := hrb x (List.mem_of_getElem? hx)
    have p1 : ((rest.drop 1).take 8).length = 8 := by simp; omega
    have p2 : ((rest.drop 9).take 8).length = 8 := by simp; omega
    have q1 : ∀ y ∈ (rest.drop 1).take 8, 0 ≤ y ∧ y < 256 := fun y hy => hrb y (List.mem_of_mem_drop (List.mem_of_mem_take hy))
    have q2 : ∀ y ∈ (rest.drop 9).take 8, 0 ≤ y ∧ y < 256 := fun y hy => hrb y (List.mem_of_mem_drop (List.mem_of_mem_take hy))
    obtain ⟨v0, v1⟩ := valO_bound 8 _ p1 q1
    obtain ⟨u0, u1⟩ := valO_bound 8 _ p2 q2
    have d1 : bs.drop (17 * j + 1) = rest.drop 1 := by rw [← hrest, List.drop_drop]
    have d2 : bs.drop (17 * j + 9) = rest.drop 9 := by rw [← hrest, List.drop_drop]
    replace h := h.part 1 encU8 c (17 * j + 1) 8 rfl (by omega) hcl
    replace h := h.part 2 encU8 c (17 * j + 9) 8 rfl (by omega) hcl
    rw [d1, d2] at h
    refine C.seq ?_
    refine C.seq ?_
    refine C.region ?_
    refine St.get h rfl rfl rfl (G.move rfl rfl) fun a h => ?_
    refine St.get h rfl rfl rfl (G.move rfl rfl) fun a h => ?_
    refine St.get h rfl rfl rfl (G.lens rfl rfl Try.underlying47) fun a h => ?_
    refine St.get h rfl rfl rfl (G.bin rfl rfl rfl (B.lssT (by omega))) fun a h => ?_
    refine wpl_nil ?_
    refine X.thenN ?_
    refine St.condT h rfl ?_
    refine C.skip ?_
    refine X.thenN ?_
    refine C.seq ?_
    refine C.block ?_
    refine C.seq ?_
    refine C.region ?_
    refine St.get h rfl rfl rfl (G.move rfl rfl) fun a h => ?_
    refine St.get h rfl rfl rfl (G.move rfl rfl) fun a h => ?_
    refine St.get h rfl rfl rfl (G.bin rfl rfl rfl (B.addi (by omega) (by omega))) fun a h => ?_
    refine St.get h rfl rfl rfl (G.move rfl rfl) fun a h => ?_
    refine St.get h rfl rfl rfl (G.bin rfl rfl rfl (B.addi (by omega) (by omega))) fun a h => ?_
    refine St.get h rfl rfl rfl (G.cut (17 * j + 1) (17 * j + 9) _ rfl rfl Try.underlying47 Try.sizeOf5 ⟨_, _, rfl, by omega⟩ ⟨_, _, rfl, by omega⟩ rfl (by omega) (by omega) (by omega)) fun a h => ?_
    have e8 : 17 * j + 9 - (17 * j + 1) = 8 := by omega
    rw [e8] at h
    refine St.callD h [] rfl (Ro.cons 1 rfl (rdl_ro _ _ _) (Ro.nil _)) ((rGet_spec (cutA A 1 c (17 * j + 1)) (c - (17 * j + 1)) ((rest.drop 1).take 8) p1 q1)) rfl rfl rfl Try.call56 rfl rfl fun a w h => ?_
    replace h := h.conv (sl' := _) (L' := [_, _, _, _]) rfl rfl
    refine St.get h rfl rfl rfl (G.move rfl rfl) fun a h => ?_
    refine St.get h rfl rfl rfl (G.extract rfl rfl rfl) fun a h => ?_
    refine St.get h rfl rfl rfl (G.extract rfl rfl rfl) fun a h => ?_
    refine St.get h rfl rfl rfl (G.assign rfl rfl) fun a h => ?_
    refine St.get h rfl rfl rfl (G.assign rfl rfl) fun a h => ?_
    refine wpl_nil ?_
    refine X.thenN ?_
    refine C.seq ?_
    refine C.region ?_
    refine St.get h rfl rfl rfl (G.move rfl rfl) fun a h => ?_
    refine St.get h rfl rfl rfl (G.move rfl rfl) fun a h => ?_
    refine St.get h rfl rfl rfl (G.bin rfl rfl rfl (B.addi (by omega) (by omega))) fun a h => ?_
    refine St.get h rfl rfl rfl (G.move rfl rfl) fun a h => ?_
    refine St.get h rfl rfl rfl (G.bin rfl rfl rfl (B.addi (by omega) (by omega))) fun a h => ?_
    refine St.get h rfl rfl rfl (G.cut (17 * j + 9) (17 * j + 17) _ rfl rfl Try.underlying47 Try.sizeOf5 ⟨_, _, rfl, by omega⟩ ⟨_, _, rfl, by omega⟩ rfl (by omega) (by omega) (by omega)) fun a h => ?_
    have e9 : 17 * j + 17 - (17 * j + 9) = 8 := by omega
    rw [e9] at h
    refine St.callD h [] rfl (Ro.cons 0 rfl (rdl_ro _ _ _) (Ro.nil _)) ((rGet_spec (cutA A 1 c (17 * j + 9)) (c - (17 * j + 9)) ((rest.drop 9).take 8) p2 q2)) rfl rfl rfl Try.call56 rfl rfl fun a w h => ?_
    replace h := h.conv (sl' := _) (L' := [_, _, _, _]) rfl rfl
    refine St.get h rfl rfl rfl (G.move rfl rfl) fun a h => ?_
    refine St.get h rfl rfl rfl (G.extract rfl rfl rfl) fun a h => ?_
    refine St.get h rfl rfl rfl (G.extract rfl rfl rfl) fun a h => ?_
    refine St.get h rfl rfl rfl (G.assign rfl rfl) fun a h => ?_
    refine St.get h rfl rfl rfl (G.assign rfl rfl) fun a h => ?_
    refine wpl_nil ?_
    refine X.thenN ?_
    refine C.seq ?_
    refine C.seq ?_
    refine C.region ?_
    refine St.get h rfl rfl rfl (G.move rfl rfl) fun a h => ?_
    refine St.get h rfl rfl rfl (G.move rfl rfl) fun a h => ?_
    refine St.get h rfl rfl rfl (G.idxr _ 3 rfl rfl rfl rfl (by omega) (by omega) (by omega) Try.underlying47 Try.sizeOf5) fun a h => ?_
    refine St.get h rfl rfl rfl (G.lde _ 3 0 rfl (by assumption) rfl rfl rfl rfl rfl Try.isAgg5) fun a h => ?_
    refine St.getP h rfl rfl rfl (G.bin rfl rfl rfl B.eql) (fun hc a h => ?_) (fun hc a h => ?_)
    refine St.get h rfl rfl rfl (G.move rfl rfl) fun a h => ?_
    refine St.guard_no h rfl rfl rfl rfl rfl (by decide) rfl rfl fun a h => ?_
    refine St.guard_no h rfl rfl rfl rfl rfl (by decide) rfl rfl fun a h => ?_
    refine St.guard_no h rfl rfl rfl rfl rfl (by decide) rfl rfl fun a h => ?_
    refine St.guard_no h rfl rfl rfl rfl rfl (by decide) rfl rfl fun a h => ?_
    refine St.guard_no h rfl rfl rfl rfl rfl (by decide) rfl rfl fun a h => ?_
    refine St.get h rfl rfl rfl (G.pickT rfl rfl rfl) fun a h => ?_
    refine St.get h rfl rfl rfl (G.move rfl rfl) fun a h => ?_
    refine St.guard_no h rfl rfl rfl rfl rfl (by decide) rfl rfl fun a h => ?_
    refine St.guard_no h rfl rfl rfl rfl rfl (by decide) rfl rfl fun a h => ?_
    refine St.get h rfl rfl rfl (G.pickT rfl rfl rfl) fun a h => ?_
    refine wpl_nil ?_
    refine X.thenN ?_
    refine St.condT h rfl ?_
    refine C.seq ?_
    refine C.region ?_
    refine St.get h rfl rfl rfl (G.assign rfl rfl) fun a h => ?_
    refine St.get h rfl rfl rfl (G.assign rfl rfl) fun a h => ?_
    refine wpl_nil ?_
    refine X.thenN ?_
    refine C.ret ?_
    refine X.thenR ?_
    refine X.blkR ?_
    refine X.thenR ?_
    refine X.thenR ?_
    refine X.blkR ?_
    refine X.thenR ?_
    rotate_left
    refine St.get h rfl rfl rfl (G.move rfl rfl) fun a h => ?_
    refine St.guard_yes h rfl rfl rfl rfl rfl ?_
    refine St.get h rfl rfl rfl (G.move rfl rfl) fun a h => ?_
    refine St.guard_yes h rfl rfl rfl rfl rfl ?_
    refine St.get h rfl rfl rfl (G.move rfl rfl) fun a h => ?_
    refine St.guard_yes h rfl rfl rfl rfl rfl ?_
    refine St.get h rfl rfl rfl (G.idxr _ 3 rfl rfl rfl rfl (by omega) (by omega) (by omega) Try.underlying47 Try.sizeOf5) fun a h => ?_
    refine St.guard_yes h rfl rfl rfl rfl rfl ?_
    refine St.get h rfl rfl rfl (G.lde _ 3 0 rfl (by assumption) rfl rfl rfl rfl rfl Try.isAgg5) fun a h => ?_
    refine St.guard_yes h rfl rfl rfl rfl rfl ?_
    refine St.getP h rfl rfl rfl (G.bin rfl rfl rfl B.gtr) (fun hc1 a h => ?_) (fun hc1 a h => ?_)
    refine St.get h rfl rfl rfl (G.pickF rfl rfl rfl) fun a h => ?_
    refine St.get h rfl rfl rfl (G.move rfl rfl) fun a h => ?_
    refine St.guard_no h rfl rfl rfl rfl rfl (by decide) rfl rfl fun a h => ?_
    refine St.guard_no h rfl rfl rfl rfl rfl (by decide) rfl rfl fun a h => ?_
    refine St.get h rfl rfl rfl (G.pickT rfl rfl rfl) fun a h => ?_
    refine wpl_nil ?_
    refine X.thenN ?_
    refine St.condT h rfl ?_
    refine C.seq ?_
    refine C.region ?_
    refine St.get h rfl rfl rfl (G.assign rfl rfl) fun a h => ?_
    refine St.get h rfl rfl rfl (G.assign rfl rfl) fun a h => ?_
    refine wpl_nil ?_
    refine X.thenN ?_
    refine C.ret ?_
    refine X.thenR ?_
    refine X.blkR ?_
    refine X.thenR ?_
    refine X.thenR ?_
    refine X.blkR ?_
    refine X.thenR ?_
    rotate_left
    refine St.get h rfl rfl rfl (G.pickF rfl rfl rfl) fun a h => ?_
    refine St.get h rfl rfl rfl (G.move rfl rfl) fun a h => ?_
    refine St.guard_yes h rfl rfl rfl rfl rfl ?_
    refine St.get h rfl rfl rfl (G.move rfl rfl) fun a h => ?_
    refine St.guard_yes h rfl rfl rfl rfl rfl ?_
    refine St.getP h rfl rfl rfl (G.bin rfl rfl rfl B.gtr) (fun hc2 a h => ?_) (fun hc2 a h => ?_)
    refine St.get h rfl rfl rfl (G.pickF rfl rfl rfl) fun a h => ?_
    refine wpl_nil ?_
    refine X.thenN ?_
    refine St.condT h rfl ?_
    refine C.seq ?_
    refine C.region ?_
    refine St.get h rfl rfl rfl (G.assign rfl rfl) fun a h => ?_
    refine St.get h rfl rfl rfl (G.assign rfl rfl) fun a h => ?_
    refine wpl_nil ?_
    refine X.thenN ?_
    refine C.ret ?_
    refine X.thenR ?_
    refine X.blkR ?_
    refine X.thenR ?_
    refine X.thenR ?_
    refine X.blkR ?_
    refine X.thenR ?_
    rotate_left
    refine St.get h rfl rfl rfl (G.pickF rfl rfl rfl) fun a h => ?_
    refine wpl_nil ?_
    refine X.thenN ?_
    refine St.condF h rfl ?_
    refine C.skip ?_
    refine X.thenN ?_
    refine C.region ?_
    refine St.get h rfl rfl rfl (G.move rfl rfl) fun a h => ?_
    refine St.get h rfl rfl rfl (G.move rfl rfl) fun a h => ?_
    refine St.get h rfl rfl rfl (G.move rfl rfl) fun a h => ?_
    refine St.get h rfl rfl rfl (G.idxr _ 3 rfl rfl rfl rfl (by omega) (by omega) (by omega) Try.underlying47 Try.sizeOf5) fun a h => ?_
    refine St.get h rfl rfl rfl (G.lde _ 3 0 rfl (by assumption) rfl rfl rfl rfl rfl Try.isAgg5) fun a h => ?_
    refine St.get h rfl rfl rfl (G.conv rfl rfl (B.cvtn Try.underlying5 Try.underlying3 (wrap_i64 (by omega) (by omega)))) fun a h => ?_
    refine St.get h rfl rfl rfl (G.move rfl rfl) fun a h => ?_
    refine St.get h rfl rfl rfl (G.conv rfl rfl (B.cvtn Try.underlying22 Try.underlying3 (wrap_i64 (by omega) (by omega)))) fun a h => ?_
    refine St.get h rfl rfl rfl (G.move rfl rfl) fun a h => ?_
    refine St.get h rfl rfl rfl (G.build [(0, 1), (1, 1), (2, 1)] rfl rfl Try.zeroValue80 Try.underlying80 ⟨rfl, Try.sizeOf3, rfl, Try.sizeOf3, rfl, Try.sizeOf22, trivial⟩ rfl) fun a h => ?_
    replace h := h.conv (sl' := (_, .agg #[.int _ _, .int _ _, .int _ _]) :: _) (L' := _) rfl rfl
    rotate_left
    · rw [hrest, readO_bad (by unfold okD; rw [hhd]; omega)] at hro
      subst hro
      replace h := h.nil encCh 80
      replace h := h.sel [0] rfl
      replace h := h.conv (sl' := _) (L' := [_]) rfl rfl
      exact h.ret2 Try.results21 rfl rfl (Ent.refl _) (⟨none, 0, rfl, rfl⟩)
    · rw [hrest, readO_bad (by unfold okD; rw [hhd]; omega)] at hro
      subst hro
      replace h := h.nil encCh 80
      replace h := h.sel [0] rfl
      replace h := h.conv (sl' := _) (L' := [_]) rfl rfl
      exact h.ret2 Try.results21 rfl rfl (Ent.refl _) (⟨none, 0, rfl, rfl⟩)
    · rw [hrest, readO_bad (by unfold okD; rw [hhd]; omega)] at hro
      subst hro
      replace h := h.nil encCh 80
      replace h := h.sel [0] rfl
      replace h := h.conv (sl' := _) (L' := [_]) rfl rfl
      exact h.ret2 Try.results21 rfl rfl (Ent.refl _) (⟨none, 0, rfl, rfl⟩)
    · have ed : decC rest = ⟨x, valO ((rest.drop 1).take 8), valO ((rest.drop 9).take 8)⟩ := by unfold decC; rw [hhd]
      have d17 : rest.drop 17 = bs.drop (17 * (j + 1)) := by rw [← hrest, List.drop_drop]; rfl
      rw [hrest, readO_step (by unfold okD; rw [hhd]; omega), ed, d17] at hro
      refine St.bslice h (encCh) ([⟨x, valO ((rest.drop 1).take 8), valO ((rest.drop 9).take 8)⟩]) rfl rfl Try.underlying23 Try.sizeOf80 Try.zeroValue80 rfl rfl ⟨rfl, rfl, trivial⟩ rfl rfl rfl fun b1 a w h => ?_
      skip
      refine St.append h _ 3 rfl (Ro.cons 0 rfl (ownl_ro _ _ _ _ _) (Ro.nil _)) rfl rfl rfl (by first | rfl | omega | simp) (by first | rfl | omega | simp) Try.underlying23 Try.typeInfo80 rfl rfl rfl 24 rfl (by (try simp only [List.length_append, List.length_cons, List.length_nil, List.length_map, List.length_take]); omega) (by (try simp only [List.length_append, List.length_cons, List.length_nil, List.length_map, List.length_take]); omega) rfl rfl rfl fun A1 c1 a w hnil h => ?_
      replace h := h.conv (sl' := _) (L' := [_, _, _, _, _]) rfl rfl
      refine St.get h rfl rfl rfl (G.assign rfl rfl) fun a h => ?_
      refine wpl_nil ?_
      refine X.blkN ?_
      refine X.thenN ?_
      refine C.region ?_
      refine St.get h rfl rfl rfl (G.move rfl rfl) fun a h => ?_
      refine St.get h rfl rfl rfl (G.bin rfl rfl rfl (B.addi (by omega) (by omega))) fun a h => ?_
      refine St.get h rfl rfl rfl (G.assign rfl rfl) fun a h => ?_
      refine wpl_nil ?_
      refine X.thenN ?_
      replace h := h.sel [0, 4] rfl
      replace h := h.conv (sl' := _) (L' := [_, _]) rfl rfl
      exact ⟨n, by omega, j + 1, _, _, _, by omega, by simp; omega, hro, h.sub ⟨rfl, rfl, rfl, trivial⟩⟩
end Go.Proofs.Ytllhegccpknncaa
