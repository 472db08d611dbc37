/-
  Numbers as bytes, the document's: Put, Get.
-/
import Derived.Test.YtllhegccpknncaaOa
import Derived.Test.YtllhegccpknncaaSeat
set_option linter.unusedVariables false
set_option linter.unusedSimpArgs false
set_option linter.unusedSectionVars false
set_option maxRecDepth 8000
namespace Go.Tr
theorem tmod_byte {u : Int} (h : 0 ≤ u) : IntKind.u8.wrap (u.tmod 256) = u % 256 := by rw [wrap_u8', Int.tmod_eq_emod_of_nonneg h]; omega
theorem tdiv_byte {u : Int} (h : 0 ≤ u) (h1 : u ≤ 18446744073709551615) : IntKind.u64.wrap (u.tdiv 256) = u / 256 := by rw [wrap_u64', Int.tdiv_eq_ediv_of_nonneg h]; omega
theorem div_pow (v : Int) (i : Nat) : v / 256 ^ i / 256 = v / 256 ^ (i + 1) := by
  rw [Int.pow_succ, Int.ediv_ediv_of_nonneg (Int.le_of_lt (Int.pow_pos (by decide)))]
theorem div_pow_bound {v : Int} (i : Nat) (h0 : 0 ≤ v) (h1 : v ≤ 18446744073709551615) : 0 ≤ v / 256 ^ i ∧ v / 256 ^ i ≤ 18446744073709551615 := by
  have hp : (0 : Int) < 256 ^ i := Int.pow_pos (by decide)
  exact ⟨Int.ediv_nonneg h0 (Int.le_of_lt hp), Int.le_trans (Int.ediv_le_self _ h0) h1⟩
theorem ref_step {v c : Int} {i : Nat} (hi : i < 8) (h0 : 0 ≤ v) (h1 : v < 256 ^ i) (h2 : 0 ≤ c) (h3 : c < 256) : IntKind.u64.wrap (IntKind.u64.wrap (256 * v) + c) = 256 * v + c := by
  have hv : v < 72057594037927936 := Int.lt_of_lt_of_le h1 (pow_le (j := 7) (by omega))
  rw [wrap_u64', wrap_u64']
  omega
end Go.Tr
namespace Go.Proofs.Ytllhegccpknncaa
open Go.Tr
theorem rPut_spec (v : Int) (h0 : 0 ≤ v) (h1 : v ≤ 18446744073709551615) : Meets Try.prog 54 #[.int .u64 v, .int .i64 8] []
    (fun u L => ∃ A c, u = .tuple #[rlv A 8 c, .int .i64 0] ∧ L = [ownl encU8 5 A c (octs 8 v)]) := by
  refine Meets.of_code Try.func54 rfl Try.ntmps54 rfl fun w0 S R a h => ?_
  refine C.seq ?_
  refine C.region ?_
  refine St.get h rfl rfl rfl (G.assign rfl rfl) fun a h => ?_
  refine St.get h rfl rfl rfl (G.assign rfl rfl) fun a h => ?_
  refine wpl_nil ?_
  refine X.thenN ?_
  refine C.seq ?_
  refine C.seq ?_
  refine C.region ?_
  refine St.get h rfl rfl rfl (G.move rfl rfl) fun a h => ?_
  refine St.get h rfl rfl rfl (G.bin rfl rfl rfl (B.lssF (by omega))) fun a h => ?_
  refine St.get h rfl rfl rfl (G.move rfl rfl) fun a h => ?_
  refine St.guard_yes h rfl rfl rfl rfl rfl ?_
  refine St.get h rfl rfl rfl (G.move rfl rfl) fun a h => ?_
  refine St.guard_yes h rfl rfl rfl rfl rfl ?_
  refine St.get h rfl rfl rfl (G.bin rfl rfl rfl (B.gtrF (by omega))) fun a h => ?_
  refine St.get h rfl rfl rfl (G.pickF rfl rfl rfl) fun a h => ?_
  refine wpl_nil ?_
  refine X.thenN ?_
  refine St.condF h rfl ?_
  refine C.skip ?_
  refine X.thenN ?_
  refine C.seq ?_
  refine C.region ?_
  refine St.get h rfl rfl rfl (G.assign rfl rfl) fun a h => ?_
  refine St.get h rfl rfl rfl (G.assign rfl rfl) fun a h => ?_
  refine wpl_nil ?_
  refine X.thenN ?_
  refine C.seq ?_
  refine C.seq ?_
  refine C.region ?_
  refine St.get h rfl rfl rfl (G.assign rfl rfl) fun a h => ?_
  refine wpl_nil ?_
  refine X.thenN ?_
  refine C.block ?_
  replace h := h.nil encU8 5
  refine C.loop (fun m a w => ∃ (i : Nat) (u : Int) (A : Option Addr) (c : Nat), i + m = 8 ∧ u = v / 256 ^ i ∧ St w0 S R 45 [(0, .int .u64 u), (1, .int .i64 8), (6, rlv A i c), (7, rlv none 0 0), (8, .int .i64 i)]
    [ownl encU8 5 A c (octs i v).reverse] a w) 8 ⟨0, v, none, 0, by omega, by simp, h.sub ⟨rfl, rfl, rfl, rfl, rfl, trivial⟩⟩ ?_
  rintro m a w ⟨i, u, A, c, hi, hu, h⟩
  obtain ⟨u0, u1⟩ := div_pow_bound i h0 h1
  rw [← hu] at u0 u1
  have hln : (octs i v).reverse.length = i := by rw [List.length_reverse, octs_len]
  by_cases hlt : i < 8
  · refine C.seq ?_
    refine C.seq ?_
    refine C.region ?_
    refine St.get h rfl rfl rfl (G.move rfl rfl) fun a h => ?_
    refine St.get h rfl rfl rfl (G.move rfl rfl) fun a h => ?_
    refine St.get h rfl rfl rfl (G.bin rfl rfl rfl (B.lssT (by omega))) fun a h => ?_
    refine wpl_nil ?_
    refine X.thenN ?_
    refine St.condT h rfl ?_
    refine C.skip ?_
    refine X.thenN ?_
    refine C.seq ?_
    refine C.block ?_
    refine C.seq ?_
    refine C.region ?_
    refine St.get h rfl rfl rfl (G.move rfl rfl) fun a h => ?_
    refine St.get h rfl rfl rfl (G.move rfl rfl) fun a h => ?_
    refine St.get h rfl rfl rfl (G.bin rfl rfl rfl (B.rem (by omega))) fun a h => ?_
    refine St.get h rfl rfl rfl (G.conv rfl rfl (B.cvt Try.underlying22 Try.underlying5)) fun a h => ?_
    rw [tmod_byte u0] at h
    refine St.bslice h (encU8) ([u % 256]) rfl rfl Try.underlying47 Try.sizeOf5 Try.zeroValue5 rfl rfl ⟨rfl, rfl, trivial⟩ rfl rfl rfl fun b1 a w h => ?_
    skip
    refine St.append h _ 1 rfl (Ro.cons 0 rfl (ownl_ro _ _ _ _ _) (Ro.nil _)) rfl rfl rfl (by first | rfl | omega | simp) (by first | rfl | omega | simp) Try.underlying47 Try.typeInfo5 rfl rfl rfl 1 rfl (by (try simp only [List.length_append, List.length_cons, List.length_nil, List.length_map, List.length_take]); omega) (by (try simp only [List.length_append, List.length_cons, List.length_nil, List.length_map, List.length_take]); omega) rfl rfl rfl fun A1 c1 a w hnil h => ?_
    replace h := h.conv (sl' := _) (L' := [_, _]) rfl rfl
    refine St.get h rfl rfl rfl (G.assign rfl rfl) fun a h => ?_
    refine wpl_nil ?_
    refine X.thenN ?_
    refine C.region ?_
    refine St.get h rfl rfl rfl (G.move rfl rfl) fun a h => ?_
    refine St.get h rfl rfl rfl (G.bin rfl rfl rfl (B.quo (by omega))) fun a h => ?_
    refine St.get h rfl rfl rfl (G.assign rfl rfl) fun a h => ?_
    refine wpl_nil ?_
    refine X.blkN ?_
    refine X.thenN ?_
    refine C.region ?_
    refine St.get h rfl rfl rfl (G.move rfl rfl) fun a h => ?_
    refine St.get h rfl rfl rfl (G.bin rfl rfl rfl (B.addi (by omega) (by omega))) fun a h => ?_
    refine St.get h rfl rfl rfl (G.assign rfl rfl) fun a h => ?_
    refine wpl_nil ?_
    refine X.thenN ?_
    have hr : (octs i v).reverse ++ [u % 256] = (octs (i + 1) v).reverse := by simp [octs, hu]
    have hl2 : (octs (i + 1) v).reverse.length = i + 1 := by rw [List.length_reverse, octs_len]
    rw [tdiv_byte u0 u1, hr, hl2] at h
    replace h := h.sel [0] rfl
    replace h := h.conv (sl' := _) (L' := [_]) rfl rfl
    exact ⟨m - 1, by omega, i + 1, u / 256, A1, c1, by omega, by rw [hu, div_pow], h.sub ⟨rfl, rfl, rfl, rfl, rfl, trivial⟩⟩
  · obtain rfl : i = 8 := by omega
    refine C.seq ?_
    refine C.seq ?_
    refine C.region ?_
    refine St.get h rfl rfl rfl (G.move rfl rfl) fun a h => ?_
    refine St.get h rfl rfl rfl (G.move rfl rfl) fun a h => ?_
    refine St.get h rfl rfl rfl (G.bin rfl rfl rfl (B.lssF (by omega))) fun a h => ?_
    refine wpl_nil ?_
    refine X.thenN ?_
    refine St.condF h rfl ?_
    refine C.exit ?_
    refine X.thenE ?_
    refine X.thenE ?_
    refine X.blkE ?_
    refine X.thenN ?_
    refine C.seq ?_
    refine C.seq ?_
    refine C.region ?_
    refine St.get h rfl rfl rfl (G.move rfl rfl) fun a h => ?_
    refine St.get h rfl rfl rfl (G.bin rfl rfl rfl (B.gtrF (by omega))) fun a h => ?_
    refine wpl_nil ?_
    refine X.thenN ?_
    refine St.condF h rfl ?_
    refine C.skip ?_
    refine X.thenN ?_
    refine C.seq ?_
    refine C.seq ?_
    refine C.region ?_
    refine St.get h rfl rfl rfl (G.move rfl rfl) fun a h => ?_
    refine St.get h rfl rfl rfl (G.bin rfl rfl rfl (B.subi (by omega) (by omega))) fun a h => ?_
    refine St.get h rfl rfl rfl (G.assign rfl rfl) fun a h => ?_
    refine wpl_nil ?_
    refine X.thenN ?_
    refine C.block ?_
    replace h := h.nil encU8 5
    refine C.loop (fun m a w => ∃ (k : Nat) (A0 : Option Addr) (d : Nat), k + m = 8 ∧ St w0 S R 45 [(6, rlv A 8 c), (7, rlv A0 k d), (9, .int .i64 (7 - k))]
      [ownl encU8 5 A0 d ((octs 8 v).take k), ownl encU8 5 A c (octs 8 v).reverse] a w) 8 ⟨0, none, 0, by omega, h.sub ⟨rfl, rfl, rfl, trivial⟩⟩ ?_
    rintro m a w ⟨k, A0, d, hk, h⟩
    have hkl : ((octs 8 v).take k).length = k := by rw [List.length_take, octs_len]; omega
    by_cases hlt : k < 8
    · obtain ⟨x, hx⟩ : ∃ x, (octs 8 v)[k]? = some x := ⟨_, List.getElem?_eq_getElem (by rw [octs_len]; exact hlt)⟩
      have hx1 : (octs 8 v).reverse[((7 : Int) - k).toNat]? = some x := by
        rw [List.getElem?_reverse (by rw [octs_len]; omega), octs_len, show 8 - 1 - ((7 : Int) - k).toNat = k by omega, hx]
      refine C.seq ?_
      refine C.seq ?_
      refine C.region ?_
      refine St.get h rfl rfl rfl (G.move rfl rfl) fun a h => ?_
      refine St.get h rfl rfl rfl (G.bin rfl rfl rfl (B.geqT (by omega))) fun a h => ?_
      refine wpl_nil ?_
      refine X.thenN ?_
      refine St.condT h rfl ?_
      refine C.skip ?_
      refine X.thenN ?_
      refine C.seq ?_
      refine C.block ?_
      refine C.region ?_
      refine St.get h rfl rfl rfl (G.move rfl rfl) fun a h => ?_
      refine St.get h rfl rfl rfl (G.move rfl rfl) fun a h => ?_
      refine St.get h rfl rfl rfl (G.move rfl rfl) fun a h => ?_
      refine St.get h rfl rfl rfl (G.idxo _ 1 rfl rfl rfl rfl (by omega) (by omega) (by omega) Try.underlying47 Try.sizeOf5) fun a h => ?_
      refine St.get h rfl rfl rfl (G.ldo _ 1 0 rfl (by assumption) rfl rfl rfl rfl rfl Try.isAgg5) fun a h => ?_
      refine St.bslice h (encU8) ([x]) rfl rfl Try.underlying47 Try.sizeOf5 Try.zeroValue5 rfl rfl ⟨rfl, rfl, trivial⟩ rfl rfl rfl fun b1 a w h => ?_
      skip
      refine St.append h _ 1 rfl (Ro.cons 0 rfl (ownl_ro _ _ _ _ _) (Ro.nil _)) rfl rfl rfl (by first | rfl | omega | simp) (by first | rfl | omega | simp) Try.underlying47 Try.typeInfo5 rfl rfl rfl 1 rfl (by (try simp only [List.length_append, List.length_cons, List.length_nil, List.length_map, List.length_take]); omega) (by (try simp only [List.length_append, List.length_cons, List.length_nil, List.length_map, List.length_take]); omega) rfl rfl rfl fun A1 c1 a w hnil h => ?_
      replace h := h.conv (sl' := _) (L' := [_, _, _]) rfl rfl
      refine St.get h rfl rfl rfl (G.assign rfl rfl) fun a h => ?_
      refine wpl_nil ?_
      refine X.blkN ?_
      refine X.thenN ?_
      refine C.region ?_
      refine St.get h rfl rfl rfl (G.move rfl rfl) fun a h => ?_
      refine St.get h rfl rfl rfl (G.bin rfl rfl rfl (B.subi (by omega) (by omega))) fun a h => ?_
      refine St.get h rfl rfl rfl (G.assign rfl rfl) fun a h => ?_
      refine wpl_nil ?_
      refine X.thenN ?_
      have hr : (octs 8 v).take k ++ [x] = (octs 8 v).take (k + 1) := by rw [List.take_add_one, hx]; rfl
      have hl2 : ((octs 8 v).take (k + 1)).length = k + 1 := by rw [List.length_take, octs_len]; omega
      rw [hr, hl2] at h
      replace h := h.sel [0, 2] rfl
      replace h := h.conv (sl' := _) (L' := [_, _]) rfl rfl
      exact ⟨m - 1, by omega, k + 1, A1, c1, by omega, (h.conv (sl' := (9, .int .i64 (7 - ((k + 1 : Nat) : Int))) :: _) (by congr 3; omega) rfl).sub ⟨rfl, rfl, rfl, trivial⟩⟩
    · obtain rfl : k = 8 := by omega
      rw [List.take_of_length_le (by rw [octs_len]; exact Nat.le_refl _)] at h
      refine C.seq ?_
      refine C.seq ?_
      refine C.region ?_
      refine St.get h rfl rfl rfl (G.move rfl rfl) fun a h => ?_
      refine St.get h rfl rfl rfl (G.bin rfl rfl rfl (B.geqF (by omega))) fun a h => ?_
      refine wpl_nil ?_
      refine X.thenN ?_
      refine St.condF h rfl ?_
      refine C.exit ?_
      refine X.thenE ?_
      refine X.thenE ?_
      refine X.blkE ?_
      refine X.thenN ?_
      refine C.seq ?_
      refine C.region ?_
      refine St.get h rfl rfl rfl (G.move rfl rfl) fun a h => ?_
      refine St.get h rfl rfl rfl (G.assign rfl rfl) fun a h => ?_
      refine St.get h rfl rfl rfl (G.assign rfl rfl) fun a h => ?_
      refine wpl_nil ?_
      refine X.thenN ?_
      refine C.ret ?_
      replace h := h.sel [0] rfl
      replace h := h.conv (sl' := _) (L' := [_]) rfl rfl
      exact h.ret2 Try.results54 rfl rfl (Ent.refl _) (⟨_, _, rfl, rfl⟩)
theorem rGet_spec (A : Option Addr) (c : Nat) (bs : List Int) (hl : bs.length = 8) (hb : ∀ x ∈ bs, 0 ≤ x ∧ x < 256) : Meets Try.prog 56 #[rlv A 8 c] [rdl encU8 A bs] (Det (.tuple #[.int .u64 (valO bs), .int .i64 0]) []) := by
  refine Meets.of_code Try.func56 rfl Try.ntmps56 rfl fun w0 S R a h => ?_
  refine C.seq ?_
  refine C.region ?_
  refine St.get h rfl rfl rfl (G.assign rfl rfl) fun a h => ?_
  refine St.get h rfl rfl rfl (G.assign rfl rfl) fun a h => ?_
  refine wpl_nil ?_
  refine X.thenN ?_
  refine C.seq ?_
  refine C.seq ?_
  refine C.region ?_
  refine St.get h rfl rfl rfl (G.move rfl rfl) fun a h => ?_
  refine St.get h rfl rfl rfl (G.lens rfl rfl Try.underlying47) fun a h => ?_
  refine St.get h rfl rfl rfl (G.bin rfl rfl rfl (B.eqlF (by omega))) fun a h => ?_
  refine St.get h rfl rfl rfl (G.move rfl rfl) fun a h => ?_
  refine St.guard_yes h rfl rfl rfl rfl rfl ?_
  refine St.get h rfl rfl rfl (G.move rfl rfl) fun a h => ?_
  refine St.guard_yes h rfl rfl rfl rfl rfl ?_
  refine St.get h rfl rfl rfl (G.lens rfl rfl Try.underlying47) fun a h => ?_
  refine St.guard_yes h rfl rfl rfl rfl rfl ?_
  refine St.get h rfl rfl rfl (G.bin rfl rfl rfl (B.gtrF (by omega))) fun a h => ?_
  refine St.get h rfl rfl rfl (G.pickF rfl rfl rfl) fun a h => ?_
  refine wpl_nil ?_
  refine X.thenN ?_
  refine St.condF h rfl ?_
  refine C.skip ?_
  refine X.thenN ?_
  refine C.seq ?_
  refine C.region ?_
  refine St.get h rfl rfl rfl (G.assign rfl rfl) fun a h => ?_
  refine wpl_nil ?_
  refine X.thenN ?_
  refine C.seq ?_
  refine C.seq ?_
  refine C.region ?_
  refine St.get h rfl rfl rfl (G.assign rfl rfl) fun a h => ?_
  refine wpl_nil ?_
  refine X.thenN ?_
  refine C.block ?_
  refine C.loop (fun m a w => ∃ i : Nat, i + m = 8 ∧ St w0 S R 29 [(0, rlv A 8 c), (4, .int .u64 (valO (bs.take i))), (5, .int .i64 i)] [rdl encU8 A bs] a w) 8 ⟨0, by omega, h.sub ⟨rfl, rfl, rfl, trivial⟩⟩ ?_
  rintro m a w ⟨i, hi, h⟩
  by_cases hlt : i < 8
  · obtain ⟨x, hx⟩ : ∃ x, bs[i]? = some x := ⟨_, List.getElem?_eq_getElem (by omega)⟩
    have hx1 : bs[(i : Int).toNat]? = some x := by simp [hx]
    obtain ⟨x0, x1⟩ := hb x (List.mem_of_getElem? hx)
    have htk : bs.take (i + 1) = bs.take i ++ [x] := by rw [List.take_add_one, hx]; rfl
    obtain ⟨v0, v1⟩ := valO_bound i (bs.take i) (by simp; omega) fun y hy => hb y (List.mem_of_mem_take hy)
    have st := ref_step hlt v0 v1 x0 x1
    refine C.seq ?_
    refine C.seq ?_
    refine C.region ?_
    refine St.get h rfl rfl rfl (G.move rfl rfl) fun a h => ?_
    refine St.get h rfl rfl rfl (G.move rfl rfl) fun a h => ?_
    refine St.get h rfl rfl rfl (G.lens rfl rfl Try.underlying47) fun a h => ?_
    refine St.get h rfl rfl rfl (G.bin rfl rfl rfl (B.lssT (by omega))) fun a h => ?_
    refine wpl_nil ?_
    refine X.thenN ?_
    refine St.condT h rfl ?_
    refine C.skip ?_
    refine X.thenN ?_
    refine C.seq ?_
    refine C.block ?_
    refine C.region ?_
    refine St.get h rfl rfl rfl (G.move rfl rfl) fun a h => ?_
    refine St.get h rfl rfl rfl (G.bin rfl rfl rfl B.mul) fun a h => ?_
    refine St.get h rfl rfl rfl (G.move rfl rfl) fun a h => ?_
    refine St.get h rfl rfl rfl (G.move rfl rfl) fun a h => ?_
    refine St.get h rfl rfl rfl (G.idxr _ 0 rfl rfl rfl rfl (by omega) (by omega) (by omega) Try.underlying47 Try.sizeOf5) fun a h => ?_
    refine St.get h rfl rfl rfl (G.lde _ 0 0 rfl (by assumption) rfl rfl rfl rfl rfl Try.isAgg5) fun a h => ?_
    refine St.get h rfl rfl rfl (G.conv rfl rfl (B.cvtn Try.underlying5 Try.underlying22 (wrap_u64 (by omega) (by omega)))) fun a h => ?_
    refine St.get h rfl rfl rfl (G.bin rfl rfl rfl B.add) fun a h => ?_
    refine St.get h rfl rfl rfl (G.assign rfl rfl) fun a h => ?_
    refine wpl_nil ?_
    refine X.blkN ?_
    refine X.thenN ?_
    refine C.region ?_
    refine St.get h rfl rfl rfl (G.move rfl rfl) fun a h => ?_
    refine St.get h rfl rfl rfl (G.bin rfl rfl rfl (B.addi (by omega) (by omega))) fun a h => ?_
    refine St.get h rfl rfl rfl (G.assign rfl rfl) fun a h => ?_
    refine wpl_nil ?_
    refine X.thenN ?_
    rw [st, ← valO_snoc, ← htk] at h
    exact ⟨m - 1, by omega, i + 1, by omega, h.sub ⟨rfl, rfl, rfl, trivial⟩⟩
  · obtain rfl : i = 8 := by omega
    rw [List.take_of_length_le (by omega)] at h
    refine C.seq ?_
    refine C.seq ?_
    refine C.region ?_
    refine St.get h rfl rfl rfl (G.move rfl rfl) fun a h => ?_
    refine St.get h rfl rfl rfl (G.move rfl rfl) fun a h => ?_
    refine St.get h rfl rfl rfl (G.lens rfl rfl Try.underlying47) fun a h => ?_
    refine St.get h rfl rfl rfl (G.bin rfl rfl rfl (B.lssF (by omega))) fun a h => ?_
    refine wpl_nil ?_
    refine X.thenN ?_
    refine St.condF h rfl ?_
    refine C.exit ?_
    refine X.thenE ?_
    refine X.thenE ?_
    refine X.blkE ?_
    refine X.thenN ?_
    refine C.seq ?_
    refine C.region ?_
    refine St.get h rfl rfl rfl (G.move rfl rfl) fun a h => ?_
    refine St.get h rfl rfl rfl (G.assign rfl rfl) fun a h => ?_
    refine St.get h rfl rfl rfl (G.assign rfl rfl) fun a h => ?_
    refine wpl_nil ?_
    refine X.thenN ?_
    refine C.ret ?_
    replace h := h.sel [] rfl
    exact h.ret2 Try.results56 rfl rfl (Ent.refl _) (⟨rfl, rfl⟩)
end Go.Proofs.Ytllhegccpknncaa
