/-
  Numbers as bytes: Put, Get, both ways.
-/
import Derived.Test.YtllhegccpknncaaMdl
import Derived.Test.YtllhegccpknncaaSeat
import Derived.Test.YtllhegccpknncaaSeat
set_option linter.unusedVariables false
set_option linter.unusedSimpArgs false
set_option linter.unusedSectionVars false
set_option maxRecDepth 8000
namespace Go.Tr
/-- The last n bytes of a number, the first one first. -/
def octs : Nat → Int → List Int
  | 0, _ => []
  | n + 1, v => (v / 256 ^ n) % 256 :: octs n v
theorem octs_len : ∀ (n : Nat) (v : Int), (octs n v).length = n
  | 0, _ => rfl
  | n + 1, v => by simp [octs, octs_len n v]
theorem octs_byte : ∀ (n : Nat) (v : Int), ∀ x ∈ octs n v, 0 ≤ x ∧ x < 256
  | 0, _, x, hx => by simp [octs] at hx
  | n + 1, v, x, hx => by
    rcases List.mem_cons.1 hx with rfl | hx
    · omega
    · exact octs_byte n v x hx
theorem wrap_u8' (n : Int) : IntKind.u8.wrap n = n % 256 := by simp [IntKind.wrap, IntKind.bits, IntKind.signed]
theorem wrap_u64' (n : Int) : IntKind.u64.wrap n = n % 18446744073709551616 := by simp [IntKind.wrap, IntKind.bits, IntKind.signed]
theorem octs_shift (v : Int) (i : Nat) (hi : i < 8) : IntKind.u8.wrap (v / 2 ^ min (8 * (i : Int)).toNat IntKind.u64.bits) = v / 256 ^ i % 256 := by
  have e1 : min (8 * (i : Int)).toNat IntKind.u64.bits = 8 * i := by
    have : IntKind.u64.bits = 64 := rfl
    rw [this, Nat.min_def, if_pos (by omega)]; omega
  rw [wrap_u8', e1, Int.pow_mul]
  rfl
theorem octs_put (v : Int) {i : Nat} (hi : i < 8) : (List.replicate (8 - i) (0 : Int) ++ octs i v).set ((8 : Int) - 1 - i).toNat (v / 256 ^ i % 256) = List.replicate (8 - (i + 1)) 0 ++ octs (i + 1) v := by
  have e1 : ((8 : Int) - 1 - i).toNat = 8 - (i + 1) := by omega
  have e2 : List.replicate (8 - i) (0 : Int) = List.replicate (8 - (i + 1)) 0 ++ [0] := by
    rw [show 8 - i = (8 - (i + 1)) + 1 by omega, List.replicate_succ']
  rw [e1, e2, List.append_assoc, List.set_append_right _ _ (by simp)]
  simp [octs]
theorem wraps_u64' (n : Int) (h₀ : 0 ≤ n) (h₁ : n < 18446744073709551616) : IntKind.u64.wrap n = n := by rw [wrap_u64']; omega
theorem u64_or8 {x y : Int} (hx₀ : 0 ≤ x) (hx : x % 256 = 0) (hx₁ : x < 18446744073709551616) (h₀ : 0 ≤ y) (h₁ : y < 256) : bits .or .u64 x y = x + y :=
  have e : (2 : Int) ^ 64 = 18446744073709551616 := by decide
  bits_join .u64 64 (by decide) (fun n a b => wraps_u64' n a (by rw [← e]; exact b)) 8 x y hx₀ hx (by rw [e]; exact hx₁) h₀ h₁ (by rw [e]; omega)
/-- The number that bytes are. -/
def valO : List Int → Int := List.foldl (fun v b => 256 * v + b) 0
theorem valO_snoc (l : List Int) (b : Int) : valO (l ++ [b]) = 256 * valO l + b := by simp [valO, List.foldl_append]
theorem valO_bound : ∀ (n : Nat) (l : List Int), l.length = n → (∀ x ∈ l, 0 ≤ x ∧ x < 256) → 0 ≤ valO l ∧ valO l < 256 ^ n
  | 0, [], _, _ => by decide
  | n + 1, l, hl, hb => by
    obtain ⟨m, b, rfl⟩ : ∃ m b, l = m ++ [b] := ⟨l.dropLast, l.getLast (by intro h; subst h; simp at hl), (List.dropLast_concat_getLast _).symm⟩
    have h1 := valO_bound n m (by simpa using hl) fun x hx => hb x (List.mem_append_left _ hx)
    have h2 := hb b (List.mem_append_right _ (List.mem_singleton.2 rfl))
    rw [valO_snoc, Int.pow_succ]
    omega
theorem pow_le {i j : Nat} (h : i ≤ j) : (256 : Int) ^ i ≤ 256 ^ j := by
  obtain ⟨k, rfl⟩ := Nat.le.dest h
  induction k with
  | zero => exact Int.le_refl _
  | succ k ih => rw [← Nat.add_assoc, Int.pow_succ]; have := ih (by omega); have : (0 : Int) < 256 ^ i := Int.pow_pos (by decide); omega
theorem oct_step {v c : Int} {i : Nat} (hi : i < 8) (h0 : 0 ≤ v) (h1 : v < 256 ^ i) (h2 : 0 ≤ c) (h3 : c < 256) : bits .or .u64 (IntKind.u64.wrap (v * 2 ^ min (8 : Int).toNat IntKind.u64.bits)) c = 256 * v + c ∧ 256 * v + c ≤ 18446744073709551615 := by
  have hv : v < 72057594037927936 := Int.lt_of_lt_of_le h1 (pow_le (j := 7) (by omega))
  have e1 : (2 : Int) ^ min (8 : Int).toNat IntKind.u64.bits = 256 := by decide
  have e2 : IntKind.u64.wrap (v * 256) = v * 256 := by rw [wrap_u64']; omega
  rw [e1, e2, u64_or8 (by omega) (by omega) (by omega) h2 h3]
  exact ⟨by omega, by omega⟩
end Go.Tr
namespace Go.Proofs.Ytllhegccpknncaa
open Go.Tr
theorem oPut_spec (v : Int) (h0 : 0 ≤ v) (h1 : v ≤ 18446744073709551615) : Meets Try.prog 53 #[.int .u64 v, .int .i64 8] []
    (fun u L => ∃ A c, u = .tuple #[rlv A 8 c, .int .i64 0] ∧ L = [ownl encU8 5 A c (octs 8 v)]) := by
  refine Meets.of_code Try.func53 rfl Try.ntmps53 rfl fun w0 S R a h => ?_
  refine C.seq ?_
  refine C.region ?_
  refine St.get h rfl rfl rfl (G.assign rfl rfl) fun a h => ?_
  refine St.get h rfl rfl rfl (G.assign rfl rfl) fun a h => ?_
  refine wpl_nil ?_
  refine X.thenN ?_
  refine C.seq ?_
  refine C.seq ?_
  refine C.region ?_
  refine St.get h rfl rfl rfl (G.move rfl rfl) fun a h => ?_
  refine St.get h rfl rfl rfl (G.bin rfl rfl rfl (B.lssF (by omega))) fun a h => ?_
  refine St.get h rfl rfl rfl (G.move rfl rfl) fun a h => ?_
  refine St.guard_yes h rfl rfl rfl rfl rfl ?_
  refine St.get h rfl rfl rfl (G.move rfl rfl) fun a h => ?_
  refine St.guard_yes h rfl rfl rfl rfl rfl ?_
  refine St.get h rfl rfl rfl (G.bin rfl rfl rfl (B.gtrF (by omega))) fun a h => ?_
  refine St.get h rfl rfl rfl (G.pickF rfl rfl rfl) fun a h => ?_
  refine wpl_nil ?_
  refine X.thenN ?_
  refine St.condF h rfl ?_
  refine C.skip ?_
  refine X.thenN ?_
  refine C.seq ?_
  refine C.seq ?_
  refine C.region ?_
  refine St.get h rfl rfl rfl (G.move rfl rfl) fun a h => ?_
  refine St.get h rfl rfl rfl (G.bin rfl rfl rfl (B.lssF (by omega))) fun a h => ?_
  refine St.get h rfl rfl rfl (G.move rfl rfl) fun a h => ?_
  refine St.guard_no h rfl rfl rfl rfl rfl (by decide) rfl rfl fun a h => ?_
  refine St.guard_no h rfl rfl rfl rfl rfl (by decide) rfl rfl fun a h => ?_
  refine St.guard_no h rfl rfl rfl rfl rfl (by decide) rfl rfl fun a h => ?_
  refine St.guard_no h rfl rfl rfl rfl rfl (by decide) rfl rfl fun a h => ?_
  refine St.guard_no h rfl rfl rfl rfl rfl (by decide) rfl rfl fun a h => ?_
  refine St.get h rfl rfl rfl (G.pickF rfl rfl rfl) fun a h => ?_
  refine wpl_nil ?_
  refine X.thenN ?_
  refine St.condF h rfl ?_
  refine C.skip ?_
  refine X.thenN ?_
  refine C.seq ?_
  refine C.region ?_
  refine St.get h rfl rfl rfl (G.move rfl rfl) fun a h => ?_
  refine St.make h (encU8) (0) (n := 8) rfl rfl rfl Try.underlying47 Try.typeInfo5 Try.sizeOf5 Try.zeroValue5 rfl rfl rfl (by decide) (by omega) rfl rfl rfl fun b1 a w h => ?_
  refine St.get h rfl rfl rfl (G.assign rfl rfl) fun a h => ?_
  refine wpl_nil ?_
  refine X.thenN ?_
  refine C.seq ?_
  refine C.seq ?_
  refine C.region ?_
  refine St.get h rfl rfl rfl (G.move rfl rfl) fun a h => ?_
  refine St.get h rfl rfl rfl (G.lens rfl rfl Try.underlying47) fun a h => ?_
  refine St.get h rfl rfl rfl (G.move rfl rfl) fun a h => ?_
  refine wpl_nil ?_
  refine X.thenN ?_
  refine C.block ?_
  refine C.loop (fun m a w => ∃ i : Nat, i + m = 8 ∧ St w0 S R 43 [(0, .int .u64 v), (1, .int .i64 8), (6, rlv (some ⟨b1, 0, none⟩) 8 8), (26, .int .i64 8), (27, .int .i64 i)]
    [ownl encU8 5 (some ⟨b1, 0, none⟩) 8 (List.replicate (8 - i) 0 ++ octs i v)] a w) 8 ⟨0, by omega, (h.conv rfl (L' := [ownl encU8 5 (some ⟨b1, 0, none⟩) 8 (List.replicate (8 - 0) 0 ++ octs 0 v)]) rfl).sub ⟨rfl, rfl, rfl, rfl, rfl, trivial⟩⟩ ?_
  rintro m a w ⟨i, hi, h⟩
  by_cases hlt : i < 8
  · have hln : (List.replicate (8 - i) (0 : Int) ++ octs i v).length = 8 := by simp [octs_len]; omega
    have hget : (List.replicate (8 - i) (0 : Int) ++ octs i v)[((8 : Int) - 1 - i).toNat]? = some 0 := by
      rw [List.getElem?_append_left (by simp; omega), List.getElem?_replicate_of_lt (by omega)]
    refine C.seq ?_
    refine C.region ?_
    refine St.get h rfl rfl rfl (G.bin rfl rfl rfl (B.lssT (by omega))) fun a h => ?_
    refine wpl_nil ?_
    refine X.thenN ?_
    refine C.seq ?_
    refine St.condT h rfl ?_
    refine C.skip ?_
    refine X.thenN ?_
    refine C.seq ?_
    refine C.block ?_
    refine C.seq ?_
    refine C.region ?_
    refine St.get h rfl rfl rfl (G.move rfl rfl) fun a h => ?_
    refine St.get h rfl rfl rfl (G.assign rfl rfl) fun a h => ?_
    refine wpl_nil ?_
    refine X.thenN ?_
    refine C.region ?_
    refine St.get h rfl rfl rfl (G.move rfl rfl) fun a h => ?_
    refine St.get h rfl rfl rfl (G.move rfl rfl) fun a h => ?_
    refine St.get h rfl rfl rfl (G.bin rfl rfl rfl (B.subi (by omega) (by omega))) fun a h => ?_
    refine St.get h rfl rfl rfl (G.move rfl rfl) fun a h => ?_
    refine St.get h rfl rfl rfl (G.bin rfl rfl rfl (B.subi (by omega) (by omega))) fun a h => ?_
    refine St.get h rfl rfl rfl (G.move rfl rfl) fun a h => ?_
    refine St.get h rfl rfl rfl (G.move rfl rfl) fun a h => ?_
    refine St.get h rfl rfl rfl (G.bin rfl rfl rfl (B.muli (by omega) (by omega))) fun a h => ?_
    refine St.get h rfl rfl rfl (G.bin rfl rfl rfl (B.shr (by omega))) fun a h => ?_
    refine St.get h rfl rfl rfl (G.conv rfl rfl (B.cvt Try.underlying22 Try.underlying5)) fun a h => ?_
    refine St.get h rfl rfl rfl (G.idxo _ 0 rfl rfl rfl rfl (by omega) (by omega) (by omega) Try.underlying47 Try.sizeOf5) fun a h => ?_
    rw [octs_shift v i hlt] at h
    refine St.put h rfl rfl (U.sto _ 0 0 ((v / 256 ^ i % 256)) rfl (by assumption) rfl rfl rfl rfl rfl (by decide) (by rfl) rfl Try.sizeOf5) fun a w h => ?_
    replace h := h.conv (sl' := _) (L' := [_]) rfl rfl
    refine wpl_nil ?_
    refine X.blkN ?_
    refine X.thenN ?_
    refine C.region ?_
    refine St.get h rfl rfl rfl (G.bin rfl rfl rfl (B.addi (by omega) (by omega))) fun a h => ?_
    refine St.get h rfl rfl rfl (G.move rfl rfl) fun a h => ?_
    refine wpl_nil ?_
    refine X.thenN ?_
    rw [octs_put v hlt] at h
    exact ⟨m - 1, by omega, i + 1, by omega, h.sub ⟨rfl, rfl, rfl, rfl, rfl, trivial⟩⟩
  · obtain rfl : i = 8 := by omega
    refine C.seq ?_
    refine C.region ?_
    refine St.get h rfl rfl rfl (G.bin rfl rfl rfl (B.lssF (by omega))) fun a h => ?_
    refine wpl_nil ?_
    refine X.thenN ?_
    refine C.seq ?_
    refine St.condF h rfl ?_
    refine C.exit ?_
    refine X.thenE ?_
    refine X.thenE ?_
    refine X.blkE ?_
    refine X.thenN ?_
    refine C.seq ?_
    refine C.region ?_
    refine St.get h rfl rfl rfl (G.move rfl rfl) fun a h => ?_
    refine St.get h rfl rfl rfl (G.assign rfl rfl) fun a h => ?_
    refine St.get h rfl rfl rfl (G.assign rfl rfl) fun a h => ?_
    refine wpl_nil ?_
    refine X.thenN ?_
    refine C.ret ?_
    exact h.ret2 Try.results53 rfl rfl (Ent.refl _) (⟨_, _, rfl, rfl⟩)
theorem oGet_spec (A : Option Addr) (c : Nat) (bs : List Int) (hl : bs.length = 8) (hb : ∀ x ∈ bs, 0 ≤ x ∧ x < 256) : Meets Try.prog 55 #[rlv A 8 c] [rdl encU8 A bs] (Det (.tuple #[.int .u64 (valO bs), .int .i64 0]) []) := by
  refine Meets.of_code Try.func55 rfl Try.ntmps55 rfl fun w0 S R a h => ?_
  refine C.seq ?_
  refine C.region ?_
  refine St.get h rfl rfl rfl (G.assign rfl rfl) fun a h => ?_
  refine St.get h rfl rfl rfl (G.assign rfl rfl) fun a h => ?_
  refine wpl_nil ?_
  refine X.thenN ?_
  refine C.seq ?_
  refine C.seq ?_
  refine C.region ?_
  refine St.get h rfl rfl rfl (G.move rfl rfl) fun a h => ?_
  refine St.get h rfl rfl rfl (G.lens rfl rfl Try.underlying47) fun a h => ?_
  refine St.get h rfl rfl rfl (G.bin rfl rfl rfl (B.lssF (by omega))) fun a h => ?_
  refine St.get h rfl rfl rfl (G.move rfl rfl) fun a h => ?_
  refine St.guard_yes h rfl rfl rfl rfl rfl ?_
  refine St.get h rfl rfl rfl (G.move rfl rfl) fun a h => ?_
  refine St.guard_yes h rfl rfl rfl rfl rfl ?_
  refine St.get h rfl rfl rfl (G.lens rfl rfl Try.underlying47) fun a h => ?_
  refine St.guard_yes h rfl rfl rfl rfl rfl ?_
  refine St.get h rfl rfl rfl (G.bin rfl rfl rfl (B.gtrF (by omega))) fun a h => ?_
  refine St.get h rfl rfl rfl (G.pickF rfl rfl rfl) fun a h => ?_
  refine wpl_nil ?_
  refine X.thenN ?_
  refine St.condF h rfl ?_
  refine C.skip ?_
  refine X.thenN ?_
  refine C.seq ?_
  refine C.region ?_
  refine St.get h rfl rfl rfl (G.assign rfl rfl) fun a h => ?_
  refine wpl_nil ?_
  refine X.thenN ?_
  refine C.seq ?_
  refine C.seq ?_
  refine C.region ?_
  refine St.get h rfl rfl rfl (G.move rfl rfl) fun a h => ?_
  refine St.get h rfl rfl rfl (G.lens rfl rfl Try.underlying47) fun a h => ?_
  refine St.get h rfl rfl rfl (G.move rfl rfl) fun a h => ?_
  refine wpl_nil ?_
  refine X.thenN ?_
  refine C.block ?_
  refine C.loop (fun m a w => ∃ i : Nat, i + m = 8 ∧ St w0 S R 28 [(4, .int .u64 (valO (bs.take i))), (15, rlv A 8 c), (16, .int .i64 8), (17, .int .i64 i)] [rdl encU8 A bs] a w) 8 ⟨0, by omega, h.sub ⟨rfl, rfl, rfl, rfl, trivial⟩⟩ ?_
  rintro m a w ⟨i, hi, h⟩
  by_cases hlt : i < 8
  · obtain ⟨x, hx⟩ : ∃ x, bs[i]? = some x := ⟨_, List.getElem?_eq_getElem (by omega)⟩
    have hx1 : bs[(i : Int).toNat]? = some x := by simp [hx]
    obtain ⟨x0, x1⟩ := hb x (List.mem_of_getElem? hx)
    have htk : bs.take (i + 1) = bs.take i ++ [x] := by rw [List.take_add_one, hx]; rfl
    obtain ⟨v0, v1⟩ := valO_bound i (bs.take i) (by simp; omega) fun y hy => hb y (List.mem_of_mem_take hy)
    obtain ⟨st, _⟩ := oct_step hlt v0 v1 x0 x1
    refine C.seq ?_
    refine C.region ?_
    refine St.get h rfl rfl rfl (G.bin rfl rfl rfl (B.lssT (by omega))) fun a h => ?_
    refine wpl_nil ?_
    refine X.thenN ?_
    refine C.seq ?_
    refine St.condT h rfl ?_
    refine C.skip ?_
    refine X.thenN ?_
    refine C.seq ?_
    refine C.block ?_
    refine C.seq ?_
    refine C.region ?_
    refine St.get h rfl rfl rfl (G.idxr _ 0 rfl rfl rfl rfl (by omega) (by omega) (by omega) Try.underlying47 Try.sizeOf5) fun a h => ?_
    refine St.get h rfl rfl rfl (G.lde _ 0 0 rfl (by assumption) rfl rfl rfl rfl rfl Try.isAgg5) fun a h => ?_
    refine St.get h rfl rfl rfl (G.assign rfl rfl) fun a h => ?_
    refine wpl_nil ?_
    refine X.thenN ?_
    refine C.region ?_
    refine St.get h rfl rfl rfl (G.move rfl rfl) fun a h => ?_
    refine St.get h rfl rfl rfl (G.bin rfl rfl rfl (B.shl (by omega))) fun a h => ?_
    refine St.get h rfl rfl rfl (G.move rfl rfl) fun a h => ?_
    refine St.get h rfl rfl rfl (G.conv rfl rfl (B.cvtn Try.underlying5 Try.underlying22 (wrap_u64 (by omega) (by omega)))) fun a h => ?_
    refine St.get h rfl rfl rfl (G.bin rfl rfl rfl B.or) fun a h => ?_
    refine St.get h rfl rfl rfl (G.assign rfl rfl) fun a h => ?_
    refine wpl_nil ?_
    refine X.blkN ?_
    refine X.thenN ?_
    refine C.region ?_
    refine St.get h rfl rfl rfl (G.bin rfl rfl rfl (B.addi (by omega) (by omega))) fun a h => ?_
    refine St.get h rfl rfl rfl (G.move rfl rfl) fun a h => ?_
    refine wpl_nil ?_
    refine X.thenN ?_
    rw [st, ← valO_snoc, ← htk] at h
    exact ⟨m - 1, by omega, i + 1, by omega, h.sub ⟨rfl, rfl, rfl, rfl, trivial⟩⟩
  · obtain rfl : i = 8 := by omega
    rw [List.take_of_length_le (by omega)] at h
    refine C.seq ?_
    refine C.region ?_
    refine St.get h rfl rfl rfl (G.bin rfl rfl rfl (B.lssF (by omega))) fun a h => ?_
    refine wpl_nil ?_
    refine X.thenN ?_
    refine C.seq ?_
    refine St.condF h rfl ?_
    refine C.exit ?_
    refine X.thenE ?_
    refine X.thenE ?_
    refine X.blkE ?_
    refine X.thenN ?_
    refine C.seq ?_
    refine C.region ?_
    refine St.get h rfl rfl rfl (G.move rfl rfl) fun a h => ?_
    refine St.get h rfl rfl rfl (G.assign rfl rfl) fun a h => ?_
    refine St.get h rfl rfl rfl (G.assign rfl rfl) fun a h => ?_
    refine wpl_nil ?_
    refine X.thenN ?_
    refine C.ret ?_
    replace h := h.sel [] rfl
    exact h.ret2 Try.results55 rfl rfl (Ent.refl _) (⟨rfl, rfl⟩)
end Go.Proofs.Ytllhegccpknncaa
