/-
  Bytes as changes: Read, both ways.
-/
import Derived.Test.YtllhegccpknncaaOw
import Derived.Test.YtllhegccpknncaaSeat
set_option linter.unusedVariables false
set_option linter.unusedSimpArgs false
set_option linter.unusedSectionVars false
set_option maxRecDepth 8000
namespace Go.Tr
theorem rdl_cut {T : Type} (E : Enc T) (A : Option Addr) (c : Nat) (ys : List T) (k m : Nat) (hk : k ≤ ys.length) (hc : ys.length ≤ c) : Ent (rdl E A ys) (rdl E (cutA A E.sz c k) ((ys.drop k).take m)) := by
  intro w S R h
  by_cases hn : (ys.drop k).take m = []
  · rw [hn]
    exact ⟨by simp, fun x => absurd rfl x⟩
  · have hne : ys ≠ [] := by intro e; subst e; simp at hn
    have hlt : k < ys.length := by
      rcases Nat.lt_or_ge k ys.length with h | h
      · exact h
      · rw [List.drop_eq_nil_of_le h] at hn; simp at hn
    obtain ⟨p, rfl, hc'⟩ := h.2 hne
    rw [cutA_some _ _ _ _ _ (by omega)]
    exact rdl_part E p.1 p.2 ys k m hk w S R h
section
variable {w0 : World} {S0 R : Fp} {N : Nat} {sl : List (Nat × Value)} {L : List Assn} {a : Act} {w : World}
/-- A part of a row that is read, beside it. -/
theorem St.part (h : St w0 S0 R N sl L a w) (i : Nat) {T : Type} (E : Enc T) {A : Option Addr} {ys : List T} (c k m : Nat) (hi : L[i]? = some (rdl E A ys)) (hk : k ≤ ys.length) (hc : ys.length ≤ c) :
    St w0 S0 R N sl (rdl E (cutA A E.sz c k) ((ys.drop k).take m) :: L) a w :=
  h.ent fun w S R hL => by
    obtain ⟨S1, S2, _, _, _, hr, _⟩ := stars_take L i _ hi w S R hL
    exact ⟨fun _ _ => False, S, fun _ _ x => x.elim, fun _ _ x => x, fun _ _ x _ => x, rdl_cut E A c ys k m hk hc w S1 R hr, hL⟩
end
def decC (d : List Int) : Ch := ⟨d.headD 0, valO ((d.drop 1).take 8), valO ((d.drop 9).take 8)⟩
def okD (d : List Int) : Prop := 1 ≤ d.headD 0 ∧ d.headD 0 ≤ 4 ∧ valO ((d.drop 1).take 8) ≤ 4611686018427387904
instance (d : List Int) : Decidable (okD d) := by unfold okD; infer_instance
def readG : Nat → List Int → Option (List Ch)
  | 0, _ => some []
  | n + 1, d => if okD d then (readG n (d.drop 17)).map (decC d :: ·) else none
def readO (out : List Ch) : Option (List Ch) → List Ch × Int
  | some l => (out ++ l, 0)
  | none => ([], 30)
def readM (bs : List Int) : List Ch × Int := if bs.length % 17 ≠ 0 then ([], 11) else if 816 < bs.length then ([], 2) else readO [] (readG (bs.length / 17) bs)
theorem readO_step {n : Nat} {out : List Ch} {d : List Int} (h : okD d) : readO out (readG (n + 1) d) = readO (out ++ [decC d]) (readG n (d.drop 17)) := by
  rw [readG, if_pos h]
  cases readG n (d.drop 17) <;> simp [readO]
theorem readO_bad {n : Nat} {out : List Ch} {d : List Int} (h : ¬ okD d) : readO out (readG (n + 1) d) = ([], 30) := by
  rw [readG, if_neg h]; rfl
end Go.Tr
namespace Go.Proofs.Ytllhegccpknncaa
open Go.Tr
theorem oRead_spec (A : Option Addr) (c : Nat) (bs : List Int) (hl : bs.length ≤ 4000) (hcl : bs.length ≤ c) (hcm : c ≤ 9223372036854775807) (hb : ∀ x ∈ bs, 0 ≤ x ∧ x < 256) : Meets Try.prog 20 #[rlv A bs.length c] [rdl encU8 A bs]
    (fun u L => ∃ A k, u = .tuple #[rlv A (readM bs).1.length k, .int .i64 (readM bs).2] ∧ L = [ownl encCh 80 A k (readM bs).1]) := by
  refine Meets.of_code Try.func20 rfl Try.ntmps20 rfl fun w0 S R a h => ?_
  have em : (bs.length : Int).tmod 17 = ((bs.length % 17 : Nat) : Int) := by rw [Int.tmod_eq_emod_of_nonneg (by omega)]; omega
  by_cases h17 : bs.length % 17 ≠ 0
  · have e : readM bs = ([], 11) := if_pos h17
    rw [e]
    replace h := h.nil encCh 80
    refine C.seq ?_
    refine C.region ?_
    refine St.get h rfl rfl rfl (G.assign rfl rfl) fun a h => ?_
    refine St.get h rfl rfl rfl (G.assign rfl rfl) fun a h => ?_
    refine wpl_nil ?_
    refine X.thenN ?_
    refine C.seq ?_
    refine C.seq ?_
    refine C.region ?_
    refine St.get h rfl rfl rfl (G.move rfl rfl) fun a h => ?_
    refine St.get h rfl rfl rfl (G.lens rfl rfl Try.underlying47) fun a h => ?_
    refine St.get h rfl rfl rfl (G.bin rfl rfl rfl (B.rem (by omega))) fun a h => ?_
    refine St.get h rfl rfl rfl (G.bin rfl rfl rfl (B.neqT (by omega))) fun a h => ?_
    refine wpl_nil ?_
    refine X.thenN ?_
    refine St.condT h rfl ?_
    refine C.seq ?_
    refine C.region ?_
    refine St.get h rfl rfl rfl (G.assign rfl rfl) fun a h => ?_
    refine St.get h rfl rfl rfl (G.assign rfl rfl) fun a h => ?_
    refine wpl_nil ?_
    refine X.thenN ?_
    refine C.ret ?_
    refine X.thenR ?_
    replace h := h.sel [0] rfl
    replace h := h.conv (sl' := _) (L' := [_]) rfl rfl
    exact h.ret2 Try.results20 rfl rfl (Ent.refl _) (⟨none, 0, rfl, rfl⟩)
  by_cases h816 : 816 < bs.length
  · have e : readM bs = ([], 2) := by unfold readM; rw [if_neg h17, if_pos h816]
    rw [e]
    replace h := h.nil encCh 80
    refine C.seq ?_
    refine C.region ?_
    refine St.get h rfl rfl rfl (G.assign rfl rfl) fun a h => ?_
    refine St.get h rfl rfl rfl (G.assign rfl rfl) fun a h => ?_
    refine wpl_nil ?_
    refine X.thenN ?_
    refine C.seq ?_
    refine C.seq ?_
    refine C.region ?_
    refine St.get h rfl rfl rfl (G.move rfl rfl) fun a h => ?_
    refine St.get h rfl rfl rfl (G.lens rfl rfl Try.underlying47) fun a h => ?_
    refine St.get h rfl rfl rfl (G.bin rfl rfl rfl (B.rem (by omega))) fun a h => ?_
    refine St.get h rfl rfl rfl (G.bin rfl rfl rfl (B.neqF (by omega))) fun a h => ?_
    refine wpl_nil ?_
    refine X.thenN ?_
    refine St.condF h rfl ?_
    refine C.skip ?_
    refine X.thenN ?_
    refine C.seq ?_
    refine C.seq ?_
    refine C.region ?_
    refine St.get h rfl rfl rfl (G.move rfl rfl) fun a h => ?_
    refine St.get h rfl rfl rfl (G.lens rfl rfl Try.underlying47) fun a h => ?_
    refine St.get h rfl rfl rfl (G.bin rfl rfl rfl (B.gtrT (by omega))) fun a h => ?_
    refine wpl_nil ?_
    refine X.thenN ?_
    refine St.condT h rfl ?_
    refine C.seq ?_
    refine C.region ?_
    refine St.get h rfl rfl rfl (G.assign rfl rfl) fun a h => ?_
    refine St.get h rfl rfl rfl (G.assign rfl rfl) fun a h => ?_
    refine wpl_nil ?_
    refine X.thenN ?_
    refine C.ret ?_
    refine X.thenR ?_
    replace h := h.sel [0] rfl
    replace h := h.conv (sl' := _) (L' := [_]) rfl rfl
    exact h.ret2 Try.results20 rfl rfl (Ent.refl _) (⟨none, 0, rfl, rfl⟩)
  have e : readM bs = readO [] (readG (bs.length / 17) bs) := by unfold readM; rw [if_neg h17, if_neg h816]
  rw [e]
  obtain ⟨T, hT⟩ : ∃ x, readO [] (readG (bs.length / 17) bs) = x := ⟨_, rfl⟩
  rw [hT]
  refine C.seq ?_
  refine C.region ?_
  refine St.get h rfl rfl rfl (G.assign rfl rfl) fun a h => ?_
  refine St.get h rfl rfl rfl (G.assign rfl rfl) fun a h => ?_
  refine wpl_nil ?_
  refine X.thenN ?_
  refine C.seq ?_
  refine C.seq ?_
  refine C.region ?_
  refine St.get h rfl rfl rfl (G.move rfl rfl) fun a h => ?_
  refine St.get h rfl rfl rfl (G.lens rfl rfl Try.underlying47) fun a h => ?_
  refine St.get h rfl rfl rfl (G.bin rfl rfl rfl (B.rem (by omega))) fun a h => ?_
  refine St.get h rfl rfl rfl (G.bin rfl rfl rfl (B.neqF (by omega))) fun a h => ?_
  refine wpl_nil ?_
  refine X.thenN ?_
  refine St.condF h rfl ?_
  refine C.skip ?_
  refine X.thenN ?_
  refine C.seq ?_
  refine C.seq ?_
  refine C.region ?_
  refine St.get h rfl rfl rfl (G.move rfl rfl) fun a h => ?_
  refine St.get h rfl rfl rfl (G.lens rfl rfl Try.underlying47) fun a h => ?_
  refine St.get h rfl rfl rfl (G.bin rfl rfl rfl (B.gtrF (by omega))) fun a h => ?_
  refine wpl_nil ?_
  refine X.thenN ?_
  refine St.condF h rfl ?_
  refine C.skip ?_
  refine X.thenN ?_
  refine C.seq ?_
  refine C.region ?_
  refine St.get h rfl rfl rfl (G.assign rfl rfl) fun a h => ?_
  refine wpl_nil ?_
  refine X.thenN ?_
  refine C.seq ?_
  refine C.block ?_
  replace h := h.nil encCh 80
  refine C.loop (fun n a w => ∃ (B : Option Addr) (c' : Nat) (rest : List Int) (out : List Ch) (D : Option Addr) (d : Nat), rest.length = 17 * n ∧ rest.length ≤ c' ∧ c' ≤ 9223372036854775807 ∧ out.length + n ≤ 48 ∧ (∀ x ∈ rest, 0 ≤ x ∧ x < 256) ∧ readO out (readG n rest) = T ∧
    St w0 S R 59 [(0, rlv B rest.length c'), (4, rlv D out.length d)] [ownl encCh 80 D d out, rdl encU8 B rest] a w) (bs.length / 17) ⟨A, c, bs, [], none, 0, by omega, hcl, hcm, by simp; omega, hb, hT, h.sub ⟨rfl, rfl, trivial⟩⟩ ?_
  rintro n a w ⟨B0, c', rest, out, D, d, hrl, hrc, hcm', hol, hrb, hro, h⟩
  rcases n with _ | n
  · have hr0 : rest = [] := List.eq_nil_of_length_eq_zero (by omega)
    subst hr0
    have hT' : T = (out, 0) := by rw [← hro]; simp [readG, readO]
    subst hT'
    refine C.seq ?_
    refine C.seq ?_
    refine C.region ?_
    refine St.get h rfl rfl rfl (G.move rfl rfl) fun a h => ?_
    refine St.get h rfl rfl rfl (G.lens rfl rfl Try.underlying47) fun a h => ?_
    refine St.get h rfl rfl rfl (G.bin rfl rfl rfl (B.gtrF (by omega))) fun a h => ?_
    refine wpl_nil ?_
    refine X.thenN ?_
    refine St.condF h rfl ?_
    refine C.exit ?_
    refine X.thenE ?_
    refine X.thenE ?_
    refine X.blkE ?_
    refine X.thenN ?_
    refine C.seq ?_
    refine C.region ?_
    refine St.get h rfl rfl rfl (G.move rfl rfl) fun a h => ?_
    refine St.get h rfl rfl rfl (G.assign rfl rfl) fun a h => ?_
    refine St.get h rfl rfl rfl (G.assign rfl rfl) fun a h => ?_
    refine wpl_nil ?_
    refine X.thenN ?_
    refine C.ret ?_
    replace h := h.sel [0] rfl
    replace h := h.conv (sl' := _) (L' := [_]) rfl rfl
    exact h.ret2 Try.results20 rfl rfl (Ent.refl _) (⟨_, _, rfl, rfl⟩)
  · obtain ⟨x, hx⟩ : ∃ x, rest[0]? = some x := ⟨_, List.getElem?_eq_getElem (by omega)⟩
    have hx1 : rest[(0 : Int).toNat]? = some x := hx
    have hhd : rest.headD 0 = x := by cases rest with | nil => simp at hx | cons y l => simpa using hx
    have hxb := hrb x (List.mem_of_getElem? hx)
    have p1 : ((rest.drop 1).take 8).length = 8 := by simp; omega
    have p2 : ((rest.drop 9).take 8).length = 8 := by simp; omega
    have q1 : ∀ y ∈ (rest.drop 1).take 8, 0 ≤ y ∧ y < 256 := fun y hy => hrb y (List.mem_of_mem_drop (List.mem_of_mem_take hy))
    have q2 : ∀ y ∈ (rest.drop 9).take 8, 0 ≤ y ∧ y < 256 := fun y hy => hrb y (List.mem_of_mem_drop (List.mem_of_mem_take hy))
    obtain ⟨v0, v1⟩ := valO_bound 8 _ p1 q1
    obtain ⟨u0, u1⟩ := valO_bound 8 _ p2 q2
    replace h := h.part 1 encU8 c' 1 8 rfl (by omega) hrc
    replace h := h.part 2 encU8 c' 9 8 rfl (by omega) hrc
    refine C.seq ?_
    refine C.seq ?_
    refine C.region ?_
    refine St.get h rfl rfl rfl (G.move rfl rfl) fun a h => ?_
    refine St.get h rfl rfl rfl (G.lens rfl rfl Try.underlying47) fun a h => ?_
    refine St.get h rfl rfl rfl (G.bin rfl rfl rfl (B.gtrT (by omega))) fun a h => ?_
    refine wpl_nil ?_
    refine X.thenN ?_
    refine St.condT h rfl ?_
    refine C.skip ?_
    refine X.thenN ?_
    refine C.seq ?_
    refine C.block ?_
    refine C.seq ?_
    refine C.region ?_
    refine St.get h rfl rfl rfl (G.move rfl rfl) fun a h => ?_
    refine St.get h rfl rfl rfl (G.cut (1) (9) _ rfl rfl Try.underlying47 Try.sizeOf5 ⟨_, _, rfl, by omega⟩ ⟨_, _, rfl, by omega⟩ rfl (by omega) (by omega) (by omega)) fun a h => ?_
    refine St.callD h [] rfl (Ro.cons 1 rfl (rdl_ro _ _ _) (Ro.nil _)) ((oGet_spec (cutA B0 1 c' 1) (c' - 1) ((rest.drop 1).take 8) p1 q1)) rfl rfl rfl Try.call55 rfl rfl fun a w h => ?_
    replace h := h.conv (sl' := _) (L' := [_, _, _, _]) rfl rfl
    refine St.get h rfl rfl rfl (G.move rfl rfl) fun a h => ?_
    refine St.get h rfl rfl rfl (G.extract rfl rfl rfl) fun a h => ?_
    refine St.get h rfl rfl rfl (G.extract rfl rfl rfl) fun a h => ?_
    refine St.get h rfl rfl rfl (G.assign rfl rfl) fun a h => ?_
    refine St.get h rfl rfl rfl (G.assign rfl rfl) fun a h => ?_
    refine wpl_nil ?_
    refine X.thenN ?_
    refine C.seq ?_
    refine C.region ?_
    refine St.get h rfl rfl rfl (G.move rfl rfl) fun a h => ?_
    refine St.get h rfl rfl rfl (G.cut (9) (17) _ rfl rfl Try.underlying47 Try.sizeOf5 ⟨_, _, rfl, by omega⟩ ⟨_, _, rfl, by omega⟩ rfl (by omega) (by omega) (by omega)) fun a h => ?_
    refine St.callD h [] rfl (Ro.cons 0 rfl (rdl_ro _ _ _) (Ro.nil _)) ((oGet_spec (cutA B0 1 c' 9) (c' - 9) ((rest.drop 9).take 8) p2 q2)) rfl rfl rfl Try.call55 rfl rfl fun a w h => ?_
    replace h := h.conv (sl' := _) (L' := [_, _, _, _]) rfl rfl
    refine St.get h rfl rfl rfl (G.move rfl rfl) fun a h => ?_
    refine St.get h rfl rfl rfl (G.extract rfl rfl rfl) fun a h => ?_
    refine St.get h rfl rfl rfl (G.extract rfl rfl rfl) fun a h => ?_
    refine St.get h rfl rfl rfl (G.assign rfl rfl) fun a h => ?_
    refine St.get h rfl rfl rfl (G.assign rfl rfl) fun a h => ?_
    refine wpl_nil ?_
    refine X.thenN ?_
    refine C.seq ?_
    refine C.seq ?_
    refine C.region ?_
    refine St.get h rfl rfl rfl (G.move rfl rfl) fun a h => ?_
    refine St.get h rfl rfl rfl (G.idxr _ 3 rfl rfl rfl rfl (by omega) (by omega) (by omega) Try.underlying47 Try.sizeOf5) fun a h => ?_
    refine St.get h rfl rfl rfl (G.lde _ 3 0 rfl (by assumption) rfl rfl rfl rfl rfl Try.isAgg5) fun a h => ?_
    refine St.getP h rfl rfl rfl (G.bin rfl rfl rfl B.lss) (fun hc a h => ?_) (fun hc a h => ?_)
    refine St.get h rfl rfl rfl (G.move rfl rfl) fun a h => ?_
    refine St.guard_no h rfl rfl rfl rfl rfl (by decide) rfl rfl fun a h => ?_
    refine St.guard_no h rfl rfl rfl rfl rfl (by decide) rfl rfl fun a h => ?_
    refine St.guard_no h rfl rfl rfl rfl rfl (by decide) rfl rfl fun a h => ?_
    refine St.guard_no h rfl rfl rfl rfl rfl (by decide) rfl rfl fun a h => ?_
    refine St.get h rfl rfl rfl (G.pickT rfl rfl rfl) fun a h => ?_
    refine St.get h rfl rfl rfl (G.move rfl rfl) fun a h => ?_
    refine St.guard_no h rfl rfl rfl rfl rfl (by decide) rfl rfl fun a h => ?_
    refine St.guard_no h rfl rfl rfl rfl rfl (by decide) rfl rfl fun a h => ?_
    refine St.get h rfl rfl rfl (G.pickT rfl rfl rfl) fun a h => ?_
    refine wpl_nil ?_
    refine X.thenN ?_
    refine St.condT h rfl ?_
    refine C.seq ?_
    refine C.region ?_
    refine St.get h rfl rfl rfl (G.assign rfl rfl) fun a h => ?_
    refine St.get h rfl rfl rfl (G.assign rfl rfl) fun a h => ?_
    refine wpl_nil ?_
    refine X.thenN ?_
    refine C.ret ?_
    refine X.thenR ?_
    refine X.blkR ?_
    refine X.thenR ?_
    refine X.thenR ?_
    refine X.blkR ?_
    refine X.thenR ?_
    rotate_left
    refine St.get h rfl rfl rfl (G.move rfl rfl) fun a h => ?_
    refine St.guard_yes h rfl rfl rfl rfl rfl ?_
    refine St.get h rfl rfl rfl (G.move rfl rfl) fun a h => ?_
    refine St.guard_yes h rfl rfl rfl rfl rfl ?_
    refine St.get h rfl rfl rfl (G.idxr _ 3 rfl rfl rfl rfl (by omega) (by omega) (by omega) Try.underlying47 Try.sizeOf5) fun a h => ?_
    refine St.guard_yes h rfl rfl rfl rfl rfl ?_
    refine St.get h rfl rfl rfl (G.lde _ 3 0 rfl (by assumption) rfl rfl rfl rfl rfl Try.isAgg5) fun a h => ?_
    refine St.guard_yes h rfl rfl rfl rfl rfl ?_
    refine St.getP h rfl rfl rfl (G.bin rfl rfl rfl B.gtr) (fun hc1 a h => ?_) (fun hc1 a h => ?_)
    refine St.get h rfl rfl rfl (G.pickF rfl rfl rfl) fun a h => ?_
    refine St.get h rfl rfl rfl (G.move rfl rfl) fun a h => ?_
    refine St.guard_no h rfl rfl rfl rfl rfl (by decide) rfl rfl fun a h => ?_
    refine St.guard_no h rfl rfl rfl rfl rfl (by decide) rfl rfl fun a h => ?_
    refine St.get h rfl rfl rfl (G.pickT rfl rfl rfl) fun a h => ?_
    refine wpl_nil ?_
    refine X.thenN ?_
    refine St.condT h rfl ?_
    refine C.seq ?_
    refine C.region ?_
    refine St.get h rfl rfl rfl (G.assign rfl rfl) fun a h => ?_
    refine St.get h rfl rfl rfl (G.assign rfl rfl) fun a h => ?_
    refine wpl_nil ?_
    refine X.thenN ?_
    refine C.ret ?_
    refine X.thenR ?_
    refine X.blkR ?_
    refine X.thenR ?_
    refine X.thenR ?_
    refine X.blkR ?_
    refine X.thenR ?_
    rotate_left
    refine St.get h rfl rfl rfl (G.pickF rfl rfl rfl) fun a h => ?_
    refine St.get h rfl rfl rfl (G.move rfl rfl) fun a h => ?_
    refine St.guard_yes h rfl rfl rfl rfl rfl ?_
    refine St.get h rfl rfl rfl (G.move rfl rfl) fun a h => ?_
    refine St.guard_yes h rfl rfl rfl rfl rfl ?_
    refine St.getP h rfl rfl rfl (G.bin rfl rfl rfl B.gtr) (fun hc2 a h => ?_) (fun hc2 a h => ?_)
    refine St.get h rfl rfl rfl (G.pickF rfl rfl rfl) fun a h => ?_
    refine wpl_nil ?_
    refine X.thenN ?_
    refine St.condT h rfl ?_
    refine C.seq ?_
    refine C.region ?_
    refine St.get h rfl rfl rfl (G.assign rfl rfl) fun a h => ?_
    refine St.get h rfl rfl rfl (G.assign rfl rfl) fun a h => ?_
    refine wpl_nil ?_
    refine X.thenN ?_
    refine C.ret ?_
    refine X.thenR ?_
    refine X.blkR ?_
    refine X.thenR ?_
    refine X.thenR ?_
    refine X.blkR ?_
    refine X.thenR ?_
    rotate_left
    refine St.get h rfl rfl rfl (G.pickF rfl rfl rfl) fun a h => ?_
    refine wpl_nil ?_
    refine X.thenN ?_
    refine St.condF h rfl ?_
    refine C.skip ?_
    refine X.thenN ?_
    refine C.region ?_
    refine St.get h rfl rfl rfl (G.move rfl rfl) fun a h => ?_
    refine St.get h rfl rfl rfl (G.move rfl rfl) fun a h => ?_
    refine St.get h rfl rfl rfl (G.idxr _ 3 rfl rfl rfl rfl (by omega) (by omega) (by omega) Try.underlying47 Try.sizeOf5) fun a h => ?_
    refine St.get h rfl rfl rfl (G.lde _ 3 0 rfl (by assumption) rfl rfl rfl rfl rfl Try.isAgg5) fun a h => ?_
    refine St.get h rfl rfl rfl (G.conv rfl rfl (B.cvtn Try.underlying5 Try.underlying3 (wrap_i64 (by omega) (by omega)))) fun a h => ?_
    refine St.get h rfl rfl rfl (G.move rfl rfl) fun a h => ?_
    refine St.get h rfl rfl rfl (G.conv rfl rfl (B.cvtn Try.underlying22 Try.underlying3 (wrap_i64 (by omega) (by omega)))) fun a h => ?_
    refine St.get h rfl rfl rfl (G.move rfl rfl) fun a h => ?_
    refine St.get h rfl rfl rfl (G.build [(0, 1), (1, 1), (2, 1)] rfl rfl Try.zeroValue80 Try.underlying80 ⟨rfl, Try.sizeOf3, rfl, Try.sizeOf3, rfl, Try.sizeOf22, trivial⟩ rfl) fun a h => ?_
    replace h := h.conv (sl' := (_, .agg #[.int _ _, .int _ _, .int _ _]) :: _) (L' := _) rfl rfl
    rotate_left
    · rw [readO_bad (by unfold okD; rw [hhd]; omega)] at hro
      subst hro
      replace h := h.nil encCh 80
      replace h := h.sel [0] rfl
      replace h := h.conv (sl' := _) (L' := [_]) rfl rfl
      exact h.ret2 Try.results20 rfl rfl (Ent.refl _) (⟨none, 0, rfl, rfl⟩)
    · rw [readO_bad (by unfold okD; rw [hhd]; omega)] at hro
      subst hro
      replace h := h.nil encCh 80
      replace h := h.sel [0] rfl
      replace h := h.conv (sl' := _) (L' := [_]) rfl rfl
      exact h.ret2 Try.results20 rfl rfl (Ent.refl _) (⟨none, 0, rfl, rfl⟩)
    · rw [readO_bad (by unfold okD; rw [hhd]; omega)] at hro
      subst hro
      replace h := h.nil encCh 80
      replace h := h.sel [0] rfl
      replace h := h.conv (sl' := _) (L' := [_]) rfl rfl
      exact h.ret2 Try.results20 rfl rfl (Ent.refl _) (⟨none, 0, rfl, rfl⟩)
    · have ed : decC rest = ⟨x, valO ((rest.drop 1).take 8), valO ((rest.drop 9).take 8)⟩ := by unfold decC; rw [hhd]
      rw [readO_step (by unfold okD; rw [hhd]; omega), ed] at hro
      refine St.bslice h (encCh) ([⟨x, valO ((rest.drop 1).take 8), valO ((rest.drop 9).take 8)⟩]) rfl rfl Try.underlying23 Try.sizeOf80 Try.zeroValue80 rfl rfl ⟨rfl, rfl, trivial⟩ rfl rfl rfl fun b1 a w h => ?_
      skip
      refine St.append h _ 3 rfl (Ro.cons 0 rfl (ownl_ro _ _ _ _ _) (Ro.nil _)) rfl rfl rfl (by first | rfl | omega | simp) (by first | rfl | omega | simp) Try.underlying23 Try.typeInfo80 rfl rfl rfl 24 rfl (by (try simp only [List.length_append, List.length_cons, List.length_nil, List.length_map, List.length_take]); omega) (by (try simp only [List.length_append, List.length_cons, List.length_nil, List.length_map, List.length_take]); omega) rfl rfl rfl fun A1 c1 a w hnil h => ?_
      replace h := h.conv (sl' := _) (L' := [_, _, _, _, _]) rfl rfl
      refine St.get h rfl rfl rfl (G.assign rfl rfl) fun a h => ?_
      refine wpl_nil ?_
      refine X.blkN ?_
      refine X.thenN ?_
      refine C.region ?_
      refine St.get h rfl rfl rfl (G.move rfl rfl) fun a h => ?_
      refine St.get h rfl rfl rfl (G.cut (17) _ _ rfl rfl Try.underlying47 Try.sizeOf5 ⟨_, _, rfl, by omega⟩ rfl rfl (by omega) (by omega) (by omega)) fun a h => ?_
      refine St.get h rfl rfl rfl (G.assign rfl rfl) fun a h => ?_
      refine wpl_nil ?_
      refine X.thenN ?_
      replace h := h.part 4 encU8 c' 17 rest.length rfl (by omega) hrc
      have e0 : (rest.drop 17).take rest.length = rest.drop 17 := List.take_of_length_le (by rw [List.length_drop]; omega)
      rw [e0] at h
      have e17 : rest.length - 17 = (rest.drop 17).length := by simp
      rw [e17] at h
      replace h := h.sel [1, 0] rfl
      replace h := h.conv (sl' := _) (L' := [_, _]) rfl rfl
      exact ⟨n, by omega, _, c' - 17, rest.drop 17, _, _, _, by simp; omega, by simp; omega, by omega, by simp; omega, fun y hy => hrb y (List.mem_of_mem_drop hy), hro, h.sub ⟨rfl, rfl, trivial⟩⟩
end Go.Proofs.Ytllhegccpknncaa
