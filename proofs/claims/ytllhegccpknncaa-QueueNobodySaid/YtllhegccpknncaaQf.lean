/-
  The queue's New; the statements' long.
-/
import Derived.Test.YtllhegccpknncaaRf
import Derived.Test.YtllhegccpknncaaSeat
set_option linter.unusedVariables false
set_option linter.unusedSimpArgs false
set_option linter.unusedSectionVars false
set_option maxRecDepth 8000
namespace Go.Proofs.Ytllhegccpknncaa
open Go.Tr

theorem star_free {A : Assn} {B : Assn} {w : World} {S R : Fp} (ha : A.holds w (fun _ _ => False) R) (hb : B.holds w S R) : (star A B).holds w S R :=
  ⟨fun _ _ => False, S, fun _ _ x => x.elim, fun _ _ x => x, fun _ _ x _ => x, ha, hb⟩
theorem star_rest {A : Assn} {B : Assn} {w : World} {S R : Fp} (ha : A.holds w S R) (hb : B.holds w (fun _ _ => False) R) : (star A B).holds w S R :=
  ⟨S, fun _ _ => False, fun _ _ x => x, fun _ _ x => x.elim, fun _ _ _ x => x, ha, hb⟩
theorem QAt_new (b o : Nat) : Ent (stars [cells b o [.slice none 0 0, .slice none 0 0, .int .i64 0]]) (QAt b o ⟨[], [], 0⟩) := by
  rintro w S R ⟨S1, S2, h1, h2, hd, ha, _⟩
  exact QAt_mk (q := ⟨[], [], 0⟩) none 0 none 0 [] rfl w S R (star_rest ((cells b o _).mono ha h1 fun _ _ x => x) (star_free (.inl ⟨rfl, rfl⟩) (star_free (.inl ⟨rfl, rfl⟩) (star_free trivial trivial))))
theorem RAt_new (b o : Nat) : Ent (stars [cells b o [.slice none 0 0, .slice none 0 0, .int .i64 0]]) (RAt b o ⟨[], [], 0⟩) := by
  rintro w S R ⟨S1, S2, h1, h2, hd, ha, _⟩
  exact RAt_mk (q := ⟨[], [], 0⟩) none 0 none 0 [] rfl w S R (star_rest ((cells b o _).mono ha h1 fun _ _ x => x) (star_free (.inl ⟨rfl, rfl⟩) (star_free (.inl ⟨rfl, rfl⟩) (star_free trivial trivial))))
theorem New_spec : Meets Try.prog 36 #[] [] (fun v L => ∃ b, v = .pointer (some ⟨b, 0, none⟩) ∧ L = [QAt b 0 ⟨[], [], 0⟩]) := by
  refine Meets.of_code Try.func36 rfl Try.ntmps36 rfl fun w0 S R a h => ?_
  refine C.seq ?_
  refine C.region ?_
  refine St.get h rfl rfl rfl (G.assign rfl rfl) fun a h => ?_
  refine wpl_nil ?_
  refine X.thenN ?_
  refine C.seq ?_
  refine C.region ?_
  refine St.get h rfl rfl rfl (G.build [(0, 1), (1, 1), (2, 1)] rfl rfl Try.zeroValue33 Try.underlying33 ⟨rfl, Try.sizeOf30, rfl, Try.sizeOf31, rfl, Try.sizeOf3, trivial⟩ rfl) fun a h => ?_
  replace h := h.conv (sl' := (_, .agg #[_, _, _]) :: _) (L' := _) rfl rfl
  refine St.box h rfl rfl rfl rfl rfl fun b1 a w h => ?_
  replace h := h.conv (sl' := _) (L' := [cells _ _ [_, _, _]]) rfl rfl
  refine St.get h rfl rfl rfl (G.assign rfl rfl) fun a h => ?_
  refine wpl_nil ?_
  refine X.thenN ?_
  refine C.ret ?_
  replace h := h.fold [0] rfl ((QAt_new b1 0))
  replace h := h.conv (sl' := _) (L' := [_]) rfl rfl
  exact h.ret1 Try.results36 rfl (Ent.refl _) (⟨b1, rfl, rfl⟩)
end Go.Proofs.Ytllhegccpknncaa
