/-
  (*queue.Queue).find: the first work that bears a number.
-/
import Derived.Test.YtllhegccpknncaaQmd
import Derived.Test.YtllhegccpknncaaSeat
set_option linter.unusedVariables false
set_option linter.unusedSimpArgs false
set_option linter.unusedSectionVars false
set_option maxRecDepth 8000
namespace Go.Proofs.Ytllhegccpknncaa
open Go.Tr

theorem findW_skip {n : Int} : ∀ {ws : List (Nat × QW)} {i : Nat} {p : Nat × QW}, ws[i]? = some p → p.2.n ≠ n → findW n (ws.drop i) = findW n (ws.drop (i + 1))
  | [], i, p, h, _ => by simp at h
  | q :: ws, 0, p, h, hn => by simp at h; subst h; simp [findW, hn]
  | q :: ws, i + 1, p, h, hn => by simpa using findW_skip (ws := ws) (i := i) (by simpa using h) hn
theorem findW_hit {n : Int} : ∀ {ws : List (Nat × QW)} {i : Nat} {p : Nat × QW}, ws[i]? = some p → p.2.n = n → findW n (ws.drop i) = some p.1
  | [], i, p, h, _ => by simp at h
  | q :: ws, 0, p, h, hn => by simp at h; subst h; simp [findW, hn]
  | q :: ws, i + 1, p, h, hn => by simpa using findW_hit (ws := ws) (i := i) (by simpa using h) hn
theorem WAt_tell (e : TypeId) (p : Nat × QW) : Tell (WAt e p) p.1 0 (.int .i64 p.2.n) :=
  Tell.ex fun _ => Tell.stars (Tells.of 0 rfl (Tell.cells 0 rfl rfl))

/-- The queue's works, found by number. -/
theorem find_spec (b o : Nat) (n : Int) (v0 v2 : Value) (g : Option Addr) (c : Nat) (ws : List (Nat × QW)) :
    Meets Try.prog 51 #[.pointer (some ⟨b, o, none⟩), .int .i64 n] [cells b o [v0, rlv g ws.length c, v2], ownl encPtr 92 g c (ws.map Prod.fst), many (WAt 80) ws]
      (Det (pv (findW n ws)) [cells b o [v0, rlv g ws.length c, v2], ownl encPtr 92 g c (ws.map Prod.fst), many (WAt 80) ws]) := by
  refine Meets.of_code Try.func51 rfl Try.ntmps51 rfl fun w0 S R a h => ?_
  have hlen : ws.length ≤ 9223372036854775807 := by have := h.tell1 1 rfl fun _ _ _ => ownl_len; simpa using this
  refine C.seq ?_
  refine C.region ?_
  refine St.get h rfl rfl rfl (G.assign rfl rfl) fun a h => ?_
  refine wpl_nil ?_
  refine X.thenN ?_
  refine C.seq ?_
  refine C.seq ?_
  refine C.region ?_
  refine St.get h rfl rfl rfl (G.move rfl rfl) fun a h => ?_
  refine St.get h rfl rfl rfl (G.nilc rfl rfl) fun a h => ?_
  refine St.get h rfl rfl rfl (G.fadr 1 rfl rfl Try.underlying33 rfl rfl Try.sizeOf31) fun a h => ?_
  refine St.get h rfl rfl rfl (G.ld 0 1 rfl rfl rfl rfl rfl Try.isAgg31) fun a h => ?_
  refine St.get h rfl rfl rfl (G.lens rfl rfl Try.underlying31) fun a h => ?_
  refine St.get h rfl rfl rfl (G.move rfl rfl) fun a h => ?_
  refine wpl_nil ?_
  refine X.thenN ?_
  refine C.block ?_
  refine C.loop (fun m a w => ∃ i : Nat, i + m = ws.length ∧ findW n ws = findW n (ws.drop i) ∧ St w0 S R 24 [(1, .int .i64 n), (10, rlv g ws.length c), (11, .int .i64 ws.length), (12, .int .i64 i)]
    [cells b o [v0, rlv g ws.length c, v2], ownl encPtr 92 g c (ws.map Prod.fst), many (WAt 80) ws] a w) ws.length ⟨0, by omega, rfl, h.sub ⟨rfl, rfl, rfl, rfl, trivial⟩⟩ ?_
  rintro m a w ⟨i, hi, hf, h⟩
  by_cases hlt : i < ws.length
  · obtain ⟨p, hp⟩ : ∃ p, ws[i]? = some p := ⟨_, List.getElem?_eq_getElem hlt⟩
    have hp1 : (ws.map Prod.fst)[(i : Int).toNat]? = some p.1 := by simp [hp]
    have ht : Tell (many (WAt 80) ws) p.1 0 (.int .i64 p.2.n) := Tell.many hp (WAt_tell _ p)
    have hll : ws.length ≤ (ws.map Prod.fst).length := by simp
    refine C.seq ?_
    refine C.region ?_
    refine St.get h rfl rfl rfl (G.bin rfl rfl rfl (B.lssT (by omega))) fun a h => ?_
    refine wpl_nil ?_
    refine X.thenN ?_
    refine C.seq ?_
    refine St.condT h rfl ?_
    refine C.skip ?_
    refine X.thenN ?_
    refine C.seq ?_
    refine C.block ?_
    refine C.seq ?_
    refine C.region ?_
    refine St.get h rfl rfl rfl (G.idxo _ 1 rfl rfl rfl rfl (by omega) (by omega) (by omega) Try.underlying31 Try.sizeOf92) fun a h => ?_
    refine St.get h rfl rfl rfl (G.ldo _ 1 0 rfl (by assumption) rfl rfl rfl rfl rfl Try.isAgg92) fun a h => ?_
    refine St.get h rfl rfl rfl (G.assign rfl rfl) fun a h => ?_
    refine wpl_nil ?_
    refine X.thenN ?_
    refine C.seq ?_
    refine C.region ?_
    refine St.get h rfl rfl rfl (G.move rfl rfl) fun a h => ?_
    refine St.get h rfl rfl rfl (G.nilc rfl rfl) fun a h => ?_
    refine St.get h rfl rfl rfl (G.fadr 0 rfl rfl Try.underlying122 rfl rfl Try.sizeOf3) fun a h => ?_
    refine St.get h rfl rfl rfl (G.ldt (Tells.of 2 rfl ht) rfl rfl Try.isAgg3) fun a h => ?_
    refine St.get h rfl rfl rfl (G.move rfl rfl) fun a h => ?_
    refine St.getP h rfl rfl rfl (G.bin rfl rfl rfl B.eql) (fun hc a h => ?_) (fun hc a h => ?_)
    refine wpl_nil ?_
    refine X.thenN ?_
    refine St.condT h rfl ?_
    refine C.seq ?_
    refine C.region ?_
    refine St.get h rfl rfl rfl (G.move rfl rfl) fun a h => ?_
    refine St.get h rfl rfl rfl (G.assign rfl rfl) fun a h => ?_
    refine wpl_nil ?_
    refine X.thenN ?_
    refine C.ret ?_
    refine X.blkR ?_
    refine X.thenR ?_
    refine X.thenR ?_
    refine X.blkR ?_
    refine X.thenR ?_
    rotate_left
    refine wpl_nil ?_
    refine X.thenN ?_
    refine St.condF h rfl ?_
    refine C.skip ?_
    refine X.blkN ?_
    refine X.thenN ?_
    refine C.region ?_
    refine St.get h rfl rfl rfl (G.bin rfl rfl rfl (B.addi (by omega) (by omega))) fun a h => ?_
    refine St.get h rfl rfl rfl (G.move rfl rfl) fun a h => ?_
    refine wpl_nil ?_
    refine X.thenN ?_
    rotate_left
    · exact h.ret1 (v := .pointer (some ⟨p.1, 0, none⟩)) Try.results51 rfl (Ent.refl _) ⟨by rw [hf, findW_hit hp hc]; rfl, rfl⟩
    · exact ⟨m - 1, by omega, i + 1, by omega, by rw [hf, findW_skip hp hc], h.sub ⟨rfl, rfl, rfl, rfl, trivial⟩⟩
  · refine C.seq ?_
    refine C.region ?_
    refine St.get h rfl rfl rfl (G.bin rfl rfl rfl (B.lssF (by omega))) fun a h => ?_
    refine wpl_nil ?_
    refine X.thenN ?_
    refine C.seq ?_
    refine St.condF h rfl ?_
    refine C.exit ?_
    refine X.thenE ?_
    refine X.thenE ?_
    refine X.blkE ?_
    refine X.thenN ?_
    refine C.seq ?_
    refine C.region ?_
    refine St.get h rfl rfl rfl (G.assign rfl rfl) fun a h => ?_
    refine wpl_nil ?_
    refine X.thenN ?_
    refine C.ret ?_
    exact h.ret1 (v := .pointer none) Try.results51 rfl (Ent.refl _) ⟨by rw [hf, List.drop_eq_nil_of_le (by omega)]; rfl, rfl⟩
end Go.Proofs.Ytllhegccpknncaa
