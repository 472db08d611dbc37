/-
  Shifts, rows that are made, bytes as texts, structs of two numbers compared.
-/
import Derived.Test.YtllhegccpknncaaSln
import Derived.Laws.BytesArg
set_option linter.unusedVariables false
set_option linter.unusedSimpArgs false
set_option linter.unusedSectionVars false
namespace Go.Tr
section
variable {P : Program} {T : TypeId} {k yk : IntKind} {x y : Int} {ox oy : Operand}
theorem B.shl (h0 : 0 ≤ y) : BinRuns P .shl T ox oy (.int k x) (.int yk y) (.int k (k.wrap (x * 2 ^ (Min.min y.toNat k.bits)))) := fun w => by
  have h1 : ¬ y < 0 := by omega
  simp [eqGuard, binOp, Op.shift, h1]
theorem B.shr (h0 : 0 ≤ y) : BinRuns P .shr T ox oy (.int k x) (.int yk y) (.int k (x / 2 ^ (Min.min y.toNat k.bits))) := fun w => by
  have h1 : ¬ y < 0 := by omega
  have h2 : x.fdiv (2 ^ (Min.min y.toNat k.bits)) = x / 2 ^ (Min.min y.toNat k.bits) := Int.fdiv_eq_ediv_of_nonneg _ (Int.pow_nonneg (by decide))
  simp [eqGuard, binOp, Op.shift, h1, h2]
theorem B.streq {a b : ByteArray} : BinRuns P .eql T ox oy (.string a) (.string b) (.bool (a.toList == b.toList)) := fun w => by
  simp [eqGuard, binOp, Op.stringOp]
end
theorem flat_replicate {U : Type} (E : Enc U) {y0 : U} {v : Value} (hv : E.val y0 = [v]) : ∀ n : Nat, E.flat (List.replicate n y0) = List.replicate n v
  | 0 => rfl
  | n + 1 => by
    have ih := flat_replicate E hv n
    unfold Enc.flat at ih ⊢
    rw [List.replicate_succ, List.flatMap_cons, hv, List.replicate_succ, ih]; rfl
theorem flat_bytes (E : Enc Int) (hE : ∀ y, E.val y = [.int .u8 y]) : ∀ ys : List Int, E.flat ys = ys.map (Value.int .u8)
  | [] => rfl
  | y :: l => by
    have ih := flat_bytes E hE l
    unfold Enc.flat at ih ⊢
    rw [List.flatMap_cons, hE, List.map_cons, ih]; rfl
section
variable {P : Program} {w0 : World} {S0 R : Fp} {N : Nat} {sl : List (Nat × Value)} {L : List Assn} {a : Act} {w : World} {o : Oper} {x y : Operand}
theorem Acts.make {U : Type} (E : Enc U) (y0 : U) {T e : TypeId} {n : Nat} {z v : Value} {ti : TypeInfo} (ho : o.op = .makeSlice T x y) (hx : ev sl x = some (.int .i64 n)) (hy : ev sl y = some (.int .i64 n))
    (hu : P.underlying T = some (.slice e)) (htr : ∀ w, (typeInfo e).run P w = .ok ti w) (hsz : ∀ w, (sizeOf e).run P w = .ok 1 w) (hz : ∀ w, (zeroValue e).run P w = .ok z w) (hzc : z.cells = #[v]) (hE : E.sz = 1) (hv : E.val y0 = [v])
    (hb : ti.bytes * n ≤ 281474976710656) (hn : n ≤ 281474976710656) :
    Acts P o sl L (fun u L' => ∃ b, u = rlv (some ⟨b, 0, none⟩) n n ∧ L' = ownl E e (some ⟨b, 0, none⟩) n (List.replicate n y0) :: L) := by
  intro a w S R hs hL hal hR hSR
  have hnm : n ≤ maxLen := by simp only [maxLen]; omega
  have hfl : E.flat (List.replicate n y0) = List.replicate n v := flat_replicate E hv n
  obtain ⟨S', h1, h2, h3⟩ := holds_new hL hal hR (.cells (Array.replicate n v) e) (A := ownl E e (some ⟨w.heap.size, 0, none⟩) n (List.replicate n y0)) fun T' hT' =>
    ownl_new E w _ n _ e T' R hT' (by simp) hnm (by simp [hE]) (by rw [hfl, hE]; simp)
  refine ⟨.slice (some ⟨w.heap.size, 0, none⟩) n n, w.alloc (.cells (Array.replicate n v) e), _, S', ?_, ⟨_, rfl, rfl⟩, Evo.alloc S w _, h1, h2, h3⟩
  have hcells : (Array.range n).map (fun j => z.cells[j % z.cells.size]!) = Array.replicate n v := by
    rw [hzc]
    exact Array.ext (by simp) fun i h1 h2 => by simp [Nat.mod_one]
  have wl : IntKind.i64.wrap (n : Int) = n := wrap_i64 (by omega) (by omega)
  have n1 : ¬ (n : Int) < 0 := by omega
  have n2 : ¬ (281474976710656 < (ti.bytes : Int) * n) := by
    have : ((ti.bytes * n : Nat) : Int) ≤ 281474976710656 := by omega
    rw [Int.natCast_mul] at this; omega
  by_cases hn0 : n = 0
  · have w0' : IntKind.i64.wrap 0 = 0 := rfl
    subst hn0
    simp [w0', execOp, ho, hs.ev hx, hs.ev hy, Instr.makeSlice, run_underlying hu, asInt, asIntOf, htr, hsz, newRow, Array.range_zero']
  · simp [execOp, ho, hs.ev hx, hs.ev hy, Instr.makeSlice, run_underlying hu, asInt, asIntOf, htr, hsz, hz, newRow, wl, n1, n2, hn0, hcells]
theorem St.make (h : St w0 S0 R N sl L a w) {ops : Array Oper} {Q : Exit → Act → World → Prop} {rest : List Oper} {d : Nat} {U : Type} (E : Enc U) (y0 : U) {T e : TypeId} {n : Nat} {z v : Value} {ti : TypeInfo} (ho : o.op = .makeSlice T x y) (hx : ev sl x = some (.int .i64 n)) (hy : ev sl y = some (.int .i64 n))
    (hu : P.underlying T = some (.slice e)) (htr : ∀ w, (typeInfo e).run P w = .ok ti w) (hsz : ∀ w, (sizeOf e).run P w = .ok 1 w) (hz : ∀ w, (zeroValue e).run P w = .ok z w) (hzc : z.cells = #[v]) (hE : E.sz = 1) (hv : E.val y0 = [v])
    (hb : ti.bytes * n ≤ 281474976710656) (hn : n ≤ 281474976710656) (hg : o.guard = none) (hd : o.dst = some d) (hN : Nat.blt d N = true)
    (k : ∀ b a' w', St w0 S0 R N ((d, rlv (some ⟨b, 0, none⟩) n n) :: sl) (ownl E e (some ⟨b, 0, none⟩) n (List.replicate n y0) :: L) a' w' → wpList P ops Q rest a' w') : wpList P ops Q (o :: rest) a w :=
  h.act hg hd hN (Acts.make E y0 ho hx hy hu htr hsz hz hzc hE hv hb hn) fun v L' a' w' hp h => by obtain ⟨b, rfl, rfl⟩ := hp; exact k b a' w' h
/-- A row of bytes as a text. -/
theorem G.str (E : Enc Int) {A : Option Addr} {n c : Nat} {ys : List Int} {src dst e : TypeId} (hE : ∀ y, E.val y = [.int .u8 y]) (hr : ∀ w S R, (stars L).holds w S R → ∃ R', (rdl E A ys).holds w (fun _ _ => False) R') (hn : n = ys.length) (ho : o.op = .convert src dst x) (hx : ev sl x = some (rlv A n c))
    (hs : P.underlying src = some (.slice e)) (he : P.underlying e = some (.int .u8)) (hd : P.underlying dst = some .string) : Gets P o sl L (.string (strOfNums ys)) := by
  intro a w S R hsl hL
  obtain ⟨R', _, hc⟩ := hr w S R hL
  subst hn
  have key : (convert src dst (rlv A ys.length c)).run P w = .ok (.string (strOfNums ys)) w := by
    by_cases h0 : ys = []
    · subst h0
      rcases A with _ | ⟨b, off, m⟩
      · exact run_convert_bytes_nil w src e hs he 0 c dst hd
      · unfold rlv
        rw [run_convert_bytes_string w src dst e _ _ c hs he hd]
        exact run_bytesToString w _ 0 c [] (by simp [loadCells, loadCellsFrom])
    · obtain ⟨p, rfl, hp⟩ := hc h0
      refine run_convert_bytes_arg w src e hs he p.1 p.2 ys.length c ys rfl (fun i hi => ?_) dst hd
      refine (hp i _ ?_).2
      have hfl : E.flat ys = ys.map (Value.int .u8) := flat_bytes E hE ys
      rw [hfl, List.getElem?_map, List.getElem?_eq_getElem hi]
      simp [List.getD, List.getElem?_eq_getElem hi]
  simp only [execOp, ho, hsl.ev hx, Sem.run_bind, Sem.run_pure, key, Result.andThen_ok]
theorem G.strO (i : Nat) (E : Enc Int) {A : Option Addr} {n c c' : Nat} {ys : List Int} {src dst e e' : TypeId} (hi : L[i]? = some (ownl E e' A c' ys)) (hE : ∀ y, E.val y = [.int .u8 y]) (hn : n = ys.length) (ho : o.op = .convert src dst x) (hx : ev sl x = some (rlv A n c))
    (hs : P.underlying src = some (.slice e)) (he : P.underlying e = some (.int .u8)) (hd : P.underlying dst = some .string) : Gets P o sl L (.string (strOfNums ys)) :=
  G.str E hE (fun w S R hL => by
    obtain ⟨S1, S2, _, _, _, hc, _⟩ := stars_take L i _ hi w S R hL
    exact ⟨_, (ownl_ro E e' A c' ys) w S1 R hc⟩) hn ho hx hs he hd
theorem G.strR (i : Nat) (E : Enc Int) {A : Option Addr} {n c : Nat} {ys : List Int} {src dst e : TypeId} (hi : L[i]? = some (rdl E A ys)) (hE : ∀ y, E.val y = [.int .u8 y]) (hn : n = ys.length) (ho : o.op = .convert src dst x) (hx : ev sl x = some (rlv A n c))
    (hs : P.underlying src = some (.slice e)) (he : P.underlying e = some (.int .u8)) (hd : P.underlying dst = some .string) : Gets P o sl L (.string (strOfNums ys)) :=
  G.str E hE (fun w S R hL => by
    obtain ⟨S1, S2, _, _, _, hc, _⟩ := stars_take L i _ hi w S R hL
    exact ⟨R, hc⟩) hn ho hx hs he hd
theorem strOfNums_eq {xs ys : List Int} (hx : ∀ x ∈ xs, 0 ≤ x ∧ x < 256) (hy : ∀ x ∈ ys, 0 ≤ x ∧ x < 256) : ((strOfNums xs).toList == (strOfNums ys).toList) = decide (xs = ys) := by
  rw [ByteArray.toList_eq, ByteArray.toList_eq, strOfNums_data, strOfNums_data, Bool.eq_iff_iff, beq_iff_eq, decide_eq_true_iff]
  refine ⟨fun h => ?_, fun h => by rw [h]⟩
  induction xs generalizing ys with
  | nil => cases ys with
    | nil => rfl
    | cons y l => simp at h
  | cons x l ih =>
    cases ys with
    | nil => simp at h
    | cons y m =>
      simp only [List.map_cons, List.cons.injEq] at h
      have h1 := hx x (List.mem_cons_self ..)
      have h2 := hy y (List.mem_cons_self ..)
      have h3 := congrArg UInt8.toNat h.1
      simp only [UInt8.toNat_ofNat'] at h3
      rw [ih (fun z hz => hx z (List.mem_cons_of_mem _ hz)) (fun z hz => hy z (List.mem_cons_of_mem _ hz)) h.2]
      congr 1
      omega
end
end Go.Tr
