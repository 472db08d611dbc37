/-
  The rules in the form in which a walk takes them; what the commonest operations on values come to.
-/
import Derived.Test.YtllhegccpknncaaSlc
set_option linter.unusedVariables false
set_option linter.unusedSimpArgs false
set_option linter.unusedSectionVars false
namespace Go.Tr
section
variable {P : Program} {w0 : World} {S0 R : Fp} {N : Nat} {sl : List (Nat × Value)} {L : List Assn} {a : Act} {w : World}
variable {ops : Array Oper} {Q : Exit → Act → World → Prop} {rest : List Oper} {o : Oper} {d : Nat} {v : Value}

theorem St.alloc (h : St w0 S0 R N sl L a w) {T : TypeId} {z : Value} (hz : ∀ w, (zeroValue T).run P w = .ok z w) (ho : o.op = .alloc T) (hg : o.guard = none) (hd : o.dst = some d) (hN : Nat.blt d N = true)
    (k : ∀ b a' w', St w0 S0 R N ((d, .pointer (some ⟨b, 0, none⟩)) :: sl) (cells b 0 z.cells.toList :: L) a' w' → wpList P ops Q rest a' w') : wpList P ops Q (o :: rest) a w :=
  h.act hg hd hN (Acts.alloc ho hz) fun v L' a' w' hp h => by obtain ⟨b, rfl, rfl⟩ := hp; exact k b a' w' h
theorem St.box (h : St w0 S0 R N sl L a w) {T : TypeId} {x : Operand} {vx : Value} (ho : o.op = .box T x) (hx : ev sl x = some vx) (hg : o.guard = none) (hd : o.dst = some d) (hN : Nat.blt d N = true)
    (k : ∀ b a' w', St w0 S0 R N ((d, .pointer (some ⟨b, 0, none⟩)) :: sl) (cells b 0 vx.cells.toList :: L) a' w' → wpList P ops Q rest a' w') : wpList P ops Q (o :: rest) a w :=
  h.act hg hd hN (Acts.box ho hx) fun v L' a' w' hp h => by obtain ⟨b, rfl, rfl⟩ := hp; exact k b a' w' h
theorem St.bslice (h : St w0 S0 R N sl L a w) {U : Type} (E : Enc U) (ys : List U) {T e : TypeId} {n : Nat} {parts : List (Nat × Operand)} {pv : List (Nat × Value)} {z : Value} (ho : o.op = .buildSlice T n parts.toArray) (hp : evp sl parts = some pv)
    (hu : P.underlying T = some (.slice e)) (hsz : ∀ w, (sizeOf e).run P w = .ok E.sz w) (hz : ∀ w, (zeroValue e).run P w = .ok z w) (hn : n = ys.length) (hb : Nat.ble (n * E.sz) 1024 = true)
    (hf : Covers E 0 pv ys) (hg : o.guard = none) (hd : o.dst = some d) (hN : Nat.blt d N = true)
    (k : ∀ b a' w', St w0 S0 R N ((d, rlv (some ⟨b, 0, none⟩) n n) :: sl) (ownl E e (some ⟨b, 0, none⟩) n ys :: L) a' w' → wpList P ops Q rest a' w') : wpList P ops Q (o :: rest) a w :=
  h.act hg hd hN (Acts.bslice E ys ho hp hu hsz hz hn (Nat.le_of_ble_eq_true hb) hf) fun v L' a' w' hp h => by obtain ⟨b, rfl, rfl⟩ := hp; exact k b a' w' h
theorem St.append (h : St w0 S0 R N sl L a w) {U : Type} (E : Enc U) (i : Nat) {e t : TypeId} {ti : TypeInfo} {z : Value} {A B : Option Addr} {c c' n m : Nat} {ys zs : List U} {x y : Operand} (hi : L[i]? = some (ownl E e A c ys)) (hj : Ro (stars (L.eraseIdx i)) (stars [rdl E B zs]))
    (ho : o.op = .call { callee := .builtin .append, args := #[x, y], argTypes := #[t, t] }) (hx : ev sl x = some (rlv A n c)) (hy : ev sl y = some (rlv B m c')) (hn : n = ys.length) (hm : m = zs.length)
    (ht : P.underlying t = some (.slice e)) (htr : ∀ w, (typeInfo e).run P w = .ok ti w) (hz : ti.zero = some z) (hsize : ti.size = E.sz) (hzs : z.cells.size = E.sz) (bytes : Nat) (hby : ti.bytes = bytes) (hb : (ys.length + zs.length) * bytes ≤ 140737488355328) (hmx : ys.length + zs.length ≤ 140737488355328)
    (hg : o.guard = none) (hd : o.dst = some d) (hN : Nat.blt d N = true)
    (k : ∀ A' c'' a' w', (A' = none ↔ A = none ∧ zs = []) → St w0 S0 R N ((d, rlv A' (ys ++ zs).length c'') :: sl) (ownl E e A' c'' (ys ++ zs) :: L.eraseIdx i) a' w' → wpList P ops Q rest a' w') : wpList P ops Q (o :: rest) a w :=
  h.act hg hd hN (Acts.append E i hi hj ho hx hy hn hm ht htr hz hsize hzs bytes hby hb hmx) fun v L' a' w' hp h => by obtain ⟨g', c'', rfl, hnil, rfl⟩ := hp; exact k g' c'' a' w' hnil h

/-- Nothing is owned at a nil slice: it may be appended to. -/
theorem St.nil (h : St w0 S0 R N sl L a w) {U : Type} (E : Enc U) (e : TypeId) : St w0 S0 R N sl (ownl E e none 0 [] :: L) a w :=
  h.ent fun w S R hL => ⟨fun _ _ => False, S, fun _ _ x => x.elim, fun _ _ x => x, fun _ _ x _ => x, ownl_nil E e w _ R, hL⟩
theorem St.nilr (h : St w0 S0 R N sl L a w) {U : Type} (E : Enc U) (A : Option Addr) : St w0 S0 R N sl (rdl E A [] :: L) a w :=
  h.ent fun w S R hL => ⟨fun _ _ => False, S, fun _ _ x => x.elim, fun _ _ x => x, fun _ _ x _ => x, rdl_nil E w A _ R, hL⟩
theorem St.drop (h : St w0 S0 R N sl L a w) (i : Nat) : St w0 S0 R N sl (L.eraseIdx i) a w := h.ent (Ent.drop L i)
theorem St.pick (h : St w0 S0 R N sl L a w) (ix : List Nat) {X Y : List Assn} (hp : picks ix L = some (X, Y)) : St w0 S0 R N sl (X ++ Y) a w :=
  h.ent ((picks_ent ix L X Y hp).trans (stars_append' X Y))
theorem St.sel (h : St w0 S0 R N sl L a w) (ix : List Nat) {X Y : List Assn} (hp : picks (rel ix) L = some (X, Y)) : St w0 S0 R N sl X a w := h.ent (Ent.picks (rel ix) hp)
theorem St.only (h : St w0 S0 R N sl L a w) (ix : List Nat) {X Y : List Assn} (hp : picks ix L = some (X, Y)) : St w0 S0 R N sl X a w := h.ent (Ent.picks ix hp)
/-- Some of the assertions are turned into one. -/
theorem St.fold (h : St w0 S0 R N sl L a w) (ix : List Nat) {X Y : List Assn} {A : Assn} (hp : picks (rel ix) L = some (X, Y)) (he : Ent (stars X) A) : St w0 S0 R N sl (A :: Y) a w :=
  h.ent ((picks_ent (rel ix) L X Y hp).trans (Ent.star he (Ent.refl _)))
theorem stars_two {A B C : Assn} (h : Ent (star A B) C) : Ent (stars [A, B]) C := (Ent.star (Ent.refl A) (star_fst B emp)).trans h
theorem stars_two' {A B C : Assn} (h : Ent C (star A B)) : Ent C (stars [A, B]) := h.trans (Ent.star (Ent.refl A) fun w S R x => ⟨S, fun _ _ => False, fun _ _ x => x, fun _ _ x => x.elim, fun _ _ _ x => x, x, trivial⟩)
theorem many_snocL {α : Type} (A : α → Assn) (l : List α) (y : α) : Ent (stars [A y, many A l]) (many A (l ++ [y])) := stars_two (many_snoc A l y)
theorem many_putL {α : Type} (A : α → Assn) {l : List α} {i : Nat} {x : α} (y : α) (h : l[i]? = some x) : Ent (stars [A y, many A (l.eraseIdx i)]) (many A (l.set i y)) := stars_two (many_put A y h)
theorem many_takeL {α : Type} (A : α → Assn) {l : List α} {i : Nat} {x : α} (h : l[i]? = some x) : Ent (many A l) (stars [A x, many A (l.eraseIdx i)]) := stars_two' (many_take A h)

/-! ### What operations on values come to -/

/-- A pointer to a block's begin, or nil. -/
def pv (g : Option Nat) : Value := .pointer (g.map fun b => ⟨b, 0, none⟩)

section
variable {T : TypeId} {k : IntKind} {x y : Int} {ox oy : Operand}
abbrev BinRuns (P : Program) (bop : BinOp) (T : TypeId) (ox oy : Operand) (vx vy v : Value) : Prop := ∀ w, (do eqGuard bop T ox oy vx vy; binOp bop T vx vy : Sem Value).run P w = .ok v w
theorem B.add : BinRuns P .add T ox oy (.int k x) (.int k y) (.int k (k.wrap (x + y))) := fun w => by simp [go_sem]
theorem B.sub : BinRuns P .sub T ox oy (.int k x) (.int k y) (.int k (k.wrap (x - y))) := fun w => by simp [go_sem]
theorem B.mul : BinRuns P .mul T ox oy (.int k x) (.int k y) (.int k (k.wrap (x * y))) := fun w => by simp [go_sem]
theorem wrap_i64 {n : Int} (h0 : -9223372036854775808 ≤ n) (h1 : n ≤ 9223372036854775807) : IntKind.i64.wrap n = n := by
  simp [IntKind.wrap, IntKind.bits, IntKind.signed]; omega
theorem wrap_u64 {n : Int} (h0 : 0 ≤ n) (h1 : n ≤ 18446744073709551615) : IntKind.u64.wrap n = n := by
  simp [IntKind.wrap, IntKind.bits, IntKind.signed]; omega
theorem wrap_u32 {n : Int} (h0 : 0 ≤ n) (h1 : n ≤ 4294967295) : IntKind.u32.wrap n = n := by
  simp [IntKind.wrap, IntKind.bits, IntKind.signed]; omega
theorem wrap_u8 {n : Int} (h0 : 0 ≤ n) (h1 : n ≤ 255) : IntKind.u8.wrap n = n := by
  simp [IntKind.wrap, IntKind.bits, IntKind.signed]; omega
theorem B.addi (h0 : -9223372036854775808 ≤ x + y) (h1 : x + y ≤ 9223372036854775807) : BinRuns P .add T ox oy (.int .i64 x) (.int .i64 y) (.int .i64 (x + y)) := fun w => by rw [B.add w, wrap_i64 h0 h1]
theorem B.subi (h0 : -9223372036854775808 ≤ x - y) (h1 : x - y ≤ 9223372036854775807) : BinRuns P .sub T ox oy (.int .i64 x) (.int .i64 y) (.int .i64 (x - y)) := fun w => by rw [B.sub w, wrap_i64 h0 h1]
theorem B.muli (h0 : -9223372036854775808 ≤ x * y) (h1 : x * y ≤ 9223372036854775807) : BinRuns P .mul T ox oy (.int .i64 x) (.int .i64 y) (.int .i64 (x * y)) := fun w => by rw [B.mul w, wrap_i64 h0 h1]
theorem B.addu (h0 : 0 ≤ x + y) (h1 : x + y ≤ 18446744073709551615) : BinRuns P .add T ox oy (.int .u64 x) (.int .u64 y) (.int .u64 (x + y)) := fun w => by rw [B.add w, wrap_u64 h0 h1]
theorem B.quo (h : y ≠ 0) : BinRuns P .quo T ox oy (.int k x) (.int k y) (.int k (k.wrap (x.tdiv y))) := fun w => by simp [go_sem, h]
theorem B.rem (h : y ≠ 0) : BinRuns P .rem T ox oy (.int k x) (.int k y) (.int k (x.tmod y)) := fun w => by simp [go_sem, h]
theorem B.and : BinRuns P .and T ox oy (.int k x) (.int k y) (.int k (bits .and k x y)) := fun w => by simp [go_sem]
theorem B.or : BinRuns P .or T ox oy (.int k x) (.int k y) (.int k (bits .or k x y)) := fun w => by simp [go_sem]
theorem B.xor : BinRuns P .xor T ox oy (.int k x) (.int k y) (.int k (bits .xor k x y)) := fun w => by simp [go_sem]
theorem B.eql : BinRuns P .eql T ox oy (.int k x) (.int k y) (.bool (decide (x = y))) := fun w => by
  simp [go_sem]; rw [Bool.eq_iff_iff]; simp
theorem B.neq : BinRuns P .neq T ox oy (.int k x) (.int k y) (.bool (decide (x ≠ y))) := fun w => by
  simp [go_sem, bne]; rw [Bool.eq_iff_iff]; simp
theorem B.lss : BinRuns P .lss T ox oy (.int k x) (.int k y) (.bool (decide (x < y))) := fun w => by simp [go_sem]
theorem B.leq : BinRuns P .leq T ox oy (.int k x) (.int k y) (.bool (decide (x ≤ y))) := fun w => by simp [go_sem]
theorem B.gtr : BinRuns P .gtr T ox oy (.int k x) (.int k y) (.bool (decide (y < x))) := fun w => by simp [go_sem]
theorem B.geq : BinRuns P .geq T ox oy (.int k x) (.int k y) (.bool (decide (y ≤ x))) := fun w => by simp [go_sem]
theorem B.eqlT (h : x = y) : BinRuns P .eql T ox oy (.int k x) (.int k y) (.bool true) := fun w => by rw [B.eql w, decide_eq_true h]
theorem B.eqlF (h : ¬ (x = y)) : BinRuns P .eql T ox oy (.int k x) (.int k y) (.bool false) := fun w => by rw [B.eql w, decide_eq_false h]
theorem B.neqT (h : x ≠ y) : BinRuns P .neq T ox oy (.int k x) (.int k y) (.bool true) := fun w => by rw [B.neq w, decide_eq_true h]
theorem B.neqF (h : ¬ (x ≠ y)) : BinRuns P .neq T ox oy (.int k x) (.int k y) (.bool false) := fun w => by rw [B.neq w, decide_eq_false h]
theorem B.lssT (h : x < y) : BinRuns P .lss T ox oy (.int k x) (.int k y) (.bool true) := fun w => by rw [B.lss w, decide_eq_true h]
theorem B.lssF (h : ¬ (x < y)) : BinRuns P .lss T ox oy (.int k x) (.int k y) (.bool false) := fun w => by rw [B.lss w, decide_eq_false h]
theorem B.leqT (h : x ≤ y) : BinRuns P .leq T ox oy (.int k x) (.int k y) (.bool true) := fun w => by rw [B.leq w, decide_eq_true h]
theorem B.leqF (h : ¬ (x ≤ y)) : BinRuns P .leq T ox oy (.int k x) (.int k y) (.bool false) := fun w => by rw [B.leq w, decide_eq_false h]
theorem B.gtrT (h : y < x) : BinRuns P .gtr T ox oy (.int k x) (.int k y) (.bool true) := fun w => by rw [B.gtr w, decide_eq_true h]
theorem B.gtrF (h : ¬ (y < x)) : BinRuns P .gtr T ox oy (.int k x) (.int k y) (.bool false) := fun w => by rw [B.gtr w, decide_eq_false h]
theorem B.geqT (h : y ≤ x) : BinRuns P .geq T ox oy (.int k x) (.int k y) (.bool true) := fun w => by rw [B.geq w, decide_eq_true h]
theorem B.geqF (h : ¬ (y ≤ x)) : BinRuns P .geq T ox oy (.int k x) (.int k y) (.bool false) := fun w => by rw [B.geq w, decide_eq_false h]
end
section
variable {T T' : TypeId} {ox oy : Operand} {b c : Bool}
theorem equal_run {vx vy : Value} {r : Bool} (hd : ∀ d w, (Op.equalIn (d + 1) T vx vy).run P w = .ok r w) (w : World) : (Op.equal T vx vy).run P w = .ok r w := hd 9999 w
theorem B.eqlb (hu : P.underlying T = some .bool) : BinRuns P .eql T ox oy (.bool b) (.bool c) (.bool (b == c)) := fun w => by
  have := equal_run (P := P) (T := T) (vx := .bool b) (vy := .bool c) (r := b == c) (fun d w => by simp [Op.equalIn, run_underlying hu]) w
  simp only [eqGuard_at_bool, binOp, Sem.run_bind, Sem.run_pure, Result.andThen_ok, this]
theorem B.neqb (hu : P.underlying T = some .bool) : BinRuns P .neq T ox oy (.bool b) (.bool c) (.bool (!(b == c))) := fun w => by
  have := equal_run (P := P) (T := T) (vx := .bool b) (vy := .bool c) (r := b == c) (fun d w => by simp [Op.equalIn, run_underlying hu]) w
  simp only [eqGuard_at_bool, binOp, Sem.run_bind, Sem.run_pure, Result.andThen_ok, this]
theorem B.peql (hu : P.underlying T = some (.pointer T')) (g : Option Addr) : BinRuns P .eql T ox oy (.pointer g) (.pointer none) (.bool g.isNone) := fun w => by
  have := equal_run (P := P) (T := T) (vx := .pointer g) (vy := .pointer none) (r := g.isNone) (fun d w => by cases g <;> simp [Op.equalIn, run_underlying hu]) w
  simp only [eqGuard_at_pointer, binOp, Sem.run_bind, Sem.run_pure, Result.andThen_ok, this]
theorem B.pneq (hu : P.underlying T = some (.pointer T')) (g : Option Addr) : BinRuns P .neq T ox oy (.pointer g) (.pointer none) (.bool g.isSome) := fun w => by
  have := equal_run (P := P) (T := T) (vx := .pointer g) (vy := .pointer none) (r := g.isNone) (fun d w => by cases g <;> simp [Op.equalIn, run_underlying hu]) w
  simp only [eqGuard_at_pointer, binOp, Sem.run_bind, Sem.run_pure, Result.andThen_ok, this]
  cases g <;> rfl
theorem B.seql (hu : P.underlying T = some (.slice T')) (g : Option Addr) (n c : Nat) : BinRuns P .eql T ox oy (.slice g n c) (.slice none 0 0) (.bool g.isNone) := fun w => by
  have := equal_run (P := P) (T := T) (vx := .slice g n c) (vy := .slice none 0 0) (r := g.isNone) (fun d w => by cases g <;> simp [Op.equalIn, run_underlying hu]) w
  simp only [eqGuard_at_slice, binOp, Sem.run_bind, Sem.run_pure, Result.andThen_ok, this]
theorem B.sneq (hu : P.underlying T = some (.slice T')) (g : Option Addr) (n c : Nat) : BinRuns P .neq T ox oy (.slice g n c) (.slice none 0 0) (.bool g.isSome) := fun w => by
  have := equal_run (P := P) (T := T) (vx := .slice g n c) (vy := .slice none 0 0) (r := g.isNone) (fun d w => by cases g <;> simp [Op.equalIn, run_underlying hu]) w
  simp only [eqGuard_at_slice, binOp, Sem.run_bind, Sem.run_pure, Result.andThen_ok, this]
  cases g <;> rfl
theorem B.not : ∀ w, (Op.unary .not (.bool b)).run P w = .ok (.bool (!b)) w := fun w => by simp [Op.unary]
theorem B.cvt {src dst : TypeId} {k k' : IntKind} {n : Int} {d' : TypeDesc} (hs : P.underlying src = some d') (hd : P.underlying dst = some (.int k')) : ∀ w, (convert src dst (.int k n)).run P w = .ok (.int k' (k'.wrap n)) w := fun w => by
  simp [convert, run_underlying hs, run_underlying hd, Conv.intToInt]
theorem B.cvtn {src dst : TypeId} {k k' : IntKind} {n : Int} {d' : TypeDesc} (hs : P.underlying src = some d') (hd : P.underlying dst = some (.int k')) (hn : k'.wrap n = n) : ∀ w, (convert src dst (.int k n)).run P w = .ok (.int k' n) w := fun w => by
  rw [B.cvt hs hd w, hn]
theorem B.min {x y : Int} {k : IntKind} {tys : Array TypeId} : ∀ w ty cs, (builtin .min tys ty cs #[.int k x, .int k y]).run P w = .ok (.value (.int k (if y < x then y else x))) w := fun w ty cs => by
  simp [builtin, Builtin.min_, Builtin.min2]
theorem B.max {x y : Int} {k : IntKind} {tys : Array TypeId} : ∀ w ty cs, (builtin .max tys ty cs #[.int k x, .int k y]).run P w = .ok (.value (.int k (if x < y then y else x))) w := fun w ty cs => by
  simp [builtin, Builtin.max_, Builtin.max2]
end
/-- A struct's fields lie so. -/
def Places (P : Program) : List Field → List (Nat × Nat) → Prop
  | [], [] => True
  | f :: fs, p :: ps => p.1 = f.offset ∧ (∀ w, (sizeOf f.type).run P w = .ok p.2 w) ∧ Places P fs ps
  | _, _ => False
theorem Places.run : ∀ {fs : List Field} {ps : List (Nat × Nat)}, Places P fs ps → ∀ w, (fs.mapM fun f => (do pure (f.offset, ← sizeOf f.type) : Sem (Nat × Nat))).run P w = .ok ps w
  | [], [], _, w => by simp
  | f :: fs, p :: ps, h, w => by
    obtain ⟨h1, h2, h3⟩ := h
    have ih := Places.run h3 w
    simp only [List.mapM_cons, Sem.run_bind, h2 w, Result.andThen_ok, Sem.run_pure, ih]
    rw [← h1]
  | [], p :: ps, h, w => h.elim
  | f :: fs, [], h, w => h.elim
theorem G.build (ps : List (Nat × Nat)) {T : TypeId} {parts : List (Nat × Operand)} {pv : List (Nat × Value)} {z : Value} {fs : List Field} {cs : Array Value} (ho : o.op = .build T parts.toArray) (h1 : evp sl parts = some pv)
    (hz : ∀ w, (zeroValue T).run P w = .ok z w) (hu : P.underlying T = some (.struct fs.toArray)) (hp : Places P fs ps) (hf : Instr.fill (ps.toArray[·]?) z.cells pv = some cs) : Gets P o sl L (.agg cs) := by
  intro a w S R hs hL
  have h1' : (parts.toArray.map fun (i, x) => (i, a.eval x)) = pv.toArray := by rw [← hs.evp h1]; simp
  have hrun := hp.run w
  have hm : (fs.toArray.mapM fun f => (do pure (f.offset, ← sizeOf f.type) : Sem (Nat × Nat))).run P w = .ok ps.toArray w := by
    rw [List.mapM_toArray, Sem.run_map, hrun, Result.andThen_ok]
  simp only [execOp, ho, h1', Instr.build, Sem.run_bind, hz w, Result.andThen_ok, run_underlying hu, hm, hf, Sem.run_pure]
/-- An array's element, in memory. -/
theorem G.idxa {x y : Operand} {T e : TypeId} {b off n s : Nat} {k : IntKind} {i : Int} (ho : o.op = .indexAddr T x y) (hx : ev sl x = some (.pointer (some ⟨b, off, none⟩))) (hy : ev sl y = some (.int k i)) (h0 : 0 ≤ i) (h1 : i < n)
    (hu : P.underlying T = some (.array n e)) (hz : ∀ w, (sizeOf e).run P w = .ok s w) : Gets P o sl L (.pointer (some ⟨b, off + i.toNat * s, none⟩)) := by
  intro a w S R hs hL
  simp [execOp, ho, hs.ev hx, hs.ev hy, Instr.indexAt, asIntOf, Instr.sureAddr, run_underlying hu, h0, h1, hz, addr_add]
end
end Go.Tr
