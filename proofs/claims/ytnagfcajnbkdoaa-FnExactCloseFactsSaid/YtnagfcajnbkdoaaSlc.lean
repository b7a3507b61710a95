/- Types' facts, cells, local variables' blocks, rows of slices, and the operations that only yield a value. -/
import Derived.Test.YtnagfcajnbkdoaaSlb
namespace Go.Proofs.Ytnagfcajnbkdoaa
open Go.RowKit
set_option linter.unusedVariables false

/-! ### types -/
def isAggD : TypeDesc → Bool
  | .struct _ | .array _ _ => true
  | _ => false
structure TyOk (P : Program) (t : TypeId) (agg : Bool) (k : Nat) (zero : List Value) (bytes : Nat) : Prop where
  info : ∃ i z, P.info? t = some i ∧ i.size = k ∧ i.bytes = bytes ∧ i.zero = some z ∧ z.cells = zero.toArray
  aggr : ∃ d, P.underlying t = some d ∧ isAggD d = agg
  zl : zero.length = k
theorem TyOk.mk' {P : Program} {t : TypeId} {agg : Bool} {k : Nat} {z : Value} {zero : List Value} {bytes : Nat}
    (h1 : (P.info? t).map (fun i => (i.size, i.bytes, i.zero)) = some (k, bytes, some z)) (h2 : (P.underlying t).map isAggD = some agg) (hz : z.cells = zero.toArray) (hl : zero.length = k) : TyOk P t agg k zero bytes := by
  obtain ⟨i, hi, h⟩ := Option.map_eq_some_iff.1 h1
  obtain ⟨d, hd, h'⟩ := Option.map_eq_some_iff.1 h2
  simp only [Prod.mk.injEq] at h
  exact ⟨⟨i, z, hi, h.1, h.2.1, h.2.2, hz⟩, ⟨d, hd, h'⟩, hl⟩
section
variable {P : Program} {t : TypeId} {agg : Bool} {k : Nat} {zero : List Value} {bytes : Nat} {w : World}
theorem TyOk.run_sizeOf (h : TyOk P t agg k zero bytes) (w : World) : (sizeOf t).run P w = .ok k w := by
  obtain ⟨i, z, h1, h2, _⟩ := h.info
  simp [sizeOf, typeInfo, h1, h2]
theorem TyOk.run_isAgg (h : TyOk P t agg k zero bytes) (w : World) : (isAgg t).run P w = .ok agg w := by
  obtain ⟨d, h1, h2⟩ := h.aggr
  simp only [isAgg, Sem.run_bind, run_underlying h1, Result.andThen_ok]
  subst h2
  cases d <;> rfl
theorem TyOk.run_zero (h : TyOk P t agg k zero bytes) (w : World) : ∃ z, (zeroValue t).run P w = .ok z w ∧ z.cells = zero.toArray := by
  obtain ⟨i, z, h1, _, _, h2, h3⟩ := h.info
  exact ⟨z, by simp [zeroValue, typeInfo, h1, h2], h3⟩
end

/-! ### cells at an address -/
def CellsAt (w : World) (b off : Nat) (cs : List Value) : Prop := ∀ j v, cs[j]? = some v → w.cell? ⟨b, off + j, none⟩ = some v
theorem CellsAt.ext {w w' : World} {b off : Nat} {cs : List Value} (h : CellsAt w b off cs) (hE : Ext w w') : CellsAt w' b off cs := fun j v hj => by
  have h1 := h j v hj
  rw [Below.cell hE (World.block_lt_of_cell? w _ h1)]; exact h1
theorem CellsAt.same {w w' : World} {b off : Nat} {cs : List Value} (h : CellsAt w b off cs) (hE : w'.heap[b]? = w.heap[b]?) : CellsAt w' b off cs := fun j v hj => by
  rw [World.cell?_of_block (w := w) (by exact hE)]; exact h j v hj
theorem CellsAt.sub {w : World} {b off : Nat} {cs : List Value} (h : CellsAt w b off cs) (i m : Nat) : CellsAt w b (off + i) ((cs.drop i).take m) := fun j v hj => by
  rw [List.getElem?_take] at hj
  split at hj
  · rw [List.getElem?_drop] at hj
    rw [Nat.add_assoc]; exact h _ v hj
  · cases hj
theorem CellsAt.sub' {w : World} {b off : Nat} {cs cs' : List Value} (h : CellsAt w b off cs) (i : Nat) (he : (cs.drop i).take cs'.length = cs') : CellsAt w b (off + i) cs' := he ▸ h.sub i _
theorem CellsAt.nil (w : World) (b off : Nat) : CellsAt w b off [] := fun j v h => by simp at h
theorem CellsAt.run_load {P : Program} {t : TypeId} {agg : Bool} {k : Nat} {zero : List Value} {bytes : Nat} {w : World} {b off : Nat} {cs : List Value} (h : CellsAt w b off cs) (ht : TyOk P t agg k zero bytes) (hl : cs.length = k) {v : Value}
    (hv : v = if agg then .agg cs.toArray else cs.headD undef) (h1 : agg = false → k = 1) : (Instr.loadAt t (.pointer (some ⟨b, off, none⟩))).run P w = .ok v w := by
  simp only [Instr.loadAt, Instr.sureAddr, loadVar, Sem.run_bind, Sem.run_pure, Result.andThen_ok, ht.run_isAgg w, Sem.run_ite]
  cases agg
  · have hk := h1 rfl
    subst hl
    match cs, hk with
    | [c], _ =>
      have := h 0 c rfl
      simp only [Nat.add_zero] at this
      simp [this, hv]
  · have := run_loadCells_list (P := P) w ⟨b, off, none⟩ cs (fun j v hj => by
      have := h j v hj
      by_cases e : j = 0
      · subst e; simpa [Addr.add] using this
      · simpa [Addr.add, e] using this)
    simp [ht.run_sizeOf w, ← hl, this, hv]

/-! ### local variables: a block known whole -/
def pt (b : Nat) (T : TypeId) (cs : List Value) : HP where
  holds w L := L = [b] ∧ w.heap[b]? = some (.cells cs.toArray T (0, 0))
  stable h hb := ⟨h.1, by rw [hb _ (by simp [h.1])]; exact h.2⟩
  inh h b hb := by
    rw [h.1] at hb
    simp only [List.mem_singleton] at hb
    subst hb
    exact (Array.getElem?_eq_some_iff.1 h.2).1
/-- the row of a slice: e the elements' type, m elements, cells cs -/
def row (e : TypeId) (k : Nat) (a : Option Addr) (m c : Nat) (cs : List Value) : HP where
  holds w L := cs.length = m * k ∧ ((c = 0 ∧ m = 0 ∧ L = []) ∨ ∃ g cur, a = some ⟨g, 0, none⟩ ∧ w.heap[g]? = some (.cells cur e (0, 0)) ∧ m ≤ c ∧ c ≤ maxLen ∧ cur.size = c * k ∧ cur.toList.take (m * k) = cs ∧ L = [g])
  stable h hb := by
    obtain ⟨h1, h2⟩ := h
    refine ⟨h1, h2.imp id ?_⟩
    rintro ⟨g, cur, rfl, h3, r⟩
    exact ⟨g, cur, rfl, by rw [hb g (by simp [r.2.2.2.2])]; exact h3, r⟩
  inh h b hb := by
    rcases h.2 with ⟨_, _, rfl⟩ | ⟨g, cur, rfl, h3, r⟩
    · cases hb
    · rw [r.2.2.2.2] at hb
      simp only [List.mem_singleton] at hb
      subst hb
      exact (Array.getElem?_eq_some_iff.1 h3).1

section
variable {n : Nat} {w0 : World} {L0 : List Nat} {fr : Fr} {H : List HP} {w : World}
theorem m0 {α : Type} {a : α} {l : List α} : a ∈ a :: l := List.mem_cons_self ..
theorem mS {α : Type} {a b : α} {l : List α} (h : a ∈ l) : a ∈ b :: l := List.mem_cons_of_mem _ h
theorem Sep.mem {h : HP} {H : List HP} : ∀ {L : List Nat}, Sep H w L → h ∈ H → ∃ L', h.holds w L' ∧ ∀ b ∈ L', b ∈ L := by
  induction H with
  | nil => intro L _ hm; cases hm
  | cons x xs ih =>
    rintro L ⟨L1, L2, rfl, h1, h2⟩ hm
    rcases List.mem_cons.1 hm with rfl | hm
    · exact ⟨L1, h1, fun b hb => by simp [hb]⟩
    · obtain ⟨L', h3, h4⟩ := ih h2 hm
      exact ⟨L', h3, fun b hb => by simp [h4 b hb]⟩
theorem Hp.mem {h : HP} (x : Hp w0 L0 H w) (hm : h ∈ H) : ∃ L', h.holds w L' := by
  obtain ⟨L, hs, _⟩ := x
  obtain ⟨L', h1, _⟩ := hs.mem hm
  exact ⟨L', h1⟩
/-- cells that the heap's assertion gives, here and in every later world -/
def Has (w0 : World) (L0 : List Nat) (H : List HP) (b off : Nat) (cs : List Value) : Prop := ∀ w, Hp w0 L0 H w → CellsAt w b off cs
theorem Has.pt {b : Nat} {T : TypeId} {cs : List Value} (hm : pt b T cs ∈ H) : Has w0 L0 H b 0 cs := fun w h => by
  obtain ⟨L', _, h1⟩ := h.mem hm
  intro j v hj
  simp [World.cell?, h1, hj]
theorem Has.row {e : TypeId} {k m c : Nat} {a : Option Addr} {cs : List Value} {g o : Nat} (ha : a = some ⟨g, o, none⟩) (hm : row e k a m c cs ∈ H) : Has w0 L0 H g o cs := fun w h => by
  obtain ⟨L', h0, h1⟩ := h.mem hm
  rcases h1 with ⟨_, rfl, _⟩ | ⟨g', cur, h2, h3, h4, h5, h6, rfl, _⟩
  · have : cs = [] := List.eq_nil_of_length_eq_zero (by simpa using h0)
    subst this; exact CellsAt.nil _ _ _
  · rw [ha] at h2; cases h2
    intro j v hj
    rw [List.getElem?_take] at hj
    split at hj
    · simpa [World.cell?, h3] using hj
    · cases hj
theorem Has.sub {b off : Nat} {cs cs' : List Value} (h : Has w0 L0 H b off cs) (i : Nat) (he : (cs.drop i).take cs'.length = cs') : Has w0 L0 H b (off + i) cs' := fun w hw => (h w hw).sub' i he
end

/-! ### what only yields -/
section
variable {P : Program} {n : Nat} {w0 : World} {L0 : List Nat} {fr : Fr} {H : List HP}
theorem Y.mv {x : Operand} {v : Value} (hx : ev fr x = some v) : Yp P n fr (.move x) v := fun a h w' d t p af g => by
  simp [execOp, h.ev hx]
theorem Y.as {x : Operand} {v : Value} (hx : ev fr x = some v) : Yp P n fr (.assign x) v := fun a h w' d t p af g => by
  simp [execOp, h.ev hx]
theorem Y.pkt {c x y : Operand} {v : Value} (hc : ev fr c = some (.bool true)) (hx : ev fr x = some v) : Yp P n fr (.pick c x y) v := fun a h w' d t p af g => by
  simp [execOp, h.ev hc, h.ev hx, asBool]
theorem Y.pkf {c x y : Operand} {v : Value} (hc : ev fr c = some (.bool false)) (hy : ev fr y = some v) : Yp P n fr (.pick c x y) v := fun a h w' d t p af g => by
  simp [execOp, h.ev hc, h.ev hy, asBool]
theorem Y.not {x : Operand} {T : TypeId} {b : Bool} (hx : ev fr x = some (.bool b)) : Yp P n fr (.unOp .not T x) (.bool (!b)) := fun a h w' d t p af g => by
  simp [execOp, h.ev hx, Op.unary]
theorem Y.fn {f : FuncId} {caps : Array Operand} {vs : List Value} (hc : caps.toList.mapM (ev fr) = some vs) : Yp P n fr (.makeFunc (.func f) #[] caps) (.func (.func f) #[] vs.toArray) := fun a h w' d t p af g => by
  have : ∀ (l : List Operand) (vs : List Value), l.mapM (ev fr) = some vs → l.map a.eval = vs := by
    intro l
    induction l with
    | nil => intro vs hv; simp at hv; subst hv; rfl
    | cons x xs ih =>
      intro vs hv
      simp only [List.mapM_cons, Option.pure_def, Option.bind_eq_bind, Option.bind_eq_some_iff, Option.some.injEq] at hv
      obtain ⟨v, h1, vs', h2, rfl⟩ := hv
      simp [ih _ h2, h.ev h1]
  have e := this _ _ hc
  simp only [execOp, Instr.makeFunc, List.map_toArray, Sem.run_bind, Sem.run_pure, Result.andThen_ok]
  rw [show caps.map a.eval = vs.toArray from by rw [← e]; apply Array.ext'; simp]
  simp
theorem Y.len {x : Operand} {T e : TypeId} {ad : Option Addr} {m c : Nat} (hT : P.underlying T = some (.slice e)) (hx : ev fr x = some (.slice ad m c)) :
    Yp P n fr (.call ⟨.builtin .len, #[x], #[T]⟩) (.int .i64 m) := fun a h w' d t p af g => by
  simp [execOp, resolve, invoke, builtin, Builtin.len_, h.ev hx, run_underlying hT, goInt]
theorem Y.add {x y : Operand} {T U : TypeId} {a b : Int} (hx : ev fr x = some (.int .i64 a)) (hy : ev fr y = some (.int .i64 b)) (h1 : -9223372036854775808 ≤ a + b) (h2 : a + b ≤ 9223372036854775807) :
    Yp P n fr (.binOp .add T x y U) (.int .i64 (a + b)) := fun ac h w' d t p af g => by
  have : IntKind.i64.wrap (a + b) = a + b := IntWalk.i64_in _ ⟨h1, h2⟩
  simp [execOp, h.ev hx, h.ev hy, eqGuard_add, binOp_add, Op.intArith, this]
theorem Y.sub {x y : Operand} {T U : TypeId} {a b : Int} (hx : ev fr x = some (.int .i64 a)) (hy : ev fr y = some (.int .i64 b)) (h1 : -9223372036854775808 ≤ a - b) (h2 : a - b ≤ 9223372036854775807) :
    Yp P n fr (.binOp .sub T x y U) (.int .i64 (a - b)) := fun ac h w' d t p af g => by
  have : IntKind.i64.wrap (a - b) = a - b := IntWalk.i64_in _ ⟨h1, h2⟩
  simp [execOp, h.ev hx, h.ev hy, eqGuard_sub, binOp_sub, Op.intArith, this]
theorem Y.lss {x y : Operand} {T U : TypeId} {k : IntKind} {a b : Int} (hx : ev fr x = some (.int k a)) (hy : ev fr y = some (.int k b)) : Yp P n fr (.binOp .lss T x y U) (.bool (decide (a < b))) := fun ac h w' d t p af g => by
  simp [execOp, h.ev hx, h.ev hy, eqGuard_lss, binOp_lss]
theorem Y.leq {x y : Operand} {T U : TypeId} {k : IntKind} {a b : Int} (hx : ev fr x = some (.int k a)) (hy : ev fr y = some (.int k b)) : Yp P n fr (.binOp .leq T x y U) (.bool (decide (a ≤ b))) := fun ac h w' d t p af g => by
  simp [execOp, h.ev hx, h.ev hy, eqGuard_leq, binOp_leq]
theorem Y.gtr {x y : Operand} {T U : TypeId} {k : IntKind} {a b : Int} (hx : ev fr x = some (.int k a)) (hy : ev fr y = some (.int k b)) : Yp P n fr (.binOp .gtr T x y U) (.bool (decide (b < a))) := fun ac h w' d t p af g => by
  simp [execOp, h.ev hx, h.ev hy, eqGuard_gtr, binOp_gtr]
theorem Y.geq {x y : Operand} {T U : TypeId} {k : IntKind} {a b : Int} (hx : ev fr x = some (.int k a)) (hy : ev fr y = some (.int k b)) : Yp P n fr (.binOp .geq T x y U) (.bool (decide (b ≤ a))) := fun ac h w' d t p af g => by
  simp [execOp, h.ev hx, h.ev hy, eqGuard_geq, binOp_geq]
theorem Y.eql {x y : Operand} {T U : TypeId} {k : IntKind} {a b : Int} (hx : ev fr x = some (.int k a)) (hy : ev fr y = some (.int k b)) : Yp P n fr (.binOp .eql T x y U) (.bool (decide (a = b))) := fun ac h w' d t p af g => by
  have : (a == b) = decide (a = b) := rfl
  simp only [execOp, h.ev hx, h.ev hy, Sem.run_bind, eqGuard_at_int, Sem.run_pure, Result.andThen_ok, binOp_eql, this]
theorem Y.neq {x y : Operand} {T U : TypeId} {k : IntKind} {a b : Int} (hx : ev fr x = some (.int k a)) (hy : ev fr y = some (.int k b)) : Yp P n fr (.binOp .neq T x y U) (.bool (decide (a ≠ b))) := fun ac h w' d t p af g => by
  have : (a != b) = decide (a ≠ b) := by by_cases e : a = b <;> simp [e]
  simp only [execOp, h.ev hx, h.ev hy, Sem.run_bind, eqGuard_at_int, Sem.run_pure, Result.andThen_ok, binOp_neq, this]
/-- the offset of a struct's field -/
def fOff (P : Program) (s : TypeId) (f : Nat) : Option (Nat × TypeId) := match P.underlying s with
  | some (.struct fs) => fs[f]?.map fun x => (x.offset, x.type)
  | _ => none
theorem Y.fld {x : Operand} {s : TypeId} {f o : Nat} {ft : TypeId} {agg : Bool} {k : Nat} {z : List Value} {by' : Nat} {b off : Nat} (hf : fOff P s f = some (o, ft)) (ht : TyOk P ft agg k z by') (hk : k ≠ 0) (hx : ev fr x = some (.pointer (some ⟨b, off, none⟩))) :
    Yp P n fr (.fieldAddr s x f) (.pointer (some ⟨b, off + o, none⟩)) := fun ac h w' d t p af g => by
  unfold fOff at hf
  split at hf
  · rename_i fs hs
    obtain ⟨fd, h1, h2⟩ := Option.map_eq_some_iff.1 hf
    simp only [Prod.mk.injEq] at h2
    obtain ⟨rfl, rfl⟩ := h2
    simp [execOp, Instr.fieldAt, h.ev hx, run_underlying hs, h1, Instr.sureAddr, fieldPlace, ht.run_sizeOf, hk, Addr.add]
  · cases hf
theorem Y.ix {x y : Operand} {T e : TypeId} {agg : Bool} {k : Nat} {z : List Value} {by' : Nat} {ad : Option Addr} {b off m c : Nat} {i : Int} (hT : P.underlying T = some (.slice e)) (ht : TyOk P e agg k z by')
    (hx : ev fr x = some (.slice ad m c)) (ha : ad = some ⟨b, off, none⟩) (hy : ev fr y = some (.int .i64 i)) (j : Nat) (hj : i = (j : Int)) (hlt : j < m) :
    Yp P n fr (.indexAddr T x y) (.pointer (some ⟨b, off + j * k, none⟩)) := fun ac h w' d t p af g => by
  subst ha; subst hj
  simp [execOp, Instr.indexAt, h.ev hx, h.ev hy, asIntOf, run_underlying hT, ht.run_sizeOf, hlt, Addr.add]
theorem Y.ld1 {x : Operand} {T : TypeId} {k : Nat} {z : List Value} {by' : Nat} {b off : Nat} {v : Value} (ht : TyOk P T false k z by') (hx : ev fr x = some (.pointer (some ⟨b, off, none⟩)))
    (hc : Has w0 L0 H b off [v]) (h1 : k = 1) : Yd P n w0 L0 fr H (.load T x) v := fun a w ha hw w' hE d t p af g => by
  simp [execOp, ha.ev hx, ((hc w hw).ext hE).run_load (v := v) ht (by simp [h1]) (by simp) (fun _ => h1)]
theorem Y.ldS {x : Operand} {T : TypeId} {k : Nat} {z : List Value} {by' : Nat} {b off : Nat} {cs : List Value} (ht : TyOk P T true k z by') (hx : ev fr x = some (.pointer (some ⟨b, off, none⟩)))
    (hc : Has w0 L0 H b off cs) (hl : cs.length = k) : Yd P n w0 L0 fr H (.load T x) (.agg cs.toArray) := fun a w ha hw w' hE d t p af g => by
  simp [execOp, ha.ev hx, ((hc w hw).ext hE).run_load (v := .agg cs.toArray) ht hl (by simp) (fun h => by cases h)]
theorem Y.ld {x : Operand} {T : TypeId} {agg : Bool} {k : Nat} {z : List Value} {by' : Nat} {b off : Nat} {cs : List Value} {v : Value} (ht : TyOk P T agg k z by') (hx : ev fr x = some (.pointer (some ⟨b, off, none⟩)))
    (hc : Has w0 L0 H b off cs) (hl : cs.length = k) (hv : v = if agg then .agg cs.toArray else cs.headD undef) (h1 : agg = false → k = 1) : Yd P n w0 L0 fr H (.load T x) v := fun a w ha hw w' hE d t p af g => by
  simp [execOp, ha.ev hx, ((hc w hw).ext hE).run_load ht hl hv h1]
end
end Go.Proofs.Ytnagfcajnbkdoaa
