/- make, append; calls by contract; a function's beginning and end. -/
import Derived.Test.YtnagfcajnbkdoaaSld
namespace Go.Proofs.Ytnagfcajnbkdoaa
open Go.RowKit
set_option linter.unusedVariables false

/-- m times the cells z -/
def reps (m : Nat) (z : List Value) : List Value := (List.replicate m z).flatten
theorem reps_length (m : Nat) (z : List Value) : (reps m z).length = m * z.length := by
  induction m with
  | zero => simp [reps]
  | succ m ih => simp only [reps, List.replicate_succ, List.flatten_cons, List.length_append] at ih ⊢; rw [ih, Nat.succ_mul]; omega
theorem reps_get (m : Nat) (z : List Value) : ∀ j, j < m * z.length → (reps m z)[j]? = z[j % z.length]? := by
  induction m with
  | zero => intro j h; omega
  | succ m ih =>
    intro j h
    simp only [reps, List.replicate_succ, List.flatten_cons] at ih ⊢
    by_cases hj : j < z.length
    · rw [List.getElem?_append_left hj, Nat.mod_eq_of_lt hj]
    · rw [List.getElem?_append_right (by omega), ih (j - z.length) (by rw [Nat.add_mul, Nat.one_mul] at h; omega)]
      have hm := Nat.mod_eq_sub_mod (show j ≥ z.length by omega)
      rw [hm]
theorem reps_made (m : Nat) (z : List Value) : (Array.range (m * z.length)).map (z.toArray[· % z.toArray.size]!) = (reps m z).toArray := by
  apply Array.ext'
  apply List.ext_getElem?
  intro j
  rw [Array.getElem?_toList]
  by_cases h : j < m * z.length
  · rw [show (reps m z).toArray.toList = reps m z from rfl, reps_get m z j h]
    have hz : 0 < z.length := by rcases Nat.eq_zero_or_pos z.length with e | e; (rw [e] at h; omega); exact e
    have hm : j % z.length < z.length := Nat.mod_lt _ hz
    simp [h, List.getElem?_eq_getElem hm]
  · rw [Array.getElem?_eq_none (by simpa using h), List.getElem?_eq_none (by rw [show (reps m z).toArray.toList = reps m z from rfl, reps_length]; omega)]

section
variable {P : Program} {Q : Exit → Act → World → Prop} {n : Nat} {w0 : World} {L0 : List Nat} {fr : Fr} {H R : List HP} {d : Nat} {ty : TypeId} {pos : String} {af : Array Edge} {g : Option (Nat × Bool)}
theorem N.make {T e : TypeId} {agg : Bool} {k m : Nat} {z : List Value} {by' : Nat} {x y : Operand} {mi : Int} (hT : P.underlying T = some (.slice e)) (ht : TyOk P e agg k z by') (hx : ev fr x = some (.int .i64 mi)) (hy : ev fr y = some (.int .i64 mi))
    (hm : mi = (m : Int)) (hl : m ≤ maxLen) (hby : m * by' ≤ 281474976710656) (hd : d < n) :
    Nop P Q n w0 L0 fr H ⟨some d, .makeSlice T x y, ty, pos, af, g⟩ true (κ := Nat) (fun b => (d, .slice (some ⟨b, 0, none⟩) m m) :: fr) (fun b => row e k (some ⟨b, 0, none⟩) m m (reps m z) :: H) (fun _ => True) := fun K hK a w ha hw => by
  subst hm
  obtain ⟨zv, hz1, hz2⟩ := ht.run_zero w
  obtain ⟨i, z', i1, i2, i3, i4, i5⟩ := ht.info
  have hw1 : IntKind.i64.wrap (m : Int) = m := IntWalk.i64_in _ (by unfold maxLen at hl; omega)
  have hby' : ¬ ((by' : Int) * (m : Int) > 2 ^ 48) := by rw [Int.mul_comm]; exact_mod_cast (by omega : ¬ (m * by' > 281474976710656))
  have hrows : (Array.range (m * k)).map ((if m * k = 0 then (#[] : Array Value) else z.toArray)[· % (if m * k = 0 then (#[] : Array Value) else z.toArray).size]!) = (reps m z).toArray := by
    have := reps_made m z
    rw [ht.zl] at this
    by_cases e0 : m * k = 0
    · rw [e0] at this ⊢; simp only [Array.range_zero', List.map_toArray, List.map_nil] at this ⊢; exact this
    · rw [if_neg e0]; exact this
  have hrun : (Instr.makeSlice T (.int .i64 m) (.int .i64 m)).run P w = .ok (.slice (some ⟨w.heap.size, 0, none⟩) m m) (w.alloc (.cells (reps m z).toArray e)) := by
    have h0 : ¬ ((m : Int) < 0) := by omega
    simp only [Instr.makeSlice, run_underlying hT, asInt, asIntOf, Sem.run_bind, Sem.run_pure, Result.andThen_ok, typeInfo, run_program, i1, i3, hw1, h0, decide_false, Bool.false_or, hby', Int.lt_irrefl, Int.toNat_natCast, newRow]
    simp
    rw [ht.run_sizeOf]
    simp only [Result.andThen_ok]
    by_cases e0 : m * k = 0
    · rw [e0] at hrows ⊢
      simp only [Array.range_zero', List.map_toArray, List.map_nil, if_true] at hrows ⊢
      rw [hrows]
    · rw [if_neg e0] at hrows ⊢
      rw [hz1]
      simp only [Result.andThen_ok, hz2, hrows]
  simp only [Oper.wp, execOp, ha.ev hx, ha.ev hy, Sem.run_bind, hrun, Result.andThen_ok, Sem.run_pure, Oper.upon_value]
  refine hK w.heap.size trivial w _ _ (ha.put hd _) ?_ (fun _ => Ext.alloc _ _)
  obtain ⟨L, ⟨L1, L2, rfl, ⟨rfl, hb⟩, h4⟩, h5, h6⟩ := hw.new (T := e) (cs := reps m z)
  have hlen : (reps m z).length = m * k := by rw [reps_length, ht.zl]
  exact ⟨_, ⟨[w.heap.size], L2, rfl, ⟨hlen, .inr ⟨_, _, rfl, hb, Nat.le_refl _, hl, by simpa using hlen, by rw [← hlen]; exact List.take_length, rfl⟩⟩, h4⟩, h5, h6⟩

/-- the source of an append or a copy: m2 elements whose cells are known -/
def Src (w0 : World) (L0 : List Nat) (H : List HP) (a2 : Option Addr) (m2 : Nat) (news : List Value) : Prop :=
  (m2 = 0 ∧ news = []) ∨ ∃ b o, a2 = some ⟨b, o, none⟩ ∧ Has w0 L0 H b o news
theorem Src.nil {a2 : Option Addr} : Src w0 L0 H a2 0 [] := .inl ⟨rfl, rfl⟩
theorem Src.of {a2 : Option Addr} {b o m2 : Nat} {news : List Value} (h : a2 = some ⟨b, o, none⟩) (hh : Has w0 L0 H b o news) : Src w0 L0 H a2 m2 news := .inr ⟨b, o, h, hh⟩
theorem Src.row {e : TypeId} {k m c : Nat} {a : Option Addr} {cs : List Value} (hm : row e k a m c cs ∈ H) (hk : 0 < k) {w : World} (hw : Hp w0 L0 H w) : Src w0 L0 H a m cs := by
  obtain ⟨L', h0, h1⟩ := hw.mem hm
  rcases h1 with ⟨_, rfl, _⟩ | ⟨g', cur, h2, h3, h4, h5, h6, h7, _⟩
  · exact .inl ⟨rfl, List.eq_nil_of_length_eq_zero (by simpa using h0)⟩
  · exact .inr ⟨g', 0, h2, Has.row h2 hm⟩

theorem run_append_any {P : Program} {T e ty : TypeId} {agg : Bool} {k m c : Nat} {z : List Value} {by' : Nat} (hT : P.underlying T = some (.slice e)) (ht : TyOk P e agg k z by') (hk : 0 < k)
    {ad : Option Addr} {cs : List Value} {w : World} {L : List Nat} (hrow : (row e k ad m c cs).holds w L) {a2 : Option Addr} {m2 c2 : Nat} {news : List Value}
    (hsrc : (m2 = 0 ∧ news = []) ∨ ∃ b o, a2 = some ⟨b, o, none⟩ ∧ CellsAt w b o news) (hl : news.length = m2 * k) (h1 : ∀ u ∈ news, u.oneCell' = true)
    (h63 : m + m2 ≤ maxLen) (hbytes : (m + m2) * by' ≤ 140737488355328) :
    ∃ a' c' w' L', (Builtin.append_ #[T, T] ty #[.slice ad m c, .slice a2 m2 c2]).run P w = .ok (.slice a' (m + m2) c') w' ∧ (row e k a' (m + m2) c' (cs ++ news)).holds w' L' ∧ L'.Nodup ∧ Step w L w' L' ∧ (L = [] → Ext w w') := by
  obtain ⟨i, zv, i1, i2, i3, i4, i5⟩ := ht.info
  have hsmall : m + m2 ≤ 9223372036854775807 := by unfold maxLen at h63; omega
  obtain ⟨hlc, hr⟩ := hrow
  have hfirst : (Builtin.firstCells k m2 (.slice a2 m2 c2)).run P w = .ok news.toArray w := by
    rcases hsrc with ⟨rfl, rfl⟩ | ⟨b, o, rfl, hc⟩
    · cases a2 <;> simp [Builtin.firstCells, loadCells, loadCellsFrom]
    · exact run_firstCells_some (P := P) w k m2 ⟨b, o, none⟩ m2 c2 news hl (fun j v hj => by
        have := hc j v hj
        by_cases e0 : j = 0
        · subst e0; simpa [Addr.add] using this
        · simpa [Addr.add, e0] using this)
  have hfirstd : (Builtin.firstCells k m2 (.slice a2 m2 c2)).run P w.drew = .ok news.toArray w.drew := by
    rcases hsrc with ⟨rfl, rfl⟩ | ⟨b, o, rfl, hc⟩
    · cases a2 <;> simp [Builtin.firstCells, loadCells, loadCellsFrom]
    · exact run_firstCells_some (P := P) w.drew k m2 ⟨b, o, none⟩ m2 c2 news hl (fun j v hj => by
        have := hc j v hj
        by_cases e0 : j = 0
        · subst e0; simpa [Addr.add] using this
        · simpa [Addr.add, e0] using this)
  have hlen : (cs ++ news).length = (m + m2) * k := by rw [List.length_append, hlc, hl, Nat.add_mul]
  have hgrow : c < m + m2 → (Builtin.firstCells k m (.slice ad m c)).run P w.drew = .ok cs.toArray w.drew →
      (Builtin.append_ #[T, T] ty #[.slice ad m c, .slice a2 m2 c2]).run P w =
        .ok (.slice (some ⟨w.heap.size, 0, none⟩) (m + m2) (grownCap w (m + m2) c e)) (w.drew.alloc (.cells (cs.toArray ++ news.toArray ++ Builtin.zeroCells zv.cells (grownCap w (m + m2) c e - (m + m2))) e)) := by
    intro hc hf
    have hn : ¬ (m + m2 ≤ c) := by omega
    have h63' : ¬ (9223372036854775807 < ((m : Int) + (m2 : Int))) := by omega
    have h48' : ¬ (281474976710656 < Builtin.nextslicecap (m + m2) c * by') := by have := growslice_fits (bytes := by') hc hbytes; omega
    simp [Builtin.append_, run_underlying hT, sizeOf, typeInfo, zeroValue, i1, i4, i3, i2, Builtin.lenOf, hn, h63', h48', Question.forced, hf, hfirstd, newRow, grownCap]
    congr 2
    apply Array.ext'
    simp [List.append_assoc]
  have hnew : c < m + m2 → (row e k (some ⟨w.heap.size, 0, none⟩) (m + m2) (grownCap w (m + m2) c e) (cs ++ news)).holds (w.drew.alloc (.cells (cs.toArray ++ news.toArray ++ Builtin.zeroCells zv.cells (grownCap w (m + m2) c e - (m + m2))) e)) [w.heap.size] := by
    intro hc
    have hge := grownCap_ge w (m + m2) c e
    refine ⟨hlen, .inr ⟨_, _, rfl, heap_alloc_new w.drew _, hge, grownCap_le_maxLen w (m + m2) c e h63, ?_, ?_, rfl⟩⟩
    · have hz : zv.cells.size = k := by rw [i5]; simpa using ht.zl
      simp only [Array.size_append, List.size_toArray, size_zeroCells, hz, hlc, hl, ← Nat.add_mul]
      congr 1
      omega
    · simp only [Array.toList_append, List.append_assoc]
      rw [← List.append_assoc, ← hlen]
      exact List.take_left
  have hstep : ∀ L : List Nat, Step w L (w.drew.alloc (.cells (cs.toArray ++ news.toArray ++ Builtin.zeroCells zv.cells (grownCap w (m + m2) c e - (m + m2))) e)) [w.heap.size] := fun L =>
    ⟨rfl, rfl, rfl, by simp, fun b hb _ => Below.heap_alloc w.drew _ b hb, fun b hb => by simp at hb; subst hb; exact .inr (Nat.le_refl _)⟩
  have hext : Ext w (w.drew.alloc (.cells (cs.toArray ++ news.toArray ++ Builtin.zeroCells zv.cells (grownCap w (m + m2) c e - (m + m2))) e)) :=
    ⟨rfl, rfl, rfl, by simp, fun b hb => Below.heap_alloc w.drew _ b hb⟩
  rcases hr with ⟨rfl, rfl, rfl⟩ | ⟨gb, cur, rfl, hg, hmc, hcm, hcs, htake, rfl⟩
  · have hcs0 : cs = [] := List.eq_nil_of_length_eq_zero (by simpa using hlc)
    subst hcs0
    by_cases hm2 : m2 = 0
    · subst hm2
      have hn0 : news = [] := List.eq_nil_of_length_eq_zero (by simpa using hl)
      subst hn0
      refine ⟨ad, 0, w, [], ?_, ⟨by simp, .inl ⟨rfl, rfl, rfl⟩⟩, by simp, Step.refl _ _, fun _ => Ext.rfl' w⟩
      cases ad <;> simp [Builtin.append_, run_underlying hT, sizeOf, typeInfo, i1, Builtin.lenOf, i2, hfirst, storeCells]
    · have hc : 0 < 0 + m2 := by omega
      refine ⟨_, _, _, _, hgrow hc ?_, hnew hc, by simp, hstep _, fun _ => hext⟩
      cases ad <;> simp [Builtin.firstCells, loadCells, loadCellsFrom]
  · by_cases hroom : m + m2 ≤ c
    · have hfit : m * k + news.length ≤ cur.size := by rw [hl, hcs, ← Nat.add_mul]; exact Nat.mul_le_mul_right _ hroom
      have hst := run_storeCells_at P gb (m * k) e news 0 cur w hg (by simpa using hfit) h1
      simp only [Nat.add_zero] at hst
      refine ⟨_, _, w.setRow gb (cur.toList.take (m * k) ++ news ++ cur.toList.drop (m * k + news.length)).toArray, [gb], ?_, ⟨hlen, .inr ⟨gb, _, rfl, setRow_heap w gb cur _ e _ hg, hroom, hcm, ?_, ?_, rfl⟩⟩, by simp, Step.setRow (Array.getElem?_eq_some_iff.1 hg).1, fun h => by cases h⟩
      · simp [Builtin.append_, run_underlying hT, sizeOf, typeInfo, i1, Builtin.lenOf, i2, hfirst, hroom, Addr.add_lit, hst]
      · simp only [List.size_toArray, List.length_append, List.length_take, List.length_drop, Array.length_toList]
        omega
      · rw [htake, ← hlen]
        exact List.take_left
    · have hc : c < m + m2 := by omega
      refine ⟨_, _, _, _, hgrow hc ?_, hnew hc, by simp, hstep _, fun h => by cases h⟩
      refine run_firstCells_some (P := P) w.drew k m ⟨gb, 0, none⟩ m c cs hlc (fun j v hj => ?_)
      rw [← htake] at hj
      rw [List.getElem?_take] at hj
      split at hj
      · have : w.cell? ⟨gb, j, none⟩ = some v := by simpa [World.cell?, hg] using hj
        by_cases e0 : j = 0
        · subst e0; simpa [Addr.add] using this
        · simpa [Addr.add, e0] using this
      · cases hj
/-- append(s, t...) onto an owned row -/
theorem N.app {T e : TypeId} {agg : Bool} {k m c : Nat} {z : List Value} {by' : Nat} {x y : Operand} {ad a2 : Option Addr} {m2 c2 : Nat} {cs news : List Value} (hT : P.underlying T = some (.slice e)) (ht : TyOk P e agg k z by') (hk : 0 < k)
    (hx : ev fr x = some (.slice ad m c)) (hy : ev fr y = some (.slice a2 m2 c2)) (hsrc : ∀ w, Hp w0 L0 (row e k ad m c cs :: R) w → Src w0 L0 (row e k ad m c cs :: R) a2 m2 news) (hl : news.length = m2 * k) (h1 : ∀ u ∈ news, u.oneCell' = true)
    (h63 : m + m2 ≤ maxLen) (hbytes : (m + m2) * by' ≤ 140737488355328) (hd : d < n) :
    Nop P Q n w0 L0 fr (row e k ad m c cs :: R) ⟨some d, .call ⟨.builtin .append, #[x, y], #[T, T]⟩, ty, pos, af, g⟩ false (κ := Option Addr × Nat) (fun p => (d, .slice p.1 (m + m2) p.2) :: fr) (fun p => row e k p.1 (m + m2) p.2 (cs ++ news) :: R) (fun _ => True) := fun K hK a w ha hw => by
  obtain ⟨L', hL'⟩ := hw.mem (List.mem_cons_self ..)
  have hsrc' : (m2 = 0 ∧ news = []) ∨ ∃ b o, a2 = some ⟨b, o, none⟩ ∧ CellsAt w b o news := (hsrc w hw).imp id fun ⟨b, o, h1, h2⟩ => ⟨b, o, h1, h2 w hw⟩
  obtain ⟨L, ⟨L1, L2, rfl, hrow, hR⟩, hn, hst⟩ := hw
  obtain ⟨a', c', w', L'', r1, r2, r3, r4, -⟩ := run_append_any (P := P) (ty := ty) (c2 := c2) hT ht hk hrow hsrc' hl h1 h63 hbytes
  obtain ⟨k1, k2, k3⟩ := hst.call hn hR.inh r4 r3
  have hrun : (execOp a.eval ⟨some d, .call ⟨.builtin .append, #[x, y], #[T, T]⟩, ty, pos, af, g⟩).run P w = .ok (.value (.slice a' (m + m2) c')) w' := by
    simp only [execOp, resolve, ha.ev hx, ha.ev hy, List.map_toArray, List.map_cons, List.map_nil, Sem.run_bind, Sem.run_pure, Result.andThen_ok, invoke, builtin, r1]
  rw [Oper.wp, hrun]
  exact hK (a', c') trivial w _ _ (ha.put hd _) ⟨L'' ++ L2, ⟨L'', L2, rfl, r2, hR.stable k3⟩, k2, k1⟩ (by simp)
end

/-! ### contracts -/
/-- f can be entered -/
def Enterable (P : Program) (f : FuncId) : Prop := ∃ fn, P.funcs[f]? = some fn ∧ fn.body.isNone = false ∧ (fn.name == "runtime.NumGoroutine") = false
/-- CONTRACT: where R holds of the world (and of what is handed over, L), f called on args gives ret k with what 'post k' says; what is handed over reads 'pre' -/
def Tr (P : Program) (f : FuncId) (args : List Value) (R : World → List Nat → Prop) (pre : List HP) {κ : Type} (φ : κ → Prop) (ret : κ → Value) (post : κ → List HP) : Prop :=
  Enterable P f ∧ ∀ w L, R w L → Sep pre w L → L.Nodup → Calls P f args.toArray w fun e w' => ∃ k, φ k ∧ e = .returned (ret k) ∧ Hp w L (post k) w'
/-- Tr without anything handed over -/
def isNil {α : Type} : List α → Bool
  | [] => true
  | _ => false
section
variable {P : Program} {Q : Exit → Act → World → Prop} {n : Nat} {w0 : World} {L0 : List Nat} {fr : Fr} {H R : List HP} {d : Nat} {ty : TypeId} {pos : String} {af : Array Edge} {g : Option (Nat × Bool)}
theorem mapM_ev {a : Act} (ha : Fr.ok n fr a) : ∀ (l : List Operand) (vs : List Value), l.mapM (ev fr) = some vs → l.map a.eval = vs := by
  intro l
  induction l with
  | nil => intro vs hv; simp at hv; subst hv; rfl
  | cons x xs ih =>
    intro vs hv
    simp only [List.mapM_cons, Option.pure_def, Option.bind_eq_bind, Option.bind_eq_some_iff, Option.some.injEq] at hv
    obtain ⟨v, h1, vs', h2, rfl⟩ := hv
    simp [ih _ h2, ha.ev h1]
/-- what the caller's state gives of the world and of the part that is handed over -/
structure At (w0 : World) (L0 : List Nat) (pre rest : List HP) (w : World) (Lp : List Nat) : Prop where
  mk' :: ex : ∃ Lr, Sep pre w Lp ∧ Sep rest w Lr ∧ (Lp ++ Lr).Nodup ∧ Step w0 L0 w (Lp ++ Lr)
/-- the operands' values -/
def evs (fr : Fr) : List Operand → Option (List Value)
  | [] => some []
  | x :: xs => match ev fr x, evs fr xs with
    | some v, some vs => some (v :: vs)
    | _, _ => none
theorem evs_ok {a : Act} (ha : Fr.ok n fr a) : ∀ (l : List Operand) (vs : List Value), evs fr l = some vs → l.map a.eval = vs := by
  intro l
  induction l with
  | nil => intro vs hv; simp [evs] at hv; subst hv; rfl
  | cons x xs ih =>
    intro vs hv
    simp only [evs] at hv
    split at hv
    · rename_i v vs' h1 h2
      cases hv
      simp [ih _ h2, ha.ev h1]
    · cases hv
theorem N.call {f : FuncId} {x : Operand} {caps : Array Value} {xs : Array Operand} {ts : Array TypeId} {vs args : List Value} {RR : World → List Nat → Prop} {pre rest : List HP} {κ : Type} {φ : κ → Prop} {ret : κ → Value} {post : κ → List HP}
    (tr : Tr P f args RR pre φ ret post) (hx : ev fr x = some (.func (.func f) #[] caps)) (hxs : evs fr xs.toList = some vs) (hargs : vs ++ caps.toList = args) (hd : d < n)
    (hH : H = pre ++ rest) (hR : ∀ w Lp, At w0 L0 pre rest w Lp → RR w Lp) :
    Nop P Q n w0 L0 fr H ⟨some d, .call ⟨.value x, xs, ts⟩, ty, pos, af, g⟩ (isNil pre) (κ := κ) (fun k => (d, ret k) :: fr) (fun k => post k ++ rest) φ := fun K hK a w ha hw => by
  obtain ⟨⟨fn, f1, f2, f3⟩, tr⟩ := tr
  subst hH
  have hw' := hw
  obtain ⟨L, hs, hn, hst⟩ := hw
  obtain ⟨Lp, Lr, rfl, h1, h2⟩ := Sep.append.1 hs
  have hcall := tr w Lp (hR w Lp ⟨⟨Lr, h1, h2, hn, hst⟩⟩) h1 (List.nodup_append.1 hn).1
  have e := evs_ok ha _ _ hxs
  have hargs' : (xs.map a.eval) ++ caps = args.toArray := by
    apply Array.ext'
    rw [← hargs, Array.toList_append, Array.toList_map, e]
  have hrun : (execOp a.eval ⟨some d, .call ⟨.value x, xs, ts⟩, ty, pos, af, g⟩).run P w = .ok (.enter f args.toArray) w := by
    have f2' : ¬ fn.body = none := fun h => by rw [h] at f2; cases f2
    have f3' : ¬ fn.name = "runtime.NumGoroutine" := by simpa using f3
    rw [← hargs']
    simp [execOp, resolve, ha.ev hx, Deferred.ofValue, invoke, callFunc, f1, f2', f3']
  rw [Oper.wp, hrun, Oper.upon_enter]
  refine hcall.mono ?_
  rintro e w' ⟨k, hk, rfl, hp⟩
  refine hK k hk w _ w' (ha.put hd _) ?_ ?_
  · obtain ⟨Lp', p1, p2, p3⟩ := hp
    obtain ⟨k1, k2, k3⟩ := hst.call hn h2.inh p3 p2
    exact ⟨Lp' ++ Lr, Sep.append.2 ⟨Lp', Lr, rfl, p1, h2.stable k3⟩, k2, k1⟩
  · intro hq
    cases pre with
    | nil =>
      rw [Sep] at h1; subst h1
      obtain ⟨Lp', p1, p2, p3⟩ := hp
      exact p3.below
    | cons _ _ => cases hq
end

/-! ### a function's beginning and its end -/
def argFr (args : List Value) : Fr := args.zipIdx.map fun p => (p.2, p.1)
theorem argFr_ok {P : Program} {args : List Value} {n : Nat} (hn : args.length ≤ n) : Fr.ok n (argFr args) { tmps := args.toArray ++ Array.replicate (n - args.toArray.size) undef, defers := [] } := by
  refine ⟨by simp; omega, rfl, fun i v h => ?_⟩
  have key : ∀ (l : List Value) (k i : Nat) (v : Value), ((l.zipIdx k).map fun p => (p.2, p.1)).lookup i = some v → k ≤ i ∧ l[i - k]? = some v := by
    intro l
    induction l with
    | nil => intro k i v h; cases h
    | cons x xs ih =>
      intro k i v h
      rw [List.zipIdx_cons, List.map_cons, List.lookup_cons] at h
      by_cases e : i = k
      · subst e; simp at h; subst h; simp
      · have : (i == k) = false := by simp [e]
        rw [this] at h
        obtain ⟨h1, h2⟩ := ih _ _ _ h
        refine ⟨by omega, ?_⟩
        rw [show i - k = (i - (k + 1)) + 1 from by omega]
        simpa using h2
  obtain ⟨_, h2⟩ := key args 0 i v h
  simp only [Nat.sub_zero] at h2
  have hlt : i < args.length := (List.getElem?_eq_some_iff.1 h2).1
  rw [Array.getElem?_append_left (by simpa using hlt)]
  simpa using h2
section
variable {P : Program} {f : FuncId} {args : List Value} {RR : World → List Nat → Prop} {pre : List HP} {κ : Type} {φ : κ → Prop} {ret : κ → Value} {post : κ → List HP}
/-- the function's post -/
def Fin (φ : κ → Prop) (ret : κ → Value) (post : κ → List HP) (w : World) (L : List Nat) : Ending → World → Prop := fun e w' => ∃ k, φ k ∧ e = .returned (ret k) ∧ Hp w L (post k) w'
theorem Tr.intro {fn : Func} {c : Code} {n : Nat} {fr : Fr} (hf : P.funcs[f]? = some fn) (hb : fn.body = some c) (hn : fn.ntmps = n) (hname : (fn.name == "runtime.NumGoroutine") = false) (hlen : args.length ≤ n) (hfr : argFr args = fr)
    (h : ∀ w L, RR w L → Ent n w L fr pre (c.wp P (bodyPost P fn (Fin φ ret post w L)))) : Tr P f args RR pre φ ret post := by
  refine ⟨⟨fn, hf, by rw [hb]; rfl, hname⟩, fun w L hr hs hnd => ?_⟩
  subst hn; subst hfr
  exact calls_of_wp hf hb (h w L hr _ w (argFr_ok (P := P) hlen) ⟨L, hs, hnd, Step.refl w L⟩)
theorem Tr.mono {κ' : Type} {φ' : κ' → Prop} {ret' : κ' → Value} {post' : κ' → List HP} {RR' : World → List Nat → Prop} (h : Tr P f args RR pre φ ret post) (hR : ∀ w L, RR' w L → RR w L)
    (hk : ∀ k, φ k → ∃ k', φ' k' ∧ ret k = ret' k' ∧ ∀ w0 L0 w, Hp w0 L0 (post k) w → Hp w0 L0 (post' k') w) : Tr P f args RR' pre φ' ret' post' := by
  refine ⟨h.1, fun w L hr hs hnd => (h.2 w L (hR w L hr) hs hnd).mono ?_⟩
  rintro e w' ⟨k, hk1, rfl, hp⟩
  obtain ⟨k', h1, h2, h3⟩ := hk k hk1
  exact ⟨k', h1, by rw [h2], h3 _ _ _ hp⟩
end
theorem Hp.part {w0 w : World} {L0 : List Nat} {H A J : List HP} (hp : H.Perm (A ++ J)) (h : Hp w0 L0 H w) : Hp w0 L0 A w := by
  have h' := h.perm hp
  clear h hp
  induction J generalizing A with
  | nil => simpa using h'
  | cons j js ih => exact ih ((h'.perm (List.perm_middle)).tail)
section
variable {P : Program} {n : Nat} {w0 : World} {L0 : List Nat} {fr : Fr} {H : List HP} {fn : Func} {κ : Type} {φ : κ → Prop} {ret : κ → Value} {post : κ → List HP}
/-- what is said of a later base is said of the first -/
def Back (w1 : World) (L1 : List Nat) (w0 : World) (L0 : List Nat) : Prop := ∀ X w, Hp w1 L1 X w → Hp w0 L0 X w
theorem Back.refl (w : World) (L : List Nat) : Back w L w L := fun _ _ h => h
theorem Back.comp {w2 w1 w0 : World} {L2 L1 L0 : List Nat} (h : Back w1 L1 w0 L0) (k : Back w2 L2 w1 L1) : Back w2 L2 w0 L0 := fun X w x => h X w (k X w x)
variable {wb : World} {Lb : List Nat}
theorem fin_of (hb : Back w0 L0 wb Lb) {e : Exit} (he : e = .ret ∨ e = .normal) {v : Value} (k : κ) (hk : φ k) (hv : v = ret k) {J : List HP} (hH : H.Perm (post k ++ J))
    (hr : ∀ a w, Fr.ok n fr a → Hp w0 L0 H w → (results fn a.tmps).run P w = .ok v w) : Ent n w0 L0 fr H (bodyPost P fn (Fin φ ret post wb Lb) e) := fun a w h1 h2 => by
  have : bodyPost P fn (Fin φ ret post wb Lb) .ret a w := ⟨h1.defers, v, hr a w h1 h2, k, hk, by rw [hv], hb _ _ (h2.part hH)⟩
  rcases he with rfl | rfl <;> exact this
theorem F.r1 (hb : Back w0 L0 wb Lb) {e : Exit} {t : Nat} {v : Value} (hres : fn.results = #[.tmp t]) (hv : fr.lookup t = some v) (k : κ) (hk : φ k) (hr : v = ret k) {J : List HP} (hH : H.Perm (post k ++ J)) (he : e = .ret ∨ e = .normal) : Ent n w0 L0 fr H (bodyPost P fn (Fin φ ret post wb Lb) e) :=
  fin_of hb he k hk hr hH fun a w h1 _ => by
    rw [results_tmp hres]
    have := h1.ev (x := .tmp t) hv
    simp only [Act.eval] at this
    rw [this]
theorem F.r2 (hb : Back w0 L0 wb Lb) {e : Exit} {t u : Nat} {v v' : Value} (hres : fn.results = #[.tmp t, .tmp u]) (hv : fr.lookup t = some v) (hv' : fr.lookup u = some v') (k : κ) (hk : φ k) (hr : .tuple #[v, v'] = ret k) {J : List HP} (hH : H.Perm (post k ++ J)) (he : e = .ret ∨ e = .normal) : Ent n w0 L0 fr H (bodyPost P fn (Fin φ ret post wb Lb) e) :=
  fin_of hb he k hk hr hH fun a w h1 _ => by
    rw [results_tmp2 hres]
    have := h1.ev (x := .tmp t) hv
    have h2 := h1.ev (x := .tmp u) hv'
    simp only [Act.eval] at this h2
    rw [this, h2]
/-- one result, a struct in a variable -/
theorem F.c1 (hb : Back w0 L0 wb Lb) {e : Exit} {t b : Nat} {T T' : TypeId} {k' : Nat} {z : List Value} {by' : Nat} {cs : List Value} (hres : fn.results = #[.cell t T]) (hv : fr.lookup t = some (.pointer (some ⟨b, 0, none⟩))) (hm : pt b T' cs ∈ H) (ht : TyOk P T true k' z by') (hl : cs.length = k')
    (k : κ) (hk : φ k) (hr : .agg cs.toArray = ret k) {J : List HP} (hH : H.Perm (post k ++ J)) (he : e = .ret ∨ e = .normal) : Ent n w0 L0 fr H (bodyPost P fn (Fin φ ret post wb Lb) e) :=
  fin_of hb he k hk hr hH fun a w h1 h2 => by
    have h3 := h1.ev (x := .tmp t) hv
    simp only [Act.eval] at h3
    have h4 := ((Has.pt (w0 := w0) (L0 := L0) hm) w h2).run_load (P := P) (v := .agg cs.toArray) ht hl rfl (fun h => by cases h)
    simp only [Instr.loadAt, Instr.sureAddr, Sem.run_bind, Sem.run_pure, Result.andThen_ok] at h4
    rw [Array.getD_eq_getD_getElem?] at h3
    simp [results, hres, h3, asAddr, h4]
/-- a struct in a variable, and a plain one -/
theorem F.c2 (hb : Back w0 L0 wb Lb) {e : Exit} {t u b : Nat} {T T' : TypeId} {k' : Nat} {z : List Value} {by' : Nat} {cs : List Value} {v' : Value} (hres : fn.results = #[.cell t T, .tmp u]) (hv : fr.lookup t = some (.pointer (some ⟨b, 0, none⟩))) (hv' : fr.lookup u = some v') (hm : pt b T' cs ∈ H) (ht : TyOk P T true k' z by') (hl : cs.length = k')
    (k : κ) (hk : φ k) (hr : .tuple #[.agg cs.toArray, v'] = ret k) {J : List HP} (hH : H.Perm (post k ++ J)) (he : e = .ret ∨ e = .normal) : Ent n w0 L0 fr H (bodyPost P fn (Fin φ ret post wb Lb) e) :=
  fin_of hb he k hk hr hH fun a w h1 h2 => by
    have h3 := h1.ev (x := .tmp t) hv
    have h5 := h1.ev (x := .tmp u) hv'
    simp only [Act.eval] at h3 h5
    have h4 := ((Has.pt (w0 := w0) (L0 := L0) hm) w h2).run_load (P := P) (v := .agg cs.toArray) ht hl rfl (fun h => by cases h)
    simp only [Instr.loadAt, Instr.sureAddr, Sem.run_bind, Sem.run_pure, Result.andThen_ok] at h4
    rw [Array.getD_eq_getD_getElem?] at h3 h5
    simp [results, hres, h3, h5, asAddr, h4]
end
end Go.Proofs.Ytnagfcajnbkdoaa
