/- The operations that turn the world: new variables, stores, slice literals, make, append, calls; a function's beginning and end. -/
import Derived.Test.YtnagfcajnbkdoaaSlc
namespace Go.Proofs.Ytnagfcajnbkdoaa
open Go.RowKit
set_option linter.unusedVariables false

section
variable {w0 w : World} {L0 : List Nat} {H R : List HP}
theorem Hp.new {T : TypeId} {cs : List Value} (h : Hp w0 L0 H w) : Hp w0 L0 (pt w.heap.size T cs :: H) (w.alloc (.cells cs.toArray T)) := by
  obtain ⟨L, hs, hn, hst⟩ := h
  have hlt := hs.inh
  refine ⟨w.heap.size :: L, ⟨[w.heap.size], L, rfl, ⟨rfl, heap_alloc_new w _⟩, hs.stable fun b hb => ?_⟩, List.nodup_cons.2 ⟨fun hm => Nat.lt_irrefl _ (hlt _ hm), hn⟩,
    ⟨hst.os, hst.tape, hst.output, by have := hst.size; simp; omega, fun b hb h0 => ?_, fun b hb => ?_⟩⟩
  · exact Below.heap_alloc w _ b (hlt b hb)
  · rw [Below.heap_alloc w _ b (Nat.lt_of_lt_of_le hb hst.size)]; exact hst.keep b hb h0
  · rcases List.mem_cons.1 hb with rfl | hb
    · exact .inr hst.size
    · exact hst.sub b hb
theorem Ext.alloc (w : World) (o : Obj) : Ext w (w.alloc o) := Below.alloc (Below.refl _ _) (Nat.le_refl _) o
/-- one owned thing is turned into another, on the same blocks or new ones -/
theorem Hp.turn {A A' : HP} {w' : World} (h : Hp w0 L0 (A :: R) w) (ht : ∀ L, A.holds w L → ∃ L', A'.holds w' L' ∧ L'.Nodup ∧ Step w L w' L') : Hp w0 L0 (A' :: R) w' := by
  obtain ⟨L, ⟨L1, L2, rfl, h1, h2⟩, hn, hst⟩ := h
  obtain ⟨L', h3, h4, h5⟩ := ht L1 h1
  obtain ⟨k1, k2, k3⟩ := hst.call hn h2.inh h5 h4
  exact ⟨L' ++ L2, ⟨L', L2, rfl, h3, h2.stable k3⟩, k2, k1⟩
end

section
variable {P : Program} {Q : Exit → Act → World → Prop} {n : Nat} {w0 : World} {L0 : List Nat} {fr : Fr} {H R : List HP} {d : Nat} {ty : TypeId} {pos : String} {af : Array Edge} {g : Option (Nat × Bool)}
theorem N.alloc {T : TypeId} {agg : Bool} {k : Nat} {z : List Value} {by' : Nat} (ht : TyOk P T agg k z by') (hd : d < n) :
    Nop P Q n w0 L0 fr H ⟨some d, .alloc T, ty, pos, af, g⟩ true (κ := Nat) (fun b => (d, .pointer (some ⟨b, 0, none⟩)) :: fr) (fun b => pt b T z :: H) (fun _ => True) := fun K hK a w h1 h2 => by
  obtain ⟨zv, hz1, hz2⟩ := ht.run_zero w
  simp only [Oper.wp, execOp, Instr.alloc, Sem.run_bind, hz1, Result.andThen_ok, newVar, newRow, run_newObj, World.alloc_eq, Sem.run_pure, Oper.upon_value, hz2]
  exact hK w.heap.size trivial w _ _ (h1.put hd _) h2.new (fun _ => Ext.alloc _ _)
theorem N.box {T : TypeId} {x : Operand} {v : Value} {cs : List Value} (hx : ev fr x = some v) (hd : d < n) (hv : v.cells = cs.toArray) :
    Nop P Q n w0 L0 fr H ⟨some d, .box T x, ty, pos, af, g⟩ true (κ := Nat) (fun b => (d, .pointer (some ⟨b, 0, none⟩)) :: fr) (fun b => pt b T cs :: H) (fun _ => True) := fun K hK a w h1 h2 => by
  simp only [Oper.wp, execOp, Instr.box, h1.ev hx, Sem.run_bind, Result.andThen_ok, newVar, newRow, run_newObj, World.alloc_eq, Sem.run_pure, Oper.upon_value, hv]
  exact hK w.heap.size trivial w _ _ (h1.put hd _) h2.new (fun _ => Ext.alloc _ _)

theorem run_storeVar {T : TypeId} {agg : Bool} {k : Nat} {z : List Value} {by' : Nat} {b off : Nat} {v : Value} {vs : List Value} {cur : Array Value} {e : TypeId} {w : World} (ht : TyOk P T agg k z by') (hv : v.cells = vs.toArray) (hl : vs.length = k) (h1 : ∀ u ∈ vs, u.oneCell' = true)
    (hb : w.heap[b]? = some (.cells cur e (0, 0))) (hfit : off + vs.length ≤ cur.size) :
    (Instr.storeAt T (.pointer (some ⟨b, off, none⟩)) v).run P w = .ok () (w.setRow b (cur.toList.take off ++ vs ++ cur.toList.drop (off + vs.length)).toArray) := by
  have hst := run_storeCells_at P b off e vs 0 cur w hb (by simpa using hfit) h1
  simp only [Nat.add_zero] at hst
  simp [Instr.storeAt, Instr.sureAddr, storeVar, ht.run_sizeOf, hv, hl, hst]
theorem Step.setRow {w : World} {b : Nat} {cs : Array Value} (hb : b < w.heap.size) : Step w [b] (w.setRow b cs) [b] :=
  ⟨rfl, rfl, rfl, by simp [World.setRow], fun k _ hk => setRow_other w b k cs (by simpa using hk), fun k hk => .inl hk⟩
theorem oneAll {vs : List Value} (h : vs.all (·.oneCell') = true) : ∀ u ∈ vs, u.oneCell' = true := by simpa using h
theorem N.sto {T T' : TypeId} {agg : Bool} {k : Nat} {z : List Value} {by' : Nat} {x y : Operand} {b off : Nat} {v : Value} {cs vs cs' : List Value} (ht : TyOk P T agg k z by') (hx : ev fr x = some (.pointer (some ⟨b, off, none⟩))) (hy : ev fr y = some v)
    (hv : v.cells = vs.toArray) (hl : vs.length = k) (h1' : vs.all (·.oneCell') = true) (hfit : off + k ≤ cs.length) (hcs : cs.take off ++ vs ++ cs.drop (off + k) = cs') :
    Nop P Q n w0 L0 fr (pt b T' cs :: R) ⟨none, .store T x y, ty, pos, af, g⟩ false (κ := Unit) (fun _ => fr) (fun _ => pt b T' cs' :: R) (fun _ => True) := fun K hK a w ha hw => by
  obtain ⟨L', -, hb⟩ := hw.mem (List.mem_cons_self ..)
  have h1 := oneAll h1'
  have hfit' : off + vs.length ≤ cs.toArray.size := by rw [hl, List.size_toArray]; exact hfit
  have hrun := run_storeVar (P := P) ht hv hl h1 hb (off := off) hfit'
  simp only [Oper.wp, execOp, ha.ev hx, ha.ev hy, Sem.run_bind, hrun, Result.andThen_ok, Sem.run_pure, Oper.upon_skip]
  refine hK () trivial w _ _ ha (hw.turn fun L hL => ?_) (by simp)
  obtain ⟨rfl, hb'⟩ := hL
  refine ⟨[b], ⟨rfl, ?_⟩, by simp, Step.setRow (Array.getElem?_eq_some_iff.1 hb).1⟩
  rw [setRow_heap w b _ _ _ _ hb, ← hcs, hl]
theorem N.str {T e : TypeId} {agg : Bool} {k kk m c : Nat} {ad : Option Addr} {z : List Value} {by' : Nat} {x y : Operand} {b off : Nat} {v : Value} {cs vs cs' : List Value} (ht : TyOk P T agg k z by') (hx : ev fr x = some (.pointer (some ⟨b, off, none⟩))) (hy : ev fr y = some v)
    (had : ad = some ⟨b, 0, none⟩) (hv : v.cells = vs.toArray) (hl : vs.length = k) (h1 : ∀ u ∈ vs, u.oneCell' = true) (hk : 0 < k) (hfit : off + k ≤ cs.length) (hcs : cs.take off ++ vs ++ cs.drop (off + k) = cs') :
    Nop P Q n w0 L0 fr (row e kk ad m c cs :: R) ⟨none, .store T x y, ty, pos, af, g⟩ false (κ := Unit) (fun _ => fr) (fun _ => row e kk ad m c cs' :: R) (fun _ => True) := fun K hK a w ha hw => by
  obtain ⟨L', hlen, hrow⟩ := hw.mem (List.mem_cons_self ..)
  rcases hrow with ⟨rfl, rfl, rfl⟩ | ⟨g', cur, h2, hb, h4, h5, h6, h7, rfl⟩
  · simp only [Nat.zero_mul] at hlen; omega
  · rw [had] at h2; cases h2
    have hcl : m * kk ≤ cur.size := by rw [h6]; exact Nat.mul_le_mul_right _ h4
    rw [hlen] at hfit
    have hrun := run_storeVar (P := P) ht hv hl h1 hb (off := off) (by omega)
    simp only [Oper.wp, execOp, ha.ev hx, ha.ev hy, Sem.run_bind, hrun, Result.andThen_ok, Sem.run_pure, Oper.upon_skip]
    refine hK () trivial w _ _ ha (hw.turn fun L hL => ?_) (by simp)
    obtain ⟨-, ⟨rfl, rfl, rfl⟩ | ⟨g'', cur', h2', hb', _, _, _, _, rfl⟩⟩ := hL
    · simp only [Nat.zero_mul] at hlen; omega
    rw [had] at h2'; cases h2'
    refine ⟨[b], ⟨?_, .inr ⟨b, _, had, setRow_heap w b _ _ _ _ hb, h4, h5, ?_, ?_, rfl⟩⟩, by simp, Step.setRow (Array.getElem?_eq_some_iff.1 hb).1⟩
    · rw [← hcs]; simp; omega
    · simp [hl]; omega
    · rw [← hcs, ← h7, hl]
      have hcut : off + k ≤ m * kk := by omega
      rw [List.take_append, List.take_append]
      simp only [List.length_append, List.length_take, Array.length_toList, hl]
      rw [List.take_of_length_le (l := List.take off cur.toList) (by simp; omega), List.take_of_length_le (l := vs) (by rw [hl]; omega)]
      congr 1
      · rw [List.take_take, Nat.min_eq_left (by omega)]
      · rw [List.drop_take]; congr 1; rw [Nat.min_eq_left (by omega)]
/-- a slice literal -/
theorem N.bsl {T e : TypeId} {agg : Bool} {k len : Nat} {z : List Value} {by' : Nat} {ps : Array (Nat × Operand)} {pvs : List (Nat × Value)} {cs : List Value} (hT : P.underlying T = some (.slice e)) (ht : TyOk P e agg k z by')
    (hps : ps.toList.mapM (fun p => (ev fr p.2).map fun v => (p.1, v)) = some pvs) (hsm : len * k ≤ 16777216) (hlm : len ≤ maxLen)
    (hfill : Instr.fill (fun i => some (i * k, k)) ((Array.range (len * k)).map (z.toArray[· % z.toArray.size]!)) pvs = some cs.toArray) (hl : cs.length = len * k) (hd : d < n) :
    Nop P Q n w0 L0 fr H ⟨some d, .buildSlice T len ps, ty, pos, af, g⟩ true (κ := Nat) (fun b => (d, .slice (some ⟨b, 0, none⟩) len len) :: fr) (fun b => row e k (some ⟨b, 0, none⟩) len len cs :: H) (fun _ => True) := fun K hK a w ha hw => by
  have hpv : ∀ (l : List (Nat × Operand)) (pvs : List (Nat × Value)), l.mapM (fun p => (ev fr p.2).map fun v => (p.1, v)) = some pvs → l.map (fun p => (p.1, a.eval p.2)) = pvs := by
    intro l
    induction l with
    | nil => intro vs hv; simp at hv; subst hv; rfl
    | cons x xs ih =>
      intro vs hv
      simp only [List.mapM_cons, Option.pure_def, Option.bind_eq_bind, Option.bind_eq_some_iff, Option.some.injEq] at hv
      obtain ⟨v, h1, vs', h2, rfl⟩ := hv
      obtain ⟨u, h3, rfl⟩ := Option.map_eq_some_iff.1 h1
      simp [ih _ h2, ha.ev h3]
  have hps' := hpv _ _ hps
  have hpl : (ps.map fun p => (p.1, a.eval p.2)).toList = pvs := by simpa using hps'
  obtain ⟨zv, hz1, hz2⟩ := ht.run_zero w
  have hnot : ¬ (len * k > 2 ^ 24) := by omega
  have hfill' : Instr.fill (fun i => some (i * k, k)) ((Array.range (len * k)).map ((if len * k = 0 then (#[] : Array Value) else z.toArray)[· % (if len * k = 0 then (#[] : Array Value) else z.toArray).size]!)) pvs = some cs.toArray := by
    by_cases e0 : len * k = 0
    · rw [e0] at hfill ⊢; simp only [Array.range_zero', List.map_toArray, List.map_nil] at hfill ⊢; exact hfill
    · rw [if_neg e0]; exact hfill
  have hrun : (Instr.buildSlice T len (ps.map fun p => (p.1, a.eval p.2))).run P w = .ok (.slice (some ⟨w.heap.size, 0, none⟩) len len) (w.alloc (.cells cs.toArray e)) := by
    by_cases e0 : len * k = 0
    · rw [e0] at hfill
      simp only [Array.range_zero', List.map_toArray, List.map_nil] at hfill
      simp only [Instr.buildSlice, run_underlying hT, ht.run_sizeOf, Sem.run_bind, Result.andThen_ok, e0, if_true, hpl, Array.range_zero', List.map_toArray, List.map_nil]
      rw [hfill]
      simp [newRow]
    · rw [if_neg e0] at hfill'
      simp only [Instr.buildSlice, run_underlying hT, ht.run_sizeOf, Sem.run_bind, Result.andThen_ok, hnot, if_false, e0, Sem.run_pure, hz1, hz2, hpl, hfill', newRow, run_newObj, World.alloc_eq]
  simp only [Oper.wp, execOp, Sem.run_bind, hrun, Result.andThen_ok, Sem.run_pure, Oper.upon_value]
  refine hK w.heap.size trivial w _ _ (ha.put hd _) ?_ (fun _ => Ext.alloc _ _)
  obtain ⟨L, ⟨L1, L2, rfl, ⟨rfl, hb⟩, h4⟩, h5, h6⟩ := hw.new (T := e) (cs := cs)
  exact ⟨_, ⟨[w.heap.size], L2, rfl, ⟨hl, .inr ⟨_, _, rfl, hb, Nat.le_refl _, hlm, by simpa using hl, by rw [← hl]; exact List.take_length, rfl⟩⟩, h4⟩, h5, h6⟩
end
end Go.Proofs.Ytnagfcajnbkdoaa
