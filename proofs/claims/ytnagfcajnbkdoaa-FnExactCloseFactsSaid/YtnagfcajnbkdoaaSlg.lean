/- Function values that are handed over: what they promise in every later world; captured variables; calls through them. -/
import Derived.Test.YtnagfcajnbkdoaaFa
namespace Go.Proofs.Ytnagfcajnbkdoaa
open Go.RowKit
set_option linter.unusedVariables false

/-- w' is a later world of w, of which L may have been turned -/
structure Keep (w : World) (L : List Nat) (w' : World) : Prop where
  size : w.heap.size ≤ w'.heap.size
  keep : ∀ b, b < w.heap.size → b ∉ L → w'.heap[b]? = w.heap[b]?
theorem Step.toKeep {w0 w : World} {L0 L : List Nat} (h : Step w0 L0 w L) : Keep w0 L0 w := ⟨h.size, h.keep⟩
theorem Keep.rfl' (w : World) (L : List Nat) : Keep w L w := ⟨Nat.le_refl _, fun _ _ _ => rfl⟩
theorem Step.thenKeep {w0 w w' : World} {L0 L Lp : List Nat} (h : Step w0 L0 w L) (hs : ∀ b ∈ Lp, b ∈ L) (k : Keep w Lp w') : Keep w0 L0 w' :=
  ⟨Nat.le_trans h.size k.size, fun b hb h0 => (k.keep b (Nat.lt_of_lt_of_le hb h.size) fun hp => by
    rcases h.sub b (hs b hp) with h1 | h1
    · exact h0 h1
    · omega).trans (h.keep b hb h0)⟩
section
variable {α : Type} {E : Enc α} {w w' w0 : World} {L L0 Lp : List Nat} {cs : List Value} {x : α} {pre rest : List HP}
theorem Ro.keep (h : Ro w L E cs x) (k : Keep w L w') : Ro w' [] E cs x := by
  obtain ⟨L', h1, h2⟩ := h
  exact ⟨L', E.stable h1 fun b hb => k.keep b (E.inh h1 b hb) (h2 b hb), by simp⟩
theorem Ro.nil (h : Ro w L E cs x) : Ro w [] E cs x := h.keep (Keep.rfl' _ _)
/-- a variable that is only read -/
structure RoPt (w : World) (L : List Nat) (b : Nat) (cs : List Value) : Prop where
  at' : ∃ T fz, w.heap[b]? = some (.cells cs.toArray T fz)
  not : b ∉ L
theorem RoPt.lt {b : Nat} (h : RoPt w L b cs) : b < w.heap.size := by
  obtain ⟨T, fz, h1⟩ := h.at'
  exact (Array.getElem?_eq_some_iff.1 h1).1
theorem RoPt.keep {b : Nat} (h : RoPt w L b cs) (k : Keep w L w') : RoPt w' [] b cs := by
  obtain ⟨T, fz, h1⟩ := h.at'
  exact ⟨⟨T, fz, by rw [k.keep b h.lt h.not]; exact h1⟩, by simp⟩
theorem RoPt.has {b : Nat} {H : List HP} (h : RoPt w0 L0 b cs) : Has w0 L0 H b 0 cs := by
  obtain ⟨T, fz, h1⟩ := h.at'
  refine Hp.has_ro (L' := [b]) (by simp) (by simpa using h.lt) (by simpa using h.not) fun j v hj => ?_
  simp [World.cell?, h1, hj]
theorem At.pt {b : Nat} {T : TypeId} (hA : At w0 L0 pre rest w Lp) (hm : pt b T cs ∈ rest) : RoPt w Lp b cs := by
  obtain ⟨⟨Lr, h1, h2, h3, h4⟩⟩ := hA
  obtain ⟨L', ⟨rfl, r1⟩, r2⟩ := h2.mem hm
  exact ⟨⟨T, _, r1⟩, fun hp => (List.nodup_append.1 h3).2.2 b hp b (r2 b (by simp)) rfl⟩
theorem At.rop {b : Nat} (hA : At w0 L0 pre rest w Lp) (h : RoPt w0 L0 b cs) : RoPt w Lp b cs := by
  obtain ⟨⟨Lr, h1, h2, h3, h4⟩⟩ := hA
  obtain ⟨T, fz, g⟩ := h.at'
  refine ⟨⟨T, fz, by rw [h4.keep b h.lt h.not]; exact g⟩, fun hp => ?_⟩
  rcases h4.sub b (by simp [hp]) with h5 | h5
  · exact h.not h5
  · have := h.lt; omega
end
/-- an element as the function takes it -/
def val1 (cs : List Value) : Value := cs.headD undef
def valS (cs : List Value) : Value := .agg cs.toArray
/-- g, with what it has captured, says p of every element, in every later world -/
def FnP {α : Type} (P : Program) (w : World) (L : List Nat) (g : FuncId) (caps : List Value) (E : Enc α) (val : List Value → Value) (D : α → Prop) (p : α → Bool) : Prop :=
  ∀ w', Keep w L w' → ∀ cs x, D x → Ro w' [] E cs x → Enterable P g ∧ Calls P g (val cs :: caps).toArray w' fun e w'' => e = .returned (.bool (p x)) ∧ Ext w' w''
section
variable {P : Program} {α : Type} {E : Enc α} {w w0 : World} {L L0 Lp : List Nat} {pre rest : List HP} {g : FuncId} {caps : List Value} {val : List Value → Value} {D : α → Prop} {p : α → Bool}
theorem At.fn (hA : At w0 L0 pre rest w Lp) (h : FnP P w0 L0 g caps E val D p) : FnP P w Lp g caps E val D p := by
  obtain ⟨⟨Lr, h1, h2, h3, h4⟩⟩ := hA
  exact fun w' k cs x hd hx => h w' (h4.thenKeep (fun b hb => by simp [hb]) k) cs x hd hx
theorem At.keep {w' : World} (hA : At w0 L0 pre rest w Lp) (k : Keep w Lp w') : Keep w0 L0 w' := by
  obtain ⟨⟨Lr, h1, h2, h3, h4⟩⟩ := hA
  exact h4.thenKeep (fun b hb => by simp [hb]) k
/-- a contract whose result is a bool and that leaves no memory behind, called -/
theorem Tr.bool {f : FuncId} {args : List Value} {RR : World → List Nat → Prop} {b : Bool} (tr : Tr P f args RR [] (κ := Unit) (fun _ => True) (fun _ => .bool b) (fun _ => [])) (h : RR w []) :
    Calls P f args.toArray w fun e w' => e = .returned (.bool b) ∧ Ext w w' := by
  refine (tr.2 w [] h rfl List.nodup_nil).mono ?_
  rintro e w' ⟨_, _, rfl, hp⟩
  obtain ⟨L, _, _, hs⟩ := hp
  exact ⟨rfl, hs.below⟩
end
section
variable {P : Program} {Q : Exit → Act → World → Prop} {n : Nat} {w0 : World} {L0 : List Nat} {fr : Fr} {H : List HP} {d : Nat} {ty : TypeId} {pos : String} {af : Array Edge} {g : Option (Nat × Bool)}
/-- a call by contract where nothing is handed over and nothing comes back but the value -/
theorem N.call0 {f : FuncId} {x : Operand} {caps : Array Value} {xs : Array Operand} {ts : Array TypeId} {vs args : List Value} {RR : World → List Nat → Prop} {κ : Type} {φ : κ → Prop} {ret : κ → Value}
    (tr : Tr P f args RR [] φ ret (fun _ => [])) (hx : ev fr x = some (.func (.func f) #[] caps)) (hxs : evs fr xs.toList = some vs) (hargs : vs ++ caps.toList = args) (hd : d < n) (hR : ∀ w Lp, At w0 L0 [] H w Lp → RR w Lp) :
    Nop P Q n w0 L0 fr H ⟨some d, .call ⟨.value x, xs, ts⟩, ty, pos, af, g⟩ true (κ := κ) (fun k => (d, ret k) :: fr) (fun _ => H) φ :=
  N.call tr hx hxs hargs hd (by rfl) hR
/-- a call of a function value that was handed over -/
theorem N.fn {α : Type} {E : Enc α} {f : FuncId} {x y : Operand} {caps : List Value} {ts : Array TypeId} {val : List Value → Value} {D : α → Prop} {p : α → Bool} {cs : List Value} {u : α} {v : Value}
    (h : FnP P w0 L0 f caps E val D p) (hx : ev fr x = some (.func (.func f) #[] caps.toArray)) (hy : ev fr y = some v) (hv : v = val cs) (hd : d < n) (hR : ∀ w Lp, At w0 L0 [] H w Lp → Ro w Lp E cs u) (hu : D u) :
    Nop P Q n w0 L0 fr H ⟨some d, .call ⟨.value x, #[y], ts⟩, ty, pos, af, g⟩ true (κ := Unit) (fun _ => (d, .bool (p u)) :: fr) (fun _ => H) (fun _ => True) := fun K hK a w ha hw => by
  have hw' := hw
  obtain ⟨L, hs, hn, hst⟩ := hw
  have hA : At w0 L0 [] H w [] := ⟨⟨L, rfl, hs, hn, hst⟩⟩
  obtain ⟨⟨fn, f1, f2, f3⟩, hcall⟩ := h w (hst.toKeep) cs u hu (hR w [] hA)
  have f2' : ¬ fn.body = none := fun h => by rw [h] at f2; cases f2
  have f3' : ¬ fn.name = "runtime.NumGoroutine" := by simpa using f3
  have hrun : (execOp a.eval ⟨some d, .call ⟨.value x, #[y], ts⟩, ty, pos, af, g⟩).run P w = .ok (.enter f (val cs :: caps).toArray) w := by
    rw [hv] at hy
    simp [execOp, resolve, ha.ev hx, ha.ev hy, Deferred.ofValue, invoke, callFunc, f1, f2', f3']
  rw [Oper.wp, hrun, Oper.upon_enter]
  refine hcall.mono ?_
  rintro e w' ⟨rfl, hE⟩
  refine hK () trivial w _ w' (ha.put hd _) ?_ (fun _ => hE)
  have := hst.call (Lp := []) (Lp' := []) (w' := w') (by simpa using hn) hs.inh ⟨hE.os, hE.tape, hE.output, hE.size, fun b hb _ => hE.block b hb, by simp⟩ (by simp)
  simp only [List.nil_append] at this
  exact ⟨L, hs.stable this.2.2, this.2.1, this.1⟩
end
end Go.Proofs.Ytnagfcajnbkdoaa
