/- Functions of two arguments that are handed over. -/
import Derived.Test.YtnagfcajnbkdoaaDf
import Derived.Test.YtnagfcajnbkdoaaSlm
namespace Go.Proofs.Ytnagfcajnbkdoaa
open Go.RowKit
set_option linter.unusedVariables false
/-- g, with what it has captured, says p of every two elements, in every later world -/
def FnP2 {α : Type} (P : Program) (w : World) (L : List Nat) (g : FuncId) (caps : List Value) (E : Enc α) (val : List Value → Value) (p : α → α → Bool) : Prop :=
  Enterable P g ∧ ∀ w', Keep w L w' → ∀ cs x ds y, Ro w' [] E cs x → Ro w' [] E ds y → Calls P g (val cs :: val ds :: caps).toArray w' fun e w'' => e = .returned (.bool (p x y)) ∧ Ext w' w''
section
variable {P : Program} {α : Type} {E : Enc α} {w w0 : World} {L L0 Lp : List Nat} {pre rest : List HP} {g : FuncId} {caps : List Value} {val : List Value → Value} {p : α → α → Bool}
theorem At.fn2 (hA : At w0 L0 pre rest w Lp) (h : FnP2 P w0 L0 g caps E val p) : FnP2 P w Lp g caps E val p := by
  obtain ⟨⟨Lr, h1, h2, h3, h4⟩⟩ := hA
  exact ⟨h.1, fun w' k cs x ds y hx hy => h.2 w' (h4.thenKeep (fun b hb => by simp [hb]) k) cs x ds y hx hy⟩
end
section
variable {P : Program} {Q : Exit → Act → World → Prop} {n : Nat} {w0 : World} {L0 : List Nat} {fr : Fr} {H : List HP} {d : Nat} {ty : TypeId} {pos : String} {af : Array Edge} {g : Option (Nat × Bool)}
theorem N.fn2 {α : Type} {E : Enc α} {f : FuncId} {x y z : Operand} {caps : List Value} {ts : Array TypeId} {val : List Value → Value} {p : α → α → Bool} {cs ds : List Value} {u u' : α} {v v' : Value}
    (h : FnP2 P w0 L0 f caps E val p) (hx : ev fr x = some (.func (.func f) #[] caps.toArray)) (hy : ev fr y = some v) (hz : ev fr z = some v') (hv : v = val cs) (hv' : v' = val ds) (hd : d < n) (hR : ∀ w Lp, At w0 L0 [] H w Lp → Ro w Lp E cs u) (hR' : ∀ w Lp, At w0 L0 [] H w Lp → Ro w Lp E ds u') :
    Nop P Q n w0 L0 fr H ⟨some d, .call ⟨.value x, #[y, z], ts⟩, ty, pos, af, g⟩ true (κ := Unit) (fun _ => (d, .bool (p u u')) :: fr) (fun _ => H) (fun _ => True) := fun K hK a w ha hw => by
  obtain ⟨⟨fn, f1, f2, f3⟩, h⟩ := h
  have hw' := hw
  obtain ⟨L, hs, hn, hst⟩ := hw
  have hA : At w0 L0 [] H w [] := ⟨⟨L, rfl, hs, hn, hst⟩⟩
  have hcall := h w (hst.toKeep) cs u ds u' (hR w [] hA) (hR' w [] hA)
  have f2' : ¬ fn.body = none := fun h => by rw [h] at f2; cases f2
  have f3' : ¬ fn.name = "runtime.NumGoroutine" := by simpa using f3
  have hrun : (execOp a.eval ⟨some d, .call ⟨.value x, #[y, z], ts⟩, ty, pos, af, g⟩).run P w = .ok (.enter f (val cs :: val ds :: caps).toArray) w := by
    rw [hv] at hy
    rw [hv'] at hz
    simp [execOp, resolve, ha.ev hx, ha.ev hy, ha.ev hz, Deferred.ofValue, invoke, callFunc, f1, f2', f3']
  rw [Oper.wp, hrun, Oper.upon_enter]
  refine hcall.mono ?_
  rintro e w' ⟨rfl, hE⟩
  refine hK () trivial w _ w' (ha.put hd _) ?_ (fun _ => hE)
  have := hst.call (Lp := []) (Lp' := []) (w' := w') (by simpa using hn) hs.inh ⟨hE.os, hE.tape, hE.output, hE.size, fun b hb _ => hE.block b hb, by simp⟩ (by simp)
  simp only [List.nil_append] at this
  exact ⟨L, hs.stable this.2.2, this.2.1, this.1⟩
end
section
variable {P : Program} {w : World} {L : List Nat} {g : FuncId} {caps : List Value} {RR : World → List Nat → Prop}
theorem FnP2.ofFact {p : (Int × List Int) → (Int × List Int) → Bool} (tr : ∀ {x0 : Int} {ax1 : Option Addr} {mx1 cx1 : Nat} {x1 : List Int} {y0 : Int} {ay1 : Option Addr} {my1 cy1 : Nat} {y1 : List Int}, Tr P g (.agg #[.int .i64 x0, .slice ax1 mx1 cx1] :: .agg #[.int .i64 y0, .slice ay1 my1 cy1] :: caps) (fun w L => (I64 x0 ∧ Ro w L eIs [.slice ax1 mx1 cx1] x1 ∧ I64 y0 ∧ Ro w L eIs [.slice ay1 my1 cy1] y1) ∧ RR w L) [] (κ := Unit) (fun _ => True) (fun _ => .bool (p (x0, x1) (y0, y1))) (fun _ => [])) (hR : ∀ w', Keep w L w' → RR w' []) : FnP2 P w L g caps eFact valS p :=
  ⟨(tr (x0 := 0) (x1 := []) (ax1 := none) (mx1 := 0) (cx1 := 0) (y0 := 0) (y1 := []) (ay1 := none) (my1 := 0) (cy1 := 0)).1, fun w' k cs x ds y hx hy => by obtain ⟨a0, c0, rfl, h0, h1⟩ := Ro.pFact hx; obtain ⟨b0, e0, rfl, k0, k1⟩ := Ro.pFact hy; exact Tr.bool tr ⟨⟨h0, h1, k0, k1⟩, hR w' k⟩⟩
theorem FnP2.ofAccess {p : (Int × List Int) → (Int × List Int) → Bool} (tr : ∀ {x0 : Int} {ax1 : Option Addr} {mx1 cx1 : Nat} {x1 : List Int} {y0 : Int} {ay1 : Option Addr} {my1 cy1 : Nat} {y1 : List Int}, Tr P g (.agg #[.int .i64 x0, .slice ax1 mx1 cx1] :: .agg #[.int .i64 y0, .slice ay1 my1 cy1] :: caps) (fun w L => (I64 x0 ∧ Ro w L eIs [.slice ax1 mx1 cx1] x1 ∧ I64 y0 ∧ Ro w L eIs [.slice ay1 my1 cy1] y1) ∧ RR w L) [] (κ := Unit) (fun _ => True) (fun _ => .bool (p (x0, x1) (y0, y1))) (fun _ => [])) (hR : ∀ w', Keep w L w' → RR w' []) : FnP2 P w L g caps eAccess valS p :=
  ⟨(tr (x0 := 0) (x1 := []) (ax1 := none) (mx1 := 0) (cx1 := 0) (y0 := 0) (y1 := []) (ay1 := none) (my1 := 0) (cy1 := 0)).1, fun w' k cs x ds y hx hy => by obtain ⟨a0, c0, rfl, h0, h1⟩ := Ro.pAccess hx; obtain ⟨b0, e0, rfl, k0, k1⟩ := Ro.pAccess hy; exact Tr.bool tr ⟨⟨h0, h1, k0, k1⟩, hR w' k⟩⟩
theorem FnP2.ofAtom {p : (Int × List Int) → (Int × List Int) → Bool} (tr : ∀ {x0 : Int} {ax1 : Option Addr} {mx1 cx1 : Nat} {x1 : List Int} {y0 : Int} {ay1 : Option Addr} {my1 cy1 : Nat} {y1 : List Int}, Tr P g (.agg #[.int .i64 x0, .slice ax1 mx1 cx1] :: .agg #[.int .i64 y0, .slice ay1 my1 cy1] :: caps) (fun w L => (I64 x0 ∧ Ro w L eIs [.slice ax1 mx1 cx1] x1 ∧ I64 y0 ∧ Ro w L eIs [.slice ay1 my1 cy1] y1) ∧ RR w L) [] (κ := Unit) (fun _ => True) (fun _ => .bool (p (x0, x1) (y0, y1))) (fun _ => [])) (hR : ∀ w', Keep w L w' → RR w' []) : FnP2 P w L g caps eAtom valS p :=
  ⟨(tr (x0 := 0) (x1 := []) (ax1 := none) (mx1 := 0) (cx1 := 0) (y0 := 0) (y1 := []) (ay1 := none) (my1 := 0) (cy1 := 0)).1, fun w' k cs x ds y hx hy => by obtain ⟨a0, c0, rfl, h0, h1⟩ := Ro.pAtom hx; obtain ⟨b0, e0, rfl, k0, k1⟩ := Ro.pAtom hy; exact Tr.bool tr ⟨⟨h0, h1, k0, k1⟩, hR w' k⟩⟩
theorem FnP2.ofIs {p : List Int → List Int → Bool} (tr : ∀ {ax : Option Addr} {mx cx : Nat} {x : List Int} {ay : Option Addr} {my cy : Nat} {y : List Int}, Tr P g (.slice ax mx cx :: .slice ay my cy :: caps) (fun w L => (Ro w L eIs [.slice ax mx cx] x ∧ Ro w L eIs [.slice ay my cy] y) ∧ RR w L) [] (κ := Unit) (fun _ => True) (fun _ => .bool (p x y)) (fun _ => [])) (hR : ∀ w', Keep w L w' → RR w' []) : FnP2 P w L g caps eIs val1 p :=
  ⟨(tr (ax := none) (mx := 0) (cx := 0) (x := []) (ay := none) (my := 0) (cy := 0) (y := [])).1, fun w' k cs x ds y hx hy => by obtain ⟨a, c, rfl⟩ := hx.sl; obtain ⟨b, e, rfl⟩ := hy.sl; exact (tr (x := x) (y := y)).bool ⟨⟨hx, hy⟩, hR w' k⟩⟩
end
end Go.Proofs.Ytnagfcajnbkdoaa
