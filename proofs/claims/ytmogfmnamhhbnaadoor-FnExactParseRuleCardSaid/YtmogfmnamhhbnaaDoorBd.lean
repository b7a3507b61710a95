/- Functions of two arguments that are handed over. -/
import Derived.Test.YtmogfmnamhhbnaaDoorBc
import Derived.Test.YtmogfmnamhhbnaaDoorBb
import Derived.Lib.SlicesCompact
namespace Go.Proofs.YtmogfmnamhhbnaaDoor
open Go.RowKit
set_option linter.unusedVariables false
/-- g, with what it has captured, says p of every two elements, in every later world -/
def FnP2 {α : Type} (P : Program) (w : World) (L : List Nat) (g : FuncId) (caps : List Value) (E : Enc α) (val : List Value → Value) (p : α → α → Bool) : Prop :=
  Enterable P g ∧ ∀ w', Keep w L w' → ∀ cs x ds y, Ro w' [] E cs x → Ro w' [] E ds y → Calls P g (val cs :: val ds :: caps).toArray w' fun e w'' => e = .returned (.bool (p x y)) ∧ Ext w' w''
section
variable {P : Program} {α : Type} {E : Enc α} {w w0 : World} {L L0 Lp : List Nat} {pre rest : List HP} {g : FuncId} {caps : List Value} {val : List Value → Value} {p : α → α → Bool}
theorem At.fn2 (hA : At w0 L0 pre rest w Lp) (h : FnP2 P w0 L0 g caps E val p) : FnP2 P w Lp g caps E val p := by
  obtain ⟨⟨Lr, h1, h2, h3, h4⟩⟩ := hA
  exact ⟨h.1, fun w' k cs x ds y hx hy => h.2 w' (h4.thenKeep (fun b hb => by simp [hb]) k) cs x ds y hx hy⟩
end
section
variable {P : Program} {Q : Exit → Act → World → Prop} {n : Nat} {w0 : World} {L0 : List Nat} {fr : Fr} {H : List HP} {d : Nat} {ty : TypeId} {pos : String} {af : Array Edge} {g : Option (Nat × Bool)}
theorem N.fn2 {α : Type} {E : Enc α} {f : FuncId} {x y z : Operand} {caps : List Value} {ts : Array TypeId} {val : List Value → Value} {p : α → α → Bool} {cs ds : List Value} {u u' : α} {v v' : Value}
    (h : FnP2 P w0 L0 f caps E val p) (hx : ev fr x = some (.func (.func f) #[] caps.toArray)) (hy : ev fr y = some v) (hz : ev fr z = some v') (hv : v = val cs) (hv' : v' = val ds) (hd : d < n) (hR : ∀ w Lp, At w0 L0 [] H w Lp → Ro w Lp E cs u) (hR' : ∀ w Lp, At w0 L0 [] H w Lp → Ro w Lp E ds u') :
    Nop P Q n w0 L0 fr H ⟨some d, .call ⟨.value x, #[y, z], ts⟩, ty, pos, af, g⟩ true (κ := Unit) (fun _ => (d, .bool (p u u')) :: fr) (fun _ => H) (fun _ => True) := fun K hK a w ha hw => by
  obtain ⟨⟨fn, f1, f2, f3⟩, h⟩ := h
  have hw' := hw
  obtain ⟨L, hs, hn, hst⟩ := hw
  have hA : At w0 L0 [] H w [] := ⟨⟨L, rfl, hs, hn, hst⟩⟩
  have hcall := h w (hst.toKeep) cs u ds u' (hR w [] hA) (hR' w [] hA)
  have f2' : ¬ fn.body = none := fun h => by rw [h] at f2; cases f2
  have f3' : ¬ fn.name = "runtime.NumGoroutine" := by simpa using f3
  have hrun : (execOp a.eval ⟨some d, .call ⟨.value x, #[y, z], ts⟩, ty, pos, af, g⟩).run P w = .ok (.enter f (val cs :: val ds :: caps).toArray) w := by
    rw [hv] at hy
    rw [hv'] at hz
    simp [execOp, resolve, ha.ev hx, ha.ev hy, ha.ev hz, Deferred.ofValue, invoke, callFunc, f1, f2', f3']
  rw [Oper.wp, hrun, Oper.upon_enter]
  refine hcall.mono ?_
  rintro e w' ⟨rfl, hE⟩
  refine hK () trivial w _ w' (ha.put hd _) ?_ (fun _ => hE)
  have := hst.call (Lp := []) (Lp' := []) (w' := w') (by simpa using hn) hs.inh ⟨hE.os, hE.tape, hE.output, hE.size, fun b hb _ => hE.block b hb, by simp⟩ (by simp)
  simp only [List.nil_append] at this
  exact ⟨L, hs.stable this.2.2, this.2.1, this.1⟩
end
section
variable {P : Program} {w : World} {L : List Nat} {g : FuncId} {caps : List Value} {RR : World → List Nat → Prop}
theorem FnP2.ofFact {p : (Int × List Int) → (Int × List Int) → Bool} (tr : ∀ {x0 : Int} {ax1 : Option Addr} {mx1 cx1 : Nat} {x1 : List Int} {y0 : Int} {ay1 : Option Addr} {my1 cy1 : Nat} {y1 : List Int}, Tr P g (.agg #[.int .i64 x0, .slice ax1 mx1 cx1] :: .agg #[.int .i64 y0, .slice ay1 my1 cy1] :: caps) (fun w L => (I64 x0 ∧ Ro w L eIs [.slice ax1 mx1 cx1] x1 ∧ I64 y0 ∧ Ro w L eIs [.slice ay1 my1 cy1] y1) ∧ RR w L) [] (κ := Unit) (fun _ => True) (fun _ => .bool (p (x0, x1) (y0, y1))) (fun _ => [])) (hR : ∀ w', Keep w L w' → RR w' []) : FnP2 P w L g caps eFact valS p :=
  ⟨(tr (x0 := 0) (x1 := []) (ax1 := none) (mx1 := 0) (cx1 := 0) (y0 := 0) (y1 := []) (ay1 := none) (my1 := 0) (cy1 := 0)).1, fun w' k cs x ds y hx hy => by obtain ⟨a0, c0, rfl, h0, h1⟩ := Ro.pFact hx; obtain ⟨b0, e0, rfl, k0, k1⟩ := Ro.pFact hy; exact Tr.bool tr ⟨⟨h0, h1, k0, k1⟩, hR w' k⟩⟩
theorem FnP2.ofAccess {p : (Int × List Int) → (Int × List Int) → Bool} (tr : ∀ {x0 : Int} {ax1 : Option Addr} {mx1 cx1 : Nat} {x1 : List Int} {y0 : Int} {ay1 : Option Addr} {my1 cy1 : Nat} {y1 : List Int}, Tr P g (.agg #[.int .i64 x0, .slice ax1 mx1 cx1] :: .agg #[.int .i64 y0, .slice ay1 my1 cy1] :: caps) (fun w L => (I64 x0 ∧ Ro w L eIs [.slice ax1 mx1 cx1] x1 ∧ I64 y0 ∧ Ro w L eIs [.slice ay1 my1 cy1] y1) ∧ RR w L) [] (κ := Unit) (fun _ => True) (fun _ => .bool (p (x0, x1) (y0, y1))) (fun _ => [])) (hR : ∀ w', Keep w L w' → RR w' []) : FnP2 P w L g caps eAccess valS p :=
  ⟨(tr (x0 := 0) (x1 := []) (ax1 := none) (mx1 := 0) (cx1 := 0) (y0 := 0) (y1 := []) (ay1 := none) (my1 := 0) (cy1 := 0)).1, fun w' k cs x ds y hx hy => by obtain ⟨a0, c0, rfl, h0, h1⟩ := Ro.pAccess hx; obtain ⟨b0, e0, rfl, k0, k1⟩ := Ro.pAccess hy; exact Tr.bool tr ⟨⟨h0, h1, k0, k1⟩, hR w' k⟩⟩
theorem FnP2.ofAtom {p : (Int × List Int) → (Int × List Int) → Bool} (tr : ∀ {x0 : Int} {ax1 : Option Addr} {mx1 cx1 : Nat} {x1 : List Int} {y0 : Int} {ay1 : Option Addr} {my1 cy1 : Nat} {y1 : List Int}, Tr P g (.agg #[.int .i64 x0, .slice ax1 mx1 cx1] :: .agg #[.int .i64 y0, .slice ay1 my1 cy1] :: caps) (fun w L => (I64 x0 ∧ Ro w L eIs [.slice ax1 mx1 cx1] x1 ∧ I64 y0 ∧ Ro w L eIs [.slice ay1 my1 cy1] y1) ∧ RR w L) [] (κ := Unit) (fun _ => True) (fun _ => .bool (p (x0, x1) (y0, y1))) (fun _ => [])) (hR : ∀ w', Keep w L w' → RR w' []) : FnP2 P w L g caps eAtom valS p :=
  ⟨(tr (x0 := 0) (x1 := []) (ax1 := none) (mx1 := 0) (cx1 := 0) (y0 := 0) (y1 := []) (ay1 := none) (my1 := 0) (cy1 := 0)).1, fun w' k cs x ds y hx hy => by obtain ⟨a0, c0, rfl, h0, h1⟩ := Ro.pAtom hx; obtain ⟨b0, e0, rfl, k0, k1⟩ := Ro.pAtom hy; exact Tr.bool tr ⟨⟨h0, h1, k0, k1⟩, hR w' k⟩⟩
theorem FnP2.ofIs {p : List Int → List Int → Bool} (tr : ∀ {ax : Option Addr} {mx cx : Nat} {x : List Int} {ay : Option Addr} {my cy : Nat} {y : List Int}, Tr P g (.slice ax mx cx :: .slice ay my cy :: caps) (fun w L => (Ro w L eIs [.slice ax mx cx] x ∧ Ro w L eIs [.slice ay my cy] y) ∧ RR w L) [] (κ := Unit) (fun _ => True) (fun _ => .bool (p x y)) (fun _ => [])) (hR : ∀ w', Keep w L w' → RR w' []) : FnP2 P w L g caps eIs val1 p :=
  ⟨(tr (ax := none) (mx := 0) (cx := 0) (x := []) (ay := none) (my := 0) (cy := 0) (y := [])).1, fun w' k cs x ds y hx hy => by obtain ⟨a, c, rfl⟩ := hx.sl; obtain ⟨b, e, rfl⟩ := hy.sl; exact (tr (x := x) (y := y)).bool ⟨⟨hx, hy⟩, hR w' k⟩⟩
end
end Go.Proofs.YtmogfmnamhhbnaaDoor

namespace Go.Proofs.YtmogfmnamhhbnaaDoor
open Go.RowKit
set_option linter.unusedVariables false
/-- of an owned list, whose row is there whole, the elements from j on -/
def owd {α : Type} (e : TypeId) (E : Enc α) (a : Option Addr) (m c : Nat) (xs : List α) (j : Nat) : HP where
  holds w L := ∃ c1 c2 L1 L2, L = L1 ++ L2 ∧ m = xs.length ∧ m ≤ maxLen ∧ c1.length = j * E.k ∧ Elems E w c2 (xs.drop j) L2 true ∧ (row e E.k a m c (c1 ++ c2)).holds w L1
  stable := by
    rintro w w' L ⟨c1, c2, L1, L2, rfl, h1, h2, h3, h4, h5⟩ hb
    exact ⟨c1, c2, L1, L2, rfl, h1, h2, h3, h4.stable fun b h => hb b (by simp [h]), (row e E.k a m c _).stable h5 fun b h => hb b (by simp [h])⟩
  inh := by
    rintro w L ⟨c1, c2, L1, L2, rfl, h1, h2, h3, h4, h5⟩ b hb
    rcases List.mem_append.1 hb with hb | hb
    · exact (row e E.k a m c _).inh h5 b hb
    · exact h4.inh b hb
/-- the same, where element j (cells ce) has been taken out -/
def owt {α : Type} (e : TypeId) (E : Enc α) (a : Option Addr) (m c : Nat) (xs : List α) (j : Nat) (ce : List Value) : HP where
  holds w L := ∃ c1 c2 L1 L2, L = L1 ++ L2 ∧ m = xs.length ∧ m ≤ maxLen ∧ j < xs.length ∧ ce.length = E.k ∧ c1.length = j * E.k ∧ Elems E w c2 (xs.drop (j + 1)) L2 true ∧ (row e E.k a m c (c1 ++ (ce ++ c2))).holds w L1
  stable := by
    rintro w w' L ⟨c1, c2, L1, L2, rfl, h1, h2, h0, h6, h3, h4, h5⟩ hb
    exact ⟨c1, c2, L1, L2, rfl, h1, h2, h0, h6, h3, h4.stable fun b h => hb b (by simp [h]), (row e E.k a m c _).stable h5 fun b h => hb b (by simp [h])⟩
  inh := by
    rintro w L ⟨c1, c2, L1, L2, rfl, h1, h2, h0, h6, h3, h4, h5⟩ b hb
    rcases List.mem_append.1 hb with hb | hb
    · exact (row e E.k a m c _).inh h5 b hb
    · exact h4.inh b hb
section
variable {n : Nat} {w0 : World} {L0 : List Nat} {fr : Fr} {H R : List HP} {G : Act → World → Prop} {α : Type} {E : Enc α} {e : TypeId} {a : Option Addr} {m c : Nat} {xs : List α} {j : Nat}
theorem Ent.od0 (h : Ent n w0 L0 fr (owd e E a m c xs 0 :: R) G) : Ent n w0 L0 fr (ow (Enc.sl e E) [.slice a m c] xs :: R) G := fun ac w h1 h2 => by
  obtain ⟨L, ⟨Lo, LR, rfl, ho, hR⟩, hn, hst⟩ := h2
  obtain ⟨ccs, L1, L2, rfl, g1, g2, g3, g4⟩ := ow_sl ho
  exact h ac w h1 ⟨(L1 ++ L2) ++ LR, ⟨L1 ++ L2, LR, rfl, ⟨[], ccs, L1, L2, rfl, g1, g2, by simp, g3, g4⟩, hR⟩, hn, hst⟩
theorem Ent.odt (hj : j < xs.length) (h : ∀ ce, Ent n w0 L0 fr (owt e E a m c xs j ce :: ow E ce xs[j] :: R) G) : Ent n w0 L0 fr (owd e E a m c xs j :: R) G := fun ac w h1 h2 => by
  obtain ⟨L, ⟨Lo, LR, rfl, ⟨c1, c2, L1, L2, rfl, g1, g2, g3, g4, g5⟩, hR⟩, hn, hst⟩ := h2
  rw [List.drop_eq_getElem_cons hj] at g4
  obtain ⟨d1, d2, N1, N2, rfl, rfl, k1, k2⟩ := g4
  have hperm : (L1 ++ (N1 ++ N2) ++ LR).Perm ((L1 ++ N2) ++ (N1 ++ LR)) := by
    simp only [List.append_assoc]
    refine List.Perm.append_left L1 ?_
    rw [← List.append_assoc, ← List.append_assoc]
    exact (List.perm_append_comm).append_right LR
  exact h d1 ac w h1 ⟨(L1 ++ N2) ++ (N1 ++ LR), ⟨_, _, rfl, ⟨c1, d2, L1, N2, rfl, g1, g2, hj, E.len k1, g3, k2, g5⟩, N1, LR, rfl, k1, hR⟩, hperm.nodup_iff.1 hn, hst.sublist fun b hb => hperm.mem_iff.2 hb⟩
theorem Ent.otd {ce : List Value} (h : Ent n w0 L0 fr (owd e E a m c xs (j + 1) :: R) G) : Ent n w0 L0 fr (owt e E a m c xs j ce :: R) G := fun ac w h1 h2 => by
  obtain ⟨L, ⟨Lo, LR, rfl, ⟨c1, c2, L1, L2, rfl, g1, g2, g0, g6, g3, g4, g5⟩, hR⟩, hn, hst⟩ := h2
  exact h ac w h1 ⟨(L1 ++ L2) ++ LR, ⟨L1 ++ L2, LR, rfl, ⟨c1 ++ ce, c2, L1, L2, rfl, g1, g2, by rw [List.length_append, g3, g6, Nat.succ_mul], g4, by rw [List.append_assoc]; exact g5⟩, hR⟩, hn, hst⟩
theorem Ent.osl {cs : List Value} (h : ∀ (a : Option Addr) (m c : Nat), cs = [.slice a m c] → m = xs.length → Ent n w0 L0 fr (ow (Enc.sl e E) [.slice a m c] xs :: R) G) : Ent n w0 L0 fr (ow (Enc.sl e E) cs xs :: R) G := fun ac w h1 h2 => by
  obtain ⟨L, ⟨Lx, LR, rfl, hx, hR⟩, hn, hst⟩ := h2
  obtain ⟨a, m, c, ccs, L1, L2, rfl, hm, hx2⟩ := id hx
  exact h a m c rfl hm ac w h1 ⟨Lx ++ LR, ⟨Lx, LR, rfl, hx, hR⟩, hn, hst⟩
theorem Has.owt {ce : List Value} {b o : Nat} (ha : a = some ⟨b, o, none⟩) (hm : Go.Proofs.YtmogfmnamhhbnaaDoor.owt e E a m c xs j ce ∈ H) : Has w0 L0 H b (o + j * E.k) ce := fun w h => by
  obtain ⟨L', c1, c2, L1, L2, _, g1, g2, hj, g6, g3, g4, h0, g8⟩ := h.mem hm
  rcases g8 with ⟨_, h, _⟩ | ⟨g', cur, h2, h3, h4, h5, h6, h7, _⟩
  · omega
  rw [ha] at h2; cases h2
  intro i v hi
  have hi' : (c1 ++ (ce ++ c2))[j * E.k + i]? = some v := by
    rw [← g3, List.getElem?_append_right (by omega), show c1.length + i - c1.length = i from by omega]
    rw [List.getElem?_append_left (by exact (List.getElem?_eq_some_iff.1 hi).1)]; exact hi
  rw [← h7, List.getElem?_take] at hi'
  split at hi'
  · simpa [World.cell?, h3] using hi'
  · cases hi'
theorem Ent.adrd (hm : owd e E a m c xs j ∈ H) (hlt : 0 < m) (h : ∀ b, a = some ⟨b, 0, none⟩ → Ent n w0 L0 fr H G) : Ent n w0 L0 fr H G := fun ac w h1 h2 => by
  obtain ⟨L, hL⟩ := h2.mem hm
  obtain ⟨c1, c2, L1, L2, _, g1, g2, _, _, g4⟩ := hL
  rcases g4.2 with ⟨_, h0, _⟩ | ⟨g, cur, h3, _⟩
  · omega
  · exact h g h3 ac w h1 h2
end
theorem Back.has {w1 w0 : World} {L1 L0 : List Nat} {b off : Nat} {cs : List Value} (h : Back w1 L1 w0 L0) (k : ∀ H, Has w0 L0 H b off cs) : ∀ H, Has w1 L1 H b off cs := fun H w hw => k H w (h H w hw)
theorem frB {a b : Bool} (h : a = b) : some (Value.bool a) = some (Value.bool b) := by rw [h]
end Go.Proofs.YtmogfmnamhhbnaaDoor

namespace Go.Proofs.YtmogfmnamhhbnaaDoor
set_option linter.unusedVariables false
def cmpI (a b : Int) : Int := if a < b then -1 else if b < a then 1 else 0
def cmpL : List Int → List Int → Int
  | [], [] => 0
  | [], _ :: _ => -1
  | _ :: _, [] => 1
  | a :: l, b :: m => if cmpI a b ≠ 0 then cmpI a b else cmpL l m
def orI : List Int → Int
  | [] => 0
  | x :: l => if x ≠ 0 then x else orI l
def cmpF (a b : Int × List Int) : Int := if cmpI a.1 b.1 ≠ 0 then cmpI a.1 b.1 else cmpL a.2 b.2
theorem cmpI_i64 {a b : Int} : I64 (cmpI a b) := by unfold cmpI I64; split; omega; split <;> omega
theorem cmpL_i64 : ∀ {l m : List Int}, I64 (cmpL l m)
  | [], [] => by unfold cmpL I64; omega
  | [], _ :: _ => by unfold cmpL I64; omega
  | _ :: _, [] => by unfold cmpL I64; omega
  | a :: l, b :: m => by unfold cmpL; split; exact cmpI_i64; exact cmpL_i64
theorem cmpI_zero {a b : Int} : cmpI a b = 0 ↔ a = b := by unfold cmpI; grind
theorem cmpL_zero : ∀ {l m : List Int}, cmpL l m = 0 ↔ l = m
  | [], [] => by simp [cmpL]
  | [], _ :: _ => by simp [cmpL]
  | _ :: _, [] => by simp [cmpL]
  | a :: l, b :: m => by
    have := cmpI_zero (a := a) (b := b)
    have h2 := cmpL_zero (l := l) (m := m)
    unfold cmpL; grind
theorem cmpF_zero {a b : Int × List Int} : cmpF a b = 0 ↔ a = b := by
  have h1 := cmpI_zero (a := a.1) (b := b.1)
  have h2 := cmpL_zero (l := a.2) (m := b.2)
  unfold cmpF
  rcases a with ⟨a1, a2⟩; rcases b with ⟨b1, b2⟩
  grind
/-- slices.EqualFunc -/
def eqP {α : Type} (p : α → α → Bool) : List α → List α → Bool
  | [], [] => true
  | a :: l, b :: m => p a b && eqP p l m
  | _, _ => false
theorem eqP_len {α : Type} {p : α → α → Bool} : ∀ {l m : List α}, eqP p l m = true → l.length = m.length
  | [], [], _ => rfl
  | [], _ :: _, h => by simp [eqP] at h
  | _ :: _, [], h => by simp [eqP] at h
  | a :: l, b :: m, h => by
    simp only [eqP, Bool.and_eq_true] at h
    simp [eqP_len h.2]
theorem eqP_dec {α : Type} [DecidableEq α] : ∀ {l m : List α}, eqP (fun z y => decide (z = y)) l m = decide (l = m)
  | [], [] => by simp [eqP]
  | [], _ :: _ => by simp [eqP]
  | _ :: _, [] => by simp [eqP]
  | a :: l, b :: m => by simp [eqP, eqP_dec (l := l) (m := m)]
theorem eqP_facts {l m : List (Int × List Int)} : eqP (fun z y => decide (cmpF z y = 0)) l m = decide (l = m) := by
  rw [← eqP_dec]
  congr 1
  funext z y
  simp [cmpF_zero]
end Go.Proofs.YtmogfmnamhhbnaaDoor

namespace Go.Proofs.YtmogfmnamhhbnaaDoor
set_option linter.unusedVariables false
def hasF (l : List (Int × List Int)) (f : Int × List Int) : Bool := l.any fun z => decide (cmpF z f = 0)
def factO (a : Int × List Int) (b : List Int × List Int) : Int × List Int := (a.1, a.2.map (valO b))
def okMap (q : List Int × List (Int × List Int)) (facts : List (Int × List Int)) (head : List Int) (b : List Int × List Int) : Bool :=
  decide (b.1.length = b.2.length) && (decide (q.1.map (valO b) = head) && !q.2.any fun a => !hasF facts (factO a b))
theorem Ro.i64A {w : World} {L : List Nat} {e : TypeId} {a : Option Addr} {m c : Nat} {xs : List (Int × List Int)} (h : Ro w L (Enc.sl e (Enc.pair Enc.int (Enc.sl tI Enc.int))) [.slice a m c] xs) : ∀ x ∈ xs, I64 x.1 ∧ ∀ y ∈ x.2, I64 y := by
  intro x hx
  obtain ⟨i, hi, rfl⟩ := List.getElem_of_mem hx
  obtain ⟨_, _, ci, _, h1, _⟩ := h.elem i hi
  obtain ⟨c1, c2, rfl, h2, h3⟩ := h1.pair
  obtain ⟨a', c', rfl⟩ := h3.sl
  exact ⟨h2.int.2, h3.i64⟩
theorem valO_i64ss {b : List Int × List Int} {l : List (Int × List Int)} (h : ∀ x ∈ l, I64 x.1 ∧ ∀ y ∈ x.2, I64 y) (h1 : ∀ x ∈ b.1, I64 x) (h2 : ∀ x ∈ b.2, I64 x) : ∀ x ∈ l, ∀ y ∈ x.2, I64 (valO b y) := fun x hx y hy => valO_i64 ((h x hx).2 y hy) h2
theorem tot_mem {α : Type} {t : α → Nat} {l : List α} {n : Nat} (h : totL t l ≤ n) : ∀ x ∈ l, t x ≤ n := by
  intro x hx
  obtain ⟨i, hi, rfl⟩ := List.getElem_of_mem hx
  exact Nat.le_trans (tot_elem hi) h
theorem atoms_len {l : List (Int × List Int)} {n : Nat} (h : totL (fun x => x.2.length) l ≤ n) : ∀ x ∈ l, x.2.length ≤ n := tot_mem h
end Go.Proofs.YtmogfmnamhhbnaaDoor

namespace Go.Proofs.YtmogfmnamhhbnaaDoor
set_option linter.unusedVariables false
def chainB {α : Type} (r : α → α → Bool) : List α → Bool
  | a :: b :: l => r a b && chainB r (b :: l)
  | _ => true
theorem drop_pred {α : Type} {l : List α} {g : Nat} (h : g < l.length) (h0 : 0 < g) : l.drop (g - 1) = l[g - 1] :: l[g] :: l.drop (g + 1) := by
  rw [List.drop_eq_getElem_cons (by omega), show g - 1 + 1 = g by omega, List.drop_eq_getElem_cons h]
def ltB (a b : Int) : Bool := decide (a < b)
theorem chain_step {α : Type} {r : α → α → Bool} {l : List α} {g : Nat} (h : g < l.length) (h0 : 0 < g) : chainB r (l.drop (g - 1)) = (r l[g - 1] l[g] && chainB r (l.drop g)) := by
  rw [drop_pred h h0, chainB, ← List.drop_eq_getElem_cons h]
theorem chain_zero {α : Type} {r : α → α → Bool} {l : List α} {g : Nat} (h : g = 0) : chainB r (l.drop (g - 1)) = chainB r (l.drop g) := by subst h; rfl
theorem chain_end {α : Type} {r : α → α → Bool} {l : List α} {g : Nat} (h : l.length ≤ g) : chainB r (l.drop (g - 1)) = true := by
  have : (l.drop (g - 1)).length ≤ 1 := by simp; omega
  match l.drop (g - 1), this with
  | [], _ => rfl
  | [x], _ => rfl
  | x :: y :: z, h => simp at h
def fitsB (m : Int × List Int × Int × Int × Int) (ar : Int) : Bool :=
  chainB ltB m.2.1 && (okPos m.2.1 ar && (inR m.2.2.1 0 9 && (inR m.2.2.2.1 0 99 && inR m.2.2.2.2 1 99)))
def okMeth (s : List Int) (m : Int × List Int × Int × Int × Int) : Bool := okRel s m.1 && fitsB m (at0 s m.1)
def okMeths (s : List Int) (l : List (Int × List Int × Int × Int × Int)) : Bool := okSchema s && (decide ((l.length : Int) ≤ 5) && !l.any fun m => !okMeth s m)
def okReach (v : List Int) : Bool := chainB ltB v && okVals v
def hasA (l : List (Int × List Int)) (a : Int × List Int) : Bool := l.any fun z => decide (z = a)
def listsF (values : List Int) : Nat → List (List Int)
  | 0 => [[]]
  | n + 1 => (listsF values n).flatMap fun l => values.map fun v => l ++ [v]
theorem lists_mem {values : List Int} : ∀ {t : Nat}, ∀ l ∈ listsF values t, l.length = t
  | 0, l, h => by simp [listsF] at h; simp [h]
  | t + 1, l, h => by
    simp only [listsF, List.mem_flatMap, List.mem_map] at h
    obtain ⟨x, hx, v, hv, rfl⟩ := h
    simp [lists_mem x hx]
theorem lists_len {values : List Int} : ∀ {t : Nat}, (listsF values t).length = values.length ^ t
  | 0 => rfl
  | t + 1 => by
    simp only [listsF, List.length_flatMap, List.length_map]
    rw [Nat.pow_succ, ← lists_len (t := t)]
    generalize listsF values t = l
    induction l with
    | nil => simp
    | cons x l ih => simp [ih, Nat.succ_mul, Nat.add_comm]
theorem lists_le {values : List Int} {t : Nat} (h : values.length ≤ 10) (ht : t ≤ 3) : (listsF values t).length ≤ 1000 := by
  rw [lists_len]
  exact Nat.le_trans (Nat.pow_le_pow_left h t) (Nat.le_trans (Nat.pow_le_pow_right (by decide) ht) (by decide))
theorem take_flat_le {values : List Int} {l : List (List Int)} {k : Nat} (h : values.length ≤ 10) : ((l.take k).flatMap fun l => values.map fun v => l ++ [v]).length ≤ k * 10 := by
  simp only [List.length_flatMap, List.length_map]
  induction l generalizing k with
  | nil => simp
  | cons x l ih =>
    cases k with
    | zero => simp
    | succ k => have := ih (k := k); simp only [List.take_succ_cons, List.map_cons, List.sum_cons]; omega
def opn1 (values : List Int) (log : List (Int × List Int)) (i : Int) (k : Nat) : List (Int × List Int) :=
  ((listsF values k).filter fun v => !hasA log (i, v)).map fun v => (i, v)
def opnF (values : List Int) (log : List (Int × List Int)) : List (Int × List Int × Int × Int × Int) → Int → List (Int × List Int)
  | [], _ => []
  | m :: l, i => (if m.2.2.1 ≠ 0 then [] else opn1 values log i m.2.1.length) ++ opnF values log l (i + 1)
theorem opn_app {values : List Int} {log : List (Int × List Int)} : ∀ {l l' : List (Int × List Int × Int × Int × Int)} {i : Int}, opnF values log (l ++ l') i = opnF values log l i ++ opnF values log l' (i + l.length)
  | [], l', i => by simp [opnF]
  | m :: l, l', i => by
    rw [List.cons_append, opnF, opnF, opn_app (l := l), List.append_assoc, List.length_cons, show i + 1 + (l.length : Int) = i + ((l.length + 1 : Nat) : Int) by omega]
theorem opn_len {values : List Int} {log : List (Int × List Int)} {i : Int} (h : values.length ≤ 10) : ∀ {l : List (Int × List Int × Int × Int × Int)}, (∀ m ∈ l, m.2.1.length ≤ 3) → (opnF values log l i).length ≤ l.length * 1000
  | [], _ => by simp [opnF]
  | m :: l, hm => by
    have h1 := opn_len (values := values) (log := log) (i := i + 1) h (l := l) (fun x hx => hm x (by simp [hx]))
    have h2 := lists_le (values := values) h (hm m (by simp))
    have h3 := List.length_filter_le (fun v => !hasA log (i, v)) (listsF values m.2.1.length)
    simp only [opnF, List.length_append, List.length_cons]
    split
    · rw [List.length_nil]; omega
    · simp only [opn1, List.length_map]; omega
def opnR (s : List Int) (l : List (Int × List Int × Int × Int × Int)) (values : List Int) (log : List (Int × List Int)) : List (Int × List Int) :=
  if okMeths s l && okReach values then opnF values log l 0 else []
/-- an ascending list between two numbers is short -/
theorem chain_len : ∀ {l : List Int} {a b : Int}, chainB ltB l = true → (∀ x ∈ l, a ≤ x ∧ x ≤ b) → a ≤ b + 1 → (l.length : Int) ≤ b - a + 1
  | [], _, _, _, _, _ => by simp; omega
  | [x], a, b, _, h, _ => by have := h x (by simp); simp; omega
  | x :: y :: l, a, b, hc, h, hab => by
    simp only [chainB, ltB, Bool.and_eq_true, decide_eq_true_eq] at hc
    have hx := h x (by simp)
    have hge : ∀ z ∈ y :: l, x + 1 ≤ z := by
      have : ∀ {l : List Int} {y : Int}, chainB ltB (y :: l) = true → ∀ z ∈ y :: l, y ≤ z := by
        intro l
        induction l with
        | nil => intro y _ z hz; simp at hz; omega
        | cons u l ih =>
          intro y hc z hz
          simp only [chainB, ltB, Bool.and_eq_true, decide_eq_true_eq] at hc
          rcases List.mem_cons.1 hz with rfl | hz
          · omega
          · have := ih hc.2 z hz; omega
      intro z hz
      have := this hc.2 z hz; omega
    have := chain_len (l := y :: l) (a := x + 1) (b := b) hc.2 (fun z hz => ⟨hge z hz, (h z (by simp only [List.mem_cons] at hz ⊢; exact .inr hz)).2⟩) (by omega)
    simp only [List.length_cons] at this ⊢; omega
theorem okReach_len {v : List Int} (h : okReach v = true) : v.length ≤ 10 := by
  simp only [okReach, okVals, Bool.and_eq_true, Bool.not_eq_true', List.any_eq_false] at h
  have := chain_len (a := 0) (b := 9) h.1 (fun x hx => by have := h.2 x hx; simpa [inR] using this) (by omega)
  omega
theorem okMeth_len {s : List Int} {m : Int × List Int × Int × Int × Int} (h : okMeth s m = true) : m.2.1.length ≤ 3 := by
  simp only [okMeth, fitsB, okPos, Bool.and_eq_true, Bool.not_eq_true', List.any_eq_false] at h
  have h1 := okRel_lt h.1
  have := chain_len (a := 0) (b := at0 s m.1 - 1) h.2.1 (fun x hx => by have := h.2.2.1 x hx; simpa [inR] using this) (by simp only [at0]; omega)
  simp only [at0] at this; omega
theorem okMeths_len {s : List Int} {l : List (Int × List Int × Int × Int × Int)} (h : okMeths s l = true) : (∀ m ∈ l, m.2.1.length ≤ 3) ∧ l.length ≤ 5 := by
  simp only [okMeths, Bool.and_eq_true, Bool.not_eq_true', List.any_eq_false, decide_eq_true_eq] at h
  refine ⟨fun m hm => okMeth_len (s := s) ?_, by omega⟩
  have := h.2.2 m hm
  simpa using this
theorem totS_max {α : Type} {c : α → Nat} {n : Nat} : ∀ {l : List α}, (∀ x ∈ l, c x ≤ n) → totS c l ≤ l.length * n
  | [], _ => by simp [totS]
  | x :: l, h => by
    have h1 := totS_max (c := c) (n := n) (l := l) fun y hy => h y (by simp [hy])
    have h2 := h x (by simp)
    simp only [totS, List.map_cons, List.sum_cons, List.length_cons, Nat.succ_mul] at h1 ⊢; omega
theorem opn_mem {values : List Int} {log : List (Int × List Int)} : ∀ {l : List (Int × List Int × Int × Int × Int)} {i : Int}, (∀ m ∈ l, m.2.1.length ≤ 3) → ∀ a ∈ opnF values log l i, a.2.length ≤ 3
  | [], _, _, a, h => by simp [opnF] at h
  | m :: l, i, hm, a, h => by
    simp only [opnF, List.mem_append] at h
    rcases h with h | h
    · split at h
      · cases h
      · simp only [opn1, List.mem_map, List.mem_filter] at h
        obtain ⟨v, ⟨hv, _⟩, rfl⟩ := h
        have e1 := lists_mem v hv
        have e2 := hm m (by simp)
        show v.length ≤ 3; omega
    · exact opn_mem (l := l) (fun x hx => hm x (by simp [hx])) a h
theorem opnR_tot {s : List Int} {l : List (Int × List Int × Int × Int × Int)} {v : List Int} {log : List (Int × List Int)} : totS cE_Access (opnR s l v log) ≤ 20000 := by
  unfold opnR
  split
  · rename_i h
    simp only [Bool.and_eq_true] at h
    obtain ⟨h1, h2⟩ := okMeths_len h.1
    have h3 := okReach_len h.2
    have h4 := opn_len (values := v) (log := log) (i := 0) h3 h1
    have h5 := totS_max (c := cE_Access) (n := 4) (l := opnF v log l 0) fun a ha => by
      have := opn_mem h1 a ha
      simp only [cE_Access, totS_I]; omega
    omega
  · simp [totS]
end Go.Proofs.YtmogfmnamhhbnaaDoor

namespace Go.Proofs.YtmogfmnamhhbnaaDoor
set_option linter.unusedVariables false
/-- f ahead of the first element of which p is true; nothing if there is none -/
def insQ {α : Type} (p : α → Bool) (f : α) : List α → List α
  | [] => []
  | x :: l => if p x then f :: x :: l else x :: insQ p f l
def addP {α : Type} (has : Bool) (p : α → Bool) (f : α) (l : List α) : List α := if has then l else if l.any p then insQ p f l else l ++ [f]
section
variable {α : Type} {p q : α → Bool} {f : α}
theorem insQ_no : ∀ {l : List α}, l.any p = false → insQ p f l = l
  | [], _ => rfl
  | x :: l, h => by
    simp only [List.any_cons, Bool.or_eq_false_iff] at h
    simp [insQ, h.1, insQ_no h.2]
theorem insQ_snoc : ∀ {l : List α} {y : α}, insQ p f (l ++ [y]) = if l.any p then insQ p f l ++ [y] else if p y then l ++ [f, y] else l ++ [y]
  | [], y => by simp [insQ]
  | x :: l, y => by
    have h := insQ_snoc (l := l) (y := y)
    simp only [List.cons_append, insQ, List.any_cons, h]
    cases p x <;> cases l.any p <;> cases p y <;> simp
theorem insQ_len : ∀ {l : List α}, (insQ p f l).length ≤ l.length + 1
  | [] => by simp [insQ]
  | x :: l => by
    have := insQ_len (l := l)
    simp only [insQ]; split <;> simp <;> omega
theorem addP_len {h : Bool} {l : List α} : (addP h p f l).length ≤ l.length + 1 := by
  have := insQ_len (p := p) (f := f) (l := l)
  unfold addP; split; omega; split; omega; simp
theorem addP_mem {h : Bool} {l : List α} {y : α} (hy : y ∈ addP h p f l) : y ∈ l ∨ y = f := by
  have ins : ∀ {l : List α}, y ∈ insQ p f l → y ∈ l ∨ y = f := by
    intro l
    induction l with
    | nil => simp [insQ]
    | cons x l ih =>
      intro h
      simp only [insQ] at h
      split at h
      · simp only [List.mem_cons] at h ⊢; rcases h with h | h | h <;> simp [h]
      · simp only [List.mem_cons] at h ⊢
        rcases h with h | h
        · simp [h]
        · rcases ih h with h | h <;> simp [h]
  unfold addP at hy
  split at hy
  · exact .inl hy
  · split at hy
    · exact ins hy
    · simpa using hy
theorem addP_ins {l : List α} (hpq : ∀ y ∈ l, p y = q y) : addP false p f l = l.take (if idxP q l < 0 then l.length else (idxP q l).toNat) ++ f :: l.drop (if idxP q l < 0 then l.length else (idxP q l).toNat) := by
  have ha : l.any p = l.any q := by
    induction l with
    | nil => rfl
    | cons x l ih => simp [List.any_cons, hpq x (by simp), ih fun y hy => hpq y (by simp [hy])]
  unfold addP idxP
  rw [ha]
  by_cases h : l.any q = true
  · simp only [h, if_true, Bool.false_eq_true, if_false]
    rw [if_neg (by omega), Int.toNat_natCast]
    clear ha
    induction l with
    | nil => simp at h
    | cons x l ih =>
      simp only [insQ, List.findIdx_cons, hpq x (by simp)]
      cases hq : q x with
      | true => simp
      | false =>
        simp only [List.any_cons, hq, Bool.false_or] at h
        simp [ih (fun y hy => hpq y (by simp [hy])) h]
  · simp [h]
end
/-- the numbers of a list, each once, ascending -/
def hasI (l : List Int) (x : Int) : Bool := l.any fun y => decide (y = x)
def putI (l : List Int) (x : Int) : List Int := addP (hasI l x) (fun y => decide (x < y)) x l
def setI (l : List Int) : List Int := l.foldl putI []
theorem asc_ext : ∀ {a b : List Int}, a.Pairwise (· < ·) → b.Pairwise (· < ·) → (∀ x, x ∈ a ↔ x ∈ b) → a = b
  | [], [], _, _, _ => rfl
  | [], y :: b, _, _, h => by have := (h y).2 (by simp); simp at this
  | x :: a, [], _, _, h => by have := (h x).1 (by simp); simp at this
  | x :: a, y :: b, ha, hb, h => by
    rw [List.pairwise_cons] at ha hb
    have e : x = y := by
      have h1 := (h x).1 (by simp)
      have h2 := (h y).2 (by simp)
      simp only [List.mem_cons] at h1 h2
      rcases h1 with h1 | h1
      · exact h1
      · rcases h2 with h2 | h2
        · exact h2.symm
        · have := hb.1 x h1; have := ha.1 y h2; omega
    subst e
    rw [asc_ext ha.2 hb.2 fun z => ?_]
    have := h z
    simp only [List.mem_cons] at this
    constructor
    · intro hz
      rcases this.1 (.inr hz) with e | e
      · have := ha.1 z hz; omega
      · exact e
    · intro hz
      rcases this.2 (.inr hz) with e | e
      · have := hb.1 z hz; omega
      · exact e
theorem putI_spec {l : List Int} {x : Int} (h : l.Pairwise (· < ·)) : (putI l x).Pairwise (· < ·) ∧ ∀ y, y ∈ putI l x ↔ y ∈ l ∨ y = x := by
  have ins : ∀ {l : List Int}, l.Pairwise (· < ·) → x ∉ l → (if (l.any fun y => decide (x < y)) then insQ (fun y => decide (x < y)) x l else l ++ [x]).Pairwise (· < ·) ∧ ∀ y, y ∈ (if (l.any fun y => decide (x < y)) then insQ (fun y => decide (x < y)) x l else l ++ [x]) ↔ y ∈ l ∨ y = x := by
    intro l
    induction l with
    | nil => intro _ _; simp
    | cons z l ih =>
      intro h hx
      rw [List.pairwise_cons] at h
      simp only [List.mem_cons, not_or] at hx
      have ih' := ih h.2 hx.2
      by_cases hz : x < z
      · simp only [List.any_cons, hz, decide_true, Bool.true_or, if_true, insQ]
        refine ⟨?_, fun y => by simp only [List.mem_cons]; constructor <;> (intro h; rcases h with h | h | h) <;> simp [h]⟩
        rw [List.pairwise_cons, List.pairwise_cons]
        refine ⟨fun y hy => ?_, h⟩
        simp only [List.mem_cons] at hy
        rcases hy with rfl | hy
        · exact hz
        · have := h.1 y hy; omega
      · simp only [List.any_cons, hz, decide_false, Bool.false_or, insQ, Bool.false_eq_true, if_false]
        have e : (if (l.any fun y => decide (x < y)) then z :: insQ (fun y => decide (x < y)) x l else z :: l ++ [x]) = z :: (if (l.any fun y => decide (x < y)) then insQ (fun y => decide (x < y)) x l else l ++ [x]) := by split <;> simp
        rw [e]
        refine ⟨?_, fun y => by rw [List.mem_cons, ih'.2 y, List.mem_cons, or_assoc]⟩
        rw [List.pairwise_cons]
        refine ⟨fun y hy => ?_, ih'.1⟩
        rcases (ih'.2 y).1 hy with hy | rfl
        · exact h.1 y hy
        · omega
  unfold putI addP hasI
  by_cases hx : x ∈ l
  · have : (l.any fun y => decide (y = x)) = true := List.any_eq_true.2 ⟨x, hx, by simp⟩
    rw [if_pos this]
    exact ⟨h, fun y => ⟨.inl, fun e => by rcases e with e | rfl; exact e; exact hx⟩⟩
  · have : ¬ (l.any fun y => decide (y = x)) = true := fun e => by
      obtain ⟨y, hy, e⟩ := List.any_eq_true.1 e
      simp at e; subst e; exact hx hy
    rw [if_neg this]
    exact ins h hx
theorem setI_fold : ∀ {l s : List Int}, s.Pairwise (· < ·) → (l.foldl putI s).Pairwise (· < ·) ∧ ∀ y, y ∈ l.foldl putI s ↔ y ∈ s ∨ y ∈ l
  | [], s, h => ⟨h, by simp⟩
  | x :: l, s, h => by
    have h1 := putI_spec (x := x) h
    have h2 := setI_fold (l := l) h1.1
    refine ⟨h2.1, fun y => ?_⟩
    rw [List.foldl_cons, h2.2 y, h1.2 y, List.mem_cons, or_assoc]
theorem setI_asc {l : List Int} : (setI l).Pairwise (· < ·) := (setI_fold .nil).1
theorem setI_mem {l : List Int} {y : Int} : y ∈ setI l ↔ y ∈ l := by rw [setI, (setI_fold .nil).2 y]; simp
theorem setI_len {l : List Int} : (setI l).length ≤ l.length := by
  have : ∀ {l s : List Int}, (l.foldl putI s).length ≤ s.length + l.length := by
    intro l
    induction l with
    | nil => intro s; simp
    | cons x l ih => intro s; have := ih (s := putI s x); have h2 := addP_len (h := hasI s x) (p := fun y => decide (x < y)) (f := x) (l := s); simp only [List.foldl_cons, List.length_cons]; unfold putI at *; omega
  have h := this (l := l) (s := [])
  simpa [setI] using h
theorem compact_sorted {d : List Int} (hd : d.Pairwise (· ≤ ·)) : (Lib.compact d).Pairwise (· < ·) ∧ ∀ y, y ∈ Lib.compact d ↔ y ∈ d := by
  have hle : ∀ i j, (hij : i ≤ j) → (hj : j < d.length) → d[i]'(by omega) ≤ d[j]'hj := by
    intro i j hij hj
    rcases Nat.lt_or_eq_of_le hij with h | h
    · exact List.pairwise_iff_getElem.1 hd i j (by omega) hj h
    · subst h; exact Int.le_refl _
  have hget : ∀ i, (h : i < d.length) → d.toArray[i]! = d[i] := by intro i h; simp [h]
  have key : ∀ m, m ≤ d.length → (Lib.compactUpTo d.toArray m).Pairwise (· < ·) ∧ ∀ y, y ∈ Lib.compactUpTo d.toArray m ↔ y ∈ d.take m := by
    intro m
    induction m with
    | zero => intro _; simp [Lib.compactUpTo]
    | succ m ih =>
      intro hm
      obtain ⟨h1, h2⟩ := ih (by omega)
      have hmem : ∀ y, y ∈ d.take (m + 1) ↔ y ∈ d.take m ∨ y = d[m] := by
        intro y; rw [List.take_succ_eq_append_getElem (show m < d.length by omega), List.mem_append, List.mem_singleton]
      rw [Lib.compactUpTo_succ, hget m (by omega)]
      by_cases hk : Lib.keeps d.toArray m = true
      · rw [if_pos hk]
        refine ⟨List.pairwise_append.2 ⟨h1, by simp, fun a ha b hb => ?_⟩, fun y => by rw [List.mem_append, h2 y, hmem y]; simp⟩
        simp only [List.mem_singleton] at hb
        subst hb
        rw [h2 a, List.mem_take_iff_getElem] at ha
        obtain ⟨i, hi, rfl⟩ := ha
        have hi' : i < m := by omega
        have e1 := hle i (m - 1) (by omega) (by omega)
        have e2 := hle (m - 1) m (by omega) (by omega)
        have e3 : d[m - 1]'(by omega) ≠ d[m] := by
          intro e
          have := Lib.keeps_neg (d := d.toArray) (m := m) (by omega) (by rw [hget m (by omega), hget (m - 1) (by omega), e])
          rw [this] at hk; cases hk
        omega
      · rw [if_neg hk, List.append_nil]
        refine ⟨h1, fun y => ?_⟩
        rw [h2 y, hmem y]
        refine ⟨.inl, fun h => h.elim id ?_⟩
        rintro rfl
        have h0 : 0 < m := by
          rcases Nat.eq_zero_or_pos m with e | e
          · subst e; exact absurd (Lib.keeps_lt_one d.toArray 0 (by omega)) hk
          · exact e
        have e3 : d[m - 1]'(by omega) = d[m] := by
          refine Classical.byContradiction fun e => hk (Lib.keeps_pos ?_)
          rw [hget m (by omega), hget (m - 1) (by omega)]
          exact fun e' => e e'.symm
        rw [List.mem_take_iff_getElem]
        exact ⟨m - 1, by omega, e3⟩
  have := key d.length (Nat.le_refl _)
  simpa [Lib.compact] using this
/-- sorted, and of equal ones one kept: the set -/
theorem compact_sort {l : List Int} : Lib.compact (l.mergeSort fun x y => decide (x ≤ y)) = setI l := by
  have hs : (l.mergeSort fun x y => decide (x ≤ y)).Pairwise (· ≤ ·) := by
    have := List.pairwise_mergeSort (le := fun x y : Int => decide (x ≤ y)) (by intro a b c; simp only [decide_eq_true_eq]; omega) (by intro a b; simp only [Bool.or_eq_true, decide_eq_true_eq]; omega) l
    exact this.imp fun h => by simpa using h
  have h := compact_sorted hs
  refine asc_ext h.1 setI_asc fun x => ?_
  rw [h.2 x, setI_mem]
  exact (List.mergeSort_perm l _).mem_iff
end Go.Proofs.YtmogfmnamhhbnaaDoor

namespace Go.Proofs.YtmogfmnamhhbnaaDoor
set_option linter.unusedVariables false
theorem Tr.wk {P : Program} {f : FuncId} {args : List Value} {RR RR' : World → List Nat → Prop} {pre : List HP} {κ : Type} {φ : κ → Prop} {ret : κ → Value} {post : κ → List HP} (h : Tr P f args RR pre φ ret post) (hR : ∀ w L, RR' w L → RR w L) : Tr P f args RR' pre φ ret post :=
  ⟨h.1, fun w L hr hs hn => h.2 w L (hR w L hr) hs hn⟩
theorem setI_app {l m : List Int} : setI (l ++ m) = m.foldl putI (setI l) := by unfold setI; rw [List.foldl_append]
theorem setI_snoc {l : List Int} {x : Int} : setI (l ++ [x]) = putI (setI l) x := by rw [setI_app]; rfl
theorem hasI_mem {l : List Int} {x : Int} : hasI l x = true ↔ x ∈ l := by
  unfold hasI
  rw [List.any_eq_true]
  constructor
  · rintro ⟨y, hy, e⟩; simp at e; subst e; exact hy
  · intro h; exact ⟨x, h, by simp⟩
def termsF (is : Int → Bool) (atoms : List (Int × List Int)) : List Int := setI ((atoms.flatMap fun a => a.2).filter is)
theorem flat_len : ∀ {l : List (Int × List Int)}, (l.flatMap fun a => a.2).length = totS (fun x => x.2.length) l
  | [] => rfl
  | a :: l => by simp only [List.flatMap_cons, List.length_append, flat_len (l := l), totS, List.map_cons, List.sum_cons]
theorem terms_len {is : Int → Bool} {atoms : List (Int × List Int)} {g : Nat} (hz : totL (fun x => x.2.length) atoms ≤ 1048576) : (((atoms.take g).flatMap fun a => a.2).filter is).length ≤ 1048576 := by
  have h1 := List.length_filter_le is ((atoms.take g).flatMap fun a => a.2)
  have h2 := totS_le (t := fun x : Int × List Int => x.2.length) (l := atoms) (g := g)
  rw [flat_len] at h1
  unfold totL at hz; omega
theorem terms_len2 {is : Int → Bool} {atoms : List (Int × List Int)} {g h : Nat} (hz : totL (fun x => x.2.length) atoms ≤ 1048576) (hg : g < atoms.length) : (((atoms.take g).flatMap fun a => a.2).filter is ++ (atoms[g].2.take h).filter is).length ≤ 1048576 := by
  have h1 := List.length_filter_le is ((atoms.take g).flatMap fun a => a.2)
  have h2 := totS_le (t := fun x : Int × List Int => x.2.length) (l := atoms) (g := g + 1)
  have h3 := List.length_filter_le is (atoms[g].2.take h)
  have h4 := List.length_take_le' h atoms[g].2
  rw [totS_step hg] at h2
  rw [flat_len] at h1
  rw [List.length_append]
  unfold totL at hz; omega
def okTerm (t : Int) : Bool := inR t 0 9 || inR t 10 17
def okAtom (s : List Int) (a : Int × List Int) : Bool := okRel s a.1 && (decide ((a.2.length : Int) = at0 s a.1) && !a.2.any fun t => !okTerm t)
def okHead (q : List Int × List (Int × List Int)) : Bool := decide ((q.1.length : Int) ≤ 3) && !q.1.any fun t => !hasI (termsF (fun t => inR t 10 17) q.2) t
def okQuery (s : List Int) (q : List Int × List (Int × List Int)) : Bool := okSchema s && (inR (q.2.length : Int) 1 4 && ((!q.2.any fun a => !okAtom s a) && okHead q))
def badU (s : List Int) (u : List (List Int × List (Int × List Int))) (q : List Int × List (Int × List Int)) : Bool := !okQuery s q || decide ((q.1.length : Int) ≠ ((u.getD 0 ([], [])).1.length : Int))
def okUnion (s : List Int) (u : List (List Int × List (Int × List Int))) : Bool := inR (u.length : Int) 1 3 && !u.any (badU s u)
theorem okU_sch {s : List Int} {u : List (List Int × List (Int × List Int))} (h : okSchema s = false) : okUnion s u = false := by
  cases u with
  | nil => simp [okUnion, inR]
  | cons q u => simp [okUnion, badU, okQuery, h]
def okGuard (s : List Int) (g : (List Int × List (Int × List Int)) × List (Int × List Int)) : Bool :=
  okQuery s g.1 && (decide ((g.2.length : Int) ≤ 4) && ((!g.2.any fun a => !okAtom s a) && !(termsF (fun t => inR t 10 17) g.2).any fun t => !hasI (termsF (fun t => inR t 10 17) g.1.2) t))
theorem set_any {l : List Int} {p : Int → Bool} : (setI l).any p = l.any p := by
  rw [Bool.eq_iff_iff, List.any_eq_true, List.any_eq_true]
  constructor
  · rintro ⟨x, h, e⟩; exact ⟨x, setI_mem.1 h, e⟩
  · rintro ⟨x, h, e⟩; exact ⟨x, setI_mem.2 h, e⟩
theorem guard_terms {s v : List Int} : ∀ {l : List (Int × List Int)}, (l.any fun a => !okAtom s a || a.2.any fun t => inR t 10 17 && !hasI v t) = ((l.any fun a => !okAtom s a) || (termsF (fun t => inR t 10 17) l).any fun t => !hasI v t) := by
  intro l
  rw [termsF, set_any]
  induction l with
  | nil => rfl
  | cons a l ih =>
    have h : ∀ m : List Int, (m.filter fun t => inR t 10 17).any (fun t => !hasI v t) = m.any fun t => inR t 10 17 && !hasI v t := by
      intro m
      induction m with
      | nil => rfl
      | cons x m ih => simp only [List.filter_cons, List.any_cons, ← ih]; cases inR x 10 17 <;> simp
    simp only [List.any_cons, ih, List.flatMap_cons, List.filter_append, List.any_append, h]
    cases okAtom s a <;> cases (a.2.any fun t => inR t 10 17 && !hasI v t) <;> cases (l.any fun a => !okAtom s a) <;> simp
theorem union_len {u : List (List Int × List (Int × List Int))} {n : Nat} (h : totL (fun x => x.1.length + totL (fun x => x.2.length) x.2) u ≤ n) : ∀ q ∈ u, totL (fun x => x.2.length) q.2 ≤ n := fun q hq => Nat.le_trans (Nat.le_add_left _ _) (tot_mem h q hq)
end Go.Proofs.YtmogfmnamhhbnaaDoor

namespace Go.Proofs.YtmogfmnamhhbnaaDoor
set_option linter.unusedVariables false
def ltF (a b : Int × List Int) : Bool := decide (cmpF a b < 0)
def addF (l : List (Int × List Int)) (f : Int × List Int) : List (Int × List Int) := addP (hasF l f) (ltF f) f l
theorem cmpI_neg {a b : Int} : cmpI a b = - cmpI b a := by unfold cmpI; grind
theorem cmpL_neg : ∀ {l m : List Int}, cmpL l m = - cmpL m l
  | [], [] => by simp [cmpL]
  | [], _ :: _ => by simp [cmpL]
  | _ :: _, [] => by simp [cmpL]
  | a :: l, b :: m => by
    have h1 := cmpI_neg (a := a) (b := b)
    have h2 := cmpL_neg (l := l) (m := m)
    unfold cmpL; grind
theorem cmpF_neg {a b : Int × List Int} : cmpF a b = - cmpF b a := by
  have h1 := cmpI_neg (a := a.1) (b := b.1)
  have h2 := cmpL_neg (l := a.2) (m := b.2)
  unfold cmpF; grind
theorem addF_has {l : List (Int × List Int)} {f : Int × List Int} (h : hasF l f = true) : addF l f = l := by simp [addF, addP, h]
theorem addF_ins {l : List (Int × List Int)} {f : Int × List Int} (h : hasF l f = false) : addF l f = l.take (if idxP (fun z => decide (0 < cmpF z f)) l < 0 then l.length else (idxP (fun z => decide (0 < cmpF z f)) l).toNat) ++ f :: l.drop (if idxP (fun z => decide (0 < cmpF z f)) l < 0 then l.length else (idxP (fun z => decide (0 < cmpF z f)) l).toNat) := by
  rw [addF, h]
  refine addP_ins fun y _ => ?_
  have := cmpF_neg (a := f) (b := y)
  rw [ltF, decide_eq_decide]; omega
theorem idx_range {α : Type} {p : α → Bool} {s : List α} : idxP p s ≤ s.length ∧ -1 ≤ idxP p s := by
  unfold idxP
  split
  · have := List.findIdx_le_length (p := p) (xs := s); omega
  · omega
/-- what AddFact has put together of the first elements -/
def addS {α : Type} (h : Bool) (p : α → Bool) (f : α) (l : List α) : List α := if h then l else insQ p f l
theorem addS_len {α : Type} {h : Bool} {p : α → Bool} {f : α} {l : List α} : (addS h p f l).length ≤ l.length + 1 := by
  have := insQ_len (p := p) (f := f) (l := l)
  unfold addS; split <;> omega
theorem addS_nil {α : Type} {h : Bool} {p : α → Bool} {f : α} : addS h p f [] = [] := by unfold addS; cases h <;> rfl
theorem addS_snoc {α : Type} {h : Bool} {p : α → Bool} {f : α} {l : List α} {y : α} : addS h p f (l ++ [y]) = if (h || l.any p) = true then addS h p f l ++ [y] else if p y = true then addS h p f l ++ [f, y] else addS h p f l ++ [y] := by
  unfold addS
  cases h
  · simp only [Bool.false_eq_true, if_false, Bool.false_or, insQ_snoc]
    cases ha : l.any p
    · simp [insQ_no ha]
    · simp
  · simp
theorem addP_addS {α : Type} {h : Bool} {p : α → Bool} {f : α} {l : List α} : addP h p f l = if (h || l.any p) = true then addS h p f l else addS h p f l ++ [f] := by
  unfold addS addP
  cases h
  · cases ha : l.any p
    · simp [insQ_no ha]
    · simp
  · simp
theorem any_take {α : Type} {p : α → Bool} {l : List α} {g : Nat} (h : g < l.length) : (l.take (g + 1)).any p = ((l.take g).any p || p l[g]) := by
  rw [List.take_succ_eq_append_getElem h, List.any_append]; simp
theorem ltF_eq {f : Int × List Int} {a : Int} {b : List Int} : ltF f (a, b) = decide (cmpF f (a, b) < 0) := rfl
/-- the facts from g on are valid, and ascending from the one ahead of g on -/
def okFs (s : List Int) (l : List (Int × List Int)) (g : Nat) : Bool := (l.drop g).all (okFact s) && chainB ltF (l.drop (g - 1))
def okFacts (s : List Int) (l : List (Int × List Int)) : Bool := okFs s l 0 && (okSchema s && decide ((l.length : Int) ≤ 24))
/-- a rule at a fact: what it demands, if that is not there -/
def miss2 (facts : List (Int × List Int)) (f : Int × List Int) (out : List (Int × List Int)) (r : Int × Int × List Int) : List (Int × List Int) :=
  if f.1 = r.1 then (if hasF facts (r.2.1, vals r.2.2 f.2) then out else addF out (r.2.1, vals r.2.2 f.2)) else out
def miss1 (l : List (Int × Int × List Int)) (facts : List (Int × List Int)) (out : List (Int × List Int)) (f : Int × List Int) : List (Int × List Int) := l.foldl (miss2 facts f) out
def missF (l : List (Int × Int × List Int)) (facts : List (Int × List Int)) : List (Int × List Int) := facts.foldl (miss1 l facts) []
theorem miss1_len {l : List (Int × Int × List Int)} {facts : List (Int × List Int)} {f : Int × List Int} {out : List (Int × List Int)} {h : Nat} : ((l.take h).foldl (miss2 facts f) out).length ≤ out.length + (l.take h).length := by
  generalize l.take h = m
  induction m generalizing out with
  | nil => simp
  | cons r m ih =>
    have h1 := ih (out := miss2 facts f out r)
    have h2 : (miss2 facts f out r).length ≤ out.length + 1 := by
      unfold miss2
      split
      · split
        · omega
        · exact addP_len
      · omega
    simp only [List.foldl_cons, List.length_cons]; omega
theorem miss_len {l : List (Int × Int × List Int)} {facts fs : List (Int × List Int)} : (fs.foldl (miss1 l facts) []).length ≤ fs.length * l.length := by
  have : ∀ {fs out : List (Int × List Int)}, (fs.foldl (miss1 l facts) out).length ≤ out.length + fs.length * l.length := by
    intro fs
    induction fs with
    | nil => intro out; simp
    | cons f fs ih =>
      intro out
      have h1 := ih (out := miss1 l facts out f)
      have h2 := miss1_len (l := l) (facts := facts) (f := f) (out := out) (h := l.length)
      rw [List.take_length] at h2
      unfold miss1 at h1 ⊢
      simp only [List.foldl_cons, List.length_cons, Nat.succ_mul]; omega
  have h := this (fs := fs) (out := [])
  simpa using h
theorem vals_le {m v : List Int} {n : Nat} (h : m.length ≤ n) : (vals m v).length ≤ n := by rw [vals_len]; exact h
theorem miss2_el {facts : List (Int × List Int)} {f : Int × List Int} {n : Nat} : ∀ {l : List (Int × Int × List Int)} {out : List (Int × List Int)}, (∀ r ∈ l, r.2.2.length ≤ n) → (∀ x ∈ out, x.2.length ≤ n) → ∀ x ∈ l.foldl (miss2 facts f) out, x.2.length ≤ n
  | [], out, _, h, x, hx => h x hx
  | r :: l, out, hr, h, x, hx => by
    refine miss2_el (l := l) (out := miss2 facts f out r) (fun r hr' => hr r (by simp [hr'])) (fun y hy => ?_) x hx
    unfold miss2 at hy
    split at hy
    · split at hy
      · exact h y hy
      · rcases addP_mem hy with hy | rfl
        · exact h y hy
        · exact vals_le (hr r (by simp))
    · exact h y hy
theorem miss1_el {l : List (Int × Int × List Int)} {facts : List (Int × List Int)} {n : Nat} (hr : ∀ r ∈ l, r.2.2.length ≤ n) : ∀ {fs out : List (Int × List Int)}, (∀ x ∈ out, x.2.length ≤ n) → ∀ x ∈ fs.foldl (miss1 l facts) out, x.2.length ≤ n
  | [], out, h, x, hx => h x hx
  | f :: fs, out, h, x, hx => miss1_el hr (fs := fs) (out := miss1 l facts out f) (miss2_el hr h) x hx
theorem miss_el {l : List (Int × Int × List Int)} {facts : List (Int × List Int)} {n g h : Nat} (hr : ∀ r ∈ l, r.2.2.length ≤ n) (hg : g < facts.length) : ∀ x ∈ (l.take h).foldl (miss2 facts facts[g]) ((facts.take g).foldl (miss1 l facts) []), x.2.length ≤ n :=
  miss2_el (fun r h' => hr r (List.mem_of_mem_take h')) (miss1_el hr (by simp))
theorem impV_le {b : Bool} {m v : List Int} {n : Nat} (h : m.length ≤ n) : (cond b (vals m v) []).length ≤ n := by
  cases b
  · exact Nat.zero_le _
  · exact vals_le h
end Go.Proofs.YtmogfmnamhhbnaaDoor

namespace Go.Proofs.YtmogfmnamhhbnaaDoor
set_option linter.unusedVariables false
set_option linter.unusedSimpArgs false
theorem okRules_all {s : List Int} {l : List (Int × Int × List Int)} (h : okRules s l = true) : okSchema s = true ∧ l.length ≤ 4 ∧ ∀ r ∈ l, okRule s r = true := by
  simp only [okRules, Bool.and_eq_true, decide_eq_true_eq, Bool.not_eq_true', List.any_eq_false, Bool.not_eq_true] at h
  exact ⟨h.1, by omega, fun r hr => by have := h.2.2 r hr; simpa using this⟩
theorem okFacts_all {s : List Int} {l : List (Int × List Int)} (h : okFacts s l = true) : l.length ≤ 24 ∧ ∀ f ∈ l, okFact s f = true := by
  simp only [okFacts, okFs, List.drop_zero, Bool.and_eq_true, decide_eq_true_eq, List.all_eq_true] at h
  exact ⟨by omega, h.1.1⟩
theorem okFact_len {s : List Int} {f : Int × List Int} (h : okFact s f = true) : f.2.length ≤ 3 := by
  simp only [okFact, Bool.and_eq_true, decide_eq_true_eq] at h
  have := okRel_lt h.1
  simp only [at0] at h; omega
theorem okVals_mem {v : List Int} (h : okVals v = true) : ∀ x ∈ v, 0 ≤ x ∧ x ≤ 9 := by
  simp only [okVals, Bool.not_eq_true', List.any_eq_false, Bool.not_eq_true] at h
  intro x hx
  have := h x hx
  simp [inR] at this; omega
theorem okVals_of {v : List Int} (h : ∀ x ∈ v, 0 ≤ x ∧ x ≤ 9) : okVals v = true := by
  simp only [okVals, Bool.not_eq_true', List.any_eq_false, Bool.not_eq_true]
  intro x hx
  have := h x hx
  simp [inR]; omega
/-- what a valid rule makes of a valid fact is valid -/
theorem okFact_imp {s : List Int} {r : Int × Int × List Int} {f : Int × List Int} (h1 : okRule s r = true) (h2 : okFact s f = true) (e : f.1 = r.1) : okFact s (r.2.1, vals r.2.2 f.2) = true := by
  have h3 := rule_fact h1 h2 e
  simp only [okRule, okFact, Bool.and_eq_true, decide_eq_true_eq] at h1 h2 ⊢
  refine ⟨h1.2.1, by rw [vals_len]; exact h1.2.2.1, okVals_of fun x hx => ?_⟩
  simp only [vals, List.mem_map] at hx
  obtain ⟨i, hi, rfl⟩ := hx
  have h4 := h3 i hi
  rw [at0_get (show i.toNat < f.2.length by omega)]
  exact okVals_mem h2.2.2 _ (List.getElem_mem _)
theorem miss2_all {P : Int × List Int → Prop} {facts : List (Int × List Int)} {f : Int × List Int} : ∀ {l : List (Int × Int × List Int)} {out : List (Int × List Int)}, (∀ r ∈ l, f.1 = r.1 → hasF facts (r.2.1, vals r.2.2 f.2) = false → P (r.2.1, vals r.2.2 f.2)) → (∀ x ∈ out, P x) → ∀ x ∈ l.foldl (miss2 facts f) out, P x
  | [], out, _, h, x, hx => h x hx
  | r :: l, out, hr, h, x, hx => by
    refine miss2_all (l := l) (out := miss2 facts f out r) (fun r hr' => hr r (by simp [hr'])) (fun y hy => ?_) x hx
    unfold miss2 at hy
    split at hy
    · split at hy
      · exact h y hy
      · rename_i h1 h2
        rcases addP_mem hy with hy | rfl
        · exact h y hy
        · exact hr r (by simp) h1 (by simpa using h2)
    · exact h y hy
theorem miss_all {P : Int × List Int → Prop} {facts : List (Int × List Int)} {l : List (Int × Int × List Int)} (H : ∀ r ∈ l, ∀ f ∈ facts, f.1 = r.1 → hasF facts (r.2.1, vals r.2.2 f.2) = false → P (r.2.1, vals r.2.2 f.2)) : ∀ x ∈ missF l facts, P x := by
  have : ∀ {fs out : List (Int × List Int)}, (∀ f ∈ fs, f ∈ facts) → (∀ x ∈ out, P x) → ∀ x ∈ fs.foldl (miss1 l facts) out, P x := by
    intro fs
    induction fs with
    | nil => intro out _ h; exact h
    | cons f fs ih =>
      intro out hs h
      exact ih (fun g hg => hs g (by simp [hg])) (miss2_all (fun r hr => H r hr f (hs f (by simp))) h)
  exact this (fun f h => h) (by simp)
theorem miss_ok {s : List Int} {l : List (Int × Int × List Int)} {facts : List (Int × List Int)} (h1 : okRules s l = true) (h2 : ∀ f ∈ facts, okFact s f = true) : ∀ x ∈ missF l facts, okFact s x = true ∧ hasF facts x = false :=
  miss_all fun r hr f hf e h => ⟨okFact_imp ((okRules_all h1).2.2 r hr) (h2 f hf) e, h⟩
theorem ruled_h {s : List Int} {l : List (Int × Int × List Int)} {facts : List (Int × List Int)} (h1 : okRules s l = true) (h2 : ∀ f ∈ facts, okFact s f = true) : (∀ r ∈ l, ∀ f ∈ facts, f.1 = r.1 → ∀ x ∈ r.2.2, 0 ≤ x ∧ x < f.2.length) ∧ (∀ r ∈ l, r.2.2.length ≤ 1048576) ∧ l.length ≤ 4 :=
  have h := okRules_all h1
  ⟨fun r hr f hf e => rule_fact (h.2.2 r hr) (h2 f hf) e, fun r hr => Nat.le_trans (rule_len (h.2.2 r hr)) (by decide), h.2.1⟩
theorem ruled_b {s : List Int} {l : List (Int × Int × List Int)} {facts : List (Int × List Int)} (h : (okRules s l && okFacts s facts) = true) : (∀ r ∈ l, ∀ f ∈ facts, f.1 = r.1 → ∀ x ∈ r.2.2, 0 ≤ x ∧ x < f.2.length) ∧ (∀ r ∈ l, r.2.2.length ≤ 1048576) ∧ l.length ≤ 4 ∧ facts.length ≤ 1048576 := by
  rw [Bool.and_eq_true] at h
  have h2 := okFacts_all h.2
  have h3 := ruled_h h.1 h2.2
  exact ⟨h3.1, h3.2.1, h3.2.2, by omega⟩
theorem ruled_ex {s : List Int} {l : List (Int × Int × List Int)} {facts : List (Int × List Int)} (h : (okRules s l && okFacts s facts) = true) : ∃ s, okRules s l = true ∧ okFacts s facts = true := by
  rw [Bool.and_eq_true] at h
  exact ⟨s, h⟩
def missR (s : List Int) (l : List (Int × Int × List Int)) (facts : List (Int × List Int)) : List (Int × List Int) := if okRules s l && okFacts s facts then missF l facts else []
theorem facts_tot {n : Nat} {s : List Int} {l : List (Int × List Int)} (h : ∀ f ∈ l, okFact s f = true) (hn : l.length ≤ n) : totS cE_Fact l ≤ n * 4 := by
  have h5 := totS_max (c := cE_Fact) (n := 4) (l := l) fun a ha => by
    have := okFact_len (h a ha)
    simp only [cE_Fact, totS_I]; omega
  omega
theorem missF_len {l : List (Int × Int × List Int)} {facts : List (Int × List Int)} (h : l.length ≤ 4) : (missF l facts).length ≤ facts.length * 4 :=
  Nat.le_trans miss_len (Nat.mul_le_mul_left _ h)
theorem missR_tot {s : List Int} {l : List (Int × Int × List Int)} {facts : List (Int × List Int)} : totS cE_Fact (missR s l facts) ≤ 400 := by
  unfold missR
  split
  · rename_i h
    rw [Bool.and_eq_true] at h
    have h1 := okRules_all h.1
    have h2 := okFacts_all h.2
    have h3 := missF_len (facts := facts) h1.2.1
    have h4 := facts_tot (n := 96) (fun f hf => (miss_ok h.1 h2.2 f hf).1) (by omega)
    omega
  · simp [totS]
theorem ok_len {l : List (Int × Int × List Int)} {facts : List (Int × List Int)} (h : ∃ s, okRules s l = true ∧ okFacts s facts = true) : facts.length ≤ 24 := by
  obtain ⟨s, h1, h2⟩ := h
  exact (okFacts_all h2).1
theorem ok_el {l : List (Int × Int × List Int)} {facts : List (Int × List Int)} (h : ∃ s, okRules s l = true ∧ okFacts s facts = true) : ∀ f ∈ facts, f.2.length ≤ 1048576 := by
  obtain ⟨s, h1, h2⟩ := h
  exact fun f hf => Nat.le_trans (okFact_len ((okFacts_all h2).2 f hf)) (by decide)
/- the closure -/
def closeIt (l : List (Int × Int × List Int)) (facts : List (Int × List Int)) : Nat → List (Int × List Int)
  | 0 => facts
  | n + 1 => (missF l (closeIt l facts n)).foldl addF (closeIt l facts n)
def closeF (l : List (Int × Int × List Int)) (facts : List (Int × List Int)) : List (Int × List Int) := closeIt l facts 6001
theorem close_stay {l : List (Int × Int × List Int)} {facts : List (Int × List Int)} {n : Nat} (h : missF l (closeIt l facts n) = []) : ∀ k, closeIt l facts (n + k) = closeIt l facts n
  | 0 => rfl
  | k + 1 => by
    show (missF l (closeIt l facts (n + k))).foldl addF (closeIt l facts (n + k)) = _
    rw [close_stay h k, h]; rfl
theorem close_done {l : List (Int × Int × List Int)} {facts : List (Int × List Int)} {n : Nat} (hn : n ≤ 6001) (h : missF l (closeIt l facts n) = []) : closeIt l facts n = closeF l facts := by
  have := close_stay h (6001 - n)
  rw [show n + (6001 - n) = 6001 by omega] at this
  exact this.symm
theorem nodup_lt : ∀ {n : Nat} {l : List Nat}, l.Nodup → (∀ x ∈ l, x < n) → l.length ≤ n
  | 0, l, _, h => by
    cases l with
    | nil => simp
    | cons x l => exact absurd (h x (by simp)) (by omega)
  | n + 1, l, hd, h => by
    by_cases hm : n ∈ l
    · have h1 := nodup_lt (n := n) (l := l.erase n) (hd.erase n) fun x hx => by
        have h2 := (hd.mem_erase_iff).1 hx
        have := h x h2.2; omega
      rw [List.length_erase_of_mem hm] at h1; omega
    · have h1 := nodup_lt (n := n) (l := l) hd fun x hx => by
        have h2 := h x hx
        have : x ≠ n := fun e => hm (e ▸ hx)
        omega
      omega
def codeV : List Int → Nat
  | [] => 0
  | v :: l => (v.toNat + 1) + 11 * codeV l
theorem codeV_inj : ∀ {a b : List Int}, (∀ x ∈ a, 0 ≤ x ∧ x ≤ 9) → (∀ x ∈ b, 0 ≤ x ∧ x ≤ 9) → codeV a = codeV b → a = b
  | [], [], _, _, _ => rfl
  | [], y :: b, _, _, h => by simp [codeV] at h; omega
  | x :: a, [], _, _, h => by simp [codeV] at h
  | x :: a, y :: b, ha, hb, h => by
    have h1 := ha x (by simp)
    have h2 := hb y (by simp)
    simp only [codeV] at h
    rw [codeV_inj (a := a) (b := b) (fun z hz => ha z (by simp [hz])) (fun z hz => hb z (by simp [hz])) (by omega), show x = y by omega]
theorem codeV_lt : ∀ {n : Nat} {a : List Int}, (∀ x ∈ a, 0 ≤ x ∧ x ≤ 9) → a.length ≤ n → codeV a < 11 ^ n
  | n, [], _, _ => by simp [codeV]; exact Nat.pow_pos (by decide)
  | 0, x :: a, _, h => by simp at h
  | n + 1, x :: a, ha, h => by
    have h1 := codeV_lt (n := n) (a := a) (fun z hz => ha z (by simp [hz])) (by simpa using h)
    have h2 := ha x (by simp)
    simp only [codeV, Nat.pow_succ]; omega
def codeF (f : Int × List Int) : Nat := f.1.toNat + 4 * codeV f.2
theorem okFact_rel {s : List Int} {f : Int × List Int} (h : okFact s f = true) : 0 ≤ f.1 ∧ f.1 < 4 := by
  simp only [okFact, Bool.and_eq_true, decide_eq_true_eq] at h
  have h1 := okRel_lt h.1
  have h2 := h.1
  simp only [okRel, okSchema, inR, Bool.and_eq_true, decide_eq_true_eq] at h2
  omega
theorem okFact_vals {s : List Int} {f : Int × List Int} (h : okFact s f = true) : ∀ x ∈ f.2, 0 ≤ x ∧ x ≤ 9 := by
  simp only [okFact, Bool.and_eq_true] at h
  exact okVals_mem h.2.2
theorem facts_few {s : List Int} {D : List (Int × List Int)} (hd : D.Nodup) (h : ∀ f ∈ D, okFact s f = true) : D.length ≤ 5324 := by
  have h1 : (D.map codeF).Nodup := by
    unfold List.Nodup at hd ⊢
    rw [List.pairwise_map]
    refine List.Pairwise.imp_of_mem (fun {a b} ha hb hab e => hab ?_) hd
    have ra := okFact_rel (h a ha)
    have rb := okFact_rel (h b hb)
    simp only [codeF] at e
    have e2 := codeV_inj (okFact_vals (h a ha)) (okFact_vals (h b hb)) (by omega)
    exact Prod.ext (by omega) e2
  have h2 := nodup_lt (n := 5324) h1 fun x hx => by
    obtain ⟨f, hf, rfl⟩ := List.mem_map.1 hx
    have r := okFact_rel (h f hf)
    have c := codeV_lt (n := 3) (okFact_vals (h f hf)) (okFact_len (h f hf))
    unfold codeF; omega
  simpa using h2
theorem insQ_mem {α : Type} {p : α → Bool} {f y : α} : ∀ {l : List α}, y ∈ l → y ∈ insQ p f l
  | x :: l, h => by
    simp only [insQ]
    simp only [List.mem_cons] at h
    split
    · simp [h]
    · rcases h with h | h
      · simp [h]
      · simp [insQ_mem h]
theorem insQ_self {α : Type} {p : α → Bool} {f : α} : ∀ {l : List α}, l.any p = true → f ∈ insQ p f l
  | x :: l, h => by
    simp only [insQ]
    split
    · simp
    · rename_i h1
      simp only [List.any_cons, h1, Bool.false_or] at h
      simp [insQ_self h]
theorem addF_mem {l : List (Int × List Int)} {f y : Int × List Int} (h : y ∈ l) : y ∈ addF l f := by
  unfold addF addP
  split
  · exact h
  · split
    · exact insQ_mem h
    · simp [h]
theorem hasF_mem {l : List (Int × List Int)} {f : Int × List Int} : hasF l f = true ↔ f ∈ l := by
  unfold hasF
  rw [List.any_eq_true]
  constructor
  · rintro ⟨x, hx, e⟩
    rw [decide_eq_true_eq, cmpF_zero] at e
    exact e ▸ hx
  · intro h
    exact ⟨f, h, by rw [decide_eq_true_eq, cmpF_zero]⟩
theorem addF_self {l : List (Int × List Int)} {f : Int × List Int} (h : hasF l f = false) : f ∈ addF l f := by
  unfold addF addP
  rw [h]
  simp only [Bool.false_eq_true, if_false]
  split
  · rename_i h1; exact insQ_self h1
  · simp
def gInv (s : List Int) (x D : List (Int × List Int)) : Prop := D.Nodup ∧ (∀ f ∈ D, f ∈ x) ∧ x.length ≤ 24 + D.length ∧ ∀ f ∈ x, okFact s f = true
theorem gInv_add {s : List Int} {x D : List (Int × List Int)} {f : Int × List Int} (h : gInv s x D) (hf : okFact s f = true) : ∃ D', gInv s (addF x f) D' ∧ D.length + (if hasF x f then 0 else 1) ≤ D'.length := by
  obtain ⟨h1, h2, h3, h4⟩ := h
  cases hx : hasF x f with
  | true => exact ⟨D, by rw [addF_has hx]; exact ⟨h1, h2, h3, h4⟩, by simp⟩
  | false =>
    refine ⟨f :: D, ⟨?_, ?_, ?_, ?_⟩, by simp⟩
    · rw [List.nodup_cons]
      exact ⟨fun hm => (by rw [hasF_mem.2 (h2 f hm)] at hx; cases hx), h1⟩
    · intro y hy
      simp only [List.mem_cons] at hy
      rcases hy with rfl | hy
      · exact addF_self hx
      · exact addF_mem (h2 y hy)
    · have := addP_len (h := hasF x f) (p := ltF f) (f := f) (l := x)
      simp only [addF, List.length_cons]; omega
    · intro y hy
      rcases addP_mem hy with hy | rfl
      · exact h4 y hy
      · exact hf
theorem gInv_fold {s : List Int} : ∀ {m x D : List (Int × List Int)}, gInv s x D → (∀ f ∈ m, okFact s f = true) → ∃ D', gInv s (m.foldl addF x) D' ∧ D.length ≤ D'.length
  | [], x, D, h, _ => ⟨D, h, Nat.le_refl _⟩
  | f :: m, x, D, h, hm => by
    obtain ⟨D1, g1, l1⟩ := gInv_add h (hm f (by simp))
    obtain ⟨D2, g2, l2⟩ := gInv_fold (m := m) g1 (fun y hy => hm y (by simp [hy]))
    exact ⟨D2, g2, by omega⟩
theorem gInv_fold1 {s : List Int} {m x D : List (Int × List Int)} (h : gInv s x D) (hm : ∀ f ∈ m, okFact s f = true ∧ hasF x f = false) (h0 : m ≠ []) : ∃ D', gInv s (m.foldl addF x) D' ∧ D.length + 1 ≤ D'.length := by
  cases m with
  | nil => exact absurd rfl h0
  | cons f m =>
    obtain ⟨D1, g1, l1⟩ := gInv_add h (hm f (by simp)).1
    obtain ⟨D2, g2, l2⟩ := gInv_fold (m := m) g1 (fun y hy => (hm y (by simp [hy])).1)
    rw [(hm f (by simp)).2] at l1
    refine ⟨D2, g2, ?_⟩
    simp only [Bool.false_eq_true, if_false] at l1
    omega
def cInv (l : List (Int × Int × List Int)) (facts : List (Int × List Int)) (n : Nat) : Prop := ∃ s, okRules s l = true ∧ ∃ D, gInv s (closeIt l facts n) D ∧ n ≤ D.length
theorem gInv_zero {s : List Int} {facts : List (Int × List Int)} (h2 : okFacts s facts = true) : gInv s facts [] := by
  have h := okFacts_all h2
  exact ⟨by simp, by simp, by simpa using h.1, h.2⟩
theorem cInv_zero {l : List (Int × Int × List Int)} {facts : List (Int × List Int)} (h : ∃ s, okRules s l = true ∧ okFacts s facts = true) : cInv l facts 0 := by
  obtain ⟨s, h1, h2⟩ := h
  exact ⟨s, h1, [], gInv_zero h2, by simp⟩
theorem cInv_step {l : List (Int × Int × List Int)} {facts : List (Int × List Int)} {n : Nat} (h : cInv l facts n) (h0 : missF l (closeIt l facts n) ≠ []) : cInv l facts (n + 1) := by
  obtain ⟨s, h1, D, g, hn⟩ := h
  obtain ⟨D', g', l'⟩ := gInv_fold1 g (miss_ok h1 g.2.2.2) h0
  exact ⟨s, h1, D', g', by omega⟩
theorem cInv_le {l : List (Int × Int × List Int)} {facts : List (Int × List Int)} {n : Nat} (h : cInv l facts n) : n ≤ 6000 ∧ (closeIt l facts n).length ≤ 6024 ∧ (missF l (closeIt l facts n)).length ≤ 24096 ∧ l.length ≤ 4 := by
  obtain ⟨s, h1, D, g, hn⟩ := h
  have h2 := facts_few g.1 (fun f hf => g.2.2.2 f (g.2.1 f hf))
  have h3 := g.2.2.1
  have h4 := (okRules_all h1).2.1
  have h5 := missF_len (facts := closeIt l facts n) h4
  omega
theorem cInv_h {l : List (Int × Int × List Int)} {facts : List (Int × List Int)} {n : Nat} (h : cInv l facts n) : (∀ r ∈ l, ∀ f ∈ closeIt l facts n, f.1 = r.1 → ∀ x ∈ r.2.2, 0 ≤ x ∧ x < f.2.length) ∧ (∀ r ∈ l, r.2.2.length ≤ 1048576) ∧ (∀ f ∈ missF l (closeIt l facts n), f.2.length ≤ 1048576) ∧ ∀ f ∈ closeIt l facts n, f.2.length ≤ 1048576 := by
  obtain ⟨s, h1, D, g, hn⟩ := h
  have h2 := ruled_h h1 g.2.2.2
  exact ⟨h2.1, h2.2.1, fun f hf => Nat.le_trans (okFact_len (miss_ok h1 g.2.2.2 f hf).1) (by decide), fun f hf => Nat.le_trans (okFact_len (g.2.2.2 f hf)) (by decide)⟩
theorem fold_len {m x : List (Int × List Int)} : (m.foldl addF x).length ≤ x.length + m.length := by
  induction m generalizing x with
  | nil => simp
  | cons f m ih =>
    have h1 := ih (x := addF x f)
    have h2 := addP_len (h := hasF x f) (p := ltF f) (f := f) (l := x)
    simp only [List.foldl_cons, List.length_cons]
    unfold addF at h1 ⊢; omega
theorem fold_el {n : Nat} : ∀ {m x : List (Int × List Int)}, (∀ f ∈ m, f.2.length ≤ n) → (∀ f ∈ x, f.2.length ≤ n) → ∀ f ∈ m.foldl addF x, f.2.length ≤ n
  | [], x, _, h => h
  | y :: m, x, hm, h => by
    refine fold_el (m := m) (x := addF x y) (fun f hf => hm f (by simp [hf])) fun f hf => ?_
    rcases addP_mem hf with hf | rfl
    · exact h f hf
    · exact hm _ (by simp)
theorem fold_elt {n g : Nat} {m x : List (Int × List Int)} (hm : ∀ f ∈ m, f.2.length ≤ n) (hx : ∀ f ∈ x, f.2.length ≤ n) : ∀ f ∈ (m.take g).foldl addF x, f.2.length ≤ n :=
  fold_el (fun f hf => hm f (List.mem_of_mem_take hf)) hx
theorem it_g {s : List Int} {l : List (Int × Int × List Int)} {facts : List (Int × List Int)} (h1 : okRules s l = true) (h2 : okFacts s facts = true) : ∀ n, ∃ D, gInv s (closeIt l facts n) D
  | 0 => ⟨[], gInv_zero h2⟩
  | n + 1 => by
    obtain ⟨D, g⟩ := it_g h1 h2 n
    obtain ⟨D', g', _⟩ := gInv_fold g (fun f hf => (miss_ok h1 g.2.2.2 f hf).1)
    exact ⟨D', g'⟩
theorem closeF_ok {s : List Int} {l : List (Int × Int × List Int)} {facts : List (Int × List Int)} (h1 : okRules s l = true) (h2 : okFacts s facts = true) : (closeF l facts).length ≤ 6024 ∧ ∀ f ∈ closeF l facts, okFact s f = true := by
  obtain ⟨D, g⟩ := it_g h1 h2 6001
  have h3 := facts_few g.1 (fun f hf => g.2.2.2 f (g.2.1 f hf))
  exact ⟨by have := g.2.2.1; unfold closeF; omega, g.2.2.2⟩
def closeR (s : List Int) (l : List (Int × Int × List Int)) (facts : List (Int × List Int)) : List (Int × List Int) := if okRules s l && okFacts s facts then closeF l facts else []
theorem closeR_tot {s : List Int} {l : List (Int × Int × List Int)} {facts : List (Int × List Int)} : totS cE_Fact (closeR s l facts) ≤ 24096 := by
  unfold closeR
  split
  · rename_i h
    rw [Bool.and_eq_true] at h
    have h2 := closeF_ok h.1 h.2
    have h4 := facts_tot (n := 6024) h2.2 h2.1
    omega
  · simp [totS]
end Go.Proofs.YtmogfmnamhhbnaaDoor

namespace Go.Proofs.YtmogfmnamhhbnaaDoor
set_option linter.unusedVariables false
set_option linter.unusedSimpArgs false
/-- no value for t -/
def unb (b : List Int × List Int) (t : Int) : Bool := !(b.1.take (min b.1.length b.2.length)).any fun x => decide (x = t)
theorem idx_neg {α : Type} {p : α → Bool} {s : List α} : idxP p s < 0 ↔ s.any p = false := by
  unfold idxP
  by_cases h : s.any p = true
  · rw [if_pos h]; simp [h]
  · rw [if_neg h]; simp at h; simp; exact h
theorem unb_idx {b : List Int × List Int} {t : Int} : unb b t = decide (idxP (fun x => decide (x = t)) (b.1.take (min b.1.length b.2.length)) < 0) := by
  rw [unb, Bool.eq_iff_iff, decide_eq_true_eq, idx_neg]; simp
theorem any_min_step {V W : List Int} {p : Int → Bool} {g : Nat} (h : g < V.length) (h2 : g < W.length) : ((V.take (min V.length W.length)).drop g).any p = (p V[g] || ((V.take (min V.length W.length)).drop (g + 1)).any p) := by
  rw [List.drop_eq_getElem_cons (by simp; omega)]
  simp
theorem any_min_end {V W : List Int} {p : Int → Bool} {g : Nat} (h : ¬ (g < V.length ∧ g < W.length)) : ((V.take (min V.length W.length)).drop g).any p = false := by
  rw [List.drop_eq_nil_of_le (by simp; omega)]; rfl
def addV (x : List Int × List Int) (t v : Int) : List Int × List Int := if inR t 10 17 && unb x t then (x.1 ++ [t], x.2 ++ [v]) else x
def foldV (b : List Int × List Int) (l : List (Int × Int)) : List Int × List Int := l.foldl (fun x p => addV x p.1 p.2) b
def okV (b : List Int × List Int) : List (Int × Int) → Bool
  | [] => true
  | p :: l => decide (valO (addV b p.1 p.2) p.1 = p.2) && okV (addV b p.1 p.2) l
def matchB (b : List Int × List Int) (a f : Int × List Int) : Bool := decide (a.1 = f.1) && (decide (a.2.length = f.2.length) && (decide (b.1.length = b.2.length) && okV b (a.2.zip f.2)))
def matchV (b : List Int × List Int) (a f : Int × List Int) : List Int × List Int := foldV b (a.2.zip f.2)
theorem fv_step {b : List Int × List Int} {t v : List Int} {g : Nat} (h : g < t.length) (h2 : g < v.length) : foldV b ((t.zip v).take (g + 1)) = addV (foldV b ((t.zip v).take g)) t[g] v[g] := by
  unfold foldV
  rw [List.take_succ_eq_append_getElem (by simp; omega), List.foldl_append]
  simp
theorem okV_step {b : List Int × List Int} {t v : List Int} {g : Nat} (h : g < t.length) (h2 : g < v.length) : okV b ((t.zip v).drop g) = (decide (valO (addV b t[g] v[g]) t[g] = v[g]) && okV (addV b t[g] v[g]) ((t.zip v).drop (g + 1))) := by
  rw [List.drop_eq_getElem_cons (by simp; omega)]
  simp [okV]
theorem okV_end {b : List Int × List Int} {t v : List Int} {g : Nat} (h : t.length ≤ g) : okV b ((t.zip v).drop g) = true := by
  rw [List.drop_eq_nil_of_le (by simp; omega)]; rfl
theorem fv_all {b : List Int × List Int} {t v : List Int} {g : Nat} (h : t.length ≤ g) : foldV b ((t.zip v).take g) = foldV b (t.zip v) := by
  rw [List.take_of_length_le (by simp; omega)]
theorem addV_len {x : List Int × List Int} {t v : Int} : (addV x t v).1.length ≤ x.1.length + 1 ∧ (addV x t v).2.length ≤ x.2.length + 1 := by
  unfold addV; split <;> simp
theorem addV_eq {x : List Int × List Int} {t v : Int} (h : x.1.length = x.2.length) : (addV x t v).1.length = (addV x t v).2.length := by
  unfold addV; split <;> simp [h]
theorem foldV_len : ∀ {l : List (Int × Int)} {x : List Int × List Int}, (foldV x l).1.length ≤ x.1.length + l.length ∧ (foldV x l).2.length ≤ x.2.length + l.length
  | [], x => by simp [foldV]
  | p :: l, x => by
    have h1 := foldV_len (l := l) (x := addV x p.1 p.2)
    have h2 := addV_len (x := x) (t := p.1) (v := p.2)
    simp only [foldV, List.foldl_cons, List.length_cons] at h1 ⊢; omega
theorem foldV_eq : ∀ {l : List (Int × Int)} {x : List Int × List Int}, x.1.length = x.2.length → (foldV x l).1.length = (foldV x l).2.length
  | [], x, h => h
  | p :: l, x, h => by
    have := foldV_eq (l := l) (addV_eq (t := p.1) (v := p.2) h)
    simpa only [foldV, List.foldl_cons] using this
theorem fv_len {b : List Int × List Int} {t v : List Int} {g : Nat} : (foldV b ((t.zip v).take g)).1.length ≤ b.1.length + t.length ∧ (foldV b ((t.zip v).take g)).2.length ≤ b.2.length + t.length := by
  have h := foldV_len (l := (t.zip v).take g) (x := b)
  have h2 : ((t.zip v).take g).length ≤ t.length := by simp; omega
  omega
/-- a variable just bound has its value -/
theorem val_add {x : List Int × List Int} {t v : Int} (h : x.1.length = x.2.length) (h1 : inR t 10 17 = true) (h2 : unb x t = true) : valO (x.1 ++ [t], x.2 ++ [v]) t = v := by
  have e := valO_hit (b := (x.1 ++ [t], x.2 ++ [v])) (t := t) (g := x.1.length) h1 (by simp) (by simp [h]) (by simp) (by
    intro y hy
    simp only [unb, h, Nat.min_self, Bool.not_eq_true', List.any_eq_false] at h2
    rw [List.take_append_of_le_length (Nat.le_refl _), List.take_length] at hy
    have := h2 y (by rw [← h, List.take_length]; exact hy)
    simpa using this)
  rw [← e]
  simp [h]
theorem add_no {x : List Int × List Int} {t v : Int} (h : (inR t 10 17 && unb x t) = false) : addV x t v = x := by unfold addV; rw [h]; simp
theorem add_yes {x : List Int × List Int} {t v : Int} (h : (inR t 10 17 && unb x t) = true) : addV x t v = (x.1 ++ [t], x.2 ++ [v]) := by unfold addV; rw [h]; simp
theorem val_ok {x : List Int × List Int} {t v : Int} (h : x.1.length = x.2.length) : decide (valO (addV x t v) t = v) = (inR t 10 17 && unb x t || decide (valO x t = v)) := by
  cases hc : inR t 10 17 && unb x t with
  | false => rw [add_no hc]; simp
  | true =>
    rw [add_yes hc]
    rw [Bool.and_eq_true] at hc
    rw [val_add h hc.1 hc.2]; simp
/- all bindings -/
def ext1 (b : List Int × List Int) (a : Int × List Int) (facts : List (Int × List Int)) : List (List Int × List Int) := (facts.filter (matchB b a)).map (matchV b a)
def extF (l : List (List Int × List Int)) (a : Int × List Int) (facts : List (Int × List Int)) : List (List Int × List Int) := l.flatMap fun b => ext1 b a facts
theorem ext1_nil {b : List Int × List Int} {a : Int × List Int} : ext1 b a [] = [] := rfl
theorem ext1_snoc {b : List Int × List Int} {a f : Int × List Int} {l : List (Int × List Int)} : ext1 b a (l ++ [f]) = if matchB b a f then ext1 b a l ++ [matchV b a f] else ext1 b a l := by
  unfold ext1
  cases h : matchB b a f <;> simp [List.filter_append, h]
theorem extF_nil {a : Int × List Int} {facts : List (Int × List Int)} : extF [] a facts = [] := rfl
theorem extF_snoc {l : List (List Int × List Int)} {b : List Int × List Int} {a : Int × List Int} {facts : List (Int × List Int)} : extF (l ++ [b]) a facts = extF l a facts ++ ext1 b a facts := by
  simp [extF]
theorem ext1_len {b : List Int × List Int} {a : Int × List Int} {facts : List (Int × List Int)} : (ext1 b a facts).length ≤ facts.length := by
  unfold ext1; rw [List.length_map]; exact List.length_filter_le _ _
theorem extF_len {a : Int × List Int} {facts : List (Int × List Int)} : ∀ {l : List (List Int × List Int)}, (extF l a facts).length ≤ l.length * facts.length
  | [] => by simp [extF]
  | b :: l => by
    have h1 := extF_len (a := a) (facts := facts) (l := l)
    have h2 := ext1_len (b := b) (a := a) (facts := facts)
    simp only [extF, List.flatMap_cons, List.length_append, List.length_cons, Nat.succ_mul] at h1 ⊢; omega
theorem extF_lent {a : Int × List Int} {facts fs : List (Int × List Int)} {l : List (List Int × List Int)} {g n : Nat} {b : List Int × List Int} (hn : l.length * facts.length ≤ n) (hg : g < l.length) (hf : fs.length ≤ facts.length) : (extF (l.take g) a facts ++ ext1 b a fs).length ≤ n := by
  have h1 := extF_len (a := a) (facts := facts) (l := l.take g)
  have h2 := ext1_len (b := b) (a := a) (facts := fs)
  have h3 : (l.take g).length * facts.length + facts.length ≤ l.length * facts.length := by
    rw [← Nat.succ_mul]
    exact Nat.mul_le_mul_right _ (by simp; omega)
  rw [List.length_append]; omega
theorem extF_mem {n k : Nat} {a : Int × List Int} {facts : List (Int × List Int)} {l : List (List Int × List Int)} (ha : a.2.length ≤ k) (h : ∀ b ∈ l, b.1.length ≤ n ∧ b.2.length ≤ n) : ∀ b ∈ extF l a facts, b.1.length ≤ n + k ∧ b.2.length ≤ n + k := by
  intro b hb
  simp only [extF, ext1, List.mem_flatMap, List.mem_map] at hb
  obtain ⟨x, hx, f, _, rfl⟩ := hb
  have h1 := h x hx
  have h2 := foldV_len (l := a.2.zip f.2) (x := x)
  have h3 : (a.2.zip f.2).length ≤ a.2.length := by simp; omega
  unfold matchV; omega
def bindsF (atoms : List (Int × List Int)) (facts : List (Int × List Int)) : List (List Int × List Int) := atoms.foldl (fun l a => extF l a facts) [([], [])]
theorem binds_nil {facts : List (Int × List Int)} : bindsF [] facts = [([], [])] := rfl
theorem binds_snoc {atoms facts : List (Int × List Int)} {a : Int × List Int} : bindsF (atoms ++ [a]) facts = extF (bindsF atoms facts) a facts := by
  simp [bindsF]
theorem binds_len {facts : List (Int × List Int)} (hf : facts.length ≤ 24) : ∀ {n : Nat} {atoms : List (Int × List Int)}, atoms.length = n → (∀ a ∈ atoms, a.2.length ≤ 3) → (bindsF atoms facts).length ≤ 24 ^ n ∧ ∀ b ∈ bindsF atoms facts, b.1.length ≤ 3 * n ∧ b.2.length ≤ 3 * n
  | 0, atoms, hn, _ => by
    obtain rfl := List.length_eq_zero_iff.1 hn
    simp [binds_nil]
  | n + 1, atoms, hn, h => by
    have h0 : atoms ≠ [] := by intro e; subst e; simp at hn
    rw [← List.dropLast_concat_getLast h0] at hn h ⊢
    rw [List.length_append] at hn
    have ih := binds_len hf (n := n) (atoms := atoms.dropLast) (by simpa using hn) (fun a ha => h a (by simp [ha]))
    rw [binds_snoc]
    have h1 := extF_len (a := atoms.getLast h0) (facts := facts) (l := bindsF atoms.dropLast facts)
    have h2 := Nat.mul_le_mul ih.1 hf
    have h3 := extF_mem (facts := facts) (h (atoms.getLast h0) (by simp)) ih.2
    exact ⟨by rw [Nat.pow_succ]; omega, fun b hb => by have := h3 b hb; omega⟩
theorem binds_lt {facts atoms : List (Int × List Int)} (hf : facts.length ≤ 24) (hn : atoms.length ≤ 4) (h : ∀ a ∈ atoms, a.2.length ≤ 3) : (bindsF atoms facts).length ≤ 331776 ∧ ∀ b ∈ bindsF atoms facts, b.1.length ≤ 12 ∧ b.2.length ≤ 12 := by
  have h1 := binds_len hf rfl h
  have h2 : 24 ^ atoms.length ≤ 24 ^ 4 := Nat.pow_le_pow_right (by decide) hn
  exact ⟨by omega, fun b hb => by have := h1.2 b hb; omega⟩
theorem binds_take {facts atoms : List (Int × List Int)} (hf : facts.length ≤ 24) (hn : atoms.length ≤ 4) (h : ∀ a ∈ atoms, a.2.length ≤ 3) (g : Nat) : (bindsF (atoms.take g) facts).length ≤ 331776 ∧ ∀ b ∈ bindsF (atoms.take g) facts, b.1.length ≤ 12 ∧ b.2.length ≤ 12 :=
  binds_lt hf (Nat.le_trans (List.length_take_le' _ _) hn) (fun a ha => h a (List.mem_of_mem_take ha))
/- tuples in order, each once -/
def hasT (l : List (List Int)) (t : List Int) : Bool := l.any fun x => decide (x = t)
def ltT (a b : List Int) : Bool := decide (cmpL a b < 0)
def addT (l : List (List Int)) (t : List Int) : List (List Int) := addP (hasT l t) (ltT t) t l
theorem addT_has {l : List (List Int)} {t : List Int} (h : hasT l t = true) : addT l t = l := by simp [addT, addP, h]
theorem addT_ins {l : List (List Int)} {f : List Int} (h : hasT l f = false) : addT l f = l.take (if idxP (fun z => decide (0 < cmpL z f)) l < 0 then l.length else (idxP (fun z => decide (0 < cmpL z f)) l).toNat) ++ f :: l.drop (if idxP (fun z => decide (0 < cmpL z f)) l < 0 then l.length else (idxP (fun z => decide (0 < cmpL z f)) l).toNat) := by
  rw [addT, h]
  refine addP_ins fun y _ => ?_
  have := cmpL_neg (l := f) (m := y)
  rw [ltT, decide_eq_decide]; omega
theorem addT_len {l : List (List Int)} {t : List Int} : (addT l t).length ≤ l.length + 1 := addP_len
def tupF (h : List Int) (l : List (List Int × List Int)) : List (List Int) := l.foldl (fun out b => addT out (h.map (valO b))) []
theorem tup_nil {h : List Int} : tupF h [] = [] := rfl
theorem tup_snoc {h : List Int} {l : List (List Int × List Int)} {b : List Int × List Int} : tupF h (l ++ [b]) = addT (tupF h l) (h.map (valO b)) := by simp [tupF]
theorem tup_fold {h : List Int} : ∀ {l : List (List Int × List Int)} {out : List (List Int)}, (l.foldl (fun out b => addT out (h.map (valO b))) out).length ≤ out.length + l.length ∧ ((∀ t ∈ out, t.length ≤ h.length) → ∀ t ∈ l.foldl (fun out b => addT out (h.map (valO b))) out, t.length ≤ h.length)
  | [], out => by simp
  | b :: l, out => by
    have h1 := tup_fold (h := h) (l := l) (out := addT out (h.map (valO b)))
    have h2 := addT_len (l := out) (t := h.map (valO b))
    refine ⟨by simp only [List.foldl_cons, List.length_cons]; omega, fun ho => h1.2 fun t ht => ?_⟩
    rcases addP_mem ht with ht | rfl
    · exact ho t ht
    · simp
theorem tup_len {h : List Int} {l : List (List Int × List Int)} : (tupF h l).length ≤ l.length := by have := (tup_fold (h := h) (l := l) (out := [])).1; simpa [tupF] using this
theorem tup_el {h : List Int} {l : List (List Int × List Int)} : ∀ t ∈ tupF h l, t.length ≤ h.length := (tup_fold (h := h) (l := l) (out := [])).2 (by simp)
theorem okQuery_h {s : List Int} {q : List Int × List (Int × List Int)} (h : okQuery s q = true) : q.2.length ≤ 4 ∧ q.1.length ≤ 3 ∧ ∀ a ∈ q.2, a.2.length ≤ 3 := by
  simp only [okQuery, okHead, inR, Bool.and_eq_true, decide_eq_true_eq, Bool.not_eq_true', List.any_eq_false, Bool.not_eq_true] at h
  refine ⟨by omega, by omega, fun a ha => ?_⟩
  have h1 := h.2.2.1 a ha
  have h1 : okAtom s a = true := by simpa using h1
  simp only [okAtom, Bool.and_eq_true, decide_eq_true_eq] at h1
  have := okRel_lt h1.1
  simp only [at0] at h1; omega
def ansR (s : List Int) (q : List Int × List (Int × List Int)) (facts : List (Int × List Int)) : List (List Int) := if okQuery s q && okFacts s facts then tupF q.1 (bindsF q.2 facts) else []
theorem tuples_tot {n : Nat} {l : List (List Int)} (h : ∀ t ∈ l, t.length ≤ 3) (hn : l.length ≤ n) : totS cE_Is l ≤ n * 3 := by
  have h5 := totS_max (c := cE_Is) (n := 3) (l := l) fun a ha => by
    have := h a ha
    simp only [cE_Is, totS_I]; omega
  omega
theorem ansR_tot {s : List Int} {q : List Int × List (Int × List Int)} {facts : List (Int × List Int)} : totS cE_Is (ansR s q facts) ≤ 1000000 := by
  unfold ansR
  split
  · rename_i h
    rw [Bool.and_eq_true] at h
    have h1 := okQuery_h h.1
    have h2 := okFacts_all h.2
    have h3 := binds_lt (facts := facts) h2.1 h1.1 h1.2.2
    have h4 := tup_len (h := q.1) (l := bindsF q.2 facts)
    have h5 := tuples_tot (n := 331776) (fun t ht => Nat.le_trans (tup_el (h := q.1) (l := bindsF q.2 facts) t ht) h1.2.1) (by omega)
    omega
  · simp [totS]
end Go.Proofs.YtmogfmnamhhbnaaDoor

namespace Go.Proofs.YtmogfmnamhhbnaaDoor
set_option linter.unusedVariables false
set_option linter.unusedSimpArgs false
/-- the first number from v on that is not in u (u holds numbers below 10) -/
def nxt (u : List Int) : Nat → Nat → Nat
  | 0, v => v
  | n + 1, v => if hasI u (v : Int) then nxt u n (v + 1) else v
def nextV (u : List Int) (v : Nat) : Nat := nxt u 11 v
theorem hasI_le {u : List Int} (hu : ∀ x ∈ u, 0 ≤ x ∧ x ≤ 9) {v : Nat} (h : hasI u (v : Int) = true) : v ≤ 9 := by
  have := (hu _ (hasI_mem.1 h)).2; omega
theorem nxt_more {u : List Int} (hu : ∀ x ∈ u, 0 ≤ x ∧ x ≤ 9) : ∀ {n v : Nat}, 10 ≤ v + n → nxt u (n + 1) v = nxt u n v
  | 0, v, h => by
    simp only [nxt]
    split
    · rename_i h1; have := hasI_le hu h1; omega
    · rfl
  | n + 1, v, h => by
    have ih := nxt_more hu (n := n) (v := v + 1) (by omega)
    show (if hasI u (v : Int) then nxt u (n + 1) (v + 1) else v) = (if hasI u (v : Int) then nxt u n (v + 1) else v)
    rw [ih]
theorem nextV_hit {u : List Int} (hu : ∀ x ∈ u, 0 ≤ x ∧ x ≤ 9) {v : Nat} (h : hasI u (v : Int) = true) : nextV u (v + 1) = nextV u v := by
  have h1 : nextV u v = nxt u 10 (v + 1) := by unfold nextV; rw [nxt, if_pos h]
  rw [h1]
  exact nxt_more hu (by omega)
theorem nextV_miss {u : List Int} {v : Nat} (h : hasI u (v : Int) = false) : nextV u v = v := by
  unfold nextV; rw [nxt, if_neg (by simp [h])]
theorem nxt_congr {u u' : List Int} (h : ∀ x, hasI u x = hasI u' x) : ∀ {n v : Nat}, nxt u n v = nxt u' n v
  | 0, v => rfl
  | n + 1, v => by rw [nxt, nxt, h, nxt_congr h]
theorem nextV_congr {u u' : List Int} (h : ∀ x, hasI u x = hasI u' x) : nextV u = nextV u' := funext fun _ => nxt_congr h
/-- the number from which the search for the g-th variable's value starts -/
def fzN (u : List Int) : Nat → Nat
  | 0 => 0
  | g + 1 => nextV u (fzN u g) + 1
theorem fzN_congr {u u' : List Int} (h : ∀ x, hasI u x = hasI u' x) : ∀ {n : Nat}, fzN u n = fzN u' n
  | 0 => rfl
  | n + 1 => by rw [fzN, fzN, nextV_congr h, fzN_congr h]
def frzOk (u : List Int) (n : Nat) : Bool := (List.range n).all fun i => decide (nextV u (fzN u i) ≤ 9)
def frzV (u : List Int) (n : Nat) : List Int := (List.range n).map fun i => (nextV u (fzN u i) : Int)
theorem frzV_zero {u : List Int} : frzV u 0 = [] := rfl
theorem frzV_snoc {u : List Int} {n : Nat} : frzV u (n + 1) = frzV u n ++ [(nextV u (fzN u n) : Int)] := by
  unfold frzV; rw [List.range_succ, List.map_append]; rfl
theorem frzV_len {u : List Int} {n : Nat} : (frzV u n).length = n := by simp [frzV]
theorem frzOk_no {u : List Int} {i n : Nat} (h : i < n) (h2 : ¬ nextV u (fzN u i) ≤ 9) : frzOk u n = false := by
  rw [← Bool.not_eq_true, frzOk, List.all_eq_true]
  intro e
  have := e i (List.mem_range.2 h)
  rw [decide_eq_true_eq] at this
  exact h2 this
theorem frzOk_yes {u : List Int} {n : Nat} (h : ∀ i, i < n → nextV u (fzN u i) ≤ 9) : frzOk u n = true := by
  rw [frzOk, List.all_eq_true]
  intro i hi
  rw [decide_eq_true_eq]
  exact h i (List.mem_range.1 hi)
theorem fzN_le {u : List Int} {g : Nat} (h : ∀ i, i < g → nextV u (fzN u i) ≤ 9) : fzN u g ≤ 10 := by
  cases g with
  | zero => simp [fzN]
  | succ g => have := h g (by omega); simp only [fzN]; omega
theorem fz_step {u : List Int} {g : Nat} (h : ∀ i, i < g → nextV u (fzN u i) ≤ 9) (h1 : nextV u (fzN u g) ≤ 9) : ∀ i, i < g + 1 → nextV u (fzN u i) ≤ 9 := by
  intro i hi
  rcases Nat.lt_succ_iff_lt_or_eq.1 hi with h2 | rfl
  · exact h i h2
  · exact h1
def varsF (atoms : List (Int × List Int)) : List Int := termsF (fun t => inR t 10 17) atoms
def consF (atoms : List (Int × List Int)) : List Int := termsF (fun t => inR t 0 9) atoms
def frzF (atoms : List (Int × List Int)) (b : List Int × List Int) : List (Int × List Int) := atoms.foldl (fun out a => addF out (factO a b)) []
theorem frzF_nil {b : List Int × List Int} : frzF [] b = [] := rfl
theorem frzF_snoc {atoms : List (Int × List Int)} {a : Int × List Int} {b : List Int × List Int} : frzF (atoms ++ [a]) b = addF (frzF atoms b) (factO a b) := by simp [frzF]
theorem frzF_len : ∀ {atoms out : List (Int × List Int)} {b : List Int × List Int}, (atoms.foldl (fun out a => addF out (factO a b)) out).length ≤ out.length + atoms.length
  | [], out, b => by simp
  | a :: atoms, out, b => by
    have h1 := frzF_len (atoms := atoms) (out := addF out (factO a b)) (b := b)
    have h2 := addP_len (h := hasF out (factO a b)) (p := ltF (factO a b)) (f := factO a b) (l := out)
    simp only [List.foldl_cons, List.length_cons]
    unfold addF at h1 ⊢; omega
theorem frz_len {atoms : List (Int × List Int)} {b : List Int × List Int} : (frzF atoms b).length ≤ atoms.length := by
  have := frzF_len (atoms := atoms) (out := []) (b := b); simpa [frzF] using this
theorem frzF_el {n : Nat} : ∀ {atoms out : List (Int × List Int)} {b : List Int × List Int}, (∀ a ∈ atoms, a.2.length ≤ n) → (∀ f ∈ out, f.2.length ≤ n) → ∀ f ∈ atoms.foldl (fun out a => addF out (factO a b)) out, f.2.length ≤ n
  | [], out, b, _, h => h
  | a :: atoms, out, b, ha, h => by
    refine frzF_el (atoms := atoms) (out := addF out (factO a b)) (fun x hx => ha x (by simp [hx])) fun f hf => ?_
    rcases addP_mem hf with hf | rfl
    · exact h f hf
    · simp only [factO, List.length_map]; exact ha a (by simp)
theorem frz_el {n : Nat} {atoms : List (Int × List Int)} {b : List Int × List Int} (h : ∀ a ∈ atoms, a.2.length ≤ n) : ∀ f ∈ frzF atoms b, f.2.length ≤ n := frzF_el h (by simp)
theorem frz_elt {n g : Nat} {atoms : List (Int × List Int)} {b : List Int × List Int} (h : ∀ a ∈ atoms, a.2.length ≤ n) : ∀ f ∈ frzF (atoms.take g) b, f.2.length ≤ n := frz_el fun a ha => h a (List.mem_of_mem_take ha)
def fzB (u : List Int) (atoms : List (Int × List Int)) : Bool := frzOk u (varsF atoms).length
def fzV (u : List Int) (atoms : List (Int × List Int)) : List Int := cond (fzB u atoms) (varsF atoms) []
def fzX (u : List Int) (atoms : List (Int × List Int)) : List Int := cond (fzB u atoms) (frzV u (varsF atoms).length) []
def fzF (u : List Int) (atoms : List (Int × List Int)) : List (Int × List Int) := cond (fzB u atoms) (frzF atoms (varsF atoms, frzV u (varsF atoms).length)) []
theorem cons_in {atoms : List (Int × List Int)} : ∀ x ∈ consF atoms, 0 ≤ x ∧ x ≤ 9 := by
  intro x hx
  unfold consF termsF at hx
  rw [setI_mem, List.mem_filter] at hx
  have := hx.2
  simpa [inR] using this
theorem vars_in {atoms : List (Int × List Int)} : ∀ x ∈ varsF atoms, 10 ≤ x ∧ x ≤ 17 := by
  intro x hx
  unfold varsF termsF at hx
  rw [setI_mem, List.mem_filter] at hx
  have := hx.2
  simpa [inR] using this
theorem frz_congr {u u' : List Int} (h : ∀ x, hasI u x = hasI u' x) {n : Nat} : frzOk u n = frzOk u' n ∧ frzV u n = frzV u' n := by
  constructor
  · unfold frzOk; congr 1; funext i; rw [nextV_congr h, fzN_congr h]
  · unfold frzV; congr 1; funext i; rw [nextV_congr h, fzN_congr h]
theorem hasI_ext {u u' : List Int} (h : ∀ x, x ∈ u ↔ x ∈ u') : ∀ x, hasI u x = hasI u' x := by
  intro x
  rw [Bool.eq_iff_iff, hasI_mem, hasI_mem, h]
end Go.Proofs.YtmogfmnamhhbnaaDoor
