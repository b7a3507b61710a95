import Derived.Test.YthapcdhdfaibkaaGreatDoorBe
namespace Go.Proofs.YthapcdhdfaibkaaGreatDoor
open Go.RowKit
set_option linter.all false
theorem kr {α : Sort _} {a b : α} (h : a = b := by kernel_rfl) : a = b := h
theorem dc {p : Prop} [i : Decidable p] (h : p := by decide) : p := h
theorem om {p : Prop} (h : p := by omega) : p := h
theorem oz {p : Prop} (h : p := by (try dsimp only); omega) : p := h
theorem rs {p : Prop} (h : p := by repeat' constructor) : p := h
theorem bl {a b : Nat} (h : Nat.ble a b = true := by rfl) : a ≤ b := Nat.le_of_ble_eq_true h
theorem fo {p : Prop} (h : p := by first | omega | assumption) : p := h
theorem fc {p : Prop} (h : p := by first | omega | assumption | (constructor <;> omega)) : p := h
theorem mx {p : Prop} (h : p := by unfold maxLen; omega) : p := h
theorem bn {p : Prop} (h : p := by first | omega | (simp only [List.length_map, List.length_take, List.length_append, List.length_drop, List.length_cons, List.length_nil]; omega)) : p := h
theorem i6 {p : Prop} (h : p := by first | assumption | (unfold I64; (try dsimp only); omega) | grind) : p := h
theorem br {w : World} {L : List Nat} : a0D w L w L := a0D.refl w L
theorem d1 {α : Type} {l : List α} {i : Nat} (h : i < l.length) : l.drop i = l[i] :: l.drop (i + 1) := List.drop_eq_getElem_cons h
theorem d2 {α : Type} {l : List α} {i : Nat} (h : l.length ≤ i) : l.drop i = [] := List.drop_eq_nil_of_le h
theorem t1 {α : Type} {l : List α} {i : Nat} (h : i < l.length) : l.take (i + 1) = l.take i ++ [l[i]] := List.take_succ_eq_append_getElem h
theorem t2 {α : Type} {l : List α} {i : Nat} (h : l.length ≤ i) : l.take i = l := List.take_of_length_le h
section
variable {P : Program} {Q : Exit → Act → World → Prop} {n : Nat} {w0 : World} {L0 : List Nat} {fr : Fr} {H : List HP} {ops : Array Oper} {i : Nat} {rest : List Nat} {op : Op} {d : Nat} {ty : TypeId} {pos : String} {af : Array Edge} {g : Option (Nat × Bool)} {v : Value}
theorem En (h : Ent n w0 L0 fr H (Q .normal)) : Ent n w0 L0 fr H (wpOps P ops Q []) := E.nil h
theorem Et {K : Act → World → Prop} (h : Ent n w0 L0 fr H K) : Ent n w0 L0 fr H (Exit.then K Q .normal) := b4Z h
theorem Eq_ {x y : Code} (h : Ent n w0 L0 fr H (x.wp P (Exit.then (y.wp P Q) Q))) : Ent n w0 L0 fr H ((Code.seq x y).wp P Q) := E.seq h
theorem Ey (ho : ops[i]? = some ⟨some d, op, ty, pos, af, g⟩) (hy : Yd P n w0 L0 fr H op v) (h : Ent n w0 L0 ((d, v) :: fr) H (wpOps P ops Q rest)) (hg : Q0 ops fr g = some true := by rfl) (hd : d < n := by decide) :
  Ent n w0 L0 fr H (wpOps P ops Q (i :: rest)) := E.y ho hg hd hy h
theorem Emv {x : Operand} (ho : ops[i]? = some ⟨some d, .move x, ty, pos, af, g⟩) (hx : ev fr x = some v) (h : Ent n w0 L0 ((d, v) :: fr) H (wpOps P ops Q rest)) (hg : Q0 ops fr g = some true := by rfl) (hd : d < n := by decide) :
  Ent n w0 L0 fr H (wpOps P ops Q (i :: rest)) := E.y ho hg hd (O5 hx).yd h
theorem Eas {x : Operand} (ho : ops[i]? = some ⟨some d, .assign x, ty, pos, af, g⟩) (hx : ev fr x = some v) (h : Ent n w0 L0 ((d, v) :: fr) H (wpOps P ops Q rest)) (hg : Q0 ops fr g = some true := by rfl) (hd : d < n := by decide) :
  Ent n w0 L0 fr H (wpOps P ops Q (i :: rest)) := E.y ho hg hd (G7 hx).yd h
theorem Es {dst : Option Tmp} (ho : ops[i]? = some ⟨dst, op, ty, pos, af, g⟩) (h : Ent n w0 L0 fr H (wpOps P ops Q rest)) (hg : Q0 ops fr g = some false := by rfl) (hfr : (dst.bind fun d' => fr.lookup d') = none := by rfl) :
  Ent n w0 L0 fr H (wpOps P ops Q (i :: rest)) := E.skip ho hg hfr h
theorem Est {dst : Option Tmp} {κ : Type} {fr' : κ → Fr} {H' : κ → List HP} {φ : κ → Prop} {q : Bool} (ho : ops[i]? = some ⟨dst, op, ty, pos, af, g⟩)
  (hn : Nop P Q n w0 L0 fr H ⟨dst, op, ty, pos, af, g⟩ q fr' H' φ) (h : ∀ k, φ k → Ent n w0 L0 (fr' k) (H' k) (wpOps P ops Q rest)) (hg : Q0 ops fr g = some true := by rfl) : Ent n w0 L0 fr H (wpOps P ops Q (i :: rest)) := b7B ho hg hn h
end
section
variable {P : Program} {Q : Exit → Act → World → Prop} {n : Nat} {w0 : World} {L0 : List Nat} {fr : Fr} {H : List HP} {ops : Array Oper} {qt : Nat → Bool} {fuel : Nat} {listed : Array Bool} {op : Op} {d : Nat} {ty : TypeId} {pos : String} {af : Array Edge} {g : Option (Nat × Bool)} {v : Value}
theorem Dy (i : Nat) [hQ : NoPan Q] (ho : ops[i]? = some ⟨some d, op, ty, pos, af, g⟩) (hy : Yd P n w0 L0 fr H op v)
  (h : Ent n w0 L0 ((d, v) :: fr) H (W1 P ops Q qt fuel (listed.setIfInBounds i true))) (hg : Q0 ops fr g = some true := by rfl) (hd : d < n := by decide) (hk : a0o ops qt false listed i = true := by kernel_rfl) : Ent n w0 L0 fr H (W1 P ops Q qt (fuel + 1) listed) := D.y i ho hg hd hy hk h
theorem Dyp (i : Nat) [hQ : NoPan Q] (ho : ops[i]? = some ⟨some d, op, ty, pos, af, g⟩) (hy : Yp P n fr op v)
  (h : Ent n w0 L0 ((d, v) :: fr) H (W1 P ops Q qt fuel (listed.setIfInBounds i true))) (hg : Q0 ops fr g = some true := by rfl) (hd : d < n := by decide) (hk : a0o ops qt true listed i = true := by kernel_rfl) : Ent n w0 L0 fr H (W1 P ops Q qt (fuel + 1) listed) := b7w i ho hg hd hy hk h
theorem Dsk (i : Nat) {dst : Option Tmp} [hQ : NoPan Q] (ho : ops[i]? = some ⟨dst, op, ty, pos, af, g⟩)
  (h : Ent n w0 L0 fr H (W1 P ops Q qt fuel (listed.setIfInBounds i true))) (hg : Q0 ops fr g = some false := by rfl) (hk : a0o ops qt true listed i = true := by kernel_rfl) (hfr : (dst.bind fun d' => fr.lookup d') = none := by rfl) : Ent n w0 L0 fr H (W1 P ops Q qt (fuel + 1) listed) := D.skip i ho hg hk hfr h
end
section
variable {P : Program} {Q : Exit → Act → World → Prop} {n : Nat} {w0 : World} {L0 : List Nat} {fr : Fr} {H R : List HP} {ops : Array Oper} {i : Nat} {rest : List Nat} {d : Nat} {ty : TypeId} {pos : String} {af : Array Edge} {g : Option (Nat × Bool)} {v : Value}
theorem Em {x : Operand} (h0 : (ops[i]?, ev fr x) = (some ⟨some d, .move x, ty, pos, af, g⟩, some v)) (h : Ent n w0 L0 ((d, v) :: fr) H (wpOps P ops Q rest)) (hg : Q0 ops fr g = some true := by rfl) (hd : d < n := by decide) : Ent n w0 L0 fr H (wpOps P ops Q (i :: rest)) := Emv (Prod.mk.inj h0).1 (Prod.mk.inj h0).2 h hg hd
theorem Ei {x : Operand} (h0 : (ops[i]?, ev fr x) = (some ⟨some d, .assign x, ty, pos, af, g⟩, some v)) (h : Ent n w0 L0 ((d, v) :: fr) H (wpOps P ops Q rest)) (hg : Q0 ops fr g = some true := by rfl) (hd : d < n := by decide) : Ent n w0 L0 fr H (wpOps P ops Q (i :: rest)) := Eas (Prod.mk.inj h0).1 (Prod.mk.inj h0).2 h hg hd
theorem Hz {b : Nat} {T : TypeId} {cs : List Value} (hm : pt b T cs ∈ H) (i : Nat) (he : (cs.drop i).take 1 = [v]) : Has w0 L0 H b (0 + i) [v] := (Has.pt hm).sub (cs' := [v]) i he
theorem Ns {T T' : TypeId} {agg : Bool} {k : Nat} {z : List Value} {by' : Nat} {x y : Operand} {b off : Nat} {cs vs : List Value} (cs' : List Value) (ht : TyOk P T agg k z by') (h0 : (ev fr x, ev fr y, v.cells, vs.length, vs.all (·.oneCell'), cs.take off ++ vs ++ cs.drop (off + k)) = (some (.pointer (some ⟨b, off, none⟩)), some v, vs.toArray, k, true, cs')) (hfit : Nat.ble (off + k) cs.length = true := by rfl) :
  Nop P Q n w0 L0 fr (pt b T' cs :: R) ⟨none, .store T x y, ty, pos, af, g⟩ false (κ := Unit) (fun _ => fr) (fun _ => pt b T' cs' :: R) (fun _ => True) := by
 simp only [Prod.mk.injEq] at h0
 exact a8d ht h0.1 h0.2.1 h0.2.2.1 h0.2.2.2.1 h0.2.2.2.2.1 (Nat.le_of_ble_eq_true hfit) h0.2.2.2.2.2
theorem Nb {T e : TypeId} {agg : Bool} {k len : Nat} {z : List Value} {by' : Nat} {ps : Array (Nat × Operand)} (pvs : List (Nat × Value)) (cs : List Value) (hT : P.underlying T = some (.slice e)) (ht : TyOk P e agg k z by')
  (hps : ps.toList.mapM (fun p => (ev fr p.2).map fun v => (p.1, v)) = some pvs) (hfill : Instr.fill (fun i => some (i * k, k)) (a1o len z).toArray pvs = some cs.toArray) (hz : z.length = k := by rfl) (hl : cs.length = len * k := by rfl) (hd : d < n := by decide) (hsm : len * k ≤ 16777216 := by decide) (hlm : len ≤ maxLen := by decide) :
  Nop P Q n w0 L0 fr H ⟨some d, .buildSlice T len ps, ty, pos, af, g⟩ true (κ := Nat) (fun b => (d, .slice (some ⟨b, 0, none⟩) len len) :: fr) (fun b => row e k (some ⟨b, 0, none⟩) len len cs :: H) (fun _ => True) := c1q hT ht hps hsm hlm (c0U hz hfill) hl hd
end
theorem tv {α : World → List Nat → Prop} : ∀ w Lp, α w Lp → True := fun _ _ _ => trivial
abbrev isC (t : Int) : Bool := inR t 0 9
abbrev isV (t : Int) : Bool := inR t 10 17
abbrev Z1 : List Nat := [0]
abbrev Z2 : List Nat := [0, 1]
abbrev Z3 : List Nat := [0, 1, 2]
abbrev Z4 : List Nat := [0, 1, 2, 3]
abbrev Z5 : List Nat := [0, 1, 2, 3, 4]
abbrev Z6 : List Nat := [0, 1, 2, 3, 4, 5]
abbrev Z7 : List Nat := [0, 1, 2, 3, 4, 5, 6]
abbrev Z8 : List Nat := [0, 1, 2, 3, 4, 5, 6, 7]
abbrev Z9 : List Nat := [0, 1, 2, 3, 4, 5, 6, 7, 8]
abbrev Z10 : List Nat := [0, 1, 2, 3, 4, 5, 6, 7, 8, 9]
abbrev Z11 : List Nat := [0, 1, 2, 3, 4, 5, 6, 7, 8, 9, 10]
abbrev Z12 : List Nat := [0, 1, 2, 3, 4, 5, 6, 7, 8, 9, 10, 11]
abbrev Z13 : List Nat := [0, 1, 2, 3, 4, 5, 6, 7, 8, 9, 10, 11, 12]
abbrev Z14 : List Nat := [0, 1, 2, 3, 4, 5, 6, 7, 8, 9, 10, 11, 12, 13]
abbrev Z15 : List Nat := [0, 1, 2, 3, 4, 5, 6, 7, 8, 9, 10, 11, 12, 13, 14]
abbrev Z17 : List Nat := [0, 1, 2, 3, 4, 5, 6, 7, 8, 9, 10, 11, 12, 13, 14, 15, 16]
abbrev Z18 : List Nat := [0, 1, 2, 3, 4, 5, 6, 7, 8, 9, 10, 11, 12, 13, 14, 15, 16, 17]
abbrev Z20 : List Nat := [0, 1, 2, 3, 4, 5, 6, 7, 8, 9, 10, 11, 12, 13, 14, 15, 16, 17, 18, 19]
abbrev Z21 : List Nat := [0, 1, 2, 3, 4, 5, 6, 7, 8, 9, 10, 11, 12, 13, 14, 15, 16, 17, 18, 19, 20]
abbrev Z22 : List Nat := [0, 1, 2, 3, 4, 5, 6, 7, 8, 9, 10, 11, 12, 13, 14, 15, 16, 17, 18, 19, 20, 21]
abbrev Z23 : List Nat := [0, 1, 2, 3, 4, 5, 6, 7, 8, 9, 10, 11, 12, 13, 14, 15, 16, 17, 18, 19, 20, 21, 22]
abbrev Z24 : List Nat := [0, 1, 2, 3, 4, 5, 6, 7, 8, 9, 10, 11, 12, 13, 14, 15, 16, 17, 18, 19, 20, 21, 22, 23]
abbrev Z26 : List Nat := [0, 1, 2, 3, 4, 5, 6, 7, 8, 9, 10, 11, 12, 13, 14, 15, 16, 17, 18, 19, 20, 21, 22, 23, 24, 25]
abbrev Z30 : List Nat := [0, 1, 2, 3, 4, 5, 6, 7, 8, 9, 10, 11, 12, 13, 14, 15, 16, 17, 18, 19, 20, 21, 22, 23, 24, 25, 26, 27, 28, 29]
abbrev Z41 : List Nat := [0, 1, 2, 3, 4, 5, 6, 7, 8, 9, 10, 11, 12, 13, 14, 15, 16, 17, 18, 19, 20, 21, 22, 23, 24, 25, 26, 27, 28, 29, 30, 31, 32, 33, 34, 35, 36, 37, 38, 39, 40]
section
variable {P : Program} {Q Q1 Q2 : Exit → Act → World → Prop} {n : Nat} {w0 : World} {L0 : List Nat} {fr : Fr} {H : List HP} {ops ops2 : Array Oper} {id : Nat} {y : Code}
theorem Ev (l : List Nat) (h : Ent n w0 L0 fr H (wpOps P ops2 (Exit.then (y.wp P Q1) Q1) l)) (hl : List.range ops2.size = l := by rfl) : Ent n w0 L0 fr H (wpOps P ops (Exit.then ((Code.seq (Code.region id ops2 false) y).wp P Q1) Q2) []) := E.nil (b4Z (E.seq (E.region hl h)))
theorem Ew (l : List Nat) (h : Ent n w0 L0 fr H (wpOps P ops2 (Exit.then (y.wp P Q) Q) l)) (hl : List.range ops2.size = l := by rfl) : Ent n w0 L0 fr H ((Code.seq (Code.region id ops2 false) y).wp P Q) := E.seq (E.region hl h)
theorem Ez (l : List Nat) (h : Ent n w0 L0 fr H (wpOps P ops2 Q l)) (hl : List.range ops2.size = l := by rfl) : Ent n w0 L0 fr H ((Code.region id ops2 false).wp P Q) := E.region hl h
theorem Eu {K : Act → World → Prop} (h : Ent n w0 L0 fr H K) : Ent n w0 L0 fr H (wpOps P ops (Exit.then K Q) []) := E.nil (b4Z h)
end
section
variable {P : Program} {n : Nat} {w0 : World} {L0 : List Nat} {fr : Fr} {H : List HP} {fn : Func} {t : Nat}
theorem Fb {b b' : Bool} (hres : fn.results = #[.tmp t]) (hv : fr.lookup t = some (.bool b)) (h : b = b') : Ent n w0 L0 fr H (bodyPost P fn (Fin (κ := Unit) (fun _ => True) (fun _ => .bool b') (fun _ => []) w0 L0) .ret) :=
 F.r1 (a0D.refl _ _) hres hv () trivial (congrArg Value.bool h) (J := H) (.refl _) (.inl rfl)
theorem Fg {v : Value} {κ : Type} {φ : κ → Prop} {ret : κ → Value} {post : κ → List HP} (hres : fn.results = #[.tmp t]) (hv : fr.lookup t = some v) (k : κ) (hr : v = ret k) {J : List HP} (hH : H = post k ++ J) (hk : φ k := by trivial) : Ent n w0 L0 fr H (bodyPost P fn (Fin φ ret post w0 L0) .ret) :=
 F.r1 (a0D.refl _ _) hres hv k hk hr (J := J) (hH ▸ .refl _) (.inl rfl)
end
section
variable {P : Program} {Q : Exit → Act → World → Prop} {n : Nat} {w0 : World} {L0 : List Nat} {fr : Fr} {H : List HP} {ops : Array Oper} {qt : Nat → Bool} {fuel : Nat} {listed : Array Bool}
theorem K1 (i : Nat) {R : World → World → Prop} (h1 : Ent n w0 L0 fr H (PkK P ops Q R qt fuel listed i)) (hr : Region.ready .any ops listed = [i] := by kernel_rfl) : Ent n w0 L0 fr H (a0E P ops Q R qt (fuel + 1) listed) := c0h hr h1
end
section
variable {P : Program} {n : Nat} {w0 : World} {L0 : List Nat} {fr : Fr} {H : List HP}
theorem Ea {κ : Type} {φ : κ → Prop} {frk : κ → Fr} {Hk : κ → List HP} {μ : κ → Nat} {m : Nat} (k' : κ) (hk : φ k') (hfr : Fr.sub (frk k') fr := by repeat' constructor) (hH : H.Perm (Hk k') := by exact .refl _) (hm : μ k' < m := by (try dsimp only); omega) : Ent n w0 L0 fr H (fun a w => ∃ k', φ k' ∧ Fr.ok n (frk k') a ∧ Hp w0 L0 (Hk k') w ∧ μ k' < m) := t7 (a0D.refl _ _) k' hfr hH hk hm
end
end Go.Proofs.YthapcdhdfaibkaaGreatDoor
