import Derived.Test.YthapcdhdfaibkaaGreatDoorBs
namespace Go.Proofs.YthapcdhdfaibkaaGreatDoor
open Go.RowKit
set_option linter.all false
abbrev SL := Option Addr × Nat × Nat
abbrev TB (P : Program) (f : FuncId) (args : List Value) (RR : World → List Nat → Prop) (b : Bool) : Prop := Tr P f args RR [] (κ := Unit) (fun _ => True) (fun _ => .bool b) (fun _ => [])
abbrev TL (P : Program) (f : FuncId) (args : List Value) (RR : World → List Nat → Prop) {α : Type} (E : Enc α) (x : α) : Prop := Tr P f args RR [] (κ := SL) (fun _ => True) (fun k => .slice k.1 k.2.1 k.2.2) (fun k => [ow E [.slice k.1 k.2.1 k.2.2] x])
theorem ca {α : Type} {a : α} {x y : List α} : (a :: x) ++ y = a :: (x ++ y) := rfl
theorem na {α : Type} {x : List α} : [] ++ x = x := rfl
section
variable {P : Program} {f : FuncId} {RR : World → List Nat → Prop} {pre : List HP} {κ : Type} {φ : κ → Prop} {ret : κ → Value} {post : κ → List HP} {c : Code} {x0 x1 x2 x3 x4 x5 x6 x7 : Value}
theorem Ti1 {fn : Func} (hf : P.funcs[f]? = some fn) (n : Nat) (hb : fn.body = some c) (h : ∀ w L, RR w L → Ent n w L [(0, x0)] pre (c.wp P (bodyPost P fn (Fin φ ret post w L)))) (hn : fn.ntmps = n := by exact rfl) (hl : Nat.ble 1 n = true := by exact rfl) (hs : (fn.name == "runtime.NumGoroutine") = false := by decide +kernel) : Tr P f [x0] RR pre φ ret post :=
 Tr.intro hf hb hn hs (Nat.le_of_ble_eq_true hl) rfl h
theorem Ti2 {fn : Func} (hf : P.funcs[f]? = some fn) (n : Nat) (hb : fn.body = some c) (h : ∀ w L, RR w L → Ent n w L [(0, x0), (1, x1)] pre (c.wp P (bodyPost P fn (Fin φ ret post w L)))) (hn : fn.ntmps = n := by exact rfl) (hl : Nat.ble 2 n = true := by exact rfl) (hs : (fn.name == "runtime.NumGoroutine") = false := by decide +kernel) : Tr P f [x0, x1] RR pre φ ret post :=
 Tr.intro hf hb hn hs (Nat.le_of_ble_eq_true hl) rfl h
theorem Ti3 {fn : Func} (hf : P.funcs[f]? = some fn) (n : Nat) (hb : fn.body = some c) (h : ∀ w L, RR w L → Ent n w L [(0, x0), (1, x1), (2, x2)] pre (c.wp P (bodyPost P fn (Fin φ ret post w L)))) (hn : fn.ntmps = n := by exact rfl) (hl : Nat.ble 3 n = true := by exact rfl) (hs : (fn.name == "runtime.NumGoroutine") = false := by decide +kernel) : Tr P f [x0, x1, x2] RR pre φ ret post :=
 Tr.intro hf hb hn hs (Nat.le_of_ble_eq_true hl) rfl h
theorem Ti4 {fn : Func} (hf : P.funcs[f]? = some fn) (n : Nat) (hb : fn.body = some c) (h : ∀ w L, RR w L → Ent n w L [(0, x0), (1, x1), (2, x2), (3, x3)] pre (c.wp P (bodyPost P fn (Fin φ ret post w L)))) (hn : fn.ntmps = n := by exact rfl) (hl : Nat.ble 4 n = true := by exact rfl) (hs : (fn.name == "runtime.NumGoroutine") = false := by decide +kernel) : Tr P f [x0, x1, x2, x3] RR pre φ ret post :=
 Tr.intro hf hb hn hs (Nat.le_of_ble_eq_true hl) rfl h
theorem Ti5 {fn : Func} (hf : P.funcs[f]? = some fn) (n : Nat) (hb : fn.body = some c) (h : ∀ w L, RR w L → Ent n w L [(0, x0), (1, x1), (2, x2), (3, x3), (4, x4)] pre (c.wp P (bodyPost P fn (Fin φ ret post w L)))) (hn : fn.ntmps = n := by exact rfl) (hl : Nat.ble 5 n = true := by exact rfl) (hs : (fn.name == "runtime.NumGoroutine") = false := by decide +kernel) : Tr P f [x0, x1, x2, x3, x4] RR pre φ ret post :=
 Tr.intro hf hb hn hs (Nat.le_of_ble_eq_true hl) rfl h
theorem Ti6 {fn : Func} (hf : P.funcs[f]? = some fn) (n : Nat) (hb : fn.body = some c) (h : ∀ w L, RR w L → Ent n w L [(0, x0), (1, x1), (2, x2), (3, x3), (4, x4), (5, x5)] pre (c.wp P (bodyPost P fn (Fin φ ret post w L)))) (hn : fn.ntmps = n := by exact rfl) (hl : Nat.ble 6 n = true := by exact rfl) (hs : (fn.name == "runtime.NumGoroutine") = false := by decide +kernel) : Tr P f [x0, x1, x2, x3, x4, x5] RR pre φ ret post :=
 Tr.intro hf hb hn hs (Nat.le_of_ble_eq_true hl) rfl h
theorem Ti7 {fn : Func} (hf : P.funcs[f]? = some fn) (n : Nat) (hb : fn.body = some c) (h : ∀ w L, RR w L → Ent n w L [(0, x0), (1, x1), (2, x2), (3, x3), (4, x4), (5, x5), (6, x6)] pre (c.wp P (bodyPost P fn (Fin φ ret post w L)))) (hn : fn.ntmps = n := by exact rfl) (hl : Nat.ble 7 n = true := by exact rfl) (hs : (fn.name == "runtime.NumGoroutine") = false := by decide +kernel) : Tr P f [x0, x1, x2, x3, x4, x5, x6] RR pre φ ret post :=
 Tr.intro hf hb hn hs (Nat.le_of_ble_eq_true hl) rfl h
end
section
variable {P : Program} {Q : Exit → Act → World → Prop} {n : Nat} {w0 : World} {L0 : List Nat} {fr : Fr} {H R pre : List HP} {ops : Array Oper} {i j k : Nat} {rest : List Nat} {d e : Nat} {ty ty2 ty3 : TypeId} {pos pos2 pos3 : String} {af af2 af3 : Array Edge} {g g2 g3 : Option (Nat × Bool)} {v : Value}
section
variable {f : FuncId} {x : Operand} {caps : Array Value} {xs : Array Operand} {ts : Array TypeId} {vs args : List Value} {RR : World → List Nat → Prop} {α : Type} {T : TypeId} {Ec : Enc α} {X : List α}
theorem E0 {ret : Unit → Value} (ho : ops[i]? = some ⟨some d, .call ⟨.value x, xs, ts⟩, ty, pos, af, g⟩) (tr : Tr P f args RR [] (κ := Unit) (fun _ => True) ret (fun _ => [])) (h0 : (ev fr x, evs fr xs.toList, vs ++ caps.toList) = (some (.func (.func f) #[] caps), some vs, args))
  (hR : ∀ {w Lp}, At w0 L0 [] H w Lp → RR w Lp) (h : Ent n w0 L0 ((d, ret ()) :: fr) H (wpOps P ops Q rest)) (hg : Q0 ops fr g = some true := by rfl) (hd : d < n := by decide) : Ent n w0 L0 fr H (wpOps P ops Q (i :: rest)) := by
 simp only [Prod.mk.injEq] at h0
 exact b7B ho hg (b0F tr h0.1 h0.2.1 h0.2.2 hd (fun w Lp hA => hR hA)) fun _ _ => h
theorem El (ho : ops[i]? = some ⟨some d, .call ⟨.value x, xs, ts⟩, ty, pos, af, g⟩) (tr : Tr P f args RR pre (κ := Option Addr × Nat × Nat) (fun _ => True) (fun k => .slice k.1 k.2.1 k.2.2) (fun k => [ow (Enc.sl T Ec) [.slice k.1 k.2.1 k.2.2] X])) (h0 : (ev fr x, evs fr xs.toList, vs ++ caps.toList, H) = (some (.func (.func f) #[] caps), some vs, args, pre ++ R))
  (hR : ∀ {w Lp}, At w0 L0 pre R w Lp → RR w Lp) (h : ∀ a c, X.length ≤ 9223372036854775807 → Ent n w0 L0 ((d, .slice a X.length c) :: fr) (ow (Enc.sl T Ec) [.slice a X.length c] X :: R) (wpOps P ops Q rest)) (hg : Q0 ops fr g = some true := by rfl) (hd : d < n := by decide) : Ent n w0 L0 fr H (wpOps P ops Q (i :: rest)) := by
 simp only [Prod.mk.injEq] at h0
 refine b7B ho hg (N.call tr h0.1 h0.2.1 h0.2.2.1 hd h0.2.2.2 (fun w Lp hA => hR hA)) fun k _ => ?_
 obtain ⟨a, m, c⟩ := k
 refine r8 (List.Mem.head _) fun e1 e2 => ?_
 subst e1
 exact h a c e2
variable {qt : Nat → Bool} {fuel : Nat} {listed : Array Bool}
theorem D0 (i : Nat) {ret : Unit → Value} (ho : ops[i]? = some ⟨some d, .call ⟨.value x, xs, ts⟩, ty, pos, af, g⟩) (tr : Tr P f args RR [] (κ := Unit) (fun _ => True) ret (fun _ => [])) (h0 : (ev fr x, evs fr xs.toList, vs ++ caps.toList) = (some (.func (.func f) #[] caps), some vs, args))
  (hR : ∀ {w Lp}, At w0 L0 [] H w Lp → RR w Lp) (h : Ent n w0 L0 ((d, ret ()) :: fr) H (W1 P ops Q qt fuel (listed.setIfInBounds i true))) (hg : Q0 ops fr g = some true := by rfl) (hr : Region.ready .any ops listed = [i] := by kernel_rfl) (hd : d < n := by decide) : Ent n w0 L0 fr H (W1 P ops Q qt (fuel + 1) listed) := by
 simp only [Prod.mk.injEq] at h0
 exact E7 i ho hg hr (fun _ => rfl) (b0F tr h0.1 h0.2.1 h0.2.2 hd (fun w Lp hA => hR hA)) fun _ _ => h
theorem Dl (i : Nat) (ho : ops[i]? = some ⟨some d, .call ⟨.value x, xs, ts⟩, ty, pos, af, g⟩) (tr : Tr P f args RR pre (κ := Option Addr × Nat × Nat) (fun _ => True) (fun k => .slice k.1 k.2.1 k.2.2) (fun k => [ow (Enc.sl T Ec) [.slice k.1 k.2.1 k.2.2] X])) (h0 : (ev fr x, evs fr xs.toList, vs ++ caps.toList, H) = (some (.func (.func f) #[] caps), some vs, args, pre ++ R))
  (hR : ∀ {w Lp}, At w0 L0 pre R w Lp → RR w Lp) (h : ∀ a c, X.length ≤ 9223372036854775807 → Ent n w0 L0 ((d, .slice a X.length c) :: fr) (ow (Enc.sl T Ec) [.slice a X.length c] X :: R) (W1 P ops Q qt fuel (listed.setIfInBounds i true))) (hg : Q0 ops fr g = some true := by rfl) (hr : Region.ready .any ops listed = [i] := by kernel_rfl) (hqt : qt i = true → b7K pre = true := by exact fun _ => rfl) (hd : d < n := by decide) : Ent n w0 L0 fr H (W1 P ops Q qt (fuel + 1) listed) := by
 simp only [Prod.mk.injEq] at h0
 refine E7 i ho hg hr hqt (N.call tr h0.1 h0.2.1 h0.2.2.1 hd h0.2.2.2 (fun w Lp hA => hR hA)) fun k _ => ?_
 obtain ⟨a, m, c⟩ := k
 refine r8 (List.Mem.head _) fun e1 e2 => ?_
 subst e1
 exact h a c e2
end
section
variable {x y z : Operand} {s T ft : TypeId} {f o kk b off : Nat} {zz : List Value} {by' : Nat}
theorem Hs {b off : Nat} {cs : List Value} (h : Has w0 L0 H b off cs) (i : Nat) (he : (cs.drop i).take 1 = [v]) : Has w0 L0 H b (off + i) [v] := h.sub (cs' := [v]) i he
theorem Lf (hf : X0 P s f = some (o, ft)) (ht : TyOk P ft false 1 zz by') (h0 : (ops[i]?, ev fr x, ops[j]?, ev ((d, .pointer (some ⟨b, off + o, none⟩)) :: fr) y) = (some ⟨some d, .fieldAddr s x f, ty, pos, af, g⟩, some (.pointer (some ⟨b, off, none⟩)), some ⟨some e, .load ft y, ty2, pos2, af2, g2⟩, some (.pointer (some ⟨b, off + o, none⟩))))
  (hc : Has w0 L0 H b (off + o) [v]) (h : Ent n w0 L0 ((e, v) :: (d, .pointer (some ⟨b, off + o, none⟩)) :: fr) H (wpOps P ops Q rest)) (hg : Q0 ops fr g = some true := by rfl) (hd : d < n := by decide) (hg2 : Q0 ops ((d, .pointer (some ⟨b, off + o, none⟩)) :: fr) g2 = some true := by rfl) (he : e < n := by decide) : Ent n w0 L0 fr H (wpOps P ops Q (i :: j :: rest)) := by
 simp only [Prod.mk.injEq] at h0
 exact E.y h0.1 hg hd (C2 hf ht (by decide) h0.2.1).yd (E.y h0.2.2.1 hg2 he (B4 ht h0.2.2.2 hc rfl) h)
theorem Lz {T' : TypeId} {cs : List Value} (hf : X0 P s f = some (o, ft)) (ht : TyOk P ft false 1 zz by') (h0 : (ops[i]?, ev fr x, ops[j]?, ev ((d, .pointer (some ⟨b, 0 + o, none⟩)) :: fr) y) = (some ⟨some d, .fieldAddr s x f, ty, pos, af, g⟩, some (.pointer (some ⟨b, 0, none⟩)), some ⟨some e, .load ft y, ty2, pos2, af2, g2⟩, some (.pointer (some ⟨b, 0 + o, none⟩))))
  (hm : pt b T' cs ∈ H) (hv : (cs.drop o).take 1 = [v]) (h : Ent n w0 L0 ((e, v) :: (d, .pointer (some ⟨b, 0 + o, none⟩)) :: fr) H (wpOps P ops Q rest)) (hg : Q0 ops fr g = some true := by rfl) (hd : d < n := by decide) (hg2 : Q0 ops ((d, .pointer (some ⟨b, 0 + o, none⟩)) :: fr) g2 = some true := by rfl) (he : e < n := by decide) : Ent n w0 L0 fr H (wpOps P ops Q (i :: j :: rest)) :=
 Lf hf ht h0 (Hz hm o hv) h hg hd hg2 he
theorem Ix {t : TypeId} {agg : Bool} {ad : Option Addr} {m c : Nat} {ii : Int} (hT : P.underlying T = some (.slice t)) (ht : TyOk P t agg kk zz by') (h0 : (ops[i]?, ev fr x, ev fr y) = (some ⟨some d, .indexAddr T x y, ty, pos, af, g⟩, some (.slice ad m c), some (.int .i64 ii))) (ha : ad = some ⟨b, off, none⟩) (j : Nat) (hj : ii = (j : Int)) (hlt : j < m)
  (h : Ent n w0 L0 ((d, .pointer (some ⟨b, off + j * kk, none⟩)) :: fr) H (wpOps P ops Q rest)) (hg : Q0 ops fr g = some true := by rfl) (hd : d < n := by decide) : Ent n w0 L0 fr H (wpOps P ops Q (i :: rest)) := by
 simp only [Prod.mk.injEq] at h0
 exact E.y h0.1 hg hd (z8 hT ht h0.2.1 ha h0.2.2 j hj hlt).yd h
theorem Il {t : TypeId} {ad : Option Addr} {m c : Nat} {ii : Int} (hT : P.underlying T = some (.slice t)) (ht : TyOk P t false 1 zz by') (h0 : (ops[i]?, ev fr x, ev fr y) = (some ⟨some d, .indexAddr T x y, ty, pos, af, g⟩, some (.slice ad m c), some (.int .i64 ii))) (ha : ad = some ⟨b, off, none⟩) (k : Nat) (hj : ii = (k : Int)) (hlt : k < m)
  (h1 : (ops[j]?, ev ((d, .pointer (some ⟨b, off + k * 1, none⟩)) :: fr) z) = (some ⟨some e, .load t z, ty2, pos2, af2, g2⟩, some (.pointer (some ⟨b, off + k * 1, none⟩)))) (hc : Has w0 L0 H b (off + k * 1) [v])
  (h : Ent n w0 L0 ((e, v) :: (d, .pointer (some ⟨b, off + k * 1, none⟩)) :: fr) H (wpOps P ops Q rest)) (hg : Q0 ops fr g = some true := by rfl) (hd : d < n := by decide) (hg2 : Q0 ops ((d, .pointer (some ⟨b, off + k * 1, none⟩)) :: fr) g2 = some true := by rfl) (he : e < n := by decide) : Ent n w0 L0 fr H (wpOps P ops Q (i :: j :: rest)) := by
 simp only [Prod.mk.injEq] at h0 h1
 exact E.y h0.1 hg hd (z8 hT ht h0.2.1 ha h0.2.2 k hj hlt).yd (E.y h1.1 hg2 he (B4 ht h1.2 hc rfl) h)
variable {qt : Nat → Bool} {fuel : Nat} {listed : Array Bool}
theorem Df (i j : Nat) [hQ : NoPan Q] (hf : X0 P s f = some (o, ft)) (ht : TyOk P ft false 1 zz by') (h0 : (ops[i]?, ev fr x, ops[j]?, ev ((d, .pointer (some ⟨b, off + o, none⟩)) :: fr) y) = (some ⟨some d, .fieldAddr s x f, ty, pos, af, g⟩, some (.pointer (some ⟨b, off, none⟩)), some ⟨some e, .load ft y, ty2, pos2, af2, g2⟩, some (.pointer (some ⟨b, off + o, none⟩))))
  (hc : Has w0 L0 H b (off + o) [v]) (h : Ent n w0 L0 ((e, v) :: (d, .pointer (some ⟨b, off + o, none⟩)) :: fr) H (W1 P ops Q qt fuel ((listed.setIfInBounds i true).setIfInBounds j true))) (hg : Q0 ops fr g = some true := by rfl) (hd : d < n := by decide) (hk : a0o ops qt true listed i = true := by kernel_rfl) (hg2 : Q0 ops ((d, .pointer (some ⟨b, off + o, none⟩)) :: fr) g2 = some true := by rfl) (he : e < n := by decide) (hk2 : a0o ops qt false (listed.setIfInBounds i true) j = true := by kernel_rfl) : Ent n w0 L0 fr H (W1 P ops Q qt (fuel + 1 + 1) listed) := by
 simp only [Prod.mk.injEq] at h0
 exact b7w i h0.1 hg hd (C2 hf ht (by decide) h0.2.1) hk (D.y j h0.2.2.1 hg2 he (B4 ht h0.2.2.2 hc rfl) hk2 h)
end
section
variable {x y z : Operand} {T U : TypeId} {kd : IntKind} {a b : Int} {t : Bool}
theorem Ylt (h0 : (ops[i]?, ev fr x, ev fr y) = (some ⟨some d, .binOp .lss T x y U, ty, pos, af, g⟩, some (.int kd a), some (.int kd b))) (h : Ent n w0 L0 ((d, .bool (decide (a < b))) :: fr) H (wpOps P ops Q rest)) (hg : Q0 ops fr g = some true := by rfl) (hd : d < n := by decide) : Ent n w0 L0 fr H (wpOps P ops Q (i :: rest)) := by
 simp only [Prod.mk.injEq] at h0
 exact E.y h0.1 hg hd (Y.lss h0.2.1 h0.2.2).yd h
theorem Yeq (h0 : (ops[i]?, ev fr x, ev fr y) = (some ⟨some d, .binOp .eql T x y U, ty, pos, af, g⟩, some (.int kd a), some (.int kd b))) (h : Ent n w0 L0 ((d, .bool (decide (a = b))) :: fr) H (wpOps P ops Q rest)) (hg : Q0 ops fr g = some true := by rfl) (hd : d < n := by decide) : Ent n w0 L0 fr H (wpOps P ops Q (i :: rest)) := by
 simp only [Prod.mk.injEq] at h0
 exact E.y h0.1 hg hd (Y.eql h0.2.1 h0.2.2).yd h
theorem Yad (h0 : (ops[i]?, ev fr x, ev fr y) = (some ⟨some d, .binOp .add T x y U, ty, pos, af, g⟩, some (.int .i64 a), some (.int .i64 b))) (h1 : -9223372036854775808 ≤ a + b) (h2 : a + b ≤ 9223372036854775807) (h : Ent n w0 L0 ((d, .int .i64 (a + b)) :: fr) H (wpOps P ops Q rest)) (hg : Q0 ops fr g = some true := by rfl) (hd : d < n := by decide) : Ent n w0 L0 fr H (wpOps P ops Q (i :: rest)) := by
 simp only [Prod.mk.injEq] at h0
 exact E.y h0.1 hg hd (Y.add h0.2.1 h0.2.2 h1 h2).yd h
theorem Yno (t : Bool) (h0 : (ops[i]?, ev fr x) = (some ⟨some d, .unOp .not T x, ty, pos, af, g⟩, some (.bool t))) (h : Ent n w0 L0 ((d, .bool (!t)) :: fr) H (wpOps P ops Q rest)) (hg : Q0 ops fr g = some true := by rfl) (hd : d < n := by decide) : Ent n w0 L0 fr H (wpOps P ops Q (i :: rest)) := by
 simp only [Prod.mk.injEq] at h0
 exact E.y h0.1 hg hd (Y.not h0.2).yd h
theorem Ypf (h0 : (ops[i]?, ev fr x, ev fr z) = (some ⟨some d, .pick x y z, ty, pos, af, g⟩, some (.bool false), some v)) (h : Ent n w0 L0 ((d, v) :: fr) H (wpOps P ops Q rest)) (hg : Q0 ops fr g = some true := by rfl) (hd : d < n := by decide) : Ent n w0 L0 fr H (wpOps P ops Q (i :: rest)) := by
 simp only [Prod.mk.injEq] at h0
 exact E.y h0.1 hg hd (L8 h0.2.1 h0.2.2).yd h
theorem Ypt (h0 : (ops[i]?, ev fr x, ev fr y) = (some ⟨some d, .pick x y z, ty, pos, af, g⟩, some (.bool true), some v)) (h : Ent n w0 L0 ((d, v) :: fr) H (wpOps P ops Q rest)) (hg : Q0 ops fr g = some true := by rfl) (hd : d < n := by decide) : Ent n w0 L0 fr H (wpOps P ops Q (i :: rest)) := by
 simp only [Prod.mk.injEq] at h0
 exact E.y h0.1 hg hd (K7 h0.2.1 h0.2.2).yd h
theorem Yln {t : TypeId} {ad : Option Addr} {m c : Nat} (hT : P.underlying T = some (.slice t)) (h0 : (ops[i]?, ev fr x) = (some ⟨some d, .call ⟨.builtin .len, #[x], #[T]⟩, ty, pos, af, g⟩, some (.slice ad m c))) (h : Ent n w0 L0 ((d, .int .i64 m) :: fr) H (wpOps P ops Q rest)) (hg : Q0 ops fr g = some true := by rfl) (hd : d < n := by decide) : Ent n w0 L0 fr H (wpOps P ops Q (i :: rest)) := by
 simp only [Prod.mk.injEq] at h0
 exact E.y h0.1 hg hd (Y.len hT h0.2).yd h
variable {qt : Nat → Bool} {fuel : Nat} {listed : Array Bool}
theorem Dm (i : Nat) [hQ : NoPan Q] (h0 : (ops[i]?, ev fr x) = (some ⟨some d, .move x, ty, pos, af, g⟩, some v)) (h : Ent n w0 L0 ((d, v) :: fr) H (W1 P ops Q qt fuel (listed.setIfInBounds i true))) (hg : Q0 ops fr g = some true := by rfl) (hd : d < n := by decide) (hk : a0o ops qt true listed i = true := by kernel_rfl) : Ent n w0 L0 fr H (W1 P ops Q qt (fuel + 1) listed) := by
 simp only [Prod.mk.injEq] at h0
 exact b7w i h0.1 hg hd (O5 h0.2) hk h
end
theorem Lo {c : Code} {κ : Type} (φ : κ → Prop) (frk : κ → Fr) (Hk : κ → List HP) (μ : κ → Nat) (k0 : κ) (h0 : φ k0)
  (round : ∀ k, φ k → Ent n w0 L0 (frk k) (Hk k) (c.wp P (Exit.then (fun a w => ∃ k', φ k' ∧ Fr.ok n (frk k') a ∧ Hp w0 L0 (Hk k') w ∧ μ k' < μ k) Q))) (hfr : Fr.sub (frk k0) fr := by repeat' constructor) (hH : H.Perm (Hk k0) := by exact .refl _) : Ent n w0 L0 fr H ((Code.loop c).wp P Q) := E.loop φ frk Hk μ k0 h0 hfr hH round
theorem Ct {K : Act → World → Prop} {cc : Operand} {y : Code} (h : Ent n w0 L0 fr H K) (hc : ev fr cc = some (.bool true) := by rfl) : Ent n w0 L0 fr H ((Code.cond cc .skip y).wp P (Exit.then K Q)) := r6 hc (v8 h)
theorem Cf {K : Act → World → Prop} {cc : Operand} {x : Code} (h : Ent n w0 L0 fr H K) (hc : ev fr cc = some (.bool false) := by rfl) : Ent n w0 L0 fr H ((Code.cond cc x .skip).wp P (Exit.then K Q)) := r7 hc (v8 h)
end
end Go.Proofs.YthapcdhdfaibkaaGreatDoor
