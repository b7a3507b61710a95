import Derived.Test.YtfnbilpemdgkkaaGreatDoorBe
namespace Go.Proofs.YtfnbilpemdgkkaaGreatDoor
open Go.RowKit
set_option linter.unusedVariables false
section
variable {P : Program} {n : Nat} {w0 : World} {L0 : List Nat} {fr : Fr} {H : List HP} {fn : Func} {κ : Type} {φ : κ → Prop} {ret : κ → Value} {post : κ → List HP} {wb : World} {Lb : List Nat}
theorem b6j (hb : G6 w0 L0 wb Lb) {e : Exit} {s0 : Nat} {v0 : Value} {s1 b1 k1 y1 : Nat} {T1 T1' : TypeId} {z1 cs1 : List Value} (hres : fn.results = #[.tmp s0, .cell s1 T1]) (hv0 : fr.lookup s0 = some v0) (hv1 : fr.lookup s1 = some (.pointer (some ⟨b1, 0, none⟩))) (hm1 : pt b1 T1' cs1 ∈ H) (ht1 : TyOk P T1 true k1 z1 y1) (hl1 : cs1.length = k1)
  (k : κ) (hk : φ k) (hr : .tuple #[v0, .agg cs1.toArray] = ret k) {J : List HP} (hH : H.Perm (post k ++ J)) (he : e = .ret ∨ e = .normal) : Ent n w0 L0 fr H (bodyPost P fn (Fin φ ret post wb Lb) e) :=
 O7 hb he k hk hr hH fun a w h1 h2 => by
  have u0 := h1.ev (x := .tmp s0) hv0
  have u1 := h1.ev (x := .tmp s1) hv1
  simp only [Act.eval] at u0 u1
  have q1 := ((Has.pt (w0 := w0) (L0 := L0) hm1) w h2).run_load (P := P) (v := .agg cs1.toArray) ht1 hl1 rfl (fun h => by cases h)
  simp only [Instr.loadAt, Instr.sureAddr, Sem.run_bind, Sem.run_pure, Result.andThen_ok] at q1
  rw [Array.getD_eq_getD_getElem?] at u0 u1
  simp [results, hres, u0, u1, asAddr, q1]
theorem b4O (hb : G6 w0 L0 wb Lb) {e : Exit} {s0 : Nat} {v0 : Value} {s1 b1 k1 y1 : Nat} {T1 T1' : TypeId} {z1 cs1 : List Value} {s2 b2 k2 y2 : Nat} {T2 T2' : TypeId} {z2 cs2 : List Value} (hres : fn.results = #[.tmp s0, .cell s1 T1, .cell s2 T2]) (hv0 : fr.lookup s0 = some v0) (hv1 : fr.lookup s1 = some (.pointer (some ⟨b1, 0, none⟩))) (hv2 : fr.lookup s2 = some (.pointer (some ⟨b2, 0, none⟩))) (hm1 : pt b1 T1' cs1 ∈ H) (ht1 : TyOk P T1 true k1 z1 y1) (hl1 : cs1.length = k1) (hm2 : pt b2 T2' cs2 ∈ H) (ht2 : TyOk P T2 true k2 z2 y2) (hl2 : cs2.length = k2)
  (k : κ) (hk : φ k) (hr : .tuple #[v0, .agg cs1.toArray, .agg cs2.toArray] = ret k) {J : List HP} (hH : H.Perm (post k ++ J)) (he : e = .ret ∨ e = .normal) : Ent n w0 L0 fr H (bodyPost P fn (Fin φ ret post wb Lb) e) :=
 O7 hb he k hk hr hH fun a w h1 h2 => by
  have u0 := h1.ev (x := .tmp s0) hv0
  have u1 := h1.ev (x := .tmp s1) hv1
  have u2 := h1.ev (x := .tmp s2) hv2
  simp only [Act.eval] at u0 u1 u2
  have q1 := ((Has.pt (w0 := w0) (L0 := L0) hm1) w h2).run_load (P := P) (v := .agg cs1.toArray) ht1 hl1 rfl (fun h => by cases h)
  have q2 := ((Has.pt (w0 := w0) (L0 := L0) hm2) w h2).run_load (P := P) (v := .agg cs2.toArray) ht2 hl2 rfl (fun h => by cases h)
  simp only [Instr.loadAt, Instr.sureAddr, Sem.run_bind, Sem.run_pure, Result.andThen_ok] at q1 q2
  rw [Array.getD_eq_getD_getElem?] at u0 u1 u2
  simp [results, hres, u0, u1, u2, asAddr, q1, q2]
theorem b7i (hb : G6 w0 L0 wb Lb) {e : Exit} {s0 b0 k0 y0 : Nat} {T0 T0' : TypeId} {z0 cs0 : List Value} {s1 : Nat} {v1 : Value} {s2 : Nat} {v2 : Value} (hres : fn.results = #[.cell s0 T0, .tmp s1, .tmp s2]) (hv0 : fr.lookup s0 = some (.pointer (some ⟨b0, 0, none⟩))) (hv1 : fr.lookup s1 = some v1) (hv2 : fr.lookup s2 = some v2) (hm0 : pt b0 T0' cs0 ∈ H) (ht0 : TyOk P T0 true k0 z0 y0) (hl0 : cs0.length = k0)
  (k : κ) (hk : φ k) (hr : .tuple #[.agg cs0.toArray, v1, v2] = ret k) {J : List HP} (hH : H.Perm (post k ++ J)) (he : e = .ret ∨ e = .normal) : Ent n w0 L0 fr H (bodyPost P fn (Fin φ ret post wb Lb) e) :=
 O7 hb he k hk hr hH fun a w h1 h2 => by
  have u0 := h1.ev (x := .tmp s0) hv0
  have u1 := h1.ev (x := .tmp s1) hv1
  have u2 := h1.ev (x := .tmp s2) hv2
  simp only [Act.eval] at u0 u1 u2
  have q0 := ((Has.pt (w0 := w0) (L0 := L0) hm0) w h2).run_load (P := P) (v := .agg cs0.toArray) ht0 hl0 rfl (fun h => by cases h)
  simp only [Instr.loadAt, Instr.sureAddr, Sem.run_bind, Sem.run_pure, Result.andThen_ok] at q0
  rw [Array.getD_eq_getD_getElem?] at u0 u1 u2
  simp [results, hres, u0, u1, u2, asAddr, q0]
theorem b6U (hb : G6 w0 L0 wb Lb) {e : Exit} {s0 b0 k0 y0 : Nat} {T0 T0' : TypeId} {z0 cs0 : List Value} {s1 : Nat} {v1 : Value} {s2 : Nat} {v2 : Value} {s3 b3 k3 y3 : Nat} {T3 T3' : TypeId} {z3 cs3 : List Value} (hres : fn.results = #[.cell s0 T0, .tmp s1, .tmp s2, .cell s3 T3]) (hv0 : fr.lookup s0 = some (.pointer (some ⟨b0, 0, none⟩))) (hv1 : fr.lookup s1 = some v1) (hv2 : fr.lookup s2 = some v2) (hv3 : fr.lookup s3 = some (.pointer (some ⟨b3, 0, none⟩))) (hm0 : pt b0 T0' cs0 ∈ H) (ht0 : TyOk P T0 true k0 z0 y0) (hl0 : cs0.length = k0) (hm3 : pt b3 T3' cs3 ∈ H) (ht3 : TyOk P T3 true k3 z3 y3) (hl3 : cs3.length = k3)
  (k : κ) (hk : φ k) (hr : .tuple #[.agg cs0.toArray, v1, v2, .agg cs3.toArray] = ret k) {J : List HP} (hH : H.Perm (post k ++ J)) (he : e = .ret ∨ e = .normal) : Ent n w0 L0 fr H (bodyPost P fn (Fin φ ret post wb Lb) e) :=
 O7 hb he k hk hr hH fun a w h1 h2 => by
  have u0 := h1.ev (x := .tmp s0) hv0
  have u1 := h1.ev (x := .tmp s1) hv1
  have u2 := h1.ev (x := .tmp s2) hv2
  have u3 := h1.ev (x := .tmp s3) hv3
  simp only [Act.eval] at u0 u1 u2 u3
  have q0 := ((Has.pt (w0 := w0) (L0 := L0) hm0) w h2).run_load (P := P) (v := .agg cs0.toArray) ht0 hl0 rfl (fun h => by cases h)
  have q3 := ((Has.pt (w0 := w0) (L0 := L0) hm3) w h2).run_load (P := P) (v := .agg cs3.toArray) ht3 hl3 rfl (fun h => by cases h)
  simp only [Instr.loadAt, Instr.sureAddr, Sem.run_bind, Sem.run_pure, Result.andThen_ok] at q0 q3
  rw [Array.getD_eq_getD_getElem?] at u0 u1 u2 u3
  simp [results, hres, u0, u1, u2, u3, asAddr, q0, q3]
end
theorem b7k {P : Program} {n : Nat} {fr : Fr} {x : Operand} {s ft : TypeId} {f o k : Nat} {z : List Value} {by' : Nat} {cs : List Value} {v : Value} (hf : U5 P s f = some (o, ft)) (ht : TyOk P ft false k z by') (hx : ev fr x = some (.agg cs.toArray)) (hv : cs[o]? = some v) : Yp P n fr (.field s x f) v := fun ac h w' d t p af g => by
 unfold U5 at hf
 split at hf
 ·rename_i fs hs
  obtain ⟨fd, h1, h2⟩ := Option.map_eq_some_iff.1 hf
  simp only [Prod.mk.injEq] at h2
  obtain ⟨rfl, rfl⟩ := h2
  simp [execOp, Instr.field, h.ev hx, run_underlying hs, h1, part, ht.run_isAgg, asAgg, hv]
 ·cases hf
section
variable {P : Program} {Q : Exit → Act → World → Prop} {n : Nat} {w0 : World} {L0 PB : List Nat} {fr : Fr} {H : List HP} {ops : Array Oper} {qt : Nat → Bool} {fuel : Nat} {listed : Array Bool} {op : Op} {d : Nat} {ty : TypeId} {pos : String} {af : Array Edge} {g : Option (Nat × Bool)} {v : Value}
theorem N.yd (hd : d < n) (hy : Yd P n w0 L0 fr H op v) : Nop P Q n w0 L0 fr H ⟨some d, op, ty, pos, af, g⟩ true (κ := Unit) (fun _ => (d, v) :: fr) (fun _ => H) (fun _ => True) := fun K hK a w h1 h2 => by
 rw [Oper.wp, hy a w h1 h2 w (J7 w)]
 exact hK () trivial w _ _ (h1.put hd v) h2 (fun _ => J7 w)
theorem b5p (hs : T4 PB H H) : T4 PB H H := hs
theorem b4N (i : Nat) [hs : SameI PB H H] (ho : ops[i]? = some ⟨some d, op, ty, pos, af, g⟩) (hg : G8 ops fr g = some true) (hd : d < n) (hy : Yd P n w0 L0 fr H op v) (hr : Region.ready .any ops listed = [i])
  (h : Ent n w0 L0 ((d, v) :: fr) H (K0 P ops Q (Kp w0 L0 PB) qt fuel (listed.setIfInBounds i true))) : Ent n w0 L0 fr H (K0 P ops Q (Kp w0 L0 PB) qt (fuel + 1) listed) :=
 C8 i ho hg hr (fun _ _ => hs.out) (N.yd hd hy) (fun _ _ => h)
end
end Go.Proofs.YtfnbilpemdgkkaaGreatDoor
