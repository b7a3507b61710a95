import Derived.Test.YtlfhopooaejpfaaGreatBu
import Derived.Test.YtlfhopooaejpfaaGreatGa
import Derived.Test.YtlfhopooaejpfaaGreatHg
section
namespace Go.Proofs.YtlfhopooaejpfaaGreat
open Go.RowKit
set_option linter.unusedVariables false
section
variable {P : Program} {n : Nat} {w0 : World} {L0 : List Nat} {fr : Fr} {H : List HP} {fn : Func} {κ : Type} {φ : κ → Prop} {ret : κ → Value} {post : κ → List HP} {wb : World} {Lb : List Nat}
theorem c0b (hb : P3 w0 L0 wb Lb) {e : Exit} {s0 : Nat} {v0 : Value} {s1 b1 k1 y1 : Nat} {T1 T1' : TypeId} {z1 cs1 : List Value} (hres : fn.results = #[.tmp s0, .cell s1 T1]) (hv0 : fr.lookup s0 = some v0) (hv1 : fr.lookup s1 = some (.pointer (some ⟨b1, 0, none⟩))) (hm1 : pt b1 T1' cs1 ∈ H) (ht1 : TyOk P T1 true k1 z1 y1) (hl1 : cs1.length = k1)
  (k : κ) (hk : φ k) (hr : .tuple #[v0, .agg cs1.toArray] = ret k) {J : List HP} (hH : H.Perm (post k ++ J)) (he : e = .ret ∨ e = .normal) : Ent n w0 L0 fr H (bodyPost P fn (Fin φ ret post wb Lb) e) :=
 a0a hb he k hk hr hH fun a w h1 h2 => by
  have u0 := h1.ev (x := .tmp s0) hv0
  have u1 := h1.ev (x := .tmp s1) hv1
  simp only [Act.eval] at u0 u1
  have q1 := ((Has.pt (w0 := w0) (L0 := L0) hm1) w h2).run_load (P := P) (v := .agg cs1.toArray) ht1 hl1 rfl (fun h => by cases h)
  simp only [Instr.loadAt, Instr.sureAddr, Sem.run_bind, Sem.run_pure, Result.andThen_ok] at q1
  rw [Array.getD_eq_getD_getElem?] at u0 u1
  simp [results, hres, u0, u1, asAddr, q1]
theorem b9H (hb : P3 w0 L0 wb Lb) {e : Exit} {s0 : Nat} {v0 : Value} {s1 b1 k1 y1 : Nat} {T1 T1' : TypeId} {z1 cs1 : List Value} {s2 b2 k2 y2 : Nat} {T2 T2' : TypeId} {z2 cs2 : List Value} (hres : fn.results = #[.tmp s0, .cell s1 T1, .cell s2 T2]) (hv0 : fr.lookup s0 = some v0) (hv1 : fr.lookup s1 = some (.pointer (some ⟨b1, 0, none⟩))) (hv2 : fr.lookup s2 = some (.pointer (some ⟨b2, 0, none⟩))) (hm1 : pt b1 T1' cs1 ∈ H) (ht1 : TyOk P T1 true k1 z1 y1) (hl1 : cs1.length = k1) (hm2 : pt b2 T2' cs2 ∈ H) (ht2 : TyOk P T2 true k2 z2 y2) (hl2 : cs2.length = k2)
  (k : κ) (hk : φ k) (hr : .tuple #[v0, .agg cs1.toArray, .agg cs2.toArray] = ret k) {J : List HP} (hH : H.Perm (post k ++ J)) (he : e = .ret ∨ e = .normal) : Ent n w0 L0 fr H (bodyPost P fn (Fin φ ret post wb Lb) e) :=
 a0a hb he k hk hr hH fun a w h1 h2 => by
  have u0 := h1.ev (x := .tmp s0) hv0
  have u1 := h1.ev (x := .tmp s1) hv1
  have u2 := h1.ev (x := .tmp s2) hv2
  simp only [Act.eval] at u0 u1 u2
  have q1 := ((Has.pt (w0 := w0) (L0 := L0) hm1) w h2).run_load (P := P) (v := .agg cs1.toArray) ht1 hl1 rfl (fun h => by cases h)
  have q2 := ((Has.pt (w0 := w0) (L0 := L0) hm2) w h2).run_load (P := P) (v := .agg cs2.toArray) ht2 hl2 rfl (fun h => by cases h)
  simp only [Instr.loadAt, Instr.sureAddr, Sem.run_bind, Sem.run_pure, Result.andThen_ok] at q1 q2
  rw [Array.getD_eq_getD_getElem?] at u0 u1 u2
  simp [results, hres, u0, u1, u2, asAddr, q1, q2]
theorem b9I (hb : P3 w0 L0 wb Lb) {e : Exit} {s0 b0 k0 y0 : Nat} {T0 T0' : TypeId} {z0 cs0 : List Value} {s1 : Nat} {v1 : Value} {s2 : Nat} {v2 : Value} (hres : fn.results = #[.cell s0 T0, .tmp s1, .tmp s2]) (hv0 : fr.lookup s0 = some (.pointer (some ⟨b0, 0, none⟩))) (hv1 : fr.lookup s1 = some v1) (hv2 : fr.lookup s2 = some v2) (hm0 : pt b0 T0' cs0 ∈ H) (ht0 : TyOk P T0 true k0 z0 y0) (hl0 : cs0.length = k0)
  (k : κ) (hk : φ k) (hr : .tuple #[.agg cs0.toArray, v1, v2] = ret k) {J : List HP} (hH : H.Perm (post k ++ J)) (he : e = .ret ∨ e = .normal) : Ent n w0 L0 fr H (bodyPost P fn (Fin φ ret post wb Lb) e) :=
 a0a hb he k hk hr hH fun a w h1 h2 => by
  have u0 := h1.ev (x := .tmp s0) hv0
  have u1 := h1.ev (x := .tmp s1) hv1
  have u2 := h1.ev (x := .tmp s2) hv2
  simp only [Act.eval] at u0 u1 u2
  have q0 := ((Has.pt (w0 := w0) (L0 := L0) hm0) w h2).run_load (P := P) (v := .agg cs0.toArray) ht0 hl0 rfl (fun h => by cases h)
  simp only [Instr.loadAt, Instr.sureAddr, Sem.run_bind, Sem.run_pure, Result.andThen_ok] at q0
  rw [Array.getD_eq_getD_getElem?] at u0 u1 u2
  simp [results, hres, u0, u1, u2, asAddr, q0]
theorem b9r (hb : P3 w0 L0 wb Lb) {e : Exit} {s0 b0 k0 y0 : Nat} {T0 T0' : TypeId} {z0 cs0 : List Value} {s1 : Nat} {v1 : Value} {s2 : Nat} {v2 : Value} {s3 b3 k3 y3 : Nat} {T3 T3' : TypeId} {z3 cs3 : List Value} (hres : fn.results = #[.cell s0 T0, .tmp s1, .tmp s2, .cell s3 T3]) (hv0 : fr.lookup s0 = some (.pointer (some ⟨b0, 0, none⟩))) (hv1 : fr.lookup s1 = some v1) (hv2 : fr.lookup s2 = some v2) (hv3 : fr.lookup s3 = some (.pointer (some ⟨b3, 0, none⟩))) (hm0 : pt b0 T0' cs0 ∈ H) (ht0 : TyOk P T0 true k0 z0 y0) (hl0 : cs0.length = k0) (hm3 : pt b3 T3' cs3 ∈ H) (ht3 : TyOk P T3 true k3 z3 y3) (hl3 : cs3.length = k3)
  (k : κ) (hk : φ k) (hr : .tuple #[.agg cs0.toArray, v1, v2, .agg cs3.toArray] = ret k) {J : List HP} (hH : H.Perm (post k ++ J)) (he : e = .ret ∨ e = .normal) : Ent n w0 L0 fr H (bodyPost P fn (Fin φ ret post wb Lb) e) :=
 a0a hb he k hk hr hH fun a w h1 h2 => by
  have u0 := h1.ev (x := .tmp s0) hv0
  have u1 := h1.ev (x := .tmp s1) hv1
  have u2 := h1.ev (x := .tmp s2) hv2
  have u3 := h1.ev (x := .tmp s3) hv3
  simp only [Act.eval] at u0 u1 u2 u3
  have q0 := ((Has.pt (w0 := w0) (L0 := L0) hm0) w h2).run_load (P := P) (v := .agg cs0.toArray) ht0 hl0 rfl (fun h => by cases h)
  have q3 := ((Has.pt (w0 := w0) (L0 := L0) hm3) w h2).run_load (P := P) (v := .agg cs3.toArray) ht3 hl3 rfl (fun h => by cases h)
  simp only [Instr.loadAt, Instr.sureAddr, Sem.run_bind, Sem.run_pure, Result.andThen_ok] at q0 q3
  rw [Array.getD_eq_getD_getElem?] at u0 u1 u2 u3
  simp [results, hres, u0, u1, u2, u3, asAddr, q0, q3]
end
theorem b9E {P : Program} {n : Nat} {fr : Fr} {x : Operand} {s ft : TypeId} {f o k : Nat} {z : List Value} {by' : Nat} {cs : List Value} {v : Value} (hf : S2 P s f = some (o, ft)) (ht : TyOk P ft false k z by') (hx : ev fr x = some (.agg cs.toArray)) (hv : cs[o]? = some v) : Yp P n fr (.field s x f) v := fun ac h w' d t p af g => by
 unfold S2 at hf
 split at hf
 ·rename_i fs hs
  obtain ⟨fd, h1, h2⟩ := Option.map_eq_some_iff.1 hf
  simp only [Prod.mk.injEq] at h2
  obtain ⟨rfl, rfl⟩ := h2
  simp [execOp, Instr.field, h.ev hx, run_underlying hs, h1, part, ht.run_isAgg, asAgg, hv]
 ·cases hf
section
variable {P : Program} {Q : Exit → Act → World → Prop} {n : Nat} {w0 : World} {L0 PB : List Nat} {fr : Fr} {H : List HP} {ops : Array Oper} {qt : Nat → Bool} {fuel : Nat} {listed : Array Bool} {op : Op} {d : Nat} {ty : TypeId} {pos : String} {af : Array Edge} {g : Option (Nat × Bool)} {v : Value}
theorem N.yd (hd : d < n) (hy : Yd P n w0 L0 fr H op v) : Nop P Q n w0 L0 fr H ⟨some d, op, ty, pos, af, g⟩ true (κ := Unit) (fun _ => (d, v) :: fr) (fun _ => H) (fun _ => True) := fun K hK a w h1 h2 => by
 rw [Oper.wp, hy a w h1 h2 w (W3 w)]
 exact hK () trivial w _ _ (h1.put hd v) h2 (fun _ => W3 w)
theorem b7Y (hs : a1q PB H H) : a1q PB H H := hs
theorem b9D (i : Nat) [hs : SameI PB H H] (ho : ops[i]? = some ⟨some d, op, ty, pos, af, g⟩) (hg : S9 ops fr g = some true) (hd : d < n) (hy : Yd P n w0 L0 fr H op v) (hr : Region.ready .any ops listed = [i])
  (h : Ent n w0 L0 ((d, v) :: fr) H (V2 P ops Q (Kp w0 L0 PB) qt fuel (listed.setIfInBounds i true))) : Ent n w0 L0 fr H (V2 P ops Q (Kp w0 L0 PB) qt (fuel + 1) listed) :=
 F3 i ho hg hr (fun _ _ => hs.out) (N.yd hd hy) (fun _ _ => h)
end
end Go.Proofs.YtlfhopooaejpfaaGreat
end
section
namespace Go.Proofs.YtlfhopooaejpfaaGreat
open Go.RowKit
set_option linter.unusedVariables false
section
variable {P : Program} {n : Nat} {w0 : World} {L0 : List Nat} {fr : Fr} {H : List HP} {fn : Func} {κ : Type} {φ : κ → Prop} {ret : κ → Value} {post : κ → List HP} {wb : World} {Lb : List Nat}
theorem b9t (hb : P3 w0 L0 wb Lb) {e : Exit} {s0 : Nat} {v0 : Value} {s1 : Nat} {v1 : Value} {s2 : Nat} {v2 : Value} {s3 b3 k3 y3 : Nat} {T3 T3' : TypeId} {z3 cs3 : List Value} (hres : fn.results = #[.tmp s0, .tmp s1, .tmp s2, .cell s3 T3]) (hv0 : fr.lookup s0 = some v0) (hv1 : fr.lookup s1 = some v1) (hv2 : fr.lookup s2 = some v2) (hv3 : fr.lookup s3 = some (.pointer (some ⟨b3, 0, none⟩))) (hm3 : pt b3 T3' cs3 ∈ H) (ht3 : TyOk P T3 true k3 z3 y3) (hl3 : cs3.length = k3)
  (k : κ) (hk : φ k) (hr : .tuple #[v0, v1, v2, .agg cs3.toArray] = ret k) {J : List HP} (hH : H.Perm (post k ++ J)) (he : e = .ret ∨ e = .normal) : Ent n w0 L0 fr H (bodyPost P fn (Fin φ ret post wb Lb) e) :=
 a0a hb he k hk hr hH fun a w h1 h2 => by
  have u0 := h1.ev (x := .tmp s0) hv0
  have u1 := h1.ev (x := .tmp s1) hv1
  have u2 := h1.ev (x := .tmp s2) hv2
  have u3 := h1.ev (x := .tmp s3) hv3
  simp only [Act.eval] at u0 u1 u2 u3
  have q3 := ((Has.pt (w0 := w0) (L0 := L0) hm3) w h2).run_load (P := P) (v := .agg cs3.toArray) ht3 hl3 rfl (fun h => by cases h)
  simp only [Instr.loadAt, Instr.sureAddr, Sem.run_bind, Sem.run_pure, Result.andThen_ok] at q3
  rw [Array.getD_eq_getD_getElem?] at u0 u1 u2 u3
  simp [results, hres, u0, u1, u2, u3, asAddr, q3]
theorem b0G (hb : P3 w0 L0 wb Lb) {e : Exit} {s0 : Nat} {v0 : Value} {s1 : Nat} {v1 : Value} {s2 b2 k2 y2 : Nat} {T2 T2' : TypeId} {z2 cs2 : List Value} {s3 : Nat} {v3 : Value} {s4 : Nat} {v4 : Value} {s5 : Nat} {v5 : Value} (hres : fn.results = #[.tmp s0, .tmp s1, .cell s2 T2, .tmp s3, .tmp s4, .tmp s5]) (hv0 : fr.lookup s0 = some v0) (hv1 : fr.lookup s1 = some v1) (hv2 : fr.lookup s2 = some (.pointer (some ⟨b2, 0, none⟩))) (hv3 : fr.lookup s3 = some v3) (hv4 : fr.lookup s4 = some v4) (hv5 : fr.lookup s5 = some v5) (hm2 : pt b2 T2' cs2 ∈ H) (ht2 : TyOk P T2 true k2 z2 y2) (hl2 : cs2.length = k2)
  (k : κ) (hk : φ k) (hr : .tuple #[v0, v1, .agg cs2.toArray, v3, v4, v5] = ret k) {J : List HP} (hH : H.Perm (post k ++ J)) (he : e = .ret ∨ e = .normal) : Ent n w0 L0 fr H (bodyPost P fn (Fin φ ret post wb Lb) e) :=
 a0a hb he k hk hr hH fun a w h1 h2 => by
  have u0 := h1.ev (x := .tmp s0) hv0
  have u1 := h1.ev (x := .tmp s1) hv1
  have u2 := h1.ev (x := .tmp s2) hv2
  have u3 := h1.ev (x := .tmp s3) hv3
  have u4 := h1.ev (x := .tmp s4) hv4
  have u5 := h1.ev (x := .tmp s5) hv5
  simp only [Act.eval] at u0 u1 u2 u3 u4 u5
  have q2 := ((Has.pt (w0 := w0) (L0 := L0) hm2) w h2).run_load (P := P) (v := .agg cs2.toArray) ht2 hl2 rfl (fun h => by cases h)
  simp only [Instr.loadAt, Instr.sureAddr, Sem.run_bind, Sem.run_pure, Result.andThen_ok] at q2
  rw [Array.getD_eq_getD_getElem?] at u0 u1 u2 u3 u4 u5
  simp [results, hres, u0, u1, u2, u3, u4, u5, asAddr, q2]
theorem a9f (hb : P3 w0 L0 wb Lb) {e : Exit} {s0 : Nat} {v0 : Value} {s1 : Nat} {v1 : Value} {s2 b2 k2 y2 : Nat} {T2 T2' : TypeId} {z2 cs2 : List Value} (hres : fn.results = #[.tmp s0, .tmp s1, .cell s2 T2]) (hv0 : fr.lookup s0 = some v0) (hv1 : fr.lookup s1 = some v1) (hv2 : fr.lookup s2 = some (.pointer (some ⟨b2, 0, none⟩))) (hm2 : pt b2 T2' cs2 ∈ H) (ht2 : TyOk P T2 true k2 z2 y2) (hl2 : cs2.length = k2)
  (k : κ) (hk : φ k) (hr : .tuple #[v0, v1, .agg cs2.toArray] = ret k) {J : List HP} (hH : H.Perm (post k ++ J)) (he : e = .ret ∨ e = .normal) : Ent n w0 L0 fr H (bodyPost P fn (Fin φ ret post wb Lb) e) :=
 a0a hb he k hk hr hH fun a w h1 h2 => by
  have u0 := h1.ev (x := .tmp s0) hv0
  have u1 := h1.ev (x := .tmp s1) hv1
  have u2 := h1.ev (x := .tmp s2) hv2
  simp only [Act.eval] at u0 u1 u2
  have q2 := ((Has.pt (w0 := w0) (L0 := L0) hm2) w h2).run_load (P := P) (v := .agg cs2.toArray) ht2 hl2 rfl (fun h => by cases h)
  simp only [Instr.loadAt, Instr.sureAddr, Sem.run_bind, Sem.run_pure, Result.andThen_ok] at q2
  rw [Array.getD_eq_getD_getElem?] at u0 u1 u2
  simp [results, hres, u0, u1, u2, asAddr, q2]
end
end Go.Proofs.YtlfhopooaejpfaaGreat
end
section
namespace Go.Proofs.YtlfhopooaejpfaaGreat
set_option linter.unusedVariables false
def b8r (m : Int × (Option Addr × Nat × Nat) × Int × Int × Int) : Int × (Option Addr × Nat × Nat) × Int × Int × Int := cond (decide (m.2.2.1 ≠ 0)) (-1, m.2) m
def exB (l : List (Int × (Option Addr × Nat × Nat) × Int × Int × Int)) : List (Int × (Option Addr × Nat × Nat) × Int × Int × Int) := l.map b8r
section
variable {l : List (Int × (Option Addr × Nat × Nat) × Int × Int × Int)} {xs : List MT5} {g : Nat} {w : World} {L : List Nat}
end
end Go.Proofs.YtlfhopooaejpfaaGreat
end
section
namespace Go.Proofs.YtlfhopooaejpfaaGreat
set_option linter.unusedVariables false
set_option linter.unusedSimpArgs false
def b6Z (l : List MT5) : List MT5 := l.filter fun m => decide (m.2.2.1 = 0)
def rk (l : List MT5) (i : Int) : Int := if i < 0 then i else ((b6Z (l.take i.toNat)).length : Int)
def rkS (l : List MT5) (x : Stp) : Stp := (x.1, rk l x.2)
section
variable {s : List Int} {l L M : List MT5} {d8 al : List AT2} {ds : List Bool} {a : AT2} {b b' : List Int} {i n g k : Nat} {S R : List Stp} {d4 : List Fct} {m : MT5} {q : List Int × List AT2}
def b9S (l : List (Int × (Option Addr × Nat × Nat) × Int × Int × Int)) : List (Int × (Option Addr × Nat × Nat) × Int × Int × Int) := l.filter fun m => decide (m.2.2.1 = 0)
def b9T (l : List MT5) (p : List Int × List AT2) (d4 : List Fct) : List (List Int) := O4 p.1 (j5 (fun a => F7 l d4 a) l p.2 (grF (exF l) p.2).1).1
def a1u (s : List Int) (l : List MT5) (q : List Int × List AT2) : List Stp := cond ((G5 s l && z8 s q) && decide (q.2.length ≤ (grF l q.2).1.length)) (grF l q.2).1 []
def a3d (s : List Int) (l : List MT5) (q : List Int × List AT2) : Bool := (G5 s l && z8 s q) && decide (q.2.length ≤ (grF l q.2).1.length)
theorem a1m (h : (G5 s l && z8 s q) = false) : [] = a1u s l q ∧ false = a3d s l q := by rw [a1u, a3d, h]; exact ⟨rfl, rfl⟩
theorem a1i (h : (grF l q.2).1.length < q.2.length) : [] = a1u s l q ∧ false = a3d s l q := by rw [a1u, a3d, decide_eq_false (by omega), Bool.and_false]; exact ⟨rfl, rfl⟩
theorem a1h (h : (G5 s l && z8 s q) = true) (h2 : ¬ (grF l q.2).1.length < q.2.length) : (grF l q.2).1 = a1u s l q ∧ true = a3d s l q := by rw [a1u, a3d, h, decide_eq_true (by omega)]; exact ⟨rfl, rfl⟩
end
end Go.Proofs.YtlfhopooaejpfaaGreat
end
section
namespace Go.Proofs.YtlfhopooaejpfaaGreat
set_option linter.unusedVariables false
section
variable {ys ms : List Mth} {lg : List Acs} {i v : List Int} {a b c d : Int} {g : Nat} {s : List Int} {q : List Int × List AT2}
theorem b5I (h : ys.length = g ∧ ∀ m ∈ ys, m.2.1.length ≤ 4) (hi : i.length ≤ 4) : (ys ++ [(a, i, b, c, d)]).length = g + 1 ∧ ∀ m ∈ ys ++ [(a, i, b, c, d)], m.2.1.length ≤ 4 := by
 refine ⟨by simp [h.1], fun m hm => ?_⟩
 rcases List.mem_append.1 hm with hm | hm
 ·exact h.2 m hm
 ·rw [List.mem_singleton] at hm; rw [hm]; exact hi
theorem a5j (h : (1 ≤ ms.length ∧ ms.length ≤ 4) ∧ ∀ m ∈ ms, m.2.1.length ≤ 4) : ms.length ≤ 5 ∧ ∀ m ∈ ms, m.2.1.length ≤ 4 := ⟨by omega, h.2⟩
theorem b3t (h : (1 ≤ ms.length ∧ ms.length ≤ 4) ∧ ∀ m ∈ ms, m.2.1.length ≤ 4) (hi : i.length ≤ 4) : (ms ++ [(a, i, b, c, d)]).length ≤ 5 ∧ ∀ m ∈ ms ++ [(a, i, b, c, d)], m.2.1.length ≤ 4 := by
 refine ⟨by simp; omega, fun m hm => ?_⟩
 rcases List.mem_append.1 hm with hm | hm
 ·exact h.2 m hm
 ·rw [List.mem_singleton] at hm; rw [hm]; exact hi
theorem b5b (h : lg.length = g ∧ ∀ z ∈ lg, z.2.length ≤ 5) (hv : v.length ≤ 5) : (lg ++ [(a, v)]).length = g + 1 ∧ ∀ z ∈ lg ++ [(a, v)], z.2.length ≤ 5 := by
 refine ⟨by simp [h.1], fun m hm => ?_⟩
 rcases List.mem_append.1 hm with hm | hm
 ·exact h.2 m hm
 ·rw [List.mem_singleton] at hm; rw [hm]; exact hv
theorem b5t (h : q.2.length ≤ 4) : (a1u s ms q).length ≤ 4 := by
 unfold a1u
 cases (G5 s ms && z8 s q) && decide (q.2.length ≤ (grF ms q.2).1.length)
 ·exact Nat.zero_le _
 ·exact Nat.le_trans b4R h
end
end Go.Proofs.YtlfhopooaejpfaaGreat
end
