import Derived.Test.YtfnbilpemdgkkaaGreatDoorBe
namespace Go.Proofs.YtfnbilpemdgkkaaGreatDoor
open Go.RowKit
set_option linter.unusedVariables false
section
variable {P : Program} {n : Nat} {w0 : World} {L0 : List Nat} {fr : Fr} {H : List HP} {fn : Func} {κ : Type} {φ : κ → Prop} {ret : κ → Value} {post : κ → List HP} {wb : World} {Lb : List Nat}
theorem b0W (hb : J2 w0 L0 wb Lb) {e : Exit} {s0 b0 k0 y0 : Nat} {T0 T0' : TypeId} {z0 cs0 : List Value} {s1 b1 k1 y1 : Nat} {T1 T1' : TypeId} {z1 cs1 : List Value} {s2 b2 k2 y2 : Nat} {T2 T2' : TypeId} {z2 cs2 : List Value} (hres : fn.results = #[.cell s0 T0, .cell s1 T1, .cell s2 T2]) (hv0 : fr.lookup s0 = some (.pointer (some ⟨b0, 0, none⟩))) (hv1 : fr.lookup s1 = some (.pointer (some ⟨b1, 0, none⟩))) (hv2 : fr.lookup s2 = some (.pointer (some ⟨b2, 0, none⟩))) (hm0 : pt b0 T0' cs0 ∈ H) (ht0 : TyOk P T0 true k0 z0 y0) (hl0 : cs0.length = k0) (hm1 : pt b1 T1' cs1 ∈ H) (ht1 : TyOk P T1 true k1 z1 y1) (hl1 : cs1.length = k1) (hm2 : pt b2 T2' cs2 ∈ H) (ht2 : TyOk P T2 true k2 z2 y2) (hl2 : cs2.length = k2)
  (k : κ) (hk : φ k) (hr : .tuple #[.agg cs0.toArray, .agg cs1.toArray, .agg cs2.toArray] = ret k) {J : List HP} (hH : H.Perm (post k ++ J)) (he : e = .ret ∨ e = .normal) : Ent n w0 L0 fr H (bodyPost P fn (Fin φ ret post wb Lb) e) :=
 R8 hb he k hk hr hH fun a w h1 h2 => by
  have u0 := h1.ev (x := .tmp s0) hv0
  have u1 := h1.ev (x := .tmp s1) hv1
  have u2 := h1.ev (x := .tmp s2) hv2
  simp only [Act.eval] at u0 u1 u2
  have q0 := ((Has.pt (w0 := w0) (L0 := L0) hm0) w h2).run_load (P := P) (v := .agg cs0.toArray) ht0 hl0 rfl (fun h => by cases h)
  have q1 := ((Has.pt (w0 := w0) (L0 := L0) hm1) w h2).run_load (P := P) (v := .agg cs1.toArray) ht1 hl1 rfl (fun h => by cases h)
  have q2 := ((Has.pt (w0 := w0) (L0 := L0) hm2) w h2).run_load (P := P) (v := .agg cs2.toArray) ht2 hl2 rfl (fun h => by cases h)
  simp only [Instr.loadAt, Instr.sureAddr, Sem.run_bind, Sem.run_pure, Result.andThen_ok] at q0 q1 q2
  rw [Array.getD_eq_getD_getElem?] at u0 u1 u2
  simp [results, hres, u0, u1, u2, asAddr, q0, q1, q2]
end
def a1L {α : Type} (E : Enc α) : Enc (α × α) where
 k := 2
 pos := by decide
 rep w cs x L _ := ∃ u v L1 L2, cs = [u, v] ∧ E.rep w [u] x.1 L1 false ∧ E.rep w [v] x.2 L2 false ∧ (∀ b ∈ L1, b ∈ L) ∧ (∀ b ∈ L2, b ∈ L) ∧ ∀ b ∈ L, b < w.heap.size
 len h := by obtain ⟨u, v, L1, L2, rfl, _⟩ := h; rfl
 one h := by
  obtain ⟨u, v, L1, L2, rfl, h1, h2, _⟩ := h
  intro x hx
  simp only [List.mem_cons, List.not_mem_nil, or_false] at hx
  rcases hx with rfl | rfl
  ·exact E.one h1 x (by simp)
  ·exact E.one h2 x (by simp)
 stable h hs := by
  obtain ⟨u, v, L1, L2, rfl, h1, h2, h3, h4, h5⟩ := h
  refine ⟨u, v, L1, L2, rfl, E.stable h1 fun b hb => hs b (h3 b hb), E.stable h2 fun b hb => hs b (h4 b hb), h3, h4, fun b hb => ?_⟩
  have h6 := hs b hb
  rw [Array.getElem?_eq_getElem (h5 b hb)] at h6
  exact (Array.getElem?_eq_some_iff.1 h6).1
 inh h := by
  obtain ⟨u, v, L1, L2, rfl, h1, h2, h3, h4, h5⟩ := h
  exact h5
 ro h := ⟨_, fun b hb => hb, h⟩
abbrev a9J : Enc (List (List Int) × List (List Int)) := a1L B2
section
variable {α : Type} {E : Enc α} {n : Nat} {w0 w : World} {L0 L : List Nat} {fr : Fr} {R H : List HP} {G : Act → World → Prop} {e : TypeId} {a a2 : Option Addr} {m c m2 c2 : Nat} {x y : α} {u v : Value}
theorem a9T (h : Ro w L (a1L E) [u, v] (x, y)) : Ro w L E [u] x ∧ Ro w L E [v] y := by
 obtain ⟨L', ⟨u', v', L1, L2, e1, h1, h2, h3, h4, _⟩, h6⟩ := h
 simp only [List.cons.injEq, and_true] at e1
 obtain ⟨rfl, rfl⟩ := e1
 exact ⟨⟨L1, h1, fun b hb => h6 b (h3 b hb)⟩, ⟨L2, h2, fun b hb => h6 b (h4 b hb)⟩⟩
theorem a7u (h : Ent n w0 L0 fr (ow (a1L E) [u, v] (x, y) :: R) G) : Ent n w0 L0 fr (ow E [u] x :: ow E [v] y :: R) G := fun ac w h1 h2 => by
 obtain ⟨L, ⟨L1, Lq, rfl, g1, L2, LR, rfl, g2, hR⟩, hn, hst⟩ := h2
 obtain ⟨K1, s1, k1⟩ := E.ro g1
 obtain ⟨K2, s2, k2⟩ := E.ro g2
 refine h ac w h1 ⟨(L1 ++ L2) ++ LR, ⟨L1 ++ L2, LR, rfl, ⟨u, v, K1, K2, rfl, k1, k2, fun b hb => by simp [s1 b hb], fun b hb => by simp [s2 b hb], fun b hb => ?_⟩, hR⟩, by simpa [List.append_assoc] using hn, by simpa [List.append_assoc] using hst⟩
 rcases List.mem_append.1 hb with hb | hb
 ·exact E.inh g1 b hb
 ·exact E.inh g2 b hb
theorem b0S {P : Program} {Q : Exit → Act → World → Prop} {d : Nat} {ty : TypeId} {pos : String} {af : Array Edge} {g : Option (Nat × Bool)} {T : TypeId} {agg : Bool} {k : Nat} {z : List Value} {by' : Nat} {p q : Operand} {ad : Option Addr} {ys : List α}
  (hT : P.underlying T = some (.slice e)) (ht : TyOk P e agg k z by') (hk : k = E.k) (hx : ev fr p = some (.slice ad 0 0)) (hy : ev fr q = some (.slice a2 m2 c2)) (hH : H = ow (Enc.sl e E) [.slice a2 m2 c2] ys :: R) (h63 : m2 ≤ maxLen) (hbytes : m2 * by' ≤ 140737488355328) (hd : d < n) :
  Nop P Q n w0 L0 fr H ⟨some d, .call ⟨.builtin .append, #[p, q], #[T, T]⟩, ty, pos, af, g⟩ false (κ := Option Addr × Nat) (fun z => (d, .slice z.1 m2 z.2) :: fr) (fun z => ow (a1L (Enc.sl e E)) [.slice a2 m2 c2, .slice z.1 m2 z.2] (ys, ys) :: R) (fun _ => True) := fun K hK a w ha hw => by
 subst hH
 subst hk
 obtain ⟨L, ⟨Lo, L2, rfl, ho, hR⟩, hn, hst⟩ := hw
 obtain ⟨ccs, Lr, Le, rfl, g1, g2, g3, g4⟩ := P7 ho
 have hsrc : (m2 = 0 ∧ ccs = []) ∨ ∃ b o, a2 = some ⟨b, o, none⟩ ∧ C6 w b o ccs := by
  obtain ⟨h0, h1⟩ := id g4
  rcases h1 with ⟨_, h2, _⟩ | ⟨g', cur, h2, h3, h4, h5, h6, h7, _⟩
  ·exact .inl ⟨h2, List.eq_nil_of_length_eq_zero (by rw [h0, h2, Nat.zero_mul])⟩
  ·refine .inr ⟨g', 0, h2, fun j v hj => ?_⟩
   rw [← h7, List.getElem?_take] at hj
   split at hj
   ·simpa [World.cell?, h3] using hj
   ·cases hj
 obtain ⟨a', c', w', L1', r1, r2, r3, r4, -⟩ := R4 (P := P) (ty := ty) (c2 := c2) hT ht E.pos (show (row e E.k ad 0 0 []).holds w [] from ⟨by simp, .inl ⟨rfl, rfl, rfl⟩⟩) hsrc (by rw [g3.len, g1]) g3.one (by rw [Nat.zero_add]; exact h63) (by rw [Nat.zero_add]; exact hbytes)
 obtain ⟨k1, k2, k3⟩ := Step.call (Lp := []) (Lr := (Lr ++ Le) ++ L2) (by simpa using hst) (by simpa using hn) (fun b hb => by
  rcases List.mem_append.1 hb with hb | hb
  ·exact (ow (Enc.sl e E) [.slice a2 m2 c2] ys).inh ho b hb
  ·exact hR.inh b hb) (by simpa using r4) r3
 have hrun : (execOp a.eval ⟨some d, .call ⟨.builtin .append, #[p, q], #[T, T]⟩, ty, pos, af, g⟩).run P w = .ok (.value (.slice a' (0 + m2) c')) w' := by
  simp only [execOp, resolve, ha.ev hx, ha.ev hy, List.map_toArray, List.map_cons, List.map_nil, Sem.run_bind, Sem.run_pure, Result.andThen_ok, invoke, builtin, r1]
 simp only [Nat.zero_add, List.nil_append] at r2 hrun
 have ho' := (ow (Enc.sl e E) [.slice a2 m2 c2] ys).stable ho fun b hb => k3 b (by simp only [List.mem_append] at hb ⊢; exact .inl hb)
 have he' : w3 E w' ccs ys Le true := w3.stable g3 fun b hb => k3 b (by simp [hb])
 have hd' : (Enc.sl e E).rep w' [.slice a' m2 c'] ys (L1' ++ Le) true := ⟨a', m2, c', ccs, L1', Le, rfl, g1, g2, rfl, he', r2⟩
 obtain ⟨K1, s1, q1⟩ := (Enc.sl e E).ro ho'
 obtain ⟨K2, s2, q2⟩ := (Enc.sl e E).ro hd'
 rw [Oper.wp, hrun]
 refine hK (a', c') trivial w _ _ (ha.put hd _) ⟨(L1' ++ (Lr ++ Le)) ++ L2, ⟨L1' ++ (Lr ++ Le), L2, rfl, ⟨_, _, K1, K2, rfl, q1, q2, fun b hb => ?_, fun b hb => ?_, fun b hb => ?_⟩, hR.stable fun b hb => k3 b (by simp [hb])⟩, by simpa [List.append_assoc] using k2, by simpa [List.append_assoc] using k1⟩ (by simp)
 ·have := s1 b hb; simp only [List.mem_append] at this ⊢; exact .inr this
 ·have := s2 b hb; simp only [List.mem_append] at this ⊢; rcases this with h | h
  ·exact .inl h
  ·exact .inr (.inr h)
 ·rcases List.mem_append.1 hb with hb | hb
  ·exact (Enc.sl e E).inh hd' b (by simp [hb])
  ·exact (Enc.sl e E).inh ho' b hb
end
end Go.Proofs.YtfnbilpemdgkkaaGreatDoor
