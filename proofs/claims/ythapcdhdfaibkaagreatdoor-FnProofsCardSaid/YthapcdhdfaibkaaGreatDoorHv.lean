import Derived.Test.YthapcdhdfaibkaaGreatDoorBe
namespace Go.Proofs.YthapcdhdfaibkaaGreatDoor
open Go.RowKit
set_option linter.unusedVariables false
def Enc.frz {α : Type} (E : Enc α) : Enc α where
 k := E.k
 pos := E.pos
 rep w cs x L _ := ∃ L1, E.rep w cs x L1 false ∧ (∀ b ∈ L1, b ∈ L) ∧ ∀ b ∈ L, b < w.heap.size
 len h := by obtain ⟨_, h, _⟩ := h; exact E.len h
 one h := by obtain ⟨_, h, _⟩ := h; exact E.one h
 stable h hs := by
  obtain ⟨L1, h1, h2, h3⟩ := h
  refine ⟨L1, E.stable h1 fun b hb => hs b (h2 b hb), h2, fun b hb => ?_⟩
  have h6 := hs b hb
  rw [Array.getElem?_eq_getElem (h3 b hb)] at h6
  exact (Array.getElem?_eq_some_iff.1 h6).1
 inh h := by obtain ⟨_, _, _, h⟩ := h; exact h
 ro h := ⟨_, fun b hb => hb, h⟩
def Enc.bnd {α β : Type} (E1 : Enc α) (E2 : Enc β) : Enc (α × β) where
 k := E1.k + E2.k
 pos := by have := E1.pos; omega
 rep w cs x L _ := ∃ c1 c2 L1 L2, cs = c1 ++ c2 ∧ E1.rep w c1 x.1 L1 false ∧ E2.rep w c2 x.2 L2 false ∧ (∀ b ∈ L1, b ∈ L) ∧ (∀ b ∈ L2, b ∈ L) ∧ ∀ b ∈ L, b < w.heap.size
 len h := by obtain ⟨c1, c2, L1, L2, rfl, h1, h2, _⟩ := h; rw [List.length_append, E1.len h1, E2.len h2]
 one h := by
  obtain ⟨c1, c2, L1, L2, rfl, h1, h2, _⟩ := h
  intro x hx
  rcases List.mem_append.1 hx with hx | hx
  ·exact E1.one h1 x hx
  ·exact E2.one h2 x hx
 stable h hs := by
  obtain ⟨c1, c2, L1, L2, rfl, h1, h2, h3, h4, h5⟩ := h
  refine ⟨c1, c2, L1, L2, rfl, E1.stable h1 fun b hb => hs b (h3 b hb), E2.stable h2 fun b hb => hs b (h4 b hb), h3, h4, fun b hb => ?_⟩
  have h6 := hs b hb
  rw [Array.getElem?_eq_getElem (h5 b hb)] at h6
  exact (Array.getElem?_eq_some_iff.1 h6).1
 inh h := by
  obtain ⟨c1, c2, L1, L2, rfl, h1, h2, h3, h4, h5⟩ := h
  exact h5
 ro h := ⟨_, fun b hb => hb, h⟩
section
variable {α β : Type} {E : Enc α} {E1 : Enc α} {E2 : Enc β} {n : Nat} {w0 w : World} {L0 L Lp : List Nat} {fr : Fr} {R H pre rest : List HP} {G : Act → World → Prop} {e : TypeId} {a : Option Addr} {m c : Nat} {x : α} {y : β} {u v : Value} {cs : List Value} {xs : List α}
theorem Ro.frz (h : Ro w L (Enc.frz E) cs x) : Ro w L E cs x := by
 obtain ⟨L', ⟨L1, h1, h2, _⟩, h3⟩ := h
 exact ⟨L1, h1, fun b hb => h3 b (h2 b hb)⟩
theorem Ro.bnd (h : Ro w L (Enc.bnd E1 E2) [u, v] (x, y)) (hk : E1.k = 1) : Ro w L E1 [u] x ∧ Ro w L E2 [v] y := by
 obtain ⟨L', ⟨c1, c2, L1, L2, e1, h1, h2, h3, h4, _⟩, h6⟩ := h
 have hl := E1.len h1
 rw [hk] at hl
 obtain ⟨z, rfl⟩ := List.length_eq_one_iff.1 hl
 simp only [List.cons_append, List.nil_append, List.cons.injEq] at e1
 obtain ⟨rfl, rfl⟩ := e1
 exact ⟨⟨L1, h1, fun b hb => h6 b (h3 b hb)⟩, ⟨L2, h2, fun b hb => h6 b (h4 b hb)⟩⟩
theorem At.bd1 (hA : At w0 L0 pre rest w Lp) (hm : Go.Proofs.YthapcdhdfaibkaaGreatDoor.ow (Enc.bnd E1 E2) [u, v] (x, y) ∈ rest) (hk : E1.k = 1) : Ro w Lp E1 [u] x := ((hA.ow hm).bnd hk).1
theorem At.bd2 (hA : At w0 L0 pre rest w Lp) (hm : Go.Proofs.YthapcdhdfaibkaaGreatDoor.ow (Enc.bnd E1 E2) [u, v] (x, y) ∈ rest) (hk : E1.k = 1) : Ro w Lp E2 [v] y := ((hA.ow hm).bnd hk).2
theorem At.frz (hA : At w0 L0 pre rest w Lp) (hm : Go.Proofs.YthapcdhdfaibkaaGreatDoor.ow (Enc.frz E) cs x ∈ rest) : Ro w Lp E cs x := (hA.ow hm).frz
theorem b0q (h : Ent n w0 L0 fr (ow (Enc.frz E) cs x :: R) G) : Ent n w0 L0 fr (ow E cs x :: R) G := fun ac w h1 h2 => by
 obtain ⟨L, ⟨L1, LR, rfl, g1, hR⟩, hn, hst⟩ := h2
 obtain ⟨K1, s1, k1⟩ := E.ro g1
 exact h ac w h1 ⟨L1 ++ LR, ⟨L1, LR, rfl, ⟨K1, k1, s1, E.inh g1⟩, hR⟩, hn, hst⟩
theorem b4M (h : Ent n w0 L0 fr (ow (Enc.bnd E1 E2) [u, v] (x, y) :: R) G) : Ent n w0 L0 fr (ow E1 [u] x :: ow E2 [v] y :: R) G := fun ac w h1 h2 => by
 obtain ⟨L, ⟨L1, Lq, rfl, g1, L2, LR, rfl, g2, hR⟩, hn, hst⟩ := h2
 obtain ⟨K1, s1, k1⟩ := E1.ro g1
 obtain ⟨K2, s2, k2⟩ := E2.ro g2
 refine h ac w h1 ⟨(L1 ++ L2) ++ LR, ⟨L1 ++ L2, LR, rfl, ⟨[u], [v], K1, K2, rfl, k1, k2, fun b hb => by simp [s1 b hb], fun b hb => by simp [s2 b hb], fun b hb => ?_⟩, hR⟩, by simpa [List.append_assoc] using hn, by simpa [List.append_assoc] using hst⟩
 rcases List.mem_append.1 hb with hb | hb
 ·exact E1.inh g1 b hb
 ·exact E2.inh g2 b hb
theorem b3F {j : Nat} {ce : List Value} {x' : α} (hO : Own [ow E2 [v] y] E ce x') (hx : xs.set j x' = xs) (h : Ent n w0 L0 fr (ow (Enc.bnd (Enc.sl e E) E2) [.slice a m c, v] (xs, y) :: R) G) : Ent n w0 L0 fr (hole e E a m c xs j ce :: ow E2 [v] y :: R) G := fun ac w h1 h2 => by
 have h2' := h2
 obtain ⟨L, ⟨Lh, Lq, rfl, gh, L2, LR, rfl, g2, hR⟩, hn, hst⟩ := h2
 obtain ⟨c1, c2, A1, A2, A3, rfl, f1, f2, hj, f4, _, f6, f7, f8⟩ := id gh
 have hrep := hO _ _ (show Sep [ow E2 [v] y] w L2 from ⟨L2, [], by simp, g2, rfl⟩)
 have hl : (Enc.sl e E).rep w [.slice a m c] xs (A1 ++ (A2 ++ (L2 ++ A3))) true := by
  refine ⟨a, m, c, c1 ++ (ce ++ c2), A1, A2 ++ (L2 ++ A3), rfl, f1, f2, rfl, ?_, f8⟩
  rw [← hx, List.set_eq_take_append_cons_drop, if_pos hj]
  exact f6.app ⟨ce, c2, L2, A3, rfl, rfl, hrep, f7⟩
 obtain ⟨K1, s1, k1⟩ := (Enc.sl e E).ro hl
 obtain ⟨K2, s2, k2⟩ := E2.ro g2
 refine h ac w h1 ⟨(A1 ++ (A2 ++ A3)) ++ L2 ++ LR, ⟨_, LR, rfl, ⟨[.slice a m c], [v], K1, K2, rfl, k1, k2, fun b hb => ?_, fun b hb => ?_, fun b hb => ?_⟩, hR⟩, by simpa [List.append_assoc] using hn, by simpa [List.append_assoc] using hst⟩
 ·have := s1 b hb; simp only [List.mem_append] at this ⊢; rcases this with h | h | h | h <;> simp [h]
 ·have := s2 b hb; simp [this]
 ·rcases List.mem_append.1 hb with hb | hb
  ·exact (hole e E a m c xs j ce).inh gh b hb
  ·exact E2.inh g2 b hb
theorem b3E (k : Nat) (hk : k ≤ m) (h : Ent n w0 L0 fr (ow (Enc.frz (Enc.sl e E)) [.slice (if c = k then a else a.map (·.add (k * E.k))) (m - k) (c - k)] (xs.drop k) :: R) G) : Ent n w0 L0 fr (ow (Enc.sl e E) [.slice a m c] xs :: R) G := fun ac w h1 h2 => by
 obtain ⟨L, ⟨L1, LR, rfl, g1, hR⟩, hn, hst⟩ := h2
 obtain ⟨K1, s1, k1⟩ := (Enc.sl e E).ro g1
 obtain ⟨K2, k2, s2⟩ := (show Ro w ((List.range w.heap.size).filter fun b => !L1.contains b) (Enc.sl e E) [.slice a m c] xs from ⟨K1, k1, fun b hb hp => by
  have := (List.mem_filter.1 hp).2
  simp [s1 b hb] at this⟩).frm k hk
 refine h ac w h1 ⟨L1 ++ LR, ⟨L1, LR, rfl, ⟨K2, k2, fun b hb => ?_, (Enc.sl e E).inh g1⟩, hR⟩, hn, hst⟩
 have h3 := s2 b hb
 have h4 := (Enc.sl e E).inh k2 b hb
 rw [List.mem_filter, not_and] at h3
 have h5 := h3 (List.mem_range.2 h4)
 simpa using h5
theorem Ent.flen {a : Option Addr} (hm : ow (Enc.frz (Enc.sl e E)) [.slice a m c] xs ∈ H) (h : m = xs.length → m ≤ 9223372036854775807 → Ent n w0 L0 fr H G) : Ent n w0 L0 fr H G := fun ac w h1 h2 => by
 obtain ⟨L, L1, g1, _⟩ := h2.mem hm
 have hL : Ro w [] (Enc.sl e E) [.slice a m c] xs := ⟨L1, g1, by simp⟩
 exact h hL.slen.1 (by have := hL.slen; omega) ac w h1 h2
theorem b2P {xs : List α} (hm : ow (Enc.bnd (Enc.sl e E) E2) [.slice a m c, v] (xs, y) ∈ H) (h : m = xs.length → m ≤ 9223372036854775807 → Ent n w0 L0 fr H G) : Ent n w0 L0 fr H G := fun ac w h1 h2 => by
 obtain ⟨L, hL⟩ := h2.mem hm
 have hL := (Ro.bnd (L := []) (E1 := Enc.sl e E) ⟨L, hL, by simp⟩ rfl).1
 exact h hL.slen.1 (by have := hL.slen; omega) ac w h1 h2
theorem b2O {ys : List β} {E2 : Enc β} (hk : E1.k = 1) (hm : ow (Enc.bnd E1 (Enc.sl e E2)) [u, .slice a m c] (x, ys) ∈ H) (h : m = ys.length → m ≤ 9223372036854775807 → Ent n w0 L0 fr H G) : Ent n w0 L0 fr H G := fun ac w h1 h2 => by
 obtain ⟨L, hL⟩ := h2.mem hm
 have hL := (Ro.bnd (L := []) ⟨L, hL, by simp⟩ hk).2
 exact h hL.slen.1 (by have := hL.slen; omega) ac w h1 h2
end
section
variable {P : Program} {n : Nat} {w0 : World} {L0 : List Nat} {fr : Fr} {H : List HP} {fn : Func} {κ : Type} {φ : κ → Prop} {ret : κ → Value} {post : κ → List HP} {wb : World} {Lb : List Nat}
theorem a3r (hb : Y5 w0 L0 wb Lb) {e : Exit} {s0 : Nat} {v0 : Value} {s1 : Nat} {v1 : Value} {s2 : Nat} {v2 : Value} {s3 : Nat} {v3 : Value} {s4 : Nat} {v4 : Value} (hres : fn.results = #[.tmp s0, .tmp s1, .tmp s2, .tmp s3, .tmp s4]) (hv0 : fr.lookup s0 = some v0) (hv1 : fr.lookup s1 = some v1) (hv2 : fr.lookup s2 = some v2) (hv3 : fr.lookup s3 = some v3) (hv4 : fr.lookup s4 = some v4) 
  (k : κ) (hk : φ k) (hr : .tuple #[v0, v1, v2, v3, v4] = ret k) {J : List HP} (hH : H.Perm (post k ++ J)) (he : e = .ret ∨ e = .normal) : Ent n w0 L0 fr H (bodyPost P fn (Fin φ ret post wb Lb) e) :=
 a2V hb he k hk hr hH fun a w h1 h2 => by
  have u0 := h1.ev (x := .tmp s0) hv0
  have u1 := h1.ev (x := .tmp s1) hv1
  have u2 := h1.ev (x := .tmp s2) hv2
  have u3 := h1.ev (x := .tmp s3) hv3
  have u4 := h1.ev (x := .tmp s4) hv4
  simp only [Act.eval] at u0 u1 u2 u3 u4
  rw [Array.getD_eq_getD_getElem?] at u0 u1 u2 u3 u4
  simp [results, hres, u0, u1, u2, u3, u4]
theorem b1S (hb : Y5 w0 L0 wb Lb) {e : Exit} {s0 : Nat} {v0 : Value} {s1 : Nat} {v1 : Value} {s2 : Nat} {v2 : Value} {s3 : Nat} {v3 : Value} {s4 : Nat} {v4 : Value} {s5 b5 k5 y5 : Nat} {T5 T5' : TypeId} {z5 cs5 : List Value} (hres : fn.results = #[.tmp s0, .tmp s1, .tmp s2, .tmp s3, .tmp s4, .cell s5 T5]) (hv0 : fr.lookup s0 = some v0) (hv1 : fr.lookup s1 = some v1) (hv2 : fr.lookup s2 = some v2) (hv3 : fr.lookup s3 = some v3) (hv4 : fr.lookup s4 = some v4) (hv5 : fr.lookup s5 = some (.pointer (some ⟨b5, 0, none⟩))) (hm5 : pt b5 T5' cs5 ∈ H) (ht5 : TyOk P T5 true k5 z5 y5) (hl5 : cs5.length = k5)
  (k : κ) (hk : φ k) (hr : .tuple #[v0, v1, v2, v3, v4, .agg cs5.toArray] = ret k) {J : List HP} (hH : H.Perm (post k ++ J)) (he : e = .ret ∨ e = .normal) : Ent n w0 L0 fr H (bodyPost P fn (Fin φ ret post wb Lb) e) :=
 a2V hb he k hk hr hH fun a w h1 h2 => by
  have u0 := h1.ev (x := .tmp s0) hv0
  have u1 := h1.ev (x := .tmp s1) hv1
  have u2 := h1.ev (x := .tmp s2) hv2
  have u3 := h1.ev (x := .tmp s3) hv3
  have u4 := h1.ev (x := .tmp s4) hv4
  have u5 := h1.ev (x := .tmp s5) hv5
  simp only [Act.eval] at u0 u1 u2 u3 u4 u5
  have q5 := ((Has.pt (w0 := w0) (L0 := L0) hm5) w h2).run_load (P := P) (v := .agg cs5.toArray) ht5 hl5 rfl (fun h => by cases h)
  simp only [Instr.loadAt, Instr.sureAddr, Sem.run_bind, Sem.run_pure, Result.andThen_ok] at q5
  rw [Array.getD_eq_getD_getElem?] at u0 u1 u2 u3 u4 u5
  simp [results, hres, u0, u1, u2, u3, u4, u5, asAddr, q5]
theorem a7e (hb : Y5 w0 L0 wb Lb) {e : Exit} {s0 : Nat} {v0 : Value} {s1 : Nat} {v1 : Value} {s2 : Nat} {v2 : Value} {s3 : Nat} {v3 : Value} {s4 : Nat} {v4 : Value} {s5 b5 k5 y5 : Nat} {T5 T5' : TypeId} {z5 cs5 : List Value} {s6 b6 k6 y6 : Nat} {T6 T6' : TypeId} {z6 cs6 : List Value} (hres : fn.results = #[.tmp s0, .tmp s1, .tmp s2, .tmp s3, .tmp s4, .cell s5 T5, .cell s6 T6]) (hv0 : fr.lookup s0 = some v0) (hv1 : fr.lookup s1 = some v1) (hv2 : fr.lookup s2 = some v2) (hv3 : fr.lookup s3 = some v3) (hv4 : fr.lookup s4 = some v4) (hv5 : fr.lookup s5 = some (.pointer (some ⟨b5, 0, none⟩))) (hv6 : fr.lookup s6 = some (.pointer (some ⟨b6, 0, none⟩))) (hm5 : pt b5 T5' cs5 ∈ H) (ht5 : TyOk P T5 true k5 z5 y5) (hl5 : cs5.length = k5) (hm6 : pt b6 T6' cs6 ∈ H) (ht6 : TyOk P T6 true k6 z6 y6) (hl6 : cs6.length = k6)
  (k : κ) (hk : φ k) (hr : .tuple #[v0, v1, v2, v3, v4, .agg cs5.toArray, .agg cs6.toArray] = ret k) {J : List HP} (hH : H.Perm (post k ++ J)) (he : e = .ret ∨ e = .normal) : Ent n w0 L0 fr H (bodyPost P fn (Fin φ ret post wb Lb) e) :=
 a2V hb he k hk hr hH fun a w h1 h2 => by
  have u0 := h1.ev (x := .tmp s0) hv0
  have u1 := h1.ev (x := .tmp s1) hv1
  have u2 := h1.ev (x := .tmp s2) hv2
  have u3 := h1.ev (x := .tmp s3) hv3
  have u4 := h1.ev (x := .tmp s4) hv4
  have u5 := h1.ev (x := .tmp s5) hv5
  have u6 := h1.ev (x := .tmp s6) hv6
  simp only [Act.eval] at u0 u1 u2 u3 u4 u5 u6
  have q5 := ((Has.pt (w0 := w0) (L0 := L0) hm5) w h2).run_load (P := P) (v := .agg cs5.toArray) ht5 hl5 rfl (fun h => by cases h)
  have q6 := ((Has.pt (w0 := w0) (L0 := L0) hm6) w h2).run_load (P := P) (v := .agg cs6.toArray) ht6 hl6 rfl (fun h => by cases h)
  simp only [Instr.loadAt, Instr.sureAddr, Sem.run_bind, Sem.run_pure, Result.andThen_ok] at q5 q6
  rw [Array.getD_eq_getD_getElem?] at u0 u1 u2 u3 u4 u5 u6
  simp [results, hres, u0, u1, u2, u3, u4, u5, u6, asAddr, q5, q6]
end
end Go.Proofs.YthapcdhdfaibkaaGreatDoor
