import Derived.Test.YtfnbilpemdgkkaaGreatDoorGt
import Derived.Test.YtfnbilpemdgkkaaGreatDoorHd
import Derived.Test.YtfnbilpemdgkkaaGreatDoorDy
section
namespace Go.Proofs.YtfnbilpemdgkkaaGreatDoor
section
variable {s v : List Int} {ys l : List (Int × List Int)} {g : Nat} {f : Int × List Int} {r : Int}
theorem U0 (h : B8 s = true) : 1 ≤ s.length ∧ s.length ≤ 3 ∧ ∀ z ∈ s, 1 ≤ z ∧ z ≤ 3 := by
 simp only [B8, inR, Bool.and_eq_true, decide_eq_true_eq, Bool.not_eq_true', List.any_eq_false] at h
 refine ⟨by omega, by omega, fun z hz => ?_⟩
 have := h.2 z hz
 simpa using this
theorem b0J (h : ys.length ≤ g ∧ ∀ f ∈ ys, 1 ≤ f.2.length ∧ f.2.length ≤ 3) (hf : 1 ≤ v.length ∧ v.length ≤ 3) : (s7 ys (r, v)).length ≤ g + 1 ∧ ∀ f ∈ s7 ys (r, v), 1 ≤ f.2.length ∧ f.2.length ≤ 3 := by
 have h1 := a0K (h := w5 ys (r, v)) (p := ltF (r, v)) (f := (r, v)) (l := ys)
 refine ⟨by unfold s7; omega, fun f hm => ?_⟩
 rcases P6 hm with hm | rfl
 ·exact h.2 f hm
 ·exact hf
theorem a1P {l : List (Int × List Int)} (h : l = []) : l.length ≤ 9 ∧ ∀ f ∈ l, 1 ≤ f.2.length ∧ f.2.length ≤ 4 := by subst h; simp
theorem a0X (h : (↑l.length : Int) ≤ 8 ∧ ∀ f ∈ l, 1 ≤ f.2.length ∧ f.2.length ≤ 3) : l.length ≤ 9 ∧ ∀ f ∈ l, 1 ≤ f.2.length ∧ f.2.length ≤ 4 := ⟨by omega, fun f hf => by have := h.2 f hf; omega⟩
theorem a1b (h : (↑l.length : Int) ≤ 8 ∧ ∀ f ∈ l, 1 ≤ f.2.length ∧ f.2.length ≤ 3) (hv : 1 ≤ v.length ∧ v.length ≤ 4) : (l ++ [(r, v)]).length ≤ 9 ∧ ∀ f ∈ l ++ [(r, v)], 1 ≤ f.2.length ∧ f.2.length ≤ 4 := by
 refine ⟨by simp; omega, fun f hf => ?_⟩
 rcases List.mem_append.1 hf with hf | hf
 ·have := h.2 f hf; omega
 ·rw [List.mem_singleton] at hf; subst hf; exact hv
theorem a0Y (hv : 1 ≤ v.length ∧ v.length ≤ 4) : ([] ++ [(r, v)] : List (Int × List Int)).length ≤ 9 ∧ ∀ f ∈ ([] ++ [(r, v)] : List (Int × List Int)), 1 ≤ f.2.length ∧ f.2.length ≤ 4 := by
 refine ⟨by simp, fun f hf => ?_⟩
 have : f = (r, v) := by simpa using hf
 subst this; exact hv
end
def kT (t : Int) : Prop := (0 ≤ t ∧ t ≤ 3) ∨ (10 ≤ t ∧ t ≤ 13)
def dT (t : Int) : Prop := (0 ≤ t ∧ t ≤ 3) ∨ (10 ≤ t ∧ t ≤ 13) ∨ t = -1 ∨ t = 9 ∨ t = 17 ∨ t = 18
def rT (t : Int) : Prop := (0 ≤ t ∧ t ≤ 3) ∨ (10 ≤ t ∧ t ≤ 13) ∨ t = 15
def dA (T : Int → Prop) (a : Int × List Int) : Prop := (1 ≤ a.2.length ∧ a.2.length ≤ 3) ∧ ∀ t ∈ a.2, T t
def dQ (T : Int → Prop) (k n : Nat) (H : List Int) (A : List (Int × List Int)) : Prop := (1 ≤ A.length ∧ A.length ≤ k) ∧ (∀ a ∈ A, dA T a) ∧ H.length ≤ n
section
variable {T T' : Int → Prop} {H tms : List Int} {A ats : List (Int × List Int)} {g h k n k' n' : Nat} {x y rl : Int}
theorem dQ.mono (hq : dQ T k n H A) (hT : ∀ t, T t → T' t) (hk : k ≤ k') (hn : n ≤ n') : dQ T' k' n' H A := ⟨⟨hq.1.1, Nat.le_trans hq.1.2 hk⟩, fun a ha => ⟨(hq.2.1 a ha).1, fun t ht => hT t ((hq.2.1 a ha).2 t ht)⟩, Nat.le_trans hq.2.2 hn⟩
theorem b4d (t : Int) (h : kT t) : dT t := by unfold kT at h; unfold dT; omega
theorem b4A (t : Int) (h : kT t) : rT t := by unfold kT at h; unfold rT; omega
theorem b7j (hq : dQ kT 3 2 H A) : dQ dT 3 3 H A := hq.mono b4d (Nat.le_refl _) (by decide)
theorem b5M (hp : tms.length = h ∧ ∀ t ∈ tms, T t) (hy : T y) : (tms ++ [y]).length = h + 1 ∧ ∀ t ∈ tms ++ [y], T t := by
 refine ⟨by simp [hp.1], fun t ht => ?_⟩
 rcases List.mem_append.1 ht with ht | ht
 ·exact hp.2 t ht
 ·rw [List.mem_singleton] at ht; subst ht; exact hy
theorem b6z (hp : ats.length = g ∧ ∀ a ∈ ats, dA T a) (h1 : 1 ≤ tms.length) (h2 : tms.length ≤ 3) (h3 : ∀ t ∈ tms, T t) : (ats ++ [(rl, tms)]).length = g + 1 ∧ ∀ a ∈ ats ++ [(rl, tms)], dA T a := by
 refine ⟨by simp [hp.1], fun t ht => ?_⟩
 rcases List.mem_append.1 ht with ht | ht
 ·exact hp.2 t ht
 ·rw [List.mem_singleton] at ht; subst ht; exact ⟨⟨h1, h2⟩, h3⟩
theorem b6t (hl : ats.length ≤ 4) (h : ∀ a ∈ ats, dA T a) : a8L (fun x => x.2.length) ats ≤ 1048576 := by
 have h2 := a3n (c := fun x : Int × List Int => x.2.length) (n := 3) (l := ats) fun a ha => (h a ha).1.2
 unfold a8L; omega
theorem b0y (h : ∀ a ∈ ats, dA T a) : (ats.flatMap fun a => a.2).length ≤ 3 * ats.length := by
 induction ats with
 | nil => simp
 | cons a ats ih =>
  have h1 := (h a (by simp)).1.2
  have h2 := ih fun x hx => h x (by simp [hx])
  simp only [List.flatMap_cons, List.length_append, List.length_cons]
  omega
theorem b5b {is : Int → Bool} (hl : ats.length ≤ 3) (h : ∀ a ∈ ats, dA T a) : (y4 is ats).length ≤ 9 := by
 have h1 := b0y h
 have h2 := List.length_filter_le is (ats.flatMap fun a => a.2)
 have h3 := b0F (l := (ats.flatMap fun a => a.2).filter is)
 unfold y4; omega
theorem b6p : dQ dT 3 3 [] [(0, [10])] ∧ ([] : List Int).length ≤ 2 := ⟨⟨by simp, fun a ha => by
 rw [List.mem_singleton] at ha; subst ha
 exact ⟨by simp, fun t ht => by rw [List.mem_singleton] at ht; subst ht; unfold dT; omega⟩, by simp⟩, by simp⟩
theorem b6v (hq : dQ T k n H A ∧ H.length ≤ 2) : dQ T k 3 (H ++ [x]) A := ⟨hq.1.1, hq.1.2.1, by have := hq.2; simp; omega⟩
theorem a9s (hq : dQ T k n H A) {a : Int × List Int} (ha : dA T a) : dQ T k n H (A.set 0 a) := ⟨by rw [List.length_set]; exact hq.1, fun b hb => by
 rcases List.mem_or_eq_of_mem_set hb with hb | hb
 ·exact hq.2.1 b hb
 ·rw [hb]; exact ha, hq.2.2⟩
theorem b6P (hq : dQ T k n H A) {h0 : 0 < A.length} : dQ T k n H (A.set 0 (x, A[0].2)) := a9s hq ⟨(hq.2.1 _ (List.getElem_mem h0)).1, (hq.2.1 _ (List.getElem_mem h0)).2⟩
theorem a7Y (hp : ∀ t ∈ tms, T t) (hx : T x) : ∀ t ∈ tms.set 0 x, T t := fun t ht => by
 rcases List.mem_or_eq_of_mem_set ht with ht | ht
 ·exact hp t ht
 ·rw [ht]; exact hx
theorem b6w (hq : dQ T k n H A) (hx : T x) {h0 : 0 < A.length} : dQ T k n H (A.set 0 (A[0].1, A[0].2.set 0 x)) := a9s hq (by
 have h1 := hq.2.1 _ (List.getElem_mem h0)
 exact ⟨by rw [List.length_set]; exact h1.1, a7Y h1.2 hx⟩)
end
end Go.Proofs.YtfnbilpemdgkkaaGreatDoor
end
section
namespace Go.Proofs.YtfnbilpemdgkkaaGreatDoor
open Go.RowKit
set_option linter.unusedVariables false
section
variable {P : Program} {n : Nat} {w0 : World} {L0 : List Nat} {fr : Fr} {H : List HP} {fn : Func} {κ : Type} {φ : κ → Prop} {ret : κ → Value} {post : κ → List HP} {wb : World} {Lb : List Nat}
theorem a7q (hb : G6 w0 L0 wb Lb) {e : Exit} {s0 : Nat} {v0 : Value} {s1 : Nat} {v1 : Value} {s2 : Nat} {v2 : Value} {s3 b3 k3 y3 : Nat} {T3 T3' : TypeId} {z3 cs3 : List Value} (hres : fn.results = #[.tmp s0, .tmp s1, .tmp s2, .cell s3 T3]) (hv0 : fr.lookup s0 = some v0) (hv1 : fr.lookup s1 = some v1) (hv2 : fr.lookup s2 = some v2) (hv3 : fr.lookup s3 = some (.pointer (some ⟨b3, 0, none⟩))) (hm3 : pt b3 T3' cs3 ∈ H) (ht3 : TyOk P T3 true k3 z3 y3) (hl3 : cs3.length = k3)
  (k : κ) (hk : φ k) (hr : .tuple #[v0, v1, v2, .agg cs3.toArray] = ret k) {J : List HP} (hH : H.Perm (post k ++ J)) (he : e = .ret ∨ e = .normal) : Ent n w0 L0 fr H (bodyPost P fn (Fin φ ret post wb Lb) e) :=
 O7 hb he k hk hr hH fun a w h1 h2 => by
  have u0 := h1.ev (x := .tmp s0) hv0
  have u1 := h1.ev (x := .tmp s1) hv1
  have u2 := h1.ev (x := .tmp s2) hv2
  have u3 := h1.ev (x := .tmp s3) hv3
  simp only [Act.eval] at u0 u1 u2 u3
  have q3 := ((Has.pt (w0 := w0) (L0 := L0) hm3) w h2).run_load (P := P) (v := .agg cs3.toArray) ht3 hl3 rfl (fun h => by cases h)
  simp only [Instr.loadAt, Instr.sureAddr, Sem.run_bind, Sem.run_pure, Result.andThen_ok] at q3
  rw [Array.getD_eq_getD_getElem?] at u0 u1 u2 u3
  simp [results, hres, u0, u1, u2, u3, asAddr, q3]
theorem b6d (hb : G6 w0 L0 wb Lb) {e : Exit} {s0 : Nat} {v0 : Value} {s1 : Nat} {v1 : Value} {s2 b2 k2 y2 : Nat} {T2 T2' : TypeId} {z2 cs2 : List Value} {s3 : Nat} {v3 : Value} {s4 : Nat} {v4 : Value} {s5 : Nat} {v5 : Value} (hres : fn.results = #[.tmp s0, .tmp s1, .cell s2 T2, .tmp s3, .tmp s4, .tmp s5]) (hv0 : fr.lookup s0 = some v0) (hv1 : fr.lookup s1 = some v1) (hv2 : fr.lookup s2 = some (.pointer (some ⟨b2, 0, none⟩))) (hv3 : fr.lookup s3 = some v3) (hv4 : fr.lookup s4 = some v4) (hv5 : fr.lookup s5 = some v5) (hm2 : pt b2 T2' cs2 ∈ H) (ht2 : TyOk P T2 true k2 z2 y2) (hl2 : cs2.length = k2)
  (k : κ) (hk : φ k) (hr : .tuple #[v0, v1, .agg cs2.toArray, v3, v4, v5] = ret k) {J : List HP} (hH : H.Perm (post k ++ J)) (he : e = .ret ∨ e = .normal) : Ent n w0 L0 fr H (bodyPost P fn (Fin φ ret post wb Lb) e) :=
 O7 hb he k hk hr hH fun a w h1 h2 => by
  have u0 := h1.ev (x := .tmp s0) hv0
  have u1 := h1.ev (x := .tmp s1) hv1
  have u2 := h1.ev (x := .tmp s2) hv2
  have u3 := h1.ev (x := .tmp s3) hv3
  have u4 := h1.ev (x := .tmp s4) hv4
  have u5 := h1.ev (x := .tmp s5) hv5
  simp only [Act.eval] at u0 u1 u2 u3 u4 u5
  have q2 := ((Has.pt (w0 := w0) (L0 := L0) hm2) w h2).run_load (P := P) (v := .agg cs2.toArray) ht2 hl2 rfl (fun h => by cases h)
  simp only [Instr.loadAt, Instr.sureAddr, Sem.run_bind, Sem.run_pure, Result.andThen_ok] at q2
  rw [Array.getD_eq_getD_getElem?] at u0 u1 u2 u3 u4 u5
  simp [results, hres, u0, u1, u2, u3, u4, u5, asAddr, q2]
end
end Go.Proofs.YtfnbilpemdgkkaaGreatDoor
end
section
namespace Go.Proofs.YtfnbilpemdgkkaaGreatDoor
set_option linter.unusedVariables false
section
variable {ys rl : List Rul} {m : List Int} {a b : Int} {g : Nat} {s : List Int} {a6 : List Fct} {f : Fct}
theorem b2n (h : ys.length = g ∧ ∀ r ∈ ys, (0 ≤ r.1 ∧ r.1 ≤ 3) ∧ (0 ≤ r.2.1 ∧ r.2.1 ≤ 3) ∧ r.2.2.length ≤ 3) (hm : (0 ≤ a ∧ a ≤ 3) ∧ (0 ≤ b ∧ b ≤ 3) ∧ m.length ≤ 3) : (ys ++ [(a, b, m)]).length = g + 1 ∧ ∀ r ∈ ys ++ [(a, b, m)], (0 ≤ r.1 ∧ r.1 ≤ 3) ∧ (0 ≤ r.2.1 ∧ r.2.1 ≤ 3) ∧ r.2.2.length ≤ 3 := by
 refine ⟨by simp [h.1], fun r hr => ?_⟩
 rcases List.mem_append.1 hr with hr | hr
 ·exact h.2 r hr
 ·rw [List.mem_singleton] at hr; rw [hr]; exact hm
theorem a8p (h : rl.length ≤ 3 ∧ ∀ r ∈ rl, (0 ≤ r.1 ∧ r.1 ≤ 3) ∧ (0 ≤ r.2.1 ∧ r.2.1 ≤ 3) ∧ r.2.2.length ≤ 3) : rl.length ≤ 4 ∧ ∀ r ∈ rl, r.2.2.length ≤ 4 := ⟨Nat.le_trans h.1 (by decide), fun r hr => Nat.le_trans (h.2 r hr).2.2 (by decide)⟩
theorem b3y (h : rl.length ≤ 3 ∧ ∀ r ∈ rl, (0 ≤ r.1 ∧ r.1 ≤ 3) ∧ (0 ≤ r.2.1 ∧ r.2.1 ≤ 3) ∧ r.2.2.length ≤ 3) (hm : m.length ≤ 4) : (rl ++ [(a, b, m)]).length ≤ 4 ∧ ∀ r ∈ rl ++ [(a, b, m)], r.2.2.length ≤ 4 := by
 refine ⟨by simp; omega, fun r hr => ?_⟩
 rcases List.mem_append.1 hr with hr | hr
 ·exact Nat.le_trans (h.2 r hr).2.2 (by decide)
 ·rw [List.mem_singleton] at hr; rw [hr]; exact hm
theorem a8Q {fl : List Fct} (h : (↑fl.length : Int) ≤ 6 ∧ ∀ f ∈ fl, 1 ≤ f.2.length ∧ f.2.length ≤ 3) : fl.length ≤ 9 ∧ ∀ f ∈ fl, 1 ≤ f.2.length ∧ f.2.length ≤ 4 := ⟨by omega, fun f hf => by have := h.2 f hf; omega⟩
theorem a3r (h : f ∈ r9 s rl a6) : (0 ≤ f.1 ∧ f.1 < 4) ∧ f.2.length ≤ 3 := by
 unfold r9 at h
 split at h
 ·rename_i h1
  rw [Bool.and_eq_true] at h1
  have h2 := (a5c h1.1 h1.2).2 f h
  exact ⟨a0h h2, K6 h2⟩
 ·cases h
end
end Go.Proofs.YtfnbilpemdgkkaaGreatDoor
end
