import Derived.Test.YtfnbilpemdgkkaaGreatDoorGt
namespace Go.Proofs.YtfnbilpemdgkkaaGreatDoor
section
variable {s v : List Int} {ys l : List (Int × List Int)} {g : Nat} {f : Int × List Int} {r : Int}
theorem Y3 (h : E5 s = true) : 1 ≤ s.length ∧ s.length ≤ 3 ∧ ∀ z ∈ s, 1 ≤ z ∧ z ≤ 3 := by
 simp only [E5, inR, Bool.and_eq_true, decide_eq_true_eq, Bool.not_eq_true', List.any_eq_false] at h
 refine ⟨by omega, by omega, fun z hz => ?_⟩
 have := h.2 z hz
 simpa using this
theorem a7Z (h : ys.length ≤ g ∧ ∀ f ∈ ys, 1 ≤ f.2.length ∧ f.2.length ≤ 3) (hf : 1 ≤ v.length ∧ v.length ≤ 3) : (C8 ys (r, v)).length ≤ g + 1 ∧ ∀ f ∈ C8 ys (r, v), 1 ≤ f.2.length ∧ f.2.length ≤ 3 := by
 have h1 := Y5 (h := D0 ys (r, v)) (p := ltF (r, v)) (f := (r, v)) (l := ys)
 refine ⟨by unfold C8; omega, fun f hm => ?_⟩
 rcases V4 hm with hm | rfl
 ·exact h.2 f hm
 ·exact hf
theorem a0N {l : List (Int × List Int)} (h : l = []) : l.length ≤ 9 ∧ ∀ f ∈ l, 1 ≤ f.2.length ∧ f.2.length ≤ 4 := by subst h; simp
theorem Q3 (h : (↑l.length : Int) ≤ 8 ∧ ∀ f ∈ l, 1 ≤ f.2.length ∧ f.2.length ≤ 3) : l.length ≤ 9 ∧ ∀ f ∈ l, 1 ≤ f.2.length ∧ f.2.length ≤ 4 := ⟨by omega, fun f hf => by have := h.2 f hf; omega⟩
theorem a0g (h : (↑l.length : Int) ≤ 8 ∧ ∀ f ∈ l, 1 ≤ f.2.length ∧ f.2.length ≤ 3) (hv : 1 ≤ v.length ∧ v.length ≤ 4) : (l ++ [(r, v)]).length ≤ 9 ∧ ∀ f ∈ l ++ [(r, v)], 1 ≤ f.2.length ∧ f.2.length ≤ 4 := by
 refine ⟨by simp; omega, fun f hf => ?_⟩
 rcases List.mem_append.1 hf with hf | hf
 ·have := h.2 f hf; omega
 ·rw [List.mem_singleton] at hf; subst hf; exact hv
theorem a0m (hv : 1 ≤ v.length ∧ v.length ≤ 4) : ([] ++ [(r, v)] : List (Int × List Int)).length ≤ 9 ∧ ∀ f ∈ ([] ++ [(r, v)] : List (Int × List Int)), 1 ≤ f.2.length ∧ f.2.length ≤ 4 := by
 refine ⟨by simp, fun f hf => ?_⟩
 have : f = (r, v) := by simpa using hf
 subst this; exact hv
end
def kT (t : Int) : Prop := (0 ≤ t ∧ t ≤ 3) ∨ (10 ≤ t ∧ t ≤ 13)
def dT (t : Int) : Prop := (0 ≤ t ∧ t ≤ 3) ∨ (10 ≤ t ∧ t ≤ 13) ∨ t = -1 ∨ t = 9 ∨ t = 17 ∨ t = 18
def rT (t : Int) : Prop := (0 ≤ t ∧ t ≤ 3) ∨ (10 ≤ t ∧ t ≤ 13) ∨ t = 15
def dA (T : Int → Prop) (a : Int × List Int) : Prop := (1 ≤ a.2.length ∧ a.2.length ≤ 3) ∧ ∀ t ∈ a.2, T t
def dQ (T : Int → Prop) (k n : Nat) (H : List Int) (A : List (Int × List Int)) : Prop := (1 ≤ A.length ∧ A.length ≤ k) ∧ (∀ a ∈ A, dA T a) ∧ H.length ≤ n
section
variable {T T' : Int → Prop} {H tms : List Int} {A ats : List (Int × List Int)} {g h k n k' n' : Nat} {x y rl : Int}
theorem dQ.mono (hq : dQ T k n H A) (hT : ∀ t, T t → T' t) (hk : k ≤ k') (hn : n ≤ n') : dQ T' k' n' H A := ⟨⟨hq.1.1, Nat.le_trans hq.1.2 hk⟩, fun a ha => ⟨(hq.2.1 a ha).1, fun t ht => hT t ((hq.2.1 a ha).2 t ht)⟩, Nat.le_trans hq.2.2 hn⟩
theorem b0I (t : Int) (h : kT t) : dT t := by unfold kT at h; unfold dT; omega
theorem b0D (t : Int) (h : kT t) : rT t := by unfold kT at h; unfold rT; omega
theorem dQ.up (hq : dQ kT 3 2 H A) : dQ dT 3 3 H A := hq.mono b0I (Nat.le_refl _) (by decide)
theorem a5o (hp : tms.length = h ∧ ∀ t ∈ tms, T t) (hy : T y) : (tms ++ [y]).length = h + 1 ∧ ∀ t ∈ tms ++ [y], T t := by
 refine ⟨by simp [hp.1], fun t ht => ?_⟩
 rcases List.mem_append.1 ht with ht | ht
 ·exact hp.2 t ht
 ·rw [List.mem_singleton] at ht; subst ht; exact hy
theorem a8U (hp : ats.length = g ∧ ∀ a ∈ ats, dA T a) (h1 : 1 ≤ tms.length) (h2 : tms.length ≤ 3) (h3 : ∀ t ∈ tms, T t) : (ats ++ [(rl, tms)]).length = g + 1 ∧ ∀ a ∈ ats ++ [(rl, tms)], dA T a := by
 refine ⟨by simp [hp.1], fun t ht => ?_⟩
 rcases List.mem_append.1 ht with ht | ht
 ·exact hp.2 t ht
 ·rw [List.mem_singleton] at ht; subst ht; exact ⟨⟨h1, h2⟩, h3⟩
theorem a8V (hl : ats.length ≤ 4) (h : ∀ a ∈ ats, dA T a) : I3 (fun x => x.2.length) ats ≤ 1048576 := by
 have h2 := a2b (c := fun x : Int × List Int => x.2.length) (n := 3) (l := ats) fun a ha => (h a ha).1.2
 unfold I3; omega
theorem a7R (h : ∀ a ∈ ats, dA T a) : (ats.flatMap fun a => a.2).length ≤ 3 * ats.length := by
 induction ats with
 | nil => simp
 | cons a ats ih =>
  have h1 := (h a (by simp)).1.2
  have h2 := ih fun x hx => h x (by simp [hx])
  simp only [List.flatMap_cons, List.length_append, List.length_cons]
  omega
theorem a6R {is : Int → Bool} (hl : ats.length ≤ 3) (h : ∀ a ∈ ats, dA T a) : (u6 is ats).length ≤ 9 := by
 have h1 := a7R h
 have h2 := List.length_filter_le is (ats.flatMap fun a => a.2)
 have h3 := a4H (l := (ats.flatMap fun a => a.2).filter is)
 unfold u6; omega
theorem a9c : dQ dT 3 3 [] [(0, [10])] ∧ ([] : List Int).length ≤ 2 := ⟨⟨by simp, fun a ha => by
 rw [List.mem_singleton] at ha; subst ha
 exact ⟨by simp, fun t ht => by rw [List.mem_singleton] at ht; subst ht; unfold dT; omega⟩, by simp⟩, by simp⟩
theorem a5R (hq : dQ T k n H A ∧ H.length ≤ 2) : dQ T k 3 (H ++ [x]) A := ⟨hq.1.1, hq.1.2.1, by have := hq.2; simp; omega⟩
theorem a7c (hq : dQ T k n H A) {a : Int × List Int} (ha : dA T a) : dQ T k n H (A.set 0 a) := ⟨by rw [List.length_set]; exact hq.1, fun b hb => by
 rcases List.mem_or_eq_of_mem_set hb with hb | hb
 ·exact hq.2.1 b hb
 ·rw [hb]; exact ha, hq.2.2⟩
theorem a6Q (hq : dQ T k n H A) {h0 : 0 < A.length} : dQ T k n H (A.set 0 (x, A[0].2)) := a7c hq ⟨(hq.2.1 _ (List.getElem_mem h0)).1, (hq.2.1 _ (List.getElem_mem h0)).2⟩
theorem a5I (hp : ∀ t ∈ tms, T t) (hx : T x) : ∀ t ∈ tms.set 0 x, T t := fun t ht => by
 rcases List.mem_or_eq_of_mem_set ht with ht | ht
 ·exact hp t ht
 ·rw [ht]; exact hx
theorem a5C (hq : dQ T k n H A) (hx : T x) {h0 : 0 < A.length} : dQ T k n H (A.set 0 (A[0].1, A[0].2.set 0 x)) := a7c hq (by
 have h1 := hq.2.1 _ (List.getElem_mem h0)
 exact ⟨by rw [List.length_set]; exact h1.1, a5I h1.2 hx⟩)
end
end Go.Proofs.YtfnbilpemdgkkaaGreatDoor
