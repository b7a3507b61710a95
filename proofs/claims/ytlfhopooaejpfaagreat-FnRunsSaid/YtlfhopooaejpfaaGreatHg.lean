import Derived.Test.YtlfhopooaejpfaaGreatGt
import Derived.Test.YtlfhopooaejpfaaGreatHa
section
namespace Go.Proofs.YtlfhopooaejpfaaGreat
section
variable {s v : List Int} {ys l : List (Int × List Int)} {g : Nat} {f : Int × List Int} {r : Int}
theorem a0V (h : M7 s = true) : 1 ≤ s.length ∧ s.length ≤ 3 ∧ ∀ z ∈ s, 1 ≤ z ∧ z ≤ 3 := by
 simp only [M7, inR, Bool.and_eq_true, decide_eq_true_eq, Bool.not_eq_true', List.any_eq_false] at h
 refine ⟨by omega, by omega, fun z hz => ?_⟩
 have := h.2 z hz
 simpa using this
theorem b3X (h : ys.length ≤ g ∧ ∀ f ∈ ys, 1 ≤ f.2.length ∧ f.2.length ≤ 3) (hf : 1 ≤ v.length ∧ v.length ≤ 3) : (D1 ys (r, v)).length ≤ g + 1 ∧ ∀ f ∈ D1 ys (r, v), 1 ≤ f.2.length ∧ f.2.length ≤ 3 := by
 have h1 := a2E (h := I2 ys (r, v)) (p := ltF (r, v)) (f := (r, v)) (l := ys)
 refine ⟨by unfold D1; omega, fun f hm => ?_⟩
 rcases a2t hm with hm | rfl
 ·exact h.2 f hm
 ·exact hf
theorem a4b {l : List (Int × List Int)} (h : l = []) : l.length ≤ 9 ∧ ∀ f ∈ l, 1 ≤ f.2.length ∧ f.2.length ≤ 4 := by subst h; simp
theorem a0J (h : (↑l.length : Int) ≤ 8 ∧ ∀ f ∈ l, 1 ≤ f.2.length ∧ f.2.length ≤ 3) : l.length ≤ 9 ∧ ∀ f ∈ l, 1 ≤ f.2.length ∧ f.2.length ≤ 4 := ⟨by omega, fun f hf => by have := h.2 f hf; omega⟩
theorem a2X (h : (↑l.length : Int) ≤ 8 ∧ ∀ f ∈ l, 1 ≤ f.2.length ∧ f.2.length ≤ 3) (hv : 1 ≤ v.length ∧ v.length ≤ 4) : (l ++ [(r, v)]).length ≤ 9 ∧ ∀ f ∈ l ++ [(r, v)], 1 ≤ f.2.length ∧ f.2.length ≤ 4 := by
 refine ⟨by simp; omega, fun f hf => ?_⟩
 rcases List.mem_append.1 hf with hf | hf
 ·have := h.2 f hf; omega
 ·rw [List.mem_singleton] at hf; subst hf; exact hv
theorem a2N (hv : 1 ≤ v.length ∧ v.length ≤ 4) : ([] ++ [(r, v)] : List (Int × List Int)).length ≤ 9 ∧ ∀ f ∈ ([] ++ [(r, v)] : List (Int × List Int)), 1 ≤ f.2.length ∧ f.2.length ≤ 4 := by
 refine ⟨by simp, fun f hf => ?_⟩
 have : f = (r, v) := by simpa using hf
 subst this; exact hv
end
def kT (t : Int) : Prop := (0 ≤ t ∧ t ≤ 3) ∨ (10 ≤ t ∧ t ≤ 13)
def dT (t : Int) : Prop := (0 ≤ t ∧ t ≤ 3) ∨ (10 ≤ t ∧ t ≤ 13) ∨ t = -1 ∨ t = 9 ∨ t = 17 ∨ t = 18
def rT (t : Int) : Prop := (0 ≤ t ∧ t ≤ 3) ∨ (10 ≤ t ∧ t ≤ 13) ∨ t = 15
def dA (T : Int → Prop) (a : Int × List Int) : Prop := (1 ≤ a.2.length ∧ a.2.length ≤ 3) ∧ ∀ t ∈ a.2, T t
def dQ (T : Int → Prop) (k n : Nat) (H : List Int) (A : List (Int × List Int)) : Prop := (1 ≤ A.length ∧ A.length ≤ k) ∧ (∀ a ∈ A, dA T a) ∧ H.length ≤ n
section
variable {T T' : Int → Prop} {H tms : List Int} {A ats : List (Int × List Int)} {g h k n k' n' : Nat} {x y rl : Int}
theorem dQ.mono (hq : dQ T k n H A) (hT : ∀ t, T t → T' t) (hk : k ≤ k') (hn : n ≤ n') : dQ T' k' n' H A := ⟨⟨hq.1.1, Nat.le_trans hq.1.2 hk⟩, fun a ha => ⟨(hq.2.1 a ha).1, fun t ht => hT t ((hq.2.1 a ha).2 t ht)⟩, Nat.le_trans hq.2.2 hn⟩
theorem b6Y (t : Int) (h : kT t) : dT t := by unfold kT at h; unfold dT; omega
theorem b7f (t : Int) (h : kT t) : rT t := by unfold kT at h; unfold rT; omega
theorem dQ.up (hq : dQ kT 3 2 H A) : dQ dT 3 3 H A := hq.mono b6Y (Nat.le_refl _) (by decide)
theorem b0i (hp : tms.length = h ∧ ∀ t ∈ tms, T t) (hy : T y) : (tms ++ [y]).length = h + 1 ∧ ∀ t ∈ tms ++ [y], T t := by
 refine ⟨by simp [hp.1], fun t ht => ?_⟩
 rcases List.mem_append.1 ht with ht | ht
 ·exact hp.2 t ht
 ·rw [List.mem_singleton] at ht; subst ht; exact hy
theorem b5l (hp : ats.length = g ∧ ∀ a ∈ ats, dA T a) (h1 : 1 ≤ tms.length) (h2 : tms.length ≤ 3) (h3 : ∀ t ∈ tms, T t) : (ats ++ [(rl, tms)]).length = g + 1 ∧ ∀ a ∈ ats ++ [(rl, tms)], dA T a := by
 refine ⟨by simp [hp.1], fun t ht => ?_⟩
 rcases List.mem_append.1 ht with ht | ht
 ·exact hp.2 t ht
 ·rw [List.mem_singleton] at ht; subst ht; exact ⟨⟨h1, h2⟩, h3⟩
theorem b5o (hl : ats.length ≤ 4) (h : ∀ a ∈ ats, dA T a) : O5 (fun x => x.2.length) ats ≤ 1048576 := by
 have h2 := a5Z (c := fun x : Int × List Int => x.2.length) (n := 3) (l := ats) fun a ha => (h a ha).1.2
 unfold O5; omega
theorem b3Z (h : ∀ a ∈ ats, dA T a) : (ats.flatMap fun a => a.2).length ≤ 3 * ats.length := by
 induction ats with
 | nil => simp
 | cons a ats ih =>
  have h1 := (h a (by simp)).1.2
  have h2 := ih fun x hx => h x (by simp [hx])
  simp only [List.flatMap_cons, List.length_append, List.length_cons]
  omega
theorem b2W {is : Int → Bool} (hl : ats.length ≤ 3) (h : ∀ a ∈ ats, dA T a) : (B7 is ats).length ≤ 9 := by
 have h1 := b3Z h
 have h2 := List.length_filter_le is (ats.flatMap fun a => a.2)
 have h3 := a9U (l := (ats.flatMap fun a => a.2).filter is)
 unfold B7; omega
theorem b5q : dQ dT 3 3 [] [(0, [10])] ∧ ([] : List Int).length ≤ 2 := ⟨⟨by simp, fun a ha => by
 rw [List.mem_singleton] at ha; subst ha
 exact ⟨by simp, fun t ht => by rw [List.mem_singleton] at ht; subst ht; unfold dT; omega⟩, by simp⟩, by simp⟩
theorem b1p (hq : dQ T k n H A ∧ H.length ≤ 2) : dQ T k 3 (H ++ [x]) A := ⟨hq.1.1, hq.1.2.1, by have := hq.2; simp; omega⟩
theorem b3f (hq : dQ T k n H A) {a : Int × List Int} (ha : dA T a) : dQ T k n H (A.set 0 a) := ⟨by rw [List.length_set]; exact hq.1, fun b hb => by
 rcases List.mem_or_eq_of_mem_set hb with hb | hb
 ·exact hq.2.1 b hb
 ·rw [hb]; exact ha, hq.2.2⟩
theorem b2V (hq : dQ T k n H A) {h0 : 0 < A.length} : dQ T k n H (A.set 0 (x, A[0].2)) := b3f hq ⟨(hq.2.1 _ (List.getElem_mem h0)).1, (hq.2.1 _ (List.getElem_mem h0)).2⟩
theorem b1g (hp : ∀ t ∈ tms, T t) (hx : T x) : ∀ t ∈ tms.set 0 x, T t := fun t ht => by
 rcases List.mem_or_eq_of_mem_set ht with ht | ht
 ·exact hp t ht
 ·rw [ht]; exact hx
theorem b1I (hq : dQ T k n H A) (hx : T x) {h0 : 0 < A.length} : dQ T k n H (A.set 0 (A[0].1, A[0].2.set 0 x)) := b3f hq (by
 have h1 := hq.2.1 _ (List.getElem_mem h0)
 exact ⟨by rw [List.length_set]; exact h1.1, b1g h1.2 hx⟩)
end
end Go.Proofs.YtlfhopooaejpfaaGreat
end
section
namespace Go.Proofs.YtlfhopooaejpfaaGreat
set_option linter.unusedVariables false
def sQ (H : List Int) (A : List (Int × List Int)) : Prop := A.length ≤ 4 ∧ (∀ a ∈ A, a.2.length ≤ 3) ∧ H.length ≤ 3
section
variable {T : Int → Prop} {H G tms : List Int} {A B : List (Int × List Int)} {k n : Nat} {i : Int} {s : List Int} {a : Int × List Int}
theorem dQ.small (h : dQ T 3 3 H A) : sQ H A := ⟨by have := h.1.2; omega, fun a ha => (h.2.1 a ha).1.2, h.2.2⟩
theorem b7U (h : dQ T 4 2 H A) : sQ H A := ⟨h.1.2, fun a ha => (h.2.1 a ha).1.2, by have := h.2.2; omega⟩
theorem b9n (h : dQ kT 3 2 H A) (g : dQ kT 3 2 G B) {h0 : 0 < B.length} : sQ H (A ++ [B[0]]) := ⟨by have := h.1.2; simp; omega, fun a ha => by
 rcases List.mem_append.1 ha with ha | ha
 ·exact (h.2.1 a ha).1.2
 ·rw [List.mem_singleton] at ha; subst ha; exact (g.2.1 _ (List.getElem_mem h0)).1.2, by have := h.2.2; omega⟩
theorem b8S (h : dQ kT 3 2 H A) : sQ H (N7 A i) := ⟨by have := a8n (l := A) (i := i); have := h.1.2; omega, fun a ha => (h.2.1 a (a8r ha)).1.2, by have := h.2.2; omega⟩
theorem b8M (h : sQ H A) : sQ [] A := ⟨h.1, h.2.1, by simp⟩
theorem b0c (h : sQ H A) : O5 (fun x => x.2.length) A ≤ 1048576 := by
 have h2 := a5Z (c := fun x : Int × List Int => x.2.length) (n := 3) (l := A) h.2.1
 have := h.1
 unfold O5; omega
theorem a1Q {is : Int → Bool} : (B7 is A).Nodup := by
 have h1 : (B7 is A).Pairwise (· < ·) := (a1Y List.Pairwise.nil).1
 exact List.Pairwise.imp (fun {a b} h e => by omega) h1
theorem a5q {is : Int → Bool} (h : ∀ a ∈ A, dA T a) {t : Int} (ht : t ∈ B7 is A) : T t ∧ is t = true := by
 obtain ⟨h1, h2⟩ := a1f.1 ht
 obtain ⟨a, ha, hta⟩ := List.mem_flatMap.1 h1
 exact ⟨(h a ha).2 t hta, h2⟩
theorem b9k (h : ∀ a ∈ A, dA dT a) (hq : z8 s (H, A) = true) : a2e A := by
 have h1 := a2r (a1Q (is := fun t => inR t 0 9) (A := A)) (m := [0, 1, 2, 3, 9]) fun t ht => by
  obtain ⟨h1, h2⟩ := a5q h ht
  simp only [inR, decide_eq_true_eq] at h2
  unfold dT at h1
  simp only [List.mem_cons, List.not_mem_nil, or_false]; omega
 have h2 := a2r (a1Q (is := fun t => inR t 10 17) (A := A)) (m := [10, 11, 12, 13, 17]) fun t ht => by
  obtain ⟨h1, h2⟩ := a5q h ht
  simp only [inR, decide_eq_true_eq] at h2
  unfold dT at h1
  simp only [List.mem_cons, List.not_mem_nil, or_false]; omega
 unfold a2e J6
 simp only [List.length_cons, List.length_nil] at h1 h2
 omega
theorem b9f (h : ∀ a ∈ A, dA rT a) : a2e A := by
 have h1 := a2r (a1Q (is := fun t => inR t 0 9) (A := A)) (m := [0, 1, 2, 3]) fun t ht => by
  obtain ⟨h1, h2⟩ := a5q h ht
  simp only [inR, decide_eq_true_eq] at h2
  unfold rT at h1
  simp only [List.mem_cons, List.not_mem_nil, or_false]; omega
 have h2 := a2r (a1Q (is := fun t => inR t 10 17) (A := A)) (m := [10, 11, 12, 13, 15]) fun t ht => by
  obtain ⟨h1, h2⟩ := a5q h ht
  simp only [inR, decide_eq_true_eq] at h2
  unfold rT at h1
  simp only [List.mem_cons, List.not_mem_nil, or_false]; omega
 unfold a2e J6
 simp only [List.length_cons, List.length_nil] at h1 h2
 omega
theorem b8k (h : dQ kT 3 2 H A) {h0 : 0 < A.length} {r : Int} : dQ rT 4 2 H (A ++ [(r, A[0].2.set 0 15)]) := by
 have h1 := h.mono b7f (Nat.le_refl _) (Nat.le_refl _)
 have h2 := h1.2.1 _ (List.getElem_mem h0)
 refine ⟨by have := h.1; simp; omega, fun a ha => ?_, h.2.2⟩
 rcases List.mem_append.1 ha with ha | ha
 ·exact h1.2.1 a ha
 ·rw [List.mem_singleton] at ha; subst ha
  exact ⟨by rw [List.length_set]; exact h2.1, b1g h2.2 (by unfold rT; omega)⟩
theorem b6S {d4 : List (Int × List Int)} {v : List Int} (h : sQ H A) (hf : d4.length ≤ 24) : (b1R (J8 A d4) H v).1.length ≤ 1000 ∧ (b1R (J8 A d4) H v).2.length ≤ 1000 := by
 have h1 := (b0d hf h.1 h.2.1).2
 unfold b1R
 cases e : (J8 A d4).find? (a9l H v) with
 | none => simp
 | some b =>
  have := h1 b (List.mem_of_find?_eq_some e)
  exact ⟨by simp only [Option.getD_some]; omega, by simp only [Option.getD_some]; omega⟩
end
end Go.Proofs.YtlfhopooaejpfaaGreat
end
section
namespace Go.Proofs.YtlfhopooaejpfaaGreat
set_option linter.unusedVariables false
section
variable {s H : List Int} {A F : List (Int × List Int)} {p q : Qry}
theorem b0Z {a b : List (List Int)} (h : ∀ t ∈ a, t ∈ b) : (a.all fun x => b.any fun y => decide (x = y)) = true := by
 rw [List.all_eq_true]
 intro x hx
 rw [List.any_eq_true]
 exact ⟨x, h x hx, by simp⟩
theorem b9o (hc : a0d s p q = true) (hF : E0 s F = true) : ((V9 s p F).all fun x => (V9 s q F).any fun y => decide (x = y)) = true :=
 b0Z (b5i (a3v hc).1 (a3v hc).2.1 (a3v hc).2.2 hF)
theorem b8L {u : List Int} (hf : fzB u A = true) : b4H (H, A) (fzF u A) (H.map (B1 (fzV u A, fzX u A))) (fzV u A, fzX u A) = true := by
 have hF : fzF u A = a4V A (J6 A, a2b u (J6 A).length) := by rw [fzF, hf]; rfl
 have hV : fzV u A = J6 A := by rw [fzV, hf]; rfl
 have hX : fzX u A = a2b u (J6 A).length := by rw [fzX, hf]; rfl
 rw [hF, hV, hX]
 simp only [b4H, Bool.and_eq_true, decide_eq_true_eq, Bool.not_eq_true', List.any_eq_false]
 refine ⟨by rw [a9z], trivial, fun a ha => ?_⟩
 have : I2 (a4V A (J6 A, a2b u (J6 A).length)) (X5 a (J6 A, a2b u (J6 A).length)) = true := a1C.2 (a7F.2 ⟨a, ha, rfl⟩)
 simp [this]
theorem b7j {i : Int} (hr : ∀ u, z8 u (H, A) = true → a2e A) (hq : z8 s (H, A) = true) (h0 : 0 ≤ i) (hi : i.toNat < (U4 s H A).length) (ho : z8 s (H, N7 (U4 s H A) i) = true) : a0d s (H, N7 (U4 s H A) i) (H, U4 s H A) = false := by
 obtain ⟨n, rfl⟩ := Int.eq_ofNat_of_zero_le h0
 exact (a5X (hr _ hq) hq).2.2 n (by simpa using hi) ho
theorem b7K (hr : ∀ u, z8 u (H, A) = true → a2e A) (hq : z8 s (H, A) = true) : (a0d s (H, U4 s H A) (H, A) && a0d s (H, A) (H, U4 s H A)) = true := by
 rw [(a5X (hr _ hq) hq).1, (a5X (hr _ hq) hq).2.1]; rfl
theorem b8R {i : Int} (h : sQ H A) : O5 (fun x => x.2.length) (U4 s H A) ≤ 1048576 ∧ O5 (fun x => x.2.length) (N7 (U4 s H A) i) ≤ 1048576 := by
 have h1 := b0c h
 have h2 : O5 (fun x => x.2.length) (U4 s H A) ≤ O5 (fun x => x.2.length) A := by
  unfold U4
  split
  ·exact a8e.1
  ·exact Nat.le_refl _
 have h3 : O5 (fun x => x.2.length) (N7 (U4 s H A) i) ≤ O5 (fun x => x.2.length) (U4 s H A) := a6Q
 omega
end
end Go.Proofs.YtlfhopooaejpfaaGreat
end
