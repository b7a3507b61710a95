import Derived.Test.YtlfhopooaejpfaaGreatBd
section
namespace Go.Proofs.YtlfhopooaejpfaaGreat
set_option linter.unusedVariables false
set_option linter.unusedSimpArgs false
def c2e (s : List Int) (c6 : List (Int × List Int)) (out : List (List Int)) (q : List Int × List (Int × List Int)) : List (List Int) := (a3c s q c6).foldl a6m out
def c4b (s : List Int) (u : List (List Int × List (Int × List Int))) (c6 : List (Int × List Int)) : List (List Int) := if b0B s u then u.foldl (c2e s c6) [] else []
theorem b2K {i7 : List (Int × List Int)} : (f0 (fun t => inR t 10 17) i7).length ≤ 8 := by
 have h1 : (f0 (fun t => inR t 10 17) i7).Pairwise (· < ·) := (a1r List.Pairwise.nil).1
 have h2 : ((f0 (fun t => inR t 10 17) i7).map fun x => (x - 10).toNat).Nodup := by
  unfold List.Nodup
  rw [List.pairwise_map]
  refine List.Pairwise.imp_of_mem (fun {a b} ha hb hab e => ?_) h1
  have ra := a8f a ha
  have rb := a8f b hb
  omega
 have h3 := a2K (n := 8) h2 fun x hx => by
  obtain ⟨y, hy, rfl⟩ := List.mem_map.1 hx
  have := a8f y hy
  omega
 simpa using h3
theorem b7t {u : List Int} {n : Nat} (h : ∀ i, i < n → J9 u (fzN u i) ≤ 9) : ∀ x ∈ F9 u n, I64 x := by
 intro x hx
 simp only [F9, List.mem_map, List.mem_range] at hx
 obtain ⟨i, hi, rfl⟩ := hx
 have := h i hi
 unfold I64; constructor <;> omega
end Go.Proofs.YtlfhopooaejpfaaGreat
end
section
namespace Go.Proofs.YtlfhopooaejpfaaGreat
set_option linter.unusedVariables false
set_option linter.unusedSimpArgs false
def a3e (v : List Int) (p : Int × Int) : Bool := decide (at0 v p.1 = p.2)
def C7 (m : Int × List Int × Int × Int × Int) (v : List Int) (f : Int × List Int) : Bool := decide (f.1 = m.1) && (m.2.1.zip v).all (a3e f.2)
theorem a1q {a b : List Int} {p : Int × Int → Bool} {g : Nat} (h : g < a.length) (h2 : g < b.length) : ((a.zip b).drop g).all p = (p (a[g], b[g]) && ((a.zip b).drop (g + 1)).all p) := by
 rw [List.drop_eq_getElem_cons (by simp; omega)]
 simp
theorem a3G {a b : List Int} {p : Int × Int → Bool} {g : Nat} (h : a.length ≤ g) : ((a.zip b).drop g).all p = true := by
 rw [List.drop_eq_nil_of_le (by simp; omega)]; rfl
theorem b6J {α : Type} {s : List α} {p : α → Bool} : s.filter (fun x => !!p x) = s.filter p := by
 congr 1; funext x; cases p x <;> rfl
theorem b3W {s : List Int} {m : Int × List Int × Int × Int × Int} {f : Int × List Int} (h1 : U3 s m = true) (h2 : H8 s f = true) (e : f.1 = m.1) : ∀ i ∈ m.2.1, 0 ≤ i ∧ i < f.2.length := by
 simp only [U3, a0Q, H8, S5, Bool.and_eq_true, decide_eq_true_eq, Bool.not_eq_true', List.any_eq_false] at h1 h2
 intro i hi
 have h3 := h1.2.2.1 i hi
 have h4 := h2.2.1
 rw [e] at h4
 simp only [inR, Bool.not_eq_true, Bool.and_eq_false_imp, Bool.and_eq_true, decide_eq_true_eq, decide_eq_false_iff_not] at h3
 omega
end Go.Proofs.YtlfhopooaejpfaaGreat
end
section
namespace Go.Proofs.YtlfhopooaejpfaaGreat
set_option linter.unusedVariables false
set_option linter.unusedSimpArgs false
def Q5 (h head : List Int) (b : List Int × List Int) : Bool := decide (h.map (C1 b) = head)
def L9 (l : List (List Int × List Int)) (h head : List Int) : List Int × List Int := (l.find? (Q5 h head)).getD ([], [])
theorem S1 {l : List (List Int × List Int)} {h head : List Int} {g : Nat} (hg : g < l.length) : L9 (l.drop g) h head = if Q5 h head l[g] then l[g] else L9 (l.drop (g + 1)) h head := by
 rw [List.drop_eq_getElem_cons hg]
 unfold L9
 rw [List.find?_cons]
 cases Q5 h head l[g] <;> simp
theorem U6 {l : List (List Int × List Int)} {h head : List Int} {g : Nat} (hg : l.length ≤ g) : L9 (l.drop g) h head = ([], []) := by
 rw [List.drop_eq_nil_of_le hg]; rfl
theorem a3i {i7 : List (Int × List Int)} : (f0 (fun t => inR t 0 9) i7).length ≤ 10 := by
 have h1 : (f0 (fun t => inR t 0 9) i7).Pairwise (· < ·) := (a1r List.Pairwise.nil).1
 have h2 : ((f0 (fun t => inR t 0 9) i7).map fun x => x.toNat).Nodup := by
  unfold List.Nodup
  rw [List.pairwise_map]
  refine List.Pairwise.imp_of_mem (fun {a b} ha hb hab e => ?_) h1
  have ra := a4u a ha
  have rb := a4u b hb
  omega
 have h3 := a2K (n := 10) h2 fun x hx => by
  obtain ⟨y, hy, rfl⟩ := List.mem_map.1 hx
  have := a4u y hy
  omega
 simpa using h3
def xF (p q : List (Int × List Int)) : List (Int × List Int) := p ++ (f0 (fun t => inR t 0 9) q).map fun c => ((3 : Int), [c])
theorem a1X {is : Int → Bool} {l : List (Int × List Int)} {x : Int} : x ∈ f0 is l ↔ x ∈ l.flatMap (fun a => a.2) ∧ is x = true := by
 unfold f0
 rw [a2Q, List.mem_filter]
def b3v (p q : List Int × List (Int × List Int)) : Bool :=
 decide (p.1.length = q.1.length) && (fzB [f0 (fun t => inR t 0 9) p.2, f0 (fun t => inR t 0 9) q.2].flatten p.2 &&
  (z8 q.2 (fzF [f0 (fun t => inR t 0 9) p.2, f0 (fun t => inR t 0 9) q.2].flatten p.2)).any (Q5 q.1 (p.1.map (C1 (fzV [f0 (fun t => inR t 0 9) p.2, f0 (fun t => inR t 0 9) q.2].flatten p.2, fzX [f0 (fun t => inR t 0 9) p.2, f0 (fun t => inR t 0 9) q.2].flatten p.2)))))
def a1l (s : List Int) (p q : List Int × List (Int × List Int)) : Bool := C8 s p && (C8 s q && b3v p q)
def a0Z (l : List (List Int)) : Nat := (l.map List.length).sum
theorem a2a {l : List (List Int)} {x : List Int} : a0Z (l ++ [x]) = a0Z l + x.length := by simp [a0Z, List.sum_append]
theorem a4D : a0Z [] = 0 := rfl
theorem a5y {l : List (List Int)} {g : Nat} : a0Z (l.take g) ≤ a0Z l := by
 have : a0Z l = a0Z (l.take g) + a0Z (l.drop g) := by
  rw [a0Z, a0Z, a0Z, ← List.sum_append, ← List.map_append, List.take_append_drop]
 omega
theorem b3X {l : List (List Int)} : l.flatten.length = a0Z l := by rw [a0Z, List.length_flatten]
end Go.Proofs.YtlfhopooaejpfaaGreat
end
section
namespace Go.Proofs.YtlfhopooaejpfaaGreat
def c1b (s : List Int) (u : List (List Int × List (Int × List Int))) (q : List Int × List (Int × List Int)) : Bool := u.any (a1l s q)
def c1g (s : List Int) (u : List (List Int × List (Int × List Int))) (q : List Int × List (Int × List Int)) : Bool := !c1b s u q
def b9Q (s : List Int) (a b : List (List Int × List (Int × List Int))) : Bool := !a.any (c1g s b)
def c3K (s : List Int) (a b : List (List Int × List (Int × List Int))) : Bool := b0B s a && (b0B s b && (b9Q s a b && b9Q s b a))
end Go.Proofs.YtlfhopooaejpfaaGreat
end
section
namespace Go.Proofs.YtlfhopooaejpfaaGreat
def S6 {α : Type} (l : List α) (i : Int) : List α := if inR i 0 ((l.length : Int) - 1) then l.take i.toNat ++ l.drop (i + 1).toNat else l
end Go.Proofs.YtlfhopooaejpfaaGreat
end
section
namespace Go.Proofs.YtlfhopooaejpfaaGreat
set_option linter.unusedVariables false
def a5x (s h : List Int) (a : List (Int × List Int) × Nat) : List (Int × List Int) × Nat :=
 if a.2 < a.1.length then (if a1l s (h, S6 a.1 a.2) (h, a.1) then (S6 a.1 a.2, a.2) else (a.1, a.2 + 1)) else a
def G1 (s h : List Int) (l : List (Int × List Int)) : Nat → List (Int × List Int) × Nat
 | 0 => (l, 0)
 | n + 1 => a5x s h (G1 s h l n)
def a5l (s h : List Int) (l : List (Int × List Int)) (n : Nat) : Prop := (G1 s h l n).2 ≤ (G1 s h l n).1.length ∧ (G1 s h l n).1.length - (G1 s h l n).2 + n = l.length ∧ ∀ a ∈ (G1 s h l n).1, a ∈ l
def a0f (s : List Int) (h : List Int) (l : List (Int × List Int)) : List (Int × List Int) := if C8 s (h, l) then (G1 s h l l.length).1 else l
end Go.Proofs.YtlfhopooaejpfaaGreat
end
section
namespace Go.Proofs.YtlfhopooaejpfaaGreat
set_option linter.unusedVariables false
set_option linter.unusedSimpArgs false
section
variable {x b : List Int × List Int} {t u v : Int} {h head : List Int} {s : List Int} {q : List Int × List (Int × List Int)} {F F' : List (Int × List Int)} {i7 : List (Int × List Int)} {a f : Int × List Int}
def bd (x : List Int × List Int) (u : Int) : Prop := inR u 10 17 = false ∨ u ∈ x.1
def MOk (A F : List (Int × List Int)) (b : List Int × List Int) : Prop := b.1.length = b.2.length ∧ ∀ a ∈ A, G6 a b ∈ F ∧ ∀ t ∈ a.2, bd b t
theorem b3m {B B' : List (List Int × List Int)} (hF : ∀ f ∈ F, f ∈ F') (hB : ∀ b ∈ B, b ∈ B') : ∀ b ∈ I0 B a F, b ∈ I0 B' a F' := by
 intro b hb
 obtain ⟨b0, hb0, hb⟩ := List.mem_flatMap.1 hb
 obtain ⟨f, hf, rfl⟩ := List.mem_map.1 hb
 rw [List.mem_filter] at hf
 exact List.mem_flatMap.2 ⟨b0, hB b0 hb0, List.mem_map.2 ⟨f, List.mem_filter.2 ⟨hF f hf.1, hf.2⟩, rfl⟩⟩
theorem b1j (hF : ∀ f ∈ F, f ∈ F') : ∀ {i7 : List (Int × List Int)} {B B' : List (List Int × List Int)}, (∀ b ∈ B, b ∈ B') → ∀ b ∈ i7.foldl (fun l a => I0 l a F) B, b ∈ i7.foldl (fun l a => I0 l a F') B'
 | [], _, _, hB => hB
 | a :: i7, B, B', hB => b1j hF (i7 := i7) (b3m (a := a) hF hB)
theorem b5w (hF : ∀ f ∈ F, f ∈ F') : ∀ b ∈ z8 i7 F, b ∈ z8 i7 F' := b1j hF fun b hb => hb
end
end Go.Proofs.YtlfhopooaejpfaaGreat
end
section
namespace Go.Proofs.YtlfhopooaejpfaaGreat
set_option linter.unusedVariables false
set_option linter.unusedSimpArgs false
section
variable {x b : List Int × List Int} {t v : Int} {g : Int → Int} {h head u : List Int} {s : List Int} {p q : List Int × List (Int × List Int)} {F A : List (Int × List Int)} {a f : Int × List Int}
def a1R (b : List Int × List Int) (g : Int → Int) : Prop := b.1.length = b.2.length ∧ ∀ t, bd b t → C1 b t = g t
end
end Go.Proofs.YtlfhopooaejpfaaGreat
end
section
namespace Go.Proofs.YtlfhopooaejpfaaGreat
set_option linter.unusedVariables false
set_option linter.unusedSimpArgs false
abbrev Qry := List Int × List (Int × List Int)
abbrev cU (p q : List (Int × List Int)) : List Int := [f0 (fun t => inR t 0 9) p, f0 (fun t => inR t 0 9) q].flatten
abbrev bP (u : List Int) (A : List (Int × List Int)) : List Int × List Int := (B6 A, F9 u (B6 A).length)
def unF (u : List Int) (A : List (Int × List Int)) (w : Int) : Int := ((B6 A).find? fun x => decide (C1 (bP u A) x = w)).getD w
def hom (p q : Qry) : Prop := ∃ g : Int → Int, (∀ t, inR t 10 17 = false → g t = t) ∧ (∀ a ∈ q.2, (a.1, a.2.map g) ∈ p.2) ∧ q.1.map g = p.1
section
variable {t v : Int} {g : Int → Int} {h head u : List Int} {s : List Int} {p q r : Qry} {F A B : List (Int × List Int)} {a f : Int × List Int}
theorem b1D (l : List (Int × List Int)) : f ∈ w6 l f := by
 cases e : I5 l f with
 | false => exact a5j e
 | true => exact a2P (a0E.1 e)
end
end Go.Proofs.YtlfhopooaejpfaaGreat
end
