import Derived.Test.YtbedienpleiamaaGreatDy
namespace Go.Proofs.YtbedienpleiamaaGreat
set_option linter.unusedVariables false
set_option linter.unusedSimpArgs false
def J2 (h head : List Int) (b : List Int × List Int) : Bool := decide (h.map (u6 b) = head)
def s9 (l : List (List Int × List Int)) (h head : List Int) : List Int × List Int := (l.find? (J2 h head)).getD ([], [])
theorem J1 {l : List (List Int × List Int)} {h head : List Int} {g : Nat} (hg : g < l.length) : s9 (l.drop g) h head = if J2 h head l[g] then l[g] else s9 (l.drop (g + 1)) h head := by
 rw [List.drop_eq_getElem_cons hg]
 unfold s9
 rw [List.find?_cons]
 cases J2 h head l[g] <;> simp
theorem K5 {l : List (List Int × List Int)} {h head : List Int} {g : Nat} (hg : l.length ≤ g) : s9 (l.drop g) h head = ([], []) := by
 rw [List.drop_eq_nil_of_le hg]; rfl
theorem L4 {l6 : List (Int × List Int)} : (c6 (fun t => inR t 0 9) l6).length ≤ 10 := by
 have h1 : (c6 (fun t => inR t 0 9) l6).Pairwise (· < ·) := (W1 List.Pairwise.nil).1
 have h2 : ((c6 (fun t => inR t 0 9) l6).map fun x => x.toNat).Nodup := by
  unfold List.Nodup
  rw [List.pairwise_map]
  refine List.Pairwise.imp_of_mem (fun {a b} ha hb hab e => ?_) h1
  have ra := a0x a ha
  have rb := a0x b hb
  omega
 have h3 := a1i (n := 10) h2 fun x hx => by
  obtain ⟨y, hy, rfl⟩ := List.mem_map.1 hx
  have := a0x y hy
  omega
 simpa using h3
def xF (p q : List (Int × List Int)) : List (Int × List Int) := p ++ (c6 (fun t => inR t 0 9) q).map fun c => ((3 : Int), [c])
theorem b0T {p : List (Int × List Int)} {m : List Int} (h1 : p.length ≤ 4) (h2 : ∀ a ∈ p, a.2.length ≤ 3) (hm : m.length ≤ 10) : E7 (fun x : Int × List Int => x.2.length) (p ++ m.map fun c => ((3 : Int), [c])) ≤ 1048576 := by
 have h4 := a2y (c := fun x : Int × List Int => x.2.length) (n := 3) (l := p ++ m.map fun c => ((3 : Int), [c])) fun a ha => by
  rw [List.mem_append] at ha
  rcases ha with ha | ha
  ·exact h2 a ha
  ·simp only [List.mem_map] at ha
   obtain ⟨c, _, rfl⟩ := ha
   show 1 ≤ 3; decide
 have h5 : (p ++ m.map fun c => ((3 : Int), [c])).length ≤ 14 := by simp; omega
 unfold E7; omega
theorem a6x : ∀ {m : List Int}, (m.map fun c => ((3 : Int), [c])).flatMap (fun a => a.2) = m
 | [] => rfl
 | x :: m => by simp only [List.map_cons, List.flatMap_cons, a6x (m := m)]; rfl
theorem a8B {p q : List (Int × List Int)} : (xF p q).flatMap (fun a => a.2) = p.flatMap (fun a => a.2) ++ c6 (fun t => inR t 0 9) q := by
 rw [xF, List.flatMap_append, a6x]
theorem O7 {is : Int → Bool} {l : List (Int × List Int)} {x : Int} : x ∈ c6 is l ↔ x ∈ l.flatMap (fun a => a.2) ∧ is x = true := by
 unfold c6
 rw [a2z, List.mem_filter]
theorem a6J {p q : List (Int × List Int)} : ∀ x, G2 (c6 (fun t => inR t 0 9) (xF p q)) x = G2 [c6 (fun t => inR t 0 9) p, c6 (fun t => inR t 0 9) q].flatten x := by
 refine a9h fun x => ?_
 rw [O7, a8B, List.mem_append]
 simp only [List.flatten_cons, List.flatten_nil, List.append_nil, List.mem_append]
 constructor
 ·rintro ⟨h | h, h2⟩
  ·exact .inl (O7.2 ⟨h, h2⟩)
  ·exact .inr h
 ·rintro (h | h)
  ·exact ⟨.inl (O7.1 h).1, (O7.1 h).2⟩
  ·exact ⟨.inr h, (O7.1 h).2⟩
theorem a4O {p q : List (Int × List Int)} : w8 (xF p q) = w8 p := by
 unfold w8
 show c6 _ _ = c6 _ _
 have e : (c6 (fun t => inR t 0 9) q).filter (fun t => inR t 10 17) = [] := by
  rw [List.filter_eq_nil_iff]
  intro x hx
  have := a0x x hx
  simp [inR]; omega
 rw [c6, a8B, List.filter_append, e, List.append_nil]; rfl
theorem a3R {α : Type} {p P : α → Bool} {f : α} (hf : P f = false) : ∀ {l : List α}, (I2 p f l).filter P = l.filter P
 | [] => rfl
 | x :: l => by
  have h := a3R (p := p) hf (l := l)
  simp only [I2]
  split
  ·simp [hf]
  ·simp only [List.filter_cons, h]
theorem a7k {P : Int × List Int → Bool} {f : Int × List Int} {l : List (Int × List Int)} (hf : P f = false) : (D1 l f).filter P = l.filter P := by
 unfold D1 N9
 split
 ·rfl
 ·split
  ·exact a3R hf
  ·simp [List.filter_append, hf]
theorem a8M {P : Int × List Int → Bool} {b : List Int × List Int} (h3 : ∀ f : Int × List Int, f.1 = 3 → P f = false) : ∀ {m : List Int} {out : List (Int × List Int)}, ((m.map fun c => ((3 : Int), [c])).foldl (fun out a => D1 out (B2 a b)) out).filter P = out.filter P
 | [], out => rfl
 | x :: m, out => by
  rw [List.map_cons, List.foldl_cons, a8M h3, a7k (h3 _ rfl)]
theorem a7E {b : List Int × List Int} : ∀ {l6 out : List (Int × List Int)}, (∀ a ∈ l6, a.1 < 3) → (∀ f ∈ out, f.1 < 3) → ∀ f ∈ l6.foldl (fun out a => D1 out (B2 a b)) out, f.1 < 3
 | [], out, _, h => h
 | a :: l6, out, ha, h => by
  refine a7E (l6 := l6) (out := D1 out (B2 a b)) (fun x hx => ha x (by simp [hx])) fun f hf => ?_
  rcases Y3 hf with hf | rfl
  ·exact h f hf
  ·exact ha a (by simp)
theorem b1U {p q : List (Int × List Int)} {b : List Int × List Int} (hp : ∀ a ∈ p, a.1 < 3) : (K6 (xF p q) b).filter (fun f => decide (f.1 < 3)) = K6 p b := by
 unfold K6 xF
 rw [List.foldl_append, a8M (fun f hf => by simp [hf])]
 rw [List.filter_eq_self]
 intro f hf
 rw [decide_eq_true_eq]
 exact a7E hp (by simp) f hf
theorem x_B {p q : List (Int × List Int)} : fzB (c6 (fun t => inR t 0 9) (xF p q)) (xF p q) = fzB [c6 (fun t => inR t 0 9) p, c6 (fun t => inR t 0 9) q].flatten p := by
 unfold fzB; rw [a4O, (a3c a6J).1]
theorem x_V {p q : List (Int × List Int)} : fzV (c6 (fun t => inR t 0 9) (xF p q)) (xF p q) = fzV [c6 (fun t => inR t 0 9) p, c6 (fun t => inR t 0 9) q].flatten p := by
 unfold fzV; rw [x_B, a4O]
theorem x_X {p q : List (Int × List Int)} : fzX (c6 (fun t => inR t 0 9) (xF p q)) (xF p q) = fzX [c6 (fun t => inR t 0 9) p, c6 (fun t => inR t 0 9) q].flatten p := by
 unfold fzX; rw [x_B, a4O, (a3c a6J).2]
theorem x_F {p q : List (Int × List Int)} (hp : ∀ a ∈ p, a.1 < 3) : (fzF (c6 (fun t => inR t 0 9) (xF p q)) (xF p q)).filter (fun f => decide (f.1 < 3)) = fzF [c6 (fun t => inR t 0 9) p, c6 (fun t => inR t 0 9) q].flatten p := by
 unfold fzF
 rw [x_B]
 cases fzB [c6 (fun t => inR t 0 9) p, c6 (fun t => inR t 0 9) q].flatten p
 ·rfl
 ·simp only [cond_true]
  rw [b1U hp, a4O, (a3c a6J).2]
theorem a0y {u : List Int} {l6 : List (Int × List Int)} : (fzF u l6).length ≤ l6.length := by
 unfold fzF
 cases fzB u l6
 ·simp
 ·exact a5e
theorem a0Y {p q : List (Int × List Int)} : ∀ x ∈ [c6 (fun t => inR t 0 9) p, c6 (fun t => inR t 0 9) q].flatten, 0 ≤ x ∧ x ≤ 9 := by
 intro x hx
 simp only [List.flatten_cons, List.flatten_nil, List.append_nil, List.mem_append] at hx
 rcases hx with h | h <;> exact a0x x h
def W3 (p q : List Int × List (Int × List Int)) : Bool :=
 decide (p.1.length = q.1.length) && (fzB [c6 (fun t => inR t 0 9) p.2, c6 (fun t => inR t 0 9) q.2].flatten p.2 &&
  (j7 q.2 (fzF [c6 (fun t => inR t 0 9) p.2, c6 (fun t => inR t 0 9) q.2].flatten p.2)).any (J2 q.1 (p.1.map (u6 (fzV [c6 (fun t => inR t 0 9) p.2, c6 (fun t => inR t 0 9) q.2].flatten p.2, fzX [c6 (fun t => inR t 0 9) p.2, c6 (fun t => inR t 0 9) q.2].flatten p.2)))))
def J5 (s : List Int) (p q : List Int × List (Int × List Int)) : Bool := w3 s p && (w3 s q && W3 p q)
theorem a7l {s : List Int} {q : List Int × List (Int × List Int)} (h : w3 s q = true) : ∀ a ∈ q.2, a.1 < 3 := by
 intro a ha
 simp only [w3, Bool.and_eq_true, Bool.not_eq_true', List.any_eq_false, Bool.not_eq_true] at h
 have h1 : K3 s a = true := by simpa using h.2.2.1 a ha
 simp only [K3, Bool.and_eq_true] at h1
 have h2 := Y0 h1.1
 have h3 := h1.1
 simp only [J8, I1, inR, Bool.and_eq_true, decide_eq_true_eq] at h3
 omega
def P8 (l : List (List Int)) : Nat := (l.map List.length).sum
theorem V9 {l : List (List Int)} {x : List Int} : P8 (l ++ [x]) = P8 l + x.length := by simp [P8, List.sum_append]
theorem a1b : P8 [] = 0 := rfl
theorem a1D {l : List (List Int)} {g : Nat} : P8 (l.take g) ≤ P8 l := by
 have : P8 l = P8 (l.take g) + P8 (l.drop g) := by
  rw [P8, P8, P8, ← List.sum_append, ← List.map_append, List.take_append_drop]
 omega
theorem a7j {l : List (List Int)} : l.flatten.length = P8 l := by rw [P8, List.length_flatten]
end Go.Proofs.YtbedienpleiamaaGreat
