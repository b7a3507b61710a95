import Derived.Test.YtdopeopehgdccaaGreatDy
namespace Go.Proofs.YtdopeopehgdccaaGreat
set_option linter.unusedVariables false
set_option linter.unusedSimpArgs false
def V2 (h head : List Int) (b : List Int × List Int) : Bool := decide (h.map (C7 b) = head)
def O3 (l : List (List Int × List Int)) (h head : List Int) : List Int × List Int := (l.find? (V2 h head)).getD ([], [])
theorem R0 {l : List (List Int × List Int)} {h head : List Int} {g : Nat} (hg : g < l.length) : O3 (l.drop g) h head = if V2 h head l[g] then l[g] else O3 (l.drop (g + 1)) h head := by
 rw [List.drop_eq_getElem_cons hg]
 unfold O3
 rw [List.find?_cons]
 cases V2 h head l[g] <;> simp
theorem U4 {l : List (List Int × List Int)} {h head : List Int} {g : Nat} (hg : l.length ≤ g) : O3 (l.drop g) h head = ([], []) := by
 rw [List.drop_eq_nil_of_le hg]; rfl
theorem V4 {d8 : List (Int × List Int)} : (f0 (fun t => inR t 0 9) d8).length ≤ 10 := by
 have h1 : (f0 (fun t => inR t 0 9) d8).Pairwise (· < ·) := (a4o List.Pairwise.nil).1
 have h2 : ((f0 (fun t => inR t 0 9) d8).map fun x => x.toNat).Nodup := by
  unfold List.Nodup
  rw [List.pairwise_map]
  refine List.Pairwise.imp_of_mem (fun {a b} ha hb hab e => ?_) h1
  have ra := a4F a ha
  have rb := a4F b hb
  omega
 have h3 := a3S (n := 10) h2 fun x hx => by
  obtain ⟨y, hy, rfl⟩ := List.mem_map.1 hx
  have := a4F y hy
  omega
 simpa using h3
def xF (p q : List (Int × List Int)) : List (Int × List Int) := p ++ (f0 (fun t => inR t 0 9) q).map fun c => ((3 : Int), [c])
theorem b9X {p : List (Int × List Int)} {m : List Int} (h1 : p.length ≤ 4) (h2 : ∀ a ∈ p, a.2.length ≤ 3) (hm : m.length ≤ 10) : B9 (fun x : Int × List Int => x.2.length) (p ++ m.map fun c => ((3 : Int), [c])) ≤ 1048576 := by
 have h4 := a9g (c := fun x : Int × List Int => x.2.length) (n := 3) (l := p ++ m.map fun c => ((3 : Int), [c])) fun a ha => by
  rw [List.mem_append] at ha
  rcases ha with ha | ha
  ·exact h2 a ha
  ·simp only [List.mem_map] at ha
   obtain ⟨c, _, rfl⟩ := ha
   show 1 ≤ 3; decide
 have h5 : (p ++ m.map fun c => ((3 : Int), [c])).length ≤ 14 := by simp; omega
 unfold B9; omega
theorem b3l : ∀ {m : List Int}, (m.map fun c => ((3 : Int), [c])).flatMap (fun a => a.2) = m
 | [] => rfl
 | x :: m => by simp only [List.map_cons, List.flatMap_cons, b3l (m := m)]; rfl
theorem b6h {p q : List (Int × List Int)} : (xF p q).flatMap (fun a => a.2) = p.flatMap (fun a => a.2) ++ f0 (fun t => inR t 0 9) q := by
 rw [xF, List.flatMap_append, b3l]
theorem a4m {is : Int → Bool} {l : List (Int × List Int)} {x : Int} : x ∈ f0 is l ↔ x ∈ l.flatMap (fun a => a.2) ∧ is x = true := by
 unfold f0
 rw [a6p, List.mem_filter]
theorem b3W {p q : List (Int × List Int)} : ∀ x, G0 (f0 (fun t => inR t 0 9) (xF p q)) x = G0 [f0 (fun t => inR t 0 9) p, f0 (fun t => inR t 0 9) q].flatten x := by
 refine b7J fun x => ?_
 rw [a4m, b6h, List.mem_append]
 simp only [List.flatten_cons, List.flatten_nil, List.append_nil, List.mem_append]
 constructor
 ·rintro ⟨h | h, h2⟩
  ·exact .inl (a4m.2 ⟨h, h2⟩)
  ·exact .inr h
 ·rintro (h | h)
  ·exact ⟨.inl (a4m.1 h).1, (a4m.1 h).2⟩
  ·exact ⟨.inr h, (a4m.1 h).2⟩
theorem b0A {p q : List (Int × List Int)} : E9 (xF p q) = E9 p := by
 unfold E9
 show f0 _ _ = f0 _ _
 have e : (f0 (fun t => inR t 0 9) q).filter (fun t => inR t 10 17) = [] := by
  rw [List.filter_eq_nil_iff]
  intro x hx
  have := a4F x hx
  simp [inR]; omega
 rw [f0, b6h, List.filter_append, e, List.append_nil]; rfl
theorem a8E {α : Type} {p P : α → Bool} {f : α} (hf : P f = false) : ∀ {l : List α}, (L9 p f l).filter P = l.filter P
 | [] => rfl
 | x :: l => by
  have h := a8E (p := p) hf (l := l)
  simp only [L9]
  split
  ·simp [hf]
  ·simp only [List.filter_cons, h]
theorem b4D {P : Int × List Int → Bool} {f : Int × List Int} {l : List (Int × List Int)} (hf : P f = false) : (D4 l f).filter P = l.filter P := by
 unfold D4 W4
 split
 ·rfl
 ·split
  ·exact a8E hf
  ·simp [List.filter_append, hf]
theorem b6N {P : Int × List Int → Bool} {b : List Int × List Int} (h3 : ∀ f : Int × List Int, f.1 = 3 → P f = false) : ∀ {m : List Int} {out : List (Int × List Int)}, ((m.map fun c => ((3 : Int), [c])).foldl (fun out a => D4 out (I5 a b)) out).filter P = out.filter P
 | [], out => rfl
 | x :: m, out => by
  rw [List.map_cons, List.foldl_cons, b6N h3, b4D (h3 _ rfl)]
theorem b5e {b : List Int × List Int} : ∀ {d8 out : List (Int × List Int)}, (∀ a ∈ d8, a.1 < 3) → (∀ f ∈ out, f.1 < 3) → ∀ f ∈ d8.foldl (fun out a => D4 out (I5 a b)) out, f.1 < 3
 | [], out, _, h => h
 | a :: d8, out, ha, h => by
  refine b5e (d8 := d8) (out := D4 out (I5 a b)) (fun x hx => ha x (by simp [hx])) fun f hf => ?_
  rcases a4Q hf with hf | rfl
  ·exact h f hf
  ·exact ha a (by simp)
theorem c0R {p q : List (Int × List Int)} {b : List Int × List Int} (hp : ∀ a ∈ p, a.1 < 3) : (a0n (xF p q) b).filter (fun f => decide (f.1 < 3)) = a0n p b := by
 unfold a0n xF
 rw [List.foldl_append, b6N (fun f hf => by simp [hf])]
 rw [List.filter_eq_self]
 intro f hf
 rw [decide_eq_true_eq]
 exact b5e hp (by simp) f hf
theorem x_B {p q : List (Int × List Int)} : fzB (f0 (fun t => inR t 0 9) (xF p q)) (xF p q) = fzB [f0 (fun t => inR t 0 9) p, f0 (fun t => inR t 0 9) q].flatten p := by
 unfold fzB; rw [b0A, (a7g b3W).1]
theorem x_V {p q : List (Int × List Int)} : fzV (f0 (fun t => inR t 0 9) (xF p q)) (xF p q) = fzV [f0 (fun t => inR t 0 9) p, f0 (fun t => inR t 0 9) q].flatten p := by
 unfold fzV; rw [x_B, b0A]
theorem x_X {p q : List (Int × List Int)} : fzX (f0 (fun t => inR t 0 9) (xF p q)) (xF p q) = fzX [f0 (fun t => inR t 0 9) p, f0 (fun t => inR t 0 9) q].flatten p := by
 unfold fzX; rw [x_B, b0A, (a7g b3W).2]
theorem x_F {p q : List (Int × List Int)} (hp : ∀ a ∈ p, a.1 < 3) : (fzF (f0 (fun t => inR t 0 9) (xF p q)) (xF p q)).filter (fun f => decide (f.1 < 3)) = fzF [f0 (fun t => inR t 0 9) p, f0 (fun t => inR t 0 9) q].flatten p := by
 unfold fzF
 rw [x_B]
 cases fzB [f0 (fun t => inR t 0 9) p, f0 (fun t => inR t 0 9) q].flatten p
 ·rfl
 ·simp only [cond_true]
  rw [c0R hp, b0A, (a7g b3W).2]
theorem a3F {u : List Int} {d8 : List (Int × List Int)} : (fzF u d8).length ≤ d8.length := by
 unfold fzF
 cases fzB u d8
 ·simp
 ·exact b1m
theorem a5C {p q : List (Int × List Int)} : ∀ x ∈ [f0 (fun t => inR t 0 9) p, f0 (fun t => inR t 0 9) q].flatten, 0 ≤ x ∧ x ≤ 9 := by
 intro x hx
 simp only [List.flatten_cons, List.flatten_nil, List.append_nil, List.mem_append] at hx
 rcases hx with h | h <;> exact a4F x h
def a3g (p q : List Int × List (Int × List Int)) : Bool :=
 decide (p.1.length = q.1.length) && (fzB [f0 (fun t => inR t 0 9) p.2, f0 (fun t => inR t 0 9) q.2].flatten p.2 &&
  (z7 q.2 (fzF [f0 (fun t => inR t 0 9) p.2, f0 (fun t => inR t 0 9) q.2].flatten p.2)).any (V2 q.1 (p.1.map (C7 (fzV [f0 (fun t => inR t 0 9) p.2, f0 (fun t => inR t 0 9) q.2].flatten p.2, fzX [f0 (fun t => inR t 0 9) p.2, f0 (fun t => inR t 0 9) q.2].flatten p.2)))))
def a2S (s : List Int) (p q : List Int × List (Int × List Int)) : Bool := D2 s p && (D2 s q && a3g p q)
theorem b4A {s : List Int} {q : List Int × List (Int × List Int)} (h : D2 s q = true) : ∀ a ∈ q.2, a.1 < 3 := by
 intro a ha
 simp only [D2, Bool.and_eq_true, Bool.not_eq_true', List.any_eq_false, Bool.not_eq_true] at h
 have h1 : P0 s a = true := by simpa using h.2.2.1 a ha
 simp only [P0, Bool.and_eq_true] at h1
 have h2 := a0E h1.1
 have h3 := h1.1
 simp only [M4, Q9, inR, Bool.and_eq_true, decide_eq_true_eq] at h3
 omega
def a0l (l : List (List Int)) : Nat := (l.map List.length).sum
theorem a2d {l : List (List Int)} {x : List Int} : a0l (l ++ [x]) = a0l l + x.length := by simp [a0l, List.sum_append]
theorem a4S : a0l [] = 0 := rfl
theorem a5m {l : List (List Int)} {g : Nat} : a0l (l.take g) ≤ a0l l := by
 have : a0l l = a0l (l.take g) + a0l (l.drop g) := by
  rw [a0l, a0l, a0l, ← List.sum_append, ← List.map_append, List.take_append_drop]
 omega
theorem b4E {l : List (List Int)} : l.flatten.length = a0l l := by rw [a0l, List.length_flatten]
end Go.Proofs.YtdopeopehgdccaaGreat
