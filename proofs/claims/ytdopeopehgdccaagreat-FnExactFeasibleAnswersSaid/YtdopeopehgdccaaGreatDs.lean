import Derived.Test.YtdopeopehgdccaaGreatDy
namespace Go.Proofs.YtdopeopehgdccaaGreat
set_option linter.unusedVariables false
set_option linter.unusedSimpArgs false
def N6 (h head : List Int) (b : List Int × List Int) : Bool := decide (h.map (w4 b) = head)
def H6 (l : List (List Int × List Int)) (h head : List Int) : List Int × List Int := (l.find? (N6 h head)).getD ([], [])
theorem K0 {l : List (List Int × List Int)} {h head : List Int} {g : Nat} (hg : g < l.length) : H6 (l.drop g) h head = if N6 h head l[g] then l[g] else H6 (l.drop (g + 1)) h head := by
  rw [List.drop_eq_getElem_cons hg]
  unfold H6
  rw [List.find?_cons]
  cases N6 h head l[g] <;> simp
theorem N0 {l : List (List Int × List Int)} {h head : List Int} {g : Nat} (hg : l.length ≤ g) : H6 (l.drop g) h head = ([], []) := by
  rw [List.drop_eq_nil_of_le hg]; rfl
theorem N9 {d7 : List (Int × List Int)} : (f5 (fun t => inR t 0 9) d7).length ≤ 10 := by
  have h1 : (f5 (fun t => inR t 0 9) d7).Pairwise (· < ·) := (a2i List.Pairwise.nil).1
  have h2 : ((f5 (fun t => inR t 0 9) d7).map fun x => x.toNat).Nodup := by
    unfold List.Nodup
    rw [List.pairwise_map]
    refine List.Pairwise.imp_of_mem (fun {a b} ha hb hab e => ?_) h1
    have ra := a2B a ha
    have rb := a2B b hb
    omega
  have h3 := a1Y (n := 10) h2 fun x hx => by
    obtain ⟨y, hy, rfl⟩ := List.mem_map.1 hx
    have := a2B y hy
    omega
  simpa using h3
/-- p's atoms, and one atom for each constant of q -/
def xF (p q : List (Int × List Int)) : List (Int × List Int) := p ++ (f5 (fun t => inR t 0 9) q).map fun c => ((3 : Int), [c])
theorem b5u {p : List (Int × List Int)} {m : List Int} (h1 : p.length ≤ 4) (h2 : ∀ a ∈ p, a.2.length ≤ 3) (hm : m.length ≤ 10) : C8 (fun x : Int × List Int => x.2.length) (p ++ m.map fun c => ((3 : Int), [c])) ≤ 1048576 := by
  have h4 := a6s (c := fun x : Int × List Int => x.2.length) (n := 3) (l := p ++ m.map fun c => ((3 : Int), [c])) fun a ha => by
    rw [List.mem_append] at ha
    rcases ha with ha | ha
    · exact h2 a ha
    · simp only [List.mem_map] at ha
      obtain ⟨c, _, rfl⟩ := ha
      show 1 ≤ 3; decide
  have h5 : (p ++ m.map fun c => ((3 : Int), [c])).length ≤ 14 := by simp; omega
  unfold C8; omega
theorem b0g : ∀ {m : List Int}, (m.map fun c => ((3 : Int), [c])).flatMap (fun a => a.2) = m
  | [] => rfl
  | x :: m => by simp only [List.map_cons, List.flatMap_cons, b0g (m := m)]; rfl
theorem b2r {p q : List (Int × List Int)} : (xF p q).flatMap (fun a => a.2) = p.flatMap (fun a => a.2) ++ f5 (fun t => inR t 0 9) q := by
  rw [xF, List.flatMap_append, b0g]
theorem a2o {is : Int → Bool} {l : List (Int × List Int)} {x : Int} : x ∈ f5 is l ↔ x ∈ l.flatMap (fun a => a.2) ∧ is x = true := by
  unfold f5
  rw [a3W, List.mem_filter]
theorem a9X {p q : List (Int × List Int)} : ∀ x, B9 (f5 (fun t => inR t 0 9) (xF p q)) x = B9 [f5 (fun t => inR t 0 9) p, f5 (fun t => inR t 0 9) q].flatten x := by
  refine b3l fun x => ?_
  rw [a2o, b2r, List.mem_append]
  simp only [List.flatten_cons, List.flatten_nil, List.append_nil, List.mem_append]
  constructor
  · rintro ⟨h | h, h2⟩
    · exact .inl (a2o.2 ⟨h, h2⟩)
    · exact .inr h
  · rintro (h | h)
    · exact ⟨.inl (a2o.1 h).1, (a2o.1 h).2⟩
    · exact ⟨.inr h, (a2o.1 h).2⟩
theorem a6T {p q : List (Int × List Int)} : B2 (xF p q) = B2 p := by
  unfold B2
  show f5 _ _ = f5 _ _
  have e : (f5 (fun t => inR t 0 9) q).filter (fun t => inR t 10 17) = [] := by
    rw [List.filter_eq_nil_iff]
    intro x hx
    have := a2B x hx
    simp [inR]; omega
  rw [f5, b2r, List.filter_append, e, List.append_nil]; rfl
theorem a5T {α : Type} {p P : α → Bool} {f : α} (hf : P f = false) : ∀ {l : List α}, (G4 p f l).filter P = l.filter P
  | [] => rfl
  | x :: l => by
    have h := a5T (p := p) hf (l := l)
    simp only [G4]
    split
    · simp [hf]
    · simp only [List.filter_cons, h]
theorem b0U {P : Int × List Int → Bool} {f : Int × List Int} {l : List (Int × List Int)} (hf : P f = false) : (x6 l f).filter P = l.filter P := by
  unfold x6 O9
  split
  · rfl
  · split
    · exact a5T hf
    · simp [List.filter_append, hf]
theorem b2f {P : Int × List Int → Bool} {b : List Int × List Int} (h3 : ∀ f : Int × List Int, f.1 = 3 → P f = false) : ∀ {m : List Int} {out : List (Int × List Int)}, ((m.map fun c => ((3 : Int), [c])).foldl (fun out a => x6 out (E2 a b)) out).filter P = out.filter P
  | [], out => rfl
  | x :: m, out => by
    rw [List.map_cons, List.foldl_cons, b2f h3, b0U (h3 _ rfl)]
theorem b1v {b : List Int × List Int} : ∀ {d7 out : List (Int × List Int)}, (∀ a ∈ d7, a.1 < 3) → (∀ f ∈ out, f.1 < 3) → ∀ f ∈ d7.foldl (fun out a => x6 out (E2 a b)) out, f.1 < 3
  | [], out, _, h => h
  | a :: d7, out, ha, h => by
    refine b1v (d7 := d7) (out := x6 out (E2 a b)) (fun x hx => ha x (by simp [hx])) fun f hf => ?_
    rcases a3N hf with hf | rfl
    · exact h f hf
    · exact ha a (by simp)
theorem b6e {p q : List (Int × List Int)} {b : List Int × List Int} (hp : ∀ a ∈ p, a.1 < 3) : (U2 (xF p q) b).filter (fun f => decide (f.1 < 3)) = U2 p b := by
  unfold U2 xF
  rw [List.foldl_append, b2f (fun f hf => by simp [hf])]
  rw [List.filter_eq_self]
  intro f hf
  rw [decide_eq_true_eq]
  exact b1v hp (by simp) f hf
theorem x_B {p q : List (Int × List Int)} : fzB (f5 (fun t => inR t 0 9) (xF p q)) (xF p q) = fzB [f5 (fun t => inR t 0 9) p, f5 (fun t => inR t 0 9) q].flatten p := by
  unfold fzB; rw [a6T, (a4L a9X).1]
theorem x_V {p q : List (Int × List Int)} : fzV (f5 (fun t => inR t 0 9) (xF p q)) (xF p q) = fzV [f5 (fun t => inR t 0 9) p, f5 (fun t => inR t 0 9) q].flatten p := by
  unfold fzV; rw [x_B, a6T]
theorem x_X {p q : List (Int × List Int)} : fzX (f5 (fun t => inR t 0 9) (xF p q)) (xF p q) = fzX [f5 (fun t => inR t 0 9) p, f5 (fun t => inR t 0 9) q].flatten p := by
  unfold fzX; rw [x_B, a6T, (a4L a9X).2]
theorem x_F {p q : List (Int × List Int)} (hp : ∀ a ∈ p, a.1 < 3) : (fzF (f5 (fun t => inR t 0 9) (xF p q)) (xF p q)).filter (fun f => decide (f.1 < 3)) = fzF [f5 (fun t => inR t 0 9) p, f5 (fun t => inR t 0 9) q].flatten p := by
  unfold fzF
  rw [x_B]
  cases fzB [f5 (fun t => inR t 0 9) p, f5 (fun t => inR t 0 9) q].flatten p
  · rfl
  · simp only [cond_true]
    rw [b6e hp, a6T, (a4L a9X).2]
theorem a1R {u : List Int} {d7 : List (Int × List Int)} : (fzF u d7).length ≤ d7.length := by
  unfold fzF
  cases fzB u d7
  · simp
  · exact a7A
theorem a3D {p q : List (Int × List Int)} : ∀ x ∈ [f5 (fun t => inR t 0 9) p, f5 (fun t => inR t 0 9) q].flatten, 0 ≤ x ∧ x ≤ 9 := by
  intro x hx
  simp only [List.flatten_cons, List.flatten_nil, List.append_nil, List.mem_append] at hx
  rcases hx with h | h <;> exact a2B x h
def a1D (p q : List Int × List (Int × List Int)) : Bool :=
  decide (p.1.length = q.1.length) && (fzB [f5 (fun t => inR t 0 9) p.2, f5 (fun t => inR t 0 9) q.2].flatten p.2 &&
    (t7 q.2 (fzF [f5 (fun t => inR t 0 9) p.2, f5 (fun t => inR t 0 9) q.2].flatten p.2)).any (N6 q.1 (p.1.map (w4 (fzV [f5 (fun t => inR t 0 9) p.2, f5 (fun t => inR t 0 9) q.2].flatten p.2, fzX [f5 (fun t => inR t 0 9) p.2, f5 (fun t => inR t 0 9) q.2].flatten p.2)))))
def a3i (s : List Int) (p q : List Int × List (Int × List Int)) : Bool := y8 s p && (y8 s q && a1D p q)
theorem b0W {s : List Int} {q : List Int × List (Int × List Int)} (h : y8 s q = true) : ∀ a ∈ q.2, a.1 < 3 := by
  intro a ha
  simp only [y8, Bool.and_eq_true, Bool.not_eq_true', List.any_eq_false, Bool.not_eq_true] at h
  have h1 : I2 s a = true := by simpa using h.2.2.1 a ha
  simp only [I2, Bool.and_eq_true] at h1
  have h2 := V6 h1.1
  have h3 := h1.1
  simp only [G5, L5, inR, Bool.and_eq_true, decide_eq_true_eq] at h3
  omega
def U1 (l : List (List Int)) : Nat := (l.map List.length).sum
theorem a0r {l : List (List Int)} {x : List Int} : U1 (l ++ [x]) = U1 l + x.length := by simp [U1, List.sum_append]
theorem a2F : U1 [] = 0 := rfl
theorem a2W {l : List (List Int)} {g : Nat} : U1 (l.take g) ≤ U1 l := by
  have : U1 l = U1 (l.take g) + U1 (l.drop g) := by
    rw [U1, U1, U1, ← List.sum_append, ← List.map_append, List.take_append_drop]
  omega
theorem b0V {l : List (List Int)} : l.flatten.length = U1 l := by rw [U1, List.length_flatten]
end Go.Proofs.YtdopeopehgdccaaGreat
