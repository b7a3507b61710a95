import Derived.Test.YtonkkkjgdohooaaGreatDr
namespace Go.Proofs.YtonkkkjgdohooaaGreat
set_option linter.unusedVariables false
set_option linter.unusedSimpArgs false
def hitB (h head : List Int) (b : List Int × List Int) : Bool := decide (h.map (valO b) = head)
def findV (l : List (List Int × List Int)) (h head : List Int) : List Int × List Int := (l.find? (hitB h head)).getD ([], [])
theorem findV_step {l : List (List Int × List Int)} {h head : List Int} {g : Nat} (hg : g < l.length) : findV (l.drop g) h head = if hitB h head l[g] then l[g] else findV (l.drop (g + 1)) h head := by
  rw [List.drop_eq_getElem_cons hg]
  unfold findV
  rw [List.find?_cons]
  cases hitB h head l[g] <;> simp
theorem findV_end {l : List (List Int × List Int)} {h head : List Int} {g : Nat} (hg : l.length ≤ g) : findV (l.drop g) h head = ([], []) := by
  rw [List.drop_eq_nil_of_le hg]; rfl
theorem consts_few {atoms : List (Int × List Int)} : (termsF (fun t => inR t 0 9) atoms).length ≤ 10 := by
  have h1 : (termsF (fun t => inR t 0 9) atoms).Pairwise (· < ·) := (setI_fold List.Pairwise.nil).1
  have h2 : ((termsF (fun t => inR t 0 9) atoms).map fun x => x.toNat).Nodup := by
    unfold List.Nodup
    rw [List.pairwise_map]
    refine List.Pairwise.imp_of_mem (fun {a b} ha hb hab e => ?_) h1
    have ra := cons_in a ha
    have rb := cons_in b hb
    omega
  have h3 := nodup_lt (n := 10) h2 fun x hx => by
    obtain ⟨y, hy, rfl⟩ := List.mem_map.1 hx
    have := cons_in y hy
    omega
  simpa using h3
/-- p's atoms, and one atom for each constant of q -/
def xF (p q : List (Int × List Int)) : List (Int × List Int) := p ++ (termsF (fun t => inR t 0 9) q).map fun c => ((3 : Int), [c])
theorem xF_tot {p : List (Int × List Int)} {m : List Int} (h1 : p.length ≤ 4) (h2 : ∀ a ∈ p, a.2.length ≤ 3) (hm : m.length ≤ 10) : totL (fun x : Int × List Int => x.2.length) (p ++ m.map fun c => ((3 : Int), [c])) ≤ 1048576 := by
  have h4 := totS_max (c := fun x : Int × List Int => x.2.length) (n := 3) (l := p ++ m.map fun c => ((3 : Int), [c])) fun a ha => by
    rw [List.mem_append] at ha
    rcases ha with ha | ha
    · exact h2 a ha
    · simp only [List.mem_map] at ha
      obtain ⟨c, _, rfl⟩ := ha
      show 1 ≤ 3; decide
  have h5 : (p ++ m.map fun c => ((3 : Int), [c])).length ≤ 14 := by simp; omega
  unfold totL; omega
theorem flat_one : ∀ {m : List Int}, (m.map fun c => ((3 : Int), [c])).flatMap (fun a => a.2) = m
  | [] => rfl
  | x :: m => by simp only [List.map_cons, List.flatMap_cons, flat_one (m := m)]; rfl
theorem flat_x {p q : List (Int × List Int)} : (xF p q).flatMap (fun a => a.2) = p.flatMap (fun a => a.2) ++ termsF (fun t => inR t 0 9) q := by
  rw [xF, List.flatMap_append, flat_one]
theorem terms_mem {is : Int → Bool} {l : List (Int × List Int)} {x : Int} : x ∈ termsF is l ↔ x ∈ l.flatMap (fun a => a.2) ∧ is x = true := by
  unfold termsF
  rw [setI_mem, List.mem_filter]
theorem x_cons {p q : List (Int × List Int)} : ∀ x, hasI (termsF (fun t => inR t 0 9) (xF p q)) x = hasI [termsF (fun t => inR t 0 9) p, termsF (fun t => inR t 0 9) q].flatten x := by
  refine hasI_ext fun x => ?_
  rw [terms_mem, flat_x, List.mem_append]
  simp only [List.flatten_cons, List.flatten_nil, List.append_nil, List.mem_append]
  constructor
  · rintro ⟨h | h, h2⟩
    · exact .inl (terms_mem.2 ⟨h, h2⟩)
    · exact .inr h
  · rintro (h | h)
    · exact ⟨.inl (terms_mem.1 h).1, (terms_mem.1 h).2⟩
    · exact ⟨.inr h, (terms_mem.1 h).2⟩
theorem x_vars {p q : List (Int × List Int)} : varsF (xF p q) = varsF p := by
  unfold varsF
  show termsF _ _ = termsF _ _
  have e : (termsF (fun t => inR t 0 9) q).filter (fun t => inR t 10 17) = [] := by
    rw [List.filter_eq_nil_iff]
    intro x hx
    have := cons_in x hx
    simp [inR]; omega
  rw [termsF, flat_x, List.filter_append, e, List.append_nil]; rfl
theorem insQ_filter {α : Type} {p P : α → Bool} {f : α} (hf : P f = false) : ∀ {l : List α}, (insQ p f l).filter P = l.filter P
  | [] => rfl
  | x :: l => by
    have h := insQ_filter (p := p) hf (l := l)
    simp only [insQ]
    split
    · simp [hf]
    · simp only [List.filter_cons, h]
theorem addF_filter {P : Int × List Int → Bool} {f : Int × List Int} {l : List (Int × List Int)} (hf : P f = false) : (addF l f).filter P = l.filter P := by
  unfold addF addP
  split
  · rfl
  · split
    · exact insQ_filter hf
    · simp [List.filter_append, hf]
theorem x_fold {P : Int × List Int → Bool} {b : List Int × List Int} (h3 : ∀ f : Int × List Int, f.1 = 3 → P f = false) : ∀ {m : List Int} {out : List (Int × List Int)}, ((m.map fun c => ((3 : Int), [c])).foldl (fun out a => addF out (factO a b)) out).filter P = out.filter P
  | [], out => rfl
  | x :: m, out => by
    rw [List.map_cons, List.foldl_cons, x_fold h3, addF_filter (h3 _ rfl)]
theorem frz_rel {b : List Int × List Int} : ∀ {atoms out : List (Int × List Int)}, (∀ a ∈ atoms, a.1 < 3) → (∀ f ∈ out, f.1 < 3) → ∀ f ∈ atoms.foldl (fun out a => addF out (factO a b)) out, f.1 < 3
  | [], out, _, h => h
  | a :: atoms, out, ha, h => by
    refine frz_rel (atoms := atoms) (out := addF out (factO a b)) (fun x hx => ha x (by simp [hx])) fun f hf => ?_
    rcases addP_mem hf with hf | rfl
    · exact h f hf
    · exact ha a (by simp)
theorem x_frz {p q : List (Int × List Int)} {b : List Int × List Int} (hp : ∀ a ∈ p, a.1 < 3) : (frzF (xF p q) b).filter (fun f => decide (f.1 < 3)) = frzF p b := by
  unfold frzF xF
  rw [List.foldl_append, x_fold (fun f hf => by simp [hf])]
  rw [List.filter_eq_self]
  intro f hf
  rw [decide_eq_true_eq]
  exact frz_rel hp (by simp) f hf
theorem x_B {p q : List (Int × List Int)} : fzB (termsF (fun t => inR t 0 9) (xF p q)) (xF p q) = fzB [termsF (fun t => inR t 0 9) p, termsF (fun t => inR t 0 9) q].flatten p := by
  unfold fzB; rw [x_vars, (frz_congr x_cons).1]
theorem x_V {p q : List (Int × List Int)} : fzV (termsF (fun t => inR t 0 9) (xF p q)) (xF p q) = fzV [termsF (fun t => inR t 0 9) p, termsF (fun t => inR t 0 9) q].flatten p := by
  unfold fzV; rw [x_B, x_vars]
theorem x_X {p q : List (Int × List Int)} : fzX (termsF (fun t => inR t 0 9) (xF p q)) (xF p q) = fzX [termsF (fun t => inR t 0 9) p, termsF (fun t => inR t 0 9) q].flatten p := by
  unfold fzX; rw [x_B, x_vars, (frz_congr x_cons).2]
theorem x_F {p q : List (Int × List Int)} (hp : ∀ a ∈ p, a.1 < 3) : (fzF (termsF (fun t => inR t 0 9) (xF p q)) (xF p q)).filter (fun f => decide (f.1 < 3)) = fzF [termsF (fun t => inR t 0 9) p, termsF (fun t => inR t 0 9) q].flatten p := by
  unfold fzF
  rw [x_B]
  cases fzB [termsF (fun t => inR t 0 9) p, termsF (fun t => inR t 0 9) q].flatten p
  · rfl
  · simp only [cond_true]
    rw [x_frz hp, x_vars, (frz_congr x_cons).2]
theorem fzF_len {u : List Int} {atoms : List (Int × List Int)} : (fzF u atoms).length ≤ atoms.length := by
  unfold fzF
  cases fzB u atoms
  · simp
  · exact frz_len
theorem two_in {p q : List (Int × List Int)} : ∀ x ∈ [termsF (fun t => inR t 0 9) p, termsF (fun t => inR t 0 9) q].flatten, 0 ≤ x ∧ x ≤ 9 := by
  intro x hx
  simp only [List.flatten_cons, List.flatten_nil, List.append_nil, List.mem_append] at hx
  rcases hx with h | h <;> exact cons_in x h
def conB (p q : List Int × List (Int × List Int)) : Bool :=
  decide (p.1.length = q.1.length) && (fzB [termsF (fun t => inR t 0 9) p.2, termsF (fun t => inR t 0 9) q.2].flatten p.2 &&
    (bindsF q.2 (fzF [termsF (fun t => inR t 0 9) p.2, termsF (fun t => inR t 0 9) q.2].flatten p.2)).any (hitB q.1 (p.1.map (valO (fzV [termsF (fun t => inR t 0 9) p.2, termsF (fun t => inR t 0 9) q.2].flatten p.2, fzX [termsF (fun t => inR t 0 9) p.2, termsF (fun t => inR t 0 9) q.2].flatten p.2)))))
def conR (s : List Int) (p q : List Int × List (Int × List Int)) : Bool := okQuery s p && (okQuery s q && conB p q)
theorem okQuery_rel {s : List Int} {q : List Int × List (Int × List Int)} (h : okQuery s q = true) : ∀ a ∈ q.2, a.1 < 3 := by
  intro a ha
  simp only [okQuery, Bool.and_eq_true, Bool.not_eq_true', List.any_eq_false, Bool.not_eq_true] at h
  have h1 : okAtom s a = true := by simpa using h.2.2.1 a ha
  simp only [okAtom, Bool.and_eq_true] at h1
  have h2 := okRel_lt h1.1
  have h3 := h1.1
  simp only [okRel, okSchema, inR, Bool.and_eq_true, decide_eq_true_eq] at h3
  omega
def lenS (l : List (List Int)) : Nat := (l.map List.length).sum
theorem lenS_snoc {l : List (List Int)} {x : List Int} : lenS (l ++ [x]) = lenS l + x.length := by simp [lenS, List.sum_append]
theorem lenS_nil : lenS [] = 0 := rfl
theorem lenS_take {l : List (List Int)} {g : Nat} : lenS (l.take g) ≤ lenS l := by
  have : lenS l = lenS (l.take g) + lenS (l.drop g) := by
    rw [lenS, lenS, lenS, ← List.sum_append, ← List.map_append, List.take_append_drop]
  omega
theorem flatten_len {l : List (List Int)} : l.flatten.length = lenS l := by rw [lenS, List.length_flatten]
end Go.Proofs.YtonkkkjgdohooaaGreat
