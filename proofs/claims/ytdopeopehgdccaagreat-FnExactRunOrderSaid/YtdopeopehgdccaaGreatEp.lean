import Derived.Test.YtdopeopehgdccaaGreatBd
namespace Go.Proofs.YtdopeopehgdccaaGreat
set_option linter.unusedVariables false
set_option linter.unusedSimpArgs false
abbrev MT5 := Int × List Int × Int × Int × Int
abbrev AT2 := Int × List Int
abbrev GS := List (Int × Int) × List Bool × List Int
/-- an input that a call does not know -/
def W0 (a : AT2) (b : List Int) (i : Int) : Bool := !inR i 0 ((a.2.length : Int) - 1) || (inR (at0 a.2 i) 10 17 && !F8 b (at0 a.2 i))
def S9 (m : MT5) (a : AT2) (b : List Int) : Bool := decide (m.1 = a.1) && !m.2.1.any (W0 a b)
def a8P (l : List MT5) (a : AT2) (b : List Int) : Int := D3 (fun m => S9 m a b) l
def b0q (l : List MT5) (b : List Int) : List AT2 → List Bool → Nat → Int × Int × Bool
  | a :: al, d :: ds, i => if !d && decide (0 ≤ a8P l a b) then ((i : Int), a8P l a b, true) else b0q l b al ds (i + 1)
  | _, _, _ => (0, 0, false)
def gNx (l : List MT5) (i9 : List AT2) (σ : GS) : Int × Int × Bool := b0q l σ.2.2 i9 σ.2.1 0
def grS (l : List MT5) (i9 : List AT2) (σ : GS) : GS := cond (gNx l i9 σ).2.2
  (σ.1 ++ [((gNx l i9 σ).1, (gNx l i9 σ).2.1)], σ.2.1.set (gNx l i9 σ).1.toNat true, σ.2.2 ++ (i9.getD (gNx l i9 σ).1.toNat (0, [])).2) σ
def grI (l : List MT5) (i9 : List AT2) : Nat → GS
  | 0 => ([], List.replicate i9.length false, [])
  | n + 1 => grS l i9 (grI l i9 n)
def grF (l : List MT5) (i9 : List AT2) : GS := grI l i9 i9.length
section
variable {l : List MT5} {i9 al : List AT2} {ds : List Bool} {b b' : List Int} {i n g : Nat} {σ : GS}
/-- all n rounds have found something -/
def grP (l : List MT5) (i9 : List AT2) (n : Nat) : Prop := (grI l i9 n).1.length = n
theorem b0X {s : List (Int × Int)} {k : Int} : F8 (s.map fun x => x.1) k = s.any fun x => decide (x.1 = k) := by
  unfold F8; rw [List.any_map]; rfl
end
/-! ### the reference's: only the variables are kept -/
def a0K (b : List Int) (a : AT2) : List Int := (a.2.filter fun t => inR t 10 17).foldl D9 b
def grV (l : List MT5) (i9 : List AT2) : Nat → List Int
  | 0 => []
  | n + 1 => cond (gNx l i9 (grI l i9 n)).2.2 (a0K (grV l i9 n) (i9.getD (gNx l i9 (grI l i9 n)).1.toNat (0, []))) (grV l i9 n)
section
variable {l : List MT5} {i9 al : List AT2} {ds : List Bool} {b b' : List Int} {i n g : Nat} {m : MT5} {a : AT2}
theorem b1v (h : ∀ v, inR v 10 17 = true → F8 b v = F8 b' v) : W0 a b = W0 a b' := by
  funext i; unfold W0
  cases hv : inR (at0 a.2 i) 10 17
  · rfl
  · rw [h _ hv]
theorem b1r (h : ∀ v, inR v 10 17 = true → F8 b v = F8 b' v) : S9 m a b = S9 m a b' := by unfold S9; rw [b1v h]
theorem a6t {α : Type} {p : α → Bool} {f : α} : ∀ {l : List α}, l.any p = true → ∀ y, y ∈ F2 p f l ↔ y ∈ l ∨ y = f
  | [], h, _ => by simp at h
  | x :: l, h, y => by
    by_cases hp : p x = true
    · simp only [F2, hp, if_true, List.mem_cons]
      constructor
      · rintro (h | h | h)
        · exact .inr h
        · exact .inl (.inl h)
        · exact .inl (.inr h)
      · rintro ((h | h) | h)
        · exact .inr (.inl h)
        · exact .inr (.inr h)
        · exact .inl h
    · have h1 : l.any p = true := by simpa [hp] using h
      simp only [F2, hp, if_false, List.mem_cons, a6t h1 y, Bool.false_eq_true]
      exact or_assoc.symm
theorem a9U {x y : Int} : y ∈ D9 b x ↔ y ∈ b ∨ y = x := by
  unfold D9 M4
  split
  · rename_i h
    rw [a2n] at h
    exact ⟨.inl, fun h' => h'.elim id fun e => e ▸ h⟩
  · split
    · rename_i h; exact a6t h y
    · simp
theorem b1e {x v : Int} : F8 (D9 b x) v = (F8 b v || decide (x = v)) := by
  rw [Bool.eq_iff_iff, a2n, a9U, Bool.or_eq_true, a2n, decide_eq_true_eq]
  exact ⟨fun h => h.imp id Eq.symm, fun h => h.imp id Eq.symm⟩
theorem b0L (a : AT2) {v : Int} (hv : inR v 10 17 = true) : F8 (a0K b a) v = (F8 b v || F8 a.2 v) := by
  unfold a0K
  generalize a.2 = t
  induction t generalizing b with
  | nil => simp [F8]
  | cons x t ih =>
    by_cases hx : inR x 10 17 = true
    · rw [List.filter_cons_of_pos (p := fun t => inR t 10 17) hx, List.foldl_cons, ih, b1e]
      simp only [F8, List.any_cons, Bool.or_assoc]
    · rw [List.filter_cons_of_neg (p := fun t => inR t 10 17) hx, ih]
      have : decide (x = v) = false := decide_eq_false fun e => hx (e ▸ hv)
      simp only [F8, List.any_cons, this, Bool.false_or]
theorem a2N {t : List Int} : (t.foldl D9 b).length ≤ b.length + t.length := by
  induction t generalizing b with
  | nil => simp
  | cons x t ih =>
    have h1 := ih (b := D9 b x)
    have h2 := a4r (h := F8 b x) (p := fun y => decide (x < y)) (f := x) (l := b)
    simp only [List.foldl_cons, List.length_cons]; unfold D9 at *; omega
end
/-! ### the methods without a limit -/
def exM (m : MT5) : MT5 := cond (decide (m.2.2.1 ≠ 0)) (-1, m.2) m
def exF (l : List MT5) : List MT5 := l.map exM
/-- the atoms that get a step -/
def b2a (al : List AT2) (ds : List Bool) : List AT2 := ((al.zip ds).filter fun x => x.2).map fun x => x.1
def b0F (l : List MT5) (i9 : List AT2) : List AT2 := b2a i9 (grF (exF l) i9).2.1
section
variable {al : List AT2} {ds : List Bool} {g : Nat} {l : List MT5} {i9 : List AT2}
end
section
variable {l : List MT5} {i9 : List AT2} {g n r i : Nat} {q : List Int × List AT2} {s : List Int}
/-- the reference's inner rounds -/
def sgI (l : List MT5) (i9 : List AT2) (r i : Nat) : Prop := gNx l i9 (grI l i9 r) = b0q l (grI l i9 r).2.2 (i9.drop i) ((grI l i9 r).2.1.drop i) i
theorem a9D {b t : List Int} {k : Nat} (hk : k < t.length) (h : inR t[k] 10 17 = true) : D9 (((t.take k).filter fun t => inR t 10 17).foldl D9 b) t[k] = ((t.take (k + 1)).filter fun t => inR t 10 17).foldl D9 b := by
  rw [List.take_succ_eq_append_getElem hk, List.filter_append, List.foldl_append, List.filter_cons_of_pos (p := fun t => inR t 10 17) h]; rfl
theorem a9d {b t : List Int} {k : Nat} (hk : k < t.length) (h : inR t[k] 10 17 = false) : ((t.take k).filter fun t => inR t 10 17).foldl D9 b = ((t.take (k + 1)).filter fun t => inR t 10 17).foldl D9 b := by
  rw [List.take_succ_eq_append_getElem hk, List.filter_append, List.foldl_append, List.filter_cons_of_neg (p := fun t => inR t 10 17) (by rw [h]; decide)]; rfl
end
def b1x (s : List Int) (l : List MT5) (q : List Int × List AT2) : Bool := (D6 s l && E2 s q) && E2 s (q.1, b0F l q.2)
def b3A (s : List Int) (l : List MT5) (q : List Int × List AT2) : List Int := cond (b1x s l q) q.1 []
def b3z (s : List Int) (l : List MT5) (q : List Int × List AT2) : List AT2 := cond (b1x s l q) (b0F l q.2) []
section
variable {s : List Int} {l : List MT5} {q : List Int × List AT2}
end
/-! ### queries with negated atoms -/
abbrev GQ := (List Int × List AT2) × List AT2
def b1z (g : GQ) : List Int := D1 (fun t => inR t 10 17) g.1.2
def b1A (s : List Int) (l : List MT5) (g : GQ) : Bool :=
  D6 s l && (a5T s g && (!decide (((grF (exF l) g.1.2).1.length : Int) < g.1.2.length) && !g.2.any fun a => decide (a8P (exF l) a (b1z g) < 0)))
def b3r (s : List Int) (l : List MT5) (g : GQ) : List (Int × Int) := cond (b1A s l g) (grF (exF l) g.1.2).1 []
def b3D (s : List Int) (l : List MT5) (g : GQ) : List Int := cond (b1A s l g) (g.2.map fun a => a8P (exF l) a (b1z g)) []
section
variable {s : List Int} {l : List MT5} {g : GQ} {i : Nat}
end
end Go.Proofs.YtdopeopehgdccaaGreat
