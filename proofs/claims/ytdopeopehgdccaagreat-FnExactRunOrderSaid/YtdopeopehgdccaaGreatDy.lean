import Derived.Test.YtdopeopehgdccaaGreatDx
namespace Go.Proofs.YtdopeopehgdccaaGreat
set_option linter.unusedVariables false
set_option linter.unusedSimpArgs false
abbrev Mth := Int × List Int × Int × Int × Int
abbrev Fct := Int × List Int
abbrev Lin := Int × (Int × List Int) × Int × List Int
abbrev Rul := Int × Int × List Int
def atM (l : List Mth) (i : Int) : Mth := l.getD i.toNat (0, [], 0, 0, 0)
theorem H2 {l : List Mth} {i : Int} (h : i.toNat < l.length) : atM l i = l[i.toNat] := by simp [atM, List.getD, h]
def atR (l : List Rul) (i : Int) : Rul := l.getD i.toNat (0, 0, [])
theorem O1 {n a b : Int} (h : inR n a b = true) : a ≤ n ∧ n ≤ b := of_decide_eq_true h
def I0 (s : List Int) (l : List Mth) (a : Int × List Int) : Bool := D6 s l && (inR a.1 0 ((l.length : Int) - 1) && (decide (a.2.length = (atM l a.1).2.1.length) && I7 a.2))
theorem P2 {s : List Int} {l : List Mth} {a : Int × List Int} (h : I0 s l a = true) : D6 s l = true ∧ (0 ≤ a.1 ∧ a.1.toNat < l.length) ∧ a.2.length = (atM l a.1).2.1.length ∧ I7 a.2 = true := by
  simp only [I0, Bool.and_eq_true, decide_eq_true_eq] at h
  have h1 := O1 h.2.1
  exact ⟨h.1, ⟨by omega, by omega⟩, h.2.2.1, h.2.2.2⟩
theorem a3I {s : List Int} {l : List Mth} (h : D6 s l = true) : ∀ m ∈ l, H6 s m = true := by
  simp only [D6, Bool.and_eq_true, Bool.not_eq_true', List.any_eq_false, decide_eq_true_eq] at h
  intro m hm
  have := h.2.2 m hm
  simpa using this
theorem a8Y {s : List Int} {l : List Mth} {a : Int × List Int} (h : I0 s l a = true) : H6 s (atM l a.1) = true := by
  obtain ⟨h1, h2, _⟩ := P2 h
  rw [H2 h2.2]
  exact a3I h1 _ (List.getElem_mem _)
theorem a9m {s : List Int} {l : List Mth} {a : Int × List Int} {d8 : List Fct} (h : I0 s l a = true) (hf : C5 s d8 = true) : ∀ f ∈ d8, f.1 = (atM l a.1).1 → ∀ i ∈ (atM l a.1).2.1, 0 ≤ i ∧ i < f.2.length :=
  fun f hm e => a8d (a8Y h) ((H1 hf).2 f hm) e
def b2y (r : Rul) (f x : Fct) : Bool := decide (x.1 = r.1) && decide (G8 (r.2.1, vals r.2.2 x.2) f = 0)
def b1o (d8 : List Fct) (f : Fct) (r : Rul) : Bool := d8.any (b2y r f)
def b3o (V5 : List Rul) (d8 : List Fct) (f : Fct) : Int := D3 (b1o d8 f) V5
def b1G (J5 : List Int) (before : List Lin) (v : Int) : Bool := F8 J5 v || before.any (fun y => F8 y.2.2.2 v)
def b2z (s : List Int) (r : Rul) (x y : Fct) : Bool := b0p s r y && decide (G8 (b2K s r y, b2u s r y) x = 0)
def b1C (s : List Int) (l : List Mth) (d8 : List Fct) (kn : Int → Bool) (x : Lin) : Bool :=
  I0 s l x.2.1 && (decide ((atM l x.2.1.1).2.2.1 = 0) && ((!x.2.1.2.any (fun v => !kn v)) && F1 (d8.filter (z6 (atM l x.2.1.1) x.2.1.2)) x.2.2))
def b1K (s : List Int) (V5 : List Rul) (gv : Bool) (x : Lin) : Bool := inR x.1 0 ((V5.length : Int) - 1) && (F3 s x.2.2 && gv)
def b1E (s : List Int) (l : List Mth) (V5 : List Rul) (d8 : List Fct) (J5 : List Int) (before : List Lin) (x : Lin) : Bool :=
  if x.1 = -1 then b1C s l d8 (b1G J5 before) x else b1K s V5 (before.any fun y => b2z s (atR V5 x.1) x.2.2 y.2.2) x
def b0r : Lin := (0, (0, []), 0, [])
/-- all lines from g on hold behind those ahead of them -/
def b1F (s : List Int) (l : List Mth) (V5 : List Rul) (d8 : List Fct) (J5 : List Int) (lines : List Lin) (g : Nat) : Bool :=
  ((List.range lines.length).drop g).all fun i => b1E s l V5 d8 J5 (lines.take i) (lines.getD i b0r)
def b2e (lines : List Lin) (f : Fct) : Bool := decide (G8 (lines.getD (lines.length - 1) b0r).2.2 f = 0)
def b3b (s : List Int) (l : List Mth) (V5 : List Rul) (d8 : List Fct) (J5 : List Int) (f : Fct) (lines : List Lin) : Bool :=
  (D6 s l && a3l s V5) && (C5 s d8 && (decide (0 < lines.length) && (b2e lines f && b1F s l V5 d8 J5 lines 0)))
-- the other one's way
def b2c (lines : List Lin) (g : Nat) : List Fct := ((lines.take g).map fun x => x.2.2).foldl y4 []
def b2b (J5 : List Int) (lines : List Lin) (g : Nat) : List Int := (lines.take g).foldl (fun v x => x.2.2.2.foldl D9 v) (L8 (J5.filter fun t => inR t 0 9))
def b1X (s : List Int) (l : List Mth) (V5 : List Rul) (d8 : List Fct) (F : List Fct) (V : List Int) (x : Lin) : Bool :=
  if x.1 = -1 then b1C s l d8 (F8 V) x else b1K s V5 (b1o F x.2.2 (atR V5 x.1)) x
def b3p (s : List Int) (l : List Mth) (V5 : List Rul) (d8 : List Fct) (J5 : List Int) (lines : List Lin) (g : Nat) : Bool :=
  ((List.range lines.length).drop g).all fun i => b1X s l V5 d8 (b2c lines i) (b2b J5 lines i) (lines.getD i b0r)
theorem a1w {x : List Fct} : ∀ {v : List Fct} (y : Fct), y ∈ x.foldl y4 v ↔ y ∈ v ∨ y ∈ x := by
  induction x with
  | nil => intro v y; simp
  | cons a x ih =>
    intro v y
    rw [List.foldl_cons, ih, List.mem_cons]
    have : y ∈ y4 v a ↔ y ∈ v ∨ y = a := by
      refine ⟨fun h => a7A h, ?_⟩
      rintro (h | rfl)
      · exact a7Z h
      · cases hh : F1 v y
        · exact a9e hh
        · exact a7Z (a7D.1 hh)
    rw [this, or_assoc]
-- sizes
abbrev b3s : Lin → Nat := fun x => x.2.1.2.length + x.2.2.2.length
end Go.Proofs.YtdopeopehgdccaaGreat
