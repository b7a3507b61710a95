import Derived.Test.YtdopeopehgdccaaGreatDx
namespace Go.Proofs.YtdopeopehgdccaaGreat
set_option linter.unusedVariables false
set_option linter.unusedSimpArgs false
abbrev Mth := Int × List Int × Int × Int × Int
abbrev Fct := Int × List Int
abbrev Lin := Int × (Int × List Int) × Int × List Int
abbrev Rul := Int × Int × List Int
def atM (l : List Mth) (i : Int) : Mth := l.getD i.toNat (0, [], 0, 0, 0)
theorem a3Y {l : List Mth} {i : Int} (h : i.toNat < l.length) : atM l i = l[i.toNat] := by simp [atM, List.getD, h]
def atR (l : List Rul) (i : Int) : Rul := l.getD i.toNat (0, 0, [])
def b4j (s : List Int) (l : List Mth) (a : Int × List Int) : Bool := x8 s l && (inR a.1 0 ((l.length : Int) - 1) && (decide (a.2.length = (atM l a.1).2.1.length) && a1L a.2))
theorem b0x {s : List Int} {l : List Mth} (h : x8 s l = true) : ∀ m ∈ l, M6 s m = true := by
  simp only [x8, Bool.and_eq_true, Bool.not_eq_true', List.any_eq_false, decide_eq_true_eq] at h
  intro m hm
  have := h.2.2 m hm
  simpa using this
def a3h (r : Rul) (f x : Fct) : Bool := decide (x.1 = r.1) && decide (J0 (r.2.1, vals r.2.2 x.2) f = 0)
def a4c (d6 : List Fct) (f : Fct) (r : Rul) : Bool := d6.any (a3h r f)
def a0n (d8 : List Rul) (d6 : List Fct) (f : Fct) : Int := F3 (a4c d6 f) d8
theorem a8G {d8 : List Rul} {d6 : List Fct} {f : Fct} {g h : Nat} (po : ∀ x ∈ d8.take g, a4c d6 f x = false) (hg : g < d8.length) (hh : h < d6.length) (e1 : d6[h].1 = d8[g].1) (e2 : J0 (d8[g].2.1, vals d8[g].2.2 d6[h].2) f = 0) : (g : Int) = a0n d8 d6 f :=
  N4 hg po (List.any_eq_true.2 ⟨d6[h], List.getElem_mem _, by rw [a3h, decide_eq_true e1, decide_eq_true e2]; rfl⟩)
theorem a7k {d8 : List Rul} {d6 : List Fct} {f : Fct} {g : Nat} (po : ∀ x ∈ d8.take g, a4c d6 f x = false) (hg : ¬ g < d8.length) : (-1 : Int) = a0n d8 d6 f := L7 hg po
def b3U (j8 : List Int) (before : List Lin) (v : Int) : Bool := P6 j8 v || before.any (fun y => P6 y.2.2.2 v)
def b4F (s : List Int) (r : Rul) (x y : Fct) : Bool := b2u s r y && decide (J0 (b4T s r y, b4H s r y) x = 0)
def b3F (s : List Int) (l : List Mth) (d6 : List Fct) (kn : Int → Bool) (x : Lin) : Bool :=
  b4j s l x.2.1 && (decide ((atM l x.2.1.1).2.2.1 = 0) && ((!x.2.1.2.any (fun v => !kn v)) && E5 (d6.filter (u8 (atM l x.2.1.1) x.2.1.2)) x.2.2))
def b3Q (s : List Int) (d8 : List Rul) (gv : Bool) (x : Lin) : Bool := inR x.1 0 ((d8.length : Int) - 1) && (D6 s x.2.2 && gv)
def b3X (s : List Int) (l : List Mth) (d8 : List Rul) (d6 : List Fct) (j8 : List Int) (before : List Lin) (x : Lin) : Bool :=
  if x.1 = -1 then b3F s l d6 (b3U j8 before) x else b3Q s d8 (before.any fun y => b4F s (atR d8 x.1) x.2.2 y.2.2) x
def b2B : Lin := (0, (0, []), 0, [])
/-- all lines from g on hold behind those ahead of them -/
def b3J (s : List Int) (l : List Mth) (d8 : List Rul) (d6 : List Fct) (j8 : List Int) (lines : List Lin) (g : Nat) : Bool :=
  ((List.range lines.length).drop g).all fun i => b3X s l d8 d6 j8 (lines.take i) (lines.getD i b2B)
def b4t (lines : List Lin) (f : Fct) : Bool := decide (J0 (lines.getD (lines.length - 1) b2B).2.2 f = 0)
def b5h (s : List Int) (l : List Mth) (d8 : List Rul) (d6 : List Fct) (j8 : List Int) (f : Fct) (lines : List Lin) : Bool :=
  (x8 s l && x7 s d8) && (H3 s d6 && (decide (0 < lines.length) && (b4t lines f && b3J s l d8 d6 j8 lines 0)))
-- the other one's way
def b4u (lines : List Lin) (g : Nat) : List Fct := ((lines.take g).map fun x => x.2.2).foldl o4 []
def b4m (j8 : List Int) (lines : List Lin) (g : Nat) : List Int := (lines.take g).foldl (fun v x => x.2.2.2.foldl G2 v) (D4 (j8.filter fun t => inR t 0 9))
def b4s (s : List Int) (l : List Mth) (d8 : List Rul) (d6 : List Fct) (F : List Fct) (V : List Int) (x : Lin) : Bool :=
  if x.1 = -1 then b3F s l d6 (P6 V) x else b3Q s d8 (a4c F x.2.2 (atR d8 x.1)) x
def b5s (s : List Int) (l : List Mth) (d8 : List Rul) (d6 : List Fct) (j8 : List Int) (lines : List Lin) (g : Nat) : Bool :=
  ((List.range lines.length).drop g).all fun i => b4s s l d8 d6 (b4u lines i) (b4m j8 lines i) (lines.getD i b2B)
theorem a5b {x : List Fct} : ∀ {v : List Fct} (y : Fct), y ∈ x.foldl o4 v ↔ y ∈ v ∨ y ∈ x := by
  induction x with
  | nil => intro v y; simp
  | cons a x ih =>
    intro v y
    rw [List.foldl_cons, ih, List.mem_cons]
    have : y ∈ o4 v a ↔ y ∈ v ∨ y = a := by
      refine ⟨fun h => a1o h, ?_⟩
      rintro (h | rfl)
      · exact a6h h
      · cases hh : E5 v y
        · exact a8v hh
        · exact a6h (a2a.1 hh)
    rw [this, or_assoc]
-- sizes
abbrev b5x : Lin → Nat := fun x => x.2.1.2.length + x.2.2.2.length
theorem b1D : ∀ {l s : List Int}, (l.foldl G2 s).length ≤ s.length + l.length := by
  intro l
  induction l with
  | nil => intro s; simp
  | cons a l ih =>
    intro s
    have h1 := ih (s := G2 s a)
    have h2 := a2i (h := P6 s a) (p := fun y => decide (a < y)) (f := a) (l := s)
    simp only [List.foldl_cons, List.length_cons]
    unfold G2 at h1 ⊢; omega
end Go.Proofs.YtdopeopehgdccaaGreat
