import Derived.Test.YthapcdhdfaibkaaGreatDoorT36
namespace Go.Proofs.YthapcdhdfaibkaaGreatDoor
set_option linter.unusedVariables false
set_option linter.unusedSimpArgs false
abbrev Mth := Int × List Int × Int × Int × Int
abbrev Fct := Int × List Int
abbrev Lin := Int × (Int × List Int) × Int × List Int
abbrev Rul := Int × Int × List Int
def atM (l : List Mth) (i : Int) : Mth := l.getD i.toNat (0, [], 0, 0, 0)
theorem D0 {l : List Mth} {i : Int} (h : i.toNat < l.length) : atM l i = l[i.toNat] := by simp [atM, List.getD, h]
def atR (l : List Rul) (i : Int) : Rul := l.getD i.toNat (0, 0, [])
theorem L8 {l : List Rul} {i : Int} (h : i.toNat < l.length) : atR l i = l[i.toNat] := by simp [atR, List.getD, h]
theorem a3A {n a b : Int} (h : inR n a b = true) : a ≤ n ∧ n ≤ b := of_decide_eq_true h
def Y9 (s : List Int) (l : List Mth) (a : Int × List Int) : Bool := B3 s l && (inR a.1 0 ((l.length : Int) - 1) && (decide (a.2.length = (atM l a.1).2.1.length) && G4 a.2))
theorem a0w {s : List Int} {l : List Mth} {a : Int × List Int} (h : Y9 s l a = true) : B3 s l = true ∧ (0 ≤ a.1 ∧ a.1.toNat < l.length) ∧ a.2.length = (atM l a.1).2.1.length ∧ G4 a.2 = true := by
 simp only [Y9, Bool.and_eq_true, decide_eq_true_eq] at h
 have h1 := a3A h.2.1
 exact ⟨h.1, ⟨by omega, by omega⟩, h.2.2.1, h.2.2.2⟩
theorem a5a {s : List Int} {l : List Mth} (h : B3 s l = true) : ∀ m ∈ l, T0 s m = true := by
 simp only [B3, Bool.and_eq_true, Bool.not_eq_true', List.any_eq_false, decide_eq_true_eq] at h
 intro m hm
 have := h.2.2 m hm
 simpa using this
theorem b3R {s : List Int} {l : List Mth} {a : Int × List Int} (h : Y9 s l a = true) : T0 s (atM l a.1) = true := by
 obtain ⟨h1, h2, _⟩ := a0w h
 rw [D0 h2.2]
 exact a5a h1 _ (List.getElem_mem _)
theorem b3J {s : List Int} {l : List Mth} {a : Int × List Int} {a8 : List Fct} (h : Y9 s l a = true) (hf : D7 s a8 = true) : ∀ f ∈ a8, f.1 = (atM l a.1).1 → ∀ i ∈ (atM l a.1).2.1, 0 ≤ i ∧ i < f.2.length :=
 fun f hm e => a4Y (b3R h) ((J5 hf).2 f hm) e
def a2y (r : Rul) (f x : Fct) : Bool := decide (x.1 = r.1) && decide (J2 (r.2.1, vals r.2.2 x.2) f = 0)
def a0W (a8 : List Fct) (f : Fct) (r : Rul) : Bool := a8.any (a2y r f)
def X4 (d4 : List Rul) (a8 : List Fct) (f : Fct) : Int := M6 (a0W a8 f) d4
theorem b0a {d4 : List Rul} {a8 : List Fct} {f : Fct} {g h : Nat} (po : ∀ x ∈ d4.take g, a0W a8 f x = false) (hg : g < d4.length) (hh : h < a8.length) (e1 : a8[h].1 = d4[g].1) (e2 : J2 (d4[g].2.1, vals d4[g].2.2 a8[h].2) f = 0) : (g : Int) = X4 d4 a8 f :=
 V9 hg po (List.any_eq_true.2 ⟨a8[h], List.getElem_mem _, by rw [a2y, decide_eq_true e1, decide_eq_true e2]; rfl⟩)
theorem a8y {d4 : List Rul} {a8 : List Fct} {f : Fct} {g : Nat} (po : ∀ x ∈ d4.take g, a0W a8 f x = false) (hg : ¬ g < d4.length) : (-1 : Int) = X4 d4 a8 f := S9 hg po
theorem J7 {r : Rul} {a8 : List Fct} {f : Fct} : decide (X4 [r] a8 f = 0) = a0W a8 f r := by
 cases h : a0W a8 f r <;> simp [X4, M6, h]
def V0 (d6 : List Int) (before : List Lin) (v : Int) : Bool := L9 d6 v || before.any (fun y => L9 y.2.2.2 v)
def a3H (s : List Int) (r : Rul) (x y : Fct) : Bool := a1V s r y && decide (J2 (a0L s r y, a1a s r y) x = 0)
def R9 (s : List Int) (l : List Mth) (a8 : List Fct) (kn : Int → Bool) (x : Lin) : Bool :=
 Y9 s l x.2.1 && (decide ((atM l x.2.1.1).2.2.1 = 0) && ((!x.2.1.2.any (fun v => !kn v)) && F3 (a8.filter (v7 (atM l x.2.1.1) x.2.1.2)) x.2.2))
def R7 (s : List Int) (d4 : List Rul) (gv : Bool) (x : Lin) : Bool := inR x.1 0 ((d4.length : Int) - 1) && (B9 s x.2.2 && gv)
def V3 (s : List Int) (l : List Mth) (d4 : List Rul) (a8 : List Fct) (d6 : List Int) (before : List Lin) (x : Lin) : Bool :=
 if x.1 = -1 then R9 s l a8 (V0 d6 before) x else R7 s d4 (before.any fun y => a3H s (atR d4 x.1) x.2.2 y.2.2) x
def b3f : Lin := (0, (0, []), 0, [])
def a1i (s : List Int) (l : List Mth) (d4 : List Rul) (a8 : List Fct) (d6 : List Int) (lines : List Lin) (g : Nat) : Bool :=
 ((List.range lines.length).drop g).all fun i => V3 s l d4 a8 d6 (lines.take i) (lines.getD i b3f)
theorem a0x {s : List Int} {l : List Mth} {d4 : List Rul} {a8 : List Fct} {d6 : List Int} {lines : List Lin} {g : Nat} (h : g < lines.length) :
  a1i s l d4 a8 d6 lines g = (V3 s l d4 a8 d6 (lines.take g) lines[g] && a1i s l d4 a8 d6 lines (g + 1)) := by
 unfold a1i
 rw [List.drop_eq_getElem_cons (by simpa using h)]
 simp [List.getD, h]
theorem a0R {s : List Int} {l : List Mth} {d4 : List Rul} {a8 : List Fct} {d6 : List Int} {lines : List Lin} {g : Nat} (h : lines.length ≤ g) : a1i s l d4 a8 d6 lines g = true := by
 unfold a1i
 rw [List.drop_eq_nil_of_le (by simpa using h)]; rfl
def a5W (lines : List Lin) (f : Fct) : Bool := decide (J2 (lines.getD (lines.length - 1) b3f).2.2 f = 0)
theorem F8 {lines : List Lin} {f : Fct} (h : lines.length - 1 < lines.length) : a5W lines f = decide (J2 lines[lines.length - 1].2.2 f = 0) := by simp [a5W, List.getD, h]
def a0r (s : List Int) (l : List Mth) (d4 : List Rul) (a8 : List Fct) (d6 : List Int) (f : Fct) (lines : List Lin) : Bool :=
 (B3 s l && B7 s d4) && (D7 s a8 && (decide (0 < lines.length) && (a5W lines f && a1i s l d4 a8 d6 lines 0)))
-- the other one's way
def N5 (lines : List Lin) (g : Nat) : List Fct := ((lines.take g).map fun x => x.2.2).foldl w4 []
def J8 (d6 : List Int) (lines : List Lin) (g : Nat) : List Int := (lines.take g).foldl (fun v x => x.2.2.2.foldl E4 v) (H6 (d6.filter fun t => inR t 0 9))
theorem I0 {lines : List Lin} {g : Nat} (h : g < lines.length) : w4 (N5 lines g) lines[g].2.2 = N5 lines (g + 1) := by
 unfold N5; rw [List.take_succ_eq_append_getElem h, List.map_append, List.foldl_append]; rfl
theorem H8 {d6 : List Int} {lines : List Lin} {g : Nat} (h : g < lines.length) : lines[g].2.2.2.foldl E4 (J8 d6 lines g) = J8 d6 lines (g + 1) := by
 unfold J8; rw [List.take_succ_eq_append_getElem h, List.foldl_append]; rfl
def Q0 (s : List Int) (l : List Mth) (d4 : List Rul) (a8 : List Fct) (F : List Fct) (V : List Int) (x : Lin) : Bool :=
 if x.1 = -1 then R9 s l a8 (L9 V) x else R7 s d4 (a0W F x.2.2 (atR d4 x.1)) x
def a2e (s : List Int) (l : List Mth) (d4 : List Rul) (a8 : List Fct) (d6 : List Int) (lines : List Lin) (g : Nat) : Bool :=
 ((List.range lines.length).drop g).all fun i => Q0 s l d4 a8 (N5 lines i) (J8 d6 lines i) (lines.getD i b3f)
theorem G2 {s : List Int} {l : List Mth} {d4 : List Rul} {a8 : List Fct} {d6 : List Int} {lines : List Lin} {g : Nat} (h : g < lines.length) :
  a2e s l d4 a8 d6 lines g = (Q0 s l d4 a8 (N5 lines g) (J8 d6 lines g) lines[g] && a2e s l d4 a8 d6 lines (g + 1)) := by
 unfold a2e
 rw [List.drop_eq_getElem_cons (by simpa using h)]
 simp [List.getD, h]
theorem I8 {s : List Int} {l : List Mth} {d4 : List Rul} {a8 : List Fct} {d6 : List Int} {lines : List Lin} {g : Nat} (h : lines.length ≤ g) : a2e s l d4 a8 d6 lines g = true := by
 unfold a2e
 rw [List.drop_eq_nil_of_le (by simpa using h)]; rfl
theorem b4C {x : List Lin} : ∀ {v : List Int}, v.Pairwise (· < ·) → ((x.foldl (fun v x => x.2.2.2.foldl E4 v) v).Pairwise (· < ·) ∧ ∀ y, y ∈ x.foldl (fun v x => x.2.2.2.foldl E4 v) v ↔ y ∈ v ∨ ∃ z ∈ x, y ∈ z.2.2.2) := by
 induction x with
 | nil => intro v h; simpa using h
 | cons a x ih =>
  intro v h
  have h1 := a2K (l := a.2.2.2) h
  have h2 := ih h1.1
  refine ⟨h2.1, fun y => ?_⟩
  rw [List.foldl_cons, h2.2 y, h1.2 y]
  simp only [List.mem_cons, exists_eq_or_imp, or_assoc]
theorem b3X {d6 : List Int} {lines : List Lin} {g : Nat} {v : Int} (hv : inR v 0 9 = true) : L9 (J8 d6 lines g) v = V0 d6 (lines.take g) v := by
 rw [Bool.eq_iff_iff, a2B, J8, (b4C a2w).2 v, a1s, V0, Bool.or_eq_true, a2B, List.any_eq_true, List.mem_filter]
 simp only [a2B, hv, and_true]
theorem a3y {x : List Fct} : ∀ {v : List Fct} (y : Fct), y ∈ x.foldl w4 v ↔ y ∈ v ∨ y ∈ x := by
 induction x with
 | nil => intro v y; simp
 | cons a x ih =>
  intro v y
  rw [List.foldl_cons, ih, List.mem_cons]
  have : y ∈ w4 v a ↔ y ∈ v ∨ y = a := by
   refine ⟨fun h => a1R h, ?_⟩
   rintro (h | rfl)
   ·exact a3l h
   ·cases hh : F3 v y
    ·exact a4N hh
    ·exact a3l (V8.1 hh)
  rw [this, or_assoc]
theorem a4z {lines : List Lin} {g : Nat} {y : Fct} : y ∈ N5 lines g ↔ ∃ z ∈ lines.take g, z.2.2 = y := by
 rw [N5, a3y]
 simp only [List.not_mem_nil, false_or, List.mem_map]
theorem b6Q {α : Type} {l : List α} {p q : α → Bool} (h : ∀ x ∈ l, p x = q x) : l.any p = l.any q := by
 induction l with
 | nil => rfl
 | cons a l ih => rw [List.any_cons, List.any_cons, h a (by simp), ih fun x hx => h x (by simp [hx])]
theorem b3x {s : List Int} {l : List Mth} {d4 : List Rul} {a8 : List Fct} {d6 : List Int} {lines : List Lin} {g : Nat} {x : Lin} (hr : B7 s d4 = true) (hb : ∀ y ∈ lines.take g, B9 s y.2.2 = true) :
  Q0 s l d4 a8 (N5 lines g) (J8 d6 lines g) x = V3 s l d4 a8 d6 (lines.take g) x := by
 unfold Q0 V3
 split
 ·unfold R9
  cases ha : Y9 s l x.2.1
  ·rfl
  ·rw [b6Q (q := fun v => !V0 d6 (lines.take g) v)]
   intro v hv
   have hw := a2T (a0w ha).2.2.2 v hv
   rw [b3X (by simp only [inR]; exact decide_eq_true hw)]
 ·unfold R7
  cases hi : inR x.1 0 ((d4.length : Int) - 1)
  ·rfl
  ·have h1 := a3A hi
   have h2 : G3 s (atR d4 x.1) = true := by
    rw [L8 (by omega)]
    exact (X2 hr).2.2 _ (List.getElem_mem _)
   have h3 : a0W (N5 lines g) x.2.2 (atR d4 x.1) = (lines.take g).any fun y => a3H s (atR d4 x.1) x.2.2 y.2.2 := by
    rw [Bool.eq_iff_iff, a0W, List.any_eq_true, List.any_eq_true]
    constructor
    ·rintro ⟨y, hy, h⟩
     obtain ⟨z, hz, rfl⟩ := a4z.1 hy
     refine ⟨z, hz, ?_⟩
     simp only [a2y, Bool.and_eq_true, decide_eq_true_eq] at h
     have h4 := b1r h2 (hb z hz) h.1
     simp only [a3H, a0L, a1a, h4, cond_true, h.2, decide_true, Bool.and_self]
    ·rintro ⟨z, hz, h⟩
     refine ⟨z.2.2, a4z.2 ⟨z, hz, rfl⟩, ?_⟩
     simp only [a3H, Bool.and_eq_true, decide_eq_true_eq] at h
     have h4 := h.1
     rw [a5j h2 (hb z hz), decide_eq_true_eq] at h4
     have h5 := h.2
     simp only [a0L, a1a, h.1, cond_true] at h5
     simp only [a2y, h4, h5, decide_true, Bool.and_self]
   rw [h3]
theorem a9s {s : List Int} {l : List Mth} {d4 : List Rul} {a8 : List Fct} {F : List Fct} {V : List Int} {x : Lin} (hf : D7 s a8 = true) (h : Q0 s l d4 a8 F V x = true) : B9 s x.2.2 = true := by
 unfold Q0 at h
 split at h
 ·simp only [R9, Bool.and_eq_true] at h
  exact (J5 hf).2 _ (List.mem_filter.1 (V8.1 h.2.2.2)).1
 ·simp only [R7, Bool.and_eq_true] at h
  exact h.2.1
theorem b1c {s : List Int} {l : List Mth} {d4 : List Rul} {a8 : List Fct} {d6 : List Int} {lines : List Lin} (hr : B7 s d4 = true) (hf : D7 s a8 = true) :
  ∀ (n g : Nat), lines.length - g = n → (∀ y ∈ lines.take g, B9 s y.2.2 = true) → a2e s l d4 a8 d6 lines g = a1i s l d4 a8 d6 lines g := by
 intro n
 induction n with
 | zero => intro g hg hb; rw [I8 (by omega), a0R (by omega)]
 | succ n ih =>
  intro g hg hb
  have h : g < lines.length := by omega
  rw [G2 h, a0x h, ← b3x hr hb]
  cases hs : Q0 s l d4 a8 (N5 lines g) (J8 d6 lines g) lines[g]
  ·rfl
  ·rw [ih (g + 1) (by omega)]
   intro y hy
   rw [List.take_succ_eq_append_getElem h] at hy
   rcases List.mem_append.1 hy with hy | hy
   ·exact hb y hy
   ·obtain rfl := List.mem_singleton.1 hy
    exact a9s hf hs
theorem H9 {s : List Int} {l : List Mth} {d4 : List Rul} {a8 : List Fct} {d6 : List Int} {f : Fct} {lines : List Lin} :
  a0r s l d4 a8 d6 f lines = ((B3 s l && B7 s d4) && (D7 s a8 && (decide (0 < lines.length) && (a2e s l d4 a8 d6 lines 0 && a5W lines f)))) := by
 unfold a0r
 cases h1 : B3 s l && B7 s d4
 ·rfl
 ·cases h2 : D7 s a8
  ·rfl
  ·rw [b1c (by simp only [Bool.and_eq_true] at h1; exact h1.2) h2 _ 0 rfl (by simp), Bool.and_comm (a5W lines f)]
-- sizes
abbrev V1 : Lin → Nat := fun x => x.2.1.2.length + x.2.2.2.length
theorem a4C : ∀ {l s : List Int}, (l.foldl E4 s).length ≤ s.length + l.length := by
 intro l
 induction l with
 | nil => intro s; simp
 | cons a l ih =>
  intro s
  have h1 := ih (s := E4 s a)
  have h2 := a3i (h := L9 s a) (p := fun y => decide (a < y)) (f := a) (l := s)
  simp only [List.foldl_cons, List.length_cons]
  unfold E4 at h1 ⊢; omega
theorem b4E {d6 : List Int} {lines : List Lin} {g : Nat} : (J8 d6 lines g).length ≤ d6.length + D4 V1 (lines.take g) := by
 have h1 : ∀ {x : List Lin} {v : List Int}, (x.foldl (fun v x => x.2.2.2.foldl E4 v) v).length ≤ v.length + D4 V1 x := by
  intro x
  induction x with
  | nil => intro v; simp
  | cons a x ih =>
   intro v
   have h2 := ih (v := a.2.2.2.foldl E4 v)
   have h3 := a4C (l := a.2.2.2) (s := v)
   have h4 : D4 V1 (a :: x) = V1 a + D4 V1 x := by simp [D4]
   have h5 : V1 a = a.2.1.2.length + a.2.2.2.length := rfl
   rw [List.foldl_cons]; omega
 have h2 := h1 (x := lines.take g) (v := H6 (d6.filter fun t => inR t 0 9))
 have h3 := a5F (l := d6.filter fun t => inR t 0 9)
 have h4 := List.length_filter_le (fun t => inR t 0 9) d6
 unfold J8; omega
theorem a8s {d6 : List Int} {lines : List Lin} {g k : Nat} (h1 : d6.length ≤ 1048576) (h2 : a0m V1 lines ≤ 1048576) (h : g < lines.length) : ((lines[g].2.2.2.take k).foldl E4 (J8 d6 lines g)).length ≤ 2097152 := by
 have a1 := b4E (d6 := d6) (lines := lines) (g := g)
 have a2 := a4C (l := lines[g].2.2.2.take k) (s := J8 d6 lines g)
 have a3 := a6F (t := V1) h
 have a4 := a9g (t := V1) (l := lines) (g := g + 1)
 have a5 : lines[g].2.2.2.length ≤ V1 lines[g] := Nat.le_add_left _ _
 have a6 := List.length_take_le' k lines[g].2.2.2
 unfold a0m at h2; omega
theorem a9U {lines : List Lin} {g : Nat} (h2 : a0m V1 lines ≤ 1048576) : (N5 lines g).length ≤ 1048576 := by
 have h3 := a2C (m := (lines.take g).map fun x => x.2.2) (x := [])
 have h4 := List.length_take_le g lines
 have h5 := List.length_take_le' g lines
 simp only [List.length_map, List.length_nil] at h3
 unfold a0m at h2; unfold N5
 simp only [List.length_take] at h3
 omega
theorem a7O {lines : List Lin} (h2 : a0m V1 lines ≤ 1048576) : ∀ x ∈ lines, x.2.2.2.length ≤ 1048576 ∧ x.2.1.2.length ≤ 1048576 := by
 intro x hx
 obtain ⟨g, hg, rfl⟩ := List.getElem_of_mem hx
 have h3 := b5y (t := V1) hg
 have a5 : V1 lines[g] = lines[g].2.1.2.length + lines[g].2.2.2.length := rfl
 omega
theorem b1a {lines : List Lin} {g : Nat} (h2 : a0m V1 lines ≤ 1048576) : ∀ f ∈ N5 lines g, f.2.length ≤ 1048576 := by
 intro f hf
 obtain ⟨z, hz, rfl⟩ := a4z.1 hf
 exact (a7O h2 z (List.mem_of_mem_take hz)).1
theorem b5v {s : List Int} {lines : List Lin} {g : Nat} (hb : ∀ y ∈ lines.take g, B9 s y.2.2 = true) : ∀ f ∈ N5 lines g, B9 s f = true := by
 intro f hf
 obtain ⟨z, hz, rfl⟩ := a4z.1 hf
 exact hb z hz
theorem b2q {s : List Int} {lines : List Lin} {g : Nat} (hb : ∀ y ∈ lines.take g, B9 s y.2.2 = true) (h : g < lines.length) (ho : B9 s lines[g].2.2 = true) : ∀ y ∈ lines.take (g + 1), B9 s y.2.2 = true := by
 intro y hy
 rw [List.take_succ_eq_append_getElem h] at hy
 rcases List.mem_append.1 hy with hy | hy
 ·exact hb y hy
 ·obtain rfl := List.mem_singleton.1 hy
  exact ho
theorem b5p {s : List Int} {l : List Mth} {d4 : List Rul} {F : List Fct} {a b : Nat} (h : (B3 s l && B7 s d4) = true) (hb : ∀ f ∈ F, B9 s f = true) : ∀ r ∈ (d4.take a).drop b, ∀ f ∈ F, f.1 = r.1 → ∀ x ∈ r.2.2, 0 ≤ x ∧ x < f.2.length := by
 intro r hr f hf e
 simp only [Bool.and_eq_true] at h
 exact a4L ((X2 h.2).2.2 r (List.mem_of_mem_take (List.mem_of_mem_drop hr))) (hb f hf) e
theorem b5m {s : List Int} {l : List Mth} {d4 : List Rul} {a b : Nat} (h : (B3 s l && B7 s d4) = true) : ∀ r ∈ (d4.take a).drop b, r.2.2.length ≤ 1048576 := by
 intro r hr
 simp only [Bool.and_eq_true] at h
 exact Nat.le_trans (a7U ((X2 h.2).2.2 r (List.mem_of_mem_take (List.mem_of_mem_drop hr)))) (by decide)
theorem P6 {α : Type} {l : List α} {i : Nat} (h : i < l.length) : (l.take (i + 1)).drop i = [l[i]] := by
 rw [List.take_succ_eq_append_getElem h, List.drop_left' (by simp; omega)]
end Go.Proofs.YthapcdhdfaibkaaGreatDoor
