import Derived.Test.YtlfhopooaejpfaaGreatGw
section
namespace Go.Proofs.YtlfhopooaejpfaaGreat
set_option linter.unusedVariables false
set_option linter.unusedSimpArgs false
abbrev Mth := Int × List Int × Int × Int × Int
abbrev Fct := Int × List Int
abbrev Lin := Int × (Int × List Int) × Int × List Int
abbrev Rul := Int × Int × List Int
def atM (l : List Mth) (i : Int) : Mth := l.getD i.toNat (0, [], 0, 0, 0)
theorem a3O {l : List Mth} {i : Int} (h : i.toNat < l.length) : atM l i = l[i.toNat] := by simp [atM, List.getD, h]
def atR (l : List Rul) (i : Int) : Rul := l.getD i.toNat (0, 0, [])
def a2p (s : List Int) (l : List Mth) (a : Int × List Int) : Bool := C0 s l && (inR a.1 0 ((l.length : Int) - 1) && (decide (a.2.length = (atM l a.1).2.1.length) && a1W a.2))
theorem b3V {s : List Int} {l : List Mth} (h : C0 s l = true) : ∀ m ∈ l, U3 s m = true := by
 simp only [C0, Bool.and_eq_true, Bool.not_eq_true', List.any_eq_false, decide_eq_true_eq] at h
 intro m hm
 have := h.2.2 m hm
 simpa using this
def a4B (r : Rul) (f x : Fct) : Bool := decide (x.1 = r.1) && decide (Q0 (r.2.1, vals r.2.2 x.2) f = 0)
def a6n (c6 : List Fct) (f : Fct) (r : Rul) : Bool := c6.any (a4B r f)
def a1U (d4 : List Rul) (c6 : List Fct) (f : Fct) : Int := J8 (a6n c6 f) d4
theorem b1d {d4 : List Rul} {c6 : List Fct} {f : Fct} {g h : Nat} (po : ∀ x ∈ d4.take g, a6n c6 f x = false) (hg : g < d4.length) (hh : h < c6.length) (e1 : c6[h].1 = d4[g].1) (e2 : Q0 (d4[g].2.1, vals d4[g].2.2 c6[h].2) f = 0) : (g : Int) = a1U d4 c6 f :=
 V4 hg po (List.any_eq_true.2 ⟨c6[h], List.getElem_mem _, by rw [a4B, decide_eq_true e1, decide_eq_true e2]; rfl⟩)
theorem a9z {d4 : List Rul} {c6 : List Fct} {f : Fct} {g : Nat} (po : ∀ x ∈ d4.take g, a6n c6 f x = false) (hg : ¬ g < d4.length) : (-1 : Int) = a1U d4 c6 f := S7 hg po
def b9W (m6 : List Int) (before : List Lin) (v : Int) : Bool := R5 m6 v || before.any (fun y => R5 y.2.2.2 v)
def c2k (s : List Int) (r : Rul) (x y : Fct) : Bool := b7j s r y && decide (Q0 (c2B s r y, c2r s r y) x = 0)
def c0p (s : List Int) (l : List Mth) (c6 : List Fct) (kn : Int → Bool) (x : Lin) : Bool :=
 a2p s l x.2.1 && (decide ((atM l x.2.1.1).2.2.1 = 0) && ((!x.2.1.2.any (fun v => !kn v)) && I5 (c6.filter (C7 (atM l x.2.1.1) x.2.1.2)) x.2.2))
def b9S (s : List Int) (d4 : List Rul) (gv : Bool) (x : Lin) : Bool := inR x.1 0 ((d4.length : Int) - 1) && (H8 s x.2.2 && gv)
def c0m (s : List Int) (l : List Mth) (d4 : List Rul) (c6 : List Fct) (m6 : List Int) (before : List Lin) (x : Lin) : Bool :=
 if x.1 = -1 then c0p s l c6 (b9W m6 before) x else b9S s d4 (before.any fun y => c2k s (atR d4 x.1) x.2.2 y.2.2) x
def b7v : Lin := (0, (0, []), 0, [])
def b9P (s : List Int) (l : List Mth) (d4 : List Rul) (c6 : List Fct) (m6 : List Int) (lines : List Lin) (g : Nat) : Bool :=
 ((List.range lines.length).drop g).all fun i => c0m s l d4 c6 m6 (lines.take i) (lines.getD i b7v)
def c1s (lines : List Lin) (f : Fct) : Bool := decide (Q0 (lines.getD (lines.length - 1) b7v).2.2 f = 0)
def c3o (s : List Int) (l : List Mth) (d4 : List Rul) (c6 : List Fct) (m6 : List Int) (f : Fct) (lines : List Lin) : Bool :=
 (C0 s l && C4 s d4) && (G4 s c6 && (decide (0 < lines.length) && (c1s lines f && b9P s l d4 c6 m6 lines 0)))
-- the other one's way
def c1q (lines : List Lin) (g : Nat) : List Fct := ((lines.take g).map fun x => x.2.2).foldl w6 []
def c0Y (m6 : List Int) (lines : List Lin) (g : Nat) : List Int := (lines.take g).foldl (fun v x => x.2.2.2.foldl M3 v) (I2 (m6.filter fun t => inR t 0 9))
def c1c (s : List Int) (l : List Mth) (d4 : List Rul) (c6 : List Fct) (F : List Fct) (V : List Int) (x : Lin) : Bool :=
 if x.1 = -1 then c0p s l c6 (R5 V) x else b9S s d4 (a6n F x.2.2 (atR d4 x.1)) x
def c3I (s : List Int) (l : List Mth) (d4 : List Rul) (c6 : List Fct) (m6 : List Int) (lines : List Lin) (g : Nat) : Bool :=
 ((List.range lines.length).drop g).all fun i => c1c s l d4 c6 (c1q lines i) (c0Y m6 lines i) (lines.getD i b7v)
theorem a2c {x : List Fct} : ∀ {v : List Fct} (y : Fct), y ∈ x.foldl w6 v ↔ y ∈ v ∨ y ∈ x := by
 induction x with
 | nil => intro v y; simp
 | cons a x ih =>
  intro v y
  rw [List.foldl_cons, ih, List.mem_cons]
  have : y ∈ w6 v a ↔ y ∈ v ∨ y = a := by
   refine ⟨fun h => a0z h, ?_⟩
   rintro (h | rfl)
   ·exact a2P h
   ·cases hh : I5 v y
    ·exact a5j hh
    ·exact a2P (a0E.1 hh)
  rw [this, or_assoc]
-- sizes
abbrev c3Z : Lin → Nat := fun x => x.2.1.2.length + x.2.2.2.length
theorem b6o : ∀ {l s : List Int}, (l.foldl M3 s).length ≤ s.length + l.length := by
 intro l
 induction l with
 | nil => intro s; simp
 | cons a l ih =>
  intro s
  have h1 := ih (s := M3 s a)
  have h2 := a2M (h := R5 s a) (p := fun y => decide (a < y)) (f := a) (l := s)
  simp only [List.foldl_cons, List.length_cons]
  unfold M3 at h1 ⊢; omega
end Go.Proofs.YtlfhopooaejpfaaGreat
end
section
namespace Go.Proofs.YtlfhopooaejpfaaGreat
set_option linter.unusedVariables false
set_option linter.unusedSimpArgs false
abbrev Acs := Int × List Int
abbrev Rch := List Fct × List Int × List Acs × Int
def U5 (l : List Mth) (c6 : List Fct) (a : Acs) : List Fct := c6.filter (C7 (atM l a.1) a.2)
def c2p (l : List Mth) (c6 : List Fct) (F : List Fct) (a : Acs) : List Fct := (U5 l c6 a).foldl w6 F
def wvI (v : List Int) (f : Fct) : List Int := I2 ((v ++ f.2).filter fun t => inR t 0 9)
def pvI (v : List Int) (f : Fct) : List Int := f.2.foldl M3 v
def c4g (l : List Mth) (c6 : List Fct) (v : List Int) (a : Acs) : List Int := (U5 l c6 a).foldl wvI v
def c2b (l : List Mth) (c6 : List Fct) (v : List Int) (a : Acs) : List Int := (U5 l c6 a).foldl pvI v
def c2g (n : Nat) : Int := if 0 < n then 1 else 0
def b0K (l : List Mth) (r : Rch) : List Acs := d7 r.2.1 r.2.2.1 l 0
def b5p (l : List Mth) (c6 : List Fct) (r : Rch) : Rch :=
 ((b0K l r).foldl (c2p l c6) r.1, (b0K l r).foldl (c2b l c6) r.2.1, r.2.2.1 ++ b0K l r, r.2.2.2 + c2g (b0K l r).length)
-- order
theorem a5F {α : Type} {r : α → α → Bool} : ∀ {l : List α}, l.Pairwise (fun a b => r a b = true) → H2 r l = true
 | [], _ => rfl
 | [_], _ => rfl
 | a :: b :: l, h => by
  rw [List.pairwise_cons] at h
  rw [H2, h.1 b (by simp), a5F h.2]; rfl
theorem a5L {α : Type} {r : α → α → Bool} (tr : ∀ a b c, r a b = true → r b c = true → r a c = true) : ∀ {l : List α}, H2 r l = true → l.Pairwise (fun a b => r a b = true)
 | [], _ => .nil
 | [_], _ => by simp
 | a :: b :: l, h => by
  simp only [H2, Bool.and_eq_true] at h
  have h2 := a5L tr h.2
  rw [List.pairwise_cons]
  refine ⟨fun c hc => ?_, h2⟩
  rw [List.pairwise_cons] at h2
  rcases List.mem_cons.1 hc with rfl | hc
  ·exact h.1
  ·exact tr _ _ _ h.1 (h2.1 c hc)
theorem b2t {α : Type} {r : α → α → Bool} {f : α} (tr : ∀ a b c, r a b = true → r b c = true → r a c = true) : ∀ {l : List α}, l.Pairwise (fun a b => r a b = true) → (∀ y ∈ l, r f y = false → r y f = true) →
  (if (l.any (r f)) then O6 (r f) f l else l ++ [f]).Pairwise (fun a b => r a b = true) ∧ ∀ y, y ∈ (if (l.any (r f)) then O6 (r f) f l else l ++ [f]) → y ∈ l ∨ y = f := by
 intro l
 induction l with
 | nil => intro _ _; simp
 | cons z l ih =>
  intro h ht
  rw [List.pairwise_cons] at h
  have ih' := ih h.2 fun y hy => ht y (by simp [hy])
  cases hz : r f z
  ·simp only [List.any_cons, hz, Bool.false_or, O6, Bool.false_eq_true, if_false]
   have e : (if (l.any (r f)) then z :: O6 (r f) f l else z :: l ++ [f]) = z :: (if (l.any (r f)) then O6 (r f) f l else l ++ [f]) := by split <;> simp
   rw [e]
   refine ⟨?_, fun y hy => ?_⟩
   ·rw [List.pairwise_cons]
    refine ⟨fun y hy => ?_, ih'.1⟩
    rcases ih'.2 y hy with hy | rfl
    ·exact h.1 y hy
    ·exact ht z (by simp) hz
   ·rcases List.mem_cons.1 hy with rfl | hy
    ·simp
    ·rcases ih'.2 y hy with hy | rfl
     ·simp [hy]
     ·simp
  ·simp only [List.any_cons, hz, Bool.true_or, if_true, O6]
   refine ⟨?_, fun y hy => by simp only [List.mem_cons] at hy ⊢; rcases hy with h | h | h <;> simp [h]⟩
   rw [List.pairwise_cons, List.pairwise_cons]
   refine ⟨fun y hy => ?_, h⟩
   rcases List.mem_cons.1 hy with rfl | hy
   ·exact hz
   ·exact tr _ _ _ hz (h.1 y hy)
theorem b4K {a b c : Int} : R6 a b < 0 → R6 b c < 0 → R6 a c < 0 := by unfold R6; grind
theorem a2q {a b : Int} : R6 a b = 0 ↔ a = b := by unfold R6; grind
theorem b0i : ∀ {a b c : List Int}, J7 a b < 0 → J7 b c < 0 → J7 a c < 0
 | [], [], c, h, _ => by simp [J7] at h
 | [], _ :: _, [], _, h => by simp [J7] at h
 | [], _ :: _, _ :: _, _, _ => by simp [J7]
 | _ :: _, [], _, h, _ => by simp [J7] at h
 | _ :: _, _ :: _, [], _, h => by simp [J7] at h
 | x :: a, y :: b, z :: c, h1, h2 => by
  have h3 := b0i (a := a) (b := b) (c := c)
  have h4 := b4K (a := x) (b := y) (c := z)
  have h5 := a2q (a := x) (b := y)
  have h6 := a2q (a := y) (b := z)
  have h7 := a2q (a := x) (b := z)
  unfold J7 at h1 h2 ⊢; grind
theorem b4E {a b c : Fct} (h1 : Q0 a b < 0) (h2 : Q0 b c < 0) : Q0 a c < 0 := by
 have h3 := b0i (a := a.2) (b := b.2) (c := c.2)
 have h4 := b4K (a := a.1) (b := b.1) (c := c.1)
 have h5 := a2q (a := a.1) (b := b.1)
 have h6 := a2q (a := b.1) (b := c.1)
 have h7 := a2q (a := a.1) (b := c.1)
 unfold Q0 at h1 h2 ⊢; grind
abbrev a0I (l : List Fct) : Prop := l.Pairwise (fun a b => ltF a b = true)
theorem b2y {l : List Fct} {f : Fct} (h : a0I l) : a0I (w6 l f) := by
 cases hh : I5 l f
 ·rw [w6, hh, W3, if_neg (by decide)]
  refine (b2t (fun a b c h1 h2 => ?_) h fun y hy hf => ?_).1
  ·simp only [ltF, decide_eq_true_eq] at h1 h2 ⊢; exact b4E h1 h2
  ·simp only [ltF, decide_eq_false_iff_not, decide_eq_true_eq] at hf ⊢
   have h1 := b2R (a := f) (b := y)
   rcases Int.lt_or_eq_of_le (show Q0 y f ≤ 0 by omega) with h2 | h2
   ·exact h2
   ·rw [a5q] at h2
    subst h2
    rw [a0E.2 hy] at hh; cases hh
 ·rw [a4O hh]; exact h
theorem a6l : ∀ {m x : List Fct}, a0I x → a0I (m.foldl w6 x)
 | [], _, h => h
 | f :: m, x, h => a6l (m := m) (b2y h)
theorem a4o {l : List Fct} (h : a0I l) : l.Nodup :=
 h.imp fun {a b} hab e => by subst e; simp [ltF, a5q.2 rfl] at hab
theorem a4I {v : List Int} (h : v.Pairwise (· < ·)) (h2 : ∀ x ∈ v, 0 ≤ x ∧ x ≤ 9) : X2 v = true := by
 rw [X2, a5F (h.imp fun {a b} hab => by simpa [ltB] using hab), a5t h2]; rfl
theorem a1a {v : List Int} (h : X2 v = true) : v.Pairwise (· < ·) ∧ ∀ x ∈ v, 0 ≤ x ∧ x ≤ 9 := by
 simp only [X2, Bool.and_eq_true] at h
 refine ⟨(a5L (fun a b c h1 h2 => ?_) h.1).imp fun {a b} hab => by simpa [ltB] using hab, a6q h.2⟩
 simp only [ltB, decide_eq_true_eq] at h1 h2 ⊢; omega
-- values
theorem a8F {v : List Int} {f : Fct} (h : v.Pairwise (· < ·)) : (pvI v f).Pairwise (· < ·) ∧ ∀ y, y ∈ pvI v f ↔ y ∈ v ∨ y ∈ f.2 := a1r h
theorem b9a {v : List Int} {f : Fct} (h : X2 v = true) (hf : ∀ x ∈ f.2, 0 ≤ x ∧ x ≤ 9) : wvI v f = pvI v f := by
 obtain ⟨h1, h2⟩ := a1a h
 have h3 := a8F (f := f) h1
 refine a8a a6B h3.1 fun x => ?_
 rw [wvI, a2Q, List.mem_filter, h3.2 x, List.mem_append]
 refine ⟨fun h => h.1, fun h => ⟨h, ?_⟩⟩
 simp only [inR, decide_eq_true_eq]
 rcases h with h | h
 ·exact h2 x h
 ·exact hf x h
theorem b9X {v : List Int} {f : Fct} (h : X2 v = true) (hf : ∀ x ∈ f.2, 0 ≤ x ∧ x ≤ 9) : X2 (pvI v f) = true := by
 obtain ⟨h1, h2⟩ := a1a h
 have h3 := a8F (f := f) h1
 refine a4I h3.1 fun x hx => ?_
 rcases (h3.2 x).1 hx with hx | hx
 ·exact h2 x hx
 ·exact hf x hx
theorem b2n {m : List Fct} : ∀ {v : List Int}, X2 v = true → (∀ f ∈ m, ∀ x ∈ f.2, 0 ≤ x ∧ x ≤ 9) → m.foldl wvI v = m.foldl pvI v ∧ X2 (m.foldl pvI v) = true := by
 induction m with
 | nil => intro v h _; exact ⟨rfl, h⟩
 | cons f m ih =>
  intro v h hf
  have h1 := hf f (by simp)
  have h2 := ih (b9X h h1) fun f hm => hf f (by simp [hm])
  rw [List.foldl_cons, List.foldl_cons, b9a h h1]
  exact h2
theorem c0l {v : List Int} {f : Fct} : (wvI v f).length ≤ 10 :=
 a1F (a4I a6B fun x hx => by
  simp only [wvI, a2Q, List.mem_filter] at hx
  simpa [inR] using hx.2)
theorem b5C {m : List Fct} : ∀ {v : List Int}, v.length ≤ 10 → (m.foldl wvI v).length ≤ 10 := by
 induction m with
 | nil => intro v h; exact h
 | cons f m ih => intro v h; exact ih c0l
-- facts
-- the accesses
theorem a9i {j6 : List Int} : ∀ {t : Nat}, ∀ l ∈ o6 j6 t, ∀ x ∈ l, x ∈ j6
 | 0, l, h, x, hx => by simp [o6] at h; subst h; cases hx
 | t + 1, l, h, x, hx => by
  simp only [o6, List.mem_flatMap, List.mem_map] at h
  obtain ⟨y, hy, v, hv, rfl⟩ := h
  rcases List.mem_append.1 hx with hx | hx
  ·exact a9i y hy x hx
  ·obtain rfl := List.mem_singleton.1 hx; exact hv
theorem b6g {j6 : List Int} {log : List Acs} : ∀ {l : List Mth} {i : Int} {a : Acs}, a ∈ d7 j6 log l i → i ≤ a.1 ∧ ∃ h : (a.1 - i).toNat < l.length, a.2.length = l[(a.1 - i).toNat].2.1.length ∧ (∀ x ∈ a.2, x ∈ j6) ∧ M0 log a = false
 | [], _, a, h => by simp [d7] at h
 | m :: l, i, a, h => by
  simp only [d7, List.mem_append] at h
  rcases h with h | h
  ·split at h
   ·cases h
   ·simp only [O0, List.mem_map, List.mem_filter] at h
    obtain ⟨v, ⟨hv, hn⟩, rfl⟩ := h
    refine ⟨Int.le_refl _, by simp, ?_, a9i v hv, by simpa using hn⟩
    simp only [Int.sub_self, Int.toNat_zero, List.getElem_cons_zero]
    exact M9 v hv
  ·obtain ⟨h1, h2, h3, h4, h5⟩ := b6g (l := l) h
   have e : (a.1 - i).toNat = (a.1 - (i + 1)).toNat + 1 := by omega
   refine ⟨by omega, by simp only [List.length_cons]; omega, ?_, h4, h5⟩
   simp only [e, List.getElem_cons_succ]; exact h3
theorem a8d {j6 : List Int} {log : List Acs} {l : List Mth} {g : Nat} (hg : g < (d7 j6 log l 0).length) :
  (0 ≤ (d7 j6 log l 0)[g].1 ∧ (d7 j6 log l 0)[g].1.toNat < l.length) ∧ (d7 j6 log l 0)[g].2.length = (atM l (d7 j6 log l 0)[g].1).2.1.length := by
 obtain ⟨h1, h2, h3, _⟩ := b6g (List.getElem_mem hg)
 rw [Int.sub_zero] at h2
 simp only [Int.sub_zero] at h3
 exact ⟨⟨h1, h2⟩, by rw [a3O h2]; exact h3⟩
-- a step of a state
def b8n (s : List Int) (l : List Mth) (c6 : List Fct) (r : Rch) : Bool := C0 s l && (G4 s c6 && (G4 s r.1 && (X2 r.2.1 && inR r.2.2.2 0 100)))
def c3J (s : List Int) (l : List Mth) (c6 : List Fct) (r : Rch) : Rch := if b8n s l c6 r then b5p l c6 r else r
def c3E (s : List Int) (l : List Mth) (c6 : List Fct) (r : Rch) : Bool := b8n s l c6 r && decide (0 < (b0K l r).length)
section
variable {l : List Mth} {c6 F : List Fct} {V : List Int} {A : List Acs} {N : Int} {g : Nat}
end
-- states that are reached
def a6c (l : List Mth) (c6 : List Fct) (m6 : List Int) : Nat → Rch
 | 0 => ([], I2 (m6.filter fun t => inR t 0 9), [], 0)
 | n + 1 => b5p l c6 (a6c l c6 m6 n)
def b2f (l : List Mth) (c6 : List Fct) (r : Rch) : Nat → Rch → Bool
 | 0, x => decide (x = r)
 | n + 1, x => decide (x = r) || (decide (0 < (b0K l x).length) && b2f l c6 r n (b5p l c6 x))
def b5F (s : List Int) (l : List Mth) (c6 : List Fct) (m6 : List Int) (r : Rch) : Bool := (C0 s l && G4 s c6) && b2f l c6 r 40 (a6c l c6 m6 0)
structure rInv (s : List Int) (l : List Mth) (c6 : List Fct) (n : Nat) (x : Rch) : Prop where
 asc : a0I x.1
 sub : ∀ f ∈ x.1, f ∈ c6
 flen : x.1.length ≤ 24
 fel : ∀ f ∈ x.1, f.2.length ≤ 3
 vals : X2 x.2.1 = true
 log : x.2.2.1.length ≤ 5000 * n
 loge : ∀ a ∈ x.2.2.1, a.2.length ≤ 3
 rounds : 0 ≤ x.2.2.2 ∧ x.2.2.2 ≤ n
def c3W (s : List Int) (l : List Mth) (c6 : List Fct) (m6 : List Int) (r : Rch) (g : Nat) : Prop :=
 b5F s l c6 m6 r = b2f l c6 r (40 - g) (a6c l c6 m6 g) ∧ rInv s l c6 g (a6c l c6 m6 g)
section
variable {s : List Int} {l : List Mth} {c6 : List Fct} {m6 : List Int} {r : Rch} {g : Nat}
def c3R (s : List Int) (l : List Mth) (c6 : List Fct) (m6 : List Int) (r : Rch) (g : Nat) : Prop :=
 (g ≤ 40 → b5F s l c6 m6 r = ((C0 s l && G4 s c6) && b2f l c6 r (40 - g) (a6c l c6 m6 g))) ∧ (40 < g → b5F s l c6 m6 r = false) ∧ (0 < g → C0 s l = true ∧ G4 s c6 = true) ∧ rInv s l c6 g (a6c l c6 m6 g)
end
end Go.Proofs.YtlfhopooaejpfaaGreat
end
