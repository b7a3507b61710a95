import Derived.Test.YtdopeopehgdccaaGreatBd
section
namespace Go.Proofs.YtdopeopehgdccaaGreat
set_option linter.unusedVariables false
set_option linter.unusedSimpArgs false
theorem b5w {w : World} {L : List Nat} {e : TypeId} {a : Option Addr} {m c : Nat} {xs : List (List Int × List Int)} (h : Ro w L (Enc.sl e (Enc.pair (Enc.sl tI Enc.int) (Enc.sl tI Enc.int))) [.slice a m c] xs) : ∀ x ∈ xs, (∀ y ∈ x.1, I64 y) ∧ ∀ y ∈ x.2, I64 y := by
 intro x hx
 obtain ⟨i, hi, rfl⟩ := List.getElem_of_mem hx
 obtain ⟨_, _, ci, _, h1, _⟩ := h.elem i hi
 obtain ⟨c1, c2, rfl, h2, h3⟩ := h1.pair
 obtain ⟨a', c', rfl⟩ := h3.sl
 obtain ⟨a2, c2', rfl⟩ := h2.sl
 exact ⟨h2.i64, h3.i64⟩
theorem a5h {n : Nat} : ∀ {m out : List (List Int)}, (m.foldl H8 out).length ≤ out.length + m.length ∧ ((∀ t ∈ out, t.length ≤ n) → (∀ t ∈ m, t.length ≤ n) → ∀ t ∈ m.foldl H8 out, t.length ≤ n)
 | [], out => by simp
 | x :: m, out => by
  have h1 := a5h (n := n) (m := m) (out := H8 out x)
  have h2 := b3q (l := out) (t := x)
  refine ⟨by simp only [List.foldl_cons, List.length_cons]; omega, fun ho hm => h1.2 (fun t ht => ?_) (fun t ht => hm t (by simp [ht]))⟩
  rcases a4Q ht with ht | rfl
  ·exact ho t ht
  ·exact hm _ (by simp)
def c1M (s : List Int) (d7 : List (Int × List Int)) (out : List (List Int)) (q : List Int × List (Int × List Int)) : List (List Int) := (c1y s q d7).foldl H8 out
def c2H (s : List Int) (u : List (List Int × List (Int × List Int))) (d7 : List (Int × List Int)) : List (List Int) := if J4 s u then u.foldl (c1M s d7) [] else []
theorem b1Q {s : List Int} {u : List (List Int × List (Int × List Int))} (h : J4 s u = true) : u.length ≤ 3 ∧ ∀ q ∈ u, D2 s q = true := by
 simp only [J4, a2P, inR, Bool.and_eq_true, decide_eq_true_eq, Bool.not_eq_true', List.any_eq_false] at h
 refine ⟨by omega, fun q hq => ?_⟩
 have := h.2 q hq
 cases hk : D2 s q with
 | true => rfl
 | false => simp [hk] at this
theorem b3O {d8 : List (Int × List Int)} : (f0 (fun t => inR t 10 17) d8).length ≤ 8 := by
 have h1 : (f0 (fun t => inR t 10 17) d8).Pairwise (· < ·) := (a4o List.Pairwise.nil).1
 have h2 : ((f0 (fun t => inR t 10 17) d8).map fun x => (x - 10).toNat).Nodup := by
  unfold List.Nodup
  rw [List.pairwise_map]
  refine List.Pairwise.imp_of_mem (fun {a b} ha hb hab e => ?_) h1
  have ra := b0M a ha
  have rb := b0M b hb
  omega
 have h3 := a3S (n := 8) h2 fun x hx => by
  obtain ⟨y, hy, rfl⟩ := List.mem_map.1 hx
  have := b0M y hy
  omega
 simpa using h3
theorem b7U {u : List Int} {n : Nat} (h : ∀ i, i < n → O6 u (fzN u i) ≤ 9) : ∀ x ∈ G4 u n, I64 x := by
 intro x hx
 simp only [G4, List.mem_map, List.mem_range] at hx
 obtain ⟨i, hi, rfl⟩ := hx
 have := h i hi
 unfold I64; constructor <;> omega
end Go.Proofs.YtdopeopehgdccaaGreat
end
section
namespace Go.Proofs.YtdopeopehgdccaaGreat
set_option linter.unusedVariables false
set_option linter.unusedSimpArgs false
def a3T (v : List Int) (p : Int × Int) : Bool := decide (at0 v p.1 = p.2)
def V5 (m : Int × List Int × Int × Int × Int) (v : List Int) (f : Int × List Int) : Bool := decide (f.1 = m.1) && (m.2.1.zip v).all (a3T f.2)
theorem a1w {a b : List Int} {p : Int × Int → Bool} {g : Nat} (h : g < a.length) (h2 : g < b.length) : ((a.zip b).drop g).all p = (p (a[g], b[g]) && ((a.zip b).drop (g + 1)).all p) := by
 rw [List.drop_eq_getElem_cons (by simp; omega)]
 simp
theorem a3E {a b : List Int} {p : Int × Int → Bool} {g : Nat} (h : a.length ≤ g) : ((a.zip b).drop g).all p = true := by
 rw [List.drop_eq_nil_of_le (by simp; omega)]; rfl
theorem b6Z {α : Type} {s : List α} {p : α → Bool} : s.filter (fun x => !!p x) = s.filter p := by
 congr 1; funext x; cases p x <;> rfl
theorem b4v {s : List Int} {m : Int × List Int × Int × Int × Int} {f : Int × List Int} (h1 : R1 s m = true) (h2 : N7 s f = true) (e : f.1 = m.1) : ∀ i ∈ m.2.1, 0 ≤ i ∧ i < f.2.length := by
 simp only [R1, a0I, N7, Z0, Bool.and_eq_true, decide_eq_true_eq, Bool.not_eq_true', List.any_eq_false] at h1 h2
 intro i hi
 have h3 := h1.2.2.1 i hi
 have h4 := h2.2.1
 rw [e] at h4
 simp only [inR, Bool.not_eq_true, Bool.and_eq_false_imp, Bool.and_eq_true, decide_eq_true_eq, decide_eq_false_iff_not] at h3
 omega
end Go.Proofs.YtdopeopehgdccaaGreat
end
section
namespace Go.Proofs.YtdopeopehgdccaaGreat
set_option linter.unusedVariables false
set_option linter.unusedSimpArgs false
abbrev Mth := Int × List Int × Int × Int × Int
abbrev Fct := Int × List Int
abbrev Lin := Int × (Int × List Int) × Int × List Int
abbrev Rul := Int × Int × List Int
def atM (l : List Mth) (i : Int) : Mth := l.getD i.toNat (0, [], 0, 0, 0)
theorem S6 {l : List Mth} {i : Int} (h : i.toNat < l.length) : atM l i = l[i.toNat] := by simp [atM, List.getD, h]
def atR (l : List Rul) (i : Int) : Rul := l.getD i.toNat (0, 0, [])
theorem a0d {n a b : Int} (h : inR n a b = true) : a ≤ n ∧ n ≤ b := of_decide_eq_true h
def R7 (s : List Int) (l : List Mth) (a : Int × List Int) : Bool := E2 s l && (inR a.1 0 ((l.length : Int) - 1) && (decide (a.2.length = (atM l a.1).2.1.length) && T7 a.2))
theorem a0x {s : List Int} {l : List Mth} {a : Int × List Int} (h : R7 s l a = true) : E2 s l = true ∧ (0 ≤ a.1 ∧ a.1.toNat < l.length) ∧ a.2.length = (atM l a.1).2.1.length ∧ T7 a.2 = true := by
 simp only [R7, Bool.and_eq_true, decide_eq_true_eq] at h
 have h1 := a0d h.2.1
 exact ⟨h.1, ⟨by omega, by omega⟩, h.2.2.1, h.2.2.2⟩
theorem a8J {s : List Int} {l : List Mth} (h : E2 s l = true) : ∀ m ∈ l, R1 s m = true := by
 simp only [E2, Bool.and_eq_true, Bool.not_eq_true', List.any_eq_false, decide_eq_true_eq] at h
 intro m hm
 have := h.2.2 m hm
 simpa using this
theorem b6G {s : List Int} {l : List Mth} {a : Int × List Int} (h : R7 s l a = true) : R1 s (atM l a.1) = true := by
 obtain ⟨h1, h2, _⟩ := a0x h
 rw [S6 h2.2]
 exact a8J h1 _ (List.getElem_mem _)
theorem b6Y {s : List Int} {l : List Mth} {a : Int × List Int} {d7 : List Fct} (h : R7 s l a = true) (hf : F1 s d7 = true) : ∀ f ∈ d7, f.1 = (atM l a.1).1 → ∀ i ∈ (atM l a.1).2.1, 0 ≤ i ∧ i < f.2.length :=
 fun f hm e => b4v (b6G h) ((Q3 hf).2 f hm) e
def c1B (r : Rul) (f x : Fct) : Bool := decide (x.1 = r.1) && decide (P7 (r.2.1, a3k r.2.2 x.2) f = 0)
def b9R (d7 : List Fct) (f : Fct) (r : Rul) : Bool := d7.any (c1B r f)
def c2r (a1h : List Rul) (d7 : List Fct) (f : Fct) : Int := J0 (b9R d7 f) a1h
def b9P (U6 : List Int) (before : List Lin) (v : Int) : Bool := G0 U6 v || before.any (fun y => G0 y.2.2.2 v)
def c1I (s : List Int) (r : Rul) (x y : Fct) : Bool := b7Z s r y && decide (P7 (c1C s r y, c1L s r y) x = 0)
def b9L (s : List Int) (l : List Mth) (d7 : List Fct) (kn : Int → Bool) (x : Lin) : Bool :=
 R7 s l x.2.1 && (decide ((atM l x.2.1.1).2.2.1 = 0) && ((!x.2.1.2.any (fun v => !kn v)) && M6 (d7.filter (V5 (atM l x.2.1.1) x.2.1.2)) x.2.2))
def b9G (s : List Int) (a1h : List Rul) (gv : Bool) (x : Lin) : Bool := inR x.1 0 ((a1h.length : Int) - 1) && (N7 s x.2.2 && gv)
def c0c (s : List Int) (l : List Mth) (a1h : List Rul) (d7 : List Fct) (U6 : List Int) (before : List Lin) (x : Lin) : Bool :=
 if x.1 = -1 then b9L s l d7 (b9P U6 before) x else b9G s a1h (before.any fun y => c1I s (atR a1h x.1) x.2.2 y.2.2) x
def b7F : Lin := (0, (0, []), 0, [])
def c0g (s : List Int) (l : List Mth) (a1h : List Rul) (d7 : List Fct) (U6 : List Int) (lines : List Lin) (g : Nat) : Bool :=
 ((List.range lines.length).drop g).all fun i => c0c s l a1h d7 U6 (lines.take i) (lines.getD i b7F)
def c1a (lines : List Lin) (f : Fct) : Bool := decide (P7 (lines.getD (lines.length - 1) b7F).2.2 f = 0)
def c2n (s : List Int) (l : List Mth) (a1h : List Rul) (d7 : List Fct) (U6 : List Int) (f : Fct) (lines : List Lin) : Bool :=
 (E2 s l && a8g s a1h) && (F1 s d7 && (decide (0 < lines.length) && (c1a lines f && c0g s l a1h d7 U6 lines 0)))
-- the other one's way
def c0N (lines : List Lin) (g : Nat) : List Fct := ((lines.take g).map fun x => x.2.2).foldl D4 []
def c0W (U6 : List Int) (lines : List Lin) (g : Nat) : List Int := (lines.take g).foldl (fun v x => x.2.2.2.foldl J8 v) (M8 (U6.filter fun t => inR t 0 9))
def c0S (s : List Int) (l : List Mth) (a1h : List Rul) (d7 : List Fct) (F : List Fct) (V : List Int) (x : Lin) : Bool :=
 if x.1 = -1 then b9L s l d7 (G0 V) x else b9G s a1h (b9R F x.2.2 (atR a1h x.1)) x
def c2s (s : List Int) (l : List Mth) (a1h : List Rul) (d7 : List Fct) (U6 : List Int) (lines : List Lin) (g : Nat) : Bool :=
 ((List.range lines.length).drop g).all fun i => c0S s l a1h d7 (c0N lines i) (c0W U6 lines i) (lines.getD i b7F)
theorem a5n {x : List Fct} : ∀ {v : List Fct} (y : Fct), y ∈ x.foldl D4 v ↔ y ∈ v ∨ y ∈ x := by
 induction x with
 | nil => intro v y; simp
 | cons a x ih =>
  intro v y
  rw [List.foldl_cons, ih, List.mem_cons]
  have : y ∈ D4 v a ↔ y ∈ v ∨ y = a := by
   refine ⟨fun h => a4Q h, ?_⟩
   rintro (h | rfl)
   ·exact b2O h
   ·cases hh : M6 v y
    ·exact b6B hh
    ·exact b2O (b2T.1 hh)
  rw [this, or_assoc]
-- sizes
abbrev c2E : Lin → Nat := fun x => x.2.1.2.length + x.2.2.2.length
end Go.Proofs.YtdopeopehgdccaaGreat
end
