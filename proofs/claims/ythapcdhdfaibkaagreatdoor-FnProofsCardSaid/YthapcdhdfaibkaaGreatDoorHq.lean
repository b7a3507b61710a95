import Derived.Test.YthapcdhdfaibkaaGreatDoorT23
import Derived.Test.YthapcdhdfaibkaaGreatDoorGt
section
namespace Go.Proofs.YthapcdhdfaibkaaGreatDoor
set_option linter.unusedVariables false
set_option linter.unusedSimpArgs false
abbrev MT5 := Int × List Int × Int × Int × Int
abbrev AT2 := Int × List Int
abbrev GS := List (Int × Int) × List Bool × List Int
def b9r (a : AT2) (b : List Int) (i : Int) : Bool := !inR i 0 ((a.2.length : Int) - 1) || (inR (at0 a.2 i) 10 17 && !L9 b (at0 a.2 i))
def b7n (m : MT5) (a : AT2) (b : List Int) : Bool := decide (m.1 = a.1) && !m.2.1.any (b9r a b)
def b3j (l : List MT5) (a : AT2) (b : List Int) : Int := M6 (fun m => b7n m a b) l
def b5h (l : List MT5) (b : List Int) : List AT2 → List Bool → Nat → Int × Int × Bool
 | a :: al, d :: ds, i => if !d && decide (0 ≤ b3j l a b) then ((i : Int), b3j l a b, true) else b5h l b al ds (i + 1)
 | _, _, _ => (0, 0, false)
def gNx (l : List MT5) (y9 : List AT2) (σ : GS) : Int × Int × Bool := b5h l σ.2.2 y9 σ.2.1 0
def grS (l : List MT5) (y9 : List AT2) (σ : GS) : GS := cond (gNx l y9 σ).2.2
 (σ.1 ++ [((gNx l y9 σ).1, (gNx l y9 σ).2.1)], σ.2.1.set (gNx l y9 σ).1.toNat true, σ.2.2 ++ (y9.getD (gNx l y9 σ).1.toNat (0, [])).2) σ
def grI (l : List MT5) (y9 : List AT2) : Nat → GS
 | 0 => ([], List.replicate y9.length false, [])
 | n + 1 => grS l y9 (grI l y9 n)
def grF (l : List MT5) (y9 : List AT2) : GS := grI l y9 y9.length
section
variable {l : List MT5} {y9 al : List AT2} {ds : List Bool} {b b' : List Int} {i n g : Nat} {σ : GS}
def grP (l : List MT5) (y9 : List AT2) (n : Nat) : Prop := (grI l y9 n).1.length = n
end
def b7s (b : List Int) (a : AT2) : List Int := (a.2.filter fun t => inR t 10 17).foldl E4 b
def grV (l : List MT5) (y9 : List AT2) : Nat → List Int
 | 0 => []
 | n + 1 => cond (gNx l y9 (grI l y9 n)).2.2 (b7s (grV l y9 n) (y9.getD (gNx l y9 (grI l y9 n)).1.toNat (0, []))) (grV l y9 n)
section
variable {l : List MT5} {y9 al : List AT2} {ds : List Bool} {b b' : List Int} {i n g : Nat} {m : MT5} {a : AT2}
end
def exM (m : MT5) : MT5 := cond (decide (m.2.2.1 ≠ 0)) (-1, m.2) m
def exF (l : List MT5) : List MT5 := l.map exM
def b8x (al : List AT2) (ds : List Bool) : List AT2 := ((al.zip ds).filter fun x => x.2).map fun x => x.1
def b6i (l : List MT5) (y9 : List AT2) : List AT2 := b8x y9 (grF (exF l) y9).2.1
section
variable {al : List AT2} {ds : List Bool} {g : Nat} {l : List MT5} {y9 : List AT2}
end
section
variable {l : List MT5} {y9 : List AT2} {g n r i : Nat} {q : List Int × List AT2} {s : List Int}
def sgI (l : List MT5) (y9 : List AT2) (r i : Nat) : Prop := gNx l y9 (grI l y9 r) = b5h l (grI l y9 r).2.2 (y9.drop i) ((grI l y9 r).2.1.drop i) i
end
def b7r (s : List Int) (l : List MT5) (q : List Int × List AT2) : Bool := (B3 s l && S7 s q) && S7 s (q.1, b6i l q.2)
def c0O (s : List Int) (l : List MT5) (q : List Int × List AT2) : List Int := cond (b7r s l q) q.1 []
def c0P (s : List Int) (l : List MT5) (q : List Int × List AT2) : List AT2 := cond (b7r s l q) (b6i l q.2) []
section
variable {s : List Int} {l : List MT5} {q : List Int × List AT2}
end
abbrev GQ := (List Int × List AT2) × List AT2
def b7G (g : GQ) : List Int := G5 (fun t => inR t 10 17) g.1.2
def b7A (s : List Int) (l : List MT5) (g : GQ) : Bool :=
 B3 s l && (b6D s g && (!decide (((grF (exF l) g.1.2).1.length : Int) < g.1.2.length) && !g.2.any fun a => decide (b3j (exF l) a (b7G g) < 0)))
def c0I (s : List Int) (l : List MT5) (g : GQ) : List (Int × Int) := cond (b7A s l g) (grF (exF l) g.1.2).1 []
def c0E (s : List Int) (l : List MT5) (g : GQ) : List Int := cond (b7A s l g) (g.2.map fun a => b3j (exF l) a (b7G g)) []
section
variable {s : List Int} {l : List MT5} {g : GQ} {i : Nat}
end
end Go.Proofs.YthapcdhdfaibkaaGreatDoor
end
section
namespace Go.Proofs.YthapcdhdfaibkaaGreatDoor
set_option linter.unusedVariables false
set_option linter.unusedSimpArgs false
abbrev Stp := Int × Int
def atA (l : List AT2) (i : Int) : AT2 := l.getD i.toNat (0, [])
def stB (y9 : List AT2) (T : List Stp) : List Int := T.foldl (fun b x => b ++ (atA y9 x.1).2) []
def stV (y9 : List AT2) (T : List Stp) : List Int := T.foldl (fun b x => b7s b (atA y9 x.1)) []
def stD (n : Nat) (T : List Stp) : List Bool := T.foldl (fun d x => d.set x.1.toNat true) (List.replicate n false)
def stU (T : List Stp) (i : Int) : Bool := T.any fun y => decide (y.1 = i)
def b7S (l : List MT5) (y9 : List AT2) (T : List Stp) (x : Stp) : Bool := inR x.1 0 ((y9.length : Int) - 1) && (!stU T x.1 && (inR x.2 0 ((l.length : Int) - 1) && b7n (l.getD x.2.toNat (0, [], 0, 0, 0)) (atA y9 x.1) (stB y9 T)))
def b7D (l : List MT5) (y9 : List AT2) (V5 : List Stp) : Nat → Bool
 | 0 => true
 | g + 1 => b7D l y9 V5 g && b7S l y9 (V5.take g) (V5.getD g (0, 0))
def b6H (s : List Int) (l : List MT5) (q : List Int × List AT2) (V5 : List Stp) : Bool := (B3 s l && S7 s q) && (decide ((V5.length : Int) = q.2.length) && b7D l q.2 V5 V5.length)
section
variable {s : List Int} {l : List MT5} {y9 : List AT2} {q : List Int × List AT2} {V5 T : List Stp} {g n : Nat} {x : Stp}
end
end Go.Proofs.YthapcdhdfaibkaaGreatDoor
end
section
namespace Go.Proofs.YthapcdhdfaibkaaGreatDoor
open Go.RowKit
set_option linter.unusedVariables false
set_option linter.unusedSimpArgs false
section
variable {P : Program} {n : Nat} {fr : Fr}
end
def b9m (n : Nat) (k lim : Int) (i : Nat) : Bool := decide (((i : Int) - k + n) % n < lim)
def b9s (x : List Fct) (k lim : Int) (g : Nat) : List Fct := ((List.range g).filter (b9m x.length k lim)).map fun i => x.getD i (0, [])
def c0C (x : List Fct) (k : Int) (g : Nat) : List Fct := ((List.range g).map fun j : Nat => x.getD ((k + j) % x.length).toNat (0, [])).foldl w4 []
def b5x (l : List Mth) (a : Int × List Int) : Int := (atM l a.1).2.2.1
def a9u (l : List Mth) (a8 : List Fct) (a : Int × List Int) : List Fct := a8.filter (v7 (atM l a.1) a.2)
def b9D (l : List Mth) (a8 : List Fct) (a : Int × List Int) (c : Int) : List Fct :=
 if b5x l a = 0 ∨ ((a9u l a8 a).length : Int) ≤ b5x l a then a9u l a8 a
 else b9s (a9u l a8 a) (max 0 c % ((a9u l a8 a).length : Int)) (b5x l a) (a9u l a8 a).length
section
variable {x : List Fct} {k lim c : Int} {g : Nat} {l : List Mth} {a8 : List Fct} {a : Int × List Int}
end
def b9O (m : Mth) (a : AT2) (b : List Int × List Int) : List Int := m.2.1.map fun i => a4T b (at0 a.2 i)
def b8L (l : List Mth) (m : Int) : Int := if (inR m 0 ((l.length : Int) - 1) && inR (atM l m).2.2.2.1 0 99) = true then (atM l m).2.2.2.1 else 0
def b8B (l : List Mth) (log : List (Int × List Int)) : Int := log.foldl (fun n a => n + b8L l a.1) 0
section
variable {l : List Mth} {m i : Int} {g : Nat} {a : AT2} {b : List Int × List Int} {mm : Mth} {log : List (Int × List Int)}
end
end Go.Proofs.YthapcdhdfaibkaaGreatDoor
end
section
namespace Go.Proofs.YthapcdhdfaibkaaGreatDoor
set_option linter.unusedVariables false
set_option linter.unusedSimpArgs false
abbrev Bnd := List Int × List Int
abbrev RS := List Bnd × List Acs × List Fct
def b1I (l : List Mth) (y9 : List AT2) (x : Stp) (b : Bnd) : Acs := (x.2, b9O (atM l x.2) (atA y9 x.1) b)
def rb1 (T : Acs → List Fct) (l : List Mth) (y9 : List AT2) (x : Stp) (σ : RS) (b : Bnd) : RS :=
 (σ.1 ++ b7X [b] (atA y9 x.1) (T (b1I l y9 x b)), cond (Q5 σ.2.1 (b1I l y9 x b)) σ.2.1 (σ.2.1 ++ [b1I l y9 x b]), cond (Q5 σ.2.1 (b1I l y9 x b)) σ.2.2 ((T (b1I l y9 x b)).foldl w4 σ.2.2))
def rbN (T : Acs → List Fct) (l : List Mth) (y9 : List AT2) (x : Stp) (σ : RS) (k : Nat) : RS := (σ.1.take k).foldl (rb1 T l y9 x) ([], σ.2)
def rs1 (T : Acs → List Fct) (l : List Mth) (y9 : List AT2) (σ : RS) (x : Stp) : RS := σ.1.foldl (rb1 T l y9 x) ([], σ.2)
def b1g (T : Acs → List Fct) (l : List Mth) (y9 : List AT2) (V5 : List Stp) : RS := V5.foldl (rs1 T l y9) ([([], [])], [], [])
structure BOk (V : List Int) (n : Nat) (b : Bnd) : Prop where
 eq : b.1.length = b.2.length
 le : b.1.length ≤ n
 val : ∀ x ∈ b.2, 0 ≤ x ∧ x ≤ 9
 has : ∀ v, inR v 10 17 = true → v ∈ V → v ∈ b.1
structure TOk (s : List Int) (D : Acs → Prop) (T : Acs → List Fct) : Prop where
 ok : ∀ a, D a → ∀ f ∈ T a, B9 s f = true
 nod : ∀ a, D a → (T a).Nodup
 len : ∀ a, D a → (T a).length ≤ 24
section
variable {s : List Int} {D : Acs → Prop} {T : Acs → List Fct} {l : List Mth} {y9 : List AT2} {x : Stp} {σ : RS} {b : Bnd} {V : List Int} {n k g : Nat} {a f : Int × List Int} {V5 : List Stp}
theorem BOk.mono {m : Nat} (h : BOk V n b) (hn : n ≤ m) : BOk V m b := ⟨h.eq, Nat.le_trans h.le hn, h.val, h.has⟩
structure RInv (s : List Int) (V : List Int) (n m p : Nat) (σ : RS) : Prop where
 b : ∀ b ∈ σ.1, BOk V n b
 len : σ.1.length ≤ m
 log : σ.2.1.length ≤ p
 got : ∀ f ∈ σ.2.2, B9 s f = true
 asc : a1H σ.2.2
theorem RInv.mono {m p n' m' p' : Nat} (h : RInv s V n m p σ) (h1 : n ≤ n') (h2 : m ≤ m') (h3 : p ≤ p') : RInv s V n' m' p' σ := ⟨fun b hb => (h.b b hb).mono h1, Nat.le_trans h.len h2, Nat.le_trans h.log h3, h.got, h.asc⟩
end
abbrev b7L := List (List Int) × List Acs × List Fct × Int
def b9x (T : Acs → List Fct) (l : List Mth) (q : List Int × List AT2) (V5 : List Stp) : b7L :=
 (b3q q.1 (b1g T l q.2 V5).1, (b1g T l q.2 V5).2.1, (b1g T l q.2 V5).2.2, b8B l (b1g T l q.2 V5).2.1)
def c0L (s : List Int) (l : List Mth) (q : List Int × List AT2) (V5 : List Stp) (a8 : List Fct) (c : Int) : b7L :=
 cond (b6H s l q V5 && D7 s a8) (b9x (fun a => b9D l a8 a c) l q V5) ([], [], [], 0)
section
variable {s : List Int} {T : Acs → List Fct} {l : List Mth} {q : List Int × List AT2} {V5 : List Stp} {a8 : List Fct} {c : Int} {g : Nat}
end
section
variable {s : List Int} {D : Acs → Prop} {T : Acs → List Fct} {l : List Mth} {q : List Int × List AT2} {y9 : List AT2} {V5 : List Stp} {a8 : List Fct} {c : Int} {g k j n m p : Nat} {V : List Int} {σ : RS} {a : Acs}
end
end Go.Proofs.YthapcdhdfaibkaaGreatDoor
end
section
namespace Go.Proofs.YthapcdhdfaibkaaGreatDoor
section
variable {s v : List Int} {ys l : List (Int × List Int)} {g : Nat} {f : Int × List Int} {r : Int}
theorem a0s (h : Q6 s = true) : 1 ≤ s.length ∧ s.length ≤ 3 ∧ ∀ z ∈ s, 1 ≤ z ∧ z ≤ 3 := by
 simp only [Q6, inR, Bool.and_eq_true, decide_eq_true_eq, Bool.not_eq_true', List.any_eq_false] at h
 refine ⟨by omega, by omega, fun z hz => ?_⟩
 have := h.2 z hz
 simpa using this
theorem b5t (h : ys.length ≤ g ∧ ∀ f ∈ ys, 1 ≤ f.2.length ∧ f.2.length ≤ 3) (hf : 1 ≤ v.length ∧ v.length ≤ 3) : (w4 ys (r, v)).length ≤ g + 1 ∧ ∀ f ∈ w4 ys (r, v), 1 ≤ f.2.length ∧ f.2.length ≤ 3 := by
 have h1 := a3i (h := F3 ys (r, v)) (p := ltF (r, v)) (f := (r, v)) (l := ys)
 refine ⟨by unfold w4; omega, fun f hm => ?_⟩
 rcases a1R hm with hm | rfl
 ·exact h.2 f hm
 ·exact hf
end
def kT (t : Int) : Prop := (0 ≤ t ∧ t ≤ 3) ∨ (10 ≤ t ∧ t ≤ 13)
def dT (t : Int) : Prop := (0 ≤ t ∧ t ≤ 3) ∨ (10 ≤ t ∧ t ≤ 13) ∨ t = -1 ∨ t = 9 ∨ t = 17 ∨ t = 18
def rT (t : Int) : Prop := (0 ≤ t ∧ t ≤ 3) ∨ (10 ≤ t ∧ t ≤ 13) ∨ t = 15
def dA (T : Int → Prop) (a : Int × List Int) : Prop := (1 ≤ a.2.length ∧ a.2.length ≤ 3) ∧ ∀ t ∈ a.2, T t
def dQ (T : Int → Prop) (k n : Nat) (H : List Int) (A : List (Int × List Int)) : Prop := (1 ≤ A.length ∧ A.length ≤ k) ∧ (∀ a ∈ A, dA T a) ∧ H.length ≤ n
section
variable {T T' : Int → Prop} {H tms : List Int} {A ats : List (Int × List Int)} {g h k n k' n' : Nat} {x y rl : Int}
theorem dQ.mono (hq : dQ T k n H A) (hT : ∀ t, T t → T' t) (hk : k ≤ k') (hn : n ≤ n') : dQ T' k' n' H A := ⟨⟨hq.1.1, Nat.le_trans hq.1.2 hk⟩, fun a ha => ⟨(hq.2.1 a ha).1, fun t ht => hT t ((hq.2.1 a ha).2 t ht)⟩, Nat.le_trans hq.2.2 hn⟩
theorem b8K (t : Int) (h : kT t) : dT t := by unfold kT at h; unfold dT; omega
theorem b0K (t : Int) (h : kT t) : rT t := by unfold kT at h; unfold rT; omega
theorem dQ.up (hq : dQ kT 3 2 H A) : dQ dT 3 3 H A := hq.mono b8K (Nat.le_refl _) (by decide)
theorem b0Y (hp : tms.length = h ∧ ∀ t ∈ tms, T t) (hy : T y) : (tms ++ [y]).length = h + 1 ∧ ∀ t ∈ tms ++ [y], T t := by
 refine ⟨by simp [hp.1], fun t ht => ?_⟩
 rcases List.mem_append.1 ht with ht | ht
 ·exact hp.2 t ht
 ·rw [List.mem_singleton] at ht; subst ht; exact hy
theorem b6S (hp : ats.length = g ∧ ∀ a ∈ ats, dA T a) (h1 : 1 ≤ tms.length) (h2 : tms.length ≤ 3) (h3 : ∀ t ∈ tms, T t) : (ats ++ [(rl, tms)]).length = g + 1 ∧ ∀ a ∈ ats ++ [(rl, tms)], dA T a := by
 refine ⟨by simp [hp.1], fun t ht => ?_⟩
 rcases List.mem_append.1 ht with ht | ht
 ·exact hp.2 t ht
 ·rw [List.mem_singleton] at ht; subst ht; exact ⟨⟨h1, h2⟩, h3⟩
theorem b6A (hl : ats.length ≤ 4) (h : ∀ a ∈ ats, dA T a) : a0m (fun x => x.2.length) ats ≤ 1048576 := by
 have h2 := a8f (c := fun x : Int × List Int => x.2.length) (n := 3) (l := ats) fun a ha => (h a ha).1.2
 unfold a0m; omega
theorem b4X (h : ∀ a ∈ ats, dA T a) : (ats.flatMap fun a => a.2).length ≤ 3 * ats.length := by
 induction ats with
 | nil => simp
 | cons a ats ih =>
  have h1 := (h a (by simp)).1.2
  have h2 := ih fun x hx => h x (by simp [hx])
  simp only [List.flatMap_cons, List.length_append, List.length_cons]
  omega
theorem b4j {is : Int → Bool} (hl : ats.length ≤ 3) (h : ∀ a ∈ ats, dA T a) : (G5 is ats).length ≤ 9 := by
 have h1 := b4X h
 have h2 := List.length_filter_le is (ats.flatMap fun a => a.2)
 have h3 := a5F (l := (ats.flatMap fun a => a.2).filter is)
 unfold G5; omega
theorem b7a : dQ dT 3 3 [] [(0, [10])] ∧ ([] : List Int).length ≤ 2 := ⟨⟨by simp, fun a ha => by
 rw [List.mem_singleton] at ha; subst ha
 exact ⟨by simp, fun t ht => by rw [List.mem_singleton] at ht; subst ht; unfold dT; omega⟩, by simp⟩, by simp⟩
theorem b2j (hq : dQ T k n H A ∧ H.length ≤ 2) : dQ T k 3 (H ++ [x]) A := ⟨hq.1.1, hq.1.2.1, by have := hq.2; simp; omega⟩
theorem b3H (hq : dQ T k n H A) {a : Int × List Int} (ha : dA T a) : dQ T k n H (A.set 0 a) := ⟨by rw [List.length_set]; exact hq.1, fun b hb => by
 rcases List.mem_or_eq_of_mem_set hb with hb | hb
 ·exact hq.2.1 b hb
 ·rw [hb]; exact ha, hq.2.2⟩
theorem b4k (hq : dQ T k n H A) {h0 : 0 < A.length} : dQ T k n H (A.set 0 (x, A[0].2)) := b3H hq ⟨(hq.2.1 _ (List.getElem_mem h0)).1, (hq.2.1 _ (List.getElem_mem h0)).2⟩
theorem b2l (hp : ∀ t ∈ tms, T t) (hx : T x) : ∀ t ∈ tms.set 0 x, T t := fun t ht => by
 rcases List.mem_or_eq_of_mem_set ht with ht | ht
 ·exact hp t ht
 ·rw [ht]; exact hx
theorem b2r (hq : dQ T k n H A) (hx : T x) {h0 : 0 < A.length} : dQ T k n H (A.set 0 (A[0].1, A[0].2.set 0 x)) := b3H hq (by
 have h1 := hq.2.1 _ (List.getElem_mem h0)
 exact ⟨by rw [List.length_set]; exact h1.1, b2l h1.2 hx⟩)
end
end Go.Proofs.YthapcdhdfaibkaaGreatDoor
end
section
namespace Go.Proofs.YthapcdhdfaibkaaGreatDoor
set_option linter.unusedVariables false
set_option linter.unusedSimpArgs false
section
variable {t v : Int} {h u C : List Int} {s : List Int} {p q r : Qry} {L A B : List (Int × List Int)} {n i k : Nat}
theorem b0V {α : Type} [DecidableEq α] : ∀ {l m : List α}, l.Nodup → (∀ x ∈ l, x ∈ m) → l.length ≤ m.length
 | [], _, _, _ => Nat.zero_le _
 | x :: l, m, hn, hs => by
  obtain ⟨h1, h2⟩ := List.nodup_cons.1 hn
  have hx := hs x (List.mem_cons_self ..)
  have h3 := b0V (m := m.erase x) h2 fun y hy => (List.mem_erase_of_ne (fun e => h1 (by rw [← e]; exact hy))).2 (hs y (List.mem_cons_of_mem _ hy))
  have h4 := List.length_erase_of_mem hx
  have h5 := List.length_pos_of_mem hx
  rw [List.length_cons]; omega
def a7W (A : List (Int × List Int)) : Prop := (G5 (fun t => inR t 0 9) A).length + (a3v A).length ≤ 10
end
section
variable {s h : List Int} {l : List (Int × List Int)} {n : Nat}
structure CInv (s h : List Int) (l : List (Int × List Int)) (σ : List (Int × List Int) × Nat) : Prop where
 sub : ∀ a ∈ σ.1, a ∈ l
 len : σ.1.length ≤ 4
 ok : S7 s (h, σ.1) = true
 hm : hom (h, σ.1) (h, l)
 min : ∀ k, k < σ.2 → k < σ.1.length → S7 s (h, σ.1.eraseIdx k) = true → ¬ hom (h, σ.1.eraseIdx k) (h, σ.1)
end
end Go.Proofs.YthapcdhdfaibkaaGreatDoor
end
section
namespace Go.Proofs.YthapcdhdfaibkaaGreatDoor
set_option linter.unusedVariables false
def sQ (H : List Int) (A : List (Int × List Int)) : Prop := A.length ≤ 4 ∧ (∀ a ∈ A, a.2.length ≤ 3) ∧ H.length ≤ 3
section
variable {T : Int → Prop} {H G tms : List Int} {A B : List (Int × List Int)} {k n : Nat} {i : Int} {s : List Int} {a : Int × List Int}
theorem dQ.small (h : dQ T 3 3 H A) : sQ H A := ⟨by have := h.1.2; omega, fun a ha => (h.2.1 a ha).1.2, h.2.2⟩
theorem dQ.small4 (h : dQ T 4 2 H A) : sQ H A := ⟨h.1.2, fun a ha => (h.2.1 a ha).1.2, by have := h.2.2; omega⟩
theorem a7C {is : Int → Bool} : (G5 is A).Nodup := by
 have h1 : (G5 is A).Pairwise (· < ·) := (a2K List.Pairwise.nil).1
 exact List.Pairwise.imp (fun {a b} h e => by omega) h1
theorem b2k {is : Int → Bool} (h : ∀ a ∈ A, dA T a) {t : Int} (ht : t ∈ G5 is A) : T t ∧ is t = true := by
 obtain ⟨h1, h2⟩ := b3Q.1 ht
 obtain ⟨a, ha, hta⟩ := List.mem_flatMap.1 h1
 exact ⟨(h a ha).2 t hta, h2⟩
theorem a5t (h : ∀ a ∈ A, dA rT a) : a7W A := by
 have h1 := b0V (a7C (is := fun t => inR t 0 9) (A := A)) (m := [0, 1, 2, 3]) fun t ht => by
  obtain ⟨h1, h2⟩ := b2k h ht
  simp only [inR, decide_eq_true_eq] at h2
  unfold rT at h1
  simp only [List.mem_cons, List.not_mem_nil, or_false]; omega
 have h2 := b0V (a7C (is := fun t => inR t 10 17) (A := A)) (m := [10, 11, 12, 13, 15]) fun t ht => by
  obtain ⟨h1, h2⟩ := b2k h ht
  simp only [inR, decide_eq_true_eq] at h2
  unfold rT at h1
  simp only [List.mem_cons, List.not_mem_nil, or_false]; omega
 unfold a7W a3v
 simp only [List.length_cons, List.length_nil] at h1 h2
 omega
theorem a3k (h : dQ kT 3 2 H A) {h0 : 0 < A.length} {r : Int} : dQ rT 4 2 H (A ++ [(r, A[0].2.set 0 15)]) := by
 have h1 := h.mono b0K (Nat.le_refl _) (Nat.le_refl _)
 have h2 := h1.2.1 _ (List.getElem_mem h0)
 refine ⟨by have := h.1; simp; omega, fun a ha => ?_, h.2.2⟩
 rcases List.mem_append.1 ha with ha | ha
 ·exact h1.2.1 a ha
 ·rw [List.mem_singleton] at ha; subst ha
  exact ⟨by rw [List.length_set]; exact h2.1, b2l h2.2 (by unfold rT; omega)⟩
end
end Go.Proofs.YthapcdhdfaibkaaGreatDoor
end
section
namespace Go.Proofs.YthapcdhdfaibkaaGreatDoor
set_option linter.unusedVariables false
set_option linter.unusedSimpArgs false
def c0g (x : List (List Int) × List (Int × List Int) × List (Int × List Int) × Int) : Nat := D4 a8D x.1 + D4 a0O x.2.1 + D4 W7 x.2.2.1 + 1
def c0f (x : List (List Int) × List (Int × List Int) × List (Int × List Int) × Int) (k : Int) : List (List Int) × List (Int × List Int) × List (Int × List Int) × Int := (mkL a8D b8I x.1 (k), mkL a0O a6T x.2.1 (k + (D4 a8D x.1 : Nat)), mkL W7 a5z x.2.2.1 (k + (D4 a8D x.1 : Nat) + (D4 a0O x.2.1 : Nat)), (k + (D4 a8D x.1 : Nat) + (D4 a0O x.2.1 : Nat) + (D4 W7 x.2.2.1 : Nat)))
section
variable {s : List Int} {T : Acs → List Fct} {l : List Mth} {q : List Int × List AT2} {y9 : List AT2} {V5 : List Stp} {a8 : List Fct} {c : Int} {g k : Nat} {x : Stp} {σ : RS} {p : Acs → Prop}
end
end Go.Proofs.YthapcdhdfaibkaaGreatDoor
end
section
namespace Go.Proofs.YthapcdhdfaibkaaGreatDoor
set_option linter.unusedVariables false
section
variable {s H : List Int} {A F : List (Int × List Int)} {p q : Qry}
end
end Go.Proofs.YthapcdhdfaibkaaGreatDoor
end
section
namespace Go.Proofs.YthapcdhdfaibkaaGreatDoor
set_option linter.unusedVariables false
set_option linter.unusedSimpArgs false
section
variable {s V : List Int} {T : Acs → List Fct} {l : List Mth} {q : List Int × List AT2} {y9 A : List AT2} {V5 S : List Stp} {a8 F : List Fct} {c : Int} {g k n : Nat} {x : Stp} {σ : RS} {b b0 : Bnd} {a f : Int × List Int} {t u : List Int}
def c0D (l : List Mth) (V5 : List Stp) : Bool := V5.all fun x => inR x.2 0 ((l.length : Int) - 1) && decide ((atM l x.2).2.2.1 = 0)
abbrev c0G (l : List (List Int)) : Prop := l.Pairwise fun a b => ltT a b = true
def b9H (log : List Acs) : Nat → Int
 | 0 => 0
 | g + 1 => b9H log g + b7C log (g : Int)
end
end Go.Proofs.YthapcdhdfaibkaaGreatDoor
end
