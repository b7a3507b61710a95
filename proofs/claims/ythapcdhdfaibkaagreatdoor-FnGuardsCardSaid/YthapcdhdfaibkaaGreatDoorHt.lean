import Derived.Test.YthapcdhdfaibkaaGreatDoorBu
import Derived.Test.YthapcdhdfaibkaaGreatDoorGa
import Derived.Test.YthapcdhdfaibkaaGreatDoorGt
section
namespace Go.Proofs.YthapcdhdfaibkaaGreatDoor
set_option linter.all false
def X5 (m : Int × (Option Addr × Nat × Nat) × Int × Int × Int) : Int × (Option Addr × Nat × Nat) × Int × Int × Int := cond (decide (m.2.2.1 ≠ 0)) (-1, m.2) m
def exB (l : List (Int × (Option Addr × Nat × Nat) × Int × Int × Int)) : List (Int × (Option Addr × Nat × Nat) × Int × Int × Int) := l.map X5
section
variable {l : List (Int × (Option Addr × Nat × Nat) × Int × Int × Int)} {xs : List MT5} {g : Nat} {w : World} {L : List Nat}
theorem b8R : ((l.take g).map X5 ++ l.drop g).length = l.length := by rw [List.length_append, List.length_map, ← List.length_append, List.take_append_drop]
theorem b9F (h : g < l.length) : ((l.take g).map X5 ++ l.drop g)[g]? = some l[g] := by
 rw [List.getElem?_append_right (by simp; omega)]
 simp [Nat.min_eq_left (Nat.le_of_lt h), h]
theorem b5Y (h : g < l.length) {x : Int × (Option Addr × Nat × Nat) × Int × Int × Int} (hx : x = X5 l[g]) : ((l.take g).map X5 ++ l.drop g).set g x = (l.take (g + 1)).map X5 ++ l.drop (g + 1) := by
 have h1 : ((l.take g).map X5).length = g := by simp; omega
 rw [List.set_append, if_neg (by omega), h1, Nat.sub_self, List.drop_eq_getElem_cons h, List.set_cons_zero, List.take_succ_eq_append_getElem h, List.map_append, List.append_assoc, hx]; rfl
theorem b8j (h : g < l.length) (hx : l[g].2.2.1 ≠ 0) : ((l.take g).map X5 ++ l.drop g).set g (-1, l[g].2.1, l[g].2.2.1, l[g].2.2.2.1, l[g].2.2.2.2) = (l.take (g + 1)).map X5 ++ l.drop (g + 1) := b5Y h (by unfold X5; rw [decide_eq_true hx]; rfl)
theorem b9a (h : g < l.length) (hx : ¬ l[g].2.2.1 ≠ 0) : ((l.take g).map X5 ++ l.drop g).set g l[g] = (l.take (g + 1)).map X5 ++ l.drop (g + 1) := b5Y h (by unfold X5; rw [decide_eq_false hx]; rfl)
theorem b3B (h : g < l.length) {x : Int × (Option Addr × Nat × Nat) × Int × Int × Int} (hx : x = X5 l[g]) : (l.take g).map X5 ++ [x] = (l.take (g + 1)).map X5 := by
 rw [List.take_succ_eq_append_getElem h, List.map_append, hx]; rfl
theorem b2i (h : g < l.length) (hx : l[g].2.2.1 ≠ 0) : (l.take g).map X5 ++ [(-1, l[g].2.1, l[g].2.2.1, l[g].2.2.2.1, l[g].2.2.2.2)] = (l.take (g + 1)).map X5 := b3B h (by unfold X5; rw [decide_eq_true hx]; rfl)
theorem b2n (h : g < l.length) (hx : ¬ l[g].2.2.1 ≠ 0) : (l.take g).map X5 ++ [l[g]] = (l.take (g + 1)).map X5 := b3B h (by unfold X5; rw [decide_eq_false hx]; rfl)
theorem b9Z (h : ¬ g < l.length) : (l.take g).map X5 = exB l := by rw [List.take_of_length_le (by omega)]; rfl
theorem b8P (h : ¬ g < l.length) : (l.take g).map X5 ++ l.drop g = exB l := by
 rw [List.take_of_length_le (by omega), List.drop_eq_nil_of_le (by omega), List.append_nil]; rfl
theorem b7L (h : Bor w L a0e a1A l xs) : Bor w L a0e a1A (exB l) (exF xs) := by
 refine h.map fun y x hx => ?_
 have hp := b2u hx
 obtain ⟨h1, h2, h3, h4, h5⟩ := hp
 unfold X5 exM
 rw [h3]
 cases decide (x.2.2.1 ≠ 0)
 ·exact hx
 ·simp only [cond_true]
  obtain ⟨a0, c0, e, i0, r1, i2, i3, i4⟩ := P5 hx
  rw [show a1A (-1, y.2) = [.int .i64 (-1 : Int), .slice y.2.1.1 y.2.1.2.1 y.2.1.2.2, .int .i64 x.2.2.1, .int .i64 x.2.2.2.1, .int .i64 x.2.2.2.2] from by rw [← h3, ← h4, ← h5]; rfl]
  exact a8v (x := (-1, x.2)) (by unfold I64; omega) h2 i2 i3 i4
end
end Go.Proofs.YthapcdhdfaibkaaGreatDoor
end
section
namespace Go.Proofs.YthapcdhdfaibkaaGreatDoor
set_option linter.all false
theorem c2q {P : Program} {n : Nat} {fr : Fr} {x : Operand} {s ft : TypeId} {f o k : Nat} {z : List Value} {by' : Nat} {cs : List Value} {v : Value} (hf : X0 P s f = some (o, ft)) (ht : TyOk P ft false k z by') (hx : ev fr x = some (.agg cs.toArray)) (hv : cs[o]? = some v) : Yp P n fr (.field s x f) v := fun ac h w' d t p af g => by
 unfold X0 at hf
 split at hf
 ·rename_i fs hs
  obtain ⟨fd, h1, h2⟩ := Option.map_eq_some_iff.1 hf
  simp only [Prod.mk.injEq] at h2
  obtain ⟨rfl, rfl⟩ := h2
  simp [execOp, Instr.field, h.ev hx, run_underlying hs, h1, part, ht.run_isAgg, asAgg, hv]
 ·cases hf
def a1f (l : List MT5) : List MT5 := l.filter fun m => decide (m.2.2.1 = 0)
def rk (l : List MT5) (i : Int) : Int := if i < 0 then i else ((a1f (l.take i.toNat)).length : Int)
def rkS (l : List MT5) (x : Stp) : Stp := (x.1, rk l x.2)
section
variable {s : List Int} {l L M : List MT5} {d9 al : List AT2} {ds : List Bool} {a : AT2} {b b' : List Int} {i n g k : Nat} {S R : List Stp} {d6 : List Fct} {m : MT5} {q : List Int × List AT2}
theorem b3e (h : 0 ≤ G5 l a b) : ∃ i, ∃ hi : i < l.length, G5 l a b = (i : Int) ∧ (∀ x ∈ l.take i, O4 x a b = false) ∧ O4 l[i] a b = true := by
 unfold G5 J0 at h ⊢
 by_cases hc : l.any (fun m => O4 m a b) = true
 ·rw [if_pos hc]
  obtain ⟨x, hx, hp⟩ := List.any_eq_true.1 hc
  have hi := List.findIdx_lt_length_of_exists (p := fun m => O4 m a b) ⟨x, hx, hp⟩
  refine ⟨_, hi, rfl, fun y hy => ?_, List.findIdx_getElem (w := hi)⟩
  obtain ⟨j, hj, rfl⟩ := List.mem_take_iff_getElem.1 hy
  simpa using List.not_of_lt_findIdx (show j < l.findIdx (fun m => O4 m a b) by omega)
 ·rw [if_neg hc] at h; omega
theorem b0b (h : 0 ≤ a.1) : O4 (exM m) a b = (decide (m.2.2.1 = 0) && O4 m a b) := by
 unfold exM
 by_cases hl : m.2.2.1 = 0
 ·simp [hl]
 ·have h2 : ¬ (-1 : Int) = a.1 := by omega
  simp [hl, O4, h2]
theorem b4s (h : i < l.length) (h0 : l[i].2.2.1 = 0) : a1f l = a1f (l.take i) ++ l[i] :: a1f (l.drop (i + 1)) := by
 have e : l = l.take i ++ l[i] :: l.drop (i + 1) := by rw [← List.drop_eq_getElem_cons h, List.take_append_drop]
 unfold a1f
 conv => lhs; rw [e]
 rw [List.filter_append, List.filter_cons_of_pos (by simpa using h0)]
theorem b9C : rk l (i : Int) = ((a1f (l.take i)).length : Int) := by rw [rk, if_neg (by omega), Int.toNat_natCast]
theorem b2H (h : ¬ 0 ≤ G5 l a b) : G5 l a b = -1 := by unfold G5 at h ⊢; have := a0G (p := fun m => O4 m a b) (s := l); omega
theorem a4M (ha : 0 ≤ a.1) : G5 (a1f l) a b = rk l (G5 (exF l) a b) ∧ (0 ≤ G5 (exF l) a b → (G5 (exF l) a b).toNat < l.length ∧ (atM l (G5 (exF l) a b)).2.2.1 = 0 ∧ atM (a1f l) (rk l (G5 (exF l) a b)) = atM l (G5 (exF l) a b) ∧ O4 (atM l (G5 (exF l) a b)) a b = true) := by
 by_cases h0 : 0 ≤ G5 (exF l) a b
 ·obtain ⟨i, hi, e, hn, hy⟩ := b3e h0
  have hi' : i < l.length := by simpa [exF] using hi
  have ey : O4 (exM l[i]) a b = true := by simpa [exF] using hy
  rw [b0b ha, Bool.and_eq_true, decide_eq_true_eq] at ey
  have hs := b4s hi' ey.1
  have hk : (a1f (l.take i)).length < (a1f l).length := by rw [hs, List.length_append, List.length_cons]; omega
  have hg : (a1f l)[(a1f (l.take i)).length]'hk = l[i] := by
   have : (a1f l)[(a1f (l.take i)).length]? = some l[i] := by rw [hs]; simp
   exact (List.getElem?_eq_some_iff.1 this).2
  have e2 : G5 (a1f l) a b = ((a1f (l.take i)).length : Int) := by
   refine (Q4 (p := fun m => O4 m a b) hk (fun x hx => ?_) (by rw [hg]; exact ey.2)).symm
   rw [hs, List.take_left] at hx
   obtain ⟨hx1, hx2⟩ := List.mem_filter.1 hx
   have h9 := hn (exM x) (by unfold exF; rw [← List.map_take]; exact List.mem_map_of_mem hx1)
   rw [b0b ha, hx2, Bool.true_and] at h9
   exact h9
  rw [e, e2, b9C]
  have ea : atM l (i : Int) = l[i] := by rw [atM, Int.toNat_natCast]; exact J5 hi'
  refine ⟨rfl, fun _ => ⟨by rw [Int.toNat_natCast]; exact hi', by rw [ea]; exact ey.1, ?_, by rw [ea]; exact ey.2⟩⟩
  rw [ea, atM, Int.toNat_natCast, J5 hk, hg]
 ·have h1 := b2H h0
  refine ⟨?_, fun h => absurd h h0⟩
  rw [h1, show rk l (-1) = -1 from rfl]
  refine b2H fun h2 => h0 ?_
  obtain ⟨i, hi, e, hn, hy⟩ := b3e h2
  have hm := List.mem_filter.1 (List.getElem_mem hi)
  have h3 : (exF l).any (fun m => O4 m a b) = true := List.any_eq_true.2 ⟨exM (a1f l)[i], List.mem_map_of_mem hm.1, by rw [b0b ha, hm.2, Bool.true_and]; exact hy⟩
  have h4 := a0p (p := fun m => O4 m a b) (s := exF l)
  rw [h3] at h4; exact of_decide_eq_true h4
theorem b6A : (grI l d9 n).2.2 = stB d9 (grI l d9 n).1 := by
 induction n with
 | zero => rfl
 | succ n ih =>
  cases hx : (gNx l d9 (grI l d9 n)).2.2
  ·rw [a2W hx]; exact ih
  ·rw [a1J hx]
   show _ ++ _ = stB d9 (_ ++ [_])
   unfold stB
   rw [List.foldl_append]
   show _ = stB d9 (grI l d9 n).1 ++ _
   rw [← ih]; rfl
theorem b3N : ∀ {g : Nat}, g ≤ S.length → U8 l d9 (S ++ R) g = U8 l d9 S g
 | 0, _ => rfl
 | g + 1, h => by rw [U8, U8, b3N (by omega), List.take_append_of_le_length (by omega), J5 (by rw [List.length_append]; omega), J5 (by omega), List.getElem_append_left]
theorem b9E (hM : ∀ a ∈ d9, ∀ b, 0 ≤ G5 L a b → (G5 L a b).toNat < M.length ∧ O4 (atM M (G5 L a b)) a b = true) : U8 M d9 (grI L d9 n).1 (grI L d9 n).1.length = true := by
 induction n with
 | zero => rfl
 | succ n ih =>
  cases hx : (gNx L d9 (grI L d9 n)).2.2
  ·rw [a2W hx]; exact ih
  ·rw [a1J hx]
   obtain ⟨k, h1, h2, h3, a, h4, h5, h6⟩ := a4u (show (I7 L (grI L d9 n).2.2 d9 (grI L d9 n).2.1 0).2.2 = true from hx)
   have e1 : (gNx L d9 (grI L d9 n)).1 = (k : Int) := by unfold gNx; rw [h1]; simp
   have e3 : (gNx L d9 (grI L d9 n)).2.1 = G5 L a (grI L d9 n).2.2 := h5
   have ea : atA d9 (k : Int) = a := by unfold atA; rw [Int.toNat_natCast, List.getD, h4]; rfl
   obtain ⟨hm1, hm2⟩ := hM a (List.mem_of_getElem? h4) _ h6
   rw [e1, e3]
   show U8 M d9 _ ((grI L d9 n).1 ++ [_]).length = true
   rw [List.length_append, List.length_singleton, U8, b3N (Nat.le_refl _), ih, Bool.true_and, List.take_left, J5 (by simp), List.getElem_append_right (Nat.le_refl _)]
   have d1 := (b3Z (l := L) (d9 := d9) (n := n)).1 k
   simp only [List.getD, h3, Option.getD_some] at d1
   simp only [Nat.sub_self, List.getElem_singleton, Y2, Bool.and_eq_true]
   refine ⟨?_, ?_, ?_, ?_⟩
   ·unfold inR; exact decide_eq_true (by omega)
   ·unfold stU; rw [← d1]; rfl
   ·unfold inR; exact decide_eq_true (by omega)
   ·rw [ea, ← b6A]; exact hm2
def c3k (l : List (Int × (Option Addr × Nat × Nat) × Int × Int × Int)) : List (Int × (Option Addr × Nat × Nat) × Int × Int × Int) := l.filter fun m => decide (m.2.2.1 = 0)
theorem b0H (h : I3 s q = true) : ∀ a ∈ q.2, 0 ≤ a.1 := fun a ha => by
 simp only [I3, Bool.and_eq_true] at h
 cases e : K3 s a with
 | true =>
  simp only [K3, P2, Bool.and_eq_true] at e
  exact (V2 e.1.2).1
 | false =>
  have h2 : (q.2.any fun a => !K3 s a) = true := List.any_eq_true.2 ⟨a, ha, by simp [e]⟩
  rw [h2] at h; simp at h
theorem b9L {S : List Stp} (hm : J3 s M = true) (hq : I3 s q = true) (hl : S.length = q.2.length) (ho : U8 M q.2 S S.length = true) : P3 s M q S = true := by
 rw [P3, hm, hq, ho, decide_eq_true (by omega)]; rfl
theorem b9q (hm : J3 s l = true) (hq : I3 s q = true) (hl : (grF (exF l) q.2).1.length = q.2.length) : P3 s l q (grF (exF l) q.2).1 = true :=
 b9L hm hq hl (b9E fun a ha b h => let h2 := (a4M (l := l) (b := b) (b0H hq a ha)).2 h; ⟨h2.1, h2.2.2.2⟩)
theorem b8s : ∀ x ∈ (grI L d9 n).1, ∃ a b, a ∈ d9 ∧ x.2 = G5 L a b ∧ 0 ≤ G5 L a b := by
 induction n with
 | zero => intro x hx; simp [grI] at hx
 | succ n ih =>
  intro x hx
  cases hn : (gNx L d9 (grI L d9 n)).2.2
  ·rw [a2W hn] at hx; exact ih x hx
  ·rw [a1J hn] at hx
   rcases List.mem_append.1 hx with hx | hx
   ·exact ih x hx
   ·obtain ⟨k, h1, h2, h3, a, h4, h5, h6⟩ := a4u (show (I7 L (grI L d9 n).2.2 d9 (grI L d9 n).2.1 0).2.2 = true from hn)
    simp only [List.mem_singleton] at hx; subst hx
    exact ⟨a, _, List.mem_of_getElem? h4, h5, h6⟩
def c3b (l : List MT5) (p : List Int × List AT2) (d6 : List Fct) : List (List Int) := S2 p.1 (m7 (fun a => m6 l d6 a) l p.2 (grF (exF l) p.2).1).1
def c3n (s : List Int) (l : List MT5) (q : List Int × List AT2) : List Stp := cond ((J3 s l && I3 s q) && decide (q.2.length ≤ (grF l q.2).1.length)) (grF l q.2).1 []
def c3h (s : List Int) (l : List MT5) (q : List Int × List AT2) : Bool := (J3 s l && I3 s q) && decide (q.2.length ≤ (grF l q.2).1.length)
end
end Go.Proofs.YthapcdhdfaibkaaGreatDoor
end
section
namespace Go.Proofs.YthapcdhdfaibkaaGreatDoor
section
variable {s v : List Int} {ys l : List IL} {g : Nat} {f : IL} {r : Int}
theorem a1H (h : U9 s = true) : 1 ≤ s.length ∧ s.length ≤ 3 ∧ ∀ z ∈ s, 1 ≤ z ∧ z ≤ 3 := by
 simp only [U9, inR, Bool.and_eq_true, decide_eq_true_eq, Bool.not_eq_true', List.any_eq_false] at h
 refine ⟨by omega, by omega, fun z hz => ?_⟩
 have := h.2 z hz
 simpa using this
theorem b6D (h : ys.length ≤ g ∧ ∀ f ∈ ys, 1 ≤ f.2.length ∧ f.2.length ≤ 3) (hf : 1 ≤ v.length ∧ v.length ≤ 3) : (G8 ys (r, v)).length ≤ g + 1 ∧ ∀ f ∈ G8 ys (r, v), 1 ≤ f.2.length ∧ f.2.length ≤ 3 := by
 have h1 := a4p (h := N9 ys (r, v)) (p := ltF (r, v)) (f := (r, v)) (l := ys)
 refine ⟨by unfold G8; omega, fun f hm => ?_⟩
 rcases a6n hm with hm | rfl
 ·exact h.2 f hm
 ·exact hf
theorem a5W {l : List IL} (h : l = []) : l.length ≤ 9 ∧ ∀ f ∈ l, 1 ≤ f.2.length ∧ f.2.length ≤ 4 := by subst h; simp
theorem a5a (h : (↑l.length : Int) ≤ 8 ∧ ∀ f ∈ l, 1 ≤ f.2.length ∧ f.2.length ≤ 3) : l.length ≤ 9 ∧ ∀ f ∈ l, 1 ≤ f.2.length ∧ f.2.length ≤ 4 := ⟨by omega, fun f hf => by have := h.2 f hf; omega⟩
theorem a4X (h : (↑l.length : Int) ≤ 8 ∧ ∀ f ∈ l, 1 ≤ f.2.length ∧ f.2.length ≤ 3) (hv : 1 ≤ v.length ∧ v.length ≤ 4) : (l ++ [(r, v)]).length ≤ 9 ∧ ∀ f ∈ l ++ [(r, v)], 1 ≤ f.2.length ∧ f.2.length ≤ 4 := by
 refine ⟨by simp; omega, fun f hf => ?_⟩
 rcases List.mem_append.1 hf with hf | hf
 ·have := h.2 f hf; omega
 ·rw [List.mem_singleton] at hf; subst hf; exact hv
theorem a4U (hv : 1 ≤ v.length ∧ v.length ≤ 4) : ([] ++ [(r, v)] : List IL).length ≤ 9 ∧ ∀ f ∈ ([] ++ [(r, v)] : List IL), 1 ≤ f.2.length ∧ f.2.length ≤ 4 := by
 refine ⟨by simp, fun f hf => ?_⟩
 have : f = (r, v) := by simpa using hf
 subst this; exact hv
end
def kT (t : Int) : Prop := (0 ≤ t ∧ t ≤ 3) ∨ (10 ≤ t ∧ t ≤ 13)
def dT (t : Int) : Prop := (0 ≤ t ∧ t ≤ 3) ∨ (10 ≤ t ∧ t ≤ 13) ∨ t = -1 ∨ t = 9 ∨ t = 17 ∨ t = 18
def rT (t : Int) : Prop := (0 ≤ t ∧ t ≤ 3) ∨ (10 ≤ t ∧ t ≤ 13) ∨ t = 15
def dA (T : Int → Prop) (a : IL) : Prop := (1 ≤ a.2.length ∧ a.2.length ≤ 3) ∧ ∀ t ∈ a.2, T t
def dQ (T : Int → Prop) (k n : Nat) (H : List Int) (A : List IL) : Prop := (1 ≤ A.length ∧ A.length ≤ k) ∧ (∀ a ∈ A, dA T a) ∧ H.length ≤ n
section
variable {T T' : Int → Prop} {H tms : List Int} {A ats : List IL} {g h k n k' n' : Nat} {x y rl : Int}
theorem dQ.mono (hq : dQ T k n H A) (hT : ∀ t, T t → T' t) (hk : k ≤ k') (hn : n ≤ n') : dQ T' k' n' H A := ⟨⟨hq.1.1, Nat.le_trans hq.1.2 hk⟩, fun a ha => ⟨(hq.2.1 a ha).1, fun t ht => hT t ((hq.2.1 a ha).2 t ht)⟩, Nat.le_trans hq.2.2 hn⟩
theorem c0Z (t : Int) (h : kT t) : dT t := by unfold kT at h; unfold dT; omega
theorem dQ.up (hq : dQ kT 3 2 H A) : dQ dT 3 3 H A := hq.mono c0Z (Nat.le_refl _) (by decide)
theorem b2l (hp : tms.length = h ∧ ∀ t ∈ tms, T t) (hy : T y) : (tms ++ [y]).length = h + 1 ∧ ∀ t ∈ tms ++ [y], T t := by
 refine ⟨by simp [hp.1], fun t ht => ?_⟩
 rcases List.mem_append.1 ht with ht | ht
 ·exact hp.2 t ht
 ·rw [List.mem_singleton] at ht; subst ht; exact hy
theorem b8U (hp : ats.length = g ∧ ∀ a ∈ ats, dA T a) (h1 : 1 ≤ tms.length) (h2 : tms.length ≤ 3) (h3 : ∀ t ∈ tms, T t) : (ats ++ [(rl, tms)]).length = g + 1 ∧ ∀ a ∈ ats ++ [(rl, tms)], dA T a := by
 refine ⟨by simp [hp.1], fun t ht => ?_⟩
 rcases List.mem_append.1 ht with ht | ht
 ·exact hp.2 t ht
 ·rw [List.mem_singleton] at ht; subst ht; exact ⟨⟨h1, h2⟩, h3⟩
theorem b8A (hl : ats.length ≤ 4) (h : ∀ a ∈ ats, dA T a) : O1 (fun x => x.2.length) ats ≤ 1048576 := by
 have h2 := a8x (c := fun x : IL => x.2.length) (n := 3) (l := ats) fun a ha => (h a ha).1.2
 unfold O1; omega
theorem b7m (h : ∀ a ∈ ats, dA T a) : (ats.flatMap fun a => a.2).length ≤ 3 * ats.length := by
 induction ats with
 | nil => simp
 | cons a ats ih =>
  have h1 := (h a (by simp)).1.2
  have h2 := ih fun x hx => h x (by simp [hx])
  simp only [List.flatMap_cons, List.length_append, List.length_cons]
  omega
theorem b6k {is : Int → Bool} (hl : ats.length ≤ 3) (h : ∀ a ∈ ats, dA T a) : (u7 is ats).length ≤ 9 := by
 have h1 := b7m h
 have h2 := List.length_filter_le is (ats.flatMap fun a => a.2)
 have h3 := b2b (l := (ats.flatMap fun a => a.2).filter is)
 unfold u7; omega
theorem b8Z : dQ dT 3 3 [] [(0, [10])] ∧ ([] : List Int).length ≤ 2 := ⟨⟨by simp, fun a ha => by
 rw [List.mem_singleton] at ha; subst ha
 exact ⟨by simp, fun t ht => by rw [List.mem_singleton] at ht; subst ht; unfold dT; omega⟩, by simp⟩, by simp⟩
theorem b3S (hq : dQ T k n H A ∧ H.length ≤ 2) : dQ T k 3 (H ++ [x]) A := ⟨hq.1.1, hq.1.2.1, by have := hq.2; simp; omega⟩
theorem b5J (hq : dQ T k n H A) {a : IL} (ha : dA T a) : dQ T k n H (A.set 0 a) := ⟨by rw [List.length_set]; exact hq.1, fun b hb => by
 rcases List.mem_or_eq_of_mem_set hb with hb | hb
 ·exact hq.2.1 b hb
 ·rw [hb]; exact ha, hq.2.2⟩
theorem b6d (hq : dQ T k n H A) {h0 : 0 < A.length} : dQ T k n H (A.set 0 (x, A[0].2)) := b5J hq ⟨(hq.2.1 _ (List.getElem_mem h0)).1, (hq.2.1 _ (List.getElem_mem h0)).2⟩
theorem b9e (hp : ∀ t ∈ tms, T t) (hx : T x) : ∀ t ∈ tms.set 0 x, T t := fun t ht => by
 rcases List.mem_or_eq_of_mem_set ht with ht | ht
 ·exact hp t ht
 ·rw [ht]; exact hx
theorem b4i (hq : dQ T k n H A) (hx : T x) {h0 : 0 < A.length} : dQ T k n H (A.set 0 (A[0].1, A[0].2.set 0 x)) := b5J hq (by
 have h1 := hq.2.1 _ (List.getElem_mem h0)
 exact ⟨by rw [List.length_set]; exact h1.1, b9e h1.2 hx⟩)
end
end Go.Proofs.YthapcdhdfaibkaaGreatDoor
end
section
namespace Go.Proofs.YthapcdhdfaibkaaGreatDoor
open Go.RowKit
set_option linter.all false
section
variable {P : Program} {n : Nat} {w0 : World} {L0 : List Nat} {fr : Fr} {H : List HP} {fn : Func} {κ : Type} {φ : κ → Prop} {ret : κ → Value} {post : κ → List HP} {wb : World} {Lb : List Nat}
theorem c0m (hb : a0D w0 L0 wb Lb) {e : Exit} {s0 : Nat} {v0 : Value} {s1 b1 k1 y1 : Nat} {T1 T1' : TypeId} {z1 cs1 : List Value} (hres : fn.results = #[.tmp s0, .cell s1 T1]) (hv0 : fr.lookup s0 = some v0) (hv1 : fr.lookup s1 = some (.pointer (some ⟨b1, 0, none⟩))) (hm1 : pt b1 T1' cs1 ∈ H) (ht1 : TyOk P T1 true k1 z1 y1) (hl1 : cs1.length = k1)
  (k : κ) (hk : φ k) (hr : .tuple #[v0, .agg cs1.toArray] = ret k) {J : List HP} (hH : H.Perm (post k ++ J)) (he : e = .ret ∨ e = .normal) : Ent n w0 L0 fr H (bodyPost P fn (Fin φ ret post wb Lb) e) :=
 a3i hb he k hk hr hH fun a w h1 h2 => by
  have u0 := h1.ev (x := .tmp s0) hv0
  have u1 := h1.ev (x := .tmp s1) hv1
  simp only [Act.eval] at u0 u1
  have q1 := ((Has.pt (w0 := w0) (L0 := L0) hm1) w h2).run_load (P := P) (v := .agg cs1.toArray) ht1 hl1 rfl (fun h => by cases h)
  simp only [Instr.loadAt, Instr.sureAddr, Sem.run_bind, Sem.run_pure, Result.andThen_ok] at q1
  rw [Array.getD_eq_getD_getElem?] at u0 u1
  simp [results, hres, u0, u1, asAddr, q1]
end
section
variable {P : Program} {Q : Exit → Act → World → Prop} {n : Nat} {w0 : World} {L0 PB : List Nat} {fr : Fr} {H : List HP} {ops : Array Oper} {qt : Nat → Bool} {fuel : Nat} {listed : Array Bool} {op : Op} {d : Nat} {ty : TypeId} {pos : String} {af : Array Edge} {g : Option (Nat × Bool)} {v : Value}
theorem N.yd (hd : d < n) (hy : Yd P n w0 L0 fr H op v) : Nop P Q n w0 L0 fr H ⟨some d, op, ty, pos, af, g⟩ true (κ := Unit) (fun _ => (d, v) :: fr) (fun _ => H) (fun _ => True) := fun K hK a w h1 h2 => by
 rw [Oper.wp, hy a w h1 h2 w (a0R w)]
 exact hK () trivial w _ _ (h1.put hd v) h2 (fun _ => a0R w)
theorem c1C (hs : a3r PB H H) : a3r PB H H := hs
theorem c1n (i : Nat) [hs : SameI PB H H] (ho : ops[i]? = some ⟨some d, op, ty, pos, af, g⟩) (hg : Q0 ops fr g = some true) (hd : d < n) (hy : Yd P n w0 L0 fr H op v) (hr : Region.ready .any ops listed = [i])
  (h : Ent n w0 L0 ((d, v) :: fr) H (a0E P ops Q (Kp w0 L0 PB) qt fuel (listed.setIfInBounds i true))) : Ent n w0 L0 fr H (a0E P ops Q (Kp w0 L0 PB) qt (fuel + 1) listed) :=
 G2 i ho hg hr (fun _ _ => hs.out) (N.yd hd hy) (fun _ _ => h)
end
end Go.Proofs.YthapcdhdfaibkaaGreatDoor
end
section
namespace Go.Proofs.YthapcdhdfaibkaaGreatDoor
open Go.RowKit
set_option linter.all false
section
variable {P : Program} {n : Nat} {w0 : World} {L0 : List Nat} {fr : Fr} {H : List HP} {fn : Func} {κ : Type} {φ : κ → Prop} {ret : κ → Value} {post : κ → List HP} {wb : World} {Lb : List Nat}
theorem a8c (hb : a0D w0 L0 wb Lb) {e : Exit} {s0 : Nat} {v0 : Value} {s1 : Nat} {v1 : Value} {s2 b2 k2 y2 : Nat} {T2 T2' : TypeId} {z2 cs2 : List Value} (hres : fn.results = #[.tmp s0, .tmp s1, .cell s2 T2]) (hv0 : fr.lookup s0 = some v0) (hv1 : fr.lookup s1 = some v1) (hv2 : fr.lookup s2 = some (.pointer (some ⟨b2, 0, none⟩))) (hm2 : pt b2 T2' cs2 ∈ H) (ht2 : TyOk P T2 true k2 z2 y2) (hl2 : cs2.length = k2)
  (k : κ) (hk : φ k) (hr : .tuple #[v0, v1, .agg cs2.toArray] = ret k) {J : List HP} (hH : H.Perm (post k ++ J)) (he : e = .ret ∨ e = .normal) : Ent n w0 L0 fr H (bodyPost P fn (Fin φ ret post wb Lb) e) :=
 a3i hb he k hk hr hH fun a w h1 h2 => by
  have u0 := h1.ev (x := .tmp s0) hv0
  have u1 := h1.ev (x := .tmp s1) hv1
  have u2 := h1.ev (x := .tmp s2) hv2
  simp only [Act.eval] at u0 u1 u2
  have q2 := ((Has.pt (w0 := w0) (L0 := L0) hm2) w h2).run_load (P := P) (v := .agg cs2.toArray) ht2 hl2 rfl (fun h => by cases h)
  simp only [Instr.loadAt, Instr.sureAddr, Sem.run_bind, Sem.run_pure, Result.andThen_ok] at q2
  rw [Array.getD_eq_getD_getElem?] at u0 u1 u2
  simp [results, hres, u0, u1, u2, asAddr, q2]
end
end Go.Proofs.YthapcdhdfaibkaaGreatDoor
end
section
namespace Go.Proofs.YthapcdhdfaibkaaGreatDoor
set_option linter.all false
section
variable {ys ms : List Mth} {lg : List Acs} {i v : List Int} {a b c d : Int} {g : Nat} {s : List Int} {q : List Int × List AT2}
theorem b8K (h : ys.length = g ∧ ∀ m ∈ ys, m.2.1.length ≤ 4) (hi : i.length ≤ 4) : (ys ++ [(a, i, b, c, d)]).length = g + 1 ∧ ∀ m ∈ ys ++ [(a, i, b, c, d)], m.2.1.length ≤ 4 := by
 refine ⟨by simp [h.1], fun m hm => ?_⟩
 rcases List.mem_append.1 hm with hm | hm
 ·exact h.2 m hm
 ·rw [List.mem_singleton] at hm; rw [hm]; exact hi
theorem b4t (h : (1 ≤ ms.length ∧ ms.length ≤ 4) ∧ ∀ m ∈ ms, m.2.1.length ≤ 4) : ms.length ≤ 5 ∧ ∀ m ∈ ms, m.2.1.length ≤ 4 := ⟨by omega, h.2⟩
theorem b9V (h : (1 ≤ ms.length ∧ ms.length ≤ 4) ∧ ∀ m ∈ ms, m.2.1.length ≤ 4) (hi : i.length ≤ 4) : (ms ++ [(a, i, b, c, d)]).length ≤ 5 ∧ ∀ m ∈ ms ++ [(a, i, b, c, d)], m.2.1.length ≤ 4 := by
 refine ⟨by simp; omega, fun m hm => ?_⟩
 rcases List.mem_append.1 hm with hm | hm
 ·exact h.2 m hm
 ·rw [List.mem_singleton] at hm; rw [hm]; exact hi
end
end Go.Proofs.YthapcdhdfaibkaaGreatDoor
end
