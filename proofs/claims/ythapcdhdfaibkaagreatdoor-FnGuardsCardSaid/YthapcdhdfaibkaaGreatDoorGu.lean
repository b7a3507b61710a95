import Derived.Test.YthapcdhdfaibkaaGreatDoorT31
section
namespace Go.Proofs.YthapcdhdfaibkaaGreatDoor
set_option linter.all false
theorem b4o {w : World} {L : List Nat} {e : TypeId} {a : Option Addr} {m c : Nat} {xs : List (List Int × List Int)} (h : Ro w L (Enc.sl e (Enc.pair (Enc.sl tI Enc.int) (Enc.sl tI Enc.int))) [.slice a m c] xs) : ∀ x ∈ xs, (∀ y ∈ x.1, I64 y) ∧ ∀ y ∈ x.2, I64 y := by
 intro x hx
 obtain ⟨i, hi, rfl⟩ := List.getElem_of_mem hx
 obtain ⟨_, _, ci, _, h1, _⟩ := h.elem i hi
 obtain ⟨c1, c2, rfl, h2, h3⟩ := h1.pair
 obtain ⟨a', c', rfl⟩ := h3.sl
 obtain ⟨a2, c2', rfl⟩ := h2.sl
 exact ⟨h2.i64, h3.i64⟩
def c2m (s : List Int) (d6 : List IL) (out : List (List Int)) (q : List Int × List IL) : List (List Int) := (X6 s q d6).foldl U0 out
def c3i (s : List Int) (u : List (List Int × List IL)) (d6 : List IL) : List (List Int) := if b0i s u then u.foldl (c2m s d6) [] else []
end Go.Proofs.YthapcdhdfaibkaaGreatDoor
end
section
namespace Go.Proofs.YthapcdhdfaibkaaGreatDoor
set_option linter.all false
def X9 (d6 n : List IL) (b : List Int × List Int) : Bool := n.any fun a => N9 d6 (O8 a b)
def a0x (s : List Int) (g : (List Int × List IL) × List IL) (d6 : List IL) : List (List Int) :=
 if P9 s g && F1 s d6 then S2 g.1.1 ((H6 g.1.2 d6).filter fun b => !X9 d6 g.2 b) else []
theorem P6 {s : List Int} {g : (List Int × List IL) × List IL} (h : P9 s g = true) : I3 s g.1 = true ∧ ∀ a ∈ g.2, a.2.length ≤ 3 := by
 simp only [P9, Bool.and_eq_true, Bool.not_eq_true', List.any_eq_false, Bool.not_eq_true] at h
 refine ⟨h.1, fun a ha => ?_⟩
 have h1 : K3 s a = true := by simpa using h.2.2.1 a ha
 simp only [K3, Bool.and_eq_true, decide_eq_true_eq] at h1
 have h2 := a0N h1.1
 simp only [at0] at h1; omega
def a7d (s : List Int) (g : (List Int × List IL) × List IL) (d6 : List IL) (t : List Int) : Bool := P9 s g && (T0 (X6 s g.1 d6) t && !T0 (a0x s g d6) t)
end Go.Proofs.YthapcdhdfaibkaaGreatDoor
end
section
namespace Go.Proofs.YthapcdhdfaibkaaGreatDoor
set_option linter.all false
def a3h (v : List Int) (p : Int × Int) : Bool := decide (at0 v p.1 = p.2)
def W5 (m : Int × List Int × Int × Int × Int) (v : List Int) (f : IL) : Bool := decide (f.1 = m.1) && (m.2.1.zip v).all (a3h f.2)
theorem a1w {a b : List Int} {p : Int × Int → Bool} {g : Nat} (h : g < a.length) (h2 : g < b.length) : ((a.zip b).drop g).all p = (p (a[g], b[g]) && ((a.zip b).drop (g + 1)).all p) := by
 rw [List.drop_eq_getElem_cons (by simp; omega)]
 simp
theorem a3A {a b : List Int} {p : Int × Int → Bool} {g : Nat} (h : a.length ≤ g) : ((a.zip b).drop g).all p = true := by
 rw [List.drop_eq_nil_of_le (by simp; omega)]; rfl
theorem b5n {α : Type} {s : List α} {p : α → Bool} : s.filter (fun x => !!p x) = s.filter p := by
 congr 1; funext x; cases p x <;> rfl
theorem b3u {s : List Int} {m : Int × List Int × Int × Int × Int} {f : IL} (h1 : V3 s m = true) (h2 : O6 s f = true) (e : f.1 = m.1) : ∀ i ∈ m.2.1, 0 ≤ i ∧ i < f.2.length := by
 simp only [V3, a0T, O6, a0m, Bool.and_eq_true, decide_eq_true_eq, Bool.not_eq_true', List.any_eq_false] at h1 h2
 intro i hi
 have h3 := h1.2.2.1 i hi
 have h4 := h2.2.1
 rw [e] at h4
 simp only [inR, Bool.not_eq_true, Bool.and_eq_false_imp, Bool.and_eq_true, decide_eq_true_eq, decide_eq_false_iff_not] at h3
 omega
end Go.Proofs.YthapcdhdfaibkaaGreatDoor
end
section
namespace Go.Proofs.YthapcdhdfaibkaaGreatDoor
set_option linter.all false
def b9u (h head : List Int) (b : List Int × List Int) : Bool := decide (h.map (F6 b) = head)
def c2U (l : List (List Int × List Int)) (h head : List Int) : List Int × List Int := (l.find? (b9u h head)).getD ([], [])
def xF (p q : List IL) : List IL := p ++ (u7 (fun t => inR t 0 9) q).map fun c => ((3 : Int), [c])
theorem a7E {is : Int → Bool} {l : List IL} {x : Int} : x ∈ u7 is l ↔ x ∈ l.flatMap (fun a => a.2) ∧ is x = true := by
 unfold u7
 rw [a2L, List.mem_filter]
def c1Y (p q : List Int × List IL) : Bool :=
 decide (p.1.length = q.1.length) && (fzB [u7 (fun t => inR t 0 9) p.2, u7 (fun t => inR t 0 9) q.2].flatten p.2 &&
  (H6 q.2 (fzF [u7 (fun t => inR t 0 9) p.2, u7 (fun t => inR t 0 9) q.2].flatten p.2)).any (b9u q.1 (p.1.map (F6 (fzV [u7 (fun t => inR t 0 9) p.2, u7 (fun t => inR t 0 9) q.2].flatten p.2, fzX [u7 (fun t => inR t 0 9) p.2, u7 (fun t => inR t 0 9) q.2].flatten p.2)))))
def b9v (s : List Int) (p q : List Int × List IL) : Bool := I3 s p && (I3 s q && c1Y p q)
def c3o (l : List (List Int)) : Nat := (l.map List.length).sum
end Go.Proofs.YthapcdhdfaibkaaGreatDoor
end
section
namespace Go.Proofs.YthapcdhdfaibkaaGreatDoor
def c1d (s : List Int) (u : List (List Int × List IL)) (q : List Int × List IL) : Bool := u.any (b9v s q)
def c0C (s : List Int) (u : List (List Int × List IL)) (q : List Int × List IL) : Bool := !c1d s u q
def c0a (s : List Int) (a b : List (List Int × List IL)) : Bool := !a.any (c0C s b)
def c2K (s : List Int) (a b : List (List Int × List IL)) : Bool := b0i s a && (b0i s b && (c0a s a b && c0a s b a))
end Go.Proofs.YthapcdhdfaibkaaGreatDoor
end
section
namespace Go.Proofs.YthapcdhdfaibkaaGreatDoor
def b7G {α : Type} (l : List α) (i : Int) : List α := if inR i 0 ((l.length : Int) - 1) then l.take i.toNat ++ l.drop (i + 1).toNat else l
end Go.Proofs.YthapcdhdfaibkaaGreatDoor
end
section
namespace Go.Proofs.YthapcdhdfaibkaaGreatDoor
set_option linter.all false
def c0S (s h : List Int) (a : List IL × Nat) : List IL × Nat :=
 if a.2 < a.1.length then (if b9v s (h, b7G a.1 a.2) (h, a.1) then (b7G a.1 a.2, a.2) else (a.1, a.2 + 1)) else a
def a6j (s h : List Int) (l : List IL) : Nat → List IL × Nat
 | 0 => (l, 0)
 | n + 1 => c0S s h (a6j s h l n)
def c2L (s h : List Int) (l : List IL) (n : Nat) : Prop := (a6j s h l n).2 ≤ (a6j s h l n).1.length ∧ (a6j s h l n).1.length - (a6j s h l n).2 + n = l.length ∧ ∀ a ∈ (a6j s h l n).1, a ∈ l
def c2P (s : List Int) (h : List Int) (l : List IL) : List IL := if I3 s (h, l) then (a6j s h l l.length).1 else l
end Go.Proofs.YthapcdhdfaibkaaGreatDoor
end
section
namespace Go.Proofs.YthapcdhdfaibkaaGreatDoor
set_option linter.all false
section
variable {x b : List Int × List Int} {t u v : Int} {h head : List Int} {s : List Int} {q : List Int × List IL} {F F' : List IL} {d9 : List IL} {a f : IL}
theorem b1b : ∀ {l : List Int} {u : Int}, u ∈ l → ∃ g, ∃ hg : g < l.length, l[g] = u ∧ ∀ y ∈ l.take g, decide (y = u) = false
 | [], _, h => by cases h
 | z :: l, u, h => by
  by_cases e : z = u
  ·exact ⟨0, by simp, e, by simp⟩
  ·rcases List.mem_cons.1 h with h | h
   ·exact absurd h.symm e
   ·obtain ⟨g, hg, h1, h2⟩ := b1b h
    refine ⟨g + 1, by simp; omega, by simpa using h1, fun y hy => ?_⟩
    rw [List.take_succ_cons] at hy
    rcases List.mem_cons.1 hy with hy | hy
    ·rw [hy]; exact decide_eq_false e
    ·exact h2 y hy
theorem b4h (h : x.1.length = x.2.length) : unb x u = false ↔ u ∈ x.1 := by
 rw [unb, ← h, Nat.min_self, List.take_length]
 simp
def bd (x : List Int × List Int) (u : Int) : Prop := inR u 10 17 = false ∨ u ∈ x.1
theorem b0I (h : x.1.length = x.2.length) (hu : bd x u) : F6 (F5 x t v) u = F6 x u := by
 cases hc : inR t 10 17 && unb x t with
 | false => rw [a9O hc]
 | true =>
  rw [a7O hc]
  rcases hu with hu | hu
  ·rw [← a0c hu, ← a0c hu]
  ·cases hr : inR u 10 17 with
   | false => rw [← a0c hr, ← a0c hr]
   | true =>
    obtain ⟨g, hg, h1, h2⟩ := b1b hu
    have e1 := a6k (b := x) hr hg (by omega) h1 h2
    have e2 := a6k (b := (x.1 ++ [t], x.2 ++ [v])) (g := g) hr (by simp; omega) (by simp; omega) (by simp [List.getElem_append_left hg, h1]) (by
     intro y hy
     simp only [List.take_append_of_le_length (Nat.le_of_lt hg)] at hy
     exact h2 y hy)
    rw [← e1, ← e2]
    simp [List.getElem_append_left (show g < x.2.length by omega)]
theorem b3H (hu : bd x u) : bd (F5 x t v) u := by
 unfold F5
 split
 ·rcases hu with hu | hu
  ·exact .inl hu
  ·exact .inr (by simp [hu])
 ·exact hu
theorem b8r (h : x.1.length = x.2.length) : bd (F5 x t v) t := by
 cases hr : inR t 10 17 with
 | false => exact .inl hr
 | true =>
  cases hu : unb x t with
  | true => rw [a7O (by rw [hr, hu]; rfl)]; exact .inr (by simp)
  | false => rw [a9O (by rw [hr, hu]; rfl)]; exact .inr ((b4h h).1 hu)
theorem a8C : ∀ {l : List (Int × Int)} {x : List Int × List Int} {u : Int}, bd x u → bd (I6 x l) u
 | [], _, _, h => h
 | p :: l, x, u, h => a8C (l := l) (b3H h)
theorem a5V : ∀ {l : List (Int × Int)} {x : List Int × List Int} {u : Int}, x.1.length = x.2.length → bd x u → F6 (I6 x l) u = F6 x u
 | [], _, _, _, _ => rfl
 | p :: l, x, u, h, hu => (a5V (l := l) (a4d h) (b3H hu)).trans (b0I h hu)
theorem b0R : ∀ {l : List (Int × Int)} {x : List Int × List Int}, x.1.length = x.2.length → okV x l = true → ∀ p ∈ l, F6 (I6 x l) p.1 = p.2 ∧ bd (I6 x l) p.1
 | [], _, _, _, p, hp => by cases hp
 | q :: l, x, h, hk, p, hp => by
  simp only [okV, Bool.and_eq_true, decide_eq_true_eq] at hk
  rcases List.mem_cons.1 hp with hp | hp
  ·subst hp
   have hb : bd (F5 x p.1 p.2) p.1 := b8r h
   exact ⟨(a5V (l := l) (a4d h) hb).trans hk.1, a8C (l := l) hb⟩
  ·exact b0R (l := l) (a4d h) hk.2 p hp
theorem a6W (hm : s7 b a f = true) : (u9 b a f).1.length = (u9 b a f).2.length ∧ O8 a (u9 b a f) = f ∧ (∀ t ∈ a.2, bd (u9 b a f) t) ∧ ∀ u, bd b u → F6 (u9 b a f) u = F6 b u ∧ bd (u9 b a f) u := by
 simp only [s7, Bool.and_eq_true, decide_eq_true_eq] at hm
 obtain ⟨h1, h2, h3, h4⟩ := hm
 have hv := b0R h3 h4
 have hz : ∀ i (hi : i < a.2.length), (a.2[i], f.2[i]'(by omega)) ∈ a.2.zip f.2 := fun i hi => by
  have : (a.2.zip f.2)[i]'(by simp; omega) = (a.2[i], f.2[i]'(by omega)) := by simp
  rw [← this]; exact List.getElem_mem _
 refine ⟨a6b h3, ?_, ?_, fun u hu => ⟨a5V h3 hu, a8C hu⟩⟩
 ·unfold O8
  refine Prod.ext h1 (List.ext_getElem (by simpa using h2) fun i hi hi' => ?_)
  simp only [List.length_map] at hi
  rw [List.getElem_map]
  exact (hv _ (hz i hi)).1
 ·intro t ht
  obtain ⟨i, hi, rfl⟩ := List.getElem_of_mem ht
  exact (hv _ (hz i hi)).2
def MOk (A F : List IL) (b : List Int × List Int) : Prop := b.1.length = b.2.length ∧ ∀ a ∈ A, O8 a b ∈ F ∧ ∀ t ∈ a.2, bd b t
theorem b3w {b b' : List Int × List Int} (h : ∀ t ∈ a.2, F6 b' t = F6 b t) : O8 a b' = O8 a b := by
 unfold O8
 rw [List.map_congr_left h]
theorem b8k {A : List IL} {B : List (List Int × List Int)} (hB : ∀ b ∈ B, MOk A F b) : ∀ b ∈ J6 B a F, MOk (A ++ [a]) F b := by
 intro b hb
 obtain ⟨b0, hb0, hb⟩ := List.mem_flatMap.1 hb
 obtain ⟨f, hf, rfl⟩ := List.mem_map.1 hb
 rw [List.mem_filter] at hf
 obtain ⟨m1, m2, m3, m4⟩ := a6W hf.2
 refine ⟨m1, fun c hc => ?_⟩
 rcases List.mem_append.1 hc with hc | hc
 ·obtain ⟨k1, k2⟩ := (hB b0 hb0).2 c hc
  exact ⟨by rw [b3w fun t ht => (m4 t (k2 t ht)).1]; exact k1, fun t ht => (m4 t (k2 t ht)).2⟩
 ·rw [List.mem_singleton] at hc
  subst hc
  exact ⟨by rw [m2]; exact hf.1, m3⟩
theorem b2s : ∀ {d9 A : List IL} {B : List (List Int × List Int)}, (∀ b ∈ B, MOk A F b) → ∀ b ∈ d9.foldl (fun l a => J6 l a F) B, MOk (A ++ d9) F b
 | [], A, B, hB, b, hb => by simpa using hB b hb
 | a :: d9, A, B, hB, b, hb => by
  have := b2s (d9 := d9) (b8k (a := a) hB) b hb
  simpa using this
theorem a6Z : ∀ b ∈ H6 d9 F, MOk d9 F b := by
 have := b2s (F := F) (d9 := d9) (A := []) (B := [([], [])]) fun b hb => by
  rw [List.mem_singleton] at hb; subst hb; exact ⟨rfl, fun a ha => by cases ha⟩
 simpa [H6] using this
theorem b3d {l : List (List Int)} {t : List Int} : T0 l t = true ↔ t ∈ l := by
 unfold T0
 rw [List.any_eq_true]
 constructor
 ·rintro ⟨y, hy, e⟩; rw [decide_eq_true_eq] at e; exact e ▸ hy
 ·exact fun h => ⟨t, h, by simp⟩
theorem b7j {l : List (List Int)} {t y : List Int} : y ∈ U0 l t ↔ y ∈ l ∨ y = t := by
 constructor
 ·exact a6n
 ·intro h
  unfold U0 X4
  by_cases h1 : T0 l t = true
  ·rw [if_pos h1]
   rcases h with h | h
   ·exact h
   ·rw [h]; exact b3d.1 h1
  ·rw [if_neg h1]
   split
   ·rename_i h2
    rcases h with h | h
    ·exact a8y h
    ·rw [h]; exact a7u h2
   ·rcases h with h | h <;> simp [h]
theorem a7r {h t : List Int} : ∀ {l : List (List Int × List Int)} {out : List (List Int)}, t ∈ l.foldl (fun out b => U0 out (h.map (F6 b))) out ↔ t ∈ out ∨ ∃ b ∈ l, h.map (F6 b) = t
 | [], out => by simp
 | b :: l, out => by
  rw [List.foldl_cons, a7r, b7j]
  constructor
  ·rintro ((h1 | h1) | ⟨c, hc, e⟩)
   ·exact .inl h1
   ·exact .inr ⟨b, by simp, h1.symm⟩
   ·exact .inr ⟨c, by simp [hc], e⟩
  ·rintro (h1 | ⟨c, hc, e⟩)
   ·exact .inl (.inl h1)
   ·rcases List.mem_cons.1 hc with hc | hc
    ·subst hc; exact .inl (.inr e.symm)
    ·exact .inr ⟨c, hc, e⟩
theorem a4g {h t : List Int} {l : List (List Int × List Int)} : t ∈ S2 h l ↔ ∃ b ∈ l, h.map (F6 b) = t := by
 rw [S2, a7r]; simp
theorem b7k {B B' : List (List Int × List Int)} (hF : ∀ f ∈ F, f ∈ F') (hB : ∀ b ∈ B, b ∈ B') : ∀ b ∈ J6 B a F, b ∈ J6 B' a F' := by
 intro b hb
 obtain ⟨b0, hb0, hb⟩ := List.mem_flatMap.1 hb
 obtain ⟨f, hf, rfl⟩ := List.mem_map.1 hb
 rw [List.mem_filter] at hf
 exact List.mem_flatMap.2 ⟨b0, hB b0 hb0, List.mem_map.2 ⟨f, List.mem_filter.2 ⟨hF f hf.1, hf.2⟩, rfl⟩⟩
theorem b1j (hF : ∀ f ∈ F, f ∈ F') : ∀ {d9 : List IL} {B B' : List (List Int × List Int)}, (∀ b ∈ B, b ∈ B') → ∀ b ∈ d9.foldl (fun l a => J6 l a F) B, b ∈ d9.foldl (fun l a => J6 l a F') B'
 | [], _, _, hB => hB
 | a :: d9, B, B', hB => b1j hF (d9 := d9) (b7k (a := a) hF hB)
theorem a9P (hF : ∀ f ∈ F, f ∈ F') : ∀ b ∈ H6 d9 F, b ∈ H6 d9 F' := b1j hF fun b hb => hb
end
end Go.Proofs.YthapcdhdfaibkaaGreatDoor
end
