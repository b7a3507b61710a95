import Derived.Test.YtdopeopehgdccaaGreatT33
section
namespace Go.Proofs.YtdopeopehgdccaaGreat
set_option linter.unusedVariables false
set_option linter.unusedSimpArgs false
def c1e (x : List (List Int) × List (Int × List Int) × List (Int × List Int) × Int) : Nat := r9 O9 x.1 + r9 E4 x.2.1 + r9 H2 x.2.2.1 + 1
def c1a (x : List (List Int) × List (Int × List Int) × List (Int × List Int) × Int) (k : Int) : List (List Int) × List (Int × List Int) × List (Int × List Int) × Int := (mkL O9 a2Q x.1 (k), mkL E4 R8 x.2.1 (k + (r9 O9 x.1 : Nat)), mkL H2 a0T x.2.2.1 (k + (r9 O9 x.1 : Nat) + (r9 E4 x.2.1 : Nat)), (k + (r9 O9 x.1 : Nat) + (r9 E4 x.2.1 : Nat) + (r9 H2 x.2.2.1 : Nat)))
section
variable {s : List Int} {T : Acs → List Fct} {l : List Mth} {q : List Int × List AT2} {f5 : List AT2} {d9 : List Stp} {d8 : List Fct} {c : Int} {g k : Nat} {x : Stp} {σ : RS} {p : Acs → Prop}
theorem b3M (hD : ∀ b ∈ σ.1, p (C2 l f5 x b)) (h : ∀ a ∈ σ.2.1, p a) : ∀ {k : Nat}, k ≤ σ.1.length → ∀ a ∈ (rbN T l f5 x σ k).2.1, p a
 | 0, _ => h
 | k + 1, hk => by
  have ih := b3M hD h (k := k) (by omega)
  rw [a2V (by omega)]
  show ∀ a ∈ cond _ (rbN T l f5 x σ k).2.1 _, p a
  cases a0e (rbN T l f5 x σ k).2.1 (C2 l f5 x σ.1[k])
  ·intro a ha
   rcases List.mem_append.1 ha with ha | ha
   ·exact ih a ha
   ·simp only [List.mem_singleton] at ha; subst ha
    exact hD _ (List.getElem_mem _)
  ·exact ih
theorem b4f (ho : O1 s l q d9 = true) (hT : TOk s (fun a => Q0 s l a = true) T) : ∀ {g : Nat}, g ≤ d9.length → ∀ a ∈ (n8 T l q.2 (d9.take g)).2.1, Q0 s l a = true
 | 0, _ => fun a ha => by simp [n8] at ha
 | g + 1, hg => by
  have ih := b4f ho hT (g := g) (by omega)
  rw [a7u (by omega), ← b0n rfl]
  exact b3M (a7L ho hT (by omega)) ih (Nat.le_refl _)
end
end Go.Proofs.YtdopeopehgdccaaGreat
end
section
namespace Go.Proofs.YtdopeopehgdccaaGreat
set_option linter.unusedVariables false
set_option linter.unusedSimpArgs false
def a4K (a : Acs) (log : List Acs) : List Acs := cond (a0e log a) log (log ++ [a])
theorem a7s {a : Acs} {log : List Acs} (h : a0e log a = true) : log = a4K a log := by rw [a4K, h]; rfl
theorem a7b {a : Acs} {log : List Acs} (h : a0e log a = false) : log ++ [a] = a4K a log := by rw [a4K, h]; rfl
theorem b6s {a : Acs} {log : List Acs} : (a4K a log).length ≤ log.length + 1 := by unfold a4K; cases a0e log a <;> simp
def a4k (l : List Mth) (m : Int) (n : AT2) (b : Bnd) : Acs := (m, N7 (atM l m) n b)
def gP (l : List Mth) (d8 : List Fct) (m : Int) (n : AT2) (b : Bnd) : Bool := K6 (l2 l d8 (a4k l m n b)) (S9 n b)
def gL (l : List Mth) (m : Int) (n : AT2) (log : List Acs) (b : Bnd) : List Acs := a4K (a4k l m n b) log
abbrev GSt := List Bnd × List Acs
def gdI (l : List Mth) (d8 : List Fct) (ms : List Int) (ns : List AT2) (σ : GSt) : Nat → GSt
 | 0 => σ
 | k + 1 => ((gdI l d8 ms ns σ k).1.filter (fun b => !gP l d8 (at0 ms (k : Nat)) (ns.getD k (0, [])) b), (gdI l d8 ms ns σ k).1.foldl (gL l (at0 ms (k : Nat)) (ns.getD k (0, []))) (gdI l d8 ms ns σ k).2)
section
variable {s : List Int} {T T' : Acs → List Fct} {l : List Mth} {f5 ns : List AT2} {S d9 : List Stp} {σ : RS} {d8 F : List Fct} {q : List Int × List AT2} {x : Stp} {B L : List Bnd} {V V' : List Int} {n k h : Nat} {b : Bnd} {ms : List Int} {log : List Acs} {τ : GSt} {g : GQ}
theorem a5h {m : Int} {a : AT2} : ∀ {L : List Bnd} {log : List Acs}, (L.foldl (gL l m a) log).length ≤ log.length + L.length
 | [], _ => by simp
 | b :: L, log => by
  rw [List.foldl_cons, List.length_cons]
  have h1 := a5h (m := m) (a := a) (L := L) (log := gL l m a log b)
  have h2 : (gL l m a log b).length ≤ log.length + 1 := b6s
  omega
theorem b5A (hT : ∀ a, ∀ f ∈ T a, f ∈ d8) : ∀ {B : List Bnd} {σ : RS}, (∀ f ∈ σ.2.2, f ∈ d8) → ∀ f ∈ (B.foldl (rb1 T l f5 x) σ).2.2, f ∈ d8
 | [], _, h => h
 | b :: B, σ, h => by
  rw [List.foldl_cons]
  refine b5A hT (B := B) fun f hf => ?_
  have hf' : f ∈ cond (a0e σ.2.1 (C2 l f5 x b)) σ.2.2 ((T (C2 l f5 x b)).foldl F0 σ.2.2) := hf
  cases hh : a0e σ.2.1 (C2 l f5 x b) with
  | true => rw [hh] at hf'; exact h f hf'
  | false =>
   rw [hh] at hf'
   rcases (a3i f).1 hf' with hf' | hf'
   ·exact h f hf'
   ·exact hT _ f hf'
theorem b3T (hT : ∀ a, ∀ f ∈ T a, f ∈ d8) : ∀ {S : List Stp} {σ : RS}, (∀ f ∈ σ.2.2, f ∈ d8) → ∀ f ∈ (S.foldl (rs1 T l f5) σ).2.2, f ∈ d8
 | [], _, h => h
 | x :: S, σ, h => by rw [List.foldl_cons]; exact b3T hT (b5A hT h)
theorem b2x (h : ∀ b, T (C2 l f5 x b) = T' (C2 l f5 x b)) : ∀ {B : List Bnd} {σ : RS}, B.foldl (rb1 T l f5 x) σ = B.foldl (rb1 T' l f5 x) σ
 | [], _ => rfl
 | b :: B, σ => by
  rw [List.foldl_cons, List.foldl_cons, show rb1 T l f5 x σ b = rb1 T' l f5 x σ b from by unfold rb1; rw [h b]]
  exact b2x h
theorem b0Y : ∀ {S : List Stp} {σ : RS}, (∀ x ∈ S, ∀ b, T (C2 l f5 x b) = T' (C2 l f5 x b)) → S.foldl (rs1 T l f5) σ = S.foldl (rs1 T' l f5) σ
 | [], _, _ => rfl
 | x :: S, σ, h => by
  rw [List.foldl_cons, List.foldl_cons, show rs1 T l f5 σ x = rs1 T' l f5 σ x from b2x (h x (List.mem_cons_self ..))]
  exact b0Y fun y hy => h y (List.mem_cons_of_mem _ hy)
theorem b6M (ho : O1 s l q d9 = true) (hf : F2 s d8 = true) (h : ∀ x ∈ d9, (atM l x.2).2.2.1 = 0) : U7 (fun a => l2 l d8 a) l q d9 = N3 s l q d9 d8 0 := by
 rw [← b3S ho hf, U7, U7]
 have e : n8 (fun a => l2 l d8 a) l q.2 d9 = n8 (fun a => o7 l d8 a 0) l q.2 d9 := b0Y fun x hx b => a7M (.inl (h x hx))
 rw [e]
theorem BOk.sub (h : BOk V n b) (hV : ∀ v, inR v 10 17 = true → v ∈ V' → v ∈ V) : BOk V' n b := ⟨h.eq, h.le, h.val, fun v h1 h2 => h.has v h1 (hV v h1 h2)⟩
theorem b3O (hF : ∀ f ∈ F, J2 s f = true) : ∀ {f5 : List AT2} {B : List Bnd} {V : List Int} {n : Nat}, (∀ b ∈ B, BOk V n b) → ∀ b ∈ f5.foldl (fun l a => G2 l a F) B, BOk (V ++ f5.flatMap fun a => a.2) (n + (f5.flatMap fun a => a.2).length) b
 | [], _, _, _, h => by simpa using h
 | a :: f5, B, V, n, h => by
  rw [List.foldl_cons]
  have h1 := b3O hF (f5 := f5) (B := G2 B a F) (V := V ++ a.2) (n := n + a.2.length) fun b hb => by
   obtain ⟨b0, h0, h2⟩ := List.mem_flatMap.1 hb
   exact b3R (h b0 h0) hF b h2
  rw [List.append_assoc] at h1
  rw [List.flatMap_cons, List.length_append, ← Nat.add_assoc]
  exact h1
theorem b6j (hF : ∀ f ∈ F, J2 s f = true) : ∀ b ∈ I0 f5 F, BOk (f5.flatMap fun a => a.2) (f5.flatMap fun a => a.2).length b := by
 have := b3O hF (f5 := f5) (B := [([], [])]) (V := []) (n := 0) fun b hb => by
  simp only [List.mem_singleton] at hb; subst hb
  exact ⟨rfl, Nat.le_refl _, by simp, by simp⟩
 simpa [I0] using this
theorem b5i {p : Int → Bool} {v : Int} (h : v ∈ B5 p f5) : v ∈ f5.flatMap fun a => a.2 := by
 unfold B5 at h
 have h1 := a6n.1 h
 exact (List.mem_filter.1 h1).1
theorem b3f {α : Type} [DecidableEq α] : ∀ {l m : List α}, l.Nodup → (∀ x ∈ l, x ∈ m) → l.length ≤ m.length
 | [], _, _, _ => Nat.zero_le _
 | x :: l, m, hn, hs => by
  obtain ⟨h1, h2⟩ := List.nodup_cons.1 hn
  have hx := hs x (List.mem_cons_self ..)
  have h3 := b3f (m := m.erase x) h2 fun y hy => (List.mem_erase_of_ne (fun e => h1 (by rw [← e]; exact hy))).2 (hs y (List.mem_cons_of_mem _ hy))
  have h4 := List.length_erase_of_mem hx
  have h5 := List.length_pos_of_mem hx
  rw [List.length_cons]; omega
def rgB (s : List Int) (l : List Mth) (g : GQ) (d8 : List Fct) : Bool := P1 s l g && F2 s d8
def rgR (s : List Int) (l : List Mth) (g : GQ) (d8 : List Fct) : b6p := U7 (fun a => l2 l d8 a) l g.1 (G8 s l g)
def rgI (s : List Int) (l : List Mth) (g : GQ) (d8 : List Fct) (k : Nat) : GSt := gdI l d8 (w6 s l g) g.2 (I0 g.1.2 (rgR s l g d8).2.2.1, (rgR s l g d8).2.1) k
def rgA (s : List Int) (l : List Mth) (g : GQ) (d8 : List Fct) : List (List Int) := cond (rgB s l g d8) (S0 g.1.1 (rgI s l g d8 g.2.length).1) []
def rgL (s : List Int) (l : List Mth) (g : GQ) (d8 : List Fct) : List Acs := cond (rgB s l g d8) (rgI s l g d8 g.2.length).2 []
theorem E9 (h : rgB s l g d8 = false) : [] = rgA s l g d8 ∧ [] = rgL s l g d8 ∧ false = rgB s l g d8 := by rw [rgA, rgL, h]; exact ⟨rfl, rfl, rfl⟩
theorem K9 (h : P1 s l g = false) : rgB s l g d8 = false := by rw [rgB, h]; rfl
theorem L4 (h : F2 s d8 = false) : rgB s l g d8 = false := by rw [rgB, h, Bool.and_false]
theorem L9 (h1 : P1 s l g = true) (h2 : F2 s d8 = true) (hk : k = g.2.length) : S0 g.1.1 (rgI s l g d8 k).1 = rgA s l g d8 ∧ (rgI s l g d8 k).2 = rgL s l g d8 ∧ true = rgB s l g d8 := by
 have h : rgB s l g d8 = true := by rw [rgB, h1, h2]; rfl
 rw [rgA, rgL, h, hk]; exact ⟨rfl, rfl, rfl⟩
theorem a1G (h : P1 s l g = true) : G9 s l = true ∧ R2 s g = true ∧ G8 s l g = (grF (exF l) g.1.2).1 ∧ (grF (exF l) g.1.2).1.length = g.1.2.length ∧ w6 s l g = g.2.map (fun a => F1 (exF l) a (a3P g)) ∧ ∀ a ∈ g.2, 0 ≤ F1 (exF l) a (a3P g) := by
 have h0 := h
 simp only [P1, Bool.and_eq_true, Bool.not_eq_true', decide_eq_false_iff_not, List.any_eq_false, decide_eq_true_eq] at h
 have hl := b2a (l := exF l) (f5 := g.1.2) (n := g.1.2.length)
 refine ⟨h.1, h.2.1, by rw [G8, h0]; rfl, ?_, by rw [w6, h0]; rfl, fun a ha => ?_⟩
 ·have h3 := h.2.2.1
  unfold grF at h3 ⊢; omega
 ·have := h.2.2.2 a ha; omega
theorem a9I (h : P1 s l g = true) : O1 s l g.1 (G8 s l g) = true := by
 obtain ⟨h1, h2, h3, h4, _⟩ := a1G h
 rw [h3]; exact b8V h1 (a1S h2).1 h4
theorem b8Q (h : P1 s l g = true) : ∀ x ∈ G8 s l g, (atM l x.2).2.2.1 = 0 := fun x hx => by
 obtain ⟨h1, h2, h3, h4, _⟩ := a1G h
 rw [h3] at hx
 obtain ⟨a, b, ha, e, h5⟩ := b7o (n := g.1.2.length) x hx
 rw [e]; exact ((a7i (l := l) (b := b) (b0W (a1S h2).1 a ha)).2 h5).2.1
theorem b4d (h : P1 s l g = true) (hf : F2 s d8 = true) : N3 s l g.1 (G8 s l g) d8 0 = rgR s l g d8 := (b6M (a9I h) hf (b8Q h)).symm
theorem a9K (h : P1 s l g = true) (hf : F2 s d8 = true) : (∀ f ∈ (rgR s l g d8).2.2.1, J2 s f = true) ∧ (rgR s l g d8).2.2.1.length ≤ 24 ∧ (rgR s l g d8).2.1.length ≤ 1327104 := by
 have ho := a9I h
 have h1 := a7v ho (b2y (l := l) hf) (Nat.le_refl _)
 rw [List.take_length] at h1
 refine ⟨h1.got, ?_, h1.log⟩
 have h2 : ∀ f ∈ (rgR s l g d8).2.2.1, f ∈ d8 := b3T (fun a f hf => (List.mem_filter.1 hf).1) (by simp)
 exact Nat.le_trans (b3f (a3p h1.asc) h2) (I3 hf).1
theorem b5L : ∀ {k : Nat}, ∀ b ∈ (gdI l d8 ms ns τ k).1, b ∈ τ.1
 | 0, b, hb => hb
 | k + 1, b, hb => b5L b (List.mem_filter.1 hb).1
theorem b5e : ∀ {k : Nat}, (gdI l d8 ms ns τ k).1.length ≤ τ.1.length ∧ (gdI l d8 ms ns τ k).2.length ≤ τ.2.length + k * τ.1.length
 | 0 => ⟨Nat.le_refl _, by show τ.2.length ≤ _; omega⟩
 | k + 1 => by
  obtain ⟨h1, h2⟩ := b5e (k := k)
  have h3 := a5h (l := l) (m := at0 ms (k : Nat)) (a := ns.getD k (0, [])) (L := (gdI l d8 ms ns τ k).1) (log := (gdI l d8 ms ns τ k).2)
  refine ⟨Nat.le_trans (List.length_filter_le ..) h1, ?_⟩
  show ((gdI l d8 ms ns τ k).1.foldl (gL l (at0 ms (k : Nat)) (ns.getD k (0, []))) (gdI l d8 ms ns τ k).2).length ≤ _
  rw [Nat.succ_mul]; omega
theorem b2n (h : P1 s l g = true) (hf : F2 s d8 = true) (hk : k ≤ g.2.length) : (rgI s l g d8 k).1.length ≤ 331776 ∧ (rgI s l g d8 k).2.length ≤ 2654208 := by
 obtain ⟨h1, h2, h3, _⟩ := a1G h
 obtain ⟨r1, r2, r3⟩ := a9K h hf
 have hq := a0P (a1S h2).1
 have hb := (b6b (d8 := (rgR s l g d8).2.2.1) r2 hq.1 hq.2.2).1
 have hn := (a4f h2).2
 have hg := b5e (l := l) (d8 := d8) (ms := w6 s l g) (ns := g.2) (τ := (I0 g.1.2 (rgR s l g d8).2.2.1, (rgR s l g d8).2.1)) (k := k)
 have h9 : k * (I0 g.1.2 (rgR s l g d8).2.2.1).length ≤ 4 * 331776 := Nat.mul_le_mul (by omega) hb
 unfold rgI
 have hg2 : (gdI l d8 (w6 s l g) g.2 (I0 g.1.2 (rgR s l g d8).2.2.1, (rgR s l g d8).2.1) k).2.length ≤ (rgR s l g d8).2.1.length + k * (I0 g.1.2 (rgR s l g d8).2.2.1).length := hg.2
 exact ⟨Nat.le_trans hg.1 hb, Nat.le_trans hg2 (by omega)⟩
theorem a7P (h : P1 s l g = true) (hk : k < g.2.length) : at0 (w6 s l g) (k : Nat) = F1 (exF l) g.2[k] (a3P g) ∧ (w6 s l g).length = g.2.length := by
 obtain ⟨_, _, _, _, h5, _⟩ := a1G h
 rw [h5]
 refine ⟨?_, by simp⟩
 rw [at0, Int.toNat_natCast, J3 (by rw [List.length_map]; exact hk), List.getElem_map]
theorem b5x (h : P1 s l g = true) (hf : F2 s d8 = true) (hk : k < g.2.length) : (∀ b ∈ (rgI s l g d8 k).1, Q0 s l (a4k l (at0 (w6 s l g) (k : Nat)) g.2[k] b) = true) ∧ (0 ≤ at0 (w6 s l g) (k : Nat) ∧ (at0 (w6 s l g) (k : Nat)).toNat < l.length) ∧ (∀ i ∈ (atM l (at0 (w6 s l g) (k : Nat))).2.1, 0 ≤ i ∧ i.toNat < g.2[k].2.length) := by
 obtain ⟨h1, h2, h3, h4, h5, h6⟩ := a1G h
 obtain ⟨r1, r2, r3⟩ := a9K h hf
 have hm := (a7P h hk).1
 have hat : ∀ a ∈ g.2, J0 s a = true := fun a ha => by
  have h7 := h2
  simp only [R2, Bool.and_eq_true, Bool.not_eq_true', List.any_eq_false, Bool.not_eq_true] at h7
  simpa using h7.2.2.1 a ha
 have ha := hat _ (List.getElem_mem hk)
 have hrel : 0 ≤ g.2[k].1 := by
  simp only [J0, N6, Bool.and_eq_true] at ha
  exact (W2 ha.1.2).1
 have h0 := h6 _ (List.getElem_mem hk)
 obtain ⟨m1, m2, m3, m4⟩ := (a7i (l := l) (b := a3P g) hrel).2 h0
 rw [hm]
 have ht : ∀ t ∈ g.2[k].2, V3 t = true := fun t ht => by
  simp only [J0, Bool.and_eq_true, Bool.not_eq_true', List.any_eq_false] at ha
  have := ha.2.2 t ht
  simpa using this
 refine ⟨fun b hb => ?_, ⟨h0, m1⟩, fun i hi => ?_⟩
 ·have hb' : b ∈ I0 g.1.2 (rgR s l g d8).2.2.1 := b5L b hb
  have hB := (b6j r1 b hb').sub (V' := a3P g) fun v _ hv => b5i hv
  exact b5J (f5 := [g.2[k]]) (x := (0, F1 (exF l) g.2[k] (a3P g))) h1 ⟨h0, m1⟩ m4 ht hB
 ·have h7 := (Bool.and_eq_true_iff.1 m4).2
  simp only [Bool.not_eq_true', List.any_eq_false, Bool.not_eq_true] at h7
  have h8 := h7 i hi
  simp only [a1x, Bool.or_eq_false_iff, Bool.not_eq_false'] at h8
  have h9 := W2 h8.1
  omega
theorem a1z {m : Int} {a : AT2} (hm : m.toNat < l.length) : gP l d8 m a b = K6 (d8.filter (T0 l[m.toNat] (N7 l[m.toNat] a b))) (S9 a b) := by rw [gP, l2, a4k, P3 hm]
theorem Y2 {m : Int} {a : AT2} (hm : m.toNat < l.length) : a4k l m a b = (m, N7 l[m.toNat] a b) := by rw [a4k, P3 hm]
theorem a5f {m : Int} {a : AT2} {c : Acs} (hh : h < L.length) (e : a4k l m a L[h] = c) (hq : a0e ((L.take h).foldl (gL l m a) log) c = true) : (L.take h).foldl (gL l m a) log = (L.take (h + 1)).foldl (gL l m a) log := by
 rw [a1Q hh, gL, e, ← a7s hq]
theorem a5c {m : Int} {a : AT2} {c : Acs} (hh : h < L.length) (e : a4k l m a L[h] = c) (hq : a0e ((L.take h).foldl (gL l m a) log) c = false) : (L.take h).foldl (gL l m a) log ++ [c] = (L.take (h + 1)).foldl (gL l m a) log := by
 rw [a1Q hh, gL, e, ← a7b hq]
theorem a4Z {p : Bnd → Bool} {v : Bool} (hh : h < L.length) (e : p L[h] = v) (hq : v = true) : (L.take h).filter (fun b => !p b) = (L.take (h + 1)).filter (fun b => !p b) := by
 rw [List.take_succ_eq_append_getElem hh, List.filter_append, List.filter_cons_of_neg (by rw [e, hq]; decide), List.filter_nil, List.append_nil]
theorem a4Y {p : Bnd → Bool} {v : Bool} (hh : h < L.length) (e : p L[h] = v) (hq : v = false) : (L.take h).filter (fun b => !p b) ++ [L[h]] = (L.take (h + 1)).filter (fun b => !p b) := by
 rw [List.take_succ_eq_append_getElem hh, List.filter_append, List.filter_cons_of_pos (by rw [e, hq]; rfl), List.filter_nil]
theorem b6y (h0 : P1 s l g = true) (hk : k < g.2.length) : ∃ hm : k < (w6 s l g).length, at0 (w6 s l g) (k : Nat) = (w6 s l g)[k] := by
 have := (a7P h0 hk).2
 exact ⟨by omega, by rw [at0, Int.toNat_natCast, J3 (by omega)]⟩
theorem b3J (h : P1 s l g = true) (hf : F2 s d8 = true) : ∀ a ∈ (rgR s l g d8).2.1, a.2.length ≤ 3 := fun a ha => by
 have h1 := b4f (a9I h) (b2y (l := l) hf) (Nat.le_refl _)
 rw [List.take_length] at h1
 have b1 := R0 (h1 a ha)
 have b2 := (a0k (a1G h).1).1 _ (List.getElem_mem b1.2.1.2)
 have b3 := b1.2.2.1
 rw [P3 b1.2.1.2] at b3
 omega
theorem b5q (h : P1 s l g = true) (hk : k < g.2.length) (hs : s.length ≤ 9223372036854775807) : I64 g.2[k].1 := by
 obtain ⟨_, h2, _⟩ := a1G h
 have h7 := h2
 simp only [R2, Bool.and_eq_true, Bool.not_eq_true', List.any_eq_false, Bool.not_eq_true] at h7
 have ha : J0 s g.2[k] = true := by simpa using h7.2.2.1 _ (List.getElem_mem hk)
 simp only [J0, N6, Bool.and_eq_true] at ha
 have := W2 ha.1.2
 unfold I64; omega
theorem a4J {m : Mth} {a : AT2} : (N7 m a b).length = m.2.1.length := List.length_map ..
theorem b7v {m : Int} (hm : G9 s l = true) : (atM l m).2.1.length ≤ 3 := by
 unfold atM
 rcases Nat.lt_or_ge m.toNat l.length with h1 | h1
 ·rw [J3 h1]; exact (a0k hm).1 _ (List.getElem_mem h1)
 ·simp [List.getD, List.getElem?_eq_none h1]
theorem b4i {m : Int} {a : AT2} (hm : G9 s l = true) : ∀ {L : List Bnd} {log : List Acs}, (∀ c ∈ log, c.2.length ≤ 3) → ∀ c ∈ L.foldl (gL l m a) log, c.2.length ≤ 3
 | [], _, h => h
 | b :: L, log, h => by
  rw [List.foldl_cons]
  refine b4i hm fun c hc => ?_
  unfold gL a4K at hc
  cases hh : a0e log (a4k l m a b) with
  | true => rw [hh] at hc; exact h c hc
  | false =>
   rw [hh] at hc
   rcases List.mem_append.1 hc with hc | hc
   ·exact h c hc
   ·simp only [List.mem_singleton] at hc; subst hc
    show (N7 (atM l m) a b).length ≤ 3
    unfold N7; rw [List.length_map]; exact b7v hm
theorem b8p (h : P1 s l g = true) (hf : F2 s d8 = true) : ∀ {k : Nat}, ∀ c ∈ (rgI s l g d8 k).2, c.2.length ≤ 3
 | 0 => b3J h hf
 | k + 1 => b4i (a1G h).1 (b8p h hf (k := k))
theorem b8I : r9 O9 (rgA s l g d8) ≤ 1000000 ∧ r9 E4 (rgL s l g d8) ≤ 11000000 := by
 unfold rgA rgL
 cases hb : rgB s l g d8
 ·exact ⟨by simp [r9], by simp [r9]⟩
 ·obtain ⟨h, hf⟩ := Bool.and_eq_true_iff.1 hb
  have hl := b2n h hf (Nat.le_refl _)
  have hq := a0P (a1S (a1G h).2.1).1
  have a1 := b0p (h := g.1.1) (l := (rgI s l g d8 g.2.length).1)
  have a2 := b4G (n := 331776) (fun t ht => Nat.le_trans (b2o (h := g.1.1) (l := (rgI s l g d8 g.2.length).1) t ht) hq.2.1) (by omega)
  have a3 := a8W (c := E4) (n := 4) (l := (rgI s l g d8 g.2.length).2) fun a ha => by
   have := b8p h hf a ha
   simp only [E4, a3s]; omega
  exact ⟨by show r9 O9 (S0 _ _) ≤ _; omega, by show r9 E4 (rgI s l g d8 g.2.length).2 ≤ _; omega⟩
theorem b4h : rgI s l g d8 (k + 1) = ((rgI s l g d8 k).1.filter (fun b => !gP l d8 (at0 (w6 s l g) (k : Nat)) (g.2.getD k (0, [])) b), (rgI s l g d8 k).1.foldl (gL l (at0 (w6 s l g) (k : Nat)) (g.2.getD k (0, []))) (rgI s l g d8 k).2) := rfl
theorem b1Z (hk : k < g.2.length) : (rgI s l g d8 k).1.filter (fun b => !gP l d8 (at0 (w6 s l g) (k : Nat)) g.2[k] b) = (rgI s l g d8 (k + 1)).1 := by rw [b4h, J3 hk]
theorem b1W (hk : k < g.2.length) : (rgI s l g d8 k).1.foldl (gL l (at0 (w6 s l g) (k : Nat)) g.2[k]) (rgI s l g d8 k).2 = (rgI s l g d8 (k + 1)).2 := by rw [b4h, J3 hk]
end
end Go.Proofs.YtdopeopehgdccaaGreat
end
