import Derived.Test.YthapcdhdfaibkaaGreatDoorHq
namespace Go.Proofs.YthapcdhdfaibkaaGreatDoor
set_option linter.all false
def a3R (a : Acs) (log : List Acs) : List Acs := cond (W6 log a) log (log ++ [a])
theorem a7k {a : Acs} {log : List Acs} (h : W6 log a = true) : log = a3R a log := by rw [a3R, h]; rfl
theorem a7q {a : Acs} {log : List Acs} (h : W6 log a = false) : log ++ [a] = a3R a log := by rw [a3R, h]; rfl
theorem b7g {a : Acs} {log : List Acs} : (a3R a log).length ≤ log.length + 1 := by unfold a3R; cases W6 log a <;> simp
def a4v (l : List Mth) (m : Int) (n : AT2) (b : Bnd) : Acs := (m, R0 (atM l m) n b)
def gP (l : List Mth) (d6 : List Fct) (m : Int) (n : AT2) (b : Bnd) : Bool := N9 (m6 l d6 (a4v l m n b)) (O8 n b)
def gL (l : List Mth) (m : Int) (n : AT2) (log : List Acs) (b : Bnd) : List Acs := a3R (a4v l m n b) log
abbrev GSt := List Bnd × List Acs
def gdI (l : List Mth) (d6 : List Fct) (ms : List Int) (ns : List AT2) (σ : GSt) : Nat → GSt
 | 0 => σ
 | k + 1 => ((gdI l d6 ms ns σ k).1.filter (fun b => !gP l d6 (at0 ms (k : Nat)) (ns.getD k (0, [])) b), (gdI l d6 ms ns σ k).1.foldl (gL l (at0 ms (k : Nat)) (ns.getD k (0, []))) (gdI l d6 ms ns σ k).2)
section
variable {s : List Int} {T T' : Acs → List Fct} {l : List Mth} {d9 ns : List AT2} {S d7 : List Stp} {σ : RS} {d6 F : List Fct} {q : List Int × List AT2} {x : Stp} {B L : List Bnd} {V V' : List Int} {n k h : Nat} {b : Bnd} {ms : List Int} {log : List Acs} {τ : GSt} {g : GQ}
theorem a4W {m : Int} {a : AT2} : ∀ {L : List Bnd} {log : List Acs}, (L.foldl (gL l m a) log).length ≤ log.length + L.length
 | [], _ => by simp
 | b :: L, log => by
  rw [List.foldl_cons, List.length_cons]
  have h1 := a4W (m := m) (a := a) (L := L) (log := gL l m a log b)
  have h2 : (gL l m a log b).length ≤ log.length + 1 := b7g
  omega
theorem b5c (hT : ∀ a, ∀ f ∈ T a, f ∈ d6) : ∀ {B : List Bnd} {σ : RS}, (∀ f ∈ σ.2.2, f ∈ d6) → ∀ f ∈ (B.foldl (rb1 T l d9 x) σ).2.2, f ∈ d6
 | [], _, h => h
 | b :: B, σ, h => by
  rw [List.foldl_cons]
  refine b5c hT (B := B) fun f hf => ?_
  have hf' : f ∈ cond (W6 σ.2.1 (D7 l d9 x b)) σ.2.2 ((T (D7 l d9 x b)).foldl G8 σ.2.2) := hf
  cases hh : W6 σ.2.1 (D7 l d9 x b) with
  | true => rw [hh] at hf'; exact h f hf'
  | false =>
   rw [hh] at hf'
   rcases (a0J f).1 hf' with hf' | hf'
   ·exact h f hf'
   ·exact hT _ f hf'
theorem b4a (hT : ∀ a, ∀ f ∈ T a, f ∈ d6) : ∀ {S : List Stp} {σ : RS}, (∀ f ∈ σ.2.2, f ∈ d6) → ∀ f ∈ (S.foldl (rs1 T l d9) σ).2.2, f ∈ d6
 | [], _, h => h
 | x :: S, σ, h => by rw [List.foldl_cons]; exact b4a hT (b5c hT h)
theorem b3h (h : ∀ b, T (D7 l d9 x b) = T' (D7 l d9 x b)) : ∀ {B : List Bnd} {σ : RS}, B.foldl (rb1 T l d9 x) σ = B.foldl (rb1 T' l d9 x) σ
 | [], _ => rfl
 | b :: B, σ => by
  rw [List.foldl_cons, List.foldl_cons, show rb1 T l d9 x σ b = rb1 T' l d9 x σ b from by unfold rb1; rw [h b]]
  exact b3h h
theorem b0J : ∀ {S : List Stp} {σ : RS}, (∀ x ∈ S, ∀ b, T (D7 l d9 x b) = T' (D7 l d9 x b)) → S.foldl (rs1 T l d9) σ = S.foldl (rs1 T' l d9) σ
 | [], _, _ => rfl
 | x :: S, σ, h => by
  rw [List.foldl_cons, List.foldl_cons, show rs1 T l d9 σ x = rs1 T' l d9 σ x from b3h (h x (List.mem_cons_self ..))]
  exact b0J fun y hy => h y (List.mem_cons_of_mem _ hy)
theorem b7f (ho : P3 s l q d7 = true) (hf : F1 s d6 = true) (h : ∀ x ∈ d7, (atM l x.2).2.2.1 = 0) : X2 (fun a => m6 l d6 a) l q d7 = P0 s l q d7 d6 0 := by
 rw [← b0C ho hf, X2, X2]
 have e : m7 (fun a => m6 l d6 a) l q.2 d7 = m7 (fun a => r5 l d6 a 0) l q.2 d7 := b0J fun x hx b => a4e (.inl (h x hx))
 rw [e]
theorem BOk.sub (h : BOk V n b) (hV : ∀ v, inR v 10 17 = true → v ∈ V' → v ∈ V) : BOk V' n b := ⟨h.eq, h.le, h.val, fun v h1 h2 => h.has v h1 (hV v h1 h2)⟩
theorem b3T (hF : ∀ f ∈ F, O6 s f = true) : ∀ {d9 : List AT2} {B : List Bnd} {V : List Int} {n : Nat}, (∀ b ∈ B, BOk V n b) → ∀ b ∈ d9.foldl (fun l a => J6 l a F) B, BOk (V ++ d9.flatMap fun a => a.2) (n + (d9.flatMap fun a => a.2).length) b
 | [], _, _, _, h => by simpa using h
 | a :: d9, B, V, n, h => by
  rw [List.foldl_cons]
  have h1 := b3T hF (d9 := d9) (B := J6 B a F) (V := V ++ a.2) (n := n + a.2.length) fun b hb => by
   obtain ⟨b0, h0, h2⟩ := List.mem_flatMap.1 hb
   exact b3X (h b0 h0) hF b h2
  rw [List.append_assoc] at h1
  rw [List.flatMap_cons, List.length_append, ← Nat.add_assoc]
  exact h1
theorem b7c (hF : ∀ f ∈ F, O6 s f = true) : ∀ b ∈ H6 d9 F, BOk (d9.flatMap fun a => a.2) (d9.flatMap fun a => a.2).length b := by
 have := b3T hF (d9 := d9) (B := [([], [])]) (V := []) (n := 0) fun b hb => by
  simp only [List.mem_singleton] at hb; subst hb
  exact ⟨rfl, Nat.le_refl _, by simp, by simp⟩
 simpa [H6] using this
theorem a7m {p : Int → Bool} {v : Int} (h : v ∈ u7 p d9) : v ∈ d9.flatMap fun a => a.2 := by
 unfold u7 at h
 have h1 := a2L.1 h
 exact (List.mem_filter.1 h1).1
theorem b2V {α : Type} [DecidableEq α] : ∀ {l m : List α}, l.Nodup → (∀ x ∈ l, x ∈ m) → l.length ≤ m.length
 | [], _, _, _ => Nat.zero_le _
 | x :: l, m, hn, hs => by
  obtain ⟨h1, h2⟩ := List.nodup_cons.1 hn
  have hx := hs x (List.mem_cons_self ..)
  have h3 := b2V (m := m.erase x) h2 fun y hy => (List.mem_erase_of_ne (fun e => h1 (by rw [← e]; exact hy))).2 (hs y (List.mem_cons_of_mem _ hy))
  have h4 := List.length_erase_of_mem hx
  have h5 := List.length_pos_of_mem hx
  rw [List.length_cons]; omega
def rgB (s : List Int) (l : List Mth) (g : GQ) (d6 : List Fct) : Bool := Q9 s l g && F1 s d6
def rgR (s : List Int) (l : List Mth) (g : GQ) (d6 : List Fct) : b7l := X2 (fun a => m6 l d6 a) l g.1 (I9 s l g)
def rgI (s : List Int) (l : List Mth) (g : GQ) (d6 : List Fct) (k : Nat) : GSt := gdI l d6 (B2 s l g) g.2 (H6 g.1.2 (rgR s l g d6).2.2.1, (rgR s l g d6).2.1) k
def rgA (s : List Int) (l : List Mth) (g : GQ) (d6 : List Fct) : List (List Int) := cond (rgB s l g d6) (S2 g.1.1 (rgI s l g d6 g.2.length).1) []
def rgL (s : List Int) (l : List Mth) (g : GQ) (d6 : List Fct) : List Acs := cond (rgB s l g d6) (rgI s l g d6 g.2.length).2 []
theorem F7 (h : rgB s l g d6 = false) : [] = rgA s l g d6 ∧ [] = rgL s l g d6 ∧ false = rgB s l g d6 := by rw [rgA, rgL, h]; exact ⟨rfl, rfl, rfl⟩
theorem M8 (h : Q9 s l g = false) : rgB s l g d6 = false := by rw [rgB, h]; rfl
theorem N6 (h : F1 s d6 = false) : rgB s l g d6 = false := by rw [rgB, h, Bool.and_false]
theorem M9 (h1 : Q9 s l g = true) (h2 : F1 s d6 = true) (hk : k = g.2.length) : S2 g.1.1 (rgI s l g d6 k).1 = rgA s l g d6 ∧ (rgI s l g d6 k).2 = rgL s l g d6 ∧ true = rgB s l g d6 := by
 have h : rgB s l g d6 = true := by rw [rgB, h1, h2]; rfl
 rw [rgA, rgL, h, hk]; exact ⟨rfl, rfl, rfl⟩
theorem a1q (h : Q9 s l g = true) : J3 s l = true ∧ P9 s g = true ∧ I9 s l g = (grF (exF l) g.1.2).1 ∧ (grF (exF l) g.1.2).1.length = g.1.2.length ∧ B2 s l g = g.2.map (fun a => G5 (exF l) a (a2z g)) ∧ ∀ a ∈ g.2, 0 ≤ G5 (exF l) a (a2z g) := by
 have h0 := h
 simp only [Q9, Bool.and_eq_true, Bool.not_eq_true', decide_eq_false_iff_not, List.any_eq_false, decide_eq_true_eq] at h
 have hl := b1R (l := exF l) (d9 := g.1.2) (n := g.1.2.length)
 refine ⟨h.1, h.2.1, by rw [I9, h0]; rfl, ?_, by rw [B2, h0]; rfl, fun a ha => ?_⟩
 ·have h3 := h.2.2.1
  unfold grF at h3 ⊢; omega
 ·have := h.2.2.2 a ha; omega
theorem a3n (h : Q9 s l g = true) : P3 s l g.1 (I9 s l g) = true := by
 obtain ⟨h1, h2, h3, h4, _⟩ := a1q h
 rw [h3]; exact b9q h1 (P6 h2).1 h4
theorem b5r (h : Q9 s l g = true) : ∀ x ∈ I9 s l g, (atM l x.2).2.2.1 = 0 := fun x hx => by
 obtain ⟨h1, h2, h3, h4, _⟩ := a1q h
 rw [h3] at hx
 obtain ⟨a, b, ha, e, h5⟩ := b8s (n := g.1.2.length) x hx
 rw [e]; exact ((a4M (l := l) (b := b) (b0H (P6 h2).1 a ha)).2 h5).2.1
theorem a5u (h : Q9 s l g = true) (hf : F1 s d6 = true) : P0 s l g.1 (I9 s l g) d6 0 = rgR s l g d6 := (b7f (a3n h) hf (b5r h)).symm
theorem a9z (h : Q9 s l g = true) (hf : F1 s d6 = true) : (∀ f ∈ (rgR s l g d6).2.2.1, O6 s f = true) ∧ (rgR s l g d6).2.2.1.length ≤ 24 ∧ (rgR s l g d6).2.1.length ≤ 1327104 := by
 have ho := a3n h
 have h1 := a6X ho (b1X (l := l) hf) (Nat.le_refl _)
 rw [List.take_length] at h1
 refine ⟨h1.got, ?_, h1.log⟩
 have h2 : ∀ f ∈ (rgR s l g d6).2.2.1, f ∈ d6 := b4a (fun a f hf => (List.mem_filter.1 hf).1) (by simp)
 exact Nat.le_trans (b2V (a3k h1.asc) h2) (G4 hf).1
theorem b6m : ∀ {k : Nat}, ∀ b ∈ (gdI l d6 ms ns τ k).1, b ∈ τ.1
 | 0, b, hb => hb
 | k + 1, b, hb => b6m b (List.mem_filter.1 hb).1
theorem b5d : ∀ {k : Nat}, (gdI l d6 ms ns τ k).1.length ≤ τ.1.length ∧ (gdI l d6 ms ns τ k).2.length ≤ τ.2.length + k * τ.1.length
 | 0 => ⟨Nat.le_refl _, by show τ.2.length ≤ _; omega⟩
 | k + 1 => by
  obtain ⟨h1, h2⟩ := b5d (k := k)
  have h3 := a4W (l := l) (m := at0 ms (k : Nat)) (a := ns.getD k (0, [])) (L := (gdI l d6 ms ns τ k).1) (log := (gdI l d6 ms ns τ k).2)
  refine ⟨Nat.le_trans (List.length_filter_le ..) h1, ?_⟩
  show ((gdI l d6 ms ns τ k).1.foldl (gL l (at0 ms (k : Nat)) (ns.getD k (0, []))) (gdI l d6 ms ns τ k).2).length ≤ _
  rw [Nat.succ_mul]; omega
theorem b5F (h : Q9 s l g = true) (hf : F1 s d6 = true) (hk : k ≤ g.2.length) : (rgI s l g d6 k).1.length ≤ 331776 ∧ (rgI s l g d6 k).2.length ≤ 2654208 := by
 obtain ⟨h1, h2, h3, _⟩ := a1q h
 obtain ⟨r1, r2, r3⟩ := a9z h hf
 have hq := J7 (P6 h2).1
 have hb := (a4A (d6 := (rgR s l g d6).2.2.1) r2 hq.1 hq.2.2).1
 have hn := (a3L h2).2
 have hg := b5d (l := l) (d6 := d6) (ms := B2 s l g) (ns := g.2) (τ := (H6 g.1.2 (rgR s l g d6).2.2.1, (rgR s l g d6).2.1)) (k := k)
 have h9 : k * (H6 g.1.2 (rgR s l g d6).2.2.1).length ≤ 4 * 331776 := Nat.mul_le_mul (by omega) hb
 unfold rgI
 have hg2 : (gdI l d6 (B2 s l g) g.2 (H6 g.1.2 (rgR s l g d6).2.2.1, (rgR s l g d6).2.1) k).2.length ≤ (rgR s l g d6).2.1.length + k * (H6 g.1.2 (rgR s l g d6).2.2.1).length := hg.2
 exact ⟨Nat.le_trans hg.1 hb, Nat.le_trans hg2 (by omega)⟩
theorem a5C (h : Q9 s l g = true) (hk : k < g.2.length) : at0 (B2 s l g) (k : Nat) = G5 (exF l) g.2[k] (a2z g) ∧ (B2 s l g).length = g.2.length := by
 obtain ⟨_, _, _, _, h5, _⟩ := a1q h
 rw [h5]
 refine ⟨?_, by simp⟩
 rw [at0, Int.toNat_natCast, J5 (by rw [List.length_map]; exact hk), List.getElem_map]
theorem b6l (h : Q9 s l g = true) (hf : F1 s d6 = true) (hk : k < g.2.length) : (∀ b ∈ (rgI s l g d6 k).1, S8 s l (a4v l (at0 (B2 s l g) (k : Nat)) g.2[k] b) = true) ∧ (0 ≤ at0 (B2 s l g) (k : Nat) ∧ (at0 (B2 s l g) (k : Nat)).toNat < l.length) ∧ (∀ i ∈ (atM l (at0 (B2 s l g) (k : Nat))).2.1, 0 ≤ i ∧ i.toNat < g.2[k].2.length) := by
 obtain ⟨h1, h2, h3, h4, h5, h6⟩ := a1q h
 obtain ⟨r1, r2, r3⟩ := a9z h hf
 have hm := (a5C h hk).1
 have hat : ∀ a ∈ g.2, K3 s a = true := fun a ha => by
  have h7 := h2
  simp only [P9, Bool.and_eq_true, Bool.not_eq_true', List.any_eq_false, Bool.not_eq_true] at h7
  simpa using h7.2.2.1 a ha
 have ha := hat _ (List.getElem_mem hk)
 have hrel : 0 ≤ g.2[k].1 := by
  simp only [K3, P2, Bool.and_eq_true] at ha
  exact (V2 ha.1.2).1
 have h0 := h6 _ (List.getElem_mem hk)
 obtain ⟨m1, m2, m3, m4⟩ := (a4M (l := l) (b := a2z g) hrel).2 h0
 rw [hm]
 have ht : ∀ t ∈ g.2[k].2, L6 t = true := fun t ht => by
  simp only [K3, Bool.and_eq_true, Bool.not_eq_true', List.any_eq_false] at ha
  have := ha.2.2 t ht
  simpa using this
 refine ⟨fun b hb => ?_, ⟨h0, m1⟩, fun i hi => ?_⟩
 ·have hb' : b ∈ H6 g.1.2 (rgR s l g d6).2.2.1 := b6m b hb
  have hB := (b7c r1 b hb').sub (V' := a2z g) fun v _ hv => a7m hv
  exact b5E (d9 := [g.2[k]]) (x := (0, G5 (exF l) g.2[k] (a2z g))) h1 ⟨h0, m1⟩ m4 ht hB
 ·have h7 := (Bool.and_eq_true_iff.1 m4).2
  simp only [Bool.not_eq_true', List.any_eq_false, Bool.not_eq_true] at h7
  have h8 := h7 i hi
  simp only [a0V, Bool.or_eq_false_iff, Bool.not_eq_false'] at h8
  have h9 := V2 h8.1
  omega
theorem a1n {m : Int} {a : AT2} (hm : m.toNat < l.length) : gP l d6 m a b = N9 (d6.filter (W5 l[m.toNat] (R0 l[m.toNat] a b))) (O8 a b) := by rw [gP, m6, a4v, S1 hm]
theorem a0b {m : Int} {a : AT2} (hm : m.toNat < l.length) : a4v l m a b = (m, R0 l[m.toNat] a b) := by rw [a4v, S1 hm]
theorem a4S {m : Int} {a : AT2} {c : Acs} (hh : h < L.length) (e : a4v l m a L[h] = c) (hq : W6 ((L.take h).foldl (gL l m a) log) c = true) : (L.take h).foldl (gL l m a) log = (L.take (h + 1)).foldl (gL l m a) log := by
 rw [a1u hh, gL, e, ← a7k hq]
theorem a5g {m : Int} {a : AT2} {c : Acs} (hh : h < L.length) (e : a4v l m a L[h] = c) (hq : W6 ((L.take h).foldl (gL l m a) log) c = false) : (L.take h).foldl (gL l m a) log ++ [c] = (L.take (h + 1)).foldl (gL l m a) log := by
 rw [a1u hh, gL, e, ← a7q hq]
theorem a4N {p : Bnd → Bool} {v : Bool} (hh : h < L.length) (e : p L[h] = v) (hq : v = true) : (L.take h).filter (fun b => !p b) = (L.take (h + 1)).filter (fun b => !p b) := by
 rw [List.take_succ_eq_append_getElem hh, List.filter_append, List.filter_cons_of_neg (by rw [e, hq]; decide), List.filter_nil, List.append_nil]
theorem a4O {p : Bnd → Bool} {v : Bool} (hh : h < L.length) (e : p L[h] = v) (hq : v = false) : (L.take h).filter (fun b => !p b) ++ [L[h]] = (L.take (h + 1)).filter (fun b => !p b) := by
 rw [List.take_succ_eq_append_getElem hh, List.filter_append, List.filter_cons_of_pos (by rw [e, hq]; rfl), List.filter_nil]
theorem b7s (h0 : Q9 s l g = true) (hk : k < g.2.length) : ∃ hm : k < (B2 s l g).length, at0 (B2 s l g) (k : Nat) = (B2 s l g)[k] := by
 have := (a5C h0 hk).2
 exact ⟨by omega, by rw [at0, Int.toNat_natCast, J5 (by omega)]⟩
theorem b8h (h : Q9 s l g = true) (hf : F1 s d6 = true) : ∀ a ∈ (rgR s l g d6).2.1, a.2.length ≤ 3 := fun a ha => by
 have h1 := b4g (a3n h) (b1X (l := l) hf) (Nat.le_refl _)
 rw [List.take_length] at h1
 have b1 := T5 (h1 a ha)
 have b2 := (a0H (a1q h).1).1 _ (List.getElem_mem b1.2.1.2)
 have b3 := b1.2.2.1
 rw [S1 b1.2.1.2] at b3
 omega
theorem b5a (h : Q9 s l g = true) (hk : k < g.2.length) (hs : s.length ≤ 9223372036854775807) : I64 g.2[k].1 := by
 obtain ⟨_, h2, _⟩ := a1q h
 have h7 := h2
 simp only [P9, Bool.and_eq_true, Bool.not_eq_true', List.any_eq_false, Bool.not_eq_true] at h7
 have ha : K3 s g.2[k] = true := by simpa using h7.2.2.1 _ (List.getElem_mem hk)
 simp only [K3, P2, Bool.and_eq_true] at ha
 have := V2 ha.1.2
 unfold I64; omega
theorem a4q {m : Mth} {a : AT2} : (R0 m a b).length = m.2.1.length := List.length_map ..
theorem b3A : rgI s l g d6 (k + 1) = ((rgI s l g d6 k).1.filter (fun b => !gP l d6 (at0 (B2 s l g) (k : Nat)) (g.2.getD k (0, [])) b), (rgI s l g d6 k).1.foldl (gL l (at0 (B2 s l g) (k : Nat)) (g.2.getD k (0, []))) (rgI s l g d6 k).2) := rfl
theorem b1O (hk : k < g.2.length) : (rgI s l g d6 k).1.filter (fun b => !gP l d6 (at0 (B2 s l g) (k : Nat)) g.2[k] b) = (rgI s l g d6 (k + 1)).1 := by rw [b3A, J5 hk]
theorem b1N (hk : k < g.2.length) : (rgI s l g d6 k).1.foldl (gL l (at0 (B2 s l g) (k : Nat)) g.2[k]) (rgI s l g d6 k).2 = (rgI s l g d6 (k + 1)).2 := by rw [b3A, J5 hk]
end
end Go.Proofs.YthapcdhdfaibkaaGreatDoor
