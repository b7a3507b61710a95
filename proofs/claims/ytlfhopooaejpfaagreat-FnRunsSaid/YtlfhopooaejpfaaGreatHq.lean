import Derived.Test.YtlfhopooaejpfaaGreatGa
import Derived.Test.YtlfhopooaejpfaaGreatHg
section
namespace Go.Proofs.YtlfhopooaejpfaaGreat
set_option linter.unusedVariables false
set_option linter.unusedSimpArgs false
def b9g (x : List (List Int) × List (Int × List Int) × List (Int × List Int) × Int) : Nat := C7 a7f x.1 + C7 X4 x.2.1 + C7 Q3 x.2.2.1 + 1
def b9j (x : List (List Int) × List (Int × List Int) × List (Int × List Int) × Int) (k : Int) : List (List Int) × List (Int × List Int) × List (Int × List Int) × Int := (mkL a7f b7e x.1 (k), mkL X4 a4N x.2.1 (k + (C7 a7f x.1 : Nat)), mkL Q3 a3H x.2.2.1 (k + (C7 a7f x.1 : Nat) + (C7 X4 x.2.1 : Nat)), (k + (C7 a7f x.1 : Nat) + (C7 X4 x.2.1 : Nat) + (C7 Q3 x.2.2.1 : Nat)))
section
variable {s : List Int} {T : Acs → List Fct} {l : List Mth} {q : List Int × List AT2} {d8 : List AT2} {c6 : List Stp} {d4 : List Fct} {c : Int} {g k : Nat} {x : Stp} {σ : RS} {p : Acs → Prop}
theorem b1y (hD : ∀ b ∈ σ.1, p (z7 l d8 x b)) (h : ∀ a ∈ σ.2.1, p a) : ∀ {k : Nat}, k ≤ σ.1.length → ∀ a ∈ (rbN T l d8 x σ k).2.1, p a
 | 0, _ => h
 | k + 1, hk => by
  have ih := b1y hD h (k := k) (by omega)
  rw [a1c (by omega)]
  show ∀ a ∈ cond _ (rbN T l d8 x σ k).2.1 _, p a
  cases V4 (rbN T l d8 x σ k).2.1 (z7 l d8 x σ.1[k])
  ·intro a ha
   rcases List.mem_append.1 ha with ha | ha
   ·exact ih a ha
   ·simp only [List.mem_singleton] at ha; subst ha
    exact hD _ (List.getElem_mem _)
  ·exact ih
theorem b1z (ho : H6 s l q c6 = true) (hT : TOk s (fun a => N6 s l a = true) T) : ∀ {g : Nat}, g ≤ c6.length → ∀ a ∈ (j5 T l q.2 (c6.take g)).2.1, N6 s l a = true
 | 0, _ => fun a ha => by simp [j5] at ha
 | g + 1, hg => by
  have ih := b1z ho hT (g := g) (by omega)
  rw [a2L (by omega), ← a7R rfl]
  exact b1y (a5m ho hT (by omega)) ih (Nat.le_refl _)
end
end Go.Proofs.YtlfhopooaejpfaaGreat
end
section
namespace Go.Proofs.YtlfhopooaejpfaaGreat
set_option linter.unusedVariables false
set_option linter.unusedSimpArgs false
section
variable {s V : List Int} {T : Acs → List Fct} {l : List Mth} {q : List Int × List AT2} {d8 A : List AT2} {c6 S : List Stp} {d4 F : List Fct} {c : Int} {g k n : Nat} {x : Stp} {σ : RS} {b b0 : Bnd} {a f : Int × List Int} {t u : List Int}
theorem b6x {T : Acs → List Fct} {x : Stp} : ∀ {B : List Bnd} {σ : RS}, (B.foldl (rb1 T l d8 x) σ).1 = σ.1 ++ B.flatMap fun b => E5 [b] (atA d8 x.1) (T (z7 l d8 x b))
 | [], σ => by simp
 | b :: B, σ => by rw [List.foldl_cons, b6x]; simp [rb1, List.append_assoc]
theorem b6g : (rs1 T l d8 σ x).1 = σ.1.flatMap fun b => E5 [b] (atA d8 x.1) (T (z7 l d8 x b)) := by rw [rs1, b6x]; rfl
theorem b1l (hT : ∀ a, ∀ f ∈ T a, f ∈ F) : ∀ {S : List Stp} {σ : RS} {A : List AT2}, (∀ b ∈ σ.1, MOk A F b) → ∀ b ∈ (S.foldl (rs1 T l d8) σ).1, MOk (A ++ S.map fun x => atA d8 x.1) F b
 | [], σ, A, h, b, hb => by simpa using h b hb
 | x :: S, σ, A, h, b, hb => by
  have h1 : ∀ b ∈ (rs1 T l d8 σ x).1, MOk (A ++ [atA d8 x.1]) F b := by
   intro b hb
   rw [b6g] at hb
   obtain ⟨b0, h0, hb⟩ := List.mem_flatMap.1 hb
   refine b1G (B := [b0]) (fun z hz => ?_) b (b4n (hT _) (fun z hz => hz) b hb)
   rw [List.mem_singleton] at hz; subst hz; exact h _ h0
  have := b1l hT (S := S) h1 b hb
  simpa using this
theorem b2A : ∀ {g : Nat}, Q8 l d8 c6 g = true → g ≤ c6.length → ((c6.take g).map fun x => x.1).Nodup
 | 0, _, _ => by simp
 | g + 1, h, hg => by
  rw [Q8, Bool.and_eq_true] at h
  have ih := b2A h.1 (by omega)
  have h2 := h.2
  rw [J0 (by omega : g < c6.length)] at h2
  simp only [S3, Bool.and_eq_true, Bool.not_eq_true'] at h2
  rw [List.take_succ_eq_append_getElem (by omega), List.map_append, List.nodup_append]
  refine ⟨ih, by simp, fun u hu v hv e => ?_⟩
  simp only [List.map_cons, List.map_nil, List.mem_singleton] at hv
  subst hv; subst e
  obtain ⟨y, hy, e⟩ := List.mem_map.1 hu
  have : stU (c6.take g) c6[g].1 = true := List.any_eq_true.2 ⟨y, hy, decide_eq_true e⟩
  rw [h2.2.1] at this; cases this
theorem b1c (ho : Q8 l d8 c6 c6.length = true) (hl : c6.length = d8.length) : ∀ a ∈ d8, a ∈ c6.map fun x => atA d8 x.1 := by
 intro a ha
 obtain ⟨j, hj, rfl⟩ := List.getElem_of_mem ha
 have h1 := b2A ho (Nat.le_refl _)
 have h2 := a3l ho (Nat.le_refl _)
 rw [List.take_length] at h1 h2
 have hm : (j : Int) ∈ c6.map fun x => x.1 := Classical.byContradiction fun hn => by
  have h3 : ((j :: (c6.map fun x => x.1).map Int.toNat)).Nodup := by
   rw [List.nodup_cons]
   refine ⟨fun hc => ?_, ?_⟩
   ·obtain ⟨i, hi, e⟩ := List.mem_map.1 hc
    obtain ⟨y, hy, e2⟩ := List.mem_map.1 hi
    have := h2 y hy
    have e3 : i = (j : Int) := by omega
    rw [e3] at hi; exact hn hi
   ·unfold List.Nodup at h1 ⊢
    rw [List.pairwise_map]
    refine List.Pairwise.imp_of_mem (fun {a b} ha hb hab e => hab ?_) h1
    obtain ⟨y, hy, e2⟩ := List.mem_map.1 ha
    obtain ⟨z, hz, e3⟩ := List.mem_map.1 hb
    have := h2 y hy
    have := h2 z hz
    omega
  have h4 := a2D (n := d8.length) h3 fun i hi => by
   rcases List.mem_cons.1 hi with rfl | hi
   ·exact hj
   ·obtain ⟨i2, hi2, e⟩ := List.mem_map.1 hi
    obtain ⟨y, hy, e2⟩ := List.mem_map.1 hi2
    have := h2 y hy
    omega
  simp only [List.length_cons, List.length_map] at h4
  omega
 obtain ⟨y, hy, e⟩ := List.mem_map.1 hm
 refine List.mem_map.2 ⟨y, hy, ?_⟩
 show atA d8 y.1 = _
 have e' : y.1 = (j : Int) := e
 rw [e', V6 (by simpa using hj)]; simp
theorem b1w (hq : z8 s q = true) {b b' : Bnd} {G : Int → Int} (hA : a0w b' G) (hb : ∀ a ∈ q.2, ∀ t ∈ a.2, bd b' t) : q.1.map (B1 b') = q.1.map G := by
 refine List.map_congr_left fun z hz => ?_
 obtain ⟨_, _, a, ha, hza⟩ := (a0B hq).2 z hz
 exact hA.2 z (hb a ha z hza)
theorem b1u (ho : H6 s l q c6 = true) (hF : E0 s F = true) (hT : ∀ a, ∀ f ∈ T a, f ∈ F) : ∀ t ∈ (a0F T l q c6).1, t ∈ V9 s q F := by
 intro t ht
 obtain ⟨h1, h2, h3, h4⟩ := Y5 ho
 obtain ⟨b, hb, rfl⟩ := a2k.1 ht
 have hm := b1l (l := l) (d8 := q.2) (F := F) (A := []) (σ := ([([], [])], [], [])) hT (fun b hb => by
  simp only [List.mem_singleton] at hb; subst hb; exact ⟨rfl, fun a ha => by cases ha⟩) b hb
 rw [List.nil_append] at hm
 have hall := b1c h4 h3
 obtain ⟨b', h5, h6, h7⟩ := a1H (g := B1 b) (A := q.2) (F := F) (fun t ht => (P8 ht).symm) fun a ha => (hm.2 a (hall a ha)).1
 unfold V9
 rw [if_pos (by rw [h2, hF]; rfl)]
 exact a2k.2 ⟨b', h5, b1w (b := b) h2 h6 h7⟩
theorem b1t {P : Int × Int → Bool} {G : Int → Int} : ∀ {m : List Int}, (∀ i ∈ m, P (i, G i) = true) → ((m.zip (m.map G)).all P) = true
 | [], _ => rfl
 | i :: m, h => by
  rw [List.map_cons, List.zip_cons_cons, List.all_cons, h i (by simp), b1t fun j hj => h j (by simp [hj])]; rfl
theorem b5j {m : Mth} {G : Int → Int} (hg : ∀ t, inR t 10 17 = false → G t = t) (hc : P6 m a V = true) (hA : a0w b G) (hV : ∀ t ∈ V, bd b t) : E4 m (V7 m a b) (a.1, a.2.map G) = true := by
 simp only [P6, Bool.and_eq_true, decide_eq_true_eq, Bool.not_eq_true', List.any_eq_false, Bool.not_eq_true] at hc
 obtain ⟨h1, h2⟩ := hc
 rw [E4, Bool.and_eq_true]
 refine ⟨decide_eq_true h1.symm, ?_⟩
 unfold V7
 refine b1t fun i hi => ?_
 have h3 := h2 i hi
 simp only [Y1, Bool.or_eq_false_iff, Bool.not_eq_false', Bool.and_eq_false_imp] at h3
 have h4 := Q5 h3.1
 have hlt : i.toNat < a.2.length := by omega
 rw [a1p, decide_eq_true_eq]
 show at0 (a.2.map G) i = B1 b (at0 a.2 i)
 have e1 : at0 (a.2.map G) i = G (at0 a.2 i) := by
  rw [E6 (by simpa using hlt), E6 hlt]; simp
 rw [e1]
 cases hr : inR (at0 a.2 i) 10 17 with
 | false => rw [hg _ hr, ← P8 hr]
 | true =>
  have h5 := h3.2 hr
  exact (hA.2 _ (hV _ (Y2.1 h5))).symm
theorem b2z {G : Int → Int} (hg : ∀ t, inR t 10 17 = false → G t = t) (hF : ((atA d8 x.1).1, (atA d8 x.1).2.map G) ∈ T (z7 l d8 x b)) (hb : b ∈ σ.1) (hA : a0w b G) (hV : ∀ t ∈ V, bd b t) : ∃ b' ∈ (rs1 T l d8 σ x).1, a0w b' G ∧ ∀ t ∈ V ++ (atA d8 x.1).2, bd b' t := by
 obtain ⟨m1, m2⟩ := a5J (a := atA d8 x.1) hg hA
 obtain ⟨k1, k2, k3, k4⟩ := a4O m1
 refine ⟨_, ?_, m2, fun t ht => ?_⟩
 ·rw [b6g]
  exact List.mem_flatMap.2 ⟨b, hb, List.mem_flatMap.2 ⟨b, by simp, List.mem_map.2 ⟨_, List.mem_filter.2 ⟨hF, m1⟩, rfl⟩⟩⟩
 ·rcases List.mem_append.1 ht with ht | ht
  ·exact (k4 t (hV t ht)).2
  ·exact k3 t ht
def a0C (l : List Mth) (c6 : List Stp) : Bool := c6.all fun x => inR x.2 0 ((l.length : Int) - 1) && decide ((atM l x.2).2.2.1 = 0)
theorem a6p (hg : g < c6.length) : a0C l (c6.drop g) = ((inR c6[g].2 0 ((l.length : Int) - 1) && decide ((atM l c6[g].2).2.2.1 = 0)) && a0C l (c6.drop (g + 1))) := by
 rw [a0C, List.drop_eq_getElem_cons hg, List.all_cons]; rfl
theorem b5L (hg : g < c6.length) (h : inR c6[g].2 0 ((l.length : Int) - 1) = false) : a0C l (c6.drop g) = false := by rw [a6p hg, h]; rfl
theorem b5S (hg : g < c6.length) (hk : c6[g].2.toNat < l.length) (h : ¬ l[c6[g].2.toNat].2.2.1 = 0) : a0C l (c6.drop g) = false := by
 rw [a6p hg, K8 hk, decide_eq_false h, Bool.and_false]; rfl
theorem b4c (hg : g < c6.length) (h : inR c6[g].2 0 ((l.length : Int) - 1) = true) (hk : c6[g].2.toNat < l.length) (h2 : l[c6[g].2.toNat].2.2.1 = 0) : a0C l (c6.drop g) = a0C l (c6.drop (g + 1)) := by
 rw [a6p hg, h, K8 hk, decide_eq_true h2]; rfl
theorem b5h (hg : ¬ g < c6.length) : a0C l (c6.drop g) = true := by rw [List.drop_eq_nil_of_le (by omega)]; rfl
theorem b1K {G : Int → Int} (hg : ∀ t, inR t 10 17 = false → G t = t) (ho : Q8 l d8 c6 c6.length = true) (he : a0C l c6 = true) (hF : ∀ a ∈ d8, (a.1, a.2.map G) ∈ F) : ∀ {g : Nat}, g ≤ c6.length → ∃ b ∈ (j5 (fun a => f5 l F a c) l d8 (c6.take g)).1, a0w b G ∧ ∀ t ∈ stB d8 (c6.take g), bd b t
 | 0, _ => ⟨([], []), by simp [j5], ⟨rfl, fun t ht => by
   rcases ht with ht | ht
   ·rw [← P8 ht, hg t ht]
   ·cases ht⟩, fun t ht => by simp [stB] at ht⟩
 | g + 1, hgl => by
  obtain ⟨b, h1, h2, h3⟩ := b1K hg ho he hF (g := g) (by omega)
  have hs := (Bool.and_eq_true_iff.1 (a6Z (g := g + 1) ho hgl)).2
  rw [J0 (by omega : g < c6.length)] at hs
  simp only [S3, Bool.and_eq_true] at hs
  have a1 := Q5 hs.1
  have hat : atA d8 c6[g].1 ∈ d8 := by rw [V6 (by omega)]; exact List.getElem_mem _
  have hex := List.all_eq_true.1 he _ (List.getElem_mem (show g < c6.length by omega))
  simp only [Bool.and_eq_true, decide_eq_true_eq] at hex
  have hlim : O2 l (z7 l d8 c6[g] b) = 0 := hex.2
  have hmem : ((atA d8 c6[g].1).1, (atA d8 c6[g].1).2.map G) ∈ (fun a => f5 l F a c) (z7 l d8 c6[g] b) := by
   show _ ∈ f5 l F _ c
   rw [← a2l (.inl hlim)]
   exact List.mem_filter.2 ⟨hF _ hat, b5j (m := atM l c6[g].2) hg hs.2.2.2 h2 h3⟩
  obtain ⟨b', h4, h5, h6⟩ := b2z (T := fun a => f5 l F a c) (l := l) (d8 := d8) (x := c6[g]) hg hmem h1 h2 h3
  rw [a2L (by omega), ← a3X (by omega)]
  exact ⟨b', h4, h5, h6⟩
theorem b1B : ∀ {S : List Stp} {V : List Int} {x : Stp}, x ∈ S → ∀ t ∈ (atA d8 x.1).2, t ∈ S.foldl (fun b x => b ++ (atA d8 x.1).2) V
 | y :: S, V, x, h, t, ht => by
  rcases List.mem_cons.1 h with rfl | h
  ·have mono : ∀ {S : List Stp} {V : List Int}, t ∈ V → t ∈ S.foldl (fun b x => b ++ (atA d8 x.1).2) V := by
    intro S
    induction S with
    | nil => intro V h; exact h
    | cons z S ih => intro V h; exact ih (List.mem_append_left _ h)
   rw [List.foldl_cons]
   exact mono (List.mem_append_right _ ht)
  ·rw [List.foldl_cons]; exact b1B (S := S) h t ht
theorem b6l (ho : H6 s l q c6 = true) (hF : E0 s F = true) (he : a0C l c6 = true) : ∀ t ∈ V9 s q F, t ∈ (a0F (fun a => f5 l F a c) l q c6).1 := by
 intro t ht
 obtain ⟨h1, h2, h3, h4⟩ := Y5 ho
 unfold V9 at ht
 rw [if_pos (by rw [h2, hF]; rfl)] at ht
 obtain ⟨b0, hb, rfl⟩ := a2k.1 ht
 have hm := a5b b0 hb
 obtain ⟨b, h5, h6, h7⟩ := b1K (c := c) (G := B1 b0) (fun t ht => (P8 ht).symm) h4 he (fun a ha => (hm.2 a ha).1) (Nat.le_refl _)
 rw [List.take_length] at h5 h7
 refine a2k.2 ⟨b, h5, b1w (b := b) h2 h6 fun a ha t ht => ?_⟩
 obtain ⟨x, hx, e⟩ := List.mem_map.1 (b1c h4 h3 a ha)
 exact h7 t (b1B hx t (by rw [e]; exact ht))
abbrev a7u (l : List (List Int)) : Prop := l.Pairwise fun a b => ltT a b = true
theorem b2Z {a b c : List Int} (h1 : ltT a b = true) (h2 : ltT b c = true) : ltT a c = true := by
 simp only [ltT, decide_eq_true_eq] at h1 h2 ⊢; exact a7G h1 h2
theorem b3Y {l : List (List Int)} (h : a7u l) : a7u (K0 l t) := by
 cases hh : N3 l t
 ·rw [K0, hh, P4, if_neg (by decide)]
  refine (b0t (r := ltT) (fun a b c => b2Z) h fun y hy hf => ?_).1
  simp only [ltT, decide_eq_false_iff_not, decide_eq_true_eq] at hf ⊢
  have h1 := a3Z (l := t) (m := y)
  rcases Int.lt_or_eq_of_le (show G6 y t ≤ 0 by omega) with h2 | h2
  ·exact h2
  ·rw [a2Y] at h2
   subst h2
   rw [a9O.2 hy] at hh; cases hh
 ·rw [K0, hh, P4, if_pos rfl]; exact h
theorem a7J {h : List Int} : ∀ {B : List Bnd} {out : List (List Int)}, a7u out → a7u (B.foldl (fun out b => K0 out (h.map (B1 b))) out)
 | [], _, ho => ho
 | b :: B, out, ho => a7J (B := B) (b3Y ho)
theorem a9Y : ∀ {a b : List (List Int)}, a7u a → a7u b → (∀ y, y ∈ a ↔ y ∈ b) → a = b
 | [], [], _, _, _ => rfl
 | [], y :: b, _, _, h => by have := (h y).2 (List.mem_cons_self ..); simp at this
 | x :: a, [], _, _, h => by have := (h x).1 (List.mem_cons_self ..); simp at this
 | x :: a, y :: b, ha, hb, h => by
  have ha' := List.pairwise_cons.1 ha
  have hb' := List.pairwise_cons.1 hb
  have irr : ∀ z : List Int, ltT z z = true → False := fun z hz => by simp [ltT, a2Y.2 rfl] at hz
  have tr : ∀ u v : List Int, ltT u v = true → ltT v u = true → False := fun u v h1 h2 => irr u (b2Z h1 h2)
  have e : x = y := by
   rcases List.mem_cons.1 ((h x).1 (List.mem_cons_self ..)) with e | e
   ·exact e
   ·rcases List.mem_cons.1 ((h y).2 (List.mem_cons_self ..)) with e2 | e2
    ·exact e2.symm
    ·exact (tr x y (ha'.1 y e2) (hb'.1 x e)).elim
  subst e
  congr 1
  refine a9Y ha'.2 hb'.2 fun z => ⟨fun hz => ?_, fun hz => ?_⟩
  ·rcases List.mem_cons.1 ((h z).1 (List.mem_cons_of_mem _ hz)) with e | e
   ·subst e; exact (irr z (ha'.1 z hz)).elim
   ·exact e
  ·rcases List.mem_cons.1 ((h z).2 (List.mem_cons_of_mem _ hz)) with e | e
   ·subst e; exact (irr z (hb'.1 z hz)).elim
   ·exact e
theorem b2X (ho : H6 s l q c6 = true) (hF : E0 s F = true) (he : a0C l c6 = true) : (a0F (fun a => f5 l F a c) l q c6).1 = V9 s q F := by
 have h2 := (Y5 ho).2.1
 refine a9Y (a7J .nil) ?_ fun t => ⟨fun h => b1u ho hF (fun a f hf => a2n hf) t h, fun h => b6l ho hF he t h⟩
 unfold V9
 rw [if_pos (by rw [h2, hF]; rfl)]
 exact a7J .nil
theorem b4q {l : List Acs} {a : Acs} : V4 l a = true ↔ a ∈ l := by
 unfold V4
 rw [List.any_eq_true]
 exact ⟨fun ⟨y, hy, e⟩ => (of_decide_eq_true e) ▸ hy, fun h => ⟨a, h, by simp⟩⟩
theorem a6g (hT : ∀ a, ∀ f ∈ T a, f ∈ F) : ∀ {S : List Stp} {σ : RS}, σ.2.1.Nodup → (∀ f ∈ σ.2.2, f ∈ F) → (S.foldl (rs1 T l d8) σ).2.1.Nodup ∧ ∀ f ∈ (S.foldl (rs1 T l d8) σ).2.2, f ∈ F
 | [], _, h1, h2 => ⟨h1, h2⟩
 | x :: S, σ, h1, h2 => by
  have inner : ∀ {B : List Bnd} {σ : RS}, σ.2.1.Nodup → (∀ f ∈ σ.2.2, f ∈ F) → (B.foldl (rb1 T l d8 x) σ).2.1.Nodup ∧ ∀ f ∈ (B.foldl (rb1 T l d8 x) σ).2.2, f ∈ F := by
   intro B
   induction B with
   | nil => intro σ h1 h2; exact ⟨h1, h2⟩
   | cons b B ih =>
    intro σ h1 h2
    rw [List.foldl_cons]
    refine ih ?_ ?_
    ·show (cond (V4 σ.2.1 (z7 l d8 x b)) σ.2.1 (σ.2.1 ++ [z7 l d8 x b])).Nodup
     cases hh : V4 σ.2.1 (z7 l d8 x b) with
     | true => exact h1
     | false =>
      rw [cond_false, List.nodup_append]
      refine ⟨h1, by simp, fun u hu v hv e => ?_⟩
      rw [List.mem_singleton] at hv; subst hv; subst e
      rw [b4q.2 hu] at hh; cases hh
    ·show ∀ f ∈ cond (V4 σ.2.1 (z7 l d8 x b)) σ.2.2 ((T (z7 l d8 x b)).foldl D1 σ.2.2), f ∈ F
     cases hh : V4 σ.2.1 (z7 l d8 x b) with
     | true => exact h2
     | false =>
      intro f hf
      rcases (a1k f).1 hf with hf | hf
      ·exact h2 f hf
      ·exact hT _ f hf
  obtain ⟨h3, h4⟩ := inner (B := σ.1) (σ := ([], σ.2)) h1 h2
  exact a6g hT (S := S) h3 h4
def a3f (log : List Acs) : Nat → Int
 | 0 => 0
 | g + 1 => a3f log g + a0T log (g : Int)
theorem a9V {n : Nat} : ∀ {log : List Acs}, (log.countP fun a => decide (0 ≤ a.1 ∧ a.1 < ((n + 1 : Nat) : Int))) = (log.countP fun a => decide (0 ≤ a.1 ∧ a.1 < (n : Int))) + log.countP fun a => decide (a.1 = (n : Int))
 | [] => rfl
 | a :: log => by
  rw [List.countP_cons, List.countP_cons, List.countP_cons, a9V (log := log)]
  simp only [decide_eq_true_eq]
  split <;> split <;> split <;> omega
theorem a6i {log : List Acs} : ∀ {n : Nat}, a3f log n = ((log.countP fun a => decide (0 ≤ a.1 ∧ a.1 < (n : Int)) : Nat) : Int)
 | 0 => by
  have : (log.countP fun a => decide (0 ≤ a.1 ∧ a.1 < ((0 : Nat) : Int))) = 0 := List.countP_eq_zero.2 fun a _ => by simp
  rw [this]; rfl
 | n + 1 => by
  have h := a9V (n := n) (log := log)
  rw [a3f, a6i (n := n), a0T, h]; simp
theorem b1h {log : List Acs} {n : Nat} : 0 ≤ a3f log n ∧ a3f log n ≤ log.length := by
 have := List.countP_le_length (p := fun a : Acs => decide (0 ≤ a.1 ∧ a.1 < (n : Int))) (l := log)
 rw [a6i]; omega
theorem b4k {log : List Acs} {n : Nat} (h : ∀ a ∈ log, 0 ≤ a.1 ∧ a.1.toNat < n) : a3f log n = log.length := by
 rw [a6i, List.countP_eq_length.2 fun a ha => by have := h a ha; simp; omega]
theorem a1K (ho : H6 s l q c6 = true) (hF : E0 s F = true) : B9 s l q c6 F c = a0F (fun a => f5 l F a c) l q c6 := (L7 ho hF).symm
theorem b3M (ho : H6 s l q c6 = true) (hF : E0 s F = true) : ∀ t ∈ (B9 s l q c6 F c).1, t ∈ V9 s q F := by
 rw [a1K ho hF]; exact b1u ho hF fun a f hf => a2n hf
theorem b2g (ho : H6 s l q c6 = true) (hF : E0 s F = true) (he : a0C l c6 = true) : (B9 s l q c6 F c).1 = V9 s q F := by
 rw [a1K ho hF]; exact b2X ho hF he
theorem a7g (ho : H6 s l q c6 = true) (hF : E0 s F = true) : (B9 s l q c6 F c).2.1.Nodup := by
 rw [a1K ho hF]
 exact (a6g (F := F) (fun a f hf => a2n hf) (by simp) (by simp)).1
theorem b0A (ho : H6 s l q c6 = true) (hF : E0 s F = true) : ((B9 s l q c6 F c).2.2.1.all fun x => I2 F x) = true := by
 rw [a1K ho hF, List.all_eq_true]
 intro f hf
 exact a1C.2 ((a6g (T := fun a => f5 l F a c) (l := l) (d8 := q.2) (S := c6) (σ := ([([], [])], [], [])) (F := F) (fun a f hf => a2n hf) (by simp) (by simp)).2 f hf)
theorem a8j (ho : H6 s l q c6 = true) (hF : E0 s F = true) : (B9 s l q c6 F c).2.2.2 = U0 l (B9 s l q c6 F c).2.1 := by
 rw [a1K ho hF]; rfl
theorem b4w (ho : H6 s l q c6 = true) (hF : E0 s F = true) : (B9 s l q c6 F c).2.1.length ≤ 1327104 := by
 rw [a1K ho hF]
 have h := (a4W ho (a9Q (c := c) hF) (Nat.le_refl c6.length)).log
 rw [List.take_length] at h; exact h
theorem b2K (ho : H6 s l q c6 = true) (hF : E0 s F = true) : a3f (B9 s l q c6 F c).2.1 l.length = (((B9 s l q c6 F c).2.1.length : Nat) : Int) := by
 rw [a1K ho hF]
 refine b4k fun a ha => ?_
 have h := b1z ho (a9Q (c := c) hF) (Nat.le_refl c6.length)
 rw [List.take_length] at h
 have h2 := (U2 (h a ha)).2.1
 omega
theorem b6H {L : List Acs} {h : Nat} (hg : g < L.length) (hh : h < g) (e1 : L[g].1 = L[h].1) (e2 : decide (L[g].2 = L[h].2) = true) : false = decide L.Nodup := by
 refine (decide_eq_false fun hn => ?_).symm
 have := (List.pairwise_iff_getElem.1 hn) h g (by omega) hg hh
 exact this (Prod.ext e1.symm (of_decide_eq_true e2).symm)
theorem b2F {L : List Acs} {h : Nat} (hg : g < L.length) (hh : h < L.length) (ha : ∀ x ∈ L.take h, x ≠ L[g]) (e : ¬ L[g].1 = L[h].1) : ∀ x ∈ L.take (h + 1), x ≠ L[g] := by
 intro x hx
 rw [List.take_succ_eq_append_getElem hh] at hx
 rcases List.mem_append.1 hx with hx | hx
 ·exact ha x hx
 ·rw [List.mem_singleton] at hx; rw [hx]; exact fun e2 => e (by rw [e2])
theorem b2G {L : List Acs} {h : Nat} (hg : g < L.length) (hh : h < L.length) (ha : ∀ x ∈ L.take h, x ≠ L[g]) (e : decide (L[g].2 = L[h].2) = false) : ∀ x ∈ L.take (h + 1), x ≠ L[g] := by
 intro x hx
 rw [List.take_succ_eq_append_getElem hh] at hx
 rcases List.mem_append.1 hx with hx | hx
 ·exact ha x hx
 ·rw [List.mem_singleton] at hx; rw [hx]; exact fun e2 => of_decide_eq_false e (by rw [e2])
theorem b7l {L : List Acs} {h : Nat} (hg : g < L.length) (hn : (L.take g).Nodup) (ha : ∀ x ∈ L.take h, x ≠ L[g]) (hh : h = g) : (L.take (g + 1)).Nodup := by
 subst hh
 rw [List.take_succ_eq_append_getElem hg, List.nodup_append]
 refine ⟨hn, by simp, fun x hx y hy e => ?_⟩
 rw [List.mem_singleton] at hy
 exact ha x hx (by rw [e, hy])
theorem b5u {L : List Acs} (hg : ¬ g < L.length) (hn : (L.take g).Nodup) : true = decide L.Nodup := by
 rw [List.take_of_length_le (by omega)] at hn
 exact (decide_eq_true hn).symm
end
end Go.Proofs.YtlfhopooaejpfaaGreat
end
