import Derived.Test.YthapcdhdfaibkaaGreatDoorGg
namespace Go.Proofs.YthapcdhdfaibkaaGreatDoor
set_option linter.all false
section
variable {s : List Int} {T : Acs → List Fct} {l : List Mth} {d9 ns : List AT2} {B : List Bnd} {d7 : List Stp} {d6 F : List Fct} {x : Stp} {σ : RS} {b b0 : Bnd} {g : GQ} {n : Nat} {ms : List Int} {log : List Acs} {τ : GSt}
def b0r (T : Acs → List Fct) (σ : RS) : Prop := ∀ a ∈ σ.2.1, ∀ f ∈ T a, f ∈ σ.2.2
theorem b8m (h : b0r T σ) : b0r T (rb1 T l d9 x σ b) ∧ (∀ a ∈ σ.2.1, a ∈ (rb1 T l d9 x σ b).2.1) ∧ (∀ f ∈ σ.2.2, f ∈ (rb1 T l d9 x σ b).2.2) ∧ D7 l d9 x b ∈ (rb1 T l d9 x σ b).2.1 := by
 unfold b0r rb1
 dsimp only
 cases hh : W6 σ.2.1 (D7 l d9 x b) with
 | true => exact ⟨h, fun a ha => ha, fun f hf => hf, a8N.1 hh⟩
 | false =>
  refine ⟨fun a ha f hf => ?_, fun a ha => List.mem_append_left _ ha, fun f hf => (a0J f).2 (.inl hf), List.mem_append_right _ (List.mem_singleton.2 rfl)⟩
  rcases List.mem_append.1 ha with ha | ha
  ·exact (a0J f).2 (.inl (h a ha f hf))
  ·rw [List.mem_singleton] at ha; subst ha; exact (a0J f).2 (.inr hf)
theorem b3k : ∀ {B : List Bnd} {σ : RS}, b0r T σ → b0r T (B.foldl (rb1 T l d9 x) σ) ∧ (∀ a ∈ σ.2.1, a ∈ (B.foldl (rb1 T l d9 x) σ).2.1) ∧ (∀ f ∈ σ.2.2, f ∈ (B.foldl (rb1 T l d9 x) σ).2.2) ∧ ∀ b ∈ B, D7 l d9 x b ∈ (B.foldl (rb1 T l d9 x) σ).2.1
 | [], _, h => ⟨h, fun a ha => ha, fun f hf => hf, fun b hb => by cases hb⟩
 | b :: B, σ, h => by
  obtain ⟨h1, h2, h3, h4⟩ := b8m (l := l) (d9 := d9) (x := x) (b := b) h
  obtain ⟨k1, k2, k3, k4⟩ := b3k (B := B) h1
  rw [List.foldl_cons]
  refine ⟨k1, fun a ha => k2 a (h2 a ha), fun f hf => k3 f (h3 f hf), fun b' hb => ?_⟩
  rcases List.mem_cons.1 hb with rfl | hb
  ·exact k2 _ h4
  ·exact k4 b' hb
theorem b3E {G : Int → Int} (hg : ∀ t, inR t 10 17 = false → G t = t) (ho : U8 l d9 d7 d7.length = true) (he : b6L l d7 = true) (hF : ∀ a ∈ d9, (a.1, a.2.map G) ∈ F) : ∀ {n : Nat}, n ≤ d7.length → b0r (fun a => r5 l F a 0) (m7 (fun a => r5 l F a 0) l d9 (d7.take n)) ∧ ∀ x ∈ d7.take n, ((atA d9 x.1).1, (atA d9 x.1).2.map G) ∈ (m7 (fun a => r5 l F a 0) l d9 (d7.take n)).2.2
 | 0, _ => ⟨fun a ha => by simp [m7] at ha, fun x hx => by simp at hx⟩
 | n + 1, hn => by
  obtain ⟨i1, i2⟩ := b3E hg ho he hF (n := n) (by omega)
  obtain ⟨b, h1, h2, h3⟩ := b4c (c := 0) hg ho he hF (g := n) (by omega)
  have hs := (Bool.and_eq_true_iff.1 (a7e (g := n + 1) ho hn)).2
  rw [J5 (by omega : n < d7.length)] at hs
  simp only [Y2, Bool.and_eq_true] at hs
  have a1 := V2 hs.1
  have hat : atA d9 d7[n].1 ∈ d9 := by rw [a1K (by omega)]; exact List.getElem_mem _
  have hex := List.all_eq_true.1 he _ (List.getElem_mem (show n < d7.length by omega))
  simp only [Bool.and_eq_true, decide_eq_true_eq] at hex
  have hlim : a1P l (D7 l d9 d7[n] b) = 0 := hex.2
  have hmem : ((atA d9 d7[n].1).1, (atA d9 d7[n].1).2.map G) ∈ (fun a => r5 l F a 0) (D7 l d9 d7[n] b) := by
   show _ ∈ r5 l F _ 0
   rw [← a4e (.inl hlim)]
   exact List.mem_filter.2 ⟨hF _ hat, b0n (m := atM l d7[n].2) hg hs.2.2.2 h2 h3⟩
  obtain ⟨k1, k2, k3, k4⟩ := b3k (T := fun a => r5 l F a 0) (l := l) (d9 := d9) (x := d7[n]) (B := (m7 (fun a => r5 l F a 0) l d9 (d7.take n)).1) (σ := ([], (m7 (fun a => r5 l F a 0) l d9 (d7.take n)).2)) i1
  rw [a3O (by omega)]
  refine ⟨k1, fun x hx => ?_⟩
  rw [List.take_succ_eq_append_getElem (by omega)] at hx
  rcases List.mem_append.1 hx with hx | hx
  ·exact k3 _ (i2 x hx)
  ·rw [List.mem_singleton] at hx; subst hx; exact k1 _ (k4 b h1) _ hmem
theorem b2E : ∀ {n : Nat}, b ∈ (gdI l d6 ms ns τ n).1 ↔ b ∈ τ.1 ∧ ∀ j, j < n → gP l d6 (at0 ms (j : Nat)) (ns.getD j (0, [])) b = false
 | 0 => ⟨fun h => ⟨h, fun j hj => by omega⟩, fun h => h.1⟩
 | n + 1 => by
  show b ∈ (gdI l d6 ms ns τ n).1.filter _ ↔ _
  rw [List.mem_filter, b2E (n := n), Bool.not_eq_true']
  constructor
  ·rintro ⟨⟨h1, h2⟩, h3⟩
   refine ⟨h1, fun j hj => ?_⟩
   rcases Nat.lt_or_ge j n with h | h
   ·exact h2 j h
   ·rw [show j = n by omega]; exact h3
  ·rintro ⟨h1, h2⟩
   exact ⟨⟨h1, fun j hj => h2 j (by omega)⟩, h2 n (by omega)⟩
theorem c0N {A : List AT2} (hm : MOk g.1.2 A b) : ∀ t ∈ a2z g, bd b t := fun t ht => by
 obtain ⟨a, ha, h⟩ := List.mem_flatMap.1 (a7m ht)
 exact (hm.2 a ha).2 t h
theorem b7M (h : Q9 s l g = true) (hn : n < g.2.length) (hm : MOk g.1.2 F b) : gP l d6 (at0 (B2 s l g) (n : Nat)) g.2[n] b = N9 d6 (O8 g.2[n] b) := by
 obtain ⟨h1, h2, h3, h4, h5, h6⟩ := a1q h
 have ha : K3 s g.2[n] = true := by
  have h7 := h2
  simp only [P9, Bool.and_eq_true, Bool.not_eq_true', List.any_eq_false, Bool.not_eq_true] at h7
  simpa using h7.2.2.1 _ (List.getElem_mem hn)
 have hrel : 0 ≤ g.2[n].1 := by
  simp only [K3, P2, Bool.and_eq_true] at ha
  exact (V2 ha.1.2).1
 obtain ⟨m1, m2, m3, m4⟩ := (a4M (l := l) (b := a2z g) hrel).2 (h6 _ (List.getElem_mem hn))
 rw [(a5C h hn).1, gP, Bool.eq_iff_iff, a6t, a6t, m6, List.mem_filter]
 refine ⟨fun h => h.1, fun h => ⟨h, ?_⟩⟩
 exact b0n (G := F6 b) (fun t ht => (a0c ht).symm) m4 ⟨hm.1, fun t _ => rfl⟩ (c0N hm)
theorem b8Y (h : P9 s g = true) (ha : n < g.2.length) {t : Int} (ht : t ∈ g.2[n].2) (hv : inR t 10 17 = true) : t ∈ a2z g := by
 simp only [P9, Bool.and_eq_true, Bool.not_eq_true', List.any_eq_false, Bool.not_eq_true] at h
 have h1 := h.2.2.2 t (a2L.2 (List.mem_filter.2 ⟨List.mem_flatMap.2 ⟨_, List.getElem_mem ha, ht⟩, hv⟩))
 have h3 : I8 (u7 (fun t => inR t 10 17) g.1.2) t = true := by simpa using h1
 exact a2a.1 h3
theorem b8d (h : P9 s g = true) (ha : n < g.2.length) (hA : a1B b (F6 b0)) (hb : ∀ a ∈ g.1.2, ∀ t ∈ a.2, bd b t) : O8 g.2[n] b = O8 g.2[n] b0 := by
 unfold O8
 congr 1
 refine List.map_congr_left fun t ht => ?_
 cases hv : inR t 10 17 with
 | false => rw [← a0c hv, ← a0c hv]
 | true =>
  obtain ⟨a, h1, h2⟩ := List.mem_flatMap.1 (a7m (b8Y h ha ht hv))
  exact hA.2 t (hb a h1 t h2)
theorem b9m (h : Q9 s l g = true) : b6L l (I9 s l g) = true := by
 refine List.all_eq_true.2 fun x hx => ?_
 obtain ⟨h1, h2, h3, h4⟩ := a1M (a3n h)
 have h5 := a5E h4 (Nat.le_refl _) x (by rw [List.take_length]; exact hx)
 rw [decide_eq_true (b5r h x hx), Bool.and_true]
 exact decide_eq_true (by omega)
theorem b5N (h : Q9 s l g = true) (hf : F1 s d6 = true) : ∀ f ∈ (rgR s l g d6).2.2.1, f ∈ d6 := by
 rw [← a5u h hf, b0w (a3n h) hf]
 exact fun f hf => (a8H (T := fun a => r5 l d6 a 0) (l := l) (d9 := g.1.2) (S := I9 s l g) (σ := ([([], [])], [], [])) (F := d6) (fun a f hf => b0g hf) (by simp) (by simp)).2 f hf
theorem b6Z (h : rgB s l g d6 = true) : rgA s l g d6 = a0x s g d6 := by
 obtain ⟨h1, hf⟩ := Bool.and_eq_true_iff.1 h
 obtain ⟨_, h2, _⟩ := a1q h1
 have hq := (P6 h2).1
 rw [rgA, h, cond_true, a0x, if_pos (by rw [h2, hf]; rfl)]
 refine b2p (b0v .nil) (b0v .nil) fun t => ⟨fun ht => ?_, fun ht => ?_⟩
 ·obtain ⟨b, hb, rfl⟩ := a4g.1 ht
  obtain ⟨h3, h4⟩ := b2E.1 hb
  have h5 := a9P (b5N h1 hf) b h3
  refine a4g.2 ⟨b, List.mem_filter.2 ⟨h5, ?_⟩, rfl⟩
  rw [Bool.not_eq_true', X9, List.any_eq_false]
  intro a ha
  obtain ⟨j, hj, rfl⟩ := List.getElem_of_mem ha
  have h6 := h4 j hj
  rw [J5 hj, b7M h1 hj (a6Z b h5)] at h6
  rw [h6]; decide
 ·obtain ⟨b0, hb, rfl⟩ := a4g.1 ht
  rw [List.mem_filter] at hb
  have hm := a6Z b0 hb.1
  obtain ⟨o1, o2, o3, o4⟩ := a1M (a3n h1)
  have hg := (b3E (G := F6 b0) (F := d6) (fun t ht => (a0c ht).symm) o4 (b9m h1) (fun a ha => (hm.2 a ha).1) (Nat.le_refl _)).2
  rw [List.take_length] at hg
  have hin : ∀ a ∈ g.1.2, (a.1, a.2.map (F6 b0)) ∈ (rgR s l g d6).2.2.1 := fun a ha => by
   obtain ⟨x, hx, rfl⟩ := List.mem_map.1 (b8C o4 o3 a ha)
   rw [← a5u h1 hf, b0w (a3n h1) hf]
   exact hg x hx
  obtain ⟨b, h5, h6, h7⟩ := b0f (F := (rgR s l g d6).2.2.1) (fun t ht => (a0c ht).symm) hin
  refine a4g.2 ⟨b, b2E.2 ⟨h5, fun j hj => ?_⟩, b8F (b := b0) hq h6 h7⟩
  rw [J5 hj, b7M h1 hj (a6Z b (a9P (b5N h1 hf) b h5)), b8d h2 hj h6 h7]
  have h8 := hb.2
  rw [Bool.not_eq_true', X9, List.any_eq_false] at h8
  simpa using h8 _ (List.getElem_mem hj)
theorem b8g {a : Acs} (h : log.Nodup) : (a3R a log).Nodup := by
 unfold a3R
 cases hh : W6 log a with
 | true => exact h
 | false =>
  rw [cond_false, List.nodup_append]
  refine ⟨h, by simp, fun u hu v hv e => ?_⟩
  rw [List.mem_singleton] at hv; subst hv; subst e
  rw [a8N.2 hu] at hh; cases hh
theorem b2C {m : Int} {a : AT2} : ∀ {L : List Bnd} {log : List Acs}, log.Nodup → (L.foldl (gL l m a) log).Nodup
 | [], _, h => h
 | b :: L, log, h => b2C (L := L) (b8g h)
theorem b2r (h : rgB s l g d6 = true) : (rgL s l g d6).Nodup := by
 obtain ⟨h1, hf⟩ := Bool.and_eq_true_iff.1 h
 rw [rgL, h, cond_true]
 have h0 : (rgR s l g d6).2.1.Nodup := by rw [← a5u h1 hf]; exact b4u (a3n h1) hf
 have H : ∀ n, (rgI s l g d6 n).2.Nodup := fun n => by
  induction n with
  | zero => exact h0
  | succ n ih => exact b2C ih
 exact H _
theorem b9J (hf : F1 s d6 = true) (hg : P9 s g = true) : ((a0x s g d6).all fun x => (X6 s g.1 d6).any fun y => decide (x = y)) = true := b8W fun t ht => by
 rw [a0x, if_pos (by rw [hg, hf]; rfl)] at ht
 rw [X6, if_pos (by rw [(P6 hg).1, hf]; rfl)]
 obtain ⟨b, hb, e⟩ := a4g.1 ht
 exact a4g.2 ⟨b, (List.mem_filter.1 hb).1, e⟩
end
end Go.Proofs.YthapcdhdfaibkaaGreatDoor
