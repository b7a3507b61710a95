import Derived.Test.YthapcdhdfaibkaaGreatDoorEh
import Derived.Test.YthapcdhdfaibkaaGreatDoorT123
section
namespace Go.Proofs.YthapcdhdfaibkaaGreatDoor
open Go.RowKit
set_option linter.all false
set_option maxHeartbeats 2000000
attribute [local irreducible] Nop Yd Yp Ent Has Tr FnP FnP2 Src M5 U1 V6 W3 G3
variable {i n : Int}
theorem a4m (hn : 0 ≤ i ∧ i ≤ 9) : Tr Tryz.prog 382 [.int .i64 i] (fun w L => True) [] (κ := Unit) (fun k => True) (fun k => P8 (Q8 i)) (fun k => []) := by
 refine Ti1 Tryz.func382 15 rfl fun w L hR => (Ew Z1 (Ei rfl (Eu (Eq_ (Ew Z2 (Em rfl (Ylt rfl (l3 (fun q4 => ?_) (fun q4 => ?_)))))))))
 ·refine Eu (r6 rfl (Ew Z5 (Em rfl (Em rfl (Yad rfl om om (Ey rfl ((c1l b6G rfl rfl rfl om (by show _ ≤ ((36 : Nat) : Int); omega)).yd) (Ei rfl ?_)))))))
  exact Eu (E.ret (i9 (Fg rfl rfl () (by rw [show (Q8 i) = ((List.drop i.toNat ([48, 49, 50, 51, 52, 53, 54, 55, 56, 57, 97, 98, 99, 100, 101, 102, 103, 104, 105, 106, 107, 108, 109, 110, 111, 112, 113, 114, 115, 116, 117, 118, 119, 120, 121, 122] : List UInt8)).take ((i + 1).toNat - i.toNat)) from (by exact (b5t hn).symm)]; try rfl) rfl)))
 ·exact absurd q4 om
theorem a3y {base : Int} (hn : 0 ≤ i ∧ i ≤ 9) (hb : base = 10) : Tr Tryz.prog 373 [.int .i64 i, .int .i64 base] (fun w L => True) [] (κ := Unit) (fun k => True) (fun k => P8 (Q8 i)) (fun k => []) := by
 refine Ti2 Tryz.func373 54 rfl fun w L hR => (Ew Z1 (Ei rfl (Eu (Eq_ (Ew Z2 (Em rfl (Yeq rfl (l3 (fun q11 => ?_) (fun q11 => ?_)))))))))
 ·refine Eu (r6 rfl (Eq_ (Ew Z6 (Em rfl (Ey rfl ((Y.leq rfl rfl).yd) (l3 (fun q13 => ?_) (fun q13 => ?_)))))))
  ·refine Em rfl (Em rfl (Ylt rfl (l3 (fun q16 => ?_) (fun q16 => ?_))))
   ·refine Ypt rfl (Eu (r6 rfl (Ew Z3 (Em rfl (E0 rfl (a4m fc) rfl (fun _ => trivial) (Ei rfl (Eu (E.ret (i9 (i9 (Fg rfl rfl () rfl rfl)))))))))))
   ·exact absurd q16 om
  ·exact absurd hn.1 q13
 ·exact absurd hb q11
theorem a4J (hn : 0 ≤ i ∧ i ≤ 9) : Tr Tryz.prog 340 [.int .i64 i] (fun w L => True) [] (κ := Unit) (fun k => True) (fun k => P8 (Q8 i)) (fun k => []) := by
 refine Ti1 Tryz.func340 5 rfl fun w L hR => (Ew Z1 (Ei rfl (Ev Z3 (Em rfl (E0 rfl (a3y fc fc) rfl (fun _ => trivial) (Ei rfl (Eu (E.ret (Fg rfl rfl () rfl rfl)))))))))
theorem b0e (hn : 0 ≤ i ∧ i ≤ 9) : Tr Tryz.prog 280 [.int .i64 i] (fun w L => True) [] (κ := Unit) (fun k => True) (fun k => P8 (Q8 i)) (fun k => []) := by
 refine Ti1 Tryz.func280 5 rfl fun w L hR => (Ew Z1 (Ei rfl (Ev Z3 (Em rfl (E0 rfl (a4J fc) rfl (fun _ => trivial) (Ei rfl (Eu (E.ret (Fg rfl rfl () rfl rfl)))))))))
theorem a2G (hn : 0 ≤ n ∧ n ≤ 9) : Tr Tryz.prog 177 [.int .i64 n] (fun w L => True) [] (κ := Unit) (fun k => True) (fun k => P8 (Q8 n)) (fun k => []) := by
 refine Ti1 Tryz.func177 5 rfl fun w L hR => (Ew Z1 (Ei rfl (Ev Z3 (Em rfl (E0 rfl (b0e fc) rfl (fun _ => trivial) (Ei rfl (Eu (E.ret (Fg rfl rfl () rfl rfl)))))))))
theorem a2J : Tr Tryz.prog 180 [.int .i64 n] (fun w L => I64 n) [] (κ := Unit) (fun k => True) (fun k => P8 (Q8 n)) (fun k => []) := by
 refine Ti1 Tryz.func180 31 rfl fun w L hR => ?_
 have i6n := hR
 refine Ew Z1 (Ei rfl (Eu (Eq_ (Ew Z2 (Em rfl (Yeq rfl (l3 (fun q7 => ?_) (fun q7 => ?_))))))))
 ·refine Eu (r6 rfl (Ew Z1 (Ei rfl ?_)))
  exact Eu (E.ret (i9 (Fg rfl rfl () (by rw [show (Q8 n) = ([48]) from (by rw [q7]; exact b4P)]; try rfl) rfl)))
 ·refine Eu (Cf (Ew Z1 (Ei rfl (Ev Z3 (Em rfl (Ylt rfl (Ei rfl (Eu (Eq_ (E.block (E.loop (κ := Nat) (fun g => g ≤ 20 ∧ True) (fun g => [(0, .int .i64 ((itN n g).1)), (3, P8 ((itN n g).2)), (4, .bool (decide (n < 0)))]) (fun g => []) (fun g => 20 - g) (0) ⟨Nat.zero_le _, by simp⟩ ⟨frI (by rfl), frS (by rfl), rfl, trivial⟩ (.refl _) (fun g pg => ?_))))))))))))
  try dsimp only
  obtain ⟨pk, pa⟩ := pg
  have j6 := b9b (g := g) i6n
  have jl := b0B (n := n) (g := g)
  refine Eq_ (Ew Z2 (Em rfl (Ey rfl ((Y.neq rfl rfl).yd) (l3 (fun q11 => ?_) (fun q11 => ?_)))))
  ·refine Eu (Ct (E.block (Ew Z3 (Em rfl ?_))))
   have j7 : -9 ≤ (itN n g).1.tmod 10 ∧ (itN n g).1.tmod 10 ≤ 9 := b6C
   refine Ey rfl ((Y.rem rfl rfl i6 dc).yd) (Ei rfl (Eu (Eq_ (Ew Z2 (Em rfl (Ylt rfl (l3 (fun q15 => ?_) (fun q15 => ?_))))))))
   ·refine Eu (r6 rfl (Ez Z3 (Em rfl (Ey rfl ((Y.neg rfl om).yd) (Ei rfl (Ev Z8 (Em rfl (Yad rfl om om (Ey rfl ((b6o b4U a7P rfl om).yd) (Est rfl (Nb [_] [_] us_U8s a9F rfl rfl) (fun b21 _ => (Ey rfl (b7T us_U8s a7P b6G rfl m0 om) (Em rfl (Ey rfl ((P7 rfl rfl (by first | omega | (simp only [List.length_append, List.length_cons, List.length_nil] at *; omega))).yd) (Ei rfl (Eu (Ez Z3 (Em rfl (Ey rfl ((Y.quo rfl rfl i6 dc).yd) (Ei rfl ?_))))))))))))))))))))
    have jg := b5O i6n q11
    refine En (o6 (Et (Ent.drop ?_)))
    exact t7 br (g + 1) ⟨frI (by first | exact a4V q11 | exact a1x q11 (.inl rfl) om | exact a1x q11 (.inr rfl) om), frS (by first | exact a4V q11 | exact a1x q11 (.inl rfl) om | exact a1x q11 (.inr rfl) om), rfl, trivial⟩ (.refl _) ⟨oz, (show True from by trivial)⟩ oz
   ·refine Eu (Cf (Ew Z8 (Em rfl (Yad rfl om om (Ey rfl ((b6o b4U a7P rfl om).yd) (Est rfl (Nb [_] [_] us_U8s a9F rfl rfl) (fun b21 _ => (Ey rfl (b7T us_U8s a7P b6G rfl m0 om) (Em rfl (Ey rfl ((P7 rfl rfl (by first | omega | (simp only [List.length_append, List.length_cons, List.length_nil] at *; omega))).yd) (Ei rfl (Eu (Ez Z3 (Em rfl (Ey rfl ((Y.quo rfl rfl i6 dc).yd) (Ei rfl ?_))))))))))))))))
    have jg := b5O i6n q11
    refine En (o6 (Et (Ent.drop ?_)))
    exact t7 br (g + 1) ⟨frI (by first | exact a4V q11 | exact a1x q11 (.inl rfl) om | exact a1x q11 (.inr rfl) om), frS (by first | exact a4V q11 | exact a1x q11 (.inl rfl) om | exact a1x q11 (.inr rfl) om), rfl, trivial⟩ (.refl _) ⟨oz, (show True from by trivial)⟩ oz
  ·refine Eu (r7 rfl (E.exit (l4 (l4 (w8 (Et (Eq_ (Ew Z1 (Em rfl (l3 (fun q27 => ?_) (fun q27 => ?_)))))))))))
   ·refine Eu (r6 rfl (Ew Z3 (Em rfl (Ey rfl ((P7 rfl rfl (by first | omega | (simp only [List.length_append, List.length_cons, List.length_nil] at *; omega))).yd) (Ei rfl ?_)))))
    exact Eu (E.ret (i9 (Fg rfl rfl () (by rw [show (Q8 n) = (([45]) ++ ((itN n g).2)) from (by rw [b3R pk om]; exact (b5m q7 q27).symm)]; try rfl) rfl)))
   ·refine Eu (Cf (Ew Z2 (Em rfl (Ei rfl ?_))))
    exact Eu (E.ret (Fg rfl rfl () (by rw [show (Q8 n) = ((itN n g).2) from (by rw [b3R pk om]; exact (b5U q7 q27).symm)]; try rfl) rfl))
theorem b2G {rel : Int} : TB Tryz.prog 236 [.int .i64 rel] (fun w L => True) (inR rel 0 2) := by
 refine Ti1 Tryz.func236 5 rfl fun w L hR => (Ew Z1 (Ei rfl (Ev Z3 (Em rfl (E0 rfl O9 rfl (fun _ => trivial) (Ei rfl (Eu (E.ret (Fg rfl rfl () rfl rfl)))))))))
end Go.Proofs.YthapcdhdfaibkaaGreatDoor
end
section
namespace Go.Proofs.YthapcdhdfaibkaaGreatDoor
set_option linter.all false
section
variable {s H : List Int} {A F : List IL} {p q : Qry}
theorem b8W {a b : List (List Int)} (h : ∀ t ∈ a, t ∈ b) : (a.all fun x => b.any fun y => decide (x = y)) = true := by
  rw [List.all_eq_true]
  intro x hx
  rw [List.any_eq_true]
  exact ⟨x, h x hx, by simp⟩
end
end Go.Proofs.YthapcdhdfaibkaaGreatDoor
end
section
namespace Go.Proofs.YthapcdhdfaibkaaGreatDoor
set_option linter.all false
section
variable {ys l : List (List Int)} {t : List Int} {g : Nat}
def c0V (t : List Int) : Str := [40] ++ Lib.join (t.map Q8) [44] ++ [41]
def c2H (l : List (List Int)) : Str := if l.length = 0 then [110, 111, 110, 101] else Lib.join (l.map c0V) [32]
end
end Go.Proofs.YthapcdhdfaibkaaGreatDoor
end
section
namespace Go.Proofs.YthapcdhdfaibkaaGreatDoor
set_option linter.all false
section
variable {s H : List Int} {A F : List IL} {q : Qry} {t : List Int} {g : Nat}
theorem b8w (ht : t ∈ X6 s (H, A) F) : (I3 s (H, A) = true ∧ F1 s F = true) ∧ t ∈ S2 H (H6 A F) := by
  unfold X6 at ht
  split at ht
  · rename_i h; rw [Bool.and_eq_true] at h; exact ⟨h, ht⟩
  · cases ht
theorem b9B (hq : sQ H A) : ∀ t ∈ X6 s (H, A) F, t.length ≤ 3 := fun t ht => Nat.le_trans (b2h t (b8w ht).2) hq.2.2
end
end Go.Proofs.YthapcdhdfaibkaaGreatDoor
end
section
namespace Go.Proofs.YthapcdhdfaibkaaGreatDoor
open Go.RowKit
set_option linter.all false
set_option maxHeartbeats 2000000
attribute [local irreducible] Nop Yd Yp Ent Has Tr FnP FnP2 Src M5 U1 V6 W3 G3
theorem a2y {a_a : Option Addr} {m_a c_a : Nat} {a : List (List Int)} {a_b : Option Addr} {m_b c_b : Nat} {b : List (List Int)} : TB Tryz.prog 11 [.slice a_a m_a c_a, .slice a_b m_b c_b] (fun w L => Ro w L H3 [.slice a_a m_a c_a] a ∧ Ro w L H3 [.slice a_b m_b c_b] b) (decide (a = b)) := by
 refine Ti2 Tryz.func11 27 rfl fun w L hR => ?_
 obtain ⟨ha, hb⟩ := hR
 obtain ⟨rfl, la⟩ := ha.slen
 obtain ⟨rfl, lb⟩ := hb.slen
 refine Ew Z1 (Ei rfl (Eu (Eq_ (Ew Z5 (Em rfl (Yln us_Iss rfl (Em rfl (Yln us_Iss rfl (Ey rfl ((Y.neq rfl rfl).yd) (l3 (fun q10 => ?_) (fun q10 => ?_)))))))))))
 ·refine Eu (r6 rfl (Ew Z1 (Ei rfl (Eu (E.ret (i9 (Fb rfl rfl (by grind [d1, d2, t1, t2]))))))))
 ·refine Eu (Cf (Eq_ (Ew Z1 (Ei rfl (Eu (E.block (Lo (κ := Nat) (fun g => g ≤ a.length ∧ a.length = b.length ∧ (a = b ↔ a.drop g = b.drop g)) (fun g => [(0, .slice a_a a.length c_a), (1, .slice a_b b.length c_b), (5, .int .i64 (g : Int))]) (fun g => []) (fun g => a.length - g) 0 ⟨Nat.zero_le _, by exact ⟨by omega, by simp⟩⟩ (fun g pg => ?_))))))))
  obtain ⟨pk, pa⟩ := pg
  refine Eq_ (Ew Z4 (Em rfl (Em rfl (Yln us_Iss rfl (Ylt rfl (l3 (fun q14 => ?_) (fun q14 => ?_)))))))
  ·refine Eu (Ct (Eq_ (E.block (Eq_ (D.region (fun j => true) mixed (Dm 0 rfl (Dm 1 rfl ?_)))))))
   obtain ⟨eb19, eo19, ec19, ea19, er19, el19, eh19⟩ := ha.elem g om
   obtain ⟨xa19, xc19, rfl⟩ := er19.sl
   have := er19.slen.2
   refine Dyp 2 rfl (z8 us_Iss ty_Is rfl ea19 rfl g rfl om) (Dy 3 rfl (B4 ty_Is rfl (eh19 _) rfl) (Dm 4 rfl (Dm 5 rfl ?_)))
   obtain ⟨eb23, eo23, ec23, ea23, er23, el23, eh23⟩ := hb.elem g om
   obtain ⟨xa23, xc23, rfl⟩ := er23.sl
   have := er23.slen.2
   refine Dyp 6 rfl (z8 us_Iss ty_Is rfl ea23 rfl g rfl om) (Dy 7 rfl (B4 ty_Is rfl (eh23 _) rfl) (D0 8 rfl a2E rfl (fun hA => ⟨hA.ro er19, hA.ro er23⟩) (Ent.b (fun q25 => ?_) (fun q25 => ?_))))
   ·refine Dyp 9 rfl (Y.not (b := true) rfl) (n9 kr (Et (r7 rfl (v8 (o6 (Et (Ez Z3 (Em rfl (Yad rfl om om (Ei rfl ?_))))))))))
    exact Eu (t7 br (g + 1) rs (.refl _) ⟨by omega, by grind [d1, d2, t1, t2]⟩ om)
   ·refine Dyp 9 rfl (Y.not (b := false) rfl) (n9 kr (Et (r6 rfl (Ew Z1 (Ei rfl (Eu (E.ret (u6 (i9 (i9 (u6 (i9 (Fb rfl rfl (by grind [d1, d2, t1, t2]))))))))))))))
  ·refine Eu (r7 rfl (E.exit (l4 (l4 (w8 (Et (Ew Z1 (Ei rfl (Eu (E.ret (Fb rfl rfl (by grind [d1, d2, t1, t2]))))))))))))
end Go.Proofs.YthapcdhdfaibkaaGreatDoor
end
section
namespace Go.Proofs.YthapcdhdfaibkaaGreatDoor
set_option linter.all false
def c2C (x : List (List Int) × List IL × List IL × Int) : Nat := H2 a9B x.1 + H2 a1e x.2.1 + H2 Y4 x.2.2.1 + 1
def c2z (x : List (List Int) × List IL × List IL × Int) (k : Int) : List (List Int) × List IL × List IL × Int := (mkL a9B c0Y x.1 (k), mkL a1e a7p x.2.1 (k + (H2 a9B x.1 : Nat)), mkL Y4 a5q x.2.2.1 (k + (H2 a9B x.1 : Nat) + (H2 a1e x.2.1 : Nat)), (k + (H2 a9B x.1 : Nat) + (H2 a1e x.2.1 : Nat) + (H2 Y4 x.2.2.1 : Nat)))
section
variable {s : List Int} {T : Acs → List Fct} {l : List Mth} {q : List Int × List AT2} {d9 : List AT2} {d7 : List Stp} {d6 : List Fct} {c : Int} {g k : Nat} {x : Stp} {σ : RS} {p : Acs → Prop}
theorem b4l (hD : ∀ b ∈ σ.1, p (D7 l d9 x b)) (h : ∀ a ∈ σ.2.1, p a) : ∀ {k : Nat}, k ≤ σ.1.length → ∀ a ∈ (rbN T l d9 x σ k).2.1, p a
  | 0, _ => h
  | k + 1, hk => by
    have ih := b4l hD h (k := k) (by omega)
    rw [a2N (by omega)]
    show ∀ a ∈ cond _ (rbN T l d9 x σ k).2.1 _, p a
    cases W6 (rbN T l d9 x σ k).2.1 (D7 l d9 x σ.1[k])
    · intro a ha
      rcases List.mem_append.1 ha with ha | ha
      · exact ih a ha
      · simp only [List.mem_singleton] at ha; subst ha
        exact hD _ (List.getElem_mem _)
    · exact ih
theorem b4g (ho : P3 s l q d7 = true) (hT : TOk s (fun a => S8 s l a = true) T) : ∀ {g : Nat}, g ≤ d7.length → ∀ a ∈ (m7 T l q.2 (d7.take g)).2.1, S8 s l a = true
  | 0, _ => fun a ha => by simp [m7] at ha
  | g + 1, hg => by
    have ih := b4g ho hT (g := g) (by omega)
    rw [a3O (by omega), ← b0m rfl]
    exact b4l (a7T ho hT (by omega)) ih (Nat.le_refl _)
end
end Go.Proofs.YthapcdhdfaibkaaGreatDoor
end
section
namespace Go.Proofs.YthapcdhdfaibkaaGreatDoor
set_option linter.all false
section
variable {s V : List Int} {T : Acs → List Fct} {l : List Mth} {q : List Int × List AT2} {d9 A : List AT2} {d7 S : List Stp} {d6 F : List Fct} {c : Int} {g k n : Nat} {x : Stp} {σ : RS} {b b0 : Bnd} {a f : IL} {t u : List Int}
theorem b9N {T : Acs → List Fct} {x : Stp} : ∀ {B : List Bnd} {σ : RS}, (B.foldl (rb1 T l d9 x) σ).1 = σ.1 ++ B.flatMap fun b => J6 [b] (atA d9 x.1) (T (D7 l d9 x b))
  | [], σ => by simp
  | b :: B, σ => by rw [List.foldl_cons, b9N]; simp [rb1, List.append_assoc]
theorem c1X : (rs1 T l d9 σ x).1 = σ.1.flatMap fun b => J6 [b] (atA d9 x.1) (T (D7 l d9 x b)) := by rw [rs1, b9N]; rfl
theorem b5v : ∀ {g : Nat}, U8 l d9 d7 g = true → g ≤ d7.length → ((d7.take g).map fun x => x.1).Nodup
  | 0, _, _ => by simp
  | g + 1, h, hg => by
    rw [U8, Bool.and_eq_true] at h
    have ih := b5v h.1 (by omega)
    have h2 := h.2
    rw [J5 (by omega : g < d7.length)] at h2
    simp only [Y2, Bool.and_eq_true, Bool.not_eq_true'] at h2
    rw [List.take_succ_eq_append_getElem (by omega), List.map_append, List.nodup_append]
    refine ⟨ih, by simp, fun u hu v hv e => ?_⟩
    simp only [List.map_cons, List.map_nil, List.mem_singleton] at hv
    subst hv; subst e
    obtain ⟨y, hy, e⟩ := List.mem_map.1 hu
    have : stU (d7.take g) d7[g].1 = true := List.any_eq_true.2 ⟨y, hy, decide_eq_true e⟩
    rw [h2.2.1] at this; cases this
theorem b8C (ho : U8 l d9 d7 d7.length = true) (hl : d7.length = d9.length) : ∀ a ∈ d9, a ∈ d7.map fun x => atA d9 x.1 := by
  intro a ha
  obtain ⟨j, hj, rfl⟩ := List.getElem_of_mem ha
  have h1 := b5v ho (Nat.le_refl _)
  have h2 := a5E ho (Nat.le_refl _)
  rw [List.take_length] at h1 h2
  have hm : (j : Int) ∈ d7.map fun x => x.1 := Classical.byContradiction fun hn => by
    have h3 : ((j :: (d7.map fun x => x.1).map Int.toNat)).Nodup := by
      rw [List.nodup_cons]
      refine ⟨fun hc => ?_, ?_⟩
      · obtain ⟨i, hi, e⟩ := List.mem_map.1 hc
        obtain ⟨y, hy, e2⟩ := List.mem_map.1 hi
        have := h2 y hy
        have e3 : i = (j : Int) := by omega
        rw [e3] at hi; exact hn hi
      · unfold List.Nodup at h1 ⊢
        rw [List.pairwise_map]
        refine List.Pairwise.imp_of_mem (fun {a b} ha hb hab e => hab ?_) h1
        obtain ⟨y, hy, e2⟩ := List.mem_map.1 ha
        obtain ⟨z, hz, e3⟩ := List.mem_map.1 hb
        have := h2 y hy
        have := h2 z hz
        omega
    have h4 := a4y (n := d9.length) h3 fun i hi => by
      rcases List.mem_cons.1 hi with rfl | hi
      · exact hj
      · obtain ⟨i2, hi2, e⟩ := List.mem_map.1 hi
        obtain ⟨y, hy, e2⟩ := List.mem_map.1 hi2
        have := h2 y hy
        omega
    simp only [List.length_cons, List.length_map] at h4
    omega
  obtain ⟨y, hy, e⟩ := List.mem_map.1 hm
  refine List.mem_map.2 ⟨y, hy, ?_⟩
  show atA d9 y.1 = _
  have e' : y.1 = (j : Int) := e
  rw [e', a1K (by simpa using hj)]; simp
theorem b8F (hq : I3 s q = true) {b b' : Bnd} {G : Int → Int} (hA : a1B b' G) (hb : ∀ a ∈ q.2, ∀ t ∈ a.2, bd b' t) : q.1.map (F6 b') = q.1.map G := by
  refine List.map_congr_left fun z hz => ?_
  obtain ⟨_, _, a, ha, hza⟩ := (b7q hq).2 z hz
  exact hA.2 z (hb a ha z hza)
theorem b3P {P : Int × Int → Bool} {G : Int → Int} : ∀ {m : List Int}, (∀ i ∈ m, P (i, G i) = true) → ((m.zip (m.map G)).all P) = true
  | [], _ => rfl
  | i :: m, h => by
    rw [List.map_cons, List.zip_cons_cons, List.all_cons, h i (by simp), b3P fun j hj => h j (by simp [hj])]; rfl
theorem b0n {m : Mth} {G : Int → Int} (hg : ∀ t, inR t 10 17 = false → G t = t) (hc : O4 m a V = true) (hA : a1B b G) (hV : ∀ t ∈ V, bd b t) : W5 m (R0 m a b) (a.1, a.2.map G) = true := by
  simp only [O4, Bool.and_eq_true, decide_eq_true_eq, Bool.not_eq_true', List.any_eq_false, Bool.not_eq_true] at hc
  obtain ⟨h1, h2⟩ := hc
  rw [W5, Bool.and_eq_true]
  refine ⟨decide_eq_true h1.symm, ?_⟩
  unfold R0
  refine b3P fun i hi => ?_
  have h3 := h2 i hi
  simp only [a0V, Bool.or_eq_false_iff, Bool.not_eq_false', Bool.and_eq_false_imp] at h3
  have h4 := V2 h3.1
  have hlt : i.toNat < a.2.length := by omega
  rw [a3h, decide_eq_true_eq]
  show at0 (a.2.map G) i = F6 b (at0 a.2 i)
  have e1 : at0 (a.2.map G) i = G (at0 a.2 i) := by
    rw [H0 (by simpa using hlt), H0 hlt]; simp
  rw [e1]
  cases hr : inR (at0 a.2 i) 10 17 with
  | false => rw [hg _ hr, ← a0c hr]
  | true =>
    have h5 := h3.2 hr
    exact (hA.2 _ (hV _ (a2a.1 h5))).symm
theorem b5w {G : Int → Int} (hg : ∀ t, inR t 10 17 = false → G t = t) (hF : ((atA d9 x.1).1, (atA d9 x.1).2.map G) ∈ T (D7 l d9 x b)) (hb : b ∈ σ.1) (hA : a1B b G) (hV : ∀ t ∈ V, bd b t) : ∃ b' ∈ (rs1 T l d9 σ x).1, a1B b' G ∧ ∀ t ∈ V ++ (atA d9 x.1).2, bd b' t := by
  obtain ⟨m1, m2⟩ := a8u (a := atA d9 x.1) hg hA
  obtain ⟨k1, k2, k3, k4⟩ := a6W m1
  refine ⟨_, ?_, m2, fun t ht => ?_⟩
  · rw [c1X]
    exact List.mem_flatMap.2 ⟨b, hb, List.mem_flatMap.2 ⟨b, by simp, List.mem_map.2 ⟨_, List.mem_filter.2 ⟨hF, m1⟩, rfl⟩⟩⟩
  · rcases List.mem_append.1 ht with ht | ht
    · exact (k4 t (hV t ht)).2
    · exact k3 t ht
def b6L (l : List Mth) (d7 : List Stp) : Bool := d7.all fun x => inR x.2 0 ((l.length : Int) - 1) && decide ((atM l x.2).2.2.1 = 0)
theorem b4c {G : Int → Int} (hg : ∀ t, inR t 10 17 = false → G t = t) (ho : U8 l d9 d7 d7.length = true) (he : b6L l d7 = true) (hF : ∀ a ∈ d9, (a.1, a.2.map G) ∈ F) : ∀ {g : Nat}, g ≤ d7.length → ∃ b ∈ (m7 (fun a => r5 l F a c) l d9 (d7.take g)).1, a1B b G ∧ ∀ t ∈ stB d9 (d7.take g), bd b t
  | 0, _ => ⟨([], []), by simp [m7], ⟨rfl, fun t ht => by
      rcases ht with ht | ht
      · rw [← a0c ht, hg t ht]
      · cases ht⟩, fun t ht => by simp [stB] at ht⟩
  | g + 1, hgl => by
    obtain ⟨b, h1, h2, h3⟩ := b4c hg ho he hF (g := g) (by omega)
    have hs := (Bool.and_eq_true_iff.1 (a7e (g := g + 1) ho hgl)).2
    rw [J5 (by omega : g < d7.length)] at hs
    simp only [Y2, Bool.and_eq_true] at hs
    have a1 := V2 hs.1
    have hat : atA d9 d7[g].1 ∈ d9 := by rw [a1K (by omega)]; exact List.getElem_mem _
    have hex := List.all_eq_true.1 he _ (List.getElem_mem (show g < d7.length by omega))
    simp only [Bool.and_eq_true, decide_eq_true_eq] at hex
    have hlim : a1P l (D7 l d9 d7[g] b) = 0 := hex.2
    have hmem : ((atA d9 d7[g].1).1, (atA d9 d7[g].1).2.map G) ∈ (fun a => r5 l F a c) (D7 l d9 d7[g] b) := by
      show _ ∈ r5 l F _ c
      rw [← a4e (.inl hlim)]
      exact List.mem_filter.2 ⟨hF _ hat, b0n (m := atM l d7[g].2) hg hs.2.2.2 h2 h3⟩
    obtain ⟨b', h4, h5, h6⟩ := b5w (T := fun a => r5 l F a c) (l := l) (d9 := d9) (x := d7[g]) hg hmem h1 h2 h3
    rw [a3O (by omega), ← b2O (by omega)]
    exact ⟨b', h4, h5, h6⟩
abbrev b0y (l : List (List Int)) : Prop := l.Pairwise fun a b => ltT a b = true
theorem b5T {a b c : List Int} (h1 : ltT a b = true) (h2 : ltT b c = true) : ltT a c = true := by
  simp only [ltT, decide_eq_true_eq] at h1 h2 ⊢; exact b0A h1 h2
theorem b6Y {l : List (List Int)} (h : b0y l) : b0y (U0 l t) := by
  cases hh : T0 l t
  · rw [U0, hh, X4, if_neg (by decide)]
    refine (b2D (r := ltT) (fun a b c => b5T) h fun y hy hf => ?_).1
    simp only [ltT, decide_eq_false_iff_not, decide_eq_true_eq] at hf ⊢
    have h1 := a5U (l := t) (m := y)
    rcases Int.lt_or_eq_of_le (show K5 y t ≤ 0 by omega) with h2 | h2
    · exact h2
    · rw [a5c] at h2
      subst h2
      rw [b3d.2 hy] at hh; cases hh
  · rw [U0, hh, X4, if_pos rfl]; exact h
theorem b0v {h : List Int} : ∀ {B : List Bnd} {out : List (List Int)}, b0y out → b0y (B.foldl (fun out b => U0 out (h.map (F6 b))) out)
  | [], _, ho => ho
  | b :: B, out, ho => b0v (B := B) (b6Y ho)
theorem b2p : ∀ {a b : List (List Int)}, b0y a → b0y b → (∀ y, y ∈ a ↔ y ∈ b) → a = b
  | [], [], _, _, _ => rfl
  | [], y :: b, _, _, h => by have := (h y).2 (List.mem_cons_self ..); simp at this
  | x :: a, [], _, _, h => by have := (h x).1 (List.mem_cons_self ..); simp at this
  | x :: a, y :: b, ha, hb, h => by
    have ha' := List.pairwise_cons.1 ha
    have hb' := List.pairwise_cons.1 hb
    have irr : ∀ z : List Int, ltT z z = true → False := fun z hz => by simp [ltT, a5c.2 rfl] at hz
    have tr : ∀ u v : List Int, ltT u v = true → ltT v u = true → False := fun u v h1 h2 => irr u (b5T h1 h2)
    have e : x = y := by
      rcases List.mem_cons.1 ((h x).1 (List.mem_cons_self ..)) with e | e
      · exact e
      · rcases List.mem_cons.1 ((h y).2 (List.mem_cons_self ..)) with e2 | e2
        · exact e2.symm
        · exact (tr x y (ha'.1 y e2) (hb'.1 x e)).elim
    subst e
    congr 1
    refine b2p ha'.2 hb'.2 fun z => ⟨fun hz => ?_, fun hz => ?_⟩
    · rcases List.mem_cons.1 ((h z).1 (List.mem_cons_of_mem _ hz)) with e | e
      · subst e; exact (irr z (ha'.1 z hz)).elim
      · exact e
    · rcases List.mem_cons.1 ((h z).2 (List.mem_cons_of_mem _ hz)) with e | e
      · subst e; exact (irr z (hb'.1 z hz)).elim
      · exact e
theorem a8N {l : List Acs} {a : Acs} : W6 l a = true ↔ a ∈ l := by
  unfold W6
  rw [List.any_eq_true]
  exact ⟨fun ⟨y, hy, e⟩ => (of_decide_eq_true e) ▸ hy, fun h => ⟨a, h, by simp⟩⟩
theorem a8H (hT : ∀ a, ∀ f ∈ T a, f ∈ F) : ∀ {S : List Stp} {σ : RS}, σ.2.1.Nodup → (∀ f ∈ σ.2.2, f ∈ F) → (S.foldl (rs1 T l d9) σ).2.1.Nodup ∧ ∀ f ∈ (S.foldl (rs1 T l d9) σ).2.2, f ∈ F
  | [], _, h1, h2 => ⟨h1, h2⟩
  | x :: S, σ, h1, h2 => by
    have inner : ∀ {B : List Bnd} {σ : RS}, σ.2.1.Nodup → (∀ f ∈ σ.2.2, f ∈ F) → (B.foldl (rb1 T l d9 x) σ).2.1.Nodup ∧ ∀ f ∈ (B.foldl (rb1 T l d9 x) σ).2.2, f ∈ F := by
      intro B
      induction B with
      | nil => intro σ h1 h2; exact ⟨h1, h2⟩
      | cons b B ih =>
        intro σ h1 h2
        rw [List.foldl_cons]
        refine ih ?_ ?_
        · show (cond (W6 σ.2.1 (D7 l d9 x b)) σ.2.1 (σ.2.1 ++ [D7 l d9 x b])).Nodup
          cases hh : W6 σ.2.1 (D7 l d9 x b) with
          | true => exact h1
          | false =>
            rw [cond_false, List.nodup_append]
            refine ⟨h1, by simp, fun u hu v hv e => ?_⟩
            rw [List.mem_singleton] at hv; subst hv; subst e
            rw [a8N.2 hu] at hh; cases hh
        · show ∀ f ∈ cond (W6 σ.2.1 (D7 l d9 x b)) σ.2.2 ((T (D7 l d9 x b)).foldl G8 σ.2.2), f ∈ F
          cases hh : W6 σ.2.1 (D7 l d9 x b) with
          | true => exact h2
          | false =>
            intro f hf
            rcases (a0J f).1 hf with hf | hf
            · exact h2 f hf
            · exact hT _ f hf
    obtain ⟨h3, h4⟩ := inner (B := σ.1) (σ := ([], σ.2)) h1 h2
    exact a8H hT (S := S) h3 h4
def c1R (log : List Acs) : Nat → Int
  | 0 => 0
  | g + 1 => c1R log g + b9X log (g : Int)
theorem b0w (ho : P3 s l q d7 = true) (hF : F1 s F = true) : P0 s l q d7 F c = X2 (fun a => r5 l F a c) l q d7 := (b0C ho hF).symm
theorem b4u (ho : P3 s l q d7 = true) (hF : F1 s F = true) : (P0 s l q d7 F c).2.1.Nodup := by
  rw [b0w ho hF]
  exact (a8H (F := F) (fun a f hf => b0g hf) (by simp) (by simp)).1
theorem b9x {L : List Acs} {h : Nat} (hg : g < L.length) (hh : h < g) (e1 : L[g].1 = L[h].1) (e2 : decide (L[g].2 = L[h].2) = true) : false = decide L.Nodup := by
  refine (decide_eq_false fun hn => ?_).symm
  have := (List.pairwise_iff_getElem.1 hn) h g (by omega) hg hh
  exact this (Prod.ext e1.symm (of_decide_eq_true e2).symm)
theorem b6e {L : List Acs} {h : Nat} (hg : g < L.length) (hh : h < L.length) (ha : ∀ x ∈ L.take h, x ≠ L[g]) (e : ¬ L[g].1 = L[h].1) : ∀ x ∈ L.take (h + 1), x ≠ L[g] := by
  intro x hx
  rw [List.take_succ_eq_append_getElem hh] at hx
  rcases List.mem_append.1 hx with hx | hx
  · exact ha x hx
  · rw [List.mem_singleton] at hx; rw [hx]; exact fun e2 => e (by rw [e2])
theorem b5s {L : List Acs} {h : Nat} (hg : g < L.length) (hh : h < L.length) (ha : ∀ x ∈ L.take h, x ≠ L[g]) (e : decide (L[g].2 = L[h].2) = false) : ∀ x ∈ L.take (h + 1), x ≠ L[g] := by
  intro x hx
  rw [List.take_succ_eq_append_getElem hh] at hx
  rcases List.mem_append.1 hx with hx | hx
  · exact ha x hx
  · rw [List.mem_singleton] at hx; rw [hx]; exact fun e2 => of_decide_eq_false e (by rw [e2])
theorem c1h {L : List Acs} {h : Nat} (hg : g < L.length) (hn : (L.take g).Nodup) (ha : ∀ x ∈ L.take h, x ≠ L[g]) (hh : h = g) : (L.take (g + 1)).Nodup := by
  subst hh
  rw [List.take_succ_eq_append_getElem hg, List.nodup_append]
  refine ⟨hn, by simp, fun x hx y hy e => ?_⟩
  rw [List.mem_singleton] at hy
  exact ha x hx (by rw [e, hy])
theorem b8V {L : List Acs} (hg : ¬ g < L.length) (hn : (L.take g).Nodup) : true = decide L.Nodup := by
  rw [List.take_of_length_le (by omega)] at hn
  exact (decide_eq_true hn).symm
end
end Go.Proofs.YthapcdhdfaibkaaGreatDoor
end
