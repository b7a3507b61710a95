import Derived.Test.YtlfhopooaejpfaaGreatT45
import Derived.Test.YtlfhopooaejpfaaGreatT123
namespace Go.Proofs.YtlfhopooaejpfaaGreat
open Go.RowKit
set_option linter.all false
set_option maxHeartbeats 2000000
attribute [local irreducible] Nop Yd Yp Ent Has Tr FnP FnP2 Src o6 d7 O0 a0h H2 H6 D0 x5 fzF fzV fzX fzB f0 z8 L9 Q5 C1
variable {d4 : List (Int × Int × List Int)} {l : List (Int × List Int × Int × Int × Int)} {a6 : List (Int × List Int)} {s i9 : List Int} {m_s c_s m_l c_l m_rules c_rules y9 u9 w9 t7 : Nat} {a_s a_l a_rules v6 t8 : Option Addr}
set_option maxRecDepth 100000 in
theorem a0Y (hz : K2 (fun x => x.2.length) a6 ≤ 1048576) : Tr Tryz.prog 31 [.slice a_s m_s c_s, .slice a_l m_l c_l, .slice a_rules m_rules c_rules, .agg #[.slice v6 y9 u9, .slice t8 w9 t7]] (fun w L => Ro w L eIs [.slice a_s m_s c_s] s ∧ Ro w L I4 [.slice a_l m_l c_l] l ∧ Ro w L G9 [.slice a_rules m_rules c_rules] d4 ∧ Ro w L eIs [.slice v6 y9 u9] i9 ∧ Ro w L H9 [.slice t8 w9 t7] a6) [] (κ := Unit) (fun k => True) (fun k => .bool (X9 s l d4 (i9, a6))) (fun k => []) := by
 refine Tr.intro Tryz.func31 rfl (n := 54) rfl (by decide +kernel) bl (fr := [(0, .slice a_s m_s c_s), (1, .slice a_l m_l c_l), (2, .slice a_rules m_rules c_rules), (3, .agg #[.slice v6 y9 u9, .slice t8 w9 t7])]) rfl fun w L hR => ?_
 obtain ⟨hs, hl, hrules, w7, u6⟩ := hR
 obtain ⟨rfl, ls⟩ := hs.slen
 obtain ⟨rfl, ll⟩ := hl.slen
 obtain ⟨rfl, lrules⟩ := hrules.slen
 obtain ⟨rfl, P6⟩ := w7.slen
 obtain ⟨rfl, M4⟩ := u6.slen
 refine Ew Z2 (Est rfl (N.box (cs := [_, _]) rfl dc rfl) (fun b7 _ => (Ei rfl (Eu (Eq_ (Ew Z11 (Em rfl (Em rfl (Em rfl (Est rfl (o4 a3q rfl rfl rfl dc (fun w Lp hA => ⟨hA.ro hs, hA.ro hl, hA.ro hrules⟩)) (fun _ _ => (Ent.b (fun q17 => ?_) (fun q17 => ?_)))))))))))))
 ·refine Ey rfl ((Y.not (b := true) rfl).yd) (Em rfl (Em rfl (Ey rfl (r9 (cs := [_, _]) ty_Query rfl (Has.pt m0) rfl) (Est rfl (o4 (b0D fo) rfl rfl rfl dc (fun w Lp hA => ⟨hA.ro hs, hA.ro w7, hA.ro u6⟩)) (fun _ _ => (Ent.b (fun q22 => ?_) (fun q22 => ?_)))))))
  ·refine Ey rfl ((Y.not (b := true) rfl).yd) (Ey rfl ((z7 rfl rfl).yd) (Eu (n8 rfl (f9 (Et (Ew Z10 (Ey rfl (r9 (cs := [_, _]) ty_Query rfl (Has.pt m0) rfl) (Est rfl (N.call (a7k fo) rfl rfl rfl dc rfl (fun w Lp hA => ⟨hA.ro w7, hA.ro u6⟩)) (fun k27 _ => ?_)))))))))
   obtain ⟨⟨a27_0, m27_0, c27_0⟩, ⟨a27_1, m27_1, c27_1⟩, ⟨a27_2, m27_2, c27_2⟩⟩ := k27
   refine d6 m0 fun e27_0 l27_0 => ?_
   subst e27_0
   refine d6 (mS m0) fun e27_1 l27_1 => ?_
   subst e27_1
   refine d6 (mS (mS m0)) fun e27_2 l27_2 => ?_
   subst e27_2
   refine Em rfl (Ey rfl ((Y.ext rfl rfl).yd) (Ey rfl ((Y.ext rfl rfl).yd) (Ey rfl ((Y.ext rfl rfl).yd) (Est rfl (N.alloc ty_Binding dc) (fun b10 _ => (Ei rfl (Est rfl (Ns [_, _] ty_Binding rfl) (fun _ _ => (Ei rfl (Ent.b (fun q11 => ?_) (fun q11 => ?_)))))))))))
   ·obtain ⟨hm0, hr0⟩ : C0 s l = true ∧ C4 s d4 = true := by simpa using q17
    have jq := a5w (s := s) (q := (i9, a6)) q22
    have hf1 : G4 s (fzF (f0 (fun t => inR t 0 9) a6) a6) = true := b5h (q := (i9, a6)) q22 q11
    have hF := a5e hr0 hf1
    have hU := b0R (m6 := (f0 (fun t => inR t 0 9) a6)) hm0 hr0 hF
    refine Eu (Eq_ (Ew Z2 (Em rfl (Ey rfl ((Y.not (b := true) rfl).yd) (Eu (n8 rfl (f9 (Et (Eq_ (a3V (κ := Nat × Option Addr × Nat × Option Addr × Nat × Nat × Option Addr × Nat × Option Addr × Nat × Option Addr × Nat × Option Addr × Nat × Option Addr × Nat) (fun _ => True) (fun kM => [(13, .bool ((z8 a6 ((H6 l d4 (D0 d4 (fzF (f0 (fun t => inR t 0 9) a6) a6)) (f0 (fun t => inR t 0 9) a6)).1)).any (Q5 i9 (i9.map (C1 ((fzV (f0 (fun t => inR t 0 9) a6) a6), (fzX (f0 (fun t => inR t 0 9) a6) a6)))))))]) (fun kM => [pt kM.1 78 [.slice kM.2.1 ((L9 (z8 a6 ((H6 l d4 (D0 d4 (fzF (f0 (fun t => inR t 0 9) a6) a6)) (f0 (fun t => inR t 0 9) a6)).1)) i9 (i9.map (C1 ((fzV (f0 (fun t => inR t 0 9) a6) a6), (fzX (f0 (fun t => inR t 0 9) a6) a6))))).1).length kM.2.2.1, .slice kM.2.2.2.1 ((L9 (z8 a6 ((H6 l d4 (D0 d4 (fzF (f0 (fun t => inR t 0 9) a6) a6)) (f0 (fun t => inR t 0 9) a6)).1)) i9 (i9.map (C1 ((fzV (f0 (fun t => inR t 0 9) a6) a6), (fzX (f0 (fun t => inR t 0 9) a6) a6))))).2).length kM.2.2.2.2.1], ow eIs [.slice kM.2.1 ((L9 (z8 a6 ((H6 l d4 (D0 d4 (fzF (f0 (fun t => inR t 0 9) a6) a6)) (f0 (fun t => inR t 0 9) a6)).1)) i9 (i9.map (C1 ((fzV (f0 (fun t => inR t 0 9) a6) a6), (fzX (f0 (fun t => inR t 0 9) a6) a6))))).1).length kM.2.2.1] ((L9 (z8 a6 ((H6 l d4 (D0 d4 (fzF (f0 (fun t => inR t 0 9) a6) a6)) (f0 (fun t => inR t 0 9) a6)).1)) i9 (i9.map (C1 ((fzV (f0 (fun t => inR t 0 9) a6) a6), (fzX (f0 (fun t => inR t 0 9) a6) a6))))).1), ow eIs [.slice kM.2.2.2.1 ((L9 (z8 a6 ((H6 l d4 (D0 d4 (fzF (f0 (fun t => inR t 0 9) a6) a6)) (f0 (fun t => inR t 0 9) a6)).1)) i9 (i9.map (C1 ((fzV (f0 (fun t => inR t 0 9) a6) a6), (fzX (f0 (fun t => inR t 0 9) a6) a6))))).2).length kM.2.2.2.2.1] ((L9 (z8 a6 ((H6 l d4 (D0 d4 (fzF (f0 (fun t => inR t 0 9) a6) a6)) (f0 (fun t => inR t 0 9) a6)).1)) i9 (i9.map (C1 ((fzV (f0 (fun t => inR t 0 9) a6) a6), (fzX (f0 (fun t => inR t 0 9) a6) a6))))).2), pt kM.2.2.2.2.2.1 128 [.slice a_l l.length c_l, .slice a_rules d4.length c_rules, .slice kM.2.2.2.2.2.2.1 (D0 d4 (fzF (f0 (fun t => inR t 0 9) a6) a6)).length kM.2.2.2.2.2.2.2.1, .slice kM.2.2.2.2.2.2.2.2.1 (((H6 l d4 (D0 d4 (fzF (f0 (fun t => inR t 0 9) a6) a6)) (f0 (fun t => inR t 0 9) a6)).1).length) kM.2.2.2.2.2.2.2.2.2.1, .slice kM.2.2.2.2.2.2.2.2.2.2.1 (((H6 l d4 (D0 d4 (fzF (f0 (fun t => inR t 0 9) a6) a6)) (f0 (fun t => inR t 0 9) a6)).2.1).length) kM.2.2.2.2.2.2.2.2.2.2.2.1, .slice kM.2.2.2.2.2.2.2.2.2.2.2.2.1 (((H6 l d4 (D0 d4 (fzF (f0 (fun t => inR t 0 9) a6) a6)) (f0 (fun t => inR t 0 9) a6)).2.2.1).length) kM.2.2.2.2.2.2.2.2.2.2.2.2.2.1, .int .i64 0, .slice kM.2.2.2.2.2.2.2.2.2.2.2.2.2.2.1 (((H6 l d4 (D0 d4 (fzF (f0 (fun t => inR t 0 9) a6) a6)) (f0 (fun t => inR t 0 9) a6)).2.2.2).length) kM.2.2.2.2.2.2.2.2.2.2.2.2.2.2.2], ow s6 [.slice kM.2.2.2.2.2.2.2.2.1 (((H6 l d4 (D0 d4 (fzF (f0 (fun t => inR t 0 9) a6) a6)) (f0 (fun t => inR t 0 9) a6)).1).length) kM.2.2.2.2.2.2.2.2.2.1] ((H6 l d4 (D0 d4 (fzF (f0 (fun t => inR t 0 9) a6) a6)) (f0 (fun t => inR t 0 9) a6)).1), ow eIs [.slice kM.2.2.2.2.2.2.2.2.2.2.1 (((H6 l d4 (D0 d4 (fzF (f0 (fun t => inR t 0 9) a6) a6)) (f0 (fun t => inR t 0 9) a6)).2.1).length) kM.2.2.2.2.2.2.2.2.2.2.2.1] ((H6 l d4 (D0 d4 (fzF (f0 (fun t => inR t 0 9) a6) a6)) (f0 (fun t => inR t 0 9) a6)).2.1), ow C5 [.slice kM.2.2.2.2.2.2.2.2.2.2.2.2.1 (((H6 l d4 (D0 d4 (fzF (f0 (fun t => inR t 0 9) a6) a6)) (f0 (fun t => inR t 0 9) a6)).2.2.1).length) kM.2.2.2.2.2.2.2.2.2.2.2.2.2.1] ((H6 l d4 (D0 d4 (fzF (f0 (fun t => inR t 0 9) a6) a6)) (f0 (fun t => inR t 0 9) a6)).2.2.1), ow I1 [.slice kM.2.2.2.2.2.2.2.2.2.2.2.2.2.2.1 (((H6 l d4 (D0 d4 (fzF (f0 (fun t => inR t 0 9) a6) a6)) (f0 (fun t => inR t 0 9) a6)).2.2.2).length) kM.2.2.2.2.2.2.2.2.2.2.2.2.2.2.2] ((H6 l d4 (D0 d4 (fzF (f0 (fun t => inR t 0 9) a6) a6)) (f0 (fun t => inR t 0 9) a6)).2.2.2), ow s6 [.slice kM.2.2.2.2.2.2.1 (D0 d4 (fzF (f0 (fun t => inR t 0 9) a6) a6)).length kM.2.2.2.2.2.2.2.1] (D0 d4 (fzF (f0 (fun t => inR t 0 9) a6) a6)), pt b10 78 [.slice a27_1 (fzV (f0 (fun t => inR t 0 9) a6) a6).length c27_1, .slice a27_2 (fzX (f0 (fun t => inR t 0 9) a6) a6).length c27_2], ow s6 [.slice a27_0 (fzF (f0 (fun t => inR t 0 9) a6) a6).length c27_0] (fzF (f0 (fun t => inR t 0 9) a6) a6), ow eIs [.slice a27_1 (fzV (f0 (fun t => inR t 0 9) a6) a6).length c27_1] (fzV (f0 (fun t => inR t 0 9) a6) a6), ow eIs [.slice a27_2 (fzX (f0 (fun t => inR t 0 9) a6) a6).length c27_2] (fzX (f0 (fun t => inR t 0 9) a6) a6), pt b7 28 [.slice v6 i9.length u9, .slice t8 a6.length t7]]) ?_ (fun kM _ => ?_)))))))))))
    ·refine D.region (fun j => !(Nat.beq j 21)) mixed (Dy 0 rfl (r9 (cs := [_, _]) ty_Query rfl (Has.pt (mS (mS (mS (mS m0))))) rfl) (Dyp 1 rfl (k6 rfl) (Dyp 2 rfl (k6 rfl) (Dyp 3 rfl (k6 rfl) (Dyp 4 rfl (k6 rfl) (Dy 6 rfl (r9 (cs := [_, _]) ty_Query rfl (Has.pt (mS (mS (mS (mS m0))))) rfl) (Dy 13 rfl (r9 (cs := [_, _]) ty_Query rfl (Has.pt (mS (mS (mS (mS m0))))) rfl) (Dy 14 rfl (r9 (cs := [_, _]) ty_Binding rfl (Has.pt m0) rfl) (a2x (i := 5) (j := 20) kr ?_ ?_)))))))))
     ·refine a0d 5 rfl rfl (fun _ => rfl) (N.call (a6T ⟨s, hr0, hf1⟩) rfl rfl rfl dc rfl (fun w Lp hA => ⟨hA.ro hrules, hA.ow (mS m0)⟩)) (fun k39 _ => ?_)
      obtain ⟨a39, m39, c39⟩ := k39
      refine d6 m0 fun e39 l39 => ?_
      subst e39
      refine a2x (i := 7) (j := 20) kr ?_ ?_
      ·refine a0d 7 rfl rfl (fun _ => rfl) (N.call (a0R fo) rfl rfl rfl dc rfl (fun w Lp hA => ⟨hA.ro w7, hA.ro u6⟩)) (fun k41 _ => ?_)
       obtain ⟨a41, m41, c41⟩ := k41
       refine d6 m0 fun e41 l41 => ?_
       subst e41
       refine a2x (i := 8) (j := 20) kr ?_ ?_
       ·refine a0d 8 rfl rfl (fun _ => rfl) (N.call (a1e ⟨s, hm0, hr0, hF⟩ (Nat.le_trans a3i dc)) rfl rfl rfl dc rfl (fun w Lp hA => ⟨hA.ro hl, hA.ro hrules, hA.ow (mS m0), hA.ow m0⟩)) (fun k42 _ => ?_)
        obtain ⟨nb42, ⟨a42_0, m42_0, c42_0⟩, ⟨a42_1, m42_1, c42_1⟩, ⟨a42_2, m42_2, c42_2⟩, ⟨a42_3, m42_3, c42_3⟩⟩ := k42
        try dsimp only
        refine d6 (mS m0) fun e42_0 l42_0 => ?_
        subst e42_0
        refine d6 (mS (mS m0)) fun e42_1 l42_1 => ?_
        subst e42_1
        refine d6 (mS (mS (mS m0))) fun e42_2 l42_2 => ?_
        subst e42_2
        refine d6 (mS (mS (mS (mS m0)))) fun e42_3 l42_3 => ?_
        subst e42_3
        refine Dyp 9 rfl (Y.nil rfl) (Dyp 10 rfl (i8 fo_under_3 ty_Reached dc rfl) (Dyp 11 rfl (i8 fo_Reached_0 ty_Facts dc rfl) (Dy 12 rfl (g9 ty_Facts rfl (((Has.pt m0).sub (cs' := [_, _, _, _]) 3 rfl).sub (cs' := [_]) 0 rfl) rfl) (a2x (i := 15) (j := 20) kr ?_ ?_))))
        ·refine a0d 15 rfl rfl (fun _ => rfl) (N.call (a0x (Nat.le_trans jq.2.1 dc)) rfl rfl rfl dc rfl (fun w Lp hA => ⟨hA.ro w7, hA.ro u6, hA.ow (mS (mS (mS (mS (mS (mS (mS (mS (mS m0))))))))), hA.ow (mS (mS (mS (mS (mS (mS (mS (mS (mS (mS m0))))))))))⟩)) (fun k49 _ => ?_)
         obtain ⟨a49, m49, c49⟩ := k49
         refine d6 m0 fun e49 l49 => ?_
         subst e49
         refine a2x (i := 16) (j := 20) kr ?_ ?_
         ·refine a0d 16 rfl rfl (fun _ => rfl) (N.call (V7 jq.1 jq.2.2 (fun a _ => a3b hU a) (Nat.le_trans jq.2.1 dc)) rfl rfl rfl dc rfl (fun w Lp hA => ⟨hA.ro w7, hA.ro u6, hA.ow (mS (mS m0)), hA.ow m0⟩)) (fun k50 _ => ?_)
          obtain ⟨⟨a50_0, m50_0, c50_0⟩, ⟨a50_1, m50_1, c50_1⟩⟩ := k50
          refine d6 m0 fun e50_0 l50_0 => ?_
          subst e50_0
          refine d6 (mS m0) fun e50_1 l50_1 => ?_
          subst e50_1
          refine Dyp 17 rfl (k6 rfl) (Dyp 18 rfl (Y.ext rfl rfl) (Dyp 19 rfl (Y.ext rfl rfl) (u7 20 rfl rfl kr (fun _ => rfl) (N.alloc ty_Binding dc) (fun b12 _ => (u7 21 rfl rfl kr (fun h => by cases h) (Ns [_, _] ty_Binding rfl) (fun _ _ => (Dyp 22 rfl (F1 rfl) (t6 kr (o2 (Ent.drop (K6 (Ent.drop (B1 (B1 (B1 (B1 (B1 ?_)))))))))))))))))
          refine B1 (B1 (B1 (B1 (B1 (B1 (B1 (B1 (B1 ?_))))))))
          exact S4 (b12, a50_0, c50_0, a50_1, c50_1, nb42, a39, c39, a42_0, c42_0, a42_1, c42_1, a42_2, c42_2, a42_3, c42_3) trivial ⟨rfl, trivial⟩ (.refl _)
         ·refine a0d 20 rfl rfl (fun _ => rfl) (N.alloc ty_Binding dc) (fun b12 _ => (u7 16 rfl rfl kr (fun _ => rfl) (N.call (V7 jq.1 jq.2.2 (fun a _ => a3b hU a) (Nat.le_trans jq.2.1 dc)) rfl rfl rfl dc rfl (fun w Lp hA => ⟨hA.ro w7, hA.ro u6, hA.ow (mS (mS (mS m0))), hA.ow (mS m0)⟩)) (fun k50 _ => ?_)))
          obtain ⟨⟨a50_0, m50_0, c50_0⟩, ⟨a50_1, m50_1, c50_1⟩⟩ := k50
          refine d6 m0 fun e50_0 l50_0 => ?_
          subst e50_0
          refine d6 (mS m0) fun e50_1 l50_1 => ?_
          subst e50_1
          refine Dyp 17 rfl (k6 rfl) (Dyp 18 rfl (Y.ext rfl rfl) (Dyp 19 rfl (Y.ext rfl rfl) (j7 (u7 21 rfl rfl kr (fun h => by cases h) (Ns [_, _] ty_Binding rfl) (fun _ _ => (Dyp 22 rfl (F1 rfl) (t6 kr (o2 (Ent.drop (K6 (Ent.drop (B1 (B1 (B1 (B1 (B1 ?_))))))))))))))))
          refine B1 (B1 (B1 (B1 (B1 (B1 (B1 (B1 (B1 ?_))))))))
          exact S4 (b12, a50_0, c50_0, a50_1, c50_1, nb42, a39, c39, a42_0, c42_0, a42_1, c42_1, a42_2, c42_2, a42_3, c42_3) trivial ⟨rfl, trivial⟩ (.refl _)
        ·refine a0d 20 rfl rfl (fun _ => rfl) (N.alloc ty_Binding dc) (fun b12 _ => (u7 15 rfl rfl kr (fun _ => rfl) (N.call (a0x (Nat.le_trans jq.2.1 dc)) rfl rfl rfl dc rfl (fun w Lp hA => ⟨hA.ro w7, hA.ro u6, hA.ow (mS (mS (mS (mS (mS (mS (mS (mS (mS (mS m0)))))))))), hA.ow (mS (mS (mS (mS (mS (mS (mS (mS (mS (mS (mS m0)))))))))))⟩)) (fun k49 _ => ?_)))
         obtain ⟨a49, m49, c49⟩ := k49
         refine d6 m0 fun e49 l49 => ?_
         subst e49
         refine u7 16 rfl rfl kr (fun _ => rfl) (N.call (V7 jq.1 jq.2.2 (fun a _ => a3b hU a) (Nat.le_trans jq.2.1 dc)) rfl rfl rfl dc rfl (fun w Lp hA => ⟨hA.ro w7, hA.ro u6, hA.ow (mS (mS (mS m0))), hA.ow m0⟩)) (fun k50 _ => ?_)
         obtain ⟨⟨a50_0, m50_0, c50_0⟩, ⟨a50_1, m50_1, c50_1⟩⟩ := k50
         refine d6 m0 fun e50_0 l50_0 => ?_
         subst e50_0
         refine d6 (mS m0) fun e50_1 l50_1 => ?_
         subst e50_1
         refine Dyp 17 rfl (k6 rfl) (Dyp 18 rfl (Y.ext rfl rfl) (Dyp 19 rfl (Y.ext rfl rfl) (o2 (u7 21 rfl rfl kr (fun h => by cases h) (Ns [_, _] ty_Binding rfl) (fun _ _ => (Dyp 22 rfl (F1 rfl) (t6 kr (o2 (Ent.drop (K6 (Ent.drop (B1 (B1 (B1 (B1 (B1 ?_))))))))))))))))
         refine B1 (B1 (B1 (B1 (B1 (B1 (B1 (B1 (B1 ?_))))))))
         exact S4 (b12, a50_0, c50_0, a50_1, c50_1, nb42, a39, c39, a42_0, c42_0, a42_1, c42_1, a42_2, c42_2, a42_3, c42_3) trivial ⟨rfl, trivial⟩ (.refl _)
       ·refine a0d 20 rfl rfl (fun _ => rfl) (N.alloc ty_Binding dc) (fun b12 _ => (u7 8 rfl rfl kr (fun _ => rfl) (N.call (a1e ⟨s, hm0, hr0, hF⟩ (Nat.le_trans a3i dc)) rfl rfl rfl dc rfl (fun w Lp hA => ⟨hA.ro hl, hA.ro hrules, hA.ow (mS (mS m0)), hA.ow (mS m0)⟩)) (fun k42 _ => ?_)))
        obtain ⟨nb42, ⟨a42_0, m42_0, c42_0⟩, ⟨a42_1, m42_1, c42_1⟩, ⟨a42_2, m42_2, c42_2⟩, ⟨a42_3, m42_3, c42_3⟩⟩ := k42
        try dsimp only
        refine d6 (mS m0) fun e42_0 l42_0 => ?_
        subst e42_0
        refine d6 (mS (mS m0)) fun e42_1 l42_1 => ?_
        subst e42_1
        refine d6 (mS (mS (mS m0))) fun e42_2 l42_2 => ?_
        subst e42_2
        refine d6 (mS (mS (mS (mS m0)))) fun e42_3 l42_3 => ?_
        subst e42_3
        refine Dyp 9 rfl (Y.nil rfl) (Dyp 10 rfl (i8 fo_under_3 ty_Reached dc rfl) (Dyp 11 rfl (i8 fo_Reached_0 ty_Facts dc rfl) (Dy 12 rfl (g9 ty_Facts rfl (((Has.pt m0).sub (cs' := [_, _, _, _]) 3 rfl).sub (cs' := [_]) 0 rfl) rfl) (u7 15 rfl rfl kr (fun _ => rfl) (N.call (a0x (Nat.le_trans jq.2.1 dc)) rfl rfl rfl dc rfl (fun w Lp hA => ⟨hA.ro w7, hA.ro u6, hA.ow (mS (mS (mS (mS (mS (mS (mS (mS (mS (mS m0)))))))))), hA.ow (mS (mS (mS (mS (mS (mS (mS (mS (mS (mS (mS m0)))))))))))⟩)) (fun k49 _ => ?_)))))
        obtain ⟨a49, m49, c49⟩ := k49
        refine d6 m0 fun e49 l49 => ?_
        subst e49
        refine u7 16 rfl rfl kr (fun _ => rfl) (N.call (V7 jq.1 jq.2.2 (fun a _ => a3b hU a) (Nat.le_trans jq.2.1 dc)) rfl rfl rfl dc rfl (fun w Lp hA => ⟨hA.ro w7, hA.ro u6, hA.ow (mS (mS m0)), hA.ow m0⟩)) (fun k50 _ => ?_)
        obtain ⟨⟨a50_0, m50_0, c50_0⟩, ⟨a50_1, m50_1, c50_1⟩⟩ := k50
        refine d6 m0 fun e50_0 l50_0 => ?_
        subst e50_0
        refine d6 (mS m0) fun e50_1 l50_1 => ?_
        subst e50_1
        refine Dyp 17 rfl (k6 rfl) (Dyp 18 rfl (Y.ext rfl rfl) (Dyp 19 rfl (Y.ext rfl rfl) (K6 (u7 21 rfl rfl kr (fun h => by cases h) (Ns [_, _] ty_Binding rfl) (fun _ _ => (Dyp 22 rfl (F1 rfl) (t6 kr (o2 (Ent.drop (K6 (Ent.drop (B1 (B1 (B1 (B1 (B1 ?_))))))))))))))))
        refine B1 (B1 (B1 (B1 (B1 (B1 (B1 (B1 (B1 ?_))))))))
        exact S4 (b12, a50_0, c50_0, a50_1, c50_1, nb42, a39, c39, a42_0, c42_0, a42_1, c42_1, a42_2, c42_2, a42_3, c42_3) trivial ⟨rfl, trivial⟩ (.refl _)
      ·refine a0d 20 rfl rfl (fun _ => rfl) (N.alloc ty_Binding dc) (fun b12 _ => (u7 7 rfl rfl kr (fun _ => rfl) (N.call (a0R fo) rfl rfl rfl dc rfl (fun w Lp hA => ⟨hA.ro w7, hA.ro u6⟩)) (fun k41 _ => ?_)))
       obtain ⟨a41, m41, c41⟩ := k41
       refine d6 m0 fun e41 l41 => ?_
       subst e41
       refine u7 8 rfl rfl kr (fun _ => rfl) (N.call (a1e ⟨s, hm0, hr0, hF⟩ (Nat.le_trans a3i dc)) rfl rfl rfl dc rfl (fun w Lp hA => ⟨hA.ro hl, hA.ro hrules, hA.ow (mS (mS m0)), hA.ow m0⟩)) (fun k42 _ => ?_)
       obtain ⟨nb42, ⟨a42_0, m42_0, c42_0⟩, ⟨a42_1, m42_1, c42_1⟩, ⟨a42_2, m42_2, c42_2⟩, ⟨a42_3, m42_3, c42_3⟩⟩ := k42
       try dsimp only
       refine d6 (mS m0) fun e42_0 l42_0 => ?_
       subst e42_0
       refine d6 (mS (mS m0)) fun e42_1 l42_1 => ?_
       subst e42_1
       refine d6 (mS (mS (mS m0))) fun e42_2 l42_2 => ?_
       subst e42_2
       refine d6 (mS (mS (mS (mS m0)))) fun e42_3 l42_3 => ?_
       subst e42_3
       refine Dyp 9 rfl (Y.nil rfl) (Dyp 10 rfl (i8 fo_under_3 ty_Reached dc rfl) (Dyp 11 rfl (i8 fo_Reached_0 ty_Facts dc rfl) (Dy 12 rfl (g9 ty_Facts rfl (((Has.pt m0).sub (cs' := [_, _, _, _]) 3 rfl).sub (cs' := [_]) 0 rfl) rfl) (u7 15 rfl rfl kr (fun _ => rfl) (N.call (a0x (Nat.le_trans jq.2.1 dc)) rfl rfl rfl dc rfl (fun w Lp hA => ⟨hA.ro w7, hA.ro u6, hA.ow (mS (mS (mS (mS (mS (mS (mS (mS (mS (mS m0)))))))))), hA.ow (mS (mS (mS (mS (mS (mS (mS (mS (mS (mS (mS m0)))))))))))⟩)) (fun k49 _ => ?_)))))
       obtain ⟨a49, m49, c49⟩ := k49
       refine d6 m0 fun e49 l49 => ?_
       subst e49
       refine u7 16 rfl rfl kr (fun _ => rfl) (N.call (V7 jq.1 jq.2.2 (fun a _ => a3b hU a) (Nat.le_trans jq.2.1 dc)) rfl rfl rfl dc rfl (fun w Lp hA => ⟨hA.ro w7, hA.ro u6, hA.ow (mS (mS m0)), hA.ow m0⟩)) (fun k50 _ => ?_)
       obtain ⟨⟨a50_0, m50_0, c50_0⟩, ⟨a50_1, m50_1, c50_1⟩⟩ := k50
       refine d6 m0 fun e50_0 l50_0 => ?_
       subst e50_0
       refine d6 (mS m0) fun e50_1 l50_1 => ?_
       subst e50_1
       refine Dyp 17 rfl (k6 rfl) (Dyp 18 rfl (Y.ext rfl rfl) (Dyp 19 rfl (Y.ext rfl rfl) (b3H (u7 21 rfl rfl kr (fun h => by cases h) (Ns [_, _] ty_Binding rfl) (fun _ _ => (Dyp 22 rfl (F1 rfl) (t6 kr (o2 (Ent.drop (K6 (Ent.drop (B1 (B1 (B1 (B1 (B1 ?_))))))))))))))))
       refine B1 (B1 (B1 (B1 (B1 (B1 (B1 (B1 (B1 ?_))))))))
       exact S4 (b12, a50_0, c50_0, a50_1, c50_1, nb42, a39, c39, a42_0, c42_0, a42_1, c42_1, a42_2, c42_2, a42_3, c42_3) trivial ⟨rfl, trivial⟩ (.refl _)
     ·refine a0d 20 rfl rfl (fun _ => rfl) (N.alloc ty_Binding dc) (fun b12 _ => (u7 5 rfl rfl kr (fun _ => rfl) (N.call (a6T ⟨s, hr0, hf1⟩) rfl rfl rfl dc rfl (fun w Lp hA => ⟨hA.ro hrules, hA.ow (mS (mS m0))⟩)) (fun k39 _ => ?_)))
      obtain ⟨a39, m39, c39⟩ := k39
      refine d6 m0 fun e39 l39 => ?_
      subst e39
      refine u7 7 rfl rfl kr (fun _ => rfl) (N.call (a0R fo) rfl rfl rfl dc rfl (fun w Lp hA => ⟨hA.ro w7, hA.ro u6⟩)) (fun k41 _ => ?_)
      obtain ⟨a41, m41, c41⟩ := k41
      refine d6 m0 fun e41 l41 => ?_
      subst e41
      refine u7 8 rfl rfl kr (fun _ => rfl) (N.call (a1e ⟨s, hm0, hr0, hF⟩ (Nat.le_trans a3i dc)) rfl rfl rfl dc rfl (fun w Lp hA => ⟨hA.ro hl, hA.ro hrules, hA.ow (mS m0), hA.ow m0⟩)) (fun k42 _ => ?_)
      obtain ⟨nb42, ⟨a42_0, m42_0, c42_0⟩, ⟨a42_1, m42_1, c42_1⟩, ⟨a42_2, m42_2, c42_2⟩, ⟨a42_3, m42_3, c42_3⟩⟩ := k42
      try dsimp only
      refine d6 (mS m0) fun e42_0 l42_0 => ?_
      subst e42_0
      refine d6 (mS (mS m0)) fun e42_1 l42_1 => ?_
      subst e42_1
      refine d6 (mS (mS (mS m0))) fun e42_2 l42_2 => ?_
      subst e42_2
      refine d6 (mS (mS (mS (mS m0)))) fun e42_3 l42_3 => ?_
      subst e42_3
      refine Dyp 9 rfl (Y.nil rfl) (Dyp 10 rfl (i8 fo_under_3 ty_Reached dc rfl) (Dyp 11 rfl (i8 fo_Reached_0 ty_Facts dc rfl) (Dy 12 rfl (g9 ty_Facts rfl (((Has.pt m0).sub (cs' := [_, _, _, _]) 3 rfl).sub (cs' := [_]) 0 rfl) rfl) (u7 15 rfl rfl kr (fun _ => rfl) (N.call (a0x (Nat.le_trans jq.2.1 dc)) rfl rfl rfl dc rfl (fun w Lp hA => ⟨hA.ro w7, hA.ro u6, hA.ow (mS (mS (mS (mS (mS (mS (mS (mS (mS (mS m0)))))))))), hA.ow (mS (mS (mS (mS (mS (mS (mS (mS (mS (mS (mS m0)))))))))))⟩)) (fun k49 _ => ?_)))))
      obtain ⟨a49, m49, c49⟩ := k49
      refine d6 m0 fun e49 l49 => ?_
      subst e49
      refine u7 16 rfl rfl kr (fun _ => rfl) (N.call (V7 jq.1 jq.2.2 (fun a _ => a3b hU a) (Nat.le_trans jq.2.1 dc)) rfl rfl rfl dc rfl (fun w Lp hA => ⟨hA.ro w7, hA.ro u6, hA.ow (mS (mS m0)), hA.ow m0⟩)) (fun k50 _ => ?_)
      obtain ⟨⟨a50_0, m50_0, c50_0⟩, ⟨a50_1, m50_1, c50_1⟩⟩ := k50
      refine d6 m0 fun e50_0 l50_0 => ?_
      subst e50_0
      refine d6 (mS m0) fun e50_1 l50_1 => ?_
      subst e50_1
      refine Dyp 17 rfl (k6 rfl) (Dyp 18 rfl (Y.ext rfl rfl) (Dyp 19 rfl (Y.ext rfl rfl) (J4 (u7 21 rfl rfl kr (fun h => by cases h) (Ns [_, _] ty_Binding rfl) (fun _ _ => (Dyp 22 rfl (F1 rfl) (t6 kr (o2 (Ent.drop (K6 (Ent.drop (B1 (B1 (B1 (B1 (B1 ?_))))))))))))))))
      refine B1 (B1 (B1 (B1 (B1 (B1 (B1 (B1 (B1 ?_))))))))
      exact S4 (b12, a50_0, c50_0, a50_1, c50_1, nb42, a39, c39, a42_0, c42_0, a42_1, c42_1, a42_2, c42_2, a42_3, c42_3) trivial ⟨rfl, trivial⟩ (.refl _)
    ·obtain ⟨b12, a50_0, c50_0, a50_1, c50_1, nb42, a39, c39, a42_0, c42_0, a42_1, c42_1, a42_2, c42_2, a42_3, c42_3⟩ := kM
     try dsimp only
     refine Et (Ew Z2 (Em rfl (Ei rfl ?_)))
     exact Eu (E.ret (Fb rfl rfl (by exact b1k (q := (i9, a6)) q17 q22 q11)))
   ·refine Eu (Eq_ (Ew Z2 (Em rfl (Ey rfl ((Y.not (b := false) rfl).yd) (Eu (o0 rfl (Ew Z1 (Ei rfl ?_))))))))
    exact Eu (E.ret (s9 (Fb rfl rfl (by exact b1F (q := (i9, a6)) q11))))
  ·refine Ey rfl ((Y.not (b := false) rfl).yd) (Ey rfl ((z7 rfl rfl).yd) (Eu (o0 rfl (Ew Z1 (Ei rfl ?_)))))
   exact Eu (E.ret (s9 (Fb rfl rfl (by exact b1w q22))))
 ·refine Ey rfl ((Y.not (b := false) rfl).yd) (Em rfl (Es rfl (Es rfl (Es rfl (Es rfl (Ey rfl ((x6 rfl rfl).yd) (Eu (o0 rfl (Ew Z1 (Ei rfl ?_))))))))))
  exact Eu (E.ret (s9 (Fb rfl rfl (by exact b0X q17))))
set_option maxRecDepth 100000 in
theorem V2 (hz : K2 (fun x => x.2.length) a6 ≤ 1048576) : Tr Tryz.prog 32 [.slice a_s m_s c_s, .slice a_l m_l c_l, .slice a_rules m_rules c_rules, .agg #[.slice v6 y9 u9, .slice t8 w9 t7]] (fun w L => Ro w L eIs [.slice a_s m_s c_s] s ∧ Ro w L I4 [.slice a_l m_l c_l] l ∧ Ro w L G9 [.slice a_rules m_rules c_rules] d4 ∧ Ro w L eIs [.slice v6 y9 u9] i9 ∧ Ro w L H9 [.slice t8 w9 t7] a6) [] (κ := Unit) (fun k => True) (fun k => .bool (X9 s l d4 (i9, a6))) (fun k => []) := by
 refine Tr.intro Tryz.func32 rfl (n := 68) rfl (by decide +kernel) bl (fr := [(0, .slice a_s m_s c_s), (1, .slice a_l m_l c_l), (2, .slice a_rules m_rules c_rules), (3, .agg #[.slice v6 y9 u9, .slice t8 w9 t7])]) rfl fun w L hR => ?_
 obtain ⟨hs, hl, hrules, w7, u6⟩ := hR
 obtain ⟨rfl, ls⟩ := hs.slen
 obtain ⟨rfl, ll⟩ := hl.slen
 obtain ⟨rfl, lrules⟩ := hrules.slen
 obtain ⟨rfl, P6⟩ := w7.slen
 obtain ⟨rfl, M4⟩ := u6.slen
 refine Ew Z2 (Est rfl (N.box (cs := [_, _]) rfl dc rfl) (fun b7 _ => (Ei rfl (Eu (Eq_ (Ew Z11 (Em rfl (Em rfl (Em rfl (Est rfl (o4 a3H rfl rfl rfl dc (fun w Lp hA => ⟨hA.ro hs, hA.ro hl, hA.ro hrules⟩)) (fun _ _ => (Ent.b (fun q20 => ?_) (fun q20 => ?_)))))))))))))
 ·refine Ey rfl ((Y.not (b := true) rfl).yd) (Em rfl (Em rfl (Ey rfl (r9 (cs := [_, _]) ty_Query rfl (Has.pt m0) rfl) (Est rfl (o4 (b0x fo) rfl rfl rfl dc (fun w Lp hA => ⟨hA.ro hs, hA.ro w7, hA.ro u6⟩)) (fun _ _ => (Ent.b (fun q25 => ?_) (fun q25 => ?_)))))))
  ·refine Ey rfl ((Y.not (b := true) rfl).yd) (Ey rfl ((z7 rfl rfl).yd) (Eu (n8 rfl (f9 (Et (Ew Z10 (Ey rfl (r9 (cs := [_, _]) ty_Query rfl (Has.pt m0) rfl) (Est rfl (N.call (a7o fo) rfl rfl rfl dc rfl (fun w Lp hA => ⟨hA.ro w7, hA.ro u6⟩)) (fun k30 _ => ?_)))))))))
   obtain ⟨⟨a30_0, m30_0, c30_0⟩, ⟨a30_1, m30_1, c30_1⟩, ⟨a30_2, m30_2, c30_2⟩⟩ := k30
   refine d6 m0 fun e30_0 l30_0 => ?_
   subst e30_0
   refine d6 (mS m0) fun e30_1 l30_1 => ?_
   subst e30_1
   refine d6 (mS (mS m0)) fun e30_2 l30_2 => ?_
   subst e30_2
   refine Em rfl (Ey rfl ((Y.ext rfl rfl).yd) (Ey rfl ((Y.ext rfl rfl).yd) (Ey rfl ((Y.ext rfl rfl).yd) (Est rfl (N.alloc ty_Binding dc) (fun b10 _ => (Ei rfl (Est rfl (Ns [_, _] ty_Binding rfl) (fun _ _ => (Ei rfl (Ent.b (fun q11 => ?_) (fun q11 => ?_)))))))))))
   ·obtain ⟨hm0, hr0⟩ : C0 s l = true ∧ C4 s d4 = true := by simpa using q20
    have jq := a5w (s := s) (q := (i9, a6)) q25
    have hf1 : G4 s (fzF (f0 (fun t => inR t 0 9) a6) a6) = true := b5h (q := (i9, a6)) q25 q11
    have hF := a5e hr0 hf1
    have hU := b0R (m6 := (f0 (fun t => inR t 0 9) a6)) hm0 hr0 hF
    refine Eu (Eq_ (Ew Z2 (Em rfl (Ey rfl ((Y.not (b := true) rfl).yd) (Eu (n8 rfl (f9 (Et (Eq_ (D.region (fun j => true) mixed (Dyp 0 rfl (k6 rfl) (Dyp 1 rfl (k6 rfl) (Dyp 2 rfl (k6 rfl) (Dyp 3 rfl (k6 rfl) (Dy 5 rfl (r9 (cs := [_, _]) ty_Query rfl (Has.pt (mS (mS (mS (mS m0))))) rfl) (u7 4 rfl rfl kr (fun _ => rfl) (N.call (a9O ⟨s, hr0, hf1⟩) rfl rfl rfl dc rfl (fun w Lp hA => ⟨hA.ro hrules, hA.ow (mS m0)⟩)) (fun k40 _ => ?_)))))))))))))))))
    obtain ⟨a40, m40, c40⟩ := k40
    refine d6 m0 fun e40 l40 => ?_
    subst e40
    refine u7 6 rfl rfl kr (fun _ => rfl) (N.call (a3W fo) rfl rfl rfl dc rfl (fun w Lp hA => ⟨hA.ro w7, hA.ro u6⟩)) (fun k42 _ => ?_)
    obtain ⟨a42, m42, c42⟩ := k42
    refine d6 m0 fun e42 l42 => ?_
    subst e42
    refine u7 7 rfl rfl kr (fun _ => rfl) (N.call (a9L ⟨s, hm0, hr0, hF⟩ (Nat.le_trans a3i dc)) rfl rfl rfl dc rfl (fun w Lp hA => ⟨hA.ro hl, hA.ro hrules, hA.ow (mS m0), hA.ow m0⟩)) (fun k43 _ => ?_)
    obtain ⟨a43, m43, c43⟩ := k43
    refine d6 m0 fun e43 l43 => ?_
    subst e43
    refine H7 (A := [_]) rfl fun wb1 Lb1 hB1 hA1 => ?_
    have hs := hA1.ro hs
    have hl := hA1.ro hl
    have hrules := hA1.ro hrules
    have w7 := hA1.ro w7
    have u6 := hA1.ro u6
    have rb1 : Ro wb1 Lb1 I1 [.slice a43 ((H6 l d4 (D0 d4 (fzF (f0 (fun t => inR t 0 9) a6) a6)) (f0 (fun t => inR t 0 9) a6)).2.2.2).length c43] ((H6 l d4 (D0 d4 (fzF (f0 (fun t => inR t 0 9) a6) a6)) (f0 (fun t => inR t 0 9) a6)).2.2.2) := hA1.ow m0
    refine Dyp 8 rfl (F1 rfl) (t6 kr (Et (Ew Z2 (Est rfl (Nb [] [] us_Facts ty_Fact rfl rfl) (fun b44 _ => (Ent.drop (Ei rfl (Eu (Eq_ (Ew Z1 (Ei rfl (Eu (E.block (s7 (A := []) (Own.nil (E := F6) (e := tFact) (a := (some ⟨b44, 0, none⟩))) rfl (f6 (congrArg (ow s6 [_]) (show [] = (((H6 l d4 (D0 d4 (fzF (f0 (fun t => inR t 0 9) a6) a6)) (f0 (fun t => inR t 0 9) a6)).2.2.2.take 0).map fun x => x.2.2).foldl w6 [] from by rfl)) (E.loop (κ := Nat × Option Addr × Nat × Nat) (fun g => g.1 ≤ (H6 l d4 (D0 d4 (fzF (f0 (fun t => inR t 0 9) a6) a6)) (f0 (fun t => inR t 0 9) a6)).2.2.2.length ∧ True) (fun g => [(7, .pointer (some ⟨b7, 0, none⟩)), (10, .pointer (some ⟨b10, 0, none⟩)), (12, .slice a43 ((H6 l d4 (D0 d4 (fzF (f0 (fun t => inR t 0 9) a6) a6)) (f0 (fun t => inR t 0 9) a6)).2.2.2).length c43), (13, .slice g.2.1 g.2.2.1 g.2.2.2), (14, .int .i64 (↑g.1 : Int))]) (fun g => [ow s6 [.slice g.2.1 g.2.2.1 g.2.2.2] ((((H6 l d4 (D0 d4 (fzF (f0 (fun t => inR t 0 9) a6) a6)) (f0 (fun t => inR t 0 9) a6)).2.2.2.take g.1).map fun x => x.2.2).foldl w6 []), ow eIs [.slice a42 (f0 (fun t => inR t 0 9) a6).length c42] (f0 (fun t => inR t 0 9) a6), ow s6 [.slice a40 (D0 d4 (fzF (f0 (fun t => inR t 0 9) a6) a6)).length c40] (D0 d4 (fzF (f0 (fun t => inR t 0 9) a6) a6)), pt b10 78 [.slice a30_1 (fzV (f0 (fun t => inR t 0 9) a6) a6).length c30_1, .slice a30_2 (fzX (f0 (fun t => inR t 0 9) a6) a6).length c30_2], ow s6 [.slice a30_0 (fzF (f0 (fun t => inR t 0 9) a6) a6).length c30_0] (fzF (f0 (fun t => inR t 0 9) a6) a6), ow eIs [.slice a30_1 (fzV (f0 (fun t => inR t 0 9) a6) a6).length c30_1] (fzV (f0 (fun t => inR t 0 9) a6) a6), ow eIs [.slice a30_2 (fzX (f0 (fun t => inR t 0 9) a6) a6).length c30_2] (fzX (f0 (fun t => inR t 0 9) a6) a6), pt b7 28 [.slice v6 i9.length u9, .slice t8 a6.length t7]]) (fun g => (H6 l d4 (D0 d4 (fzF (f0 (fun t => inR t 0 9) a6) a6)) (f0 (fun t => inR t 0 9) a6)).2.2.2.length - g.1) (0, (some ⟨b44, 0, none⟩), 0, 0) ⟨Nat.zero_le _, by simp⟩ ⟨rfl, rfl, rfl, rfl, rfl, trivial⟩ (.refl _) (fun g pg => ?_)))))))))))))))))
    obtain ⟨g, aA0_0, mA0_0, cA0_0⟩ := g
    try dsimp only at pg
    try dsimp only
    obtain ⟨pk, pa⟩ := pg
    have jf := a4R (m := ((H6 l d4 (D0 d4 (fzF (f0 (fun t => inR t 0 9) a6) a6)) (f0 (fun t => inR t 0 9) a6)).2.2.2.take g).map fun x => x.2.2) (x := [])
    have jt := List.length_take_le g (H6 l d4 (D0 d4 (fzF (f0 (fun t => inR t 0 9) a6) a6)) (f0 (fun t => inR t 0 9) a6)).2.2.2
    have jm : (((H6 l d4 (D0 d4 (fzF (f0 (fun t => inR t 0 9) a6) a6)) (f0 (fun t => inR t 0 9) a6)).2.2.2.take g).map fun x => x.2.2).length = ((H6 l d4 (D0 d4 (fzF (f0 (fun t => inR t 0 9) a6) a6)) (f0 (fun t => inR t 0 9) a6)).2.2.2.take g).length := List.length_map ..
    have j0 : ([] : List (Int × List Int)).length = 0 := rfl
    have jul : (H6 l d4 (D0 d4 (fzF (f0 (fun t => inR t 0 9) a6) a6)) (f0 (fun t => inR t 0 9) a6)).2.2.2.length ≤ 5324 := hU.n.len.1
    refine d6 m0 fun eaA0_0 laA0_0 => ?_
    subst eaA0_0
    refine Eq_ (Ew Z4 (Em rfl (Em rfl (Ey rfl ((Y.len us_Lines rfl).yd) (Ey rfl ((Y.lss rfl rfl).yd) (n9 (fun q48 => ?_) (fun q48 => ?_)))))))
    ·refine Eu (o0 rfl (f9 (Et (Eq_ (E.block (Ez Z8 (Em rfl (Em rfl (Em rfl ?_)))))))))
     obtain ⟨eb54, eo54, ec54, ea54, er54, el54, eh54⟩ := rb1.elem g om
     obtain ⟨xa54_0, xc54_0, xa54_1, xc54_1, rfl, ei54_0, ei54_1, xh54_0, ei54_3, xh54_1⟩ := b8h er54
     have := xh54_0.slen.2
     have := xh54_1.slen.2
     refine Ey rfl ((w3 us_Lines ty_Line rfl ea54 rfl g rfl om).yd) (Ey rfl ((i8 fo_Line_2 ty_Fact dc rfl).yd) (Ey rfl (r9 (cs := [_, _]) ty_Fact rfl ((eh54 _).sub (cs' := [_, _]) 3 rfl) rfl) (Est rfl (N.call (a0v om (b7Y hU) (Nat.le_trans (M7 (hU.n.ok ((H6 l d4 (D0 d4 (fzF (f0 (fun t => inR t 0 9) a6) a6)) (f0 (fun t => inR t 0 9) a6)).2.2.2[g]) (List.getElem_mem (show g < (H6 l d4 (D0 d4 (fzF (f0 (fun t => inR t 0 9) a6) a6)) (f0 (fun t => inR t 0 9) a6)).2.2.2.length by omega)))) dc)) rfl rfl rfl dc rfl (fun w Lp hA => ⟨hA.ow m0, ei54_3, hA.ro xh54_1⟩)) (fun k57 _ => ?_))))
     obtain ⟨a57, m57, c57⟩ := k57
     refine d6 m0 fun e57 l57 => ?_
     subst e57
     refine Ei rfl (En (s8 (Et (Ez Z3 (Em rfl (Ey rfl ((Y.add rfl rfl om om).yd) (Ei rfl (Eu (d8 (Ent.drop (f6 (congrArg (ow s6 [_]) (show w6 ((((H6 l d4 (D0 d4 (fzF (f0 (fun t => inR t 0 9) a6) a6)) (f0 (fun t => inR t 0 9) a6)).2.2.2.take g).map fun x => x.2.2).foldl w6 []) ((((H6 l d4 (D0 d4 (fzF (f0 (fun t => inR t 0 9) a6) a6)) (f0 (fun t => inR t 0 9) a6)).2.2.2)[g].2.2.1), (((H6 l d4 (D0 d4 (fzF (f0 (fun t => inR t 0 9) a6) a6)) (f0 (fun t => inR t 0 9) a6)).2.2.2)[g].2.2.2)) = (((H6 l d4 (D0 d4 (fzF (f0 (fun t => inR t 0 9) a6) a6)) (f0 (fun t => inR t 0 9) a6)).2.2.2.take (g + 1)).map fun x => x.2.2).foldl w6 [] from by exact b6E om)) (D3 (D3 (D3 (D3 (D3 (D3 (D3 (D3 ?_)))))))))))))))))))
     exact Ea (g + 1, a57, (w6 ((((H6 l d4 (D0 d4 (fzF (f0 (fun t => inR t 0 9) a6) a6)) (f0 (fun t => inR t 0 9) a6)).2.2.2.take g).map fun x => x.2.2).foldl w6 []) ((((H6 l d4 (D0 d4 (fzF (f0 (fun t => inR t 0 9) a6) a6)) (f0 (fun t => inR t 0 9) a6)).2.2.2)[g].2.2.1), (((H6 l d4 (D0 d4 (fzF (f0 (fun t => inR t 0 9) a6) a6)) (f0 (fun t => inR t 0 9) a6)).2.2.2)[g].2.2.2))).length, c57) ⟨oz, trivial⟩
    ·refine Eu (n8 rfl (E.exit (l3 (l3 (y4 (Et (Eq_ (a3V (κ := Nat × Option Addr × Nat × Option Addr × Nat) (fun _ => True) (fun kM => [(16, .bool ((z8 a6 ((((H6 l d4 (D0 d4 (fzF (f0 (fun t => inR t 0 9) a6) a6)) (f0 (fun t => inR t 0 9) a6)).2.2.2.take g).map fun x => x.2.2).foldl w6 [])).any (Q5 i9 (i9.map (C1 ((fzV (f0 (fun t => inR t 0 9) a6) a6), (fzX (f0 (fun t => inR t 0 9) a6) a6)))))))]) (fun kM => [pt kM.1 78 [.slice kM.2.1 ((L9 (z8 a6 ((((H6 l d4 (D0 d4 (fzF (f0 (fun t => inR t 0 9) a6) a6)) (f0 (fun t => inR t 0 9) a6)).2.2.2.take g).map fun x => x.2.2).foldl w6 [])) i9 (i9.map (C1 ((fzV (f0 (fun t => inR t 0 9) a6) a6), (fzX (f0 (fun t => inR t 0 9) a6) a6))))).1).length kM.2.2.1, .slice kM.2.2.2.1 ((L9 (z8 a6 ((((H6 l d4 (D0 d4 (fzF (f0 (fun t => inR t 0 9) a6) a6)) (f0 (fun t => inR t 0 9) a6)).2.2.2.take g).map fun x => x.2.2).foldl w6 [])) i9 (i9.map (C1 ((fzV (f0 (fun t => inR t 0 9) a6) a6), (fzX (f0 (fun t => inR t 0 9) a6) a6))))).2).length kM.2.2.2.2], ow eIs [.slice kM.2.1 ((L9 (z8 a6 ((((H6 l d4 (D0 d4 (fzF (f0 (fun t => inR t 0 9) a6) a6)) (f0 (fun t => inR t 0 9) a6)).2.2.2.take g).map fun x => x.2.2).foldl w6 [])) i9 (i9.map (C1 ((fzV (f0 (fun t => inR t 0 9) a6) a6), (fzX (f0 (fun t => inR t 0 9) a6) a6))))).1).length kM.2.2.1] ((L9 (z8 a6 ((((H6 l d4 (D0 d4 (fzF (f0 (fun t => inR t 0 9) a6) a6)) (f0 (fun t => inR t 0 9) a6)).2.2.2.take g).map fun x => x.2.2).foldl w6 [])) i9 (i9.map (C1 ((fzV (f0 (fun t => inR t 0 9) a6) a6), (fzX (f0 (fun t => inR t 0 9) a6) a6))))).1), ow eIs [.slice kM.2.2.2.1 ((L9 (z8 a6 ((((H6 l d4 (D0 d4 (fzF (f0 (fun t => inR t 0 9) a6) a6)) (f0 (fun t => inR t 0 9) a6)).2.2.2.take g).map fun x => x.2.2).foldl w6 [])) i9 (i9.map (C1 ((fzV (f0 (fun t => inR t 0 9) a6) a6), (fzX (f0 (fun t => inR t 0 9) a6) a6))))).2).length kM.2.2.2.2] ((L9 (z8 a6 ((((H6 l d4 (D0 d4 (fzF (f0 (fun t => inR t 0 9) a6) a6)) (f0 (fun t => inR t 0 9) a6)).2.2.2.take g).map fun x => x.2.2).foldl w6 [])) i9 (i9.map (C1 ((fzV (f0 (fun t => inR t 0 9) a6) a6), (fzX (f0 (fun t => inR t 0 9) a6) a6))))).2), ow s6 [.slice aA0_0 ((((H6 l d4 (D0 d4 (fzF (f0 (fun t => inR t 0 9) a6) a6)) (f0 (fun t => inR t 0 9) a6)).2.2.2.take g).map fun x => x.2.2).foldl w6 []).length cA0_0] ((((H6 l d4 (D0 d4 (fzF (f0 (fun t => inR t 0 9) a6) a6)) (f0 (fun t => inR t 0 9) a6)).2.2.2.take g).map fun x => x.2.2).foldl w6 []), ow eIs [.slice a42 (f0 (fun t => inR t 0 9) a6).length c42] (f0 (fun t => inR t 0 9) a6), ow s6 [.slice a40 (D0 d4 (fzF (f0 (fun t => inR t 0 9) a6) a6)).length c40] (D0 d4 (fzF (f0 (fun t => inR t 0 9) a6) a6)), pt b10 78 [.slice a30_1 (fzV (f0 (fun t => inR t 0 9) a6) a6).length c30_1, .slice a30_2 (fzX (f0 (fun t => inR t 0 9) a6) a6).length c30_2], ow s6 [.slice a30_0 (fzF (f0 (fun t => inR t 0 9) a6) a6).length c30_0] (fzF (f0 (fun t => inR t 0 9) a6) a6), ow eIs [.slice a30_1 (fzV (f0 (fun t => inR t 0 9) a6) a6).length c30_1] (fzV (f0 (fun t => inR t 0 9) a6) a6), ow eIs [.slice a30_2 (fzX (f0 (fun t => inR t 0 9) a6) a6).length c30_2] (fzX (f0 (fun t => inR t 0 9) a6) a6), pt b7 28 [.slice v6 i9.length u9, .slice t8 a6.length t7]]) ?_ (fun kM _ => ?_)))))))))
     ·refine D.region (fun j => !(Nat.beq j 10)) mixed (Dy 0 rfl (r9 (cs := [_, _]) ty_Query rfl (Has.pt (mS (mS (mS (mS (mS (mS (mS m0)))))))) rfl) (Dyp 1 rfl (k6 rfl) (Dy 2 rfl (r9 (cs := [_, _]) ty_Query rfl (Has.pt (mS (mS (mS (mS (mS (mS (mS m0)))))))) rfl) (Dy 3 rfl (r9 (cs := [_, _]) ty_Binding rfl (Has.pt (mS (mS (mS m0)))) rfl) (a2x (i := 4) (j := 9) kr ?_ ?_)))))
      ·refine a0d 4 rfl rfl (fun _ => rfl) (N.call (a3N (Nat.le_trans jq.2.1 dc)) rfl rfl rfl dc rfl (fun w Lp hA => ⟨hA.ro w7, hA.ro u6, hA.ow (mS (mS (mS (mS (mS m0))))), hA.ow (mS (mS (mS (mS (mS (mS m0))))))⟩)) (fun k63 _ => ?_)
       obtain ⟨a63, m63, c63⟩ := k63
       refine d6 m0 fun e63 l63 => ?_
       subst e63
       refine a2x (i := 5) (j := 9) kr ?_ ?_
       ·refine a0d 5 rfl rfl (fun _ => rfl) (N.call (a1Z jq.1 jq.2.2 (fun a _ => by rw [a4n hU om]; exact a3b hU a) (Nat.le_trans jq.2.1 dc)) rfl rfl rfl dc rfl (fun w Lp hA => ⟨hA.ro w7, hA.ro u6, hA.ow (mS m0), hA.ow m0⟩)) (fun k64 _ => ?_)
        obtain ⟨⟨a64_0, m64_0, c64_0⟩, ⟨a64_1, m64_1, c64_1⟩⟩ := k64
        refine d6 m0 fun e64_0 l64_0 => ?_
        subst e64_0
        refine d6 (mS m0) fun e64_1 l64_1 => ?_
        subst e64_1
        refine Dyp 6 rfl (k6 rfl) (Dyp 7 rfl (Y.ext rfl rfl) (Dyp 8 rfl (Y.ext rfl rfl) (u7 9 rfl rfl kr (fun _ => rfl) (N.alloc ty_Binding dc) (fun b15 _ => (u7 10 rfl rfl kr (fun h => by cases h) (Ns [_, _] ty_Binding rfl) (fun _ _ => (Dyp 11 rfl (F1 rfl) (t6 kr (o2 (Ent.drop (J4 (J4 (J4 (J4 (J4 (J4 (J4 ?_)))))))))))))))))
        refine J4 (J4 (J4 (J4 ?_)))
        exact S4 (b15, a64_0, c64_0, a64_1, c64_1) trivial ⟨rfl, trivial⟩ (.refl _)
       ·refine a0d 9 rfl rfl (fun _ => rfl) (N.alloc ty_Binding dc) (fun b15 _ => (u7 5 rfl rfl kr (fun _ => rfl) (N.call (a1Z jq.1 jq.2.2 (fun a _ => by rw [a4n hU om]; exact a3b hU a) (Nat.le_trans jq.2.1 dc)) rfl rfl rfl dc rfl (fun w Lp hA => ⟨hA.ro w7, hA.ro u6, hA.ow (mS (mS m0)), hA.ow (mS m0)⟩)) (fun k64 _ => ?_)))
        obtain ⟨⟨a64_0, m64_0, c64_0⟩, ⟨a64_1, m64_1, c64_1⟩⟩ := k64
        refine d6 m0 fun e64_0 l64_0 => ?_
        subst e64_0
        refine d6 (mS m0) fun e64_1 l64_1 => ?_
        subst e64_1
        refine Dyp 6 rfl (k6 rfl) (Dyp 7 rfl (Y.ext rfl rfl) (Dyp 8 rfl (Y.ext rfl rfl) (j7 (u7 10 rfl rfl kr (fun h => by cases h) (Ns [_, _] ty_Binding rfl) (fun _ _ => (Dyp 11 rfl (F1 rfl) (t6 kr (o2 (Ent.drop (J4 (J4 (J4 (J4 (J4 (J4 (J4 ?_))))))))))))))))
        refine J4 (J4 (J4 (J4 ?_)))
        exact S4 (b15, a64_0, c64_0, a64_1, c64_1) trivial ⟨rfl, trivial⟩ (.refl _)
      ·refine a0d 9 rfl rfl (fun _ => rfl) (N.alloc ty_Binding dc) (fun b15 _ => (u7 4 rfl rfl kr (fun _ => rfl) (N.call (a3N (Nat.le_trans jq.2.1 dc)) rfl rfl rfl dc rfl (fun w Lp hA => ⟨hA.ro w7, hA.ro u6, hA.ow (mS (mS (mS (mS (mS (mS m0)))))), hA.ow (mS (mS (mS (mS (mS (mS (mS m0)))))))⟩)) (fun k63 _ => ?_)))
       obtain ⟨a63, m63, c63⟩ := k63
       refine d6 m0 fun e63 l63 => ?_
       subst e63
       refine u7 5 rfl rfl kr (fun _ => rfl) (N.call (a1Z jq.1 jq.2.2 (fun a _ => by rw [a4n hU om]; exact a3b hU a) (Nat.le_trans jq.2.1 dc)) rfl rfl rfl dc rfl (fun w Lp hA => ⟨hA.ro w7, hA.ro u6, hA.ow (mS (mS m0)), hA.ow m0⟩)) (fun k64 _ => ?_)
       obtain ⟨⟨a64_0, m64_0, c64_0⟩, ⟨a64_1, m64_1, c64_1⟩⟩ := k64
       refine d6 m0 fun e64_0 l64_0 => ?_
       subst e64_0
       refine d6 (mS m0) fun e64_1 l64_1 => ?_
       subst e64_1
       refine Dyp 6 rfl (k6 rfl) (Dyp 7 rfl (Y.ext rfl rfl) (Dyp 8 rfl (Y.ext rfl rfl) (o2 (u7 10 rfl rfl kr (fun h => by cases h) (Ns [_, _] ty_Binding rfl) (fun _ _ => (Dyp 11 rfl (F1 rfl) (t6 kr (o2 (Ent.drop (J4 (J4 (J4 (J4 (J4 (J4 (J4 ?_))))))))))))))))
       refine J4 (J4 (J4 (J4 ?_)))
       exact S4 (b15, a64_0, c64_0, a64_1, c64_1) trivial ⟨rfl, trivial⟩ (.refl _)
     ·obtain ⟨b15, a64_0, c64_0, a64_1, c64_1⟩ := kM
      try dsimp only
      refine Et (Ew Z2 (Em rfl (Ei rfl ?_)))
      exact Eu (E.ret (F.r1 hB1 rfl rfl () trivial (congrArg Value.bool (by rw [a4n hU om]; exact b1k (q := (i9, a6)) q20 q25 q11)) (J := _) (.refl _) (.inl rfl)))
   ·refine Eu (Eq_ (Ew Z2 (Em rfl (Ey rfl ((Y.not (b := false) rfl).yd) (Eu (o0 rfl (Ew Z1 (Ei rfl ?_))))))))
    exact Eu (E.ret (s9 (Fb rfl rfl (by exact b1F (q := (i9, a6)) q11))))
  ·refine Ey rfl ((Y.not (b := false) rfl).yd) (Ey rfl ((z7 rfl rfl).yd) (Eu (o0 rfl (Ew Z1 (Ei rfl ?_)))))
   exact Eu (E.ret (s9 (Fb rfl rfl (by exact b1w q25))))
 ·refine Ey rfl ((Y.not (b := false) rfl).yd) (Em rfl (Es rfl (Es rfl (Es rfl (Es rfl (Ey rfl ((x6 rfl rfl).yd) (Eu (o0 rfl (Ew Z1 (Ei rfl ?_))))))))))
  exact Eu (E.ret (s9 (Fb rfl rfl (by exact b0X q20))))
end Go.Proofs.YtlfhopooaejpfaaGreat
