import Derived.Test.YtdopeopehgdccaaGreatBs
import Derived.Test.YtdopeopehgdccaaGreatT45
import Derived.Test.YtdopeopehgdccaaGreatT23
import Derived.Test.YtdopeopehgdccaaGreatT22
import Derived.Test.YtdopeopehgdccaaGreatT15
import Derived.Test.YtdopeopehgdccaaGreatT19
import Derived.Test.YtdopeopehgdccaaGreatEn
namespace Go.Proofs.YtdopeopehgdccaaGreat
open Go.RowKit
set_option linter.all false
set_option maxHeartbeats 2000000
attribute [local irreducible] Nop Yd Yp Ent Has Tr FnP FnP2 Src j7 d7 J2 Y5 E0 C6 w6 o7 fzF fzV fzX fzB f0 t7 G5 K2 B4
variable {d8 : List (Int × Int × List Int)} {l : List (Int × List Int × Int × Int × Int)} {d4 : List (Int × List Int)} {s i7 : List Int} {m_s c_s m_l c_l m_rules c_rules s9 o0 s7 l0 : Nat} {a_s a_l a_rules o2 l3 : Option Addr}
set_option maxRecDepth 100000 in
theorem a3G (hz : F0 (fun x => x.2.length) d4 ≤ 1048576) : Tr Tryz.prog 109 [.slice a_s m_s c_s, .slice a_l m_l c_l, .slice a_rules m_rules c_rules, .agg #[.slice o2 s9 o0, .slice l3 s7 l0]] (fun w L => Ro w L eIs [.slice a_s m_s c_s] s ∧ Ro w L D3 [.slice a_l m_l c_l] l ∧ Ro w L G1 [.slice a_rules m_rules c_rules] d8 ∧ Ro w L eIs [.slice o2 s9 o0] i7 ∧ Ro w L C2 [.slice l3 s7 l0] d4) [] (κ := Unit) (fun k => True) (fun k => .bool (a0o s l d8 (i7, d4))) (fun k => []) := by
 refine Tr.intro Tryz.func109 rfl (n := 54) rfl (by decide +kernel) bl (fr := [(0, .slice a_s m_s c_s), (1, .slice a_l m_l c_l), (2, .slice a_rules m_rules c_rules), (3, .agg #[.slice o2 s9 o0, .slice l3 s7 l0])]) rfl fun w L hR => ?_
 obtain ⟨hs, hl, hrules, o6, n8⟩ := hR
 obtain ⟨rfl, ls⟩ := hs.slen
 obtain ⟨rfl, ll⟩ := hl.slen
 obtain ⟨rfl, lrules⟩ := hrules.slen
 obtain ⟨rfl, L5⟩ := o6.slen
 obtain ⟨rfl, I7⟩ := n8.slen
 refine Ew Z2 (Est rfl (N.box (cs := [_, _]) rfl dc rfl) (fun b7 _ => (Eas rfl rfl (Eu (Eq_ (Ew Z11 (Emv rfl rfl (Emv rfl rfl (Emv rfl rfl (Est rfl (N.call0 a3E rfl rfl rfl dc (fun w Lp hA => ⟨hA.ro hs, hA.ro hl, hA.ro hrules⟩)) (fun _ _ => (Ent.b (fun q17 => ?_) (fun q17 => ?_)))))))))))))
 ·refine Ey rfl ((Y.not (b := true) rfl).yd) (Emv rfl rfl (Emv rfl rfl (Ey rfl (Y.ldS (cs := [_, _]) ty_Query rfl (Has.pt m0) rfl) (Est rfl (N.call0 (a7x fo) rfl rfl rfl dc (fun w Lp hA => ⟨hA.ro hs, hA.ro o6, hA.ro n8⟩)) (fun _ _ => (Ent.b (fun q22 => ?_) (fun q22 => ?_)))))))
  ·refine Ey rfl ((Y.not (b := true) rfl).yd) (Ey rfl ((Y.pkf rfl rfl).yd) (Eu (E.cf rfl (E.skipc (Et (Ew Z10 (Ey rfl (Y.ldS (cs := [_, _]) ty_Query rfl (Has.pt m0) rfl) (Est rfl (N.call (a5h fo) rfl rfl rfl dc rfl (fun w Lp hA => ⟨hA.ro o6, hA.ro n8⟩)) (fun k27 _ => ?_)))))))))
   obtain ⟨⟨a27_0, m27_0, c27_0⟩, ⟨a27_1, m27_1, c27_1⟩, ⟨a27_2, m27_2, c27_2⟩⟩ := k27
   refine Ent.lenow m0 fun e27_0 l27_0 => ?_
   subst e27_0
   refine Ent.lenow (mS m0) fun e27_1 l27_1 => ?_
   subst e27_1
   refine Ent.lenow (mS (mS m0)) fun e27_2 l27_2 => ?_
   subst e27_2
   refine Emv rfl rfl (Ey rfl ((Y.ext rfl rfl).yd) (Ey rfl ((Y.ext rfl rfl).yd) (Ey rfl ((Y.ext rfl rfl).yd) (Est rfl (N.alloc ty_Binding dc) (fun b10 _ => (Eas rfl rfl (Est rfl (N.sto (vs := [_, _]) (cs' := [_, _]) ty_Binding rfl rfl rfl rfl rfl bl rfl) (fun _ _ => (Eas rfl rfl (Ent.b (fun q11 => ?_) (fun q11 => ?_)))))))))))
   ·obtain ⟨hm0, hr0⟩ : x8 s l = true ∧ x7 s d8 = true := by simpa using q17
    have jq := a4X (s := s) (q := (i7, d4)) q22
    have hf1 : H3 s (fzF (f0 (fun t => inR t 0 9) d4) d4) = true := b2T (q := (i7, d4)) q22 q11
    have hF := a8P hr0 hf1
    have hU := a8Q (j8 := (f0 (fun t => inR t 0 9) d4)) hm0 hr0 hF
    refine Eu (Eq_ (Ew Z2 (Emv rfl rfl (Ey rfl ((Y.not (b := true) rfl).yd) (Eu (E.cf rfl (E.skipc (Et (Eq_ (E.mid (κ := Nat × Option Addr × Nat × Option Addr × Nat × Nat × Option Addr × Nat × Option Addr × Nat × Option Addr × Nat × Option Addr × Nat × Option Addr × Nat) (fun _ => True) (fun kM => [(13, .bool ((t7 d4 ((C6 l d8 (w6 d8 (fzF (f0 (fun t => inR t 0 9) d4) d4)) (f0 (fun t => inR t 0 9) d4)).1)).any (K2 i7 (i7.map (B4 ((fzV (f0 (fun t => inR t 0 9) d4) d4), (fzX (f0 (fun t => inR t 0 9) d4) d4)))))))]) (fun kM => [pt kM.1 125 [.slice kM.2.1 ((G5 (t7 d4 ((C6 l d8 (w6 d8 (fzF (f0 (fun t => inR t 0 9) d4) d4)) (f0 (fun t => inR t 0 9) d4)).1)) i7 (i7.map (B4 ((fzV (f0 (fun t => inR t 0 9) d4) d4), (fzX (f0 (fun t => inR t 0 9) d4) d4))))).1).length kM.2.2.1, .slice kM.2.2.2.1 ((G5 (t7 d4 ((C6 l d8 (w6 d8 (fzF (f0 (fun t => inR t 0 9) d4) d4)) (f0 (fun t => inR t 0 9) d4)).1)) i7 (i7.map (B4 ((fzV (f0 (fun t => inR t 0 9) d4) d4), (fzX (f0 (fun t => inR t 0 9) d4) d4))))).2).length kM.2.2.2.2.1], ow eIs [.slice kM.2.1 ((G5 (t7 d4 ((C6 l d8 (w6 d8 (fzF (f0 (fun t => inR t 0 9) d4) d4)) (f0 (fun t => inR t 0 9) d4)).1)) i7 (i7.map (B4 ((fzV (f0 (fun t => inR t 0 9) d4) d4), (fzX (f0 (fun t => inR t 0 9) d4) d4))))).1).length kM.2.2.1] ((G5 (t7 d4 ((C6 l d8 (w6 d8 (fzF (f0 (fun t => inR t 0 9) d4) d4)) (f0 (fun t => inR t 0 9) d4)).1)) i7 (i7.map (B4 ((fzV (f0 (fun t => inR t 0 9) d4) d4), (fzX (f0 (fun t => inR t 0 9) d4) d4))))).1), ow eIs [.slice kM.2.2.2.1 ((G5 (t7 d4 ((C6 l d8 (w6 d8 (fzF (f0 (fun t => inR t 0 9) d4) d4)) (f0 (fun t => inR t 0 9) d4)).1)) i7 (i7.map (B4 ((fzV (f0 (fun t => inR t 0 9) d4) d4), (fzX (f0 (fun t => inR t 0 9) d4) d4))))).2).length kM.2.2.2.2.1] ((G5 (t7 d4 ((C6 l d8 (w6 d8 (fzF (f0 (fun t => inR t 0 9) d4) d4)) (f0 (fun t => inR t 0 9) d4)).1)) i7 (i7.map (B4 ((fzV (f0 (fun t => inR t 0 9) d4) d4), (fzX (f0 (fun t => inR t 0 9) d4) d4))))).2), pt kM.2.2.2.2.2.1 220 [.slice a_l l.length c_l, .slice a_rules d8.length c_rules, .slice kM.2.2.2.2.2.2.1 (w6 d8 (fzF (f0 (fun t => inR t 0 9) d4) d4)).length kM.2.2.2.2.2.2.2.1, .slice kM.2.2.2.2.2.2.2.2.1 (((C6 l d8 (w6 d8 (fzF (f0 (fun t => inR t 0 9) d4) d4)) (f0 (fun t => inR t 0 9) d4)).1).length) kM.2.2.2.2.2.2.2.2.2.1, .slice kM.2.2.2.2.2.2.2.2.2.2.1 (((C6 l d8 (w6 d8 (fzF (f0 (fun t => inR t 0 9) d4) d4)) (f0 (fun t => inR t 0 9) d4)).2.1).length) kM.2.2.2.2.2.2.2.2.2.2.2.1, .slice kM.2.2.2.2.2.2.2.2.2.2.2.2.1 (((C6 l d8 (w6 d8 (fzF (f0 (fun t => inR t 0 9) d4) d4)) (f0 (fun t => inR t 0 9) d4)).2.2.1).length) kM.2.2.2.2.2.2.2.2.2.2.2.2.2.1, .int .i64 0, .slice kM.2.2.2.2.2.2.2.2.2.2.2.2.2.2.1 (((C6 l d8 (w6 d8 (fzF (f0 (fun t => inR t 0 9) d4) d4)) (f0 (fun t => inR t 0 9) d4)).2.2.2).length) kM.2.2.2.2.2.2.2.2.2.2.2.2.2.2.2], ow j6 [.slice kM.2.2.2.2.2.2.2.2.1 (((C6 l d8 (w6 d8 (fzF (f0 (fun t => inR t 0 9) d4) d4)) (f0 (fun t => inR t 0 9) d4)).1).length) kM.2.2.2.2.2.2.2.2.2.1] ((C6 l d8 (w6 d8 (fzF (f0 (fun t => inR t 0 9) d4) d4)) (f0 (fun t => inR t 0 9) d4)).1), ow eIs [.slice kM.2.2.2.2.2.2.2.2.2.2.1 (((C6 l d8 (w6 d8 (fzF (f0 (fun t => inR t 0 9) d4) d4)) (f0 (fun t => inR t 0 9) d4)).2.1).length) kM.2.2.2.2.2.2.2.2.2.2.2.1] ((C6 l d8 (w6 d8 (fzF (f0 (fun t => inR t 0 9) d4) d4)) (f0 (fun t => inR t 0 9) d4)).2.1), ow u6 [.slice kM.2.2.2.2.2.2.2.2.2.2.2.2.1 (((C6 l d8 (w6 d8 (fzF (f0 (fun t => inR t 0 9) d4) d4)) (f0 (fun t => inR t 0 9) d4)).2.2.1).length) kM.2.2.2.2.2.2.2.2.2.2.2.2.2.1] ((C6 l d8 (w6 d8 (fzF (f0 (fun t => inR t 0 9) d4) d4)) (f0 (fun t => inR t 0 9) d4)).2.2.1), ow C8 [.slice kM.2.2.2.2.2.2.2.2.2.2.2.2.2.2.1 (((C6 l d8 (w6 d8 (fzF (f0 (fun t => inR t 0 9) d4) d4)) (f0 (fun t => inR t 0 9) d4)).2.2.2).length) kM.2.2.2.2.2.2.2.2.2.2.2.2.2.2.2] ((C6 l d8 (w6 d8 (fzF (f0 (fun t => inR t 0 9) d4) d4)) (f0 (fun t => inR t 0 9) d4)).2.2.2), ow j6 [.slice kM.2.2.2.2.2.2.1 (w6 d8 (fzF (f0 (fun t => inR t 0 9) d4) d4)).length kM.2.2.2.2.2.2.2.1] (w6 d8 (fzF (f0 (fun t => inR t 0 9) d4) d4)), pt b10 125 [.slice a27_1 (fzV (f0 (fun t => inR t 0 9) d4) d4).length c27_1, .slice a27_2 (fzX (f0 (fun t => inR t 0 9) d4) d4).length c27_2], ow j6 [.slice a27_0 (fzF (f0 (fun t => inR t 0 9) d4) d4).length c27_0] (fzF (f0 (fun t => inR t 0 9) d4) d4), ow eIs [.slice a27_1 (fzV (f0 (fun t => inR t 0 9) d4) d4).length c27_1] (fzV (f0 (fun t => inR t 0 9) d4) d4), ow eIs [.slice a27_2 (fzX (f0 (fun t => inR t 0 9) d4) d4).length c27_2] (fzX (f0 (fun t => inR t 0 9) d4) d4), pt b7 61 [.slice o2 i7.length o0, .slice l3 d4.length l0]]) ?_ (fun kM _ => ?_)))))))))))
    ·refine D.region (fun j => !(Nat.beq j 21)) mixed (Dy 0 rfl (Y.ldS (cs := [_, _]) ty_Query rfl (Has.pt (mS (mS (mS (mS m0))))) rfl) (Dyp 1 rfl (Y.mv rfl) (Dyp 2 rfl (Y.mv rfl) (Dyp 3 rfl (Y.mv rfl) (Dyp 4 rfl (Y.mv rfl) (Dy 6 rfl (Y.ldS (cs := [_, _]) ty_Query rfl (Has.pt (mS (mS (mS (mS m0))))) rfl) (Dy 13 rfl (Y.ldS (cs := [_, _]) ty_Query rfl (Has.pt (mS (mS (mS (mS m0))))) rfl) (Dy 14 rfl (Y.ldS (cs := [_, _]) ty_Binding rfl (Has.pt m0) rfl) (D.ch2 (i := 5) (j := 20) kr ?_ ?_)))))))))
     ·refine D.pk 5 rfl rfl (fun _ => rfl) (N.call (a4I ⟨s, hr0, hf1⟩) rfl rfl rfl dc rfl (fun w Lp hA => ⟨hA.ro hrules, hA.ow (mS m0)⟩)) (fun k39 _ => ?_)
      obtain ⟨a39, m39, c39⟩ := k39
      refine Ent.lenow m0 fun e39 l39 => ?_
      subst e39
      refine D.ch2 (i := 7) (j := 20) kr ?_ ?_
      ·refine D.pk 7 rfl rfl (fun _ => rfl) (N.call (V6 fo) rfl rfl rfl dc rfl (fun w Lp hA => ⟨hA.ro o6, hA.ro n8⟩)) (fun k41 _ => ?_)
       obtain ⟨a41, m41, c41⟩ := k41
       refine Ent.lenow m0 fun e41 l41 => ?_
       subst e41
       refine D.ch2 (i := 8) (j := 20) kr ?_ ?_
       ·refine D.pk 8 rfl rfl (fun _ => rfl) (N.call (W7 ⟨s, hm0, hr0, hF⟩ (Nat.le_trans a1J dc)) rfl rfl rfl dc rfl (fun w Lp hA => ⟨hA.ro hl, hA.ro hrules, hA.ow (mS m0), hA.ow m0⟩)) (fun k42 _ => ?_)
        obtain ⟨nb42, ⟨a42_0, m42_0, c42_0⟩, ⟨a42_1, m42_1, c42_1⟩, ⟨a42_2, m42_2, c42_2⟩, ⟨a42_3, m42_3, c42_3⟩⟩ := k42
        try dsimp only
        refine Ent.lenow (mS m0) fun e42_0 l42_0 => ?_
        subst e42_0
        refine Ent.lenow (mS (mS m0)) fun e42_1 l42_1 => ?_
        subst e42_1
        refine Ent.lenow (mS (mS (mS m0))) fun e42_2 l42_2 => ?_
        subst e42_2
        refine Ent.lenow (mS (mS (mS (mS m0)))) fun e42_3 l42_3 => ?_
        subst e42_3
        refine Dyp 9 rfl (Y.nil rfl) (Dyp 10 rfl (Y.fld fo_under_3 ty_Reached dc rfl) (Dyp 11 rfl (Y.fld fo_Reached_0 ty_Facts dc rfl) (Dy 12 rfl (Y.ld1 ty_Facts rfl (((Has.pt m0).sub (cs' := [_, _, _, _]) 3 rfl).sub (cs' := [_]) 0 rfl) rfl) (D.ch2 (i := 15) (j := 20) kr ?_ ?_))))
        ·refine D.pk 15 rfl rfl (fun _ => rfl) (N.call (U6 (Nat.le_trans jq.2.1 dc)) rfl rfl rfl dc rfl (fun w Lp hA => ⟨hA.ro o6, hA.ro n8, hA.ow (mS (mS (mS (mS (mS (mS (mS (mS (mS m0))))))))), hA.ow (mS (mS (mS (mS (mS (mS (mS (mS (mS (mS m0))))))))))⟩)) (fun k49 _ => ?_)
         obtain ⟨a49, m49, c49⟩ := k49
         refine Ent.lenow m0 fun e49 l49 => ?_
         subst e49
         refine D.ch2 (i := 16) (j := 20) kr ?_ ?_
         ·refine D.pk 16 rfl rfl (fun _ => rfl) (N.call (N7 jq.1 jq.2.2 (fun a _ => a1I hU a) (Nat.le_trans jq.2.1 dc)) rfl rfl rfl dc rfl (fun w Lp hA => ⟨hA.ro o6, hA.ro n8, hA.ow (mS (mS m0)), hA.ow m0⟩)) (fun k50 _ => ?_)
          obtain ⟨⟨a50_0, m50_0, c50_0⟩, ⟨a50_1, m50_1, c50_1⟩⟩ := k50
          refine Ent.lenow m0 fun e50_0 l50_0 => ?_
          subst e50_0
          refine Ent.lenow (mS m0) fun e50_1 l50_1 => ?_
          subst e50_1
          refine Dyp 17 rfl (Y.mv rfl) (Dyp 18 rfl (Y.ext rfl rfl) (Dyp 19 rfl (Y.ext rfl rfl) (D.st 20 rfl rfl kr (fun _ => rfl) (N.alloc ty_Binding dc) (fun b12 _ => (D.st 21 rfl rfl kr (fun h => by cases h) (N.sto (vs := [_, _]) (cs' := [_, _]) ty_Binding rfl rfl rfl rfl rfl bl rfl) (fun _ _ => (Dyp 22 rfl (Y.as rfl) (D.done kr (Ent.p3 (Ent.drop (Ent.p8 (Ent.drop (Ent.p13 (Ent.p13 (Ent.p13 (Ent.p13 (Ent.p13 (Ent.p13 (Ent.p13 (Ent.p13 (Ent.p13 (Ent.p13 (Ent.p13 (Ent.p13 (Ent.p13 (Ent.p13 ?_))))))))))))))))))))))))))
          exact E.mdn (b12, a50_0, c50_0, a50_1, c50_1, nb42, a39, c39, a42_0, c42_0, a42_1, c42_1, a42_2, c42_2, a42_3, c42_3) trivial ⟨rfl, trivial⟩ (.refl _)
         ·refine D.pk 20 rfl rfl (fun _ => rfl) (N.alloc ty_Binding dc) (fun b12 _ => (D.st 16 rfl rfl kr (fun _ => rfl) (N.call (N7 jq.1 jq.2.2 (fun a _ => a1I hU a) (Nat.le_trans jq.2.1 dc)) rfl rfl rfl dc rfl (fun w Lp hA => ⟨hA.ro o6, hA.ro n8, hA.ow (mS (mS (mS m0))), hA.ow (mS m0)⟩)) (fun k50 _ => ?_)))
          obtain ⟨⟨a50_0, m50_0, c50_0⟩, ⟨a50_1, m50_1, c50_1⟩⟩ := k50
          refine Ent.lenow m0 fun e50_0 l50_0 => ?_
          subst e50_0
          refine Ent.lenow (mS m0) fun e50_1 l50_1 => ?_
          subst e50_1
          refine Dyp 17 rfl (Y.mv rfl) (Dyp 18 rfl (Y.ext rfl rfl) (Dyp 19 rfl (Y.ext rfl rfl) (Ent.p2 (D.st 21 rfl rfl kr (fun h => by cases h) (N.sto (vs := [_, _]) (cs' := [_, _]) ty_Binding rfl rfl rfl rfl rfl bl rfl) (fun _ _ => (Dyp 22 rfl (Y.as rfl) (D.done kr (Ent.p3 (Ent.drop (Ent.p8 (Ent.drop (Ent.p13 (Ent.p13 (Ent.p13 (Ent.p13 (Ent.p13 (Ent.p13 (Ent.p13 (Ent.p13 (Ent.p13 (Ent.p13 (Ent.p13 (Ent.p13 (Ent.p13 (Ent.p13 ?_)))))))))))))))))))))))))
          exact E.mdn (b12, a50_0, c50_0, a50_1, c50_1, nb42, a39, c39, a42_0, c42_0, a42_1, c42_1, a42_2, c42_2, a42_3, c42_3) trivial ⟨rfl, trivial⟩ (.refl _)
        ·refine D.pk 20 rfl rfl (fun _ => rfl) (N.alloc ty_Binding dc) (fun b12 _ => (D.st 15 rfl rfl kr (fun _ => rfl) (N.call (U6 (Nat.le_trans jq.2.1 dc)) rfl rfl rfl dc rfl (fun w Lp hA => ⟨hA.ro o6, hA.ro n8, hA.ow (mS (mS (mS (mS (mS (mS (mS (mS (mS (mS m0)))))))))), hA.ow (mS (mS (mS (mS (mS (mS (mS (mS (mS (mS (mS m0)))))))))))⟩)) (fun k49 _ => ?_)))
         obtain ⟨a49, m49, c49⟩ := k49
         refine Ent.lenow m0 fun e49 l49 => ?_
         subst e49
         refine D.st 16 rfl rfl kr (fun _ => rfl) (N.call (N7 jq.1 jq.2.2 (fun a _ => a1I hU a) (Nat.le_trans jq.2.1 dc)) rfl rfl rfl dc rfl (fun w Lp hA => ⟨hA.ro o6, hA.ro n8, hA.ow (mS (mS (mS m0))), hA.ow m0⟩)) (fun k50 _ => ?_)
         obtain ⟨⟨a50_0, m50_0, c50_0⟩, ⟨a50_1, m50_1, c50_1⟩⟩ := k50
         refine Ent.lenow m0 fun e50_0 l50_0 => ?_
         subst e50_0
         refine Ent.lenow (mS m0) fun e50_1 l50_1 => ?_
         subst e50_1
         refine Dyp 17 rfl (Y.mv rfl) (Dyp 18 rfl (Y.ext rfl rfl) (Dyp 19 rfl (Y.ext rfl rfl) (Ent.p3 (D.st 21 rfl rfl kr (fun h => by cases h) (N.sto (vs := [_, _]) (cs' := [_, _]) ty_Binding rfl rfl rfl rfl rfl bl rfl) (fun _ _ => (Dyp 22 rfl (Y.as rfl) (D.done kr (Ent.p3 (Ent.drop (Ent.p8 (Ent.drop (Ent.p13 (Ent.p13 (Ent.p13 (Ent.p13 (Ent.p13 (Ent.p13 (Ent.p13 (Ent.p13 (Ent.p13 (Ent.p13 (Ent.p13 (Ent.p13 (Ent.p13 (Ent.p13 ?_)))))))))))))))))))))))))
         exact E.mdn (b12, a50_0, c50_0, a50_1, c50_1, nb42, a39, c39, a42_0, c42_0, a42_1, c42_1, a42_2, c42_2, a42_3, c42_3) trivial ⟨rfl, trivial⟩ (.refl _)
       ·refine D.pk 20 rfl rfl (fun _ => rfl) (N.alloc ty_Binding dc) (fun b12 _ => (D.st 8 rfl rfl kr (fun _ => rfl) (N.call (W7 ⟨s, hm0, hr0, hF⟩ (Nat.le_trans a1J dc)) rfl rfl rfl dc rfl (fun w Lp hA => ⟨hA.ro hl, hA.ro hrules, hA.ow (mS (mS m0)), hA.ow (mS m0)⟩)) (fun k42 _ => ?_)))
        obtain ⟨nb42, ⟨a42_0, m42_0, c42_0⟩, ⟨a42_1, m42_1, c42_1⟩, ⟨a42_2, m42_2, c42_2⟩, ⟨a42_3, m42_3, c42_3⟩⟩ := k42
        try dsimp only
        refine Ent.lenow (mS m0) fun e42_0 l42_0 => ?_
        subst e42_0
        refine Ent.lenow (mS (mS m0)) fun e42_1 l42_1 => ?_
        subst e42_1
        refine Ent.lenow (mS (mS (mS m0))) fun e42_2 l42_2 => ?_
        subst e42_2
        refine Ent.lenow (mS (mS (mS (mS m0)))) fun e42_3 l42_3 => ?_
        subst e42_3
        refine Dyp 9 rfl (Y.nil rfl) (Dyp 10 rfl (Y.fld fo_under_3 ty_Reached dc rfl) (Dyp 11 rfl (Y.fld fo_Reached_0 ty_Facts dc rfl) (Dy 12 rfl (Y.ld1 ty_Facts rfl (((Has.pt m0).sub (cs' := [_, _, _, _]) 3 rfl).sub (cs' := [_]) 0 rfl) rfl) (D.st 15 rfl rfl kr (fun _ => rfl) (N.call (U6 (Nat.le_trans jq.2.1 dc)) rfl rfl rfl dc rfl (fun w Lp hA => ⟨hA.ro o6, hA.ro n8, hA.ow (mS (mS (mS (mS (mS (mS (mS (mS (mS (mS m0)))))))))), hA.ow (mS (mS (mS (mS (mS (mS (mS (mS (mS (mS (mS m0)))))))))))⟩)) (fun k49 _ => ?_)))))
        obtain ⟨a49, m49, c49⟩ := k49
        refine Ent.lenow m0 fun e49 l49 => ?_
        subst e49
        refine D.st 16 rfl rfl kr (fun _ => rfl) (N.call (N7 jq.1 jq.2.2 (fun a _ => a1I hU a) (Nat.le_trans jq.2.1 dc)) rfl rfl rfl dc rfl (fun w Lp hA => ⟨hA.ro o6, hA.ro n8, hA.ow (mS (mS m0)), hA.ow m0⟩)) (fun k50 _ => ?_)
        obtain ⟨⟨a50_0, m50_0, c50_0⟩, ⟨a50_1, m50_1, c50_1⟩⟩ := k50
        refine Ent.lenow m0 fun e50_0 l50_0 => ?_
        subst e50_0
        refine Ent.lenow (mS m0) fun e50_1 l50_1 => ?_
        subst e50_1
        refine Dyp 17 rfl (Y.mv rfl) (Dyp 18 rfl (Y.ext rfl rfl) (Dyp 19 rfl (Y.ext rfl rfl) (Ent.p8 (D.st 21 rfl rfl kr (fun h => by cases h) (N.sto (vs := [_, _]) (cs' := [_, _]) ty_Binding rfl rfl rfl rfl rfl bl rfl) (fun _ _ => (Dyp 22 rfl (Y.as rfl) (D.done kr (Ent.p3 (Ent.drop (Ent.p8 (Ent.drop (Ent.p13 (Ent.p13 (Ent.p13 (Ent.p13 (Ent.p13 (Ent.p13 (Ent.p13 (Ent.p13 (Ent.p13 (Ent.p13 (Ent.p13 (Ent.p13 (Ent.p13 (Ent.p13 ?_)))))))))))))))))))))))))
        exact E.mdn (b12, a50_0, c50_0, a50_1, c50_1, nb42, a39, c39, a42_0, c42_0, a42_1, c42_1, a42_2, c42_2, a42_3, c42_3) trivial ⟨rfl, trivial⟩ (.refl _)
      ·refine D.pk 20 rfl rfl (fun _ => rfl) (N.alloc ty_Binding dc) (fun b12 _ => (D.st 7 rfl rfl kr (fun _ => rfl) (N.call (V6 fo) rfl rfl rfl dc rfl (fun w Lp hA => ⟨hA.ro o6, hA.ro n8⟩)) (fun k41 _ => ?_)))
       obtain ⟨a41, m41, c41⟩ := k41
       refine Ent.lenow m0 fun e41 l41 => ?_
       subst e41
       refine D.st 8 rfl rfl kr (fun _ => rfl) (N.call (W7 ⟨s, hm0, hr0, hF⟩ (Nat.le_trans a1J dc)) rfl rfl rfl dc rfl (fun w Lp hA => ⟨hA.ro hl, hA.ro hrules, hA.ow (mS (mS m0)), hA.ow m0⟩)) (fun k42 _ => ?_)
       obtain ⟨nb42, ⟨a42_0, m42_0, c42_0⟩, ⟨a42_1, m42_1, c42_1⟩, ⟨a42_2, m42_2, c42_2⟩, ⟨a42_3, m42_3, c42_3⟩⟩ := k42
       try dsimp only
       refine Ent.lenow (mS m0) fun e42_0 l42_0 => ?_
       subst e42_0
       refine Ent.lenow (mS (mS m0)) fun e42_1 l42_1 => ?_
       subst e42_1
       refine Ent.lenow (mS (mS (mS m0))) fun e42_2 l42_2 => ?_
       subst e42_2
       refine Ent.lenow (mS (mS (mS (mS m0)))) fun e42_3 l42_3 => ?_
       subst e42_3
       refine Dyp 9 rfl (Y.nil rfl) (Dyp 10 rfl (Y.fld fo_under_3 ty_Reached dc rfl) (Dyp 11 rfl (Y.fld fo_Reached_0 ty_Facts dc rfl) (Dy 12 rfl (Y.ld1 ty_Facts rfl (((Has.pt m0).sub (cs' := [_, _, _, _]) 3 rfl).sub (cs' := [_]) 0 rfl) rfl) (D.st 15 rfl rfl kr (fun _ => rfl) (N.call (U6 (Nat.le_trans jq.2.1 dc)) rfl rfl rfl dc rfl (fun w Lp hA => ⟨hA.ro o6, hA.ro n8, hA.ow (mS (mS (mS (mS (mS (mS (mS (mS (mS (mS m0)))))))))), hA.ow (mS (mS (mS (mS (mS (mS (mS (mS (mS (mS (mS m0)))))))))))⟩)) (fun k49 _ => ?_)))))
       obtain ⟨a49, m49, c49⟩ := k49
       refine Ent.lenow m0 fun e49 l49 => ?_
       subst e49
       refine D.st 16 rfl rfl kr (fun _ => rfl) (N.call (N7 jq.1 jq.2.2 (fun a _ => a1I hU a) (Nat.le_trans jq.2.1 dc)) rfl rfl rfl dc rfl (fun w Lp hA => ⟨hA.ro o6, hA.ro n8, hA.ow (mS (mS m0)), hA.ow m0⟩)) (fun k50 _ => ?_)
       obtain ⟨⟨a50_0, m50_0, c50_0⟩, ⟨a50_1, m50_1, c50_1⟩⟩ := k50
       refine Ent.lenow m0 fun e50_0 l50_0 => ?_
       subst e50_0
       refine Ent.lenow (mS m0) fun e50_1 l50_1 => ?_
       subst e50_1
       refine Dyp 17 rfl (Y.mv rfl) (Dyp 18 rfl (Y.ext rfl rfl) (Dyp 19 rfl (Y.ext rfl rfl) (Ent.p9 (D.st 21 rfl rfl kr (fun h => by cases h) (N.sto (vs := [_, _]) (cs' := [_, _]) ty_Binding rfl rfl rfl rfl rfl bl rfl) (fun _ _ => (Dyp 22 rfl (Y.as rfl) (D.done kr (Ent.p3 (Ent.drop (Ent.p8 (Ent.drop (Ent.p13 (Ent.p13 (Ent.p13 (Ent.p13 (Ent.p13 (Ent.p13 (Ent.p13 (Ent.p13 (Ent.p13 (Ent.p13 (Ent.p13 (Ent.p13 (Ent.p13 (Ent.p13 ?_)))))))))))))))))))))))))
       exact E.mdn (b12, a50_0, c50_0, a50_1, c50_1, nb42, a39, c39, a42_0, c42_0, a42_1, c42_1, a42_2, c42_2, a42_3, c42_3) trivial ⟨rfl, trivial⟩ (.refl _)
     ·refine D.pk 20 rfl rfl (fun _ => rfl) (N.alloc ty_Binding dc) (fun b12 _ => (D.st 5 rfl rfl kr (fun _ => rfl) (N.call (a4I ⟨s, hr0, hf1⟩) rfl rfl rfl dc rfl (fun w Lp hA => ⟨hA.ro hrules, hA.ow (mS (mS m0))⟩)) (fun k39 _ => ?_)))
      obtain ⟨a39, m39, c39⟩ := k39
      refine Ent.lenow m0 fun e39 l39 => ?_
      subst e39
      refine D.st 7 rfl rfl kr (fun _ => rfl) (N.call (V6 fo) rfl rfl rfl dc rfl (fun w Lp hA => ⟨hA.ro o6, hA.ro n8⟩)) (fun k41 _ => ?_)
      obtain ⟨a41, m41, c41⟩ := k41
      refine Ent.lenow m0 fun e41 l41 => ?_
      subst e41
      refine D.st 8 rfl rfl kr (fun _ => rfl) (N.call (W7 ⟨s, hm0, hr0, hF⟩ (Nat.le_trans a1J dc)) rfl rfl rfl dc rfl (fun w Lp hA => ⟨hA.ro hl, hA.ro hrules, hA.ow (mS m0), hA.ow m0⟩)) (fun k42 _ => ?_)
      obtain ⟨nb42, ⟨a42_0, m42_0, c42_0⟩, ⟨a42_1, m42_1, c42_1⟩, ⟨a42_2, m42_2, c42_2⟩, ⟨a42_3, m42_3, c42_3⟩⟩ := k42
      try dsimp only
      refine Ent.lenow (mS m0) fun e42_0 l42_0 => ?_
      subst e42_0
      refine Ent.lenow (mS (mS m0)) fun e42_1 l42_1 => ?_
      subst e42_1
      refine Ent.lenow (mS (mS (mS m0))) fun e42_2 l42_2 => ?_
      subst e42_2
      refine Ent.lenow (mS (mS (mS (mS m0)))) fun e42_3 l42_3 => ?_
      subst e42_3
      refine Dyp 9 rfl (Y.nil rfl) (Dyp 10 rfl (Y.fld fo_under_3 ty_Reached dc rfl) (Dyp 11 rfl (Y.fld fo_Reached_0 ty_Facts dc rfl) (Dy 12 rfl (Y.ld1 ty_Facts rfl (((Has.pt m0).sub (cs' := [_, _, _, _]) 3 rfl).sub (cs' := [_]) 0 rfl) rfl) (D.st 15 rfl rfl kr (fun _ => rfl) (N.call (U6 (Nat.le_trans jq.2.1 dc)) rfl rfl rfl dc rfl (fun w Lp hA => ⟨hA.ro o6, hA.ro n8, hA.ow (mS (mS (mS (mS (mS (mS (mS (mS (mS (mS m0)))))))))), hA.ow (mS (mS (mS (mS (mS (mS (mS (mS (mS (mS (mS m0)))))))))))⟩)) (fun k49 _ => ?_)))))
      obtain ⟨a49, m49, c49⟩ := k49
      refine Ent.lenow m0 fun e49 l49 => ?_
      subst e49
      refine D.st 16 rfl rfl kr (fun _ => rfl) (N.call (N7 jq.1 jq.2.2 (fun a _ => a1I hU a) (Nat.le_trans jq.2.1 dc)) rfl rfl rfl dc rfl (fun w Lp hA => ⟨hA.ro o6, hA.ro n8, hA.ow (mS (mS m0)), hA.ow m0⟩)) (fun k50 _ => ?_)
      obtain ⟨⟨a50_0, m50_0, c50_0⟩, ⟨a50_1, m50_1, c50_1⟩⟩ := k50
      refine Ent.lenow m0 fun e50_0 l50_0 => ?_
      subst e50_0
      refine Ent.lenow (mS m0) fun e50_1 l50_1 => ?_
      subst e50_1
      refine Dyp 17 rfl (Y.mv rfl) (Dyp 18 rfl (Y.ext rfl rfl) (Dyp 19 rfl (Y.ext rfl rfl) (Ent.p10 (D.st 21 rfl rfl kr (fun h => by cases h) (N.sto (vs := [_, _]) (cs' := [_, _]) ty_Binding rfl rfl rfl rfl rfl bl rfl) (fun _ _ => (Dyp 22 rfl (Y.as rfl) (D.done kr (Ent.p3 (Ent.drop (Ent.p8 (Ent.drop (Ent.p13 (Ent.p13 (Ent.p13 (Ent.p13 (Ent.p13 (Ent.p13 (Ent.p13 (Ent.p13 (Ent.p13 (Ent.p13 (Ent.p13 (Ent.p13 (Ent.p13 (Ent.p13 ?_)))))))))))))))))))))))))
      exact E.mdn (b12, a50_0, c50_0, a50_1, c50_1, nb42, a39, c39, a42_0, c42_0, a42_1, c42_1, a42_2, c42_2, a42_3, c42_3) trivial ⟨rfl, trivial⟩ (.refl _)
    ·obtain ⟨b12, a50_0, c50_0, a50_1, c50_1, nb42, a39, c39, a42_0, c42_0, a42_1, c42_1, a42_2, c42_2, a42_3, c42_3⟩ := kM
     try dsimp only
     refine Et (Ew Z2 (Emv rfl rfl (Eas rfl rfl ?_)))
     exact Eu (E.ret (Fb rfl rfl (by exact a8B (q := (i7, d4)) q17 q22 q11)))
   ·refine Eu (Eq_ (Ew Z2 (Emv rfl rfl (Ey rfl ((Y.not (b := false) rfl).yd) (Eu (E.ct rfl (Ew Z1 (Eas rfl rfl ?_))))))))
    exact Eu (E.ret (E.thr (Fb rfl rfl (by exact a8i (q := (i7, d4)) q11))))
  ·refine Ey rfl ((Y.not (b := false) rfl).yd) (Ey rfl ((Y.pkf rfl rfl).yd) (Eu (E.ct rfl (Ew Z1 (Eas rfl rfl ?_)))))
   exact Eu (E.ret (E.thr (Fb rfl rfl (by exact a8F q22))))
 ·refine Ey rfl ((Y.not (b := false) rfl).yd) (Emv rfl rfl (Es rfl (Es rfl (Es rfl (Es rfl (Ey rfl ((Y.pkt rfl rfl).yd) (Eu (E.ct rfl (Ew Z1 (Eas rfl rfl ?_))))))))))
  exact Eu (E.ret (E.thr (Fb rfl rfl (by exact a8u q17))))
set_option maxRecDepth 100000 in
theorem a1b (hz : F0 (fun x => x.2.length) d4 ≤ 1048576) : Tr Tryz.prog 104 [.slice a_s m_s c_s, .slice a_l m_l c_l, .slice a_rules m_rules c_rules, .agg #[.slice o2 s9 o0, .slice l3 s7 l0]] (fun w L => Ro w L eIs [.slice a_s m_s c_s] s ∧ Ro w L D3 [.slice a_l m_l c_l] l ∧ Ro w L G1 [.slice a_rules m_rules c_rules] d8 ∧ Ro w L eIs [.slice o2 s9 o0] i7 ∧ Ro w L C2 [.slice l3 s7 l0] d4) [] (κ := Unit) (fun k => True) (fun k => .bool (a0o s l d8 (i7, d4))) (fun k => []) := by
 refine Tr.intro Tryz.func104 rfl (n := 68) rfl (by decide +kernel) bl (fr := [(0, .slice a_s m_s c_s), (1, .slice a_l m_l c_l), (2, .slice a_rules m_rules c_rules), (3, .agg #[.slice o2 s9 o0, .slice l3 s7 l0])]) rfl fun w L hR => ?_
 obtain ⟨hs, hl, hrules, o6, n8⟩ := hR
 obtain ⟨rfl, ls⟩ := hs.slen
 obtain ⟨rfl, ll⟩ := hl.slen
 obtain ⟨rfl, lrules⟩ := hrules.slen
 obtain ⟨rfl, L5⟩ := o6.slen
 obtain ⟨rfl, I7⟩ := n8.slen
 refine Ew Z2 (Est rfl (N.box (cs := [_, _]) rfl dc rfl) (fun b7 _ => (Eas rfl rfl (Eu (Eq_ (Ew Z11 (Emv rfl rfl (Emv rfl rfl (Emv rfl rfl (Est rfl (N.call0 a3O rfl rfl rfl dc (fun w Lp hA => ⟨hA.ro hs, hA.ro hl, hA.ro hrules⟩)) (fun _ _ => (Ent.b (fun q20 => ?_) (fun q20 => ?_)))))))))))))
 ·refine Ey rfl ((Y.not (b := true) rfl).yd) (Emv rfl rfl (Emv rfl rfl (Ey rfl (Y.ldS (cs := [_, _]) ty_Query rfl (Has.pt m0) rfl) (Est rfl (N.call0 (a7X fo) rfl rfl rfl dc (fun w Lp hA => ⟨hA.ro hs, hA.ro o6, hA.ro n8⟩)) (fun _ _ => (Ent.b (fun q25 => ?_) (fun q25 => ?_)))))))
  ·refine Ey rfl ((Y.not (b := true) rfl).yd) (Ey rfl ((Y.pkf rfl rfl).yd) (Eu (E.cf rfl (E.skipc (Et (Ew Z10 (Ey rfl (Y.ldS (cs := [_, _]) ty_Query rfl (Has.pt m0) rfl) (Est rfl (N.call (a5e fo) rfl rfl rfl dc rfl (fun w Lp hA => ⟨hA.ro o6, hA.ro n8⟩)) (fun k30 _ => ?_)))))))))
   obtain ⟨⟨a30_0, m30_0, c30_0⟩, ⟨a30_1, m30_1, c30_1⟩, ⟨a30_2, m30_2, c30_2⟩⟩ := k30
   refine Ent.lenow m0 fun e30_0 l30_0 => ?_
   subst e30_0
   refine Ent.lenow (mS m0) fun e30_1 l30_1 => ?_
   subst e30_1
   refine Ent.lenow (mS (mS m0)) fun e30_2 l30_2 => ?_
   subst e30_2
   refine Emv rfl rfl (Ey rfl ((Y.ext rfl rfl).yd) (Ey rfl ((Y.ext rfl rfl).yd) (Ey rfl ((Y.ext rfl rfl).yd) (Est rfl (N.alloc ty_Binding dc) (fun b10 _ => (Eas rfl rfl (Est rfl (N.sto (vs := [_, _]) (cs' := [_, _]) ty_Binding rfl rfl rfl rfl rfl bl rfl) (fun _ _ => (Eas rfl rfl (Ent.b (fun q11 => ?_) (fun q11 => ?_)))))))))))
   ·obtain ⟨hm0, hr0⟩ : x8 s l = true ∧ x7 s d8 = true := by simpa using q20
    have jq := a4X (s := s) (q := (i7, d4)) q25
    have hf1 : H3 s (fzF (f0 (fun t => inR t 0 9) d4) d4) = true := b2T (q := (i7, d4)) q25 q11
    have hF := a8P hr0 hf1
    have hU := a8Q (j8 := (f0 (fun t => inR t 0 9) d4)) hm0 hr0 hF
    refine Eu (Eq_ (Ew Z2 (Emv rfl rfl (Ey rfl ((Y.not (b := true) rfl).yd) (Eu (E.cf rfl (E.skipc (Et (Eq_ (D.region (fun j => true) mixed (Dyp 0 rfl (Y.mv rfl) (Dyp 1 rfl (Y.mv rfl) (Dyp 2 rfl (Y.mv rfl) (Dyp 3 rfl (Y.mv rfl) (Dy 5 rfl (Y.ldS (cs := [_, _]) ty_Query rfl (Has.pt (mS (mS (mS (mS m0))))) rfl) (D.st 4 rfl rfl kr (fun _ => rfl) (N.call (a6T ⟨s, hr0, hf1⟩) rfl rfl rfl dc rfl (fun w Lp hA => ⟨hA.ro hrules, hA.ow (mS m0)⟩)) (fun k40 _ => ?_)))))))))))))))))
    obtain ⟨a40, m40, c40⟩ := k40
    refine Ent.lenow m0 fun e40 l40 => ?_
    subst e40
    refine D.st 6 rfl rfl kr (fun _ => rfl) (N.call (a2A fo) rfl rfl rfl dc rfl (fun w Lp hA => ⟨hA.ro o6, hA.ro n8⟩)) (fun k42 _ => ?_)
    obtain ⟨a42, m42, c42⟩ := k42
    refine Ent.lenow m0 fun e42 l42 => ?_
    subst e42
    refine D.st 7 rfl rfl kr (fun _ => rfl) (N.call (a7n ⟨s, hm0, hr0, hF⟩ (Nat.le_trans a1J dc)) rfl rfl rfl dc rfl (fun w Lp hA => ⟨hA.ro hl, hA.ro hrules, hA.ow (mS m0), hA.ow m0⟩)) (fun k43 _ => ?_)
    obtain ⟨a43, m43, c43⟩ := k43
    refine Ent.lenow m0 fun e43 l43 => ?_
    subst e43
    refine Ent.rebase (A := [_]) rfl fun wb1 Lb1 hB1 hA1 => ?_
    have hs := hA1.ro hs
    have hl := hA1.ro hl
    have hrules := hA1.ro hrules
    have o6 := hA1.ro o6
    have n8 := hA1.ro n8
    have rb1 : Ro wb1 Lb1 C8 [.slice a43 ((C6 l d8 (w6 d8 (fzF (f0 (fun t => inR t 0 9) d4) d4)) (f0 (fun t => inR t 0 9) d4)).2.2.2).length c43] ((C6 l d8 (w6 d8 (fzF (f0 (fun t => inR t 0 9) d4) d4)) (f0 (fun t => inR t 0 9) d4)).2.2.2) := hA1.ow m0
    refine Dyp 8 rfl (Y.as rfl) (D.done kr (Et (Ew Z2 (Est rfl (N.bsl (pvs := []) (cs := []) us_Facts ty_Fact rfl dc dc (o9 rfl rfl) rfl dc) (fun b44 _ => (Ent.drop (Eas rfl rfl (Eu (Eq_ (Ew Z1 (Eas rfl rfl (Eu (E.block (Ent.mkow (A := []) (Own.nil (E := z7) (e := tFact) (a := (some ⟨b44, 0, none⟩))) rfl (Ent.cv (congrArg (ow j6 [_]) (show [] = (((C6 l d8 (w6 d8 (fzF (f0 (fun t => inR t 0 9) d4) d4)) (f0 (fun t => inR t 0 9) d4)).2.2.2.take 0).map fun x => x.2.2).foldl o4 [] from by rfl)) (E.loop (κ := Nat × Option Addr × Nat × Nat) (fun g => g.1 ≤ (C6 l d8 (w6 d8 (fzF (f0 (fun t => inR t 0 9) d4) d4)) (f0 (fun t => inR t 0 9) d4)).2.2.2.length ∧ True) (fun g => [(7, .pointer (some ⟨b7, 0, none⟩)), (10, .pointer (some ⟨b10, 0, none⟩)), (12, .slice a43 ((C6 l d8 (w6 d8 (fzF (f0 (fun t => inR t 0 9) d4) d4)) (f0 (fun t => inR t 0 9) d4)).2.2.2).length c43), (13, .slice g.2.1 g.2.2.1 g.2.2.2), (14, .int .i64 (↑g.1 : Int))]) (fun g => [ow j6 [.slice g.2.1 g.2.2.1 g.2.2.2] ((((C6 l d8 (w6 d8 (fzF (f0 (fun t => inR t 0 9) d4) d4)) (f0 (fun t => inR t 0 9) d4)).2.2.2.take g.1).map fun x => x.2.2).foldl o4 []), ow eIs [.slice a42 (f0 (fun t => inR t 0 9) d4).length c42] (f0 (fun t => inR t 0 9) d4), ow j6 [.slice a40 (w6 d8 (fzF (f0 (fun t => inR t 0 9) d4) d4)).length c40] (w6 d8 (fzF (f0 (fun t => inR t 0 9) d4) d4)), pt b10 125 [.slice a30_1 (fzV (f0 (fun t => inR t 0 9) d4) d4).length c30_1, .slice a30_2 (fzX (f0 (fun t => inR t 0 9) d4) d4).length c30_2], ow j6 [.slice a30_0 (fzF (f0 (fun t => inR t 0 9) d4) d4).length c30_0] (fzF (f0 (fun t => inR t 0 9) d4) d4), ow eIs [.slice a30_1 (fzV (f0 (fun t => inR t 0 9) d4) d4).length c30_1] (fzV (f0 (fun t => inR t 0 9) d4) d4), ow eIs [.slice a30_2 (fzX (f0 (fun t => inR t 0 9) d4) d4).length c30_2] (fzX (f0 (fun t => inR t 0 9) d4) d4), pt b7 61 [.slice o2 i7.length o0, .slice l3 d4.length l0]]) (fun g => (C6 l d8 (w6 d8 (fzF (f0 (fun t => inR t 0 9) d4) d4)) (f0 (fun t => inR t 0 9) d4)).2.2.2.length - g.1) (0, (some ⟨b44, 0, none⟩), 0, 0) ⟨Nat.zero_le _, by simp⟩ ⟨rfl, rfl, rfl, rfl, rfl, trivial⟩ (.refl _) (fun g pg => ?_)))))))))))))))))
    obtain ⟨g, aA0_0, mA0_0, cA0_0⟩ := g
    try dsimp only at pg
    try dsimp only
    obtain ⟨pk, pa⟩ := pg
    have jf := a3b (m := ((C6 l d8 (w6 d8 (fzF (f0 (fun t => inR t 0 9) d4) d4)) (f0 (fun t => inR t 0 9) d4)).2.2.2.take g).map fun x => x.2.2) (x := [])
    have jt := List.length_take_le g (C6 l d8 (w6 d8 (fzF (f0 (fun t => inR t 0 9) d4) d4)) (f0 (fun t => inR t 0 9) d4)).2.2.2
    have jm : (((C6 l d8 (w6 d8 (fzF (f0 (fun t => inR t 0 9) d4) d4)) (f0 (fun t => inR t 0 9) d4)).2.2.2.take g).map fun x => x.2.2).length = ((C6 l d8 (w6 d8 (fzF (f0 (fun t => inR t 0 9) d4) d4)) (f0 (fun t => inR t 0 9) d4)).2.2.2.take g).length := List.length_map ..
    have j0 : ([] : List (Int × List Int)).length = 0 := rfl
    have jul : (C6 l d8 (w6 d8 (fzF (f0 (fun t => inR t 0 9) d4) d4)) (f0 (fun t => inR t 0 9) d4)).2.2.2.length ≤ 5324 := hU.n.len.1
    refine Ent.lenow m0 fun eaA0_0 laA0_0 => ?_
    subst eaA0_0
    refine Eq_ (Ew Z4 (Emv rfl rfl (Emv rfl rfl (Ey rfl ((Y.len us_Lines rfl).yd) (Ey rfl ((Y.lss rfl rfl).yd) (Ent.d (fun q48 => ?_) (fun q48 => ?_)))))))
    ·refine Eu (E.ct rfl (E.skipc (Et (Eq_ (E.block (Ez Z8 (Emv rfl rfl (Emv rfl rfl (Emv rfl rfl ?_)))))))))
     obtain ⟨eb54, eo54, ec54, ea54, er54, el54, eh54⟩ := rb1.elem g om
     obtain ⟨xa54_0, xc54_0, xa54_1, xc54_1, rfl, ei54_0, ei54_1, xh54_0, ei54_3, xh54_1⟩ := Ro.pLine er54
     have := xh54_0.slen.2
     have := xh54_1.slen.2
     refine Ey rfl ((Y.ix us_Lines ty_Line rfl ea54 rfl g rfl om).yd) (Ey rfl ((Y.fld fo_Line_2 ty_Fact dc rfl).yd) (Ey rfl (Y.ldS (cs := [_, _]) ty_Fact rfl ((eh54 _).sub (cs' := [_, _]) 3 rfl) rfl) (Est rfl (N.call (U7 om (b2j hU) (Nat.le_trans (H6 (hU.n.ok ((C6 l d8 (w6 d8 (fzF (f0 (fun t => inR t 0 9) d4) d4)) (f0 (fun t => inR t 0 9) d4)).2.2.2[g]) (List.getElem_mem (show g < (C6 l d8 (w6 d8 (fzF (f0 (fun t => inR t 0 9) d4) d4)) (f0 (fun t => inR t 0 9) d4)).2.2.2.length by omega)))) dc)) rfl rfl rfl dc rfl (fun w Lp hA => ⟨hA.ow m0, ei54_3, hA.ro xh54_1⟩)) (fun k57 _ => ?_))))
     obtain ⟨a57, m57, c57⟩ := k57
     refine Ent.lenow m0 fun e57 l57 => ?_
     subst e57
     refine Eas rfl rfl (En (E.bln (Et (Ez Z3 (Emv rfl rfl (Ey rfl ((Y.add rfl rfl om om).yd) (Eas rfl rfl (Eu (Ent.p1 (Ent.drop (Ent.cv (congrArg (ow j6 [_]) (show o4 ((((C6 l d8 (w6 d8 (fzF (f0 (fun t => inR t 0 9) d4) d4)) (f0 (fun t => inR t 0 9) d4)).2.2.2.take g).map fun x => x.2.2).foldl o4 []) ((((C6 l d8 (w6 d8 (fzF (f0 (fun t => inR t 0 9) d4) d4)) (f0 (fun t => inR t 0 9) d4)).2.2.2)[g].2.2.1), (((C6 l d8 (w6 d8 (fzF (f0 (fun t => inR t 0 9) d4) d4)) (f0 (fun t => inR t 0 9) d4)).2.2.2)[g].2.2.2)) = (((C6 l d8 (w6 d8 (fzF (f0 (fun t => inR t 0 9) d4) d4)) (f0 (fun t => inR t 0 9) d4)).2.2.2.take (g + 1)).map fun x => x.2.2).foldl o4 [] from by exact b1I om)) (Ent.p7 (Ent.p7 (Ent.p7 (Ent.p7 (Ent.p7 (Ent.p7 (Ent.p7 (Ent.p7 ?_)))))))))))))))))))
     exact Ea (g + 1, a57, (o4 ((((C6 l d8 (w6 d8 (fzF (f0 (fun t => inR t 0 9) d4) d4)) (f0 (fun t => inR t 0 9) d4)).2.2.2.take g).map fun x => x.2.2).foldl o4 []) ((((C6 l d8 (w6 d8 (fzF (f0 (fun t => inR t 0 9) d4) d4)) (f0 (fun t => inR t 0 9) d4)).2.2.2)[g].2.2.1), (((C6 l d8 (w6 d8 (fzF (f0 (fun t => inR t 0 9) d4) d4)) (f0 (fun t => inR t 0 9) d4)).2.2.2)[g].2.2.2))).length, c57) ⟨oz, trivial⟩
    ·refine Eu (E.cf rfl (E.exit (E.the (E.the (E.blh (Et (Eq_ (E.mid (κ := Nat × Option Addr × Nat × Option Addr × Nat) (fun _ => True) (fun kM => [(16, .bool ((t7 d4 ((((C6 l d8 (w6 d8 (fzF (f0 (fun t => inR t 0 9) d4) d4)) (f0 (fun t => inR t 0 9) d4)).2.2.2.take g).map fun x => x.2.2).foldl o4 [])).any (K2 i7 (i7.map (B4 ((fzV (f0 (fun t => inR t 0 9) d4) d4), (fzX (f0 (fun t => inR t 0 9) d4) d4)))))))]) (fun kM => [pt kM.1 125 [.slice kM.2.1 ((G5 (t7 d4 ((((C6 l d8 (w6 d8 (fzF (f0 (fun t => inR t 0 9) d4) d4)) (f0 (fun t => inR t 0 9) d4)).2.2.2.take g).map fun x => x.2.2).foldl o4 [])) i7 (i7.map (B4 ((fzV (f0 (fun t => inR t 0 9) d4) d4), (fzX (f0 (fun t => inR t 0 9) d4) d4))))).1).length kM.2.2.1, .slice kM.2.2.2.1 ((G5 (t7 d4 ((((C6 l d8 (w6 d8 (fzF (f0 (fun t => inR t 0 9) d4) d4)) (f0 (fun t => inR t 0 9) d4)).2.2.2.take g).map fun x => x.2.2).foldl o4 [])) i7 (i7.map (B4 ((fzV (f0 (fun t => inR t 0 9) d4) d4), (fzX (f0 (fun t => inR t 0 9) d4) d4))))).2).length kM.2.2.2.2], ow eIs [.slice kM.2.1 ((G5 (t7 d4 ((((C6 l d8 (w6 d8 (fzF (f0 (fun t => inR t 0 9) d4) d4)) (f0 (fun t => inR t 0 9) d4)).2.2.2.take g).map fun x => x.2.2).foldl o4 [])) i7 (i7.map (B4 ((fzV (f0 (fun t => inR t 0 9) d4) d4), (fzX (f0 (fun t => inR t 0 9) d4) d4))))).1).length kM.2.2.1] ((G5 (t7 d4 ((((C6 l d8 (w6 d8 (fzF (f0 (fun t => inR t 0 9) d4) d4)) (f0 (fun t => inR t 0 9) d4)).2.2.2.take g).map fun x => x.2.2).foldl o4 [])) i7 (i7.map (B4 ((fzV (f0 (fun t => inR t 0 9) d4) d4), (fzX (f0 (fun t => inR t 0 9) d4) d4))))).1), ow eIs [.slice kM.2.2.2.1 ((G5 (t7 d4 ((((C6 l d8 (w6 d8 (fzF (f0 (fun t => inR t 0 9) d4) d4)) (f0 (fun t => inR t 0 9) d4)).2.2.2.take g).map fun x => x.2.2).foldl o4 [])) i7 (i7.map (B4 ((fzV (f0 (fun t => inR t 0 9) d4) d4), (fzX (f0 (fun t => inR t 0 9) d4) d4))))).2).length kM.2.2.2.2] ((G5 (t7 d4 ((((C6 l d8 (w6 d8 (fzF (f0 (fun t => inR t 0 9) d4) d4)) (f0 (fun t => inR t 0 9) d4)).2.2.2.take g).map fun x => x.2.2).foldl o4 [])) i7 (i7.map (B4 ((fzV (f0 (fun t => inR t 0 9) d4) d4), (fzX (f0 (fun t => inR t 0 9) d4) d4))))).2), ow j6 [.slice aA0_0 ((((C6 l d8 (w6 d8 (fzF (f0 (fun t => inR t 0 9) d4) d4)) (f0 (fun t => inR t 0 9) d4)).2.2.2.take g).map fun x => x.2.2).foldl o4 []).length cA0_0] ((((C6 l d8 (w6 d8 (fzF (f0 (fun t => inR t 0 9) d4) d4)) (f0 (fun t => inR t 0 9) d4)).2.2.2.take g).map fun x => x.2.2).foldl o4 []), ow eIs [.slice a42 (f0 (fun t => inR t 0 9) d4).length c42] (f0 (fun t => inR t 0 9) d4), ow j6 [.slice a40 (w6 d8 (fzF (f0 (fun t => inR t 0 9) d4) d4)).length c40] (w6 d8 (fzF (f0 (fun t => inR t 0 9) d4) d4)), pt b10 125 [.slice a30_1 (fzV (f0 (fun t => inR t 0 9) d4) d4).length c30_1, .slice a30_2 (fzX (f0 (fun t => inR t 0 9) d4) d4).length c30_2], ow j6 [.slice a30_0 (fzF (f0 (fun t => inR t 0 9) d4) d4).length c30_0] (fzF (f0 (fun t => inR t 0 9) d4) d4), ow eIs [.slice a30_1 (fzV (f0 (fun t => inR t 0 9) d4) d4).length c30_1] (fzV (f0 (fun t => inR t 0 9) d4) d4), ow eIs [.slice a30_2 (fzX (f0 (fun t => inR t 0 9) d4) d4).length c30_2] (fzX (f0 (fun t => inR t 0 9) d4) d4), pt b7 61 [.slice o2 i7.length o0, .slice l3 d4.length l0]]) ?_ (fun kM _ => ?_)))))))))
     ·refine D.region (fun j => !(Nat.beq j 10)) mixed (Dy 0 rfl (Y.ldS (cs := [_, _]) ty_Query rfl (Has.pt (mS (mS (mS (mS (mS (mS (mS m0)))))))) rfl) (Dyp 1 rfl (Y.mv rfl) (Dy 2 rfl (Y.ldS (cs := [_, _]) ty_Query rfl (Has.pt (mS (mS (mS (mS (mS (mS (mS m0)))))))) rfl) (Dy 3 rfl (Y.ldS (cs := [_, _]) ty_Binding rfl (Has.pt (mS (mS (mS m0)))) rfl) (D.ch2 (i := 4) (j := 9) kr ?_ ?_)))))
      ·refine D.pk 4 rfl rfl (fun _ => rfl) (N.call (a2u (Nat.le_trans jq.2.1 dc)) rfl rfl rfl dc rfl (fun w Lp hA => ⟨hA.ro o6, hA.ro n8, hA.ow (mS (mS (mS (mS (mS m0))))), hA.ow (mS (mS (mS (mS (mS (mS m0))))))⟩)) (fun k63 _ => ?_)
       obtain ⟨a63, m63, c63⟩ := k63
       refine Ent.lenow m0 fun e63 l63 => ?_
       subst e63
       refine D.ch2 (i := 5) (j := 9) kr ?_ ?_
       ·refine D.pk 5 rfl rfl (fun _ => rfl) (N.call (a0w jq.1 jq.2.2 (fun a _ => by rw [a2J hU om]; exact a1I hU a) (Nat.le_trans jq.2.1 dc)) rfl rfl rfl dc rfl (fun w Lp hA => ⟨hA.ro o6, hA.ro n8, hA.ow (mS m0), hA.ow m0⟩)) (fun k64 _ => ?_)
        obtain ⟨⟨a64_0, m64_0, c64_0⟩, ⟨a64_1, m64_1, c64_1⟩⟩ := k64
        refine Ent.lenow m0 fun e64_0 l64_0 => ?_
        subst e64_0
        refine Ent.lenow (mS m0) fun e64_1 l64_1 => ?_
        subst e64_1
        refine Dyp 6 rfl (Y.mv rfl) (Dyp 7 rfl (Y.ext rfl rfl) (Dyp 8 rfl (Y.ext rfl rfl) (D.st 9 rfl rfl kr (fun _ => rfl) (N.alloc ty_Binding dc) (fun b15 _ => (D.st 10 rfl rfl kr (fun h => by cases h) (N.sto (vs := [_, _]) (cs' := [_, _]) ty_Binding rfl rfl rfl rfl rfl bl rfl) (fun _ _ => (Dyp 11 rfl (Y.as rfl) (D.done kr (Ent.p3 (Ent.drop (Ent.p10 (Ent.p10 (Ent.p10 (Ent.p10 (Ent.p10 (Ent.p10 (Ent.p10 (Ent.p10 (Ent.p10 (Ent.p10 (Ent.p10 ?_)))))))))))))))))))))
        exact E.mdn (b15, a64_0, c64_0, a64_1, c64_1) trivial ⟨rfl, trivial⟩ (.refl _)
       ·refine D.pk 9 rfl rfl (fun _ => rfl) (N.alloc ty_Binding dc) (fun b15 _ => (D.st 5 rfl rfl kr (fun _ => rfl) (N.call (a0w jq.1 jq.2.2 (fun a _ => by rw [a2J hU om]; exact a1I hU a) (Nat.le_trans jq.2.1 dc)) rfl rfl rfl dc rfl (fun w Lp hA => ⟨hA.ro o6, hA.ro n8, hA.ow (mS (mS m0)), hA.ow (mS m0)⟩)) (fun k64 _ => ?_)))
        obtain ⟨⟨a64_0, m64_0, c64_0⟩, ⟨a64_1, m64_1, c64_1⟩⟩ := k64
        refine Ent.lenow m0 fun e64_0 l64_0 => ?_
        subst e64_0
        refine Ent.lenow (mS m0) fun e64_1 l64_1 => ?_
        subst e64_1
        refine Dyp 6 rfl (Y.mv rfl) (Dyp 7 rfl (Y.ext rfl rfl) (Dyp 8 rfl (Y.ext rfl rfl) (Ent.p2 (D.st 10 rfl rfl kr (fun h => by cases h) (N.sto (vs := [_, _]) (cs' := [_, _]) ty_Binding rfl rfl rfl rfl rfl bl rfl) (fun _ _ => (Dyp 11 rfl (Y.as rfl) (D.done kr (Ent.p3 (Ent.drop (Ent.p10 (Ent.p10 (Ent.p10 (Ent.p10 (Ent.p10 (Ent.p10 (Ent.p10 (Ent.p10 (Ent.p10 (Ent.p10 (Ent.p10 ?_))))))))))))))))))))
        exact E.mdn (b15, a64_0, c64_0, a64_1, c64_1) trivial ⟨rfl, trivial⟩ (.refl _)
      ·refine D.pk 9 rfl rfl (fun _ => rfl) (N.alloc ty_Binding dc) (fun b15 _ => (D.st 4 rfl rfl kr (fun _ => rfl) (N.call (a2u (Nat.le_trans jq.2.1 dc)) rfl rfl rfl dc rfl (fun w Lp hA => ⟨hA.ro o6, hA.ro n8, hA.ow (mS (mS (mS (mS (mS (mS m0)))))), hA.ow (mS (mS (mS (mS (mS (mS (mS m0)))))))⟩)) (fun k63 _ => ?_)))
       obtain ⟨a63, m63, c63⟩ := k63
       refine Ent.lenow m0 fun e63 l63 => ?_
       subst e63
       refine D.st 5 rfl rfl kr (fun _ => rfl) (N.call (a0w jq.1 jq.2.2 (fun a _ => by rw [a2J hU om]; exact a1I hU a) (Nat.le_trans jq.2.1 dc)) rfl rfl rfl dc rfl (fun w Lp hA => ⟨hA.ro o6, hA.ro n8, hA.ow (mS (mS m0)), hA.ow m0⟩)) (fun k64 _ => ?_)
       obtain ⟨⟨a64_0, m64_0, c64_0⟩, ⟨a64_1, m64_1, c64_1⟩⟩ := k64
       refine Ent.lenow m0 fun e64_0 l64_0 => ?_
       subst e64_0
       refine Ent.lenow (mS m0) fun e64_1 l64_1 => ?_
       subst e64_1
       refine Dyp 6 rfl (Y.mv rfl) (Dyp 7 rfl (Y.ext rfl rfl) (Dyp 8 rfl (Y.ext rfl rfl) (Ent.p3 (D.st 10 rfl rfl kr (fun h => by cases h) (N.sto (vs := [_, _]) (cs' := [_, _]) ty_Binding rfl rfl rfl rfl rfl bl rfl) (fun _ _ => (Dyp 11 rfl (Y.as rfl) (D.done kr (Ent.p3 (Ent.drop (Ent.p10 (Ent.p10 (Ent.p10 (Ent.p10 (Ent.p10 (Ent.p10 (Ent.p10 (Ent.p10 (Ent.p10 (Ent.p10 (Ent.p10 ?_))))))))))))))))))))
       exact E.mdn (b15, a64_0, c64_0, a64_1, c64_1) trivial ⟨rfl, trivial⟩ (.refl _)
     ·obtain ⟨b15, a64_0, c64_0, a64_1, c64_1⟩ := kM
      try dsimp only
      refine Et (Ew Z2 (Emv rfl rfl (Eas rfl rfl ?_)))
      exact Eu (E.ret (F.r1 hB1 rfl rfl () trivial (congrArg Value.bool (by rw [a2J hU om]; exact a8B (q := (i7, d4)) q20 q25 q11)) (J := _) (.refl _) (.inl rfl)))
   ·refine Eu (Eq_ (Ew Z2 (Emv rfl rfl (Ey rfl ((Y.not (b := false) rfl).yd) (Eu (E.ct rfl (Ew Z1 (Eas rfl rfl ?_))))))))
    exact Eu (E.ret (E.thr (Fb rfl rfl (by exact a8i (q := (i7, d4)) q11))))
  ·refine Ey rfl ((Y.not (b := false) rfl).yd) (Ey rfl ((Y.pkf rfl rfl).yd) (Eu (E.ct rfl (Ew Z1 (Eas rfl rfl ?_)))))
   exact Eu (E.ret (E.thr (Fb rfl rfl (by exact a8F q25))))
 ·refine Ey rfl ((Y.not (b := false) rfl).yd) (Emv rfl rfl (Es rfl (Es rfl (Es rfl (Es rfl (Ey rfl ((Y.pkt rfl rfl).yd) (Eu (E.ct rfl (Ew Z1 (Eas rfl rfl ?_))))))))))
  exact Eu (E.ret (E.thr (Fb rfl rfl (by exact a8u q20))))
end Go.Proofs.YtdopeopehgdccaaGreat
