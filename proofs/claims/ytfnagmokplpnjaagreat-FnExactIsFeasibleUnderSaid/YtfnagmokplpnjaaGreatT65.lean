import Derived.Test.YtfnagmokplpnjaaGreatBs
import Derived.Test.YtfnagmokplpnjaaGreatT45
import Derived.Test.YtfnagmokplpnjaaGreatT23
import Derived.Test.YtfnagmokplpnjaaGreatT22
import Derived.Test.YtfnagmokplpnjaaGreatT15
import Derived.Test.YtfnagmokplpnjaaGreatT17
import Derived.Test.YtfnagmokplpnjaaGreatT12
import Derived.Test.YtfnagmokplpnjaaGreatT11
import Derived.Test.YtfnagmokplpnjaaGreatT1
import Derived.Test.YtfnagmokplpnjaaGreatBc
import Derived.Test.YtfnagmokplpnjaaGreatT5
import Derived.Test.YtfnagmokplpnjaaGreatDr
import Derived.Test.YtfnagmokplpnjaaGreatEn
namespace Go.Proofs.YtfnagmokplpnjaaGreat
open Go.RowKit
set_option linter.unusedVariables false
set_option linter.unusedSimpArgs false
set_option maxHeartbeats 2000000
attribute [local irreducible] Nop Yd Yp Ent Has Tr FnP FnP2 Src listsF opnF opn1 opnR chainB uFin closeF closeIt fzF fzV fzX fzB termsF bindsF findV hitB valO
set_option maxRecDepth 100000 in
theorem t_impl_IsFeasibleUnder {a_s : Option Addr} {m_s c_s : Nat} {s : List Int} {a_l : Option Addr} {m_l c_l : Nat} {l : List (Int × List Int × Int × Int × Int)} {a_rules : Option Addr} {m_rules c_rules : Nat} {rules : List (Int × Int × List Int)} {a_q_Head : Option Addr} {m_q_Head c_q_Head : Nat} {q_Head : List Int} {a_q_Atoms : Option Addr} {m_q_Atoms c_q_Atoms : Nat} {q_Atoms : List (Int × List Int)} (hz : totL (fun x => x.2.length) q_Atoms ≤ 1048576) : Tr Tryz.prog 53 [.slice a_s m_s c_s, .slice a_l m_l c_l, .slice a_rules m_rules c_rules, .agg #[.slice a_q_Head m_q_Head c_q_Head, .slice a_q_Atoms m_q_Atoms c_q_Atoms]] (fun w L => Ro w L eIs [.slice a_s m_s c_s] s ∧ Ro w L eMethods [.slice a_l m_l c_l] l ∧ Ro w L eRules [.slice a_rules m_rules c_rules] rules ∧ Ro w L eIs [.slice a_q_Head m_q_Head c_q_Head] q_Head ∧ Ro w L eAtoms [.slice a_q_Atoms m_q_Atoms c_q_Atoms] q_Atoms) [] (κ := Unit) (fun k => True) (fun k => .bool (feasU s l rules (q_Head, q_Atoms))) (fun k => []) := by
  refine Tr.intro Tryz.func53 rfl (n := 54) rfl (by decide +kernel) bl (fr := [(0, .slice a_s m_s c_s), (1, .slice a_l m_l c_l), (2, .slice a_rules m_rules c_rules), (3, .agg #[.slice a_q_Head m_q_Head c_q_Head, .slice a_q_Atoms m_q_Atoms c_q_Atoms])]) rfl fun w L hR => ?_
  obtain ⟨hs, hl, hrules, hq_Head, hq_Atoms⟩ := hR
  obtain ⟨rfl, ls⟩ := hs.slen
  obtain ⟨rfl, ll⟩ := hl.slen
  obtain ⟨rfl, lrules⟩ := hrules.slen
  obtain ⟨rfl, lq_Head⟩ := hq_Head.slen
  obtain ⟨rfl, lq_Atoms⟩ := hq_Atoms.slen
  refine Eq_ (Er (l := [0, 1]) rfl (Est rfl (N.box (cs := [_, _]) rfl dc rfl) (fun b7 _ => (Eas rfl rfl (En (Et (Eq_ (Eq_ (Er (l := [0, 1, 2, 3, 4, 5, 6, 7, 8, 9, 10]) rfl (Emv rfl rfl (Emv rfl rfl (Emv rfl rfl (Est rfl (N.call0 t_impl_areUnder rfl rfl rfl dc (fun w Lp hA => ⟨hA.ro hs, hA.ro hl, hA.ro hrules⟩)) (fun _ _ => (Ent.b (fun q17 => ?_) (fun q17 => ?_))))))))))))))))
  · refine Ey rfl ((Y.not (b := true) rfl).yd) (Emv rfl rfl (Emv rfl rfl (Ey rfl (Y.ldS (cs := [_, _]) ty_Query rfl (Has.pt m0) rfl) (Est rfl (N.call0 (t_impl_IsQuery fo) rfl rfl rfl dc (fun w Lp hA => ⟨hA.ro hs, hA.ro hq_Head, hA.ro hq_Atoms⟩)) (fun _ _ => (Ent.b (fun q22 => ?_) (fun q22 => ?_)))))))
    · refine Ey rfl ((Y.not (b := true) rfl).yd) (Ey rfl ((Y.pkf rfl rfl).yd) (En (Et (E.cf rfl (E.skipc (Et (Eq_ (Er (l := [0, 1, 2, 3, 4, 5, 6, 7, 8, 9]) rfl (Ey rfl (Y.ldS (cs := [_, _]) ty_Query rfl (Has.pt m0) rfl) (Est rfl (N.call (t_impl_FreezeQuery fo) rfl rfl rfl dc rfl (fun w Lp hA => ⟨hA.ro hq_Head, hA.ro hq_Atoms⟩)) (fun k27 _ => ?_)))))))))))
      obtain ⟨⟨a27_0, m27_0, c27_0⟩, ⟨a27_1, m27_1, c27_1⟩, ⟨a27_2, m27_2, c27_2⟩⟩ := k27
      refine Ent.lenow m0 fun e27_0 l27_0 => ?_
      subst e27_0
      refine Ent.lenow (mS m0) fun e27_1 l27_1 => ?_
      subst e27_1
      refine Ent.lenow (mS (mS m0)) fun e27_2 l27_2 => ?_
      subst e27_2
      refine Emv rfl rfl (Ey rfl ((Y.ext rfl rfl).yd) (Ey rfl ((Y.ext rfl rfl).yd) (Ey rfl ((Y.ext rfl rfl).yd) (Est rfl (N.alloc ty_Binding dc) (fun b10 _ => (Eas rfl rfl (Est rfl (N.sto (vs := [_, _]) (cs' := [_, _]) ty_Binding rfl rfl rfl rfl rfl bl rfl) (fun _ _ => (Eas rfl rfl (Ent.b (fun q11 => ?_) (fun q11 => ?_)))))))))))
      · obtain ⟨hm0, hr0⟩ : okMeths s l = true ∧ okRules s rules = true := by simpa using q17
        have jq := okQuery_h (s := s) (q := (q_Head, q_Atoms)) q22
        have hf1 : okFacts s (fzF (termsF (fun t => inR t 0 9) q_Atoms) q_Atoms) = true := fz_ok (q := (q_Head, q_Atoms)) q22 q11
        have hF := close_fin hr0 hf1
        have hU := uFin_invF (seeds := (termsF (fun t => inR t 0 9) q_Atoms)) hm0 hr0 hF
        refine En (Et (Eq_ (Eq_ (Er (l := [0, 1]) rfl (Emv rfl rfl (Ey rfl ((Y.not (b := true) rfl).yd) (En (Et (E.cf rfl (E.skipc (Et (Eq_ (E.mid (κ := Nat × Option Addr × Nat × Option Addr × Nat × Nat × Option Addr × Nat × Option Addr × Nat × Option Addr × Nat × Option Addr × Nat × Option Addr × Nat) (fun _ => True) (fun kM => [(13, .bool ((bindsF q_Atoms ((uFin l rules (closeF rules (fzF (termsF (fun t => inR t 0 9) q_Atoms) q_Atoms)) (termsF (fun t => inR t 0 9) q_Atoms)).1)).any (hitB q_Head (q_Head.map (valO ((fzV (termsF (fun t => inR t 0 9) q_Atoms) q_Atoms), (fzX (termsF (fun t => inR t 0 9) q_Atoms) q_Atoms)))))))]) (fun kM => [pt kM.1 156 [.slice kM.2.1 ((findV (bindsF q_Atoms ((uFin l rules (closeF rules (fzF (termsF (fun t => inR t 0 9) q_Atoms) q_Atoms)) (termsF (fun t => inR t 0 9) q_Atoms)).1)) q_Head (q_Head.map (valO ((fzV (termsF (fun t => inR t 0 9) q_Atoms) q_Atoms), (fzX (termsF (fun t => inR t 0 9) q_Atoms) q_Atoms))))).1).length kM.2.2.1, .slice kM.2.2.2.1 ((findV (bindsF q_Atoms ((uFin l rules (closeF rules (fzF (termsF (fun t => inR t 0 9) q_Atoms) q_Atoms)) (termsF (fun t => inR t 0 9) q_Atoms)).1)) q_Head (q_Head.map (valO ((fzV (termsF (fun t => inR t 0 9) q_Atoms) q_Atoms), (fzX (termsF (fun t => inR t 0 9) q_Atoms) q_Atoms))))).2).length kM.2.2.2.2.1], ow eIs [.slice kM.2.1 ((findV (bindsF q_Atoms ((uFin l rules (closeF rules (fzF (termsF (fun t => inR t 0 9) q_Atoms) q_Atoms)) (termsF (fun t => inR t 0 9) q_Atoms)).1)) q_Head (q_Head.map (valO ((fzV (termsF (fun t => inR t 0 9) q_Atoms) q_Atoms), (fzX (termsF (fun t => inR t 0 9) q_Atoms) q_Atoms))))).1).length kM.2.2.1] ((findV (bindsF q_Atoms ((uFin l rules (closeF rules (fzF (termsF (fun t => inR t 0 9) q_Atoms) q_Atoms)) (termsF (fun t => inR t 0 9) q_Atoms)).1)) q_Head (q_Head.map (valO ((fzV (termsF (fun t => inR t 0 9) q_Atoms) q_Atoms), (fzX (termsF (fun t => inR t 0 9) q_Atoms) q_Atoms))))).1), ow eIs [.slice kM.2.2.2.1 ((findV (bindsF q_Atoms ((uFin l rules (closeF rules (fzF (termsF (fun t => inR t 0 9) q_Atoms) q_Atoms)) (termsF (fun t => inR t 0 9) q_Atoms)).1)) q_Head (q_Head.map (valO ((fzV (termsF (fun t => inR t 0 9) q_Atoms) q_Atoms), (fzX (termsF (fun t => inR t 0 9) q_Atoms) q_Atoms))))).2).length kM.2.2.2.2.1] ((findV (bindsF q_Atoms ((uFin l rules (closeF rules (fzF (termsF (fun t => inR t 0 9) q_Atoms) q_Atoms)) (termsF (fun t => inR t 0 9) q_Atoms)).1)) q_Head (q_Head.map (valO ((fzV (termsF (fun t => inR t 0 9) q_Atoms) q_Atoms), (fzX (termsF (fun t => inR t 0 9) q_Atoms) q_Atoms))))).2), pt kM.2.2.2.2.2.1 145 [.slice a_l l.length c_l, .slice a_rules rules.length c_rules, .slice kM.2.2.2.2.2.2.1 (closeF rules (fzF (termsF (fun t => inR t 0 9) q_Atoms) q_Atoms)).length kM.2.2.2.2.2.2.2.1, .slice kM.2.2.2.2.2.2.2.2.1 (((uFin l rules (closeF rules (fzF (termsF (fun t => inR t 0 9) q_Atoms) q_Atoms)) (termsF (fun t => inR t 0 9) q_Atoms)).1).length) kM.2.2.2.2.2.2.2.2.2.1, .slice kM.2.2.2.2.2.2.2.2.2.2.1 (((uFin l rules (closeF rules (fzF (termsF (fun t => inR t 0 9) q_Atoms) q_Atoms)) (termsF (fun t => inR t 0 9) q_Atoms)).2.1).length) kM.2.2.2.2.2.2.2.2.2.2.2.1, .slice kM.2.2.2.2.2.2.2.2.2.2.2.2.1 (((uFin l rules (closeF rules (fzF (termsF (fun t => inR t 0 9) q_Atoms) q_Atoms)) (termsF (fun t => inR t 0 9) q_Atoms)).2.2.1).length) kM.2.2.2.2.2.2.2.2.2.2.2.2.2.1, .int .i64 0, .slice kM.2.2.2.2.2.2.2.2.2.2.2.2.2.2.1 (((uFin l rules (closeF rules (fzF (termsF (fun t => inR t 0 9) q_Atoms) q_Atoms)) (termsF (fun t => inR t 0 9) q_Atoms)).2.2.2).length) kM.2.2.2.2.2.2.2.2.2.2.2.2.2.2.2], ow eFacts [.slice kM.2.2.2.2.2.2.2.2.1 (((uFin l rules (closeF rules (fzF (termsF (fun t => inR t 0 9) q_Atoms) q_Atoms)) (termsF (fun t => inR t 0 9) q_Atoms)).1).length) kM.2.2.2.2.2.2.2.2.2.1] ((uFin l rules (closeF rules (fzF (termsF (fun t => inR t 0 9) q_Atoms) q_Atoms)) (termsF (fun t => inR t 0 9) q_Atoms)).1), ow eIs [.slice kM.2.2.2.2.2.2.2.2.2.2.1 (((uFin l rules (closeF rules (fzF (termsF (fun t => inR t 0 9) q_Atoms) q_Atoms)) (termsF (fun t => inR t 0 9) q_Atoms)).2.1).length) kM.2.2.2.2.2.2.2.2.2.2.2.1] ((uFin l rules (closeF rules (fzF (termsF (fun t => inR t 0 9) q_Atoms) q_Atoms)) (termsF (fun t => inR t 0 9) q_Atoms)).2.1), ow eAccesss [.slice kM.2.2.2.2.2.2.2.2.2.2.2.2.1 (((uFin l rules (closeF rules (fzF (termsF (fun t => inR t 0 9) q_Atoms) q_Atoms)) (termsF (fun t => inR t 0 9) q_Atoms)).2.2.1).length) kM.2.2.2.2.2.2.2.2.2.2.2.2.2.1] ((uFin l rules (closeF rules (fzF (termsF (fun t => inR t 0 9) q_Atoms) q_Atoms)) (termsF (fun t => inR t 0 9) q_Atoms)).2.2.1), ow eLines [.slice kM.2.2.2.2.2.2.2.2.2.2.2.2.2.2.1 (((uFin l rules (closeF rules (fzF (termsF (fun t => inR t 0 9) q_Atoms) q_Atoms)) (termsF (fun t => inR t 0 9) q_Atoms)).2.2.2).length) kM.2.2.2.2.2.2.2.2.2.2.2.2.2.2.2] ((uFin l rules (closeF rules (fzF (termsF (fun t => inR t 0 9) q_Atoms) q_Atoms)) (termsF (fun t => inR t 0 9) q_Atoms)).2.2.2), ow eFacts [.slice kM.2.2.2.2.2.2.1 (closeF rules (fzF (termsF (fun t => inR t 0 9) q_Atoms) q_Atoms)).length kM.2.2.2.2.2.2.2.1] (closeF rules (fzF (termsF (fun t => inR t 0 9) q_Atoms) q_Atoms)), pt b10 156 [.slice a27_1 (fzV (termsF (fun t => inR t 0 9) q_Atoms) q_Atoms).length c27_1, .slice a27_2 (fzX (termsF (fun t => inR t 0 9) q_Atoms) q_Atoms).length c27_2], ow eFacts [.slice a27_0 (fzF (termsF (fun t => inR t 0 9) q_Atoms) q_Atoms).length c27_0] (fzF (termsF (fun t => inR t 0 9) q_Atoms) q_Atoms), ow eIs [.slice a27_1 (fzV (termsF (fun t => inR t 0 9) q_Atoms) q_Atoms).length c27_1] (fzV (termsF (fun t => inR t 0 9) q_Atoms) q_Atoms), ow eIs [.slice a27_2 (fzX (termsF (fun t => inR t 0 9) q_Atoms) q_Atoms).length c27_2] (fzX (termsF (fun t => inR t 0 9) q_Atoms) q_Atoms), pt b7 90 [.slice a_q_Head q_Head.length c_q_Head, .slice a_q_Atoms q_Atoms.length c_q_Atoms]]) ?_ (fun kM _ => ?_))))))))))))))
        · refine D.region (fun j => !(Nat.beq j 21)) mixed (Dy 0 rfl (Y.ldS (cs := [_, _]) ty_Query rfl (Has.pt (mS (mS (mS (mS m0))))) rfl) (Dyp 1 rfl (Y.mv rfl) (Dyp 2 rfl (Y.mv rfl) (Dyp 3 rfl (Y.mv rfl) (Dyp 4 rfl (Y.mv rfl) (Dy 6 rfl (Y.ldS (cs := [_, _]) ty_Query rfl (Has.pt (mS (mS (mS (mS m0))))) rfl) (Dy 13 rfl (Y.ldS (cs := [_, _]) ty_Query rfl (Has.pt (mS (mS (mS (mS m0))))) rfl) (Dy 14 rfl (Y.ldS (cs := [_, _]) ty_Binding rfl (Has.pt m0) rfl) (D.ch2 (i := 5) (j := 20) kr ?_ ?_)))))))))
          · refine D.pk 5 rfl rfl (fun _ => rfl) (N.call (t_impl_closed ⟨s, hr0, hf1⟩) rfl rfl rfl dc rfl (fun w Lp hA => ⟨hA.ro hrules, hA.ow (mS m0)⟩)) (fun k39 _ => ?_)
            obtain ⟨a39, m39, c39⟩ := k39
            refine Ent.lenow m0 fun e39 l39 => ?_
            subst e39
            refine D.ch2 (i := 7) (j := 20) kr ?_ ?_
            · refine D.pk 7 rfl rfl (fun _ => rfl) (N.call (t_impl_ConstantsOf fo) rfl rfl rfl dc rfl (fun w Lp hA => ⟨hA.ro hq_Head, hA.ro hq_Atoms⟩)) (fun k41 _ => ?_)
              obtain ⟨a41, m41, c41⟩ := k41
              refine Ent.lenow m0 fun e41 l41 => ?_
              subst e41
              refine D.ch2 (i := 8) (j := 20) kr ?_ ?_
              · refine D.pk 8 rfl rfl (fun _ => rfl) (N.call (t_impl_reachUnder ⟨s, hm0, hr0, hF⟩ (Nat.le_trans consts_few dc)) rfl rfl rfl dc rfl (fun w Lp hA => ⟨hA.ro hl, hA.ro hrules, hA.ow (mS m0), hA.ow m0⟩)) (fun k42 _ => ?_)
                obtain ⟨nb42, ⟨a42_0, m42_0, c42_0⟩, ⟨a42_1, m42_1, c42_1⟩, ⟨a42_2, m42_2, c42_2⟩, ⟨a42_3, m42_3, c42_3⟩⟩ := k42
                try dsimp only
                refine Ent.lenow (mS m0) fun e42_0 l42_0 => ?_
                subst e42_0
                refine Ent.lenow (mS (mS m0)) fun e42_1 l42_1 => ?_
                subst e42_1
                refine Ent.lenow (mS (mS (mS m0))) fun e42_2 l42_2 => ?_
                subst e42_2
                refine Ent.lenow (mS (mS (mS (mS m0)))) fun e42_3 l42_3 => ?_
                subst e42_3
                refine Dyp 9 rfl (Y.nil rfl) (Dyp 10 rfl (Y.fld fo_under_3 ty_Reached dc rfl) (Dyp 11 rfl (Y.fld fo_Reached_0 ty_Facts dc rfl) (Dy 12 rfl (Y.ld1 ty_Facts rfl (((Has.pt m0).sub (cs' := [_, _, _, _]) 3 rfl).sub (cs' := [_]) 0 rfl) rfl) (D.ch2 (i := 15) (j := 20) kr ?_ ?_))))
                · refine D.pk 15 rfl rfl (fun _ => rfl) (N.call (t_impl_TupleOf (Nat.le_trans jq.2.1 dc)) rfl rfl rfl dc rfl (fun w Lp hA => ⟨hA.ro hq_Head, hA.ro hq_Atoms, hA.ow (mS (mS (mS (mS (mS (mS (mS (mS (mS m0))))))))), hA.ow (mS (mS (mS (mS (mS (mS (mS (mS (mS (mS m0))))))))))⟩)) (fun k49 _ => ?_)
                  obtain ⟨a49, m49, c49⟩ := k49
                  refine Ent.lenow m0 fun e49 l49 => ?_
                  subst e49
                  refine D.ch2 (i := 16) (j := 20) kr ?_ ?_
                  · refine D.pk 16 rfl rfl (fun _ => rfl) (N.call (t_impl_FindMapping jq.1 jq.2.2 (fun a _ => uF_few hU a) (Nat.le_trans jq.2.1 dc)) rfl rfl rfl dc rfl (fun w Lp hA => ⟨hA.ro hq_Head, hA.ro hq_Atoms, hA.ow (mS (mS m0)), hA.ow m0⟩)) (fun k50 _ => ?_)
                    obtain ⟨⟨a50_0, m50_0, c50_0⟩, ⟨a50_1, m50_1, c50_1⟩⟩ := k50
                    refine Ent.lenow m0 fun e50_0 l50_0 => ?_
                    subst e50_0
                    refine Ent.lenow (mS m0) fun e50_1 l50_1 => ?_
                    subst e50_1
                    refine Dyp 17 rfl (Y.mv rfl) (Dyp 18 rfl (Y.ext rfl rfl) (Dyp 19 rfl (Y.ext rfl rfl) (D.st 20 rfl rfl kr (fun _ => rfl) (N.alloc ty_Binding dc) (fun b12 _ => (D.st 21 rfl rfl kr (fun h => by cases h) (N.sto (vs := [_, _]) (cs' := [_, _]) ty_Binding rfl rfl rfl rfl rfl bl rfl) (fun _ _ => (Dyp 22 rfl (Y.as rfl) (D.done kr (Ent.p3 (Ent.drop (Ent.p8 (Ent.drop (Ent.p13 (Ent.p13 (Ent.p13 (Ent.p13 (Ent.p13 (Ent.p13 (Ent.p13 (Ent.p13 (Ent.p13 (Ent.p13 (Ent.p13 (Ent.p13 (Ent.p13 (Ent.p13 ?_))))))))))))))))))))))))))
                    exact E.mdn (b12, a50_0, c50_0, a50_1, c50_1, nb42, a39, c39, a42_0, c42_0, a42_1, c42_1, a42_2, c42_2, a42_3, c42_3) trivial ⟨rfl, trivial⟩ (.refl _)
                  · refine D.pk 20 rfl rfl (fun _ => rfl) (N.alloc ty_Binding dc) (fun b12 _ => (D.st 16 rfl rfl kr (fun _ => rfl) (N.call (t_impl_FindMapping jq.1 jq.2.2 (fun a _ => uF_few hU a) (Nat.le_trans jq.2.1 dc)) rfl rfl rfl dc rfl (fun w Lp hA => ⟨hA.ro hq_Head, hA.ro hq_Atoms, hA.ow (mS (mS (mS m0))), hA.ow (mS m0)⟩)) (fun k50 _ => ?_)))
                    obtain ⟨⟨a50_0, m50_0, c50_0⟩, ⟨a50_1, m50_1, c50_1⟩⟩ := k50
                    refine Ent.lenow m0 fun e50_0 l50_0 => ?_
                    subst e50_0
                    refine Ent.lenow (mS m0) fun e50_1 l50_1 => ?_
                    subst e50_1
                    refine Dyp 17 rfl (Y.mv rfl) (Dyp 18 rfl (Y.ext rfl rfl) (Dyp 19 rfl (Y.ext rfl rfl) (Ent.p2 (D.st 21 rfl rfl kr (fun h => by cases h) (N.sto (vs := [_, _]) (cs' := [_, _]) ty_Binding rfl rfl rfl rfl rfl bl rfl) (fun _ _ => (Dyp 22 rfl (Y.as rfl) (D.done kr (Ent.p3 (Ent.drop (Ent.p8 (Ent.drop (Ent.p13 (Ent.p13 (Ent.p13 (Ent.p13 (Ent.p13 (Ent.p13 (Ent.p13 (Ent.p13 (Ent.p13 (Ent.p13 (Ent.p13 (Ent.p13 (Ent.p13 (Ent.p13 ?_)))))))))))))))))))))))))
                    exact E.mdn (b12, a50_0, c50_0, a50_1, c50_1, nb42, a39, c39, a42_0, c42_0, a42_1, c42_1, a42_2, c42_2, a42_3, c42_3) trivial ⟨rfl, trivial⟩ (.refl _)
                · refine D.pk 20 rfl rfl (fun _ => rfl) (N.alloc ty_Binding dc) (fun b12 _ => (D.st 15 rfl rfl kr (fun _ => rfl) (N.call (t_impl_TupleOf (Nat.le_trans jq.2.1 dc)) rfl rfl rfl dc rfl (fun w Lp hA => ⟨hA.ro hq_Head, hA.ro hq_Atoms, hA.ow (mS (mS (mS (mS (mS (mS (mS (mS (mS (mS m0)))))))))), hA.ow (mS (mS (mS (mS (mS (mS (mS (mS (mS (mS (mS m0)))))))))))⟩)) (fun k49 _ => ?_)))
                  obtain ⟨a49, m49, c49⟩ := k49
                  refine Ent.lenow m0 fun e49 l49 => ?_
                  subst e49
                  refine D.st 16 rfl rfl kr (fun _ => rfl) (N.call (t_impl_FindMapping jq.1 jq.2.2 (fun a _ => uF_few hU a) (Nat.le_trans jq.2.1 dc)) rfl rfl rfl dc rfl (fun w Lp hA => ⟨hA.ro hq_Head, hA.ro hq_Atoms, hA.ow (mS (mS (mS m0))), hA.ow m0⟩)) (fun k50 _ => ?_)
                  obtain ⟨⟨a50_0, m50_0, c50_0⟩, ⟨a50_1, m50_1, c50_1⟩⟩ := k50
                  refine Ent.lenow m0 fun e50_0 l50_0 => ?_
                  subst e50_0
                  refine Ent.lenow (mS m0) fun e50_1 l50_1 => ?_
                  subst e50_1
                  refine Dyp 17 rfl (Y.mv rfl) (Dyp 18 rfl (Y.ext rfl rfl) (Dyp 19 rfl (Y.ext rfl rfl) (Ent.p3 (D.st 21 rfl rfl kr (fun h => by cases h) (N.sto (vs := [_, _]) (cs' := [_, _]) ty_Binding rfl rfl rfl rfl rfl bl rfl) (fun _ _ => (Dyp 22 rfl (Y.as rfl) (D.done kr (Ent.p3 (Ent.drop (Ent.p8 (Ent.drop (Ent.p13 (Ent.p13 (Ent.p13 (Ent.p13 (Ent.p13 (Ent.p13 (Ent.p13 (Ent.p13 (Ent.p13 (Ent.p13 (Ent.p13 (Ent.p13 (Ent.p13 (Ent.p13 ?_)))))))))))))))))))))))))
                  exact E.mdn (b12, a50_0, c50_0, a50_1, c50_1, nb42, a39, c39, a42_0, c42_0, a42_1, c42_1, a42_2, c42_2, a42_3, c42_3) trivial ⟨rfl, trivial⟩ (.refl _)
              · refine D.pk 20 rfl rfl (fun _ => rfl) (N.alloc ty_Binding dc) (fun b12 _ => (D.st 8 rfl rfl kr (fun _ => rfl) (N.call (t_impl_reachUnder ⟨s, hm0, hr0, hF⟩ (Nat.le_trans consts_few dc)) rfl rfl rfl dc rfl (fun w Lp hA => ⟨hA.ro hl, hA.ro hrules, hA.ow (mS (mS m0)), hA.ow (mS m0)⟩)) (fun k42 _ => ?_)))
                obtain ⟨nb42, ⟨a42_0, m42_0, c42_0⟩, ⟨a42_1, m42_1, c42_1⟩, ⟨a42_2, m42_2, c42_2⟩, ⟨a42_3, m42_3, c42_3⟩⟩ := k42
                try dsimp only
                refine Ent.lenow (mS m0) fun e42_0 l42_0 => ?_
                subst e42_0
                refine Ent.lenow (mS (mS m0)) fun e42_1 l42_1 => ?_
                subst e42_1
                refine Ent.lenow (mS (mS (mS m0))) fun e42_2 l42_2 => ?_
                subst e42_2
                refine Ent.lenow (mS (mS (mS (mS m0)))) fun e42_3 l42_3 => ?_
                subst e42_3
                refine Dyp 9 rfl (Y.nil rfl) (Dyp 10 rfl (Y.fld fo_under_3 ty_Reached dc rfl) (Dyp 11 rfl (Y.fld fo_Reached_0 ty_Facts dc rfl) (Dy 12 rfl (Y.ld1 ty_Facts rfl (((Has.pt m0).sub (cs' := [_, _, _, _]) 3 rfl).sub (cs' := [_]) 0 rfl) rfl) (D.st 15 rfl rfl kr (fun _ => rfl) (N.call (t_impl_TupleOf (Nat.le_trans jq.2.1 dc)) rfl rfl rfl dc rfl (fun w Lp hA => ⟨hA.ro hq_Head, hA.ro hq_Atoms, hA.ow (mS (mS (mS (mS (mS (mS (mS (mS (mS (mS m0)))))))))), hA.ow (mS (mS (mS (mS (mS (mS (mS (mS (mS (mS (mS m0)))))))))))⟩)) (fun k49 _ => ?_)))))
                obtain ⟨a49, m49, c49⟩ := k49
                refine Ent.lenow m0 fun e49 l49 => ?_
                subst e49
                refine D.st 16 rfl rfl kr (fun _ => rfl) (N.call (t_impl_FindMapping jq.1 jq.2.2 (fun a _ => uF_few hU a) (Nat.le_trans jq.2.1 dc)) rfl rfl rfl dc rfl (fun w Lp hA => ⟨hA.ro hq_Head, hA.ro hq_Atoms, hA.ow (mS (mS m0)), hA.ow m0⟩)) (fun k50 _ => ?_)
                obtain ⟨⟨a50_0, m50_0, c50_0⟩, ⟨a50_1, m50_1, c50_1⟩⟩ := k50
                refine Ent.lenow m0 fun e50_0 l50_0 => ?_
                subst e50_0
                refine Ent.lenow (mS m0) fun e50_1 l50_1 => ?_
                subst e50_1
                refine Dyp 17 rfl (Y.mv rfl) (Dyp 18 rfl (Y.ext rfl rfl) (Dyp 19 rfl (Y.ext rfl rfl) (Ent.p8 (D.st 21 rfl rfl kr (fun h => by cases h) (N.sto (vs := [_, _]) (cs' := [_, _]) ty_Binding rfl rfl rfl rfl rfl bl rfl) (fun _ _ => (Dyp 22 rfl (Y.as rfl) (D.done kr (Ent.p3 (Ent.drop (Ent.p8 (Ent.drop (Ent.p13 (Ent.p13 (Ent.p13 (Ent.p13 (Ent.p13 (Ent.p13 (Ent.p13 (Ent.p13 (Ent.p13 (Ent.p13 (Ent.p13 (Ent.p13 (Ent.p13 (Ent.p13 ?_)))))))))))))))))))))))))
                exact E.mdn (b12, a50_0, c50_0, a50_1, c50_1, nb42, a39, c39, a42_0, c42_0, a42_1, c42_1, a42_2, c42_2, a42_3, c42_3) trivial ⟨rfl, trivial⟩ (.refl _)
            · refine D.pk 20 rfl rfl (fun _ => rfl) (N.alloc ty_Binding dc) (fun b12 _ => (D.st 7 rfl rfl kr (fun _ => rfl) (N.call (t_impl_ConstantsOf fo) rfl rfl rfl dc rfl (fun w Lp hA => ⟨hA.ro hq_Head, hA.ro hq_Atoms⟩)) (fun k41 _ => ?_)))
              obtain ⟨a41, m41, c41⟩ := k41
              refine Ent.lenow m0 fun e41 l41 => ?_
              subst e41
              refine D.st 8 rfl rfl kr (fun _ => rfl) (N.call (t_impl_reachUnder ⟨s, hm0, hr0, hF⟩ (Nat.le_trans consts_few dc)) rfl rfl rfl dc rfl (fun w Lp hA => ⟨hA.ro hl, hA.ro hrules, hA.ow (mS (mS m0)), hA.ow m0⟩)) (fun k42 _ => ?_)
              obtain ⟨nb42, ⟨a42_0, m42_0, c42_0⟩, ⟨a42_1, m42_1, c42_1⟩, ⟨a42_2, m42_2, c42_2⟩, ⟨a42_3, m42_3, c42_3⟩⟩ := k42
              try dsimp only
              refine Ent.lenow (mS m0) fun e42_0 l42_0 => ?_
              subst e42_0
              refine Ent.lenow (mS (mS m0)) fun e42_1 l42_1 => ?_
              subst e42_1
              refine Ent.lenow (mS (mS (mS m0))) fun e42_2 l42_2 => ?_
              subst e42_2
              refine Ent.lenow (mS (mS (mS (mS m0)))) fun e42_3 l42_3 => ?_
              subst e42_3
              refine Dyp 9 rfl (Y.nil rfl) (Dyp 10 rfl (Y.fld fo_under_3 ty_Reached dc rfl) (Dyp 11 rfl (Y.fld fo_Reached_0 ty_Facts dc rfl) (Dy 12 rfl (Y.ld1 ty_Facts rfl (((Has.pt m0).sub (cs' := [_, _, _, _]) 3 rfl).sub (cs' := [_]) 0 rfl) rfl) (D.st 15 rfl rfl kr (fun _ => rfl) (N.call (t_impl_TupleOf (Nat.le_trans jq.2.1 dc)) rfl rfl rfl dc rfl (fun w Lp hA => ⟨hA.ro hq_Head, hA.ro hq_Atoms, hA.ow (mS (mS (mS (mS (mS (mS (mS (mS (mS (mS m0)))))))))), hA.ow (mS (mS (mS (mS (mS (mS (mS (mS (mS (mS (mS m0)))))))))))⟩)) (fun k49 _ => ?_)))))
              obtain ⟨a49, m49, c49⟩ := k49
              refine Ent.lenow m0 fun e49 l49 => ?_
              subst e49
              refine D.st 16 rfl rfl kr (fun _ => rfl) (N.call (t_impl_FindMapping jq.1 jq.2.2 (fun a _ => uF_few hU a) (Nat.le_trans jq.2.1 dc)) rfl rfl rfl dc rfl (fun w Lp hA => ⟨hA.ro hq_Head, hA.ro hq_Atoms, hA.ow (mS (mS m0)), hA.ow m0⟩)) (fun k50 _ => ?_)
              obtain ⟨⟨a50_0, m50_0, c50_0⟩, ⟨a50_1, m50_1, c50_1⟩⟩ := k50
              refine Ent.lenow m0 fun e50_0 l50_0 => ?_
              subst e50_0
              refine Ent.lenow (mS m0) fun e50_1 l50_1 => ?_
              subst e50_1
              refine Dyp 17 rfl (Y.mv rfl) (Dyp 18 rfl (Y.ext rfl rfl) (Dyp 19 rfl (Y.ext rfl rfl) (Ent.p9 (D.st 21 rfl rfl kr (fun h => by cases h) (N.sto (vs := [_, _]) (cs' := [_, _]) ty_Binding rfl rfl rfl rfl rfl bl rfl) (fun _ _ => (Dyp 22 rfl (Y.as rfl) (D.done kr (Ent.p3 (Ent.drop (Ent.p8 (Ent.drop (Ent.p13 (Ent.p13 (Ent.p13 (Ent.p13 (Ent.p13 (Ent.p13 (Ent.p13 (Ent.p13 (Ent.p13 (Ent.p13 (Ent.p13 (Ent.p13 (Ent.p13 (Ent.p13 ?_)))))))))))))))))))))))))
              exact E.mdn (b12, a50_0, c50_0, a50_1, c50_1, nb42, a39, c39, a42_0, c42_0, a42_1, c42_1, a42_2, c42_2, a42_3, c42_3) trivial ⟨rfl, trivial⟩ (.refl _)
          · refine D.pk 20 rfl rfl (fun _ => rfl) (N.alloc ty_Binding dc) (fun b12 _ => (D.st 5 rfl rfl kr (fun _ => rfl) (N.call (t_impl_closed ⟨s, hr0, hf1⟩) rfl rfl rfl dc rfl (fun w Lp hA => ⟨hA.ro hrules, hA.ow (mS (mS m0))⟩)) (fun k39 _ => ?_)))
            obtain ⟨a39, m39, c39⟩ := k39
            refine Ent.lenow m0 fun e39 l39 => ?_
            subst e39
            refine D.st 7 rfl rfl kr (fun _ => rfl) (N.call (t_impl_ConstantsOf fo) rfl rfl rfl dc rfl (fun w Lp hA => ⟨hA.ro hq_Head, hA.ro hq_Atoms⟩)) (fun k41 _ => ?_)
            obtain ⟨a41, m41, c41⟩ := k41
            refine Ent.lenow m0 fun e41 l41 => ?_
            subst e41
            refine D.st 8 rfl rfl kr (fun _ => rfl) (N.call (t_impl_reachUnder ⟨s, hm0, hr0, hF⟩ (Nat.le_trans consts_few dc)) rfl rfl rfl dc rfl (fun w Lp hA => ⟨hA.ro hl, hA.ro hrules, hA.ow (mS m0), hA.ow m0⟩)) (fun k42 _ => ?_)
            obtain ⟨nb42, ⟨a42_0, m42_0, c42_0⟩, ⟨a42_1, m42_1, c42_1⟩, ⟨a42_2, m42_2, c42_2⟩, ⟨a42_3, m42_3, c42_3⟩⟩ := k42
            try dsimp only
            refine Ent.lenow (mS m0) fun e42_0 l42_0 => ?_
            subst e42_0
            refine Ent.lenow (mS (mS m0)) fun e42_1 l42_1 => ?_
            subst e42_1
            refine Ent.lenow (mS (mS (mS m0))) fun e42_2 l42_2 => ?_
            subst e42_2
            refine Ent.lenow (mS (mS (mS (mS m0)))) fun e42_3 l42_3 => ?_
            subst e42_3
            refine Dyp 9 rfl (Y.nil rfl) (Dyp 10 rfl (Y.fld fo_under_3 ty_Reached dc rfl) (Dyp 11 rfl (Y.fld fo_Reached_0 ty_Facts dc rfl) (Dy 12 rfl (Y.ld1 ty_Facts rfl (((Has.pt m0).sub (cs' := [_, _, _, _]) 3 rfl).sub (cs' := [_]) 0 rfl) rfl) (D.st 15 rfl rfl kr (fun _ => rfl) (N.call (t_impl_TupleOf (Nat.le_trans jq.2.1 dc)) rfl rfl rfl dc rfl (fun w Lp hA => ⟨hA.ro hq_Head, hA.ro hq_Atoms, hA.ow (mS (mS (mS (mS (mS (mS (mS (mS (mS (mS m0)))))))))), hA.ow (mS (mS (mS (mS (mS (mS (mS (mS (mS (mS (mS m0)))))))))))⟩)) (fun k49 _ => ?_)))))
            obtain ⟨a49, m49, c49⟩ := k49
            refine Ent.lenow m0 fun e49 l49 => ?_
            subst e49
            refine D.st 16 rfl rfl kr (fun _ => rfl) (N.call (t_impl_FindMapping jq.1 jq.2.2 (fun a _ => uF_few hU a) (Nat.le_trans jq.2.1 dc)) rfl rfl rfl dc rfl (fun w Lp hA => ⟨hA.ro hq_Head, hA.ro hq_Atoms, hA.ow (mS (mS m0)), hA.ow m0⟩)) (fun k50 _ => ?_)
            obtain ⟨⟨a50_0, m50_0, c50_0⟩, ⟨a50_1, m50_1, c50_1⟩⟩ := k50
            refine Ent.lenow m0 fun e50_0 l50_0 => ?_
            subst e50_0
            refine Ent.lenow (mS m0) fun e50_1 l50_1 => ?_
            subst e50_1
            refine Dyp 17 rfl (Y.mv rfl) (Dyp 18 rfl (Y.ext rfl rfl) (Dyp 19 rfl (Y.ext rfl rfl) (Ent.p10 (D.st 21 rfl rfl kr (fun h => by cases h) (N.sto (vs := [_, _]) (cs' := [_, _]) ty_Binding rfl rfl rfl rfl rfl bl rfl) (fun _ _ => (Dyp 22 rfl (Y.as rfl) (D.done kr (Ent.p3 (Ent.drop (Ent.p8 (Ent.drop (Ent.p13 (Ent.p13 (Ent.p13 (Ent.p13 (Ent.p13 (Ent.p13 (Ent.p13 (Ent.p13 (Ent.p13 (Ent.p13 (Ent.p13 (Ent.p13 (Ent.p13 (Ent.p13 ?_)))))))))))))))))))))))))
            exact E.mdn (b12, a50_0, c50_0, a50_1, c50_1, nb42, a39, c39, a42_0, c42_0, a42_1, c42_1, a42_2, c42_2, a42_3, c42_3) trivial ⟨rfl, trivial⟩ (.refl _)
        · obtain ⟨b12, a50_0, c50_0, a50_1, c50_1, nb42, a39, c39, a42_0, c42_0, a42_1, c42_1, a42_2, c42_2, a42_3, c42_3⟩ := kM
          try dsimp only
          refine Et (Eq_ (Er (l := [0, 1]) rfl (Emv rfl rfl (Eas rfl rfl ?_))))
          exact En (Et (E.ret (F.r1 br rfl rfl () trivial (congrArg Value.bool (by exact feasU_yes (q := (q_Head, q_Atoms)) q17 q22 q11)) (J := _) (.refl _) (.inl rfl))))
      · refine En (Et (Eq_ (Eq_ (Er (l := [0, 1]) rfl (Emv rfl rfl (Ey rfl ((Y.not (b := false) rfl).yd) (En (Et (E.ct rfl (Eq_ (Er (l := [0]) rfl (Eas rfl rfl ?_))))))))))))
        exact En (Et (E.ret (E.thr (F.r1 br rfl rfl () trivial (congrArg Value.bool (by exact feasU_no3 (q := (q_Head, q_Atoms)) q11)) (J := _) (.refl _) (.inl rfl)))))
    · refine Ey rfl ((Y.not (b := false) rfl).yd) (Ey rfl ((Y.pkf rfl rfl).yd) (En (Et (E.ct rfl (Eq_ (Er (l := [0]) rfl (Eas rfl rfl ?_)))))))
      exact En (Et (E.ret (E.thr (F.r1 br rfl rfl () trivial (congrArg Value.bool (by exact feasU_no2 q22)) (J := _) (.refl _) (.inl rfl)))))
  · refine Ey rfl ((Y.not (b := false) rfl).yd) (Emv rfl rfl (Es rfl (Es rfl (Es rfl (Es rfl (Ey rfl ((Y.pkt rfl rfl).yd) (En (Et (E.ct rfl (Eq_ (Er (l := [0]) rfl (Eas rfl rfl ?_))))))))))))
    exact En (Et (E.ret (E.thr (F.r1 br rfl rfl () trivial (congrArg Value.bool (by exact feasU_no1 q17)) (J := _) (.refl _) (.inl rfl)))))
set_option maxRecDepth 100000 in
theorem t_spec_IsFeasibleUnder {a_s : Option Addr} {m_s c_s : Nat} {s : List Int} {a_l : Option Addr} {m_l c_l : Nat} {l : List (Int × List Int × Int × Int × Int)} {a_rules : Option Addr} {m_rules c_rules : Nat} {rules : List (Int × Int × List Int)} {a_q_Head : Option Addr} {m_q_Head c_q_Head : Nat} {q_Head : List Int} {a_q_Atoms : Option Addr} {m_q_Atoms c_q_Atoms : Nat} {q_Atoms : List (Int × List Int)} (hz : totL (fun x => x.2.length) q_Atoms ≤ 1048576) : Tr Tryz.prog 51 [.slice a_s m_s c_s, .slice a_l m_l c_l, .slice a_rules m_rules c_rules, .agg #[.slice a_q_Head m_q_Head c_q_Head, .slice a_q_Atoms m_q_Atoms c_q_Atoms]] (fun w L => Ro w L eIs [.slice a_s m_s c_s] s ∧ Ro w L eMethods [.slice a_l m_l c_l] l ∧ Ro w L eRules [.slice a_rules m_rules c_rules] rules ∧ Ro w L eIs [.slice a_q_Head m_q_Head c_q_Head] q_Head ∧ Ro w L eAtoms [.slice a_q_Atoms m_q_Atoms c_q_Atoms] q_Atoms) [] (κ := Unit) (fun k => True) (fun k => .bool (feasU s l rules (q_Head, q_Atoms))) (fun k => []) := by
  refine Tr.intro Tryz.func51 rfl (n := 68) rfl (by decide +kernel) bl (fr := [(0, .slice a_s m_s c_s), (1, .slice a_l m_l c_l), (2, .slice a_rules m_rules c_rules), (3, .agg #[.slice a_q_Head m_q_Head c_q_Head, .slice a_q_Atoms m_q_Atoms c_q_Atoms])]) rfl fun w L hR => ?_
  obtain ⟨hs, hl, hrules, hq_Head, hq_Atoms⟩ := hR
  obtain ⟨rfl, ls⟩ := hs.slen
  obtain ⟨rfl, ll⟩ := hl.slen
  obtain ⟨rfl, lrules⟩ := hrules.slen
  obtain ⟨rfl, lq_Head⟩ := hq_Head.slen
  obtain ⟨rfl, lq_Atoms⟩ := hq_Atoms.slen
  refine Eq_ (Er (l := [0, 1]) rfl (Est rfl (N.box (cs := [_, _]) rfl dc rfl) (fun b7 _ => (Eas rfl rfl (En (Et (Eq_ (Eq_ (Er (l := [0, 1, 2, 3, 4, 5, 6, 7, 8, 9, 10]) rfl (Emv rfl rfl (Emv rfl rfl (Emv rfl rfl (Est rfl (N.call0 t_spec_l14Fine rfl rfl rfl dc (fun w Lp hA => ⟨hA.ro hs, hA.ro hl, hA.ro hrules⟩)) (fun _ _ => (Ent.b (fun q20 => ?_) (fun q20 => ?_))))))))))))))))
  · refine Ey rfl ((Y.not (b := true) rfl).yd) (Emv rfl rfl (Emv rfl rfl (Ey rfl (Y.ldS (cs := [_, _]) ty_Query rfl (Has.pt m0) rfl) (Est rfl (N.call0 (t_spec_IsQuery fo) rfl rfl rfl dc (fun w Lp hA => ⟨hA.ro hs, hA.ro hq_Head, hA.ro hq_Atoms⟩)) (fun _ _ => (Ent.b (fun q25 => ?_) (fun q25 => ?_)))))))
    · refine Ey rfl ((Y.not (b := true) rfl).yd) (Ey rfl ((Y.pkf rfl rfl).yd) (En (Et (E.cf rfl (E.skipc (Et (Eq_ (Er (l := [0, 1, 2, 3, 4, 5, 6, 7, 8, 9]) rfl (Ey rfl (Y.ldS (cs := [_, _]) ty_Query rfl (Has.pt m0) rfl) (Est rfl (N.call (t_spec_FreezeQuery fo) rfl rfl rfl dc rfl (fun w Lp hA => ⟨hA.ro hq_Head, hA.ro hq_Atoms⟩)) (fun k30 _ => ?_)))))))))))
      obtain ⟨⟨a30_0, m30_0, c30_0⟩, ⟨a30_1, m30_1, c30_1⟩, ⟨a30_2, m30_2, c30_2⟩⟩ := k30
      refine Ent.lenow m0 fun e30_0 l30_0 => ?_
      subst e30_0
      refine Ent.lenow (mS m0) fun e30_1 l30_1 => ?_
      subst e30_1
      refine Ent.lenow (mS (mS m0)) fun e30_2 l30_2 => ?_
      subst e30_2
      refine Emv rfl rfl (Ey rfl ((Y.ext rfl rfl).yd) (Ey rfl ((Y.ext rfl rfl).yd) (Ey rfl ((Y.ext rfl rfl).yd) (Est rfl (N.alloc ty_Binding dc) (fun b10 _ => (Eas rfl rfl (Est rfl (N.sto (vs := [_, _]) (cs' := [_, _]) ty_Binding rfl rfl rfl rfl rfl bl rfl) (fun _ _ => (Eas rfl rfl (Ent.b (fun q11 => ?_) (fun q11 => ?_)))))))))))
      · obtain ⟨hm0, hr0⟩ : okMeths s l = true ∧ okRules s rules = true := by simpa using q20
        have jq := okQuery_h (s := s) (q := (q_Head, q_Atoms)) q25
        have hf1 : okFacts s (fzF (termsF (fun t => inR t 0 9) q_Atoms) q_Atoms) = true := fz_ok (q := (q_Head, q_Atoms)) q25 q11
        have hF := close_fin hr0 hf1
        have hU := uFin_invF (seeds := (termsF (fun t => inR t 0 9) q_Atoms)) hm0 hr0 hF
        refine En (Et (Eq_ (Eq_ (Er (l := [0, 1]) rfl (Emv rfl rfl (Ey rfl ((Y.not (b := true) rfl).yd) (En (Et (E.cf rfl (E.skipc (Et (Eq_ (D.region (fun j => true) mixed (Dyp 0 rfl (Y.mv rfl) (Dyp 1 rfl (Y.mv rfl) (Dyp 2 rfl (Y.mv rfl) (Dyp 3 rfl (Y.mv rfl) (Dy 5 rfl (Y.ldS (cs := [_, _]) ty_Query rfl (Has.pt (mS (mS (mS (mS m0))))) rfl) (D.st 4 rfl rfl kr (fun _ => rfl) (N.call (t_spec_l13Close ⟨s, hr0, hf1⟩) rfl rfl rfl dc rfl (fun w Lp hA => ⟨hA.ro hrules, hA.ow (mS m0)⟩)) (fun k40 _ => ?_))))))))))))))))))))
        obtain ⟨a40, m40, c40⟩ := k40
        refine Ent.lenow m0 fun e40 l40 => ?_
        subst e40
        refine D.st 6 rfl rfl kr (fun _ => rfl) (N.call (t_spec_ConstantsOf fo) rfl rfl rfl dc rfl (fun w Lp hA => ⟨hA.ro hq_Head, hA.ro hq_Atoms⟩)) (fun k42 _ => ?_)
        obtain ⟨a42, m42, c42⟩ := k42
        refine Ent.lenow m0 fun e42 l42 => ?_
        subst e42
        refine D.st 7 rfl rfl kr (fun _ => rfl) (N.call (t_spec_l14Lines ⟨s, hm0, hr0, hF⟩ (Nat.le_trans consts_few dc)) rfl rfl rfl dc rfl (fun w Lp hA => ⟨hA.ro hl, hA.ro hrules, hA.ow (mS m0), hA.ow m0⟩)) (fun k43 _ => ?_)
        obtain ⟨a43, m43, c43⟩ := k43
        refine Ent.lenow m0 fun e43 l43 => ?_
        subst e43
        refine Ent.rebase (A := [_]) rfl fun wb1 Lb1 hB1 hA1 => ?_
        have hs := hA1.ro hs
        have hl := hA1.ro hl
        have hrules := hA1.ro hrules
        have hq_Head := hA1.ro hq_Head
        have hq_Atoms := hA1.ro hq_Atoms
        have rb1 : Ro wb1 Lb1 eLines [.slice a43 ((uFin l rules (closeF rules (fzF (termsF (fun t => inR t 0 9) q_Atoms) q_Atoms)) (termsF (fun t => inR t 0 9) q_Atoms)).2.2.2).length c43] ((uFin l rules (closeF rules (fzF (termsF (fun t => inR t 0 9) q_Atoms) q_Atoms)) (termsF (fun t => inR t 0 9) q_Atoms)).2.2.2) := hA1.ow m0
        refine Dyp 8 rfl (Y.as rfl) (D.done kr (Et (Eq_ (Er (l := [0, 1]) rfl (Est rfl (N.bsl (pvs := []) (cs := []) us_Facts ty_Fact rfl dc dc (fillZ rfl rfl) rfl dc) (fun b44 _ => (Ent.drop (Eas rfl rfl (En (Et (Eq_ (Eq_ (Er (l := [0]) rfl (Eas rfl rfl (En (Et (E.block (Ent.mkow (A := []) (Own.nil (E := eFact) (e := tFact) (a := (some ⟨b44, 0, none⟩))) rfl (Ent.cv (congrArg (ow eFacts [_]) (show [] = (((uFin l rules (closeF rules (fzF (termsF (fun t => inR t 0 9) q_Atoms) q_Atoms)) (termsF (fun t => inR t 0 9) q_Atoms)).2.2.2.take 0).map fun x => x.2.2).foldl addF [] from by rfl)) (E.loop (κ := Nat × Option Addr × Nat × Nat) (fun g => g.1 ≤ (uFin l rules (closeF rules (fzF (termsF (fun t => inR t 0 9) q_Atoms) q_Atoms)) (termsF (fun t => inR t 0 9) q_Atoms)).2.2.2.length ∧ True) (fun g => [(7, .pointer (some ⟨b7, 0, none⟩)), (10, .pointer (some ⟨b10, 0, none⟩)), (12, .slice a43 ((uFin l rules (closeF rules (fzF (termsF (fun t => inR t 0 9) q_Atoms) q_Atoms)) (termsF (fun t => inR t 0 9) q_Atoms)).2.2.2).length c43), (13, .slice g.2.1 g.2.2.1 g.2.2.2), (14, .int .i64 (↑g.1 : Int))]) (fun g => [ow eFacts [.slice g.2.1 g.2.2.1 g.2.2.2] ((((uFin l rules (closeF rules (fzF (termsF (fun t => inR t 0 9) q_Atoms) q_Atoms)) (termsF (fun t => inR t 0 9) q_Atoms)).2.2.2.take g.1).map fun x => x.2.2).foldl addF []), ow eIs [.slice a42 (termsF (fun t => inR t 0 9) q_Atoms).length c42] (termsF (fun t => inR t 0 9) q_Atoms), ow eFacts [.slice a40 (closeF rules (fzF (termsF (fun t => inR t 0 9) q_Atoms) q_Atoms)).length c40] (closeF rules (fzF (termsF (fun t => inR t 0 9) q_Atoms) q_Atoms)), pt b10 156 [.slice a30_1 (fzV (termsF (fun t => inR t 0 9) q_Atoms) q_Atoms).length c30_1, .slice a30_2 (fzX (termsF (fun t => inR t 0 9) q_Atoms) q_Atoms).length c30_2], ow eFacts [.slice a30_0 (fzF (termsF (fun t => inR t 0 9) q_Atoms) q_Atoms).length c30_0] (fzF (termsF (fun t => inR t 0 9) q_Atoms) q_Atoms), ow eIs [.slice a30_1 (fzV (termsF (fun t => inR t 0 9) q_Atoms) q_Atoms).length c30_1] (fzV (termsF (fun t => inR t 0 9) q_Atoms) q_Atoms), ow eIs [.slice a30_2 (fzX (termsF (fun t => inR t 0 9) q_Atoms) q_Atoms).length c30_2] (fzX (termsF (fun t => inR t 0 9) q_Atoms) q_Atoms), pt b7 90 [.slice a_q_Head q_Head.length c_q_Head, .slice a_q_Atoms q_Atoms.length c_q_Atoms]]) (fun g => (uFin l rules (closeF rules (fzF (termsF (fun t => inR t 0 9) q_Atoms) q_Atoms)) (termsF (fun t => inR t 0 9) q_Atoms)).2.2.2.length - g.1) (0, (some ⟨b44, 0, none⟩), 0, 0) ⟨Nat.zero_le _, by simp⟩ ⟨rfl, rfl, rfl, rfl, rfl, trivial⟩ (.refl _) (fun g pg => ?_)))))))))))))))))))))
        obtain ⟨g, aA0_0, mA0_0, cA0_0⟩ := g
        try dsimp only at pg
        try dsimp only
        obtain ⟨pk, pa⟩ := pg
        have jf := fold_len (m := ((uFin l rules (closeF rules (fzF (termsF (fun t => inR t 0 9) q_Atoms) q_Atoms)) (termsF (fun t => inR t 0 9) q_Atoms)).2.2.2.take g).map fun x => x.2.2) (x := [])
        have jt := List.length_take_le g (uFin l rules (closeF rules (fzF (termsF (fun t => inR t 0 9) q_Atoms) q_Atoms)) (termsF (fun t => inR t 0 9) q_Atoms)).2.2.2
        have jm : (((uFin l rules (closeF rules (fzF (termsF (fun t => inR t 0 9) q_Atoms) q_Atoms)) (termsF (fun t => inR t 0 9) q_Atoms)).2.2.2.take g).map fun x => x.2.2).length = ((uFin l rules (closeF rules (fzF (termsF (fun t => inR t 0 9) q_Atoms) q_Atoms)) (termsF (fun t => inR t 0 9) q_Atoms)).2.2.2.take g).length := List.length_map ..
        have j0 : ([] : List (Int × List Int)).length = 0 := rfl
        have jul : (uFin l rules (closeF rules (fzF (termsF (fun t => inR t 0 9) q_Atoms) q_Atoms)) (termsF (fun t => inR t 0 9) q_Atoms)).2.2.2.length ≤ 5324 := hU.n.len.1
        refine Ent.lenow m0 fun eaA0_0 laA0_0 => ?_
        subst eaA0_0
        refine Eq_ (Eq_ (Er (l := [0, 1, 2, 3]) rfl (Emv rfl rfl (Emv rfl rfl (Ey rfl ((Y.len us_Lines rfl).yd) (Ey rfl ((Y.lss rfl rfl).yd) (Ent.d (fun q48 => ?_) (fun q48 => ?_))))))))
        · refine En (Et (E.ct rfl (E.skipc (Et (Eq_ (E.block (Er (l := [0, 1, 2, 3, 4, 5, 6, 7]) rfl (Emv rfl rfl (Emv rfl rfl (Emv rfl rfl ?_))))))))))
          obtain ⟨eb54, eo54, ec54, ea54, er54, el54, eh54⟩ := rb1.elem g om
          obtain ⟨xa54_0, xc54_0, xa54_1, xc54_1, rfl, ei54_0, ei54_1, xh54_0, ei54_3, xh54_1⟩ := Ro.pLine er54
          have := xh54_0.slen.2
          have := xh54_1.slen.2
          refine Ey rfl ((Y.ix us_Lines ty_Line rfl ea54 rfl g rfl om).yd) (Ey rfl ((Y.fld fo_Line_2 ty_Fact dc rfl).yd) (Ey rfl (Y.ldS (cs := [_, _]) ty_Fact rfl ((eh54 _).sub (cs' := [_, _]) 3 rfl) rfl) (Est rfl (N.call (t_spec_AddFact om (lines_el hU) (Nat.le_trans (okFact_len (hU.n.ok ((uFin l rules (closeF rules (fzF (termsF (fun t => inR t 0 9) q_Atoms) q_Atoms)) (termsF (fun t => inR t 0 9) q_Atoms)).2.2.2[g]) (List.getElem_mem (show g < (uFin l rules (closeF rules (fzF (termsF (fun t => inR t 0 9) q_Atoms) q_Atoms)) (termsF (fun t => inR t 0 9) q_Atoms)).2.2.2.length by omega)))) dc)) rfl rfl rfl dc rfl (fun w Lp hA => ⟨hA.ow m0, ei54_3, hA.ro xh54_1⟩)) (fun k57 _ => ?_))))
          obtain ⟨a57, m57, c57⟩ := k57
          refine Ent.lenow m0 fun e57 l57 => ?_
          subst e57
          refine Eas rfl rfl (En (E.bln (Et (Er (l := [0, 1, 2]) rfl (Emv rfl rfl (Ey rfl ((Y.add rfl rfl om om).yd) (Eas rfl rfl (En (Et (Ent.p1 (Ent.drop (Ent.cv (congrArg (ow eFacts [_]) (show addF ((((uFin l rules (closeF rules (fzF (termsF (fun t => inR t 0 9) q_Atoms) q_Atoms)) (termsF (fun t => inR t 0 9) q_Atoms)).2.2.2.take g).map fun x => x.2.2).foldl addF []) ((((uFin l rules (closeF rules (fzF (termsF (fun t => inR t 0 9) q_Atoms) q_Atoms)) (termsF (fun t => inR t 0 9) q_Atoms)).2.2.2)[g].2.2.1), (((uFin l rules (closeF rules (fzF (termsF (fun t => inR t 0 9) q_Atoms) q_Atoms)) (termsF (fun t => inR t 0 9) q_Atoms)).2.2.2)[g].2.2.2)) = (((uFin l rules (closeF rules (fzF (termsF (fun t => inR t 0 9) q_Atoms) q_Atoms)) (termsF (fun t => inR t 0 9) q_Atoms)).2.2.2.take (g + 1)).map fun x => x.2.2).foldl addF [] from by exact fold_snoc om)) (Ent.p7 (Ent.p7 (Ent.p7 (Ent.p7 (Ent.p7 (Ent.p7 (Ent.p7 (Ent.p7 ?_))))))))))))))))))))
          exact E.again br (g + 1, a57, (addF ((((uFin l rules (closeF rules (fzF (termsF (fun t => inR t 0 9) q_Atoms) q_Atoms)) (termsF (fun t => inR t 0 9) q_Atoms)).2.2.2.take g).map fun x => x.2.2).foldl addF []) ((((uFin l rules (closeF rules (fzF (termsF (fun t => inR t 0 9) q_Atoms) q_Atoms)) (termsF (fun t => inR t 0 9) q_Atoms)).2.2.2)[g].2.2.1), (((uFin l rules (closeF rules (fzF (termsF (fun t => inR t 0 9) q_Atoms) q_Atoms)) (termsF (fun t => inR t 0 9) q_Atoms)).2.2.2)[g].2.2.2))).length, c57) ⟨rfl, rfl, rfl, rfl, rfl, trivial⟩ (.refl _) ⟨(show g + 1 ≤ (uFin l rules (closeF rules (fzF (termsF (fun t => inR t 0 9) q_Atoms) q_Atoms)) (termsF (fun t => inR t 0 9) q_Atoms)).2.2.2.length from by omega), trivial⟩ (show (uFin l rules (closeF rules (fzF (termsF (fun t => inR t 0 9) q_Atoms) q_Atoms)) (termsF (fun t => inR t 0 9) q_Atoms)).2.2.2.length - (g + 1) < (uFin l rules (closeF rules (fzF (termsF (fun t => inR t 0 9) q_Atoms) q_Atoms)) (termsF (fun t => inR t 0 9) q_Atoms)).2.2.2.length - g from by omega)
        · refine En (Et (E.cf rfl (E.exit (E.the (E.the (E.blh (Et (Eq_ (E.mid (κ := Nat × Option Addr × Nat × Option Addr × Nat) (fun _ => True) (fun kM => [(16, .bool ((bindsF q_Atoms ((((uFin l rules (closeF rules (fzF (termsF (fun t => inR t 0 9) q_Atoms) q_Atoms)) (termsF (fun t => inR t 0 9) q_Atoms)).2.2.2.take g).map fun x => x.2.2).foldl addF [])).any (hitB q_Head (q_Head.map (valO ((fzV (termsF (fun t => inR t 0 9) q_Atoms) q_Atoms), (fzX (termsF (fun t => inR t 0 9) q_Atoms) q_Atoms)))))))]) (fun kM => [pt kM.1 156 [.slice kM.2.1 ((findV (bindsF q_Atoms ((((uFin l rules (closeF rules (fzF (termsF (fun t => inR t 0 9) q_Atoms) q_Atoms)) (termsF (fun t => inR t 0 9) q_Atoms)).2.2.2.take g).map fun x => x.2.2).foldl addF [])) q_Head (q_Head.map (valO ((fzV (termsF (fun t => inR t 0 9) q_Atoms) q_Atoms), (fzX (termsF (fun t => inR t 0 9) q_Atoms) q_Atoms))))).1).length kM.2.2.1, .slice kM.2.2.2.1 ((findV (bindsF q_Atoms ((((uFin l rules (closeF rules (fzF (termsF (fun t => inR t 0 9) q_Atoms) q_Atoms)) (termsF (fun t => inR t 0 9) q_Atoms)).2.2.2.take g).map fun x => x.2.2).foldl addF [])) q_Head (q_Head.map (valO ((fzV (termsF (fun t => inR t 0 9) q_Atoms) q_Atoms), (fzX (termsF (fun t => inR t 0 9) q_Atoms) q_Atoms))))).2).length kM.2.2.2.2], ow eIs [.slice kM.2.1 ((findV (bindsF q_Atoms ((((uFin l rules (closeF rules (fzF (termsF (fun t => inR t 0 9) q_Atoms) q_Atoms)) (termsF (fun t => inR t 0 9) q_Atoms)).2.2.2.take g).map fun x => x.2.2).foldl addF [])) q_Head (q_Head.map (valO ((fzV (termsF (fun t => inR t 0 9) q_Atoms) q_Atoms), (fzX (termsF (fun t => inR t 0 9) q_Atoms) q_Atoms))))).1).length kM.2.2.1] ((findV (bindsF q_Atoms ((((uFin l rules (closeF rules (fzF (termsF (fun t => inR t 0 9) q_Atoms) q_Atoms)) (termsF (fun t => inR t 0 9) q_Atoms)).2.2.2.take g).map fun x => x.2.2).foldl addF [])) q_Head (q_Head.map (valO ((fzV (termsF (fun t => inR t 0 9) q_Atoms) q_Atoms), (fzX (termsF (fun t => inR t 0 9) q_Atoms) q_Atoms))))).1), ow eIs [.slice kM.2.2.2.1 ((findV (bindsF q_Atoms ((((uFin l rules (closeF rules (fzF (termsF (fun t => inR t 0 9) q_Atoms) q_Atoms)) (termsF (fun t => inR t 0 9) q_Atoms)).2.2.2.take g).map fun x => x.2.2).foldl addF [])) q_Head (q_Head.map (valO ((fzV (termsF (fun t => inR t 0 9) q_Atoms) q_Atoms), (fzX (termsF (fun t => inR t 0 9) q_Atoms) q_Atoms))))).2).length kM.2.2.2.2] ((findV (bindsF q_Atoms ((((uFin l rules (closeF rules (fzF (termsF (fun t => inR t 0 9) q_Atoms) q_Atoms)) (termsF (fun t => inR t 0 9) q_Atoms)).2.2.2.take g).map fun x => x.2.2).foldl addF [])) q_Head (q_Head.map (valO ((fzV (termsF (fun t => inR t 0 9) q_Atoms) q_Atoms), (fzX (termsF (fun t => inR t 0 9) q_Atoms) q_Atoms))))).2), ow eFacts [.slice aA0_0 ((((uFin l rules (closeF rules (fzF (termsF (fun t => inR t 0 9) q_Atoms) q_Atoms)) (termsF (fun t => inR t 0 9) q_Atoms)).2.2.2.take g).map fun x => x.2.2).foldl addF []).length cA0_0] ((((uFin l rules (closeF rules (fzF (termsF (fun t => inR t 0 9) q_Atoms) q_Atoms)) (termsF (fun t => inR t 0 9) q_Atoms)).2.2.2.take g).map fun x => x.2.2).foldl addF []), ow eIs [.slice a42 (termsF (fun t => inR t 0 9) q_Atoms).length c42] (termsF (fun t => inR t 0 9) q_Atoms), ow eFacts [.slice a40 (closeF rules (fzF (termsF (fun t => inR t 0 9) q_Atoms) q_Atoms)).length c40] (closeF rules (fzF (termsF (fun t => inR t 0 9) q_Atoms) q_Atoms)), pt b10 156 [.slice a30_1 (fzV (termsF (fun t => inR t 0 9) q_Atoms) q_Atoms).length c30_1, .slice a30_2 (fzX (termsF (fun t => inR t 0 9) q_Atoms) q_Atoms).length c30_2], ow eFacts [.slice a30_0 (fzF (termsF (fun t => inR t 0 9) q_Atoms) q_Atoms).length c30_0] (fzF (termsF (fun t => inR t 0 9) q_Atoms) q_Atoms), ow eIs [.slice a30_1 (fzV (termsF (fun t => inR t 0 9) q_Atoms) q_Atoms).length c30_1] (fzV (termsF (fun t => inR t 0 9) q_Atoms) q_Atoms), ow eIs [.slice a30_2 (fzX (termsF (fun t => inR t 0 9) q_Atoms) q_Atoms).length c30_2] (fzX (termsF (fun t => inR t 0 9) q_Atoms) q_Atoms), pt b7 90 [.slice a_q_Head q_Head.length c_q_Head, .slice a_q_Atoms q_Atoms.length c_q_Atoms]]) ?_ (fun kM _ => ?_))))))))))
          · refine D.region (fun j => !(Nat.beq j 10)) mixed (Dy 0 rfl (Y.ldS (cs := [_, _]) ty_Query rfl (Has.pt (mS (mS (mS (mS (mS (mS (mS m0)))))))) rfl) (Dyp 1 rfl (Y.mv rfl) (Dy 2 rfl (Y.ldS (cs := [_, _]) ty_Query rfl (Has.pt (mS (mS (mS (mS (mS (mS (mS m0)))))))) rfl) (Dy 3 rfl (Y.ldS (cs := [_, _]) ty_Binding rfl (Has.pt (mS (mS (mS m0)))) rfl) (D.ch2 (i := 4) (j := 9) kr ?_ ?_)))))
            · refine D.pk 4 rfl rfl (fun _ => rfl) (N.call (t_spec_TupleOf (Nat.le_trans jq.2.1 dc)) rfl rfl rfl dc rfl (fun w Lp hA => ⟨hA.ro hq_Head, hA.ro hq_Atoms, hA.ow (mS (mS (mS (mS (mS m0))))), hA.ow (mS (mS (mS (mS (mS (mS m0))))))⟩)) (fun k63 _ => ?_)
              obtain ⟨a63, m63, c63⟩ := k63
              refine Ent.lenow m0 fun e63 l63 => ?_
              subst e63
              refine D.ch2 (i := 5) (j := 9) kr ?_ ?_
              · refine D.pk 5 rfl rfl (fun _ => rfl) (N.call (t_spec_FindMapping jq.1 jq.2.2 (fun a _ => by rw [lines_fold hU om]; exact uF_few hU a) (Nat.le_trans jq.2.1 dc)) rfl rfl rfl dc rfl (fun w Lp hA => ⟨hA.ro hq_Head, hA.ro hq_Atoms, hA.ow (mS m0), hA.ow m0⟩)) (fun k64 _ => ?_)
                obtain ⟨⟨a64_0, m64_0, c64_0⟩, ⟨a64_1, m64_1, c64_1⟩⟩ := k64
                refine Ent.lenow m0 fun e64_0 l64_0 => ?_
                subst e64_0
                refine Ent.lenow (mS m0) fun e64_1 l64_1 => ?_
                subst e64_1
                refine Dyp 6 rfl (Y.mv rfl) (Dyp 7 rfl (Y.ext rfl rfl) (Dyp 8 rfl (Y.ext rfl rfl) (D.st 9 rfl rfl kr (fun _ => rfl) (N.alloc ty_Binding dc) (fun b15 _ => (D.st 10 rfl rfl kr (fun h => by cases h) (N.sto (vs := [_, _]) (cs' := [_, _]) ty_Binding rfl rfl rfl rfl rfl bl rfl) (fun _ _ => (Dyp 11 rfl (Y.as rfl) (D.done kr (Ent.p3 (Ent.drop (Ent.p10 (Ent.p10 (Ent.p10 (Ent.p10 (Ent.p10 (Ent.p10 (Ent.p10 (Ent.p10 (Ent.p10 (Ent.p10 (Ent.p10 ?_)))))))))))))))))))))
                exact E.mdn (b15, a64_0, c64_0, a64_1, c64_1) trivial ⟨rfl, trivial⟩ (.refl _)
              · refine D.pk 9 rfl rfl (fun _ => rfl) (N.alloc ty_Binding dc) (fun b15 _ => (D.st 5 rfl rfl kr (fun _ => rfl) (N.call (t_spec_FindMapping jq.1 jq.2.2 (fun a _ => by rw [lines_fold hU om]; exact uF_few hU a) (Nat.le_trans jq.2.1 dc)) rfl rfl rfl dc rfl (fun w Lp hA => ⟨hA.ro hq_Head, hA.ro hq_Atoms, hA.ow (mS (mS m0)), hA.ow (mS m0)⟩)) (fun k64 _ => ?_)))
                obtain ⟨⟨a64_0, m64_0, c64_0⟩, ⟨a64_1, m64_1, c64_1⟩⟩ := k64
                refine Ent.lenow m0 fun e64_0 l64_0 => ?_
                subst e64_0
                refine Ent.lenow (mS m0) fun e64_1 l64_1 => ?_
                subst e64_1
                refine Dyp 6 rfl (Y.mv rfl) (Dyp 7 rfl (Y.ext rfl rfl) (Dyp 8 rfl (Y.ext rfl rfl) (Ent.p2 (D.st 10 rfl rfl kr (fun h => by cases h) (N.sto (vs := [_, _]) (cs' := [_, _]) ty_Binding rfl rfl rfl rfl rfl bl rfl) (fun _ _ => (Dyp 11 rfl (Y.as rfl) (D.done kr (Ent.p3 (Ent.drop (Ent.p10 (Ent.p10 (Ent.p10 (Ent.p10 (Ent.p10 (Ent.p10 (Ent.p10 (Ent.p10 (Ent.p10 (Ent.p10 (Ent.p10 ?_))))))))))))))))))))
                exact E.mdn (b15, a64_0, c64_0, a64_1, c64_1) trivial ⟨rfl, trivial⟩ (.refl _)
            · refine D.pk 9 rfl rfl (fun _ => rfl) (N.alloc ty_Binding dc) (fun b15 _ => (D.st 4 rfl rfl kr (fun _ => rfl) (N.call (t_spec_TupleOf (Nat.le_trans jq.2.1 dc)) rfl rfl rfl dc rfl (fun w Lp hA => ⟨hA.ro hq_Head, hA.ro hq_Atoms, hA.ow (mS (mS (mS (mS (mS (mS m0)))))), hA.ow (mS (mS (mS (mS (mS (mS (mS m0)))))))⟩)) (fun k63 _ => ?_)))
              obtain ⟨a63, m63, c63⟩ := k63
              refine Ent.lenow m0 fun e63 l63 => ?_
              subst e63
              refine D.st 5 rfl rfl kr (fun _ => rfl) (N.call (t_spec_FindMapping jq.1 jq.2.2 (fun a _ => by rw [lines_fold hU om]; exact uF_few hU a) (Nat.le_trans jq.2.1 dc)) rfl rfl rfl dc rfl (fun w Lp hA => ⟨hA.ro hq_Head, hA.ro hq_Atoms, hA.ow (mS (mS m0)), hA.ow m0⟩)) (fun k64 _ => ?_)
              obtain ⟨⟨a64_0, m64_0, c64_0⟩, ⟨a64_1, m64_1, c64_1⟩⟩ := k64
              refine Ent.lenow m0 fun e64_0 l64_0 => ?_
              subst e64_0
              refine Ent.lenow (mS m0) fun e64_1 l64_1 => ?_
              subst e64_1
              refine Dyp 6 rfl (Y.mv rfl) (Dyp 7 rfl (Y.ext rfl rfl) (Dyp 8 rfl (Y.ext rfl rfl) (Ent.p3 (D.st 10 rfl rfl kr (fun h => by cases h) (N.sto (vs := [_, _]) (cs' := [_, _]) ty_Binding rfl rfl rfl rfl rfl bl rfl) (fun _ _ => (Dyp 11 rfl (Y.as rfl) (D.done kr (Ent.p3 (Ent.drop (Ent.p10 (Ent.p10 (Ent.p10 (Ent.p10 (Ent.p10 (Ent.p10 (Ent.p10 (Ent.p10 (Ent.p10 (Ent.p10 (Ent.p10 ?_))))))))))))))))))))
              exact E.mdn (b15, a64_0, c64_0, a64_1, c64_1) trivial ⟨rfl, trivial⟩ (.refl _)
          · obtain ⟨b15, a64_0, c64_0, a64_1, c64_1⟩ := kM
            try dsimp only
            refine Et (Eq_ (Er (l := [0, 1]) rfl (Emv rfl rfl (Eas rfl rfl ?_))))
            exact En (Et (E.ret (F.r1 hB1 rfl rfl () trivial (congrArg Value.bool (by rw [lines_fold hU om]; exact feasU_yes (q := (q_Head, q_Atoms)) q20 q25 q11)) (J := _) (.refl _) (.inl rfl))))
      · refine En (Et (Eq_ (Eq_ (Er (l := [0, 1]) rfl (Emv rfl rfl (Ey rfl ((Y.not (b := false) rfl).yd) (En (Et (E.ct rfl (Eq_ (Er (l := [0]) rfl (Eas rfl rfl ?_))))))))))))
        exact En (Et (E.ret (E.thr (F.r1 br rfl rfl () trivial (congrArg Value.bool (by exact feasU_no3 (q := (q_Head, q_Atoms)) q11)) (J := _) (.refl _) (.inl rfl)))))
    · refine Ey rfl ((Y.not (b := false) rfl).yd) (Ey rfl ((Y.pkf rfl rfl).yd) (En (Et (E.ct rfl (Eq_ (Er (l := [0]) rfl (Eas rfl rfl ?_)))))))
      exact En (Et (E.ret (E.thr (F.r1 br rfl rfl () trivial (congrArg Value.bool (by exact feasU_no2 q25)) (J := _) (.refl _) (.inl rfl)))))
  · refine Ey rfl ((Y.not (b := false) rfl).yd) (Emv rfl rfl (Es rfl (Es rfl (Es rfl (Es rfl (Ey rfl ((Y.pkt rfl rfl).yd) (En (Et (E.ct rfl (Eq_ (Er (l := [0]) rfl (Eas rfl rfl ?_))))))))))))
    exact En (Et (E.ret (E.thr (F.r1 br rfl rfl () trivial (congrArg Value.bool (by exact feasU_no1 q20)) (J := _) (.refl _) (.inl rfl)))))
end Go.Proofs.YtfnagmokplpnjaaGreat
