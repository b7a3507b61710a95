import Derived.Test.YtdopeopehgdccaaGreatBs
import Derived.Test.YtdopeopehgdccaaGreatT36
import Derived.Test.YtdopeopehgdccaaGreatT35
import Derived.Test.YtdopeopehgdccaaGreatT11
import Derived.Test.YtdopeopehgdccaaGreatT9
import Derived.Test.YtdopeopehgdccaaGreatDy
import Derived.Test.YtdopeopehgdccaaGreatBn
namespace Go.Proofs.YtdopeopehgdccaaGreat
open Go.RowKit
set_option linter.all false
set_option maxHeartbeats 2000000
attribute [local irreducible] Nop Yd Yp Ent Has Tr FnP FnP2 Src j7 d7 J2 Y5 E0
variable {d8 : List (Int × Int × List Int)} {l : List (Int × List Int × Int × Int × Int)} {d6 : List (Int × List Int)} {s : List Int} {m_s c_s m_l c_l m_rules c_rules m_facts c_facts : Nat} {a_s a_l a_rules a_facts : Option Addr}
theorem a3O : Tr Tryz.prog 101 [.slice a_s m_s c_s, .slice a_l m_l c_l, .slice a_rules m_rules c_rules] (fun w L => Ro w L eIs [.slice a_s m_s c_s] s ∧ Ro w L D3 [.slice a_l m_l c_l] l ∧ Ro w L G1 [.slice a_rules m_rules c_rules] d8) [] (κ := Unit) (fun k => True) (fun k => .bool (x8 s l && x7 s d8)) (fun k => []) := by
 refine Tr.intro Tryz.func101 rfl (n := 15) rfl (by decide +kernel) bl (fr := [(0, .slice a_s m_s c_s), (1, .slice a_l m_l c_l), (2, .slice a_rules m_rules c_rules)]) rfl fun w L hR => ?_
 obtain ⟨hs, hl, hrules⟩ := hR
 obtain ⟨rfl, ls⟩ := hs.slen
 obtain ⟨rfl, ll⟩ := hl.slen
 obtain ⟨rfl, lrules⟩ := hrules.slen
 refine Ew Z1 (Eas rfl rfl (Ev Z9 (Emv rfl rfl (Emv rfl rfl (Est rfl (N.call0 a5U rfl rfl rfl dc (fun w Lp hA => ⟨hA.ro hs, hA.ro hl⟩)) (fun _ _ => (Ent.b (fun q9 => ?_) (fun q9 => ?_))))))))
 ·refine Emv rfl rfl (Emv rfl rfl (Emv rfl rfl (Est rfl (N.call0 a7h rfl rfl rfl dc (fun w Lp hA => ⟨hA.ro hs, hA.ro hrules⟩)) (fun _ _ => (Ey rfl ((Y.pkt rfl rfl).yd) (Eas rfl rfl ?_))))))
  exact Eu (E.ret (Fb rfl rfl (by grind [d1, d2, t1, t2])))
 ·refine Emv rfl rfl (Es rfl (Es rfl (Es rfl (Ey rfl ((Y.pkf rfl rfl).yd) (Eas rfl rfl ?_)))))
  exact Eu (E.ret (Fb rfl rfl (by grind [d1, d2, t1, t2])))
theorem a3E : Tr Tryz.prog 106 [.slice a_s m_s c_s, .slice a_l m_l c_l, .slice a_rules m_rules c_rules] (fun w L => Ro w L eIs [.slice a_s m_s c_s] s ∧ Ro w L D3 [.slice a_l m_l c_l] l ∧ Ro w L G1 [.slice a_rules m_rules c_rules] d8) [] (κ := Unit) (fun k => True) (fun k => .bool (x8 s l && x7 s d8)) (fun k => []) := by
 refine Tr.intro Tryz.func106 rfl (n := 15) rfl (by decide +kernel) bl (fr := [(0, .slice a_s m_s c_s), (1, .slice a_l m_l c_l), (2, .slice a_rules m_rules c_rules)]) rfl fun w L hR => ?_
 obtain ⟨hs, hl, hrules⟩ := hR
 obtain ⟨rfl, ls⟩ := hs.slen
 obtain ⟨rfl, ll⟩ := hl.slen
 obtain ⟨rfl, lrules⟩ := hrules.slen
 refine Ew Z1 (Eas rfl rfl (Ev Z9 (Emv rfl rfl (Emv rfl rfl (Est rfl (N.call0 a5R rfl rfl rfl dc (fun w Lp hA => ⟨hA.ro hs, hA.ro hl⟩)) (fun _ _ => (Ent.b (fun q9 => ?_) (fun q9 => ?_))))))))
 ·refine Emv rfl rfl (Emv rfl rfl (Emv rfl rfl (Est rfl (N.call0 a7o rfl rfl rfl dc (fun w Lp hA => ⟨hA.ro hs, hA.ro hrules⟩)) (fun _ _ => (Ey rfl ((Y.pkt rfl rfl).yd) (Eas rfl rfl ?_))))))
  exact Eu (E.ret (Fb rfl rfl (by grind [d1, d2, t1, t2])))
 ·refine Emv rfl rfl (Es rfl (Es rfl (Es rfl (Ey rfl ((Y.pkf rfl rfl).yd) (Eas rfl rfl ?_)))))
  exact Eu (E.ret (Fb rfl rfl (by grind [d1, d2, t1, t2])))
theorem a7w {u0 : Int} {y7 : Option Addr} {B3 y6 : Nat} {x9 : List Int} (hma : 0 ≤ u0 ∧ u0.toNat < l.length) (hv : (atM l u0).2.1.length ≤ x9.length) (hif : ∀ f ∈ d6, f.1 = (atM l u0).1 → ∀ i ∈ (atM l u0).2.1, 0 ≤ i ∧ i < f.2.length) (hfl : d6.length ≤ 1048576) (hfe : ∀ f ∈ d6, f.2.length ≤ 1048576) : Tr Tryz.prog 120 [.slice a_l m_l c_l, .slice a_facts m_facts c_facts, .agg #[.int .i64 u0, .slice y7 B3 y6]] (fun w L => Ro w L D3 [.slice a_l m_l c_l] l ∧ Ro w L j6 [.slice a_facts m_facts c_facts] d6 ∧ I64 u0 ∧ Ro w L eIs [.slice y7 B3 y6] x9) [] (κ := Option Addr × Nat × Nat) (fun k => True) (fun k => .slice k.1 k.2.1 k.2.2) (fun k => [ow j6 [.slice k.1 k.2.1 k.2.2] (d6.filter (u8 (atM l u0) x9))]) := by
 refine Tr.intro Tryz.func120 rfl (n := 17) rfl (by decide +kernel) bl (fr := [(0, .slice a_l m_l c_l), (1, .slice a_facts m_facts c_facts), (2, .agg #[.int .i64 u0, .slice y7 B3 y6])]) rfl fun w L hR => ?_
 obtain ⟨hl, hfacts, O7, D5⟩ := hR
 obtain ⟨rfl, ll⟩ := hl.slen
 obtain ⟨rfl, lfacts⟩ := hfacts.slen
 obtain ⟨rfl, W0⟩ := D5.slen
 rw [a3Y hma.2] at hv hif
 refine Ew Z2 (Est rfl (N.box (cs := [_, _]) rfl dc rfl) (fun b5 _ => (Eas rfl rfl (Ev Z7 (Emv rfl rfl (Ey rfl ((Y.fld fo_Access_0 f6 dc rfl).yd) (Ey rfl (Y.ld1 f6 rfl ((Has.pt m0).sub (cs' := [_]) 0 rfl) rfl) ?_)))))))
 obtain ⟨eb11, eo11, ec11, ea11, er11, el11, eh11⟩ := hl.elem u0.toNat om
 obtain ⟨xa11_0, xc11_0, rfl, ei11_0, xh11_0, ei11_2, ei11_3, ei11_4⟩ := Ro.pMethod er11
 have := xh11_0.slen.2
 refine Ey rfl ((Y.ix us_Methods ty_Method rfl ea11 rfl u0.toNat om om).yd) (Ey rfl (Y.ldS (cs := [_, _, _, _, _]) ty_Method rfl (eh11 _) rfl) (Est rfl (N.alloc ty_Method dc) (fun b7 _ => (Est rfl (N.sto (vs := [_, _, _, _, _]) (cs' := [_, _, _, _, _]) ty_Method rfl rfl rfl rfl rfl bl rfl) (fun _ _ => (Ev Z5 (Emv rfl rfl (Est rfl (N.call (a2X fo hfe) rfl rfl rfl dc rfl (fun w Lp hA => hA.ro hfacts)) (fun k14 _ => ?_)))))))))
 obtain ⟨a14, m14, c14⟩ := k14
 refine Ent.lenow m0 fun e14 l14 => ?_
 subst e14
 refine Ey rfl ((Y.fn (vs := [_, _]) rfl).yd) (Est rfl (N.call (pre := [_]) (a5J (del := (fun z => !u8 l[u0.toNat] x9 z)) (D_del := (fun z => (l[u0.toNat].2.1.length ≤ x9.length) ∧ (z.1 = l[u0.toNat].1 → ∀ i ∈ l[u0.toNat].2.1, 0 ≤ i ∧ i < z.2.length))) (by exact fun f hf => ⟨hv, hif f hf⟩)) rfl rfl rfl dc rfl (fun w Lp hA => FnP.ofFact (RR := fun w L => RoPt w L b7 [.int .i64 l[u0.toNat].1, .slice xa11_0 l[u0.toNat].2.1.length xc11_0, .int .i64 l[u0.toNat].2.2.1, .int .i64 l[u0.toNat].2.2.2.1, .int .i64 l[u0.toNat].2.2.2.2] ∧ I64 l[u0.toNat].1 ∧ Ro w L eIs [.slice xa11_0 l[u0.toNat].2.1.length xc11_0] l[u0.toNat].2.1 ∧ I64 l[u0.toNat].2.2.1 ∧ I64 l[u0.toNat].2.2.2.1 ∧ I64 l[u0.toNat].2.2.2.2 ∧ RoPt w L b5 [.int .i64 u0, .slice y7 x9.length y6] ∧ I64 u0 ∧ Ro w L eIs [.slice y7 x9.length y6] x9) (D := (fun z => (l[u0.toNat].2.1.length ≤ x9.length) ∧ (z.1 = l[u0.toNat].1 → ∀ i ∈ l[u0.toNat].2.1, 0 ≤ i ∧ i < z.2.length))) (fun hd => a6p hd.1 hd.2) (fun w' hk => ⟨(hA.pt m0).keep hk, ei11_0, (hA.ro xh11_0).keep hk, ei11_2, ei11_3, ei11_4, (hA.pt (mS m0)).keep hk, O7, (hA.ro D5).keep hk⟩))) (fun k16 _ => ?_))
 obtain ⟨a16, m16, c16⟩ := k16
 refine Ent.lenow m0 fun e16 l16 => ?_
 subst e16
 refine Eas rfl rfl (Eu (E.ret (Ent.cv (congrArg (ow j6 [_]) (show _ = d6.filter (u8 (atM l u0) x9) by rw [a3Y hma.2]; exact b1U)) ?_)))
 exact Fg rfl rfl (_, _, _) rfl rfl
theorem a7S {g9 : Int} {s4 : Option Addr} {t6 s3 : Nat} {d9 : List Int} (hr : ∀ r ∈ d8, ∀ f ∈ d6, f.1 = r.1 → ∀ x ∈ r.2.2, 0 ≤ x ∧ x < f.2.length) (hrl : ∀ r ∈ d8, r.2.2.length ≤ 1048576) : Tr Tryz.prog 262 [.slice a_rules m_rules c_rules, .slice a_facts m_facts c_facts, .agg #[.int .i64 g9, .slice s4 t6 s3]] (fun w L => Ro w L G1 [.slice a_rules m_rules c_rules] d8 ∧ Ro w L j6 [.slice a_facts m_facts c_facts] d6 ∧ I64 g9 ∧ Ro w L eIs [.slice s4 t6 s3] d9) [] (κ := Unit) (fun k => True) (fun k => .int .i64 (a0n d8 d6 (g9, d9))) (fun k => []) := by
 refine Tr.intro Tryz.func262 rfl (n := 47) rfl (by decide +kernel) bl (fr := [(0, .slice a_rules m_rules c_rules), (1, .slice a_facts m_facts c_facts), (2, .agg #[.int .i64 g9, .slice s4 t6 s3])]) rfl fun w L hR => ?_
 obtain ⟨hrules, hfacts, C5, s8⟩ := hR
 obtain ⟨rfl, lrules⟩ := hrules.slen
 obtain ⟨rfl, lfacts⟩ := hfacts.slen
 obtain ⟨rfl, K0⟩ := s8.slen
 refine Ew Z2 (Est rfl (N.box (cs := [_, _]) rfl dc rfl) (fun b5 _ => (Eas rfl rfl (Eu (Eq_ (Ew Z1 (Eas rfl rfl (Eu (E.block (E.loop (κ := Nat) (fun g => g ≤ d8.length ∧ ∀ x ∈ d8.take g, a4c d6 (g9, d9) x = false) (fun g => [(0, .slice a_rules d8.length c_rules), (1, .slice a_facts d6.length c_facts), (5, .pointer (some ⟨b5, 0, none⟩)), (7, .int .i64 (g : Int))]) (fun g => [pt b5 115 [.int .i64 g9, .slice s4 d9.length s3]]) (fun g => d8.length - g) 0 ⟨Nat.zero_le _, by simp⟩ ⟨rfl, rfl, rfl, rfl, trivial⟩ (.refl _) (fun g pg => ?_)))))))))))
 obtain ⟨pk, pa⟩ := pg
 have po := pa
 refine Eq_ (Ew Z4 (Emv rfl rfl (Emv rfl rfl (Ey rfl ((Y.len us_Rules rfl).yd) (Ey rfl ((Y.lss rfl rfl).yd) (Ent.d (fun q12 => ?_) (fun q12 => ?_)))))))
 ·refine Eu (E.ct rfl (E.skipc (Et (Eq_ (E.block (Ew Z1 (Eas rfl rfl (Eu (E.block (E.loop (κ := Nat) (fun h => h ≤ d6.length ∧ d6.any (a3h d8[g] (g9, d9)) = (d6.drop h).any (a3h d8[g] (g9, d9))) (fun h => [(0, .slice a_rules d8.length c_rules), (1, .slice a_facts d6.length c_facts), (5, .pointer (some ⟨b5, 0, none⟩)), (7, .int .i64 (g : Int)), (8, .int .i64 (h : Int))]) (fun h => [pt b5 115 [.int .i64 g9, .slice s4 d9.length s3]]) (fun h => d6.length - h) 0 ⟨Nat.zero_le _, by simp⟩ ⟨rfl, rfl, rfl, rfl, rfl, trivial⟩ (.refl _) (fun h ph => ?_)))))))))))
  obtain ⟨pk, pa⟩ := ph
  refine Eq_ (Ew Z4 (Emv rfl rfl (Emv rfl rfl (Ey rfl ((Y.len us_Facts rfl).yd) (Ey rfl ((Y.lss rfl rfl).yd) (Ent.d (fun q18 => ?_) (fun q18 => ?_)))))))
  ·refine Eu (E.ct rfl (E.skipc (Et (Eq_ (E.block (Eq_ (D.region (fun j => true) mixed (Dyp 0 rfl (Y.mv rfl) (Dyp 1 rfl (Y.mv rfl) ?_)))))))))
   obtain ⟨eb23, eo23, ec23, ea23, er23, el23, eh23⟩ := hfacts.elem h om
   obtain ⟨xa23_0, xc23_0, rfl, ei23_0, xh23_0⟩ := Ro.pFact er23
   have := xh23_0.slen.2
   refine Dyp 2 rfl (Y.ix us_Facts ty_Fact rfl ea23 rfl h rfl om) (Dyp 3 rfl (Y.fld fo_Fact_0 f6 dc rfl) (Dy 4 rfl (Y.ld1 f6 rfl ((eh23 _).sub (cs' := [_]) 0 rfl) rfl) (Dyp 5 rfl (Y.mv rfl) (Dyp 6 rfl (Y.mv rfl) ?_))))
   obtain ⟨eb28, eo28, ec28, ea28, er28, el28, eh28⟩ := hrules.elem g om
   obtain ⟨xa28_0, xc28_0, rfl, ei28_0, ei28_1, xh28_0⟩ := Ro.pRule er28
   have := xh28_0.slen.2
   refine Dyp 7 rfl (Y.ix us_Rules ty_Rule rfl ea28 rfl g rfl om) (Dyp 8 rfl (Y.fld fo_Rule_0 f6 dc rfl) (Dy 9 rfl (Y.ld1 f6 rfl ((eh28 _).sub (cs' := [_]) 0 rfl) rfl) (Dyp 10 rfl (Y.eql rfl rfl) (Ent.d (fun q31 => ?_) (fun q31 => ?_)))))
   ·refine Dyp 11 rfl (Y.mv rfl) (Dyp 12 rfl (Y.mv rfl) (Dyp 13 rfl (Y.mv rfl) (Dyp 14 rfl (Y.ix us_Rules ty_Rule rfl ea28 rfl g rfl om) (Dy 15 rfl (Y.ldS (cs := [_, _, _]) ty_Rule rfl (eh28 _) rfl) (Dyp 16 rfl (Y.mv rfl) (Dyp 17 rfl (Y.mv rfl) (Dyp 18 rfl (Y.ix us_Facts ty_Fact rfl ea23 rfl h rfl om) (Dy 19 rfl (Y.ldS (cs := [_, _]) ty_Fact rfl (eh23 _) rfl) (Dy 21 rfl (Y.ldS (cs := [_, _]) ty_Fact rfl (Has.pt m0) rfl) (D.st 20 rfl rfl kr (fun _ => rfl) (N.call (a1P (hr _ (List.getElem_mem om) _ (List.getElem_mem om) om) (hrl _ (List.getElem_mem om))) rfl rfl rfl dc rfl (fun w Lp hA => ⟨ei28_0, ei28_1, hA.ro xh28_0, ei23_0, hA.ro xh23_0⟩)) (fun k41 _ => ?_)))))))))))
    obtain ⟨a41, m41, c41⟩ := k41
    refine Ent.lenow m0 fun e41 l41 => ?_
    subst e41
    refine D.st 22 rfl rfl kr (fun _ => rfl) (N.call0 V1 rfl rfl rfl dc (fun w Lp hA => ⟨ei28_1, hA.ow m0, C5, hA.ro s8⟩)) (fun _ _ => (Dyp 23 rfl (Y.eql rfl rfl) (Ent.d (fun q44 => ?_) (fun q44 => ?_))))
    ·refine Dyp 24 rfl (Y.pkt rfl rfl) (D.done kr (Et (E.ct rfl (Ew Z2 (Emv rfl rfl (Eas rfl rfl ?_))))))
     exact Eu (E.ret (E.blr (E.thr (E.thr (E.blr (E.blr (E.thr (E.thr (E.blr (E.thr (Fg rfl rfl () (congrArg (Value.int .i64) (by first | exact a8G (h := h) po om om om (by first | assumption | grind) | exact a7k po om)) rfl)))))))))))
    ·refine Dyp 24 rfl (Y.pkt rfl rfl) (D.done kr (Et (E.cf rfl (E.skipc (E.bln (Et (Ez Z3 (Emv rfl rfl (Ey rfl ((Y.add rfl rfl om om).yd) (Eas rfl rfl (Eu (Ent.drop ?_))))))))))))
     exact E.again br (h + 1) rs (.refl _) ⟨by omega, by grind [a3h, d1, d2, t1, t2]⟩ om
   ·refine Dyp 11 rfl (Y.mv rfl) (Dsk 12 rfl (Dsk 13 rfl (Dsk 14 rfl (Dsk 15 rfl (Dsk 16 rfl (Dsk 17 rfl (Dsk 18 rfl (Dsk 19 rfl (Dsk 20 rfl (Dsk 21 rfl (Dsk 22 rfl (Dsk 23 rfl (Dyp 24 rfl (Y.pkf rfl rfl) (D.done kr (Et (E.cf rfl (E.skipc (E.bln (Et (Ez Z3 (Emv rfl rfl (Ey rfl ((Y.add rfl rfl om om).yd) (Eas rfl rfl ?_)))))))))))))))))))))))
    exact Eu (E.again br (h + 1) rs (.refl _) ⟨by omega, by grind [a3h, d1, d2, t1, t2]⟩ om)
  ·refine Eu (E.cf rfl (E.exit (E.the (E.the (E.blh (E.bln (Et (Ez Z3 (Emv rfl rfl (Ey rfl ((Y.add rfl rfl om om).yd) (Eas rfl rfl ?_)))))))))))
   exact Eu (E.again br (g + 1) rs (.refl _) ⟨by omega, by exact P1 om po (by grind [a4c, a3h])⟩ om)
 ·refine Eu (E.cf rfl (E.exit (E.the (E.the (E.blh (Et (Ew Z1 (Eas rfl rfl ?_))))))))
  exact Eu (E.ret (Fg rfl rfl () (congrArg (Value.int .i64) (by first | exact a8G (h := h) po om om om (by first | assumption | grind) | exact a7k po om)) rfl))
end Go.Proofs.YtdopeopehgdccaaGreat
