import Derived.Test.YtlfhopooaejpfaaGreatT36
import Derived.Test.YtlfhopooaejpfaaGreatT35
import Derived.Test.YtlfhopooaejpfaaGreatT11
import Derived.Test.YtlfhopooaejpfaaGreatDz
section
namespace Go.Proofs.YtlfhopooaejpfaaGreat
open Go.RowKit
set_option linter.unusedVariables false
theorem FnP.keep {P : Program} {α : Type} {E : Enc α} {w w' : World} {L : List Nat} {g : FuncId} {caps : List Value} {val : List Value → Value} {D : α → Prop} {p : α → Bool} (h : FnP P w L g caps E val D p) (k : Keep w L w') : FnP P w' [] g caps E val D p :=
  fun w2 k2 => h w2 ⟨Nat.le_trans k.size k2.size, fun b hb hn => (k2.keep b (Nat.lt_of_lt_of_le hb k.size) (by simp)).trans (k.keep b hb hn)⟩
variable {P : Program} {n : Nat} {fr : Fr}
theorem c3c {x y u : Operand} {T e : TypeId} {agg : Bool} {k : Nat} {z : List Value} {by' : Nat} {a : Option Addr} {m c : Nat} {l h : Int} (hT : P.underlying T = some (.slice e)) (ht : TyOk P e agg k z by') (hx : ev fr x = some (.slice a m c)) (hy : ev fr y = some (.int .i64 l)) (hu : ev fr u = some (.int .i64 h)) (h0 : 0 ≤ l) (h1 : l ≤ h) (h2 : h.toNat ≤ c) :
    Yp P n fr (.slice T x (some y) (some u) none) (.slice (if c = l.toNat then a else a.map (·.add (l.toNat * k))) (h.toNat - l.toNat) (c - l.toNat)) := fun ac hf w' d t p af g => by
  obtain ⟨l, rfl⟩ := Int.eq_ofNat_of_zero_le h0
  obtain ⟨h, rfl⟩ := Int.eq_ofNat_of_zero_le (show 0 ≤ h by omega)
  have h1' : l ≤ h := by omega
  simp only [Int.toNat_natCast] at h2
  simp [execOp, hf.ev hx, hf.ev hy, hf.ev hu, Instr.sliceAt, Instr.slice, Instr.sliceBounds, a5c h1', a5c h2, run_underlying hT, ht.run_sizeOf]
end Go.Proofs.YtlfhopooaejpfaaGreat
end
section
namespace Go.Proofs.YtlfhopooaejpfaaGreat
open Go.RowKit
set_option linter.all false
set_option maxHeartbeats 2000000
attribute [local irreducible] Nop Yd Yp Ent Has Tr FnP FnP2 Src o6 d7 O0 a0h H2
variable {d4 : List (Int × Int × List Int)} {l : List (Int × List Int × Int × Int × Int)} {c6 : List (Int × List Int)} {s : List Int} {m_s c_s m_l c_l m_rules c_rules m_facts c_facts : Nat} {a_s a_l a_rules a_facts : Option Addr}
theorem a3H : Tr Tryz.prog 82 [.slice a_s m_s c_s, .slice a_l m_l c_l, .slice a_rules m_rules c_rules] (fun w L => Ro w L eIs [.slice a_s m_s c_s] s ∧ Ro w L I4 [.slice a_l m_l c_l] l ∧ Ro w L G9 [.slice a_rules m_rules c_rules] d4) [] (κ := Unit) (fun k => True) (fun k => .bool (C0 s l && C4 s d4)) (fun k => []) := by
 refine Tr.intro Tryz.func82 rfl (n := 15) rfl (by decide +kernel) bl (fr := [(0, .slice a_s m_s c_s), (1, .slice a_l m_l c_l), (2, .slice a_rules m_rules c_rules)]) rfl fun w L hR => ?_
 obtain ⟨hs, hl, hrules⟩ := hR
 obtain ⟨rfl, ls⟩ := hs.slen
 obtain ⟨rfl, ll⟩ := hl.slen
 obtain ⟨rfl, lrules⟩ := hrules.slen
 refine Ew Z1 (Ei rfl (Ev Z9 (Em rfl (Em rfl (Est rfl (o4 a4i rfl rfl rfl dc (fun w Lp hA => ⟨hA.ro hs, hA.ro hl⟩)) (fun _ _ => (Ent.b (fun q9 => ?_) (fun q9 => ?_))))))))
 ·refine Em rfl (Em rfl (Em rfl (Est rfl (o4 a5n rfl rfl rfl dc (fun w Lp hA => ⟨hA.ro hs, hA.ro hrules⟩)) (fun _ _ => (Ey rfl ((x6 rfl rfl).yd) (Ei rfl ?_))))))
  exact Eu (E.ret (Fb rfl rfl (by grind [d1, d2, t1, t2])))
 ·refine Em rfl (Es rfl (Es rfl (Es rfl (Ey rfl ((z7 rfl rfl).yd) (Ei rfl ?_)))))
  exact Eu (E.ret (Fb rfl rfl (by grind [d1, d2, t1, t2])))
theorem a3q : Tr Tryz.prog 79 [.slice a_s m_s c_s, .slice a_l m_l c_l, .slice a_rules m_rules c_rules] (fun w L => Ro w L eIs [.slice a_s m_s c_s] s ∧ Ro w L I4 [.slice a_l m_l c_l] l ∧ Ro w L G9 [.slice a_rules m_rules c_rules] d4) [] (κ := Unit) (fun k => True) (fun k => .bool (C0 s l && C4 s d4)) (fun k => []) := by
 refine Tr.intro Tryz.func79 rfl (n := 15) rfl (by decide +kernel) bl (fr := [(0, .slice a_s m_s c_s), (1, .slice a_l m_l c_l), (2, .slice a_rules m_rules c_rules)]) rfl fun w L hR => ?_
 obtain ⟨hs, hl, hrules⟩ := hR
 obtain ⟨rfl, ls⟩ := hs.slen
 obtain ⟨rfl, ll⟩ := hl.slen
 obtain ⟨rfl, lrules⟩ := hrules.slen
 refine Ew Z1 (Ei rfl (Ev Z9 (Em rfl (Em rfl (Est rfl (o4 a8u rfl rfl rfl dc (fun w Lp hA => ⟨hA.ro hs, hA.ro hl⟩)) (fun _ _ => (Ent.b (fun q9 => ?_) (fun q9 => ?_))))))))
 ·refine Em rfl (Em rfl (Em rfl (Est rfl (o4 a9J rfl rfl rfl dc (fun w Lp hA => ⟨hA.ro hs, hA.ro hrules⟩)) (fun _ _ => (Ey rfl ((x6 rfl rfl).yd) (Ei rfl ?_))))))
  exact Eu (E.ret (Fb rfl rfl (by grind [d1, d2, t1, t2])))
 ·refine Em rfl (Es rfl (Es rfl (Es rfl (Ey rfl ((z7 rfl rfl).yd) (Ei rfl ?_)))))
  exact Eu (E.ret (Fb rfl rfl (by grind [d1, d2, t1, t2])))
theorem b0l {B9 : Int} {E8 : Option Addr} {G2 E7 : Nat} {E5 : List Int} (hma : 0 ≤ B9 ∧ B9.toNat < l.length) (hv : (atM l B9).2.1.length ≤ E5.length) (hif : ∀ f ∈ c6, f.1 = (atM l B9).1 → ∀ i ∈ (atM l B9).2.1, 0 ≤ i ∧ i < f.2.length) (hfl : c6.length ≤ 1048576) (hfe : ∀ f ∈ c6, f.2.length ≤ 1048576) : Tr Tryz.prog 125 [.slice a_l m_l c_l, .slice a_facts m_facts c_facts, .agg #[.int .i64 B9, .slice E8 G2 E7]] (fun w L => Ro w L I4 [.slice a_l m_l c_l] l ∧ Ro w L s6 [.slice a_facts m_facts c_facts] c6 ∧ I64 B9 ∧ Ro w L eIs [.slice E8 G2 E7] E5) [] (κ := Option Addr × Nat × Nat) (fun k => True) (fun k => .slice k.1 k.2.1 k.2.2) (fun k => [ow s6 [.slice k.1 k.2.1 k.2.2] (c6.filter (C7 (atM l B9) E5))]) := by
 refine Tr.intro Tryz.func125 rfl (n := 17) rfl (by decide +kernel) bl (fr := [(0, .slice a_l m_l c_l), (1, .slice a_facts m_facts c_facts), (2, .agg #[.int .i64 B9, .slice E8 G2 E7])]) rfl fun w L hR => ?_
 obtain ⟨hl, hfacts, W9, I6⟩ := hR
 obtain ⟨rfl, ll⟩ := hl.slen
 obtain ⟨rfl, lfacts⟩ := hfacts.slen
 obtain ⟨rfl, a0U⟩ := I6.slen
 rw [a3O hma.2] at hv hif
 refine Ew Z2 (Est rfl (N.box (cs := [_, _]) rfl dc rfl) (fun b5 _ => (Ei rfl (Ev Z7 (Em rfl (Ey rfl ((i8 fo_Access_0 f5 dc rfl).yd) (Ey rfl (g9 f5 rfl (Hz m0 0 rfl) rfl) ?_)))))))
 obtain ⟨eb11, eo11, ec11, ea11, er11, el11, eh11⟩ := hl.elem B9.toNat om
 obtain ⟨xa11_0, xc11_0, rfl, ei11_0, xh11_0, ei11_2, ei11_3, ei11_4⟩ := a0V er11
 have := xh11_0.slen.2
 refine Ey rfl ((w3 us_Methods ty_Method rfl ea11 rfl B9.toNat om om).yd) (Ey rfl (r9 (cs := [_, _, _, _, _]) ty_Method rfl (eh11 _) rfl) (Est rfl (N.alloc ty_Method dc) (fun b7 _ => (Est rfl (Ns [_, _, _, _, _] ty_Method rfl) (fun _ _ => (Ev Z5 (Em rfl (Est rfl (N.call (a4Q fo hfe) rfl rfl rfl dc rfl (fun w Lp hA => hA.ro hfacts)) (fun k14 _ => ?_)))))))))
 obtain ⟨a14, m14, c14⟩ := k14
 refine d6 m0 fun e14 l14 => ?_
 subst e14
 refine Ey rfl ((Y.fn (vs := [_, _]) rfl).yd) (Est rfl (N.call (pre := [_]) (a8t (del := (fun z => !C7 l[B9.toNat] E5 z)) (D_del := (fun z => (l[B9.toNat].2.1.length ≤ E5.length) ∧ (z.1 = l[B9.toNat].1 → ∀ i ∈ l[B9.toNat].2.1, 0 ≤ i ∧ i < z.2.length))) (by exact fun f hf => ⟨hv, hif f hf⟩)) rfl rfl rfl dc rfl (fun w Lp hA => a4r (RR := fun w L => RoPt w L b7 [.int .i64 l[B9.toNat].1, .slice xa11_0 l[B9.toNat].2.1.length xc11_0, .int .i64 l[B9.toNat].2.2.1, .int .i64 l[B9.toNat].2.2.2.1, .int .i64 l[B9.toNat].2.2.2.2] ∧ I64 l[B9.toNat].1 ∧ Ro w L eIs [.slice xa11_0 l[B9.toNat].2.1.length xc11_0] l[B9.toNat].2.1 ∧ I64 l[B9.toNat].2.2.1 ∧ I64 l[B9.toNat].2.2.2.1 ∧ I64 l[B9.toNat].2.2.2.2 ∧ RoPt w L b5 [.int .i64 B9, .slice E8 E5.length E7] ∧ I64 B9 ∧ Ro w L eIs [.slice E8 E5.length E7] E5) (D := (fun z => (l[B9.toNat].2.1.length ≤ E5.length) ∧ (z.1 = l[B9.toNat].1 → ∀ i ∈ l[B9.toNat].2.1, 0 ≤ i ∧ i < z.2.length))) (fun hd => a8I hd.1 hd.2) (fun w' hk => ⟨(hA.pt m0).keep hk, ei11_0, (hA.ro xh11_0).keep hk, ei11_2, ei11_3, ei11_4, (hA.pt (mS m0)).keep hk, W9, (hA.ro I6).keep hk⟩))) (fun k16 _ => ?_))
 obtain ⟨a16, m16, c16⟩ := k16
 refine d6 m0 fun e16 l16 => ?_
 subst e16
 refine Ei rfl (Eu (E.ret (f6 (congrArg (ow s6 [_]) (show _ = c6.filter (C7 (atM l B9) E5) by rw [a3O hma.2]; exact b6J)) ?_)))
 exact Fg rfl rfl (_, _, _) rfl rfl
theorem b0A {l0 : Int} {y6 : Option Addr} {B7 y5 : Nat} {d9 : List Int} (hr : ∀ r ∈ d4, ∀ f ∈ c6, f.1 = r.1 → ∀ x ∈ r.2.2, 0 ≤ x ∧ x < f.2.length) (hrl : ∀ r ∈ d4, r.2.2.length ≤ 1048576) : Tr Tryz.prog 167 [.slice a_rules m_rules c_rules, .slice a_facts m_facts c_facts, .agg #[.int .i64 l0, .slice y6 B7 y5]] (fun w L => Ro w L G9 [.slice a_rules m_rules c_rules] d4 ∧ Ro w L s6 [.slice a_facts m_facts c_facts] c6 ∧ I64 l0 ∧ Ro w L eIs [.slice y6 B7 y5] d9) [] (κ := Unit) (fun k => True) (fun k => .int .i64 (a1U d4 c6 (l0, d9))) (fun k => []) := by
 refine Tr.intro Tryz.func167 rfl (n := 47) rfl (by decide +kernel) bl (fr := [(0, .slice a_rules m_rules c_rules), (1, .slice a_facts m_facts c_facts), (2, .agg #[.int .i64 l0, .slice y6 B7 y5])]) rfl fun w L hR => ?_
 obtain ⟨hrules, hfacts, H5, B4⟩ := hR
 obtain ⟨rfl, lrules⟩ := hrules.slen
 obtain ⟨rfl, lfacts⟩ := hfacts.slen
 obtain ⟨rfl, R4⟩ := B4.slen
 refine Ew Z2 (Est rfl (N.box (cs := [_, _]) rfl dc rfl) (fun b5 _ => (Ei rfl (Eu (Eq_ (Ew Z1 (Ei rfl (Eu (E.block (E.loop (κ := Nat) (fun g => g ≤ d4.length ∧ ∀ x ∈ d4.take g, a6n c6 (l0, d9) x = false) (fun g => [(0, .slice a_rules d4.length c_rules), (1, .slice a_facts c6.length c_facts), (5, .pointer (some ⟨b5, 0, none⟩)), (7, .int .i64 (g : Int))]) (fun g => [pt b5 91 [.int .i64 l0, .slice y6 d9.length y5]]) (fun g => d4.length - g) 0 ⟨Nat.zero_le _, by simp⟩ ⟨rfl, rfl, rfl, rfl, trivial⟩ (.refl _) (fun g pg => ?_)))))))))))
 obtain ⟨pk, pa⟩ := pg
 have po := pa
 refine Eq_ (Ew Z4 (Em rfl (Em rfl (Ey rfl ((Y.len us_Rules rfl).yd) (Ey rfl ((Y.lss rfl rfl).yd) (n9 (fun q12 => ?_) (fun q12 => ?_)))))))
 ·refine Eu (o0 rfl (f9 (Et (Eq_ (E.block (Ew Z1 (Ei rfl (Eu (E.block (E.loop (κ := Nat) (fun h => h ≤ c6.length ∧ c6.any (a4B d4[g] (l0, d9)) = (c6.drop h).any (a4B d4[g] (l0, d9))) (fun h => [(0, .slice a_rules d4.length c_rules), (1, .slice a_facts c6.length c_facts), (5, .pointer (some ⟨b5, 0, none⟩)), (7, .int .i64 (g : Int)), (8, .int .i64 (h : Int))]) (fun h => [pt b5 91 [.int .i64 l0, .slice y6 d9.length y5]]) (fun h => c6.length - h) 0 ⟨Nat.zero_le _, by simp⟩ ⟨rfl, rfl, rfl, rfl, rfl, trivial⟩ (.refl _) (fun h ph => ?_)))))))))))
  obtain ⟨pk, pa⟩ := ph
  refine Eq_ (Ew Z4 (Em rfl (Em rfl (Ey rfl ((Y.len us_Facts rfl).yd) (Ey rfl ((Y.lss rfl rfl).yd) (n9 (fun q18 => ?_) (fun q18 => ?_)))))))
  ·refine Eu (o0 rfl (f9 (Et (Eq_ (E.block (Eq_ (D.region (fun j => true) mixed (Dyp 0 rfl (k6 rfl) (Dyp 1 rfl (k6 rfl) ?_)))))))))
   obtain ⟨eb23, eo23, ec23, ea23, er23, el23, eh23⟩ := hfacts.elem h om
   obtain ⟨xa23_0, xc23_0, rfl, ei23_0, xh23_0⟩ := R0 er23
   have := xh23_0.slen.2
   refine Dyp 2 rfl (w3 us_Facts ty_Fact rfl ea23 rfl h rfl om) (Dyp 3 rfl (i8 fo_Fact_0 f5 dc rfl) (Dy 4 rfl (g9 f5 rfl ((eh23 _).sub (cs' := [_]) 0 rfl) rfl) (Dyp 5 rfl (k6 rfl) (Dyp 6 rfl (k6 rfl) ?_))))
   obtain ⟨eb28, eo28, ec28, ea28, er28, el28, eh28⟩ := hrules.elem g om
   obtain ⟨xa28_0, xc28_0, rfl, ei28_0, ei28_1, xh28_0⟩ := a1z er28
   have := xh28_0.slen.2
   refine Dyp 7 rfl (w3 us_Rules ty_Rule rfl ea28 rfl g rfl om) (Dyp 8 rfl (i8 fo_Rule_0 f5 dc rfl) (Dy 9 rfl (g9 f5 rfl ((eh28 _).sub (cs' := [_]) 0 rfl) rfl) (Dyp 10 rfl (Y.eql rfl rfl) (n9 (fun q31 => ?_) (fun q31 => ?_)))))
   ·refine Dyp 11 rfl (k6 rfl) (Dyp 12 rfl (k6 rfl) (Dyp 13 rfl (k6 rfl) (Dyp 14 rfl (w3 us_Rules ty_Rule rfl ea28 rfl g rfl om) (Dy 15 rfl (r9 (cs := [_, _, _]) ty_Rule rfl (eh28 _) rfl) (Dyp 16 rfl (k6 rfl) (Dyp 17 rfl (k6 rfl) (Dyp 18 rfl (w3 us_Facts ty_Fact rfl ea23 rfl h rfl om) (Dy 19 rfl (r9 (cs := [_, _]) ty_Fact rfl (eh23 _) rfl) (Dy 21 rfl (r9 (cs := [_, _]) ty_Fact rfl (Has.pt m0) rfl) (u7 20 rfl rfl kr (fun _ => rfl) (N.call (a3s (hr _ (List.getElem_mem om) _ (List.getElem_mem om) om) (hrl _ (List.getElem_mem om))) rfl rfl rfl dc rfl (fun w Lp hA => ⟨ei28_0, ei28_1, hA.ro xh28_0, ei23_0, hA.ro xh23_0⟩)) (fun k41 _ => ?_)))))))))))
    obtain ⟨a41, m41, c41⟩ := k41
    refine d6 m0 fun e41 l41 => ?_
    subst e41
    refine u7 22 rfl rfl kr (fun _ => rfl) (o4 a0H rfl rfl rfl dc (fun w Lp hA => ⟨ei28_1, hA.ow m0, H5, hA.ro B4⟩)) (fun _ _ => (Dyp 23 rfl (Y.eql rfl rfl) (n9 (fun q44 => ?_) (fun q44 => ?_))))
    ·refine Dyp 24 rfl (x6 rfl rfl) (t6 kr (Et (o0 rfl (Ew Z2 (Em rfl (Ei rfl ?_))))))
     exact Eu (E.ret (C9 (s9 (s9 (C9 (C9 (s9 (s9 (C9 (s9 (Fg rfl rfl () (congrArg (Value.int .i64) (by first | exact b1d (h := h) po om om om (by first | assumption | grind) | exact a9z po om)) rfl)))))))))))
    ·refine Dyp 24 rfl (x6 rfl rfl) (t6 kr (Et (n8 rfl (f9 (s8 (Et (Ez Z3 (Em rfl (Ey rfl ((Y.add rfl rfl om om).yd) (Ei rfl (Eu (Ent.drop ?_))))))))))))
     exact B0 br (h + 1) rs (.refl _) ⟨by omega, by grind [a4B, d1, d2, t1, t2]⟩ om
   ·refine Dyp 11 rfl (k6 rfl) (Dsk 12 rfl (Dsk 13 rfl (Dsk 14 rfl (Dsk 15 rfl (Dsk 16 rfl (Dsk 17 rfl (Dsk 18 rfl (Dsk 19 rfl (Dsk 20 rfl (Dsk 21 rfl (Dsk 22 rfl (Dsk 23 rfl (Dyp 24 rfl (z7 rfl rfl) (t6 kr (Et (n8 rfl (f9 (s8 (Et (Ez Z3 (Em rfl ?_)))))))))))))))))))))
    refine Ey rfl ((Y.add rfl rfl om om).yd) (Ei rfl ?_)
    exact Eu (B0 br (h + 1) rs (.refl _) ⟨by omega, by grind [a4B, d1, d2, t1, t2]⟩ om)
  ·refine Eu (n8 rfl (E.exit (l3 (l3 (y4 (s8 (Et (Ez Z3 (Em rfl (Ey rfl ((Y.add rfl rfl om om).yd) (Ei rfl ?_)))))))))))
   exact Eu (B0 br (g + 1) rs (.refl _) ⟨by omega, by exact X4 om po (by grind [a6n, a4B])⟩ om)
 ·refine Eu (n8 rfl (E.exit (l3 (l3 (y4 (Et (Ew Z1 (Ei rfl ?_))))))))
  exact Eu (E.ret (Fg rfl rfl () (congrArg (Value.int .i64) (by first | exact b1d (h := h) po om om om (by first | assumption | grind) | exact a9z po om)) rfl))
end Go.Proofs.YtlfhopooaejpfaaGreat
end
