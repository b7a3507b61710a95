import Derived.Test.YthapcdhdfaibkaaGreatDoorT35
import Derived.Test.YthapcdhdfaibkaaGreatDoorDy
section
namespace Go.Proofs.YthapcdhdfaibkaaGreatDoor
open Go.RowKit
set_option linter.unusedVariables false
theorem ty_F : TyOk Tryz.prog 133 false 1 [.nilFunc] 8 := M0 (z := .nilFunc) (by kernel_rfl) (by kernel_rfl) rfl rfl
theorem FnP.keep {P : Program} {α : Type} {E : Enc α} {w w' : World} {L : List Nat} {g : FuncId} {caps : List Value} {val : List Value → Value} {D : α → Prop} {p : α → Bool} (h : FnP P w L g caps E val D p) (k : Keep w L w') : FnP P w' [] g caps E val D p :=
  fun w2 k2 => h w2 ⟨Nat.le_trans k.size k2.size, fun b hb hn => (k2.keep b (Nat.lt_of_lt_of_le hb k.size) (by simp)).trans (k.keep b hb hn)⟩
variable {P : Program} {n : Nat} {fr : Fr}
theorem b7h {x y u : Operand} {T e : TypeId} {agg : Bool} {k : Nat} {z : List Value} {by' : Nat} {a : Option Addr} {m c : Nat} {l h : Int} (hT : P.underlying T = some (.slice e)) (ht : TyOk P e agg k z by') (hx : ev fr x = some (.slice a m c)) (hy : ev fr y = some (.int .i64 l)) (hu : ev fr u = some (.int .i64 h)) (h0 : 0 ≤ l) (h1 : l ≤ h) (h2 : h.toNat ≤ c) :
    Yp P n fr (.slice T x (some y) (some u) none) (.slice (if c = l.toNat then a else a.map (·.add (l.toNat * k))) (h.toNat - l.toNat) (c - l.toNat)) := fun ac hf w' d t p af g => by
  obtain ⟨l, rfl⟩ := Int.eq_ofNat_of_zero_le h0
  obtain ⟨h, rfl⟩ := Int.eq_ofNat_of_zero_le (show 0 ≤ h by omega)
  have h1' : l ≤ h := by omega
  simp only [Int.toNat_natCast] at h2
  simp [execOp, hf.ev hx, hf.ev hy, hf.ev hu, Instr.sliceAt, Instr.slice, Instr.sliceBounds, a4F h1', a4F h2, run_underlying hT, ht.run_sizeOf]
end Go.Proofs.YthapcdhdfaibkaaGreatDoor
end
section
namespace Go.Proofs.YthapcdhdfaibkaaGreatDoor
open Go.RowKit
set_option linter.all false
set_option maxHeartbeats 2000000
attribute [local irreducible] Nop Yd Yp Ent Has Tr FnP FnP2 Src o2 c8 N0 a0b E6
variable {u7 a4u X6 S5 v I1 B8 G9 : Int} {before : List (Int × (Int × List Int) × Int × List Int)} {d4 : List (Int × Int × List Int)} {l : List (Int × List Int × Int × Int × Int)} {a8 : List (Int × List Int)} {s w9 a3a R2 d6 F4 H0 : List Int} {m_s c_s m_l c_l m_rules c_rules B4 z7 m_facts c_facts Y3 U6 a0j X7 m_seeds c_seeds m_before c_before I3 I4 K5 K6 : Nat} {a_s a_l a_rules z8 a_facts U7 X8 a_seeds a_before I5 K7 : Option Addr}
theorem a3h : Tr Tryz.prog 158 [.slice a_s m_s c_s, .slice a_l m_l c_l, .slice a_rules m_rules c_rules] (fun w L => Ro w L eIs [.slice a_s m_s c_s] s ∧ Ro w L F5 [.slice a_l m_l c_l] l ∧ Ro w L J9 [.slice a_rules m_rules c_rules] d4) [] (κ := Unit) (fun k => True) (fun k => .bool (B3 s l && B7 s d4)) (fun k => []) := by
 refine Tr.intro Tryz.func158 rfl (n := 15) rfl (by decide +kernel) bl (fr := [(0, .slice a_s m_s c_s), (1, .slice a_l m_l c_l), (2, .slice a_rules m_rules c_rules)]) rfl fun w L hR => ?_
 obtain ⟨hs, hl, hrules⟩ := hR
 obtain ⟨rfl, ls⟩ := hs.slen
 obtain ⟨rfl, ll⟩ := hl.slen
 obtain ⟨rfl, lrules⟩ := hrules.slen
 refine Ew Z1 (Ei rfl (Ev Z9 (Em rfl (Em rfl (Est rfl (l0 a1g rfl rfl rfl dc (fun w Lp hA => ⟨hA.ro hs, hA.ro hl⟩)) (fun _ _ => (Ent.b (fun q9 => ?_) (fun q9 => ?_))))))))
 ·refine Em rfl (Em rfl (Em rfl (Est rfl (l0 a2W rfl rfl rfl dc (fun w Lp hA => ⟨hA.ro hs, hA.ro hrules⟩)) (fun _ _ => (Ey rfl ((t8 rfl rfl).yd) (Ei rfl ?_))))))
  exact Eu (E.ret (Fb rfl rfl (by grind [d1, d2, t1, t2])))
 ·refine Em rfl (Es rfl (Es rfl (Es rfl (Ey rfl ((t7 rfl rfl).yd) (Ei rfl ?_)))))
  exact Eu (E.ret (Fb rfl rfl (by grind [d1, d2, t1, t2])))
theorem a2Z : Tr Tryz.prog 155 [.slice a_s m_s c_s, .slice a_l m_l c_l, .slice a_rules m_rules c_rules] (fun w L => Ro w L eIs [.slice a_s m_s c_s] s ∧ Ro w L F5 [.slice a_l m_l c_l] l ∧ Ro w L J9 [.slice a_rules m_rules c_rules] d4) [] (κ := Unit) (fun k => True) (fun k => .bool (B3 s l && B7 s d4)) (fun k => []) := by
 refine Tr.intro Tryz.func155 rfl (n := 15) rfl (by decide +kernel) bl (fr := [(0, .slice a_s m_s c_s), (1, .slice a_l m_l c_l), (2, .slice a_rules m_rules c_rules)]) rfl fun w L hR => ?_
 obtain ⟨hs, hl, hrules⟩ := hR
 obtain ⟨rfl, ls⟩ := hs.slen
 obtain ⟨rfl, ll⟩ := hl.slen
 obtain ⟨rfl, lrules⟩ := hrules.slen
 refine Ew Z1 (Ei rfl (Ev Z9 (Em rfl (Em rfl (Est rfl (l0 a3S rfl rfl rfl dc (fun w Lp hA => ⟨hA.ro hs, hA.ro hl⟩)) (fun _ _ => (Ent.b (fun q9 => ?_) (fun q9 => ?_))))))))
 ·refine Em rfl (Em rfl (Em rfl (Est rfl (l0 a8T rfl rfl rfl dc (fun w Lp hA => ⟨hA.ro hs, hA.ro hrules⟩)) (fun _ _ => (Ey rfl ((t8 rfl rfl).yd) (Ei rfl ?_))))))
  exact Eu (E.ret (Fb rfl rfl (by grind [d1, d2, t1, t2])))
 ·refine Em rfl (Es rfl (Es rfl (Es rfl (Ey rfl ((t7 rfl rfl).yd) (Ei rfl ?_)))))
  exact Eu (E.ret (Fb rfl rfl (by grind [d1, d2, t1, t2])))
theorem a8R : Tr Tryz.prog 272 [.slice a_s m_s c_s, .slice a_l m_l c_l, .agg #[.int .i64 u7, .slice z8 B4 z7]] (fun w L => Ro w L eIs [.slice a_s m_s c_s] s ∧ Ro w L F5 [.slice a_l m_l c_l] l ∧ I64 u7 ∧ Ro w L eIs [.slice z8 B4 z7] w9) [] (κ := Unit) (fun k => True) (fun k => .bool (Y9 s l (u7, w9))) (fun k => []) := by
 refine Tr.intro Tryz.func272 rfl (n := 36) rfl (by decide +kernel) bl (fr := [(0, .slice a_s m_s c_s), (1, .slice a_l m_l c_l), (2, .agg #[.int .i64 u7, .slice z8 B4 z7])]) rfl fun w L hR => ?_
 obtain ⟨hs, hl, P2, C4⟩ := hR
 obtain ⟨rfl, ls⟩ := hs.slen
 obtain ⟨rfl, ll⟩ := hl.slen
 obtain ⟨rfl, W8⟩ := C4.slen
 refine Ew Z2 (Est rfl (N.box (cs := [_, _]) rfl dc rfl) (fun b5 _ => (Ei rfl (Eu (Eq_ (D.region (fun j => true) mixed (Dyp 0 rfl (i8 rfl) (Dyp 1 rfl (i8 rfl) (t6 2 rfl rfl kr (fun _ => rfl) (l0 a3S rfl rfl rfl dc (fun w Lp hA => ⟨hA.ro hs, hA.ro hl⟩)) (fun _ _ => (Ent.b (fun q9 => ?_) (fun q9 => ?_))))))))))))
 ·refine Dyp 3 rfl (i8 rfl) (Dyp 4 rfl (f5 fo_Access_0 f9 dc rfl) (Dy 5 rfl (g9 f9 rfl (Hz m0 0 rfl) rfl) (Dyp 6 rfl (i8 rfl) (Dyp 7 rfl (Y.len us_Methods rfl) (Dyp 8 rfl (Y.sub rfl rfl om om) (t6 9 rfl rfl kr (fun _ => rfl) (l0 M8 rfl rfl rfl dc tv) (fun _ _ => (Ent.b (fun q16 => ?_) (fun q16 => ?_)))))))))
  ·have zz := a3A q16
   refine Dyp 10 rfl (t8 rfl rfl) (Dyp 11 rfl (i8 rfl) (Dyp 12 rfl (f5 fo_Access_1 ty_Is dc rfl) (Dy 13 rfl (g9 ty_Is rfl (Hz m0 1 rfl) rfl) (Dyp 14 rfl (Y.len us_Is rfl) (Dyp 15 rfl (i8 rfl) (Dyp 16 rfl (f5 fo_Access_0 f9 dc rfl) (Dy 17 rfl (g9 f9 rfl (Hz m0 0 rfl) rfl) ?_)))))))
   obtain ⟨eb25, eo25, ec25, ea25, er25, el25, eh25⟩ := hl.elem u7.toNat om
   obtain ⟨xa25_0, xc25_0, rfl, ei25_0, xh25_0, ei25_2, ei25_3, ei25_4⟩ := V6 er25
   have := xh25_0.slen.2
   refine Dyp 18 rfl (v8 us_Methods ty_Method rfl ea25 rfl u7.toNat om om) (Dyp 19 rfl (f5 fo_Method_1 ty_Is dc rfl) (Dy 20 rfl (g9 ty_Is rfl ((eh25 _).sub (cs' := [_]) 1 rfl) rfl) (Dyp 21 rfl (Y.len us_Is rfl) (Dyp 22 rfl (Y.eql rfl rfl) (o3 (fun q29 => ?_) (fun q29 => ?_))))))
   ·refine Dyp 23 rfl (t8 rfl rfl) (Dyp 24 rfl (i8 rfl) (Dyp 25 rfl (f5 fo_Access_1 ty_Is dc rfl) (Dy 26 rfl (g9 ty_Is rfl (Hz m0 1 rfl) rfl) (t6 27 rfl rfl kr (fun _ => rfl) (l0 a1r rfl rfl rfl dc (fun w Lp hA => hA.ro C4)) (fun _ _ => (Dyp 28 rfl (t8 rfl rfl) (Dyp 29 rfl (C2 rfl) ?_)))))))
    exact r9 kr (Et (E.ret (Fb rfl rfl (by grind [Y9, D0, d1, d2, t1, t2]))))
   ·refine Dyp 23 rfl (t8 rfl rfl) (Dyp 24 rfl (i8 rfl) (Dsk 25 rfl (Dsk 26 rfl (Dsk 27 rfl (Dyp 28 rfl (t7 rfl rfl) (Dyp 29 rfl (C2 rfl) ?_))))))
    exact r9 kr (Et (E.ret (Fb rfl rfl (by grind [Y9, D0, d1, d2, t1, t2]))))
  ·refine Dyp 10 rfl (t8 rfl rfl) (Dyp 11 rfl (i8 rfl) (Dsk 12 rfl (Dsk 13 rfl (Dsk 14 rfl (Dsk 15 rfl (Dsk 16 rfl (Dsk 17 rfl (Dsk 18 rfl (Dsk 19 rfl (Dsk 20 rfl (Dsk 21 rfl (Dsk 22 rfl (Dyp 23 rfl (t7 rfl rfl) (Dyp 24 rfl (i8 rfl) (Dsk 25 rfl (Dsk 26 rfl (Dsk 27 rfl (Dyp 28 rfl (t7 rfl rfl) (Dyp 29 rfl (C2 rfl) ?_)))))))))))))))))))
   exact r9 kr (Et (E.ret (Fb rfl rfl (by grind [Y9, D0, d1, d2, t1, t2]))))
 ·refine Dyp 3 rfl (i8 rfl) (Dsk 4 rfl (Dsk 5 rfl (Dsk 6 rfl (Dsk 7 rfl (Dsk 8 rfl (Dsk 9 rfl (Dyp 10 rfl (t7 rfl rfl) (Dyp 11 rfl (i8 rfl) (Dsk 12 rfl (Dsk 13 rfl (Dsk 14 rfl (Dsk 15 rfl (Dsk 16 rfl (Dsk 17 rfl (Dsk 18 rfl (Dsk 19 rfl (Dsk 20 rfl (Dsk 21 rfl (Dsk 22 rfl (Dyp 23 rfl (t7 rfl rfl) (Dyp 24 rfl (i8 rfl) (Dsk 25 rfl (Dsk 26 rfl (Dsk 27 rfl (Dyp 28 rfl (t7 rfl rfl) (Dyp 29 rfl (C2 rfl) ?_))))))))))))))))))))))))))
  exact r9 kr (Et (E.ret (Fb rfl rfl (by grind [Y9, D0, d1, d2, t1, t2]))))
theorem a8I : Tr Tryz.prog 167 [.slice a_s m_s c_s, .slice a_l m_l c_l, .agg #[.int .i64 u7, .slice z8 B4 z7]] (fun w L => Ro w L eIs [.slice a_s m_s c_s] s ∧ Ro w L F5 [.slice a_l m_l c_l] l ∧ I64 u7 ∧ Ro w L eIs [.slice z8 B4 z7] w9) [] (κ := Unit) (fun k => True) (fun k => .bool (Y9 s l (u7, w9))) (fun k => []) := by
 refine Tr.intro Tryz.func167 rfl (n := 48) rfl (by decide +kernel) bl (fr := [(0, .slice a_s m_s c_s), (1, .slice a_l m_l c_l), (2, .agg #[.int .i64 u7, .slice z8 B4 z7])]) rfl fun w L hR => ?_
 obtain ⟨hs, hl, P2, C4⟩ := hR
 obtain ⟨rfl, ls⟩ := hs.slen
 obtain ⟨rfl, ll⟩ := hl.slen
 obtain ⟨rfl, W8⟩ := C4.slen
 refine Ew Z2 (Est rfl (N.box (cs := [_, _]) rfl dc rfl) (fun b5 _ => (Ei rfl (Eu (Eq_ (Eq_ (D.region (fun j => true) mixed (Dyp 0 rfl (i8 rfl) (Dyp 1 rfl (i8 rfl) (t6 2 rfl rfl kr (fun _ => rfl) (l0 a1g rfl rfl rfl dc (fun w Lp hA => ⟨hA.ro hs, hA.ro hl⟩)) (fun _ _ => (Ent.b (fun q10 => ?_) (fun q10 => ?_)))))))))))))
 ·refine Dyp 3 rfl (Y.not (b := true) rfl) (Dyp 4 rfl (i8 rfl) (Dyp 5 rfl (f5 fo_Access_0 f9 dc rfl) (Dy 6 rfl (g9 f9 rfl (Hz m0 0 rfl) rfl) (Dyp 7 rfl (i8 rfl) (Dyp 8 rfl (Y.len us_Methods rfl) (Dyp 9 rfl (Y.sub rfl rfl om om) (t6 10 rfl rfl kr (fun _ => rfl) (l0 G0 rfl rfl rfl dc tv) (fun _ _ => (Ent.b (fun q18 => ?_) (fun q18 => ?_))))))))))
  ·have zz := a3A q18
   refine Dyp 11 rfl (Y.not (b := true) rfl) (Dyp 12 rfl (t7 rfl rfl) (Dyp 13 rfl (i8 rfl) (Dyp 14 rfl (f5 fo_Access_1 ty_Is dc rfl) (Dy 15 rfl (g9 ty_Is rfl (Hz m0 1 rfl) rfl) (Dyp 16 rfl (Y.len us_Is rfl) (Dyp 17 rfl (i8 rfl) (Dyp 18 rfl (f5 fo_Access_0 f9 dc rfl) (Dy 19 rfl (g9 f9 rfl (Hz m0 0 rfl) rfl) ?_))))))))
   obtain ⟨eb28, eo28, ec28, ea28, er28, el28, eh28⟩ := hl.elem u7.toNat om
   obtain ⟨xa28_0, xc28_0, rfl, ei28_0, xh28_0, ei28_2, ei28_3, ei28_4⟩ := V6 er28
   have := xh28_0.slen.2
   refine Dyp 20 rfl (v8 us_Methods ty_Method rfl ea28 rfl u7.toNat om om) (Dyp 21 rfl (f5 fo_Method_1 ty_Is dc rfl) (Dy 22 rfl (g9 ty_Is rfl ((eh28 _).sub (cs' := [_]) 1 rfl) rfl) (Dyp 23 rfl (Y.len us_Is rfl) (Dyp 24 rfl (Y.neq rfl rfl) (o3 (fun q32 => ?_) (fun q32 => ?_))))))
   ·refine Dyp 25 rfl (t7 rfl rfl) (r9 kr (Et (n8 rfl (Ew Z1 (Ei rfl ?_)))))
    exact Eu (E.ret (n0 (Fb rfl rfl (by grind [Y9, D0, G4, d1, d2, t1, t2]))))
   ·refine Dyp 25 rfl (t7 rfl rfl) (r9 kr (Et (o0 rfl (i7 (Et (Eq_ (Ew Z1 (Ei rfl (Eu (E.block (E.loop (κ := Nat) (fun g => g ≤ w9.length ∧ G4 w9 = G4 (w9.drop g)) (fun g => [(5, .pointer (some ⟨b5, 0, none⟩)), (7, .int .i64 (g : Int))]) (fun g => [pt b5 105 [.int .i64 u7, .slice z8 w9.length z7]]) (fun g => w9.length - g) 0 ⟨Nat.zero_le _, by simp⟩ ⟨rfl, rfl, trivial⟩ (.refl _) (fun g pg => ?_))))))))))))
    obtain ⟨pk, pa⟩ := pg
    refine Eq_ (Ew Z5 (Em rfl (Ey rfl ((f5 fo_Access_1 ty_Is dc rfl).yd) (Ey rfl (g9 ty_Is rfl (Hz m0 1 rfl) rfl) (Ey rfl ((Y.len us_Is rfl).yd) (Ey rfl ((Y.lss rfl rfl).yd) (o3 (fun q38 => ?_) (fun q38 => ?_))))))))
    ·refine Eu (n8 rfl (i7 (Et (Eq_ (E.block (Ew Z7 (Ey rfl ((f5 fo_Access_1 ty_Is dc rfl).yd) (Ey rfl (g9 ty_Is rfl (Hz m0 1 rfl) rfl) (Em rfl ?_)))))))))
     obtain ⟨eb44, eo44, ea44, ei44, eh44⟩ := C4.elemI g om
     refine Ey rfl ((v8 us_Is f9 rfl ea44 rfl g rfl om).yd) (Ey rfl (g9 f9 rfl (eh44 _) rfl) (Est rfl (l0 G0 rfl rfl rfl dc tv) (fun _ _ => (Ent.b (fun q46 => ?_) (fun q46 => ?_)))))
     ·refine Ey rfl ((Y.not (b := true) rfl).yd) (Eu (o0 rfl (i7 (s9 (Et (Ez Z3 (Em rfl (Ey rfl ((Y.add rfl rfl om om).yd) (Ei rfl ?_)))))))))
      exact Eu (x6 br (g + 1) ⟨rfl, rfl, trivial⟩ (.refl _) ⟨by omega, by grind [G4, d1, d2, t1, t2]⟩ om)
     ·refine Ey rfl ((Y.not (b := false) rfl).yd) (Eu (n8 rfl (Ew Z1 (Ei rfl ?_))))
      exact Eu (E.ret (y8 (n0 (n0 (y8 (n0 (Fb rfl rfl (by grind [Y9, D0, G4, d1, d2, t1, t2]))))))))
    ·refine Eu (o0 rfl (E.exit (q1 (q1 (y4 (Et (Ew Z1 (Ei rfl ?_))))))))
     exact Eu (E.ret (Fb rfl rfl (by grind [Y9, D0, G4, d1, d2, t1, t2])))
  ·refine Dyp 11 rfl (Y.not (b := false) rfl) (Dyp 12 rfl (t7 rfl rfl) (Dyp 13 rfl (i8 rfl) (Dsk 14 rfl (Dsk 15 rfl (Dsk 16 rfl (Dsk 17 rfl (Dsk 18 rfl (Dsk 19 rfl (Dsk 20 rfl (Dsk 21 rfl (Dsk 22 rfl (Dsk 23 rfl (Dsk 24 rfl (Dyp 25 rfl (t8 rfl rfl) (r9 kr (Et (n8 rfl (Ew Z1 (Ei rfl ?_)))))))))))))))))))
   exact Eu (E.ret (n0 (Fb rfl rfl (by grind [Y9, D0, G4, d1, d2, t1, t2]))))
 ·refine Dyp 3 rfl (Y.not (b := false) rfl) (Dyp 4 rfl (i8 rfl) (Dsk 5 rfl (Dsk 6 rfl (Dsk 7 rfl (Dsk 8 rfl (Dsk 9 rfl (Dsk 10 rfl (Dsk 11 rfl (Dyp 12 rfl (t8 rfl rfl) (Dyp 13 rfl (i8 rfl) (Dsk 14 rfl (Dsk 15 rfl (Dsk 16 rfl (Dsk 17 rfl (Dsk 18 rfl (Dsk 19 rfl (Dsk 20 rfl (Dsk 21 rfl (Dsk 22 rfl (Dsk 23 rfl (Dsk 24 rfl (Dyp 25 rfl (t8 rfl rfl) (r9 kr (Et (n8 rfl (Ew Z1 (Ei rfl ?_)))))))))))))))))))))))))))
  exact Eu (E.ret (n0 (Fb rfl rfl (by grind [Y9, D0, G4, d1, d2, t1, t2]))))
theorem a5i (hma : 0 ≤ u7 ∧ u7.toNat < l.length) (hv : (atM l u7).2.1.length ≤ w9.length) (hif : ∀ f ∈ a8, f.1 = (atM l u7).1 → ∀ i ∈ (atM l u7).2.1, 0 ≤ i ∧ i < f.2.length) (hfl : a8.length ≤ 1048576) (hfe : ∀ f ∈ a8, f.2.length ≤ 1048576) : Tr Tryz.prog 72 [.slice a_l m_l c_l, .slice a_facts m_facts c_facts, .agg #[.int .i64 u7, .slice z8 B4 z7]] (fun w L => Ro w L F5 [.slice a_l m_l c_l] l ∧ Ro w L m8 [.slice a_facts m_facts c_facts] a8 ∧ I64 u7 ∧ Ro w L eIs [.slice z8 B4 z7] w9) [] (κ := Option Addr × Nat × Nat) (fun k => True) (fun k => .slice k.1 k.2.1 k.2.2) (fun k => [ow m8 [.slice k.1 k.2.1 k.2.2] (a8.filter (v7 (atM l u7) w9))]) := by
 refine Tr.intro Tryz.func72 rfl (n := 17) rfl (by decide +kernel) bl (fr := [(0, .slice a_l m_l c_l), (1, .slice a_facts m_facts c_facts), (2, .agg #[.int .i64 u7, .slice z8 B4 z7])]) rfl fun w L hR => ?_
 obtain ⟨hl, hfacts, P2, C4⟩ := hR
 obtain ⟨rfl, ll⟩ := hl.slen
 obtain ⟨rfl, lfacts⟩ := hfacts.slen
 obtain ⟨rfl, W8⟩ := C4.slen
 rw [D0 hma.2] at hv hif
 refine Ew Z2 (Est rfl (N.box (cs := [_, _]) rfl dc rfl) (fun b5 _ => (Ei rfl (Ev Z7 (Em rfl (Ey rfl ((f5 fo_Access_0 f9 dc rfl).yd) (Ey rfl (g9 f9 rfl (Hz m0 0 rfl) rfl) ?_)))))))
 obtain ⟨eb11, eo11, ec11, ea11, er11, el11, eh11⟩ := hl.elem u7.toNat om
 obtain ⟨xa11_0, xc11_0, rfl, ei11_0, xh11_0, ei11_2, ei11_3, ei11_4⟩ := V6 er11
 have := xh11_0.slen.2
 refine Ey rfl ((v8 us_Methods ty_Method rfl ea11 rfl u7.toNat om om).yd) (Ey rfl (o6 (cs := [_, _, _, _, _]) ty_Method rfl (eh11 _) rfl) (Est rfl (N.alloc ty_Method dc) (fun b7 _ => (Est rfl (Ns [_, _, _, _, _] ty_Method rfl) (fun _ _ => (Ev Z5 (Em rfl (Est rfl (N.call (a4g fo hfe) rfl rfl rfl dc rfl (fun w Lp hA => hA.ro hfacts)) (fun k14 _ => ?_)))))))))
 obtain ⟨a14, m14, c14⟩ := k14
 refine d7 m0 fun e14 l14 => ?_
 subst e14
 refine Ey rfl ((Y.fn (vs := [_, _]) rfl).yd) (Est rfl (N.call (pre := [_]) (a7t (del := (fun z => !v7 l[u7.toNat] w9 z)) (D_del := (fun z => (l[u7.toNat].2.1.length ≤ w9.length) ∧ (z.1 = l[u7.toNat].1 → ∀ i ∈ l[u7.toNat].2.1, 0 ≤ i ∧ i < z.2.length))) (by exact fun f hf => ⟨hv, hif f hf⟩)) rfl rfl rfl dc rfl (fun w Lp hA => a3Z (RR := fun w L => RoPt w L b7 [.int .i64 l[u7.toNat].1, .slice xa11_0 l[u7.toNat].2.1.length xc11_0, .int .i64 l[u7.toNat].2.2.1, .int .i64 l[u7.toNat].2.2.2.1, .int .i64 l[u7.toNat].2.2.2.2] ∧ I64 l[u7.toNat].1 ∧ Ro w L eIs [.slice xa11_0 l[u7.toNat].2.1.length xc11_0] l[u7.toNat].2.1 ∧ I64 l[u7.toNat].2.2.1 ∧ I64 l[u7.toNat].2.2.2.1 ∧ I64 l[u7.toNat].2.2.2.2 ∧ RoPt w L b5 [.int .i64 u7, .slice z8 w9.length z7] ∧ I64 u7 ∧ Ro w L eIs [.slice z8 w9.length z7] w9) (D := (fun z => (l[u7.toNat].2.1.length ≤ w9.length) ∧ (z.1 = l[u7.toNat].1 → ∀ i ∈ l[u7.toNat].2.1, 0 ≤ i ∧ i < z.2.length))) (fun hd => a8e hd.1 hd.2) (fun w' hk => ⟨(hA.pt m0).keep hk, ei11_0, (hA.ro xh11_0).keep hk, ei11_2, ei11_3, ei11_4, (hA.pt (mS m0)).keep hk, P2, (hA.ro C4).keep hk⟩))) (fun k16 _ => ?_))
 obtain ⟨a16, m16, c16⟩ := k16
 refine d7 m0 fun e16 l16 => ?_
 subst e16
 refine Ei rfl (Eu (E.ret (j4 (congrArg (ow m8 [_]) (show _ = a8.filter (v7 (atM l u7) w9) by rw [D0 hma.2]; exact b3O)) ?_)))
 exact Fg rfl rfl (_, _, _) rfl rfl
theorem a5e {l8 : Int} {s8 : Option Addr} {w3 s7 : Nat} {f0 : List Int} (hr : ∀ r ∈ d4, ∀ f ∈ a8, f.1 = r.1 → ∀ x ∈ r.2.2, 0 ≤ x ∧ x < f.2.length) (hrl : ∀ r ∈ d4, r.2.2.length ≤ 1048576) : Tr Tryz.prog 168 [.slice a_rules m_rules c_rules, .slice a_facts m_facts c_facts, .agg #[.int .i64 l8, .slice s8 w3 s7]] (fun w L => Ro w L J9 [.slice a_rules m_rules c_rules] d4 ∧ Ro w L m8 [.slice a_facts m_facts c_facts] a8 ∧ I64 l8 ∧ Ro w L eIs [.slice s8 w3 s7] f0) [] (κ := Unit) (fun k => True) (fun k => .int .i64 (X4 d4 a8 (l8, f0))) (fun k => []) := by
 refine Tr.intro Tryz.func168 rfl (n := 47) rfl (by decide +kernel) bl (fr := [(0, .slice a_rules m_rules c_rules), (1, .slice a_facts m_facts c_facts), (2, .agg #[.int .i64 l8, .slice s8 w3 s7])]) rfl fun w L hR => ?_
 obtain ⟨hrules, hfacts, C3, v6⟩ := hR
 obtain ⟨rfl, lrules⟩ := hrules.slen
 obtain ⟨rfl, lfacts⟩ := hfacts.slen
 obtain ⟨rfl, J1⟩ := v6.slen
 refine Ew Z2 (Est rfl (N.box (cs := [_, _]) rfl dc rfl) (fun b5 _ => (Ei rfl (Eu (Eq_ (Ew Z1 (Ei rfl (Eu (E.block (E.loop (κ := Nat) (fun g => g ≤ d4.length ∧ ∀ x ∈ d4.take g, a0W a8 (l8, f0) x = false) (fun g => [(0, .slice a_rules d4.length c_rules), (1, .slice a_facts a8.length c_facts), (5, .pointer (some ⟨b5, 0, none⟩)), (7, .int .i64 (g : Int))]) (fun g => [pt b5 85 [.int .i64 l8, .slice s8 f0.length s7]]) (fun g => d4.length - g) 0 ⟨Nat.zero_le _, by simp⟩ ⟨rfl, rfl, rfl, rfl, trivial⟩ (.refl _) (fun g pg => ?_)))))))))))
 obtain ⟨pk, pa⟩ := pg
 have po := pa
 refine Eq_ (Ew Z4 (Em rfl (Em rfl (Ey rfl ((Y.len us_Rules rfl).yd) (Ey rfl ((Y.lss rfl rfl).yd) (o3 (fun q12 => ?_) (fun q12 => ?_)))))))
 ·refine Eu (n8 rfl (i7 (Et (Eq_ (E.block (Ew Z1 (Ei rfl (Eu (E.block (E.loop (κ := Nat) (fun h => h ≤ a8.length ∧ a8.any (a2y d4[g] (l8, f0)) = (a8.drop h).any (a2y d4[g] (l8, f0))) (fun h => [(0, .slice a_rules d4.length c_rules), (1, .slice a_facts a8.length c_facts), (5, .pointer (some ⟨b5, 0, none⟩)), (7, .int .i64 (g : Int)), (8, .int .i64 (h : Int))]) (fun h => [pt b5 85 [.int .i64 l8, .slice s8 f0.length s7]]) (fun h => a8.length - h) 0 ⟨Nat.zero_le _, by simp⟩ ⟨rfl, rfl, rfl, rfl, rfl, trivial⟩ (.refl _) (fun h ph => ?_)))))))))))
  obtain ⟨pk, pa⟩ := ph
  refine Eq_ (Ew Z4 (Em rfl (Em rfl (Ey rfl ((Y.len us_Facts rfl).yd) (Ey rfl ((Y.lss rfl rfl).yd) (o3 (fun q18 => ?_) (fun q18 => ?_)))))))
  ·refine Eu (n8 rfl (i7 (Et (Eq_ (E.block (Eq_ (D.region (fun j => true) mixed (Dyp 0 rfl (i8 rfl) (Dyp 1 rfl (i8 rfl) ?_)))))))))
   obtain ⟨eb23, eo23, ec23, ea23, er23, el23, eh23⟩ := hfacts.elem h om
   obtain ⟨xa23_0, xc23_0, rfl, ei23_0, xh23_0⟩ := K8 er23
   have := xh23_0.slen.2
   refine Dyp 2 rfl (v8 us_Facts ty_Fact rfl ea23 rfl h rfl om) (Dyp 3 rfl (f5 fo_Fact_0 f9 dc rfl) (Dy 4 rfl (g9 f9 rfl ((eh23 _).sub (cs' := [_]) 0 rfl) rfl) (Dyp 5 rfl (i8 rfl) (Dyp 6 rfl (i8 rfl) ?_))))
   obtain ⟨eb28, eo28, ec28, ea28, er28, el28, eh28⟩ := hrules.elem g om
   obtain ⟨xa28_0, xc28_0, rfl, ei28_0, ei28_1, xh28_0⟩ := a2c er28
   have := xh28_0.slen.2
   refine Dyp 7 rfl (v8 us_Rules ty_Rule rfl ea28 rfl g rfl om) (Dyp 8 rfl (f5 fo_Rule_0 f9 dc rfl) (Dy 9 rfl (g9 f9 rfl ((eh28 _).sub (cs' := [_]) 0 rfl) rfl) (Dyp 10 rfl (Y.eql rfl rfl) (o3 (fun q31 => ?_) (fun q31 => ?_)))))
   ·refine Dyp 11 rfl (i8 rfl) (Dyp 12 rfl (i8 rfl) (Dyp 13 rfl (i8 rfl) (Dyp 14 rfl (v8 us_Rules ty_Rule rfl ea28 rfl g rfl om) (Dy 15 rfl (o6 (cs := [_, _, _]) ty_Rule rfl (eh28 _) rfl) (Dyp 16 rfl (i8 rfl) (Dyp 17 rfl (i8 rfl) (Dyp 18 rfl (v8 us_Facts ty_Fact rfl ea23 rfl h rfl om) (Dy 19 rfl (o6 (cs := [_, _]) ty_Fact rfl (eh23 _) rfl) (Dy 21 rfl (o6 (cs := [_, _]) ty_Fact rfl (Has.pt m0) rfl) (t6 20 rfl rfl kr (fun _ => rfl) (N.call (a2X (hr _ (List.getElem_mem om) _ (List.getElem_mem om) om) (hrl _ (List.getElem_mem om))) rfl rfl rfl dc rfl (fun w Lp hA => ⟨ei28_0, ei28_1, hA.ro xh28_0, ei23_0, hA.ro xh23_0⟩)) (fun k41 _ => ?_)))))))))))
    obtain ⟨a41, m41, c41⟩ := k41
    refine d7 m0 fun e41 l41 => ?_
    subst e41
    refine t6 22 rfl rfl kr (fun _ => rfl) (l0 P0 rfl rfl rfl dc (fun w Lp hA => ⟨ei28_1, hA.ow m0, C3, hA.ro v6⟩)) (fun _ _ => (Dyp 23 rfl (Y.eql rfl rfl) (o3 (fun q44 => ?_) (fun q44 => ?_))))
    ·refine Dyp 24 rfl (t8 rfl rfl) (r9 kr (Et (n8 rfl (Ew Z2 (Em rfl (Ei rfl ?_))))))
     exact Eu (E.ret (y8 (n0 (n0 (y8 (y8 (n0 (n0 (y8 (n0 (Fg rfl rfl () (congrArg (Value.int .i64) (by first | exact b0a (h := h) po om om om (by first | assumption | grind) | exact a8y po om)) rfl)))))))))))
    ·refine Dyp 24 rfl (t8 rfl rfl) (r9 kr (Et (o0 rfl (i7 (s9 (Et (Ez Z3 (Em rfl (Ey rfl ((Y.add rfl rfl om om).yd) (Ei rfl (Eu (Ent.drop ?_))))))))))))
     exact x6 br (h + 1) rs (.refl _) ⟨by omega, by grind [a2y, d1, d2, t1, t2]⟩ om
   ·refine Dyp 11 rfl (i8 rfl) (Dsk 12 rfl (Dsk 13 rfl (Dsk 14 rfl (Dsk 15 rfl (Dsk 16 rfl (Dsk 17 rfl (Dsk 18 rfl (Dsk 19 rfl (Dsk 20 rfl (Dsk 21 rfl (Dsk 22 rfl (Dsk 23 rfl (Dyp 24 rfl (t7 rfl rfl) (r9 kr (Et (o0 rfl (i7 (s9 (Et (Ez Z3 (Em rfl (Ey rfl ((Y.add rfl rfl om om).yd) (Ei rfl ?_)))))))))))))))))))))))
    exact Eu (x6 br (h + 1) rs (.refl _) ⟨by omega, by grind [a2y, d1, d2, t1, t2]⟩ om)
  ·refine Eu (o0 rfl (E.exit (q1 (q1 (y4 (s9 (Et (Ez Z3 (Em rfl (Ey rfl ((Y.add rfl rfl om om).yd) (Ei rfl ?_)))))))))))
   exact Eu (x6 br (g + 1) rs (.refl _) ⟨by omega, by exact W2 om po (by grind [a0W, a2y])⟩ om)
 ·refine Eu (o0 rfl (E.exit (q1 (q1 (y4 (Et (Ew Z1 (Ei rfl ?_))))))))
  exact Eu (E.ret (Fg rfl rfl () (congrArg (Value.int .i64) (by first | exact b0a (h := h) po om om om (by first | assumption | grind) | exact a8y po om)) rfl))
theorem a5x {b_v : Nat} : Tr Tryz.prog 271 [.agg #[.int .i64 a4u, .int .i64 X6, .slice U7 Y3 U6, .int .i64 S5, .slice X8 a0j X7], .pointer (some ⟨b_v, 0, none⟩)] (fun w L => (I64 a4u ∧ I64 X6 ∧ Ro w L eIs [.slice U7 Y3 U6] a3a ∧ I64 S5 ∧ Ro w L eIs [.slice X8 a0j X7] R2) ∧ RoPt w L b_v [.int .i64 v]) [] (κ := Unit) (fun k => True) (fun k => .bool (L9 R2 v)) (fun k => []) := by
 refine Tr.intro Tryz.func271 rfl (n := 9) rfl (by decide +kernel) bl (fr := [(0, .agg #[.int .i64 a4u, .int .i64 X6, .slice U7 Y3 U6, .int .i64 S5, .slice X8 a0j X7]), (1, .pointer (some ⟨b_v, 0, none⟩))]) rfl fun w L hR => ?_
 obtain ⟨⟨b5S, a7A, a2F, a4v, a0E⟩, hb_v⟩ := hR
 obtain ⟨rfl, a8i⟩ := a2F.slen
 obtain ⟨rfl, a9E⟩ := a0E.slen
 refine Ew Z2 (Est rfl (N.box (cs := [_, _, _, _, _]) rfl dc rfl) (fun b2 _ => (Ei rfl (Ev Z6 (Ey rfl ((f5 fo_Line_2 ty_Fact dc rfl).yd) (Ey rfl ((f5 fo_Fact_1 ty_Is dc rfl).yd) (Ey rfl (g9 ty_Is rfl (((Has.pt m0).sub (cs' := [_, _]) 3 rfl).sub (cs' := [_]) 1 rfl) rfl) (Ey rfl (g9 f9 rfl (hb_v.has) rfl) (Est rfl (l0 a1M rfl rfl rfl dc (fun w Lp hA => hA.ro a0E)) (fun _ _ => (Ei rfl ?_)))))))))))
 exact Eu (E.ret (Fg rfl rfl () rfl rfl))
theorem a6x {b_seeds : Nat} {b_before : Nat} : Tr Tryz.prog 269 [.int .i64 v, .pointer (some ⟨b_seeds, 0, none⟩), .pointer (some ⟨b_before, 0, none⟩)] (fun w L => (I64 v) ∧ RoPt w L b_seeds [.slice a_seeds m_seeds c_seeds] ∧ Ro w L eIs [.slice a_seeds m_seeds c_seeds] d6 ∧ RoPt w L b_before [.slice a_before m_before c_before] ∧ Ro w L B6 [.slice a_before m_before c_before] before) [] (κ := Unit) (fun k => True) (fun k => .bool (V0 d6 before v)) (fun k => []) := by
 refine Tr.intro Tryz.func269 rfl (n := 13) rfl (by decide +kernel) bl (fr := [(0, .int .i64 v), (1, .pointer (some ⟨b_seeds, 0, none⟩)), (2, .pointer (some ⟨b_before, 0, none⟩))]) rfl fun w L hR => ?_
 obtain ⟨i6v, hb_seeds, hseeds, hb_before, hbefore⟩ := hR
 obtain ⟨rfl, lseeds⟩ := hseeds.slen
 obtain ⟨rfl, lbefore⟩ := hbefore.slen
 refine Ew Z2 (Est rfl (N.box (cs := [_]) rfl dc rfl) (fun b3 _ => (Ei rfl (Ev Z9 (Ey rfl (g9 ty_Is rfl (hb_seeds.has) rfl) (Ey rfl (g9 f9 rfl (Has.pt m0) rfl) (Est rfl (l0 a1M rfl rfl rfl dc (fun w Lp hA => hA.ro hseeds)) (fun _ _ => (Ent.b (fun q7 => ?_) (fun q7 => ?_))))))))))
 ·refine Em rfl (Es rfl (Es rfl (Es rfl (Ey rfl ((t8 rfl rfl).yd) (Ei rfl ?_)))))
  exact Eu (E.ret (Fb rfl rfl (by grind [V0, d1, d2, t1, t2])))
 ·refine Em rfl (Ey rfl (g9 ty_Lines rfl (hb_before.has) rfl) (Ey rfl ((Y.fn (vs := [_]) rfl).yd) (Est rfl (l0 (a3f (f := (fun z => L9 z.2.2.2 v)) (D_f := (fun _ => True)) (by intros; exact trivial)) rfl rfl rfl dc (fun w Lp hA => ⟨hA.ro hbefore, a6e (D := (fun _ => True)) (fun hd => a5x) (fun w' hk => (hA.pt m0).keep hk)⟩)) (fun _ _ => (Ey rfl ((t7 rfl rfl).yd) (Ei rfl ?_))))))
  exact Eu (E.ret (Fb rfl rfl (by grind [V0, d1, d2, t1, t2])))
theorem a6t {b_known : Nat} {known_g : FuncId} {known_c : List Value} {known : Int → Bool} : Tr Tryz.prog 273 [.int .i64 v, .pointer (some ⟨b_known, 0, none⟩)] (fun w L => (I64 v) ∧ RoPt w L b_known [.func (.func known_g) #[] known_c.toArray] ∧ FnP Tryz.prog w L known_g known_c Enc.int b2S (fun _ => True) known) [] (κ := Unit) (fun k => True) (fun k => .bool (!known v)) (fun k => []) := by
 refine Tr.intro Tryz.func273 rfl (n := 8) rfl (by decide +kernel) bl (fr := [(0, .int .i64 v), (1, .pointer (some ⟨b_known, 0, none⟩))]) rfl fun w L hR => ?_
 obtain ⟨i6v, hb_known, hknown⟩ := hR
 refine Ew Z1 (Ei rfl (Ev Z5 (Ey rfl (g9 ty_F rfl (hb_known.has) rfl) (Em rfl (Est rfl (N.fn (cs := [_]) hknown rfl rfl rfl dc (fun w Lp hA => Y0 i6v) trivial) (fun _ _ => (Ey rfl ((Y.not rfl).yd) (Ei rfl ?_))))))))
 exact Eu (E.ret (Fb rfl rfl (by grind [d1, d2, t1, t2])))
theorem a6w {b_s : Nat} {b_rules : Nat} {b_x : Nat} (hx : 0 ≤ I1 ∧ I1.toNat < d4.length) : Tr Tryz.prog 274 [.agg #[.int .i64 a4u, .int .i64 X6, .slice U7 Y3 U6, .int .i64 S5, .slice X8 a0j X7], .pointer (some ⟨b_s, 0, none⟩), .pointer (some ⟨b_rules, 0, none⟩), .pointer (some ⟨b_x, 0, none⟩)] (fun w L => (I64 a4u ∧ I64 X6 ∧ Ro w L eIs [.slice U7 Y3 U6] a3a ∧ I64 S5 ∧ Ro w L eIs [.slice X8 a0j X7] R2) ∧ RoPt w L b_s [.slice a_s m_s c_s] ∧ Ro w L eIs [.slice a_s m_s c_s] s ∧ RoPt w L b_rules [.slice a_rules m_rules c_rules] ∧ Ro w L J9 [.slice a_rules m_rules c_rules] d4 ∧ RoPt w L b_x [.int .i64 I1, .int .i64 B8, .slice I5 I3 I4, .int .i64 G9, .slice K7 K5 K6] ∧ I64 I1 ∧ I64 B8 ∧ Ro w L eIs [.slice I5 I3 I4] F4 ∧ I64 G9 ∧ Ro w L eIs [.slice K7 K5 K6] H0) [] (κ := Unit) (fun k => True) (fun k => .bool (a3H s (atR d4 I1) (G9, H0) (S5, R2))) (fun k => []) := by
 refine Tr.intro Tryz.func274 rfl (n := 28) rfl (by decide +kernel) bl (fr := [(0, .agg #[.int .i64 a4u, .int .i64 X6, .slice U7 Y3 U6, .int .i64 S5, .slice X8 a0j X7]), (1, .pointer (some ⟨b_s, 0, none⟩)), (2, .pointer (some ⟨b_rules, 0, none⟩)), (3, .pointer (some ⟨b_x, 0, none⟩))]) rfl fun w L hR => ?_
 obtain ⟨⟨b5S, a7A, a2F, a4v, a0E⟩, hb_s, hs, hb_rules, hrules, hb_x, a4w, U8, R0, T4, R4⟩ := hR
 obtain ⟨rfl, a8i⟩ := a2F.slen
 obtain ⟨rfl, a9E⟩ := a0E.slen
 obtain ⟨rfl, ls⟩ := hs.slen
 obtain ⟨rfl, lrules⟩ := hrules.slen
 obtain ⟨rfl, a2G⟩ := R0.slen
 obtain ⟨rfl, a3q⟩ := R4.slen
 have jr : I64 (a0L s d4[I1.toNat] (S5, R2)) := b5w (by obtain ⟨_, _, _, _, er, _, _⟩ := hrules.elem I1.toNat hx.2; obtain ⟨_, _, rfl, _, j1, _⟩ := a2c er; exact j1)
 refine Ew Z2 (Est rfl (N.box (cs := [_, _, _, _, _]) rfl dc rfl) (fun b4 _ => (Ei rfl (Eu (Eq_ (a7q (κ := Nat × Option Addr × Nat) (fun _ => True) (fun kM => [(3, .pointer (some ⟨b_x, 0, none⟩)), (6, .pointer (some ⟨kM.1, 0, none⟩)), (7, .bool (a1V s d4[I1.toNat] (S5, R2)))]) (fun kM => [pt kM.1 85 [.int .i64 (a0L s d4[I1.toNat] (S5, R2)), .slice kM.2.1 (a1a s d4[I1.toNat] (S5, R2)).length kM.2.2], ow eIs [.slice kM.2.1 (a1a s d4[I1.toNat] (S5, R2)).length kM.2.2] (a1a s d4[I1.toNat] (S5, R2)), pt b4 183 [.int .i64 a4u, .int .i64 X6, .slice U7 a3a.length U6, .int .i64 S5, .slice X8 R2.length X7]]) ?_ (fun kM _ => ?_)))))))
 ·refine D.region (fun j => !(Nat.beq j 13)) mixed (Dy 0 rfl (g9 ty_Is rfl (hb_s.has) rfl) (Dy 1 rfl (g9 ty_Rules rfl (hb_rules.has) rfl) (Dyp 2 rfl (f5 fo_Line_0 f9 dc rfl) (Dy 3 rfl (g9 f9 rfl ((hb_x.has).sub (cs' := [_]) 0 rfl) rfl) ?_))))
  obtain ⟨eb13, eo13, ec13, ea13, er13, el13, eh13⟩ := hrules.elem I1.toNat om
  obtain ⟨xa13_0, xc13_0, rfl, ei13_0, ei13_1, xh13_0⟩ := a2c er13
  have := xh13_0.slen.2
  refine Dyp 4 rfl (v8 us_Rules ty_Rule rfl ea13 rfl I1.toNat om om) (Dy 5 rfl (o6 (cs := [_, _, _]) ty_Rule rfl (eh13 _) rfl) (Dyp 6 rfl (f5 fo_Line_2 ty_Fact dc rfl) (Dy 7 rfl (o6 (cs := [_, _]) ty_Fact rfl ((Has.pt m0).sub (cs' := [_, _]) 3 rfl) rfl) (a3Y (i := 8) (j := 12) kr ?_ ?_))))
  ·refine a1c 8 rfl rfl (fun _ => rfl) (N.call a4n rfl rfl rfl dc rfl (fun w Lp hA => ⟨hA.ro hs, ei13_0, ei13_1, hA.ro xh13_0, a4v, hA.ro a0E⟩)) (fun k17 _ => ?_)
   obtain ⟨a17, m17, c17⟩ := k17
   refine d7 m0 fun e17 l17 => ?_
   subst e17
   refine Dyp 9 rfl (i8 rfl) (Dyp 10 rfl (Y.ext rfl rfl) (Dyp 11 rfl (Y.ext rfl rfl) (t6 12 rfl rfl kr (fun _ => rfl) (N.alloc ty_Fact dc) (fun b6 _ => (t6 13 rfl rfl kr (fun h => by cases h) (Ns [_, _] ty_Fact rfl) (fun _ _ => (Dyp 14 rfl (C2 rfl) (r9 kr (j8 (j8 (j8 ?_)))))))))))
   exact a0v (b6, a17, c17) trivial ⟨rfl, rfl, rfl, trivial⟩ (.refl _)
  ·refine a1c 12 rfl rfl (fun _ => rfl) (N.alloc ty_Fact dc) (fun b6 _ => (t6 8 rfl rfl kr (fun _ => rfl) (N.call a4n rfl rfl rfl dc rfl (fun w Lp hA => ⟨hA.ro hs, ei13_0, ei13_1, hA.ro xh13_0, a4v, hA.ro a0E⟩)) (fun k17 _ => ?_)))
   obtain ⟨a17, m17, c17⟩ := k17
   refine d7 m0 fun e17 l17 => ?_
   subst e17
   refine Dyp 9 rfl (i8 rfl) (Dyp 10 rfl (Y.ext rfl rfl) (Dyp 11 rfl (Y.ext rfl rfl) (d9 (t6 13 rfl rfl kr (fun h => by cases h) (Ns [_, _] ty_Fact rfl) (fun _ _ => (Dyp 14 rfl (C2 rfl) (r9 kr (j8 (j8 (j8 ?_))))))))))
   exact a0v (b6, a17, c17) trivial ⟨rfl, rfl, rfl, trivial⟩ (.refl _)
 ·obtain ⟨b6, a17, c17⟩ := kM
  try dsimp only
  refine Et (Ew Z9 (Em rfl (Ent.b (fun q20 => ?_) (fun q20 => ?_))))
  ·refine Em rfl (Ey rfl (o6 (cs := [_, _]) ty_Fact rfl (Has.pt m0) rfl) (Ey rfl ((f5 fo_Line_2 ty_Fact dc rfl).yd) (Ey rfl (o6 (cs := [_, _]) ty_Fact rfl ((hb_x.has).sub (cs' := [_, _]) 3 rfl) rfl) (Est rfl (l0 R8 rfl rfl rfl dc (fun w Lp hA => ⟨i6, hA.ow (mS m0), T4, hA.ro R4⟩)) (fun _ _ => (Ey rfl ((Y.eql rfl rfl).yd) (Ey rfl ((t8 rfl rfl).yd) (Ei rfl ?_))))))))
   exact Eu (E.ret (Fb rfl rfl (by grind [a3H, L8, d1, d2, t1, t2])))
  ·refine Em rfl (Es rfl (Es rfl (Es rfl (Es rfl (Es rfl (Ey rfl ((t7 rfl rfl).yd) (Ei rfl ?_)))))))
   exact Eu (E.ret (Fb rfl rfl (by grind [a3H, L8, d1, d2, t1, t2])))
theorem a7z (hok : D7 s a8 = true) : Tr Tryz.prog 170 [.agg #[.int .i64 I1, .int .i64 B8, .slice I5 I3 I4, .int .i64 G9, .slice K7 K5 K6], .slice a_s m_s c_s, .slice a_l m_l c_l, .slice a_rules m_rules c_rules, .slice a_facts m_facts c_facts, .slice a_seeds m_seeds c_seeds, .slice a_before m_before c_before] (fun w L => I64 I1 ∧ I64 B8 ∧ Ro w L eIs [.slice I5 I3 I4] F4 ∧ I64 G9 ∧ Ro w L eIs [.slice K7 K5 K6] H0 ∧ Ro w L eIs [.slice a_s m_s c_s] s ∧ Ro w L F5 [.slice a_l m_l c_l] l ∧ Ro w L J9 [.slice a_rules m_rules c_rules] d4 ∧ Ro w L m8 [.slice a_facts m_facts c_facts] a8 ∧ Ro w L eIs [.slice a_seeds m_seeds c_seeds] d6 ∧ Ro w L B6 [.slice a_before m_before c_before] before) [] (κ := Unit) (fun k => True) (fun k => .bool (V3 s l d4 a8 d6 before (I1, (B8, F4), (G9, H0)))) (fun k => []) := by
 refine Tr.intro Tryz.func170 rfl (n := 70) rfl (by decide +kernel) bl (fr := [(0, .agg #[.int .i64 I1, .int .i64 B8, .slice I5 I3 I4, .int .i64 G9, .slice K7 K5 K6]), (1, .slice a_s m_s c_s), (2, .slice a_l m_l c_l), (3, .slice a_rules m_rules c_rules), (4, .slice a_facts m_facts c_facts), (5, .slice a_seeds m_seeds c_seeds), (6, .slice a_before m_before c_before)]) rfl fun w L hR => ?_
 obtain ⟨a4w, U8, R0, T4, R4, hs, hl, hrules, hfacts, hseeds, hbefore⟩ := hR
 obtain ⟨rfl, a2G⟩ := R0.slen
 obtain ⟨rfl, a3q⟩ := R4.slen
 obtain ⟨rfl, ls⟩ := hs.slen
 obtain ⟨rfl, ll⟩ := hl.slen
 obtain ⟨rfl, lrules⟩ := hrules.slen
 obtain ⟨rfl, lfacts⟩ := hfacts.slen
 obtain ⟨rfl, lseeds⟩ := hseeds.slen
 obtain ⟨rfl, lbefore⟩ := hbefore.slen
 refine Ew Z6 (Est rfl (N.box (cs := [_, _, _, _, _]) rfl dc rfl) (fun b7 _ => (Est rfl (N.box (cs := [_]) rfl dc rfl) (fun b8 _ => (Est rfl (N.box (cs := [_]) rfl dc rfl) (fun b10 _ => (Est rfl (N.box (cs := [_]) rfl dc rfl) (fun b12 _ => (Est rfl (N.box (cs := [_]) rfl dc rfl) (fun b13 _ => (Ei rfl (Eu (Eq_ (Ew Z3 (Ey rfl ((f5 fo_Line_0 f9 dc rfl).yd) (Ey rfl (g9 f9 rfl (Hz (mS (mS (mS (mS m0)))) 0 rfl) rfl) (Ey rfl ((Y.eql rfl rfl).yd) (o3 (fun q18 => ?_) (fun q18 => ?_)))))))))))))))))))
 ·refine Eu (n8 rfl (Ew Z3 (Ey rfl ((Y.fn (vs := [_, _]) rfl).yd) (Est rfl (N.alloc ty_F dc) (fun b15 _ => (Est rfl (Ns [_] ty_F rfl) (fun _ _ => (Eu (Eq_ (D.region (fun j => true) mixed (Dy 0 rfl (g9 ty_Is rfl (Has.pt (mS (mS (mS (mS m0))))) rfl) (Dyp 1 rfl (i8 rfl) (Dyp 2 rfl (f5 fo_Line_1 ty_Access dc rfl) (Dy 3 rfl (o6 (cs := [_, _]) ty_Access rfl ((Has.pt (mS (mS (mS (mS (mS m0)))))).sub (cs' := [_, _]) 1 rfl) rfl) (t6 4 rfl rfl kr (fun _ => rfl) (l0 a8R rfl rfl rfl dc (fun w Lp hA => ⟨hA.ro hs, hA.ro hl, U8, hA.ro R0⟩)) (fun _ _ => (Ent.b (fun q24 => ?_) (fun q24 => ?_))))))))))))))))))
  ·have zz := (a0w q24).2.1
   refine Dyp 5 rfl (i8 rfl) (Dyp 6 rfl (i8 rfl) (Dyp 7 rfl (f5 fo_Line_1 ty_Access dc rfl) (Dyp 8 rfl (f5 fo_Access_0 f9 dc rfl) (Dy 9 rfl (g9 f9 rfl (((Has.pt (mS (mS (mS (mS (mS m0)))))).sub (cs' := [_, _]) 1 rfl).sub (cs' := [_]) 0 rfl) rfl) ?_))))
   obtain ⟨eb30, eo30, ec30, ea30, er30, el30, eh30⟩ := hl.elem B8.toNat om
   obtain ⟨xa30_0, xc30_0, rfl, ei30_0, xh30_0, ei30_2, ei30_3, ei30_4⟩ := V6 er30
   have := xh30_0.slen.2
   refine Dyp 10 rfl (v8 us_Methods ty_Method rfl ea30 rfl B8.toNat om om) (Dyp 11 rfl (f5 fo_Method_2 f9 dc rfl) (Dy 12 rfl (g9 f9 rfl ((eh30 _).sub (cs' := [_]) 2 rfl) rfl) (Dyp 13 rfl (Y.eql rfl rfl) (o3 (fun q33 => ?_) (fun q33 => ?_)))))
   ·refine Dyp 14 rfl (t8 rfl rfl) (Dyp 15 rfl (i8 rfl) (Dyp 16 rfl (f5 fo_Line_1 ty_Access dc rfl) (Dyp 17 rfl (f5 fo_Access_1 ty_Is dc rfl) (Dy 18 rfl (g9 ty_Is rfl (((Has.pt (mS (mS (mS (mS (mS m0)))))).sub (cs' := [_, _]) 1 rfl).sub (cs' := [_]) 1 rfl) rfl) (Dyp 19 rfl (Y.fn (vs := [_]) rfl) (t6 20 rfl rfl kr (fun _ => rfl) (l0 (a0H (f := (fun v => !(fun v => V0 d6 before v) v)) (D_f := (fun _ => True)) (by intros; exact trivial)) rfl rfl rfl dc (fun w Lp hA => ⟨hA.ro R0, a4c (D := (fun _ => True)) (fun hd => a6t) (fun w' hk => ⟨(hA.pt m0).keep hk, FnP.keep (a4c (D := (fun _ => True)) (fun hd => a6x) (fun w' hk => ⟨(hA.pt (mS (mS m0))).keep hk, (hA.ro hseeds).keep hk, (hA.pt (mS m0)).keep hk, (hA.ro hbefore).keep hk⟩)) hk⟩)⟩)) (fun _ _ => (Ent.b (fun q40 => ?_) (fun q40 => ?_)))))))))
    ·refine Dyp 21 rfl (Y.not (b := true) rfl) (Dyp 22 rfl (t8 rfl rfl) (Dyp 23 rfl (i8 rfl) (Dsk 24 rfl (Dsk 25 rfl (Dsk 26 rfl (Dsk 27 rfl (Dsk 28 rfl (Dsk 29 rfl (Dsk 30 rfl (Dsk 31 rfl (Dyp 32 rfl (t7 rfl rfl) (Dyp 33 rfl (C2 rfl) ?_))))))))))))
     exact r9 kr (Et (E.ret (n0 (Fb rfl rfl (by grind [V3, R9, R7, D0, d1, d2, t1, t2])))))
    ·refine Dyp 21 rfl (Y.not (b := false) rfl) (Dyp 22 rfl (t8 rfl rfl) (Dyp 23 rfl (i8 rfl) (Dyp 24 rfl (i8 rfl) (Dyp 25 rfl (i8 rfl) (Dyp 26 rfl (f5 fo_Line_1 ty_Access dc rfl) (Dy 27 rfl (o6 (cs := [_, _]) ty_Access rfl ((Has.pt (mS (mS (mS (mS (mS m0)))))).sub (cs' := [_, _]) 1 rfl) rfl) (Dyp 29 rfl (f5 fo_Line_2 ty_Fact dc rfl) (Dy 30 rfl (o6 (cs := [_, _]) ty_Fact rfl ((Has.pt (mS (mS (mS (mS (mS m0)))))).sub (cs' := [_, _]) 3 rfl) rfl) (t6 28 rfl rfl kr (fun _ => rfl) (N.call (a5i ((a0w (show Y9 s l (B8, F4) = true from q24)).2.1) ((Nat.le_of_eq (a0w (show Y9 s l (B8, F4) = true from q24)).2.2.1.symm)) ((b3J (show Y9 s l (B8, F4) = true from q24) hok)) ((Nat.le_trans (J5 hok).1 dc)) ((fun f hf => Nat.le_trans (H3 ((J5 hok).2 f hf)) dc))) rfl rfl rfl dc rfl (fun w Lp hA => ⟨hA.ro hl, hA.ro hfacts, U8, hA.ro R0⟩)) (fun k48 _ => ?_))))))))))
     obtain ⟨a48, m48, c48⟩ := k48
     refine d7 m0 fun e48 l48 => ?_
     subst e48
     refine t6 31 rfl rfl kr (fun _ => rfl) (l0 a2f rfl rfl rfl dc (fun w Lp hA => ⟨hA.ow m0, T4, hA.ro R4⟩)) (fun _ _ => (Dyp 32 rfl (t8 rfl rfl) (Dyp 33 rfl (C2 rfl) ?_)))
     exact r9 kr (Et (E.ret (n0 (Fb rfl rfl (by grind [V3, R9, R7, D0, d1, d2, t1, t2])))))
   ·refine Dyp 14 rfl (t8 rfl rfl) (Dyp 15 rfl (i8 rfl) (Dsk 16 rfl (Dsk 17 rfl (Dsk 18 rfl (Dsk 19 rfl (Dsk 20 rfl (Dsk 21 rfl (Dyp 22 rfl (t7 rfl rfl) (Dyp 23 rfl (i8 rfl) (Dsk 24 rfl (Dsk 25 rfl (Dsk 26 rfl (Dsk 27 rfl (Dsk 28 rfl (Dsk 29 rfl (Dsk 30 rfl (Dsk 31 rfl (Dyp 32 rfl (t7 rfl rfl) (Dyp 33 rfl (C2 rfl) ?_)))))))))))))))))))
    exact r9 kr (Et (E.ret (n0 (Fb rfl rfl (by grind [V3, R9, R7, D0, d1, d2, t1, t2])))))
  ·refine Dyp 5 rfl (i8 rfl) (Dsk 6 rfl (Dsk 7 rfl (Dsk 8 rfl (Dsk 9 rfl (Dsk 10 rfl (Dsk 11 rfl (Dsk 12 rfl (Dsk 13 rfl (Dyp 14 rfl (t7 rfl rfl) (Dyp 15 rfl (i8 rfl) (Dsk 16 rfl (Dsk 17 rfl (Dsk 18 rfl (Dsk 19 rfl (Dsk 20 rfl (Dsk 21 rfl (Dyp 22 rfl (t7 rfl rfl) (Dyp 23 rfl (i8 rfl) (Dsk 24 rfl (Dsk 25 rfl (Dsk 26 rfl (Dsk 27 rfl (Dsk 28 rfl (Dsk 29 rfl (Dsk 30 rfl (Dsk 31 rfl (Dyp 32 rfl (t7 rfl rfl) (Dyp 33 rfl (C2 rfl) ?_))))))))))))))))))))))))))))
   exact r9 kr (Et (E.ret (n0 (Fb rfl rfl (by grind [V3, R9, R7, D0, d1, d2, t1, t2])))))
 ·refine Eu (o0 rfl (i7 (Et (Ew Z18 (Ey rfl ((f5 fo_Line_0 f9 dc rfl).yd) (Ey rfl (g9 f9 rfl (Hz (mS (mS (mS (mS m0)))) 0 rfl) rfl) (Ey rfl (g9 ty_Rules rfl (Has.pt (mS (mS m0))) rfl) (Ey rfl ((Y.len us_Rules rfl).yd) (Ey rfl ((Y.sub rfl rfl om om).yd) (Est rfl (l0 M8 rfl rfl rfl dc tv) (fun _ _ => (Ent.b (fun q58 => ?_) (fun q58 => ?_)))))))))))))
  ·have zz := a3A q58
   refine Em rfl (Ey rfl (g9 ty_Is rfl (Has.pt (mS (mS (mS m0)))) rfl) (Ey rfl ((f5 fo_Line_2 ty_Fact dc rfl).yd) (Ey rfl (o6 (cs := [_, _]) ty_Fact rfl ((Has.pt (mS (mS (mS (mS m0))))).sub (cs' := [_, _]) 3 rfl) rfl) (Est rfl (l0 a3G rfl rfl rfl dc (fun w Lp hA => ⟨hA.ro hs, T4, hA.ro R4⟩)) (fun _ _ => (Ent.b (fun q63 => ?_) (fun q63 => ?_)))))))
   ·refine Ey rfl ((t8 rfl rfl).yd) (Em rfl (Ey rfl (g9 ty_Lines rfl (Has.pt m0) rfl) (Ey rfl ((Y.fn (vs := [_, _, _]) rfl).yd) (Est rfl (l0 (a3f (f := (fun z => a3H s (atR d4 I1) (G9, H0) z.2.2)) (D_f := (fun z => (0 ≤ I1 ∧ I1.toNat < d4.length))) (by exact fun _ _ => ⟨by omega, by omega⟩)) rfl rfl rfl dc (fun w Lp hA => ⟨hA.ro hbefore, a6e (D := (fun z => (0 ≤ I1 ∧ I1.toNat < d4.length))) (fun hd => a6w hd) (fun w' hk => ⟨(hA.pt (mS (mS (mS m0)))).keep hk, (hA.ro hs).keep hk, (hA.pt (mS (mS m0))).keep hk, (hA.ro hrules).keep hk, (hA.pt (mS (mS (mS (mS m0))))).keep hk, a4w, U8, (hA.ro R0).keep hk, T4, (hA.ro R4).keep hk⟩)⟩)) (fun _ _ => (Ey rfl ((t8 rfl rfl).yd) (Ei rfl ?_)))))))
    exact Eu (E.ret (Fb rfl rfl (by grind [V3, R9, R7, D0, d1, d2, t1, t2])))
   ·refine Ey rfl ((t8 rfl rfl).yd) (Em rfl (Es rfl (Es rfl (Es rfl (Ey rfl ((t7 rfl rfl).yd) (Ei rfl ?_))))))
    exact Eu (E.ret (Fb rfl rfl (by grind [V3, R9, R7, D0, d1, d2, t1, t2])))
  ·refine Em rfl (Es rfl (Es rfl (Es rfl (Es rfl (Ey rfl ((t7 rfl rfl).yd) (Em rfl (Es rfl (Es rfl (Es rfl (Ey rfl ((t7 rfl rfl).yd) (Ei rfl ?_)))))))))))
   exact Eu (E.ret (Fb rfl rfl (by grind [V3, R9, R7, D0, d1, d2, t1, t2])))
end Go.Proofs.YthapcdhdfaibkaaGreatDoor
end
