import Derived.Test.YtlfhopooaejpfaaGreatT36
import Derived.Test.YtlfhopooaejpfaaGreatT35
import Derived.Test.YtlfhopooaejpfaaGreatT11
section
namespace Go.Proofs.YtlfhopooaejpfaaGreat
open Go.RowKit
set_option linter.unusedVariables false
theorem FnP.keep {P : Program} {α : Type} {E : Enc α} {w w' : World} {L : List Nat} {g : FuncId} {caps : List Value} {val : List Value → Value} {D : α → Prop} {p : α → Bool} (h : FnP P w L g caps E val D p) (k : Keep w L w') : FnP P w' [] g caps E val D p :=
  fun w2 k2 => h w2 ⟨Nat.le_trans k.size k2.size, fun b hb hn => (k2.keep b (Nat.lt_of_lt_of_le hb k.size) (by simp)).trans (k.keep b hb hn)⟩
variable {P : Program} {n : Nat} {fr : Fr}
theorem b9a {x y u : Operand} {T e : TypeId} {agg : Bool} {k : Nat} {z : List Value} {by' : Nat} {a : Option Addr} {m c : Nat} {l h : Int} (hT : P.underlying T = some (.slice e)) (ht : TyOk P e agg k z by') (hx : ev fr x = some (.slice a m c)) (hy : ev fr y = some (.int .i64 l)) (hu : ev fr u = some (.int .i64 h)) (h0 : 0 ≤ l) (h1 : l ≤ h) (h2 : h.toNat ≤ c) :
    Yp P n fr (.slice T x (some y) (some u) none) (.slice (if c = l.toNat then a else a.map (·.add (l.toNat * k))) (h.toNat - l.toNat) (c - l.toNat)) := fun ac hf w' d t p af g => by
  obtain ⟨l, rfl⟩ := Int.eq_ofNat_of_zero_le h0
  obtain ⟨h, rfl⟩ := Int.eq_ofNat_of_zero_le (show 0 ≤ h by omega)
  have h1' : l ≤ h := by omega
  simp only [Int.toNat_natCast] at h2
  simp [execOp, hf.ev hx, hf.ev hy, hf.ev hu, Instr.sliceAt, Instr.slice, Instr.sliceBounds, a2P h1', a2P h2, run_underlying hT, ht.run_sizeOf]
end Go.Proofs.YtlfhopooaejpfaaGreat
end
section
namespace Go.Proofs.YtlfhopooaejpfaaGreat
open Go.RowKit
set_option linter.all false
set_option maxHeartbeats 2000000
attribute [local irreducible] Nop Yd Yp Ent Has Tr FnP FnP2 Src M0 S8 V1 W0 G4
variable {j3 : Int} {l : List (Int × List Int × Int × Int × Int)} {j9 : List Int} {m_l c_l y5 w3 : Nat} {a_l w4 : Option Addr}
theorem a7d {a_s : Option Addr} {m_s c_s : Nat} {s : List Int} : Tr Tryz.prog 194 [.slice a_s m_s c_s, .slice a_l m_l c_l, .agg #[.int .i64 j3, .slice w4 y5 w3]] (fun w L => Ro w L eIs [.slice a_s m_s c_s] s ∧ Ro w L C8 [.slice a_l m_l c_l] l ∧ I64 j3 ∧ Ro w L eIs [.slice w4 y5 w3] j9) [] (κ := Unit) (fun k => True) (fun k => .bool (N6 s l (j3, j9))) (fun k => []) := by
 refine Tr.intro Tryz.func194 rfl (n := 48) rfl (by decide +kernel) bl (fr := [(0, .slice a_s m_s c_s), (1, .slice a_l m_l c_l), (2, .agg #[.int .i64 j3, .slice w4 y5 w3])]) rfl fun w L hR => ?_
 obtain ⟨hs, hl, I8, C5⟩ := hR
 obtain ⟨rfl, ls⟩ := hs.slen
 obtain ⟨rfl, ll⟩ := hl.slen
 obtain ⟨rfl, P2⟩ := C5.slen
 refine Ew Z2 (Est rfl (N.box (cs := [_, _]) rfl dc rfl) (fun b5 _ => (Ei rfl (Eu (Eq_ (Eq_ (D.region (fun j => true) mixed (Dyp 0 rfl (j4 rfl) (Dyp 1 rfl (j4 rfl) (u7 2 rfl rfl kr (fun _ => rfl) (k6 a2h rfl rfl rfl dc (fun w Lp hA => ⟨hA.ro hs, hA.ro hl⟩)) (fun _ _ => (Ent.b (fun q10 => ?_) (fun q10 => ?_)))))))))))))
 ·refine Dyp 3 rfl (Y.not (b := true) rfl) (Dyp 4 rfl (j4 rfl) (Dyp 5 rfl (i7 fo_Access_0 f0 dc rfl) (Dy 6 rfl (f8 f0 rfl (Hz m0 0 rfl) rfl) (Dyp 7 rfl (j4 rfl) (Dyp 8 rfl (Y.len us_Methods rfl) (Dyp 9 rfl (Y.sub rfl rfl om om) (u7 10 rfl rfl kr (fun _ => rfl) (k6 F9 rfl rfl rfl dc tv) (fun _ _ => (Ent.b (fun q18 => ?_) (fun q18 => ?_))))))))))
  ·have zz := Q5 q18
   refine Dyp 11 rfl (Y.not (b := true) rfl) (Dyp 12 rfl (r9 rfl rfl) (Dyp 13 rfl (j4 rfl) (Dyp 14 rfl (i7 fo_Access_1 ty_Is dc rfl) (Dy 15 rfl (f8 ty_Is rfl (Hz m0 1 rfl) rfl) (Dyp 16 rfl (Y.len us_Is rfl) (Dyp 17 rfl (j4 rfl) (Dyp 18 rfl (i7 fo_Access_0 f0 dc rfl) (Dy 19 rfl (f8 f0 rfl (Hz m0 0 rfl) rfl) ?_))))))))
   obtain ⟨eb28, eo28, ec28, ea28, er28, el28, eh28⟩ := hl.elem j3.toNat om
   obtain ⟨xa28_0, xc28_0, rfl, ei28_0, xh28_0, ei28_2, ei28_3, ei28_4⟩ := H9 er28
   have := xh28_0.slen.2
   refine Dyp 20 rfl (o6 us_Methods ty_Method rfl ea28 rfl j3.toNat om om) (Dyp 21 rfl (i7 fo_Method_1 ty_Is dc rfl) (Dy 22 rfl (f8 ty_Is rfl ((eh28 _).sub (cs' := [_]) 1 rfl) rfl) (Dyp 23 rfl (Y.len us_Is rfl) (Dyp 24 rfl (Y.neq rfl rfl) (n0 (fun q32 => ?_) (fun q32 => ?_))))))
   ·refine Dyp 25 rfl (r9 rfl rfl) (o3 kr (Et (l4 rfl (Ew Z1 (Ei rfl ?_)))))
    exact Eu (E.ret (l0 (Fb rfl rfl (by grind [N6, K8, O7, d1, d2, t1, t2]))))
   ·refine Dyp 25 rfl (r9 rfl rfl) (o3 kr (Et (l6 rfl (i8 (Et (Eq_ (Ew Z1 (Ei rfl (Eu (E.block (E.loop (κ := Nat) (fun g => g ≤ j9.length ∧ O7 j9 = O7 (j9.drop g)) (fun g => [(5, .pointer (some ⟨b5, 0, none⟩)), (7, .int .i64 (g : Int))]) (fun g => [pt b5 74 [.int .i64 j3, .slice w4 j9.length w3]]) (fun g => j9.length - g) 0 ⟨Nat.zero_le _, by simp⟩ ⟨rfl, rfl, trivial⟩ (.refl _) (fun g pg => ?_))))))))))))
    obtain ⟨pk, pa⟩ := pg
    refine Eq_ (Ew Z5 (Em rfl (Ey rfl ((i7 fo_Access_1 ty_Is dc rfl).yd) (Ey rfl (f8 ty_Is rfl (Hz m0 1 rfl) rfl) (Ey rfl ((Y.len us_Is rfl).yd) (Ey rfl ((Y.lss rfl rfl).yd) (n0 (fun q38 => ?_) (fun q38 => ?_))))))))
    ·refine Eu (l4 rfl (i8 (Et (Eq_ (E.block (Ew Z7 (Ey rfl ((i7 fo_Access_1 ty_Is dc rfl).yd) (Ey rfl (f8 ty_Is rfl (Hz m0 1 rfl) rfl) (Em rfl ?_)))))))))
     obtain ⟨eb44, eo44, ea44, ei44, eh44⟩ := C5.elemI g om
     refine Ey rfl ((o6 us_Is f0 rfl ea44 rfl g rfl om).yd) (Ey rfl (f8 f0 rfl (eh44 _) rfl) (Est rfl (k6 F9 rfl rfl rfl dc tv) (fun _ _ => (Ent.b (fun q46 => ?_) (fun q46 => ?_)))))
     ·refine Ey rfl ((Y.not (b := true) rfl).yd) (Eu (l6 rfl (i8 (o4 (Et (Ez Z3 (Em rfl (Ey rfl ((Y.add rfl rfl om om).yd) (Ei rfl ?_)))))))))
      exact Eu (u9 br (g + 1) ⟨rfl, rfl, trivial⟩ (.refl _) ⟨by omega, by grind [O7, d1, d2, t1, t2]⟩ om)
     ·refine Ey rfl ((Y.not (b := false) rfl).yd) (Eu (l4 rfl (Ew Z1 (Ei rfl ?_))))
      exact Eu (E.ret (t7 (l0 (l0 (t7 (l0 (Fb rfl rfl (by grind [N6, K8, O7, d1, d2, t1, t2]))))))))
    ·refine Eu (l6 rfl (E.exit (n8 (n8 (w5 (Et (Ew Z1 (Ei rfl ?_))))))))
     exact Eu (E.ret (Fb rfl rfl (by grind [N6, K8, O7, d1, d2, t1, t2])))
  ·refine Dyp 11 rfl (Y.not (b := false) rfl) (Dyp 12 rfl (r9 rfl rfl) (Dyp 13 rfl (j4 rfl) (Dsk 14 rfl (Dsk 15 rfl (Dsk 16 rfl (Dsk 17 rfl (Dsk 18 rfl (Dsk 19 rfl (Dsk 20 rfl (Dsk 21 rfl (Dsk 22 rfl (Dsk 23 rfl (Dsk 24 rfl (Dyp 25 rfl (s6 rfl rfl) ?_))))))))))))))
   refine o3 kr (Et (l4 rfl (Ew Z1 (Ei rfl ?_))))
   exact Eu (E.ret (l0 (Fb rfl rfl (by grind [N6, K8, O7, d1, d2, t1, t2]))))
 ·refine Dyp 3 rfl (Y.not (b := false) rfl) (Dyp 4 rfl (j4 rfl) (Dsk 5 rfl (Dsk 6 rfl (Dsk 7 rfl (Dsk 8 rfl (Dsk 9 rfl (Dsk 10 rfl (Dsk 11 rfl (Dyp 12 rfl (s6 rfl rfl) (Dyp 13 rfl (j4 rfl) (Dsk 14 rfl (Dsk 15 rfl (Dsk 16 rfl (Dsk 17 rfl ?_))))))))))))))
  refine Dsk 18 rfl (Dsk 19 rfl (Dsk 20 rfl (Dsk 21 rfl (Dsk 22 rfl (Dsk 23 rfl (Dsk 24 rfl (Dyp 25 rfl (s6 rfl rfl) (o3 kr (Et (l4 rfl (Ew Z1 (Ei rfl ?_))))))))))))
  exact Eu (E.ret (l0 (Fb rfl rfl (by grind [N6, K8, O7, d1, d2, t1, t2]))))
theorem a7v {a_facts : Option Addr} {m_facts c_facts : Nat} {d4 : List (Int × List Int)} (hma : 0 ≤ j3 ∧ j3.toNat < l.length) (hv : (atM l j3).2.1.length ≤ j9.length) (hif : ∀ f ∈ d4, f.1 = (atM l j3).1 → ∀ i ∈ (atM l j3).2.1, 0 ≤ i ∧ i < f.2.length) (hfl : d4.length ≤ 1048576) (hfe : ∀ f ∈ d4, f.2.length ≤ 1048576) : Tr Tryz.prog 125 [.slice a_l m_l c_l, .slice a_facts m_facts c_facts, .agg #[.int .i64 j3, .slice w4 y5 w3]] (fun w L => Ro w L C8 [.slice a_l m_l c_l] l ∧ Ro w L r7 [.slice a_facts m_facts c_facts] d4 ∧ I64 j3 ∧ Ro w L eIs [.slice w4 y5 w3] j9) [] (κ := Option Addr × Nat × Nat) (fun k => True) (fun k => .slice k.1 k.2.1 k.2.2) (fun k => [ow r7 [.slice k.1 k.2.1 k.2.2] (d4.filter (E4 (atM l j3) j9))]) := by
 refine Tr.intro Tryz.func125 rfl (n := 17) rfl (by decide +kernel) bl (fr := [(0, .slice a_l m_l c_l), (1, .slice a_facts m_facts c_facts), (2, .agg #[.int .i64 j3, .slice w4 y5 w3])]) rfl fun w L hR => ?_
 obtain ⟨hl, hfacts, I8, C5⟩ := hR
 obtain ⟨rfl, ll⟩ := hl.slen
 obtain ⟨rfl, lfacts⟩ := hfacts.slen
 obtain ⟨rfl, P2⟩ := C5.slen
 rw [K8 hma.2] at hv hif
 refine Ew Z2 (Est rfl (N.box (cs := [_, _]) rfl dc rfl) (fun b5 _ => (Ei rfl (Ev Z7 (Em rfl (Ey rfl ((i7 fo_Access_0 f0 dc rfl).yd) (Ey rfl (f8 f0 rfl (Hz m0 0 rfl) rfl) ?_)))))))
 obtain ⟨eb11, eo11, ec11, ea11, er11, el11, eh11⟩ := hl.elem j3.toNat om
 obtain ⟨xa11_0, xc11_0, rfl, ei11_0, xh11_0, ei11_2, ei11_3, ei11_4⟩ := H9 er11
 have := xh11_0.slen.2
 refine Ey rfl ((o6 us_Methods ty_Method rfl ea11 rfl j3.toNat om om).yd) (Ey rfl (o0 (cs := [_, _, _, _, _]) ty_Method rfl (eh11 _) rfl) (Est rfl (N.alloc ty_Method dc) (fun b7 _ => (Est rfl (Ns [_, _, _, _, _] ty_Method rfl) (fun _ _ => (Ev Z5 (Em rfl (Est rfl (N.call (a6m fo hfe) rfl rfl rfl dc rfl (fun w Lp hA => hA.ro hfacts)) (fun k14 _ => ?_)))))))))
 obtain ⟨a14, m14, c14⟩ := k14
 refine i9 m0 fun e14 l14 => ?_
 subst e14
 refine Ey rfl ((Y.fn (vs := [_, _]) rfl).yd) (Est rfl (N.call (pre := [_]) (a5x (del := (fun z => !E4 l[j3.toNat] j9 z)) (D_del := (fun z => (l[j3.toNat].2.1.length ≤ j9.length) ∧ (z.1 = l[j3.toNat].1 → ∀ i ∈ l[j3.toNat].2.1, 0 ≤ i ∧ i < z.2.length))) (by exact fun f hf => ⟨hv, hif f hf⟩)) rfl rfl rfl dc rfl (fun w Lp hA => a4m (RR := fun w L => RoPt w L b7 [.int .i64 l[j3.toNat].1, .slice xa11_0 l[j3.toNat].2.1.length xc11_0, .int .i64 l[j3.toNat].2.2.1, .int .i64 l[j3.toNat].2.2.2.1, .int .i64 l[j3.toNat].2.2.2.2] ∧ I64 l[j3.toNat].1 ∧ Ro w L eIs [.slice xa11_0 l[j3.toNat].2.1.length xc11_0] l[j3.toNat].2.1 ∧ I64 l[j3.toNat].2.2.1 ∧ I64 l[j3.toNat].2.2.2.1 ∧ I64 l[j3.toNat].2.2.2.2 ∧ RoPt w L b5 [.int .i64 j3, .slice w4 j9.length w3] ∧ I64 j3 ∧ Ro w L eIs [.slice w4 j9.length w3] j9) (D := (fun z => (l[j3.toNat].2.1.length ≤ j9.length) ∧ (z.1 = l[j3.toNat].1 → ∀ i ∈ l[j3.toNat].2.1, 0 ≤ i ∧ i < z.2.length))) (fun hd => a6e hd.1 hd.2) (fun w' hk => ⟨(hA.pt m0).keep hk, ei11_0, (hA.ro xh11_0).keep hk, ei11_2, ei11_3, ei11_4, (hA.pt (mS m0)).keep hk, I8, (hA.ro C5).keep hk⟩))) (fun k16 _ => ?_))
 obtain ⟨a16, m16, c16⟩ := k16
 refine i9 m0 fun e16 l16 => ?_
 subst e16
 refine Ei rfl (Eu (E.ret (j8 (congrArg (ow r7 [_]) (show _ = d4.filter (E4 (atM l j3) j9) by rw [K8 hma.2]; exact b3e)) ?_)))
 exact Fg rfl rfl (_, _, _) rfl rfl
end Go.Proofs.YtlfhopooaejpfaaGreat
end
