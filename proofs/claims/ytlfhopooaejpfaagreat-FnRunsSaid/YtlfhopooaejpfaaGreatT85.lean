import Derived.Test.YtlfhopooaejpfaaGreatT37
import Derived.Test.YtlfhopooaejpfaaGreatT84
namespace Go.Proofs.YtlfhopooaejpfaaGreat
open Go.RowKit
set_option linter.all false
set_option maxHeartbeats 2000000
attribute [local irreducible] Nop Yd Yp Ent Has Tr FnP FnP2 Src M0 S8 V1 W0 G4
variable {j3 choice : Int} {l : List (Int × List Int × Int × Int × Int)} {d4 : List (Int × List Int)} {j9 s : List Int} {m_l c_l m_facts c_facts y5 w3 m_s c_s : Nat} {a_l a_facts w4 a_s : Option Addr}
theorem a7s (hma : 0 ≤ j3 ∧ j3.toNat < l.length) (hv : (atM l j3).2.1.length ≤ j9.length) (hif : ∀ f ∈ d4, f.1 = (atM l j3).1 → ∀ i ∈ (atM l j3).2.1, 0 ≤ i ∧ i < f.2.length) (hlm : 0 ≤ O2 l (j3, j9)) (hfl : d4.length ≤ 1048576) (hfe : ∀ f ∈ d4, f.2.length ≤ 1048576) : Tr Tryz.prog 48 [.slice a_l m_l c_l, .slice a_facts m_facts c_facts, .agg #[.int .i64 j3, .slice w4 y5 w3], .int .i64 choice] (fun w L => Ro w L C8 [.slice a_l m_l c_l] l ∧ Ro w L r7 [.slice a_facts m_facts c_facts] d4 ∧ I64 j3 ∧ Ro w L eIs [.slice w4 y5 w3] j9) [] (κ := Option Addr × Nat × Nat) (fun k => True) (fun k => .slice k.1 k.2.1 k.2.2) (fun k => [ow r7 [.slice k.1 k.2.1 k.2.2] (f5 l d4 (j3, j9) choice)]) := by
 refine Tr.intro Tryz.func48 rfl (n := 64) rfl (by decide +kernel) bl (fr := [(0, .slice a_l m_l c_l), (1, .slice a_facts m_facts c_facts), (2, .agg #[.int .i64 j3, .slice w4 y5 w3]), (3, .int .i64 choice)]) rfl fun w L hR => ?_
 obtain ⟨hl, hfacts, I8, C5⟩ := hR
 obtain ⟨rfl, ll⟩ := hl.slen
 obtain ⟨rfl, lfacts⟩ := hfacts.slen
 obtain ⟨rfl, P2⟩ := C5.slen
 have jlm : O2 l (j3, j9) = l[j3.toNat].2.2.1 := by show (atM l j3).2.2.1 = _; rw [K8 hma.2]
 have jfl := List.length_filter_le (E4 (atM l j3) j9) d4
 refine Ew Z2 (Est rfl (N.box (cs := [_, _]) rfl dc rfl) (fun b6 _ => (Ei rfl (Ev Z5 (Em rfl (Em rfl (Ey rfl (o0 (cs := [_, _]) ty_Access rfl (Has.pt m0) rfl) (Est rfl (N.call (a7v fc fc fc fc fc) rfl rfl rfl dc rfl (fun w Lp hA => ⟨hA.ro hl, hA.ro hfacts, I8, hA.ro C5⟩)) (fun k18 _ => ?_)))))))))
 obtain ⟨a18, m18, c18⟩ := k18
 refine i9 m0 fun e18 l18 => ?_
 subst e18
 refine Ei rfl (Ev Z7 (Em rfl ?_))
 have jeq : ((a18, (d4.filter (E4 (atM l j3) j9)).length, c18) : Option Addr × Nat × Nat).2.1 = (d4.filter (E4 (atM l j3) j9)).length := rfl
 refine Ey rfl ((i7 fo_Access_0 f0 dc rfl).yd) (Ey rfl (f8 f0 rfl (Hz (mS m0) 0 rfl) rfl) ?_)
 obtain ⟨eb22, eo22, ec22, ea22, er22, el22, eh22⟩ := hl.elem j3.toNat om
 obtain ⟨xa22_0, xc22_0, rfl, ei22_0, xh22_0, ei22_2, ei22_3, ei22_4⟩ := H9 er22
 have := xh22_0.slen.2
 refine Ey rfl ((o6 us_Methods ty_Method rfl ea22 rfl j3.toNat om om).yd) (Ey rfl ((i7 fo_Method_2 f0 dc rfl).yd) (Ey rfl (f8 f0 rfl ((eh22 _).sub (cs' := [_]) 2 rfl) rfl) (Ei rfl (Eu (Eq_ (Ew Z8 (Em rfl (Ey rfl ((Y.eql rfl rfl).yd) (n0 (fun q26 => ?_) (fun q26 => ?_))))))))))
 ·refine Em rfl (Es rfl (Es rfl (Es rfl (Es rfl (Ey rfl ((s6 rfl rfl).yd) (Eu (l4 rfl (Ew Z2 (Em rfl (Ei rfl (Eu (E.ret (l0 (j8 (congrArg (ow r7 [_]) (show _ = f5 l d4 (j3, j9) choice by exact a2l (l := l) (d4 := d4) (a := (j3, j9)) (.inl om))) ?_))))))))))))))
  exact Fg rfl rfl (_, _, _) rfl rfl
 ·refine Em rfl (Em rfl (Ey rfl ((Y.len us_Facts rfl).yd) (Em rfl (Ey rfl ((Y.leq rfl rfl).yd) (n0 (fun q31 => ?_) (fun q31 => ?_))))))
  ·refine Ey rfl ((r9 rfl rfl).yd) (Eu (l4 rfl (Ew Z2 (Em rfl (Ei rfl (Eu (E.ret (l0 (j8 (congrArg (ow r7 [_]) (show _ = f5 l d4 (j3, j9) choice by exact a2l (l := l) (d4 := d4) (a := (j3, j9)) (.inr (show ((d4.filter (E4 (atM l j3) j9)).length : Int) ≤ O2 l (j3, j9) by omega)))) ?_)))))))))
   exact Fg rfl rfl (_, _, _) rfl rfl
  ·refine Ey rfl ((r9 rfl rfl).yd) (Eu (l6 rfl (i8 (Et (Ew Z6 (Em rfl (Ey rfl ((b4V rfl rfl).yd) (Em rfl (Ey rfl ((Y.len us_Facts rfl).yd) (Ey rfl ((a3L rfl rfl om om).yd) (Ei rfl (Ev Z2 (Est rfl (Nb [] [] us_Facts ty_Fact rfl rfl) (fun b39 _ => (Ent.drop (Ei rfl (Eu (Eq_ (Ew Z3 (Em rfl (Ey rfl ((Y.len us_Facts rfl).yd) (Em rfl (Eu (E.block (n9 (A := []) (Own.nil (E := F0) (e := tFact) (a := (some ⟨b39, 0, none⟩))) rfl (j8 (congrArg (ow r7 [_]) (show [] = U9 (d4.filter (E4 (atM l j3) j9)) (max 0 choice % ((d4.filter (E4 (atM l j3) j9)).length : Int)) (O2 l (j3, j9)) 0 from by rfl)) ?_))))))))))))))))))))))))))
   refine f7 (a7W (E.loop (κ := Nat × Option Addr × Nat × Nat) (fun g => g.1 ≤ (d4.filter (E4 (atM l j3) j9)).length ∧ True) (fun g => [(9, .slice a18 (d4.filter (E4 (atM l j3) j9)).length c18), (10, .int .i64 l[j3.toNat].2.2.1), (11, .int .i64 ((max 0 choice) % (↑((d4.filter (E4 (atM l j3) j9)).length) : Int))), (12, .slice g.2.1 g.2.2.1 g.2.2.2), (40, .slice a18 (d4.filter (E4 (atM l j3) j9)).length c18), (41, .int .i64 (↑((d4.filter (E4 (atM l j3) j9)).length) : Int)), (42, .int .i64 (↑g.1 : Int))]) (fun g => [owd tFact F0 a18 ((d4.filter (E4 (atM l j3) j9)).length) c18 (d4.filter (E4 (atM l j3) j9)) g.1, ow r7 [.slice g.2.1 g.2.2.1 g.2.2.2] (U9 (d4.filter (E4 (atM l j3) j9)) (max 0 choice % ((d4.filter (E4 (atM l j3) j9)).length : Int)) (O2 l (j3, j9)) g.1), pt b6 74 [.int .i64 j3, .slice w4 j9.length w3]]) (fun g => (d4.filter (E4 (atM l j3) j9)).length - g.1) (0, (some ⟨b39, 0, none⟩), 0, 0) ⟨Nat.zero_le _, by simp⟩ ⟨rfl, rfl, rfl, rfl, rfl, rfl, rfl, trivial⟩ (.refl _) (fun g pg => ?_)))
   obtain ⟨g, aA0_0, mA0_0, cA0_0⟩ := g
   try dsimp only at pg
   try dsimp only
   obtain ⟨pk, pa⟩ := pg
   have jk1 := Int.emod_nonneg (max 0 choice) (show ((d4.filter (E4 (atM l j3) j9)).length : Int) ≠ 0 by omega)
   have jk2 := Int.emod_lt_of_pos (max 0 choice) (show 0 < ((d4.filter (E4 (atM l j3) j9)).length : Int) by omega)
   have jci := b0w (x := (d4.filter (E4 (atM l j3) j9))) (k := (max 0 choice % ((d4.filter (E4 (atM l j3) j9)).length : Int))) (lim := O2 l (j3, j9)) (g := g)
   refine i9 (mS m0) fun eaA0_0 laA0_0 => ?_
   subst eaA0_0
   refine Ew Z1 (Ey rfl ((Y.lss rfl rfl).yd) (n0 (fun q43 => ?_) (fun q43 => ?_)))
   ·refine Eu (Eq_ (l4 rfl (i8 (Et (Eq_ (E.block (Ew Z6 (Em rfl (a6t m0 om fun ab45 ae45 => (a7V (j := g) om fun ce45 => (f7 (a3b fun oa45_1 om45_1 oc45_1 oe45 oi45_0 on45_1 => ?_))))))))))))
    subst oe45
    subst on45_1
    refine i9 m0 fun _ ol45_1 => (Ey rfl ((o6 us_Facts ty_Fact rfl ae45 rfl g rfl om).yd) (Ey rfl (o0 (cs := [_, _]) ty_Fact rfl (Has.owt ae45 (mS m0)) rfl) (Est rfl (N.alloc ty_Fact dc) (fun b14 _ => (Ei rfl (Est rfl (Ns [_, _] ty_Fact rfl) (fun _ _ => (Ev Z11 (Em rfl (Em rfl (Ey rfl ((Y.sub rfl rfl om om).yd) (Em rfl (Ey rfl ((Y.len us_Facts rfl).yd) (Ey rfl ((Y.add rfl rfl om om).yd) (Em rfl (Ey rfl ((Y.len us_Facts rfl).yd) (Ey rfl ((a3L rfl rfl om om).yd) ?_)))))))))))))))))
    refine Em rfl (Ey rfl ((Y.lss rfl rfl).yd) (n0 (fun q57 => ?_) (fun q57 => ?_)))
    ·refine Eu (l4 rfl (Ez Z5 (Em rfl (Ey rfl (o0 (cs := [_, _]) ty_Fact rfl (Has.pt m0) rfl) (Est rfl (Nb [_] [_, _] us_Facts ty_Fact rfl rfl) (fun b60 _ => (j6 (f7 (v7 (Est rfl (y6 (E := F0) (ex := (d4.filter (E4 (atM l j3) j9))[g]) us_Facts ty_Fact rfl rfl rfl (I9 (x := (d4.filter (E4 (atM l j3) j9))[g]) oi45_0 Own.ow) rfl bn bn dc) (fun p61 _ => (Ei rfl (En (o4 (Et (Ez Z2 (Ey rfl ((Y.add rfl rfl om om).yd) (Em rfl (Eu (j6 (a2o (j6 (Ent.drop (f7 ?_))))))))))))))))))))))))
     refine j8 (congrArg (ow r7 [_]) (show (U9 (d4.filter (E4 (atM l j3) j9)) (max 0 choice % ((d4.filter (E4 (atM l j3) j9)).length : Int)) (O2 l (j3, j9)) g) ++ [(d4.filter (E4 (atM l j3) j9))[g]] = U9 (d4.filter (E4 (atM l j3) j9)) (max 0 choice % ((d4.filter (E4 (atM l j3) j9)).length : Int)) (O2 l (j3, j9)) (g + 1) from by first | exact b0v om (by rw [jlm]; exact q57) | exact a9N (by rw [jlm]; exact q57))) (j6 (f7 (j6 ?_)))
     exact Ea (g + 1, p61.1, ((U9 (d4.filter (E4 (atM l j3) j9)) (max 0 choice % ((d4.filter (E4 (atM l j3) j9)).length : Int)) (O2 l (j3, j9)) g).length + 1), p61.2) ⟨oz, trivial⟩
    ·refine Eu (l6 rfl (i8 (o4 (Et (Ez Z2 (Ey rfl ((Y.add rfl rfl om om).yd) (Em rfl (Eu (j6 (a2o (f7 (Ent.drop (f7 (Ent.drop (f7 (j8 (congrArg (ow r7 [_]) (show U9 (d4.filter (E4 (atM l j3) j9)) (max 0 choice % ((d4.filter (E4 (atM l j3) j9)).length : Int)) (O2 l (j3, j9)) g = U9 (d4.filter (E4 (atM l j3) j9)) (max 0 choice % ((d4.filter (E4 (atM l j3) j9)).length : Int)) (O2 l (j3, j9)) (g + 1) from by first | exact b0v om (by rw [jlm]; exact q57) | exact a9N (by rw [jlm]; exact q57))) (j6 (f7 (j6 ?_)))))))))))))))))))
     exact Ea (g + 1, aA0_0, (U9 (d4.filter (E4 (atM l j3) j9)) (max 0 choice % ((d4.filter (E4 (atM l j3) j9)).length : Int)) (O2 l (j3, j9)) g).length, cA0_0) ⟨oz, trivial⟩
   ·refine Eu (Eq_ (l6 rfl (E.exit (n8 (n8 (w5 (Et (Ew Z2 (Em rfl (Ei rfl (Eu (E.ret (f7 (j8 (congrArg (ow r7 [_]) (show _ = f5 l d4 (j3, j9) choice by exact b4Y (l := l) (d4 := d4) (a := (j3, j9)) om (show ¬ ((d4.filter (E4 (atM l j3) j9)).length : Int) ≤ O2 l (j3, j9) by omega) (show g = (d4.filter (E4 (atM l j3) j9)).length by omega))) ?_))))))))))))))
    exact Fg rfl rfl (_, _, _) rfl rfl
theorem a6b (hoa : N6 s l (j3, j9) = true) (hof : E0 s d4 = true) : Tr Tryz.prog 127 [.slice a_s m_s c_s, .slice a_l m_l c_l, .slice a_facts m_facts c_facts, .agg #[.int .i64 j3, .slice w4 y5 w3]] (fun w L => Ro w L eIs [.slice a_s m_s c_s] s ∧ Ro w L C8 [.slice a_l m_l c_l] l ∧ Ro w L r7 [.slice a_facts m_facts c_facts] d4 ∧ I64 j3 ∧ Ro w L eIs [.slice w4 y5 w3] j9) [] (κ := Option Addr × Nat × Nat) (fun k => True) (fun k => .slice k.1 k.2.1 k.2.2) (fun k => [ow r7 [.slice k.1 k.2.1 k.2.2] (F7 l d4 (j3, j9))]) := by
 refine Tr.intro Tryz.func127 rfl (n := 30) rfl (by decide +kernel) bl (fr := [(0, .slice a_s m_s c_s), (1, .slice a_l m_l c_l), (2, .slice a_facts m_facts c_facts), (3, .agg #[.int .i64 j3, .slice w4 y5 w3])]) rfl fun w L hR => ?_
 obtain ⟨hs, hl, hfacts, I8, C5⟩ := hR
 obtain ⟨rfl, ls⟩ := hs.slen
 obtain ⟨rfl, ll⟩ := hl.slen
 obtain ⟨rfl, lfacts⟩ := hfacts.slen
 obtain ⟨rfl, P2⟩ := C5.slen
 refine Ew Z2 (Est rfl (N.box (cs := [_, _]) rfl dc rfl) (fun b7 _ => (Ei rfl (Eu (Eq_ (Ew Z11 (Em rfl (Em rfl (Ey rfl (o0 (cs := [_, _]) ty_Access rfl (Has.pt m0) rfl) (Est rfl (k6 a7d rfl rfl rfl dc (fun w Lp hA => ⟨hA.ro hs, hA.ro hl, I8, hA.ro C5⟩)) (fun _ _ => (Ent.b (fun q12 => ?_) (fun q12 => ?_)))))))))))))
 ·have zz := (U2 hoa).2.1
  refine Ey rfl ((Y.not (b := true) rfl).yd) (Em rfl (Em rfl (Em rfl (Est rfl (k6 a0z rfl rfl rfl dc (fun w Lp hA => ⟨hA.ro hs, hA.ro hfacts⟩)) (fun _ _ => (Ent.b (fun q17 => ?_) (fun q17 => ?_)))))))
  ·refine Ey rfl ((Y.not (b := true) rfl).yd) (Ey rfl ((r9 rfl rfl).yd) (Eu (l6 rfl (i8 (Et (Eq_ (D.region (fun j => true) mixed (Dyp 0 rfl (j4 rfl) (Dyp 1 rfl (i7 fo_Access_0 f0 dc rfl) (Dy 2 rfl (f8 f0 rfl (Hz m0 0 rfl) rfl) ?_))))))))))
   obtain ⟨eb24, eo24, ec24, ea24, er24, el24, eh24⟩ := hl.elem j3.toNat om
   obtain ⟨xa24_0, xc24_0, rfl, ei24_0, xh24_0, ei24_2, ei24_3, ei24_4⟩ := H9 er24
   have := xh24_0.slen.2
   refine Dyp 3 rfl (o6 us_Methods ty_Method rfl ea24 rfl j3.toNat om om) (Dy 4 rfl (o0 (cs := [_, _, _, _, _]) ty_Method rfl (eh24 _) rfl) (Dyp 5 rfl (i7 fo_Access_1 ty_Is dc rfl) (Dy 6 rfl (f8 ty_Is rfl (Hz m0 1 rfl) rfl) (Dyp 7 rfl (j4 rfl) (u7 8 rfl rfl kr (fun _ => rfl) (N.call (a6a (by have zc := (U2 hoa).2.2.1; rw [K8 (U2 hoa).2.1.2] at zc; exact Nat.le_of_eq zc.symm) (by have zc := b2x hoa hof; rw [K8 (U2 hoa).2.1.2] at zc; exact zc) (Nat.le_trans (K3 hof).1 dc) (fun f hf => Nat.le_trans (V3 ((K3 hof).2 f hf)) dc)) rfl rfl rfl dc rfl (fun w Lp hA => ⟨ei24_0, hA.ro xh24_0, ei24_2, ei24_3, ei24_4, hA.ro C5, hA.ro hfacts⟩)) (fun k29 _ => ?_))))))
   obtain ⟨a29, m29, c29⟩ := k29
   refine i9 m0 fun e29 l29 => ?_
   subst e29
   refine Dyp 9 rfl (G1 rfl) (o3 kr (Et (E.ret (j8 (congrArg (ow r7 [_]) (show _ = F7 l d4 (j3, j9) by rw [F7, K8 (U2 hoa).2.1.2])) ?_))))
   exact Fg rfl rfl (_, _, _) rfl rfl
  ·refine Ey rfl ((Y.not (b := false) rfl).yd) (Ey rfl ((r9 rfl rfl).yd) (Eu (l4 rfl (Ew Z2 (Est rfl (Nb [] [] us_Facts ty_Fact rfl rfl) (fun b20 _ => (Ent.drop (Ei rfl (Eu (E.ret (l0 (n9 (A := []) (Own.nil (E := F0) (e := tFact) (a := (some ⟨b20, 0, none⟩))) rfl (j8 (congrArg (ow r7 [_]) (show _ = F7 l d4 (j3, j9) by rw [hof] at q17; cases q17)) ?_)))))))))))))
   exact Fg rfl rfl ((some ⟨b20, 0, none⟩), 0, 0) rfl rfl
 ·refine Ey rfl ((Y.not (b := false) rfl).yd) (Em rfl (Es rfl (Es rfl (Es rfl (Es rfl (Ey rfl ((s6 rfl rfl).yd) (Eu (l4 rfl (Ew Z2 (Est rfl (Nb [] [] us_Facts ty_Fact rfl rfl) (fun b20 _ => (Ent.drop (Ei rfl (Eu (E.ret (l0 (n9 (A := []) (Own.nil (E := F0) (e := tFact) (a := (some ⟨b20, 0, none⟩))) rfl (j8 (congrArg (ow r7 [_]) (show _ = F7 l d4 (j3, j9) by rw [hoa] at q12; cases q12)) ?_))))))))))))))))))
  exact Fg rfl rfl ((some ⟨b20, 0, none⟩), 0, 0) rfl rfl
theorem a5W (hoa : N6 s l (j3, j9) = true) (hof : E0 s d4 = true) : Tr Tryz.prog 50 [.slice a_s m_s c_s, .slice a_l m_l c_l, .slice a_facts m_facts c_facts, .agg #[.int .i64 j3, .slice w4 y5 w3], .int .i64 choice] (fun w L => Ro w L eIs [.slice a_s m_s c_s] s ∧ Ro w L C8 [.slice a_l m_l c_l] l ∧ Ro w L r7 [.slice a_facts m_facts c_facts] d4 ∧ I64 j3 ∧ Ro w L eIs [.slice w4 y5 w3] j9) [] (κ := Option Addr × Nat × Nat) (fun k => True) (fun k => .slice k.1 k.2.1 k.2.2) (fun k => [ow r7 [.slice k.1 k.2.1 k.2.2] (f5 l d4 (j3, j9) choice)]) := by
 refine Tr.intro Tryz.func50 rfl (n := 72) rfl (by decide +kernel) bl (fr := [(0, .slice a_s m_s c_s), (1, .slice a_l m_l c_l), (2, .slice a_facts m_facts c_facts), (3, .agg #[.int .i64 j3, .slice w4 y5 w3]), (4, .int .i64 choice)]) rfl fun w L hR => ?_
 obtain ⟨hs, hl, hfacts, I8, C5⟩ := hR
 obtain ⟨rfl, ls⟩ := hs.slen
 obtain ⟨rfl, ll⟩ := hl.slen
 obtain ⟨rfl, lfacts⟩ := hfacts.slen
 obtain ⟨rfl, P2⟩ := C5.slen
 have zz := (U2 hoa).2.1
 have jlm : O2 l (j3, j9) = l[j3.toNat].2.2.1 := by show (atM l j3).2.2.1 = _; rw [K8 (U2 hoa).2.1.2]
 have jl0 := b1v hoa
 have jml : (F7 l d4 (j3, j9)).length ≤ 24 := Nat.le_trans a7z (K3 hof).1
 have hmF : ∀ f ∈ (F7 l d4 (j3, j9)), f.2.length ≤ 1048576 := fun f hf => Nat.le_trans (V3 ((K3 hof).2 f (List.mem_filter.1 hf).1)) dc
 refine Ew Z2 (Est rfl (N.box (cs := [_, _]) rfl dc rfl) (fun b8 _ => (Ei rfl (Ev Z6 (Em rfl (Em rfl (Em rfl (Ey rfl (o0 (cs := [_, _]) ty_Access rfl (Has.pt m0) rfl) (Est rfl (N.call (a6b fo fo) rfl rfl rfl dc rfl (fun w Lp hA => ⟨hA.ro hs, hA.ro hl, hA.ro hfacts, I8, hA.ro C5⟩)) (fun k19 _ => ?_))))))))))
 obtain ⟨a19, m19, c19⟩ := k19
 refine i9 m0 fun e19 l19 => ?_
 subst e19
 refine Ei rfl ?_
 have jeq : ((a19, (F7 l d4 (j3, j9)).length, c19) : Option Addr × Nat × Nat).2.1 = (F7 l d4 (j3, j9)).length := rfl
 refine Eu (Eq_ (Ew Z23 (Em rfl (Ey rfl ((Y.len us_Facts rfl).yd) (Ey rfl ((Y.eql rfl rfl).yd) (n0 (fun q22 => ?_) (fun q22 => ?_)))))))
 ·refine Em rfl (Es rfl (Es rfl (Es rfl (Es rfl (Es rfl (Es rfl (Es rfl (Ey rfl ((s6 rfl rfl).yd) (Em rfl (Es rfl (Es rfl (Es rfl (Es rfl (Es rfl ?_))))))))))))))
  refine Es rfl (Es rfl (Es rfl (Es rfl (Ey rfl ((s6 rfl rfl).yd) (Eu (l4 rfl (Ew Z2 (Em rfl (Ei rfl (Eu (E.ret (l0 (j8 (congrArg (ow r7 [_]) (show _ = f5 l d4 (j3, j9) choice by exact a2l (.inr om))) ?_)))))))))))))
  exact Fg rfl rfl (_, _, _) rfl rfl
 ·refine Em rfl (Em rfl (Ey rfl ((i7 fo_Access_0 f0 dc rfl).yd) (Ey rfl (f8 f0 rfl (Hz (mS m0) 0 rfl) rfl) ?_)))
  obtain ⟨eb27, eo27, ec27, ea27, er27, el27, eh27⟩ := hl.elem j3.toNat om
  obtain ⟨xa27_0, xc27_0, rfl, ei27_0, xh27_0, ei27_2, ei27_3, ei27_4⟩ := H9 er27
  have := xh27_0.slen.2
  refine Ey rfl ((o6 us_Methods ty_Method rfl ea27 rfl j3.toNat om om).yd) (Ey rfl ((i7 fo_Method_2 f0 dc rfl).yd) (Ey rfl (f8 f0 rfl ((eh27 _).sub (cs' := [_]) 2 rfl) rfl) (Ey rfl ((Y.eql rfl rfl).yd) (n0 (fun q30 => ?_) (fun q30 => ?_)))))
  ·refine Ey rfl ((r9 rfl rfl).yd) (Em rfl (Es rfl (Es rfl (Es rfl (Es rfl (Es rfl (Es rfl (Es rfl (Es rfl (Es rfl (Ey rfl ((s6 rfl rfl).yd) (Eu (l4 rfl (Ew Z2 (Em rfl (Ei rfl (Eu (E.ret (l0 (j8 (congrArg (ow r7 [_]) (show _ = f5 l d4 (j3, j9) choice by exact a2l (.inl om))) ?_))))))))))))))))))))
   exact Fg rfl rfl (_, _, _) rfl rfl
  ·refine Ey rfl ((r9 rfl rfl).yd) (Em rfl (Em rfl (Ey rfl ((Y.len us_Facts rfl).yd) (Em rfl (Ey rfl ((i7 fo_Access_0 f0 dc rfl).yd) (Ey rfl (f8 f0 rfl (Hz (mS m0) 0 rfl) rfl) (Ey rfl ((o6 us_Methods ty_Method rfl ea27 rfl j3.toNat om om).yd) (Ey rfl ((i7 fo_Method_2 f0 dc rfl).yd) (Ey rfl (f8 f0 rfl ((eh27 _).sub (cs' := [_]) 2 rfl) rfl) (Ey rfl ((Y.leq rfl rfl).yd) (n0 (fun q41 => ?_) (fun q41 => ?_))))))))))))
   ·refine Ey rfl ((r9 rfl rfl).yd) (Eu (l4 rfl (Ew Z2 (Em rfl (Ei rfl (Eu (E.ret (l0 (j8 (congrArg (ow r7 [_]) (show _ = f5 l d4 (j3, j9) choice by exact a2l (.inr om))) ?_)))))))))
    exact Fg rfl rfl (_, _, _) rfl rfl
   ·refine Ey rfl ((r9 rfl rfl).yd) (Eu (l6 rfl (i8 (Et (Ew Z2 (Est rfl (Nb [] [] us_Facts ty_Fact rfl rfl) (fun b44 _ => (Ent.drop (Ei rfl (Ev Z6 (Em rfl (Ey rfl ((b4V rfl rfl).yd) (Em rfl (Ey rfl ((Y.len us_Facts rfl).yd) (Ey rfl ((a3L rfl rfl om om).yd) (Ei rfl (Eu (Eq_ (Ew Z1 (Ei rfl (Eu (E.block (n9 (A := []) (Own.nil (E := F0) (e := tFact) (a := (some ⟨b44, 0, none⟩))) rfl (j8 (congrArg (ow r7 [_]) (show [] = a1a (F7 l d4 (j3, j9)) (max choice 0 % ((F7 l d4 (j3, j9)).length : Int)) 0 from by rfl)) (E.loop (κ := Nat × Option Addr × Nat × Nat) (fun g => g.1 ≤ (O2 l (j3, j9)).toNat ∧ True) (fun g => [(1, .slice a_l l.length c_l), (8, .pointer (some ⟨b8, 0, none⟩)), (11, .slice a19 (F7 l d4 (j3, j9)).length c19), (12, .slice g.2.1 g.2.2.1 g.2.2.2), (13, .int .i64 ((max choice 0) % (↑((F7 l d4 (j3, j9)).length) : Int))), (14, .int .i64 (↑g.1 : Int))]) (fun g => [ow r7 [.slice g.2.1 g.2.2.1 g.2.2.2] (a1a (F7 l d4 (j3, j9)) (max choice 0 % ((F7 l d4 (j3, j9)).length : Int)) g.1), ow r7 [.slice a19 (F7 l d4 (j3, j9)).length c19] (F7 l d4 (j3, j9)), pt b8 74 [.int .i64 j3, .slice w4 j9.length w3]]) (fun g => (O2 l (j3, j9)).toNat - g.1) (0, (some ⟨b44, 0, none⟩), 0, 0) ⟨Nat.zero_le _, by simp⟩ ⟨rfl, rfl, rfl, rfl, rfl, rfl, trivial⟩ (.refl _) (fun g pg => ?_))))))))))))))))))))))))))
    obtain ⟨g, aA0_0, mA0_0, cA0_0⟩ := g
    try dsimp only at pg
    try dsimp only
    obtain ⟨pk, pa⟩ := pg
    have jk1 := Int.emod_nonneg (max choice 0) (show ((F7 l d4 (j3, j9)).length : Int) ≠ 0 by omega)
    have jk2 := Int.emod_lt_of_pos (max choice 0) (show 0 < ((F7 l d4 (j3, j9)).length : Int) by omega)
    have jcs := b3P (x := (F7 l d4 (j3, j9))) (k := (max choice 0 % ((F7 l d4 (j3, j9)).length : Int))) (g := g)
    refine i9 m0 fun eaA0_0 laA0_0 => ?_
    subst eaA0_0
    refine Eq_ (Ew Z8 (Em rfl (Em rfl (Ey rfl ((i7 fo_Access_0 f0 dc rfl).yd) (Ey rfl (f8 f0 rfl (Hz (mS (mS m0)) 0 rfl) rfl) (Ey rfl ((o6 us_Methods ty_Method rfl ea27 rfl j3.toNat om om).yd) (Ey rfl ((i7 fo_Method_2 f0 dc rfl).yd) (Ey rfl (f8 f0 rfl ((eh27 _).sub (cs' := [_]) 2 rfl) rfl) (Ey rfl ((Y.lss rfl rfl).yd) (n0 (fun q57 => ?_) (fun q57 => ?_)))))))))))
    ·refine Eu (l4 rfl (i8 (Et (Eq_ (E.block (Ez Z12 (Em rfl (Em rfl (Em rfl (Em rfl (Ey rfl ((Y.add rfl rfl om om).yd) (Em rfl (Ey rfl ((Y.len us_Facts rfl).yd) (Ey rfl ((a3L rfl rfl om om).yd) ?_))))))))))))))
     have jix := b0j (x := (F7 l d4 (j3, j9))) (k := (max choice 0 % ((F7 l d4 (j3, j9)).length : Int))) (g := g) jk1 om
     refine a0R (mS m0) om fun ab68 ae68 => (f7 (a6x (x := (F7 l d4 (j3, j9))[((((max choice 0) % (↑((F7 l d4 (j3, j9)).length) : Int)) + (g : Int)) % (↑((F7 l d4 (j3, j9)).length) : Int)).toNat]) (((((max choice 0) % (↑((F7 l d4 (j3, j9)).length) : Int)) + (g : Int)) % (↑((F7 l d4 (j3, j9)).length) : Int)).toNat) (List.getElem?_eq_getElem om) fun ce68 => ?_))
     refine f7 (a3b fun oa68_1 om68_1 oc68_1 oe68 oi68_0 on68_1 => ?_)
     subst oe68
     subst on68_1
     refine Ey rfl ((o6 us_Facts ty_Fact rfl ae68 rfl (((((max choice 0) % (↑((F7 l d4 (j3, j9)).length) : Int)) + (g : Int)) % (↑((F7 l d4 (j3, j9)).length) : Int)).toNat) om om).yd) (Ey rfl (o0 (cs := [_, _]) ty_Fact rfl (Has.hole ae68 (mS m0)) rfl) (Est rfl (N.call (a1I om (fun f hf => hmF f (b3J jk1 om hf)) (hmF _ (List.getElem_mem _))) rfl rfl rfl dc rfl (fun w Lp hA => ⟨hA.ow (mS (mS m0)), oi68_0, hA.ow m0⟩)) (fun k70 _ => ?_)))
     obtain ⟨a70, m70, c70⟩ := k70
     refine i9 m0 fun e70 l70 => ?_
     subst e70
     refine Ei rfl (En (o4 (Et (Ez Z3 (Em rfl (Ey rfl ((Y.add rfl rfl om om).yd) (Ei rfl (Eu (f7 (j6 (a6v (I9 (x := (F7 l d4 (j3, j9))[((((max choice 0) % (↑((F7 l d4 (j3, j9)).length) : Int)) + (g : Int)) % (↑((F7 l d4 (j3, j9)).length) : Int)).toNat]) oi68_0 Own.ow) rfl (j8 (congrArg (ow r7 [_]) (List.set_getElem_self om)) (j6 (Ent.drop (f7 (j8 (congrArg (ow r7 [_]) (show D1 (a1a (F7 l d4 (j3, j9)) (max choice 0 % ((F7 l d4 (j3, j9)).length : Int)) g) (((F7 l d4 (j3, j9))[((((max choice 0) % (↑((F7 l d4 (j3, j9)).length) : Int)) + (g : Int)) % (↑((F7 l d4 (j3, j9)).length) : Int)).toNat].1), ((F7 l d4 (j3, j9))[((((max choice 0) % (↑((F7 l d4 (j3, j9)).length) : Int)) + (g : Int)) % (↑((F7 l d4 (j3, j9)).length) : Int)).toNat].2)) = a1a (F7 l d4 (j3, j9)) (max choice 0 % ((F7 l d4 (j3, j9)).length : Int)) (g + 1) from by exact b3s om rfl)) (j6 (j6 (j6 ?_)))))))))))))))))))
     exact Ea (g + 1, a70, (D1 (a1a (F7 l d4 (j3, j9)) (max choice 0 % ((F7 l d4 (j3, j9)).length : Int)) g) (((F7 l d4 (j3, j9))[((((max choice 0) % (↑((F7 l d4 (j3, j9)).length) : Int)) + (g : Int)) % (↑((F7 l d4 (j3, j9)).length) : Int)).toNat].1), ((F7 l d4 (j3, j9))[((((max choice 0) % (↑((F7 l d4 (j3, j9)).length) : Int)) + (g : Int)) % (↑((F7 l d4 (j3, j9)).length) : Int)).toNat].2))).length, c70) ⟨oz, trivial⟩
    ·refine Eu (l6 rfl (E.exit (n8 (n8 (w5 (Et (Ew Z2 (Em rfl (Ei rfl (Eu (E.ret (j8 (congrArg (ow r7 [_]) (show _ = f5 l d4 (j3, j9) choice by exact b4u (a4T hof) om om om om)) ?_))))))))))))
     exact Fg rfl rfl (_, _, _) rfl rfl
end Go.Proofs.YtlfhopooaejpfaaGreat
