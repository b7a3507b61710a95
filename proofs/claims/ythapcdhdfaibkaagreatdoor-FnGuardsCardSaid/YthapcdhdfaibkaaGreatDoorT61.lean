import Derived.Test.YthapcdhdfaibkaaGreatDoorHq
namespace Go.Proofs.YthapcdhdfaibkaaGreatDoor
open Go.RowKit
set_option linter.all false
set_option maxHeartbeats 2000000
attribute [local irreducible] Nop Yd Yp Ent Has Tr FnP FnP2 Src M5 U1 V6 W3 G3
variable {t l0 : Int} {d4 : List IL} {s : List (List UInt8)} {l f6 j8 : List Int} {m_s c_s m_l c_l B5 w5 D9 y8 C6 v6 : Nat} {a_s a_l w6 y9 v7 : Option Addr}
theorem b5C {v : List UInt8} : Tr Tryz.prog 254 [.slice a_s m_s c_s, P8 v] (fun w L => Ro w L eSs [.slice a_s m_s c_s] s) [] (κ := Unit) (fun k => True) (fun k => .int .i64 (J0 (fun z => decide (v = z)) s)) (fun k => []) := by
 refine Ti2 Tryz.func254 19 rfl fun w L hR => ?_
 have hs := hR
 obtain ⟨rfl, ls⟩ := hs.slen
 refine Ew Z1<|Ei rfl<|Eu<|Eq_<|Ew Z3<|Em rfl<|Yln us_Ss rfl<|Em rfl<|Eu<|E.block<|Lo (κ := Nat) (fun g => g ≤ s.length ∧ ∀ x ∈ s.take g, (fun z => decide (v = z)) x = false) (fun g => [(0, .slice a_s s.length c_s), (1, P8 v), (7, .int .i64 (↑s.length : Int)), (8, .int .i64 (g : Int))]) (fun g => []) (fun g => s.length - g) 0 ⟨by omega, by simp⟩<|fun g pg => ?_
 obtain ⟨pk, pa⟩ := pg
 refine Ew Z1<|Ylt rfl<|l3 (fun q9 => ?_)<|fun q9 => ?_
 ·refine Eu<|Eq_<|Ct<|Eq_<|E.block<|Ew Z2<|Em rfl<|Ei rfl<|Ev Z6<|Em rfl<|Em rfl<|Em rfl ?_
  obtain ⟨eb14, eo14, ea14, eh14⟩ := hs.elemS g om
  refine Il us_Ss ty_S rfl ea14 g rfl om rfl (eh14 _)<|Ey rfl ((a4C rfl rfl).yd)<|l3 (fun q16 => ?_)<|fun q16 => ?_
  ·refine Eu<|r6 rfl<|Ew Z2<|Em rfl<|Ei rfl<|Eu<|E.ret<|u6<|i9<|i9<|u6<|i9<|Fg rfl rfl () (congrArg (Value.int .i64) (by first | exact Q4 om pa (decide_eq_true q16) | exact P1 om pa)) rfl
  ·refine Eu<|r7 rfl<|v8<|o6<|Et<|Ez Z2<|Yad rfl om om<|Em rfl ?_
   exact Eu<|t7 br (g + 1) rs (.refl _) ⟨by omega, U7 om pa<|decide_eq_false q16⟩ om
 ·refine Eu<|Eq_<|r7 rfl<|E.exit<|l4<|l4<|w8<|Et<|Ew Z1<|Ei rfl<|Eu<|E.ret<|Fg rfl rfl () (congrArg (Value.int .i64) (by first | exact Q4 om pa (decide_eq_true q16) | exact P1 om pa)) rfl
theorem a2Y {v : List UInt8} : TB Tryz.prog 152 [.slice a_s m_s c_s, P8 v] (fun w L => Ro w L eSs [.slice a_s m_s c_s] s) (s.any (fun z => decide (v = z))) := by
 refine Ti2 Tryz.func152 9 rfl fun w L hR => ?_
 have hs := hR
 obtain ⟨rfl, ls⟩ := hs.slen
 refine Ew Z1<|Ei rfl<|Ev Z5<|Em rfl<|Em rfl<|E0 rfl b5C rfl (fun hA => hA.ro hs)<|Ey rfl ((Y.geq rfl rfl).yd)<|Ei rfl<|Eu<|E.ret<|Fb rfl rfl (by exact a0p)
theorem a9x (ht : L6 t = true) : Tr Tryz.prog 313 [.int .i64 t] (fun w L => True) [] (κ := Unit) (fun k => True) (fun k => P8 (O2 t)) (fun k => []) := by
 refine Ti1 Tryz.func313 11 rfl fun w L hR => Ew Z1<|Ei rfl<|Eu<|Eq_<|Ew Z2<|Em rfl<|E0 rfl a0Q rfl (fun _ => trivial)<|Ent.b (fun q4 => ?_)<|fun q4 => ?_
 ·have j4 : 10 ≤ t ∧ t ≤ 17 := by simpa [inR] using q4
  have j5 := a2d (n := t - 10)
  refine Eu<|r6 rfl<|Ew Z5<|Em rfl<|Ey rfl ((Y.sub rfl rfl om om).yd)<|E0 rfl (a2G fc) rfl (fun _ => trivial)<|Ey rfl ((P7 rfl rfl (by first | omega | (simp only [List.length_append, List.length_cons, List.length_nil] at *; omega))).yd)<|Ei rfl ?_
  exact Eu<|E.ret<|i9<|Fg rfl rfl () (by rw [show (O2 t) = (([120]) ++ (Q8<|t - 10)) from (by rw [O2, if_pos q4])]; try rfl) rfl
 ·have j5 := b4x ht q4
  refine Eu<|Cf<|Ew Z3<|Em rfl<|E0 rfl (a2G fc) rfl (fun _ => trivial)<|Ei rfl ?_
  exact Eu<|E.ret<|Fg rfl rfl () (by rw [show (O2 t) = (Q8 t) from (by rw [O2, if_neg (by rw [q4]; decide)])]; try rfl) rfl
theorem a6K : Tr Tryz.prog 314 [.int .i64 t] (fun w L => I64 t) [] (κ := Unit) (fun k => True) (fun k => P8 (O2 t)) (fun k => []) := by
 refine Ti1 Tryz.func314 11 rfl fun w L hR => ?_
 have i6t := hR
 refine Ew Z1<|Ei rfl<|Eu<|Eq_<|Ew Z2<|Em rfl<|E0 rfl Z0 rfl (fun _ => trivial)<|Ent.b (fun q4 => ?_)<|fun q4 => ?_
 ·have j4 : 10 ≤ t ∧ t ≤ 17 := by simpa [inR] using q4
  have j5 := a2d (n := t - 10)
  refine Eu<|r6 rfl<|Ew Z5<|Em rfl<|Ey rfl ((Y.sub rfl rfl om om).yd)<|E0 rfl a2J rfl (fun hA => i6)<|Ey rfl ((P7 rfl rfl (by first | omega | (simp only [List.length_append, List.length_cons, List.length_nil] at *; omega))).yd)<|Ei rfl ?_
  exact Eu<|E.ret<|i9<|Fg rfl rfl () (by rw [show (O2 t) = (([120]) ++ (Q8<|t - 10)) from (by rw [O2, if_pos q4])]; try rfl) rfl
 ·refine Eu<|Cf<|Ew Z3<|Em rfl<|E0 rfl a2J rfl (fun hA => i6t)<|Ei rfl ?_
  exact Eu<|E.ret<|Fg rfl rfl () (by rw [show (O2 t) = (Q8 t) from (by rw [O2, if_neg (by rw [q4]; decide)])]; try rfl) rfl
theorem a4i (hz : l.length ≤ 1000) (hv : ∀ t ∈ l, L6 t = true) : Tr Tryz.prog 235 [.slice a_l m_l c_l] (fun w L => Ro w L eIs [.slice a_l m_l c_l] l) [] (κ := Unit) (fun k => True) (fun k => P8 (Lib.join (l.map O2) [44])) (fun k => []) := by
 refine Ti1 Tryz.func235 21 rfl fun w L hR => ?_
 have hl := hR
 obtain ⟨rfl, ll⟩ := hl.slen
 refine Ew Z1<|Ei rfl<|Ev Z2<|Est rfl (Nb [] [] us_Ss ty_S rfl rfl)<|fun b6 _ => Ent.drop<|Ei rfl<|Eu<|Eq_<|Ew Z3<|Em rfl<|Yln us_Is rfl<|Em rfl<|Eu<|E.block<|l6 (A := []) (Own.nil (E := Enc.str) (e := tS) (a := (some ⟨b6, 0, none⟩))) rfl<|g9 (congrArg (ow eSs [_]) (show _ = (l.take 0).map O2 from by rfl))<|Lo (κ := Nat × SL) (fun g => g.1 ≤ l.length ∧ True) (fun g => [(3, .slice g.2.1 g.2.2.1 g.2.2.2), (7, .slice a_l l.length c_l), (8, .int .i64 (↑l.length : Int)), (9, .int .i64 (↑g.1 : Int))]) (fun g => [ow eSs [.slice g.2.1 g.2.2.1 g.2.2.2]<|(l.take g.1).map O2]) (fun g => l.length - g.1) (0, (some ⟨b6, 0, none⟩), 0, 0) ⟨Nat.zero_le _, by simp⟩<|fun g pg => ?_
 obtain ⟨g, aA0_0, mA0_0, cA0_0⟩ := g
 try dsimp only at pg
 try dsimp only
 obtain ⟨pk, pa⟩ := pg
 have jt := List.length_take_le g l
 refine r8 m0 ?_
 rintro rfl laA0_0
 refine Ew Z1<|Ylt rfl<|l3 (fun q10 => ?_)<|fun q10 => ?_
 ·obtain ⟨eb11, eo11, ea11, ei11, eh11⟩ := hl.elemI g om
  refine Eu<|Eq_<|Ct<|Eq_<|E.block<|Ew Z3<|Il us_Is i7 rfl ea11 g rfl om rfl (eh11 _)<|Ei rfl<|Eu<|Ez Z6<|Em rfl<|Em rfl<|E0 rfl (a9x<|hv _<|List.getElem_mem om) rfl (fun _ => trivial)<|Est rfl (Nb [_] [_] us_Ss ty_S rfl rfl)<|fun b16 _ => f5<|Est rfl (B0 (E := Enc.str) (ex := O2 l[g]) us_Ss ty_S rfl rfl rfl Own.str rfl bn bn dc)<|fun p17 _ => Ei rfl<|En<|o6<|Et<|Ez Z2<|Yad rfl om om<|Em rfl<|Eu<|g9 (congrArg (ow eSs [_]) (show _ = (l.take<|g + 1).map O2 from by rw [List.take_succ_eq_append_getElem om, List.map_append]; rfl)) ?_
  exact Ea (g + 1, p17.1, (((l.take g).map O2).length + 1), p17.2) ⟨oz, trivial⟩
 ·refine Eu<|Eq_<|r7 rfl<|E.exit<|l4<|l4<|w8<|Et<|Ew Z3<|Em rfl<|E0 rfl (a9Y (by simp only [List.length_map, List.length_take]; omega)<|Nat.le_trans (X3 (K := 22) (fun x => a0I) (show _ ≤ 1000 by (try rw [List.length_take]); omega)) dc) rfl (fun hA => hA.ow m0)<|Ei rfl ?_
  exact Eu<|E.ret<|Fg rfl rfl () (by rw [show (Lib.join (l.map O2) [44]) = (Lib.join ((l.take g).map O2)<|[44]) from (by rw [List.take_of_length_le om])]; try rfl) rfl
theorem a5O (hz : l.length ≤ 1000) : Tr Tryz.prog 237 [.slice a_l m_l c_l] (fun w L => Ro w L eIs [.slice a_l m_l c_l] l) [] (κ := Unit) (fun k => True) (fun k => P8 (Lib.join (l.map O2) [44])) (fun k => []) := by
 refine Ti1 Tryz.func237 23 rfl fun w L hR => ?_
 have hl := hR
 obtain ⟨rfl, ll⟩ := hl.slen
 refine Ew Z1<|Ei rfl<|Ev Z1<|Ei rfl<|Eu<|Eq_<|Ew Z1<|Ei rfl<|Eu<|E.block<|E.loop (κ := Nat) (fun g => g ≤ l.length ∧ True) (fun g => [(0, .slice a_l l.length c_l), (3, P8<|Lib.join ((l.take g).map O2) [44]), (4, .int .i64 (g : Int))]) (fun g => []) (fun g => l.length - g) (0) ⟨Nat.zero_le _, by simp⟩ ⟨rfl, frS (by simp [Lib.join_nil]), rfl, trivial⟩ (.refl _)<|fun g pg => ?_
 try dsimp only
 obtain ⟨pk, pa⟩ := pg
 have jl := a2C (f := O2) (K := 22) (l := l) (g := g) (n := 1000) (B := 23000) (sep := [44]) (fun x => a0I) hz dc
 refine Eq_<|Ew Z4<|Em rfl<|Em rfl<|Yln us_Is rfl<|Ylt rfl<|l3 (fun q8 => ?_)<|fun q8 => ?_
 ·refine Eu<|Ct<|Eq_<|E.block<|Eq_<|Ew Z2<|Em rfl<|Ey rfl ((Y.gtr rfl rfl).yd)<|l3 (fun q12 => ?_)<|fun q12 => ?_
  ·refine Eu<|r6 rfl<|Ez Z3<|Em rfl<|Ey rfl ((P7 rfl rfl (by first | omega | (simp only [List.length_append, List.length_cons, List.length_nil] at *; omega))).yd)<|Ei rfl<|Eu<|Ez Z8<|Em rfl<|Em rfl<|Em rfl ?_
   obtain ⟨eb18, eo18, ea18, ei18, eh18⟩ := hl.elemI g om
   refine Il us_Is i7 rfl ea18 g rfl om rfl (eh18 _)<|E0 rfl a6K rfl (fun hA => ei18) ?_
   have ji := a0I (t := l[g])
   refine Ey rfl ((P7 rfl rfl (by first | omega | (simp only [List.length_append, List.length_cons, List.length_nil] at *; omega))).yd)<|Ei rfl<|En<|o6<|Et<|Ez Z3<|Em rfl<|Yad rfl om om<|Ei rfl ?_
   exact Eu<|t7 br (g + 1) ⟨rfl, frS (by first | exact a5Y (f := O2) om om | exact a6i (f := O2) om om), rfl, trivial⟩ (.refl _) ⟨oz, trivial⟩ oz
  ·refine Eu<|Cf<|Ez Z8<|Em rfl<|Em rfl<|Em rfl ?_
   obtain ⟨eb18, eo18, ea18, ei18, eh18⟩ := hl.elemI g om
   refine Il us_Is i7 rfl ea18 g rfl om rfl (eh18 _)<|E0 rfl a6K rfl (fun hA => ei18) ?_
   have ji := a0I (t := l[g])
   refine Ey rfl ((P7 rfl rfl (by first | omega | (simp only [List.length_append, List.length_cons, List.length_nil] at *; omega))).yd)<|Ei rfl<|En<|o6<|Et<|Ez Z3<|Em rfl<|Yad rfl om om<|Ei rfl ?_
   exact Eu<|t7 br (g + 1) ⟨rfl, frS (by first | exact a5Y (f := O2) om om | exact a6i (f := O2) om om), rfl, trivial⟩ (.refl _) ⟨oz, trivial⟩ oz
 ·refine Eu<|r7 rfl<|E.exit<|l4<|l4<|w8<|Et<|Ew Z2<|Em rfl<|Ei rfl ?_
  exact Eu<|E.ret<|Fg rfl rfl () (by rw [show (Lib.join (l.map O2) [44]) = (Lib.join ((l.take g).map O2) [44]) from (by rw [List.take_of_length_le om])]; try rfl) rfl
theorem a3X : Tr Tryz.prog 126 [.agg #[.int .i64 l0, .slice w6 B5 w5]] (fun w L => I64 l0 ∧ Ro w L eIs [.slice w6 B5 w5] f6) [] (κ := Unit) (fun k => True) (fun k => P8 (C9 (l0, f6))) (fun k => []) := by
 refine Ti1 Tryz.func126 30 rfl fun w L hR => ?_
 obtain ⟨J4, y6⟩ := hR
 obtain ⟨rfl, Q5⟩ := y6.slen
 refine Ew Z2<|Est rfl (N.box (cs := [_, _]) rfl dc rfl)<|fun b1 _ => Ei rfl<|Eu<|Eq_<|Ew Z17<|Lz fo_Atom_0 i7 rfl m0 rfl<|E0 rfl b2G rfl (fun _ => trivial)<|Ent.b (fun q5 => ?_)<|fun q5 => ?_
 ·refine Yno true rfl<|Em rfl<|Lz fo_Atom_1 ty_Is rfl m0 rfl<|Yln us_Is rfl<|E0 rfl O9 rfl (fun _ => trivial)<|Ent.b (fun q11 => ?_)<|fun q11 => ?_
  ·refine Yno true rfl<|Ypf rfl<|Em rfl<|Lz fo_Atom_1 ty_Is rfl m0 rfl<|E0 rfl a5f rfl (fun hA => hA.ro y6)<|Ent.b (fun q17 => ?_)<|fun q17 => ?_
   ·have jl3 : f6.length ≤ 1000 := by simp only [inR, decide_eq_true_eq] at q11; omega
    have j1 := a2d (n := l0)
    have j3 := X3 (f := O2) (K := 22) (l := f6) (n := 3) (sep := [44]) (fun x => a0I) (by simp only [inR, decide_eq_true_eq] at q11; omega)
    have jF : 0 ≤ l0 ∧ l0 ≤ 9 := by simp only [inR, decide_eq_true_eq] at q5; omega
    refine Yno true rfl<|Ypf rfl<|Eu<|Cf<|Eq_<|D.region (fun j => true) mixed<|Df 0 1 fo_Atom_0 i7 rfl (Hz m0 0 rfl)<|Df 5 6 fo_Atom_1 ty_Is rfl (Hz m0 1 rfl)<|D0 2 rfl (a2G jF) rfl (fun _ => trivial)<|Dyp 3 rfl (P7 rfl rfl (by first | omega | (simp only [List.length_append, List.length_cons, List.length_nil] at *; omega)))<|Dyp 4 rfl (P7 rfl rfl (by first | omega | (simp only [List.length_append, List.length_cons, List.length_nil] at *; omega)))<|D0 7 rfl (a4i jl3<|b9S q17) rfl (fun hA => hA.ro y6)<|Dyp 8 rfl (P7 rfl rfl (by first | omega | (simp only [List.length_append, List.length_cons, List.length_nil] at *; omega)))<|Dyp 9 rfl (P7 rfl rfl (by first | omega | (simp only [List.length_append, List.length_cons, List.length_nil] at *; omega)))<|Dyp 10 rfl (G7 rfl) ?_
    exact n9 kr<|Et<|E.ret<|Fg rfl rfl () (by rw [show (C9 (l0, f6)) = ((((([114]) ++ (Q8 l0)) ++ ([40])) ++ (Lib.join (f6.map O2) [44])) ++ ([41])) from (by rw [C9, q5, q11, q17]; rfl)]; try rfl) rfl
   ·refine Yno false rfl<|Ypf rfl<|Eu<|r6 rfl<|Ew Z1<|Ei rfl ?_
    exact Eu<|E.ret<|i9<|Fg rfl rfl () (by rw [show (C9 (l0, f6)) = ([]) from (by rw [C9, q5, q11, q17]; rfl)]; try rfl) rfl
  ·refine Yno false rfl<|Ypf rfl<|Em rfl<|Es rfl<|Es rfl<|Es rfl<|Es rfl<|Ypt rfl<|Eu<|r6 rfl<|Ew Z1<|Ei rfl ?_
   exact Eu<|E.ret<|i9<|Fg rfl rfl () (by rw [show (C9 (l0, f6)) = ([]) from (by rw [C9, q5, q11]; rfl)]; try rfl) rfl
 ·refine Yno false rfl<|Em rfl<|Es rfl<|Es rfl<|Es rfl<|Es rfl<|Es rfl<|Ypt rfl<|Em rfl<|Es rfl<|Es rfl<|Es rfl<|Es rfl<|Ypt rfl<|Eu<|r6 rfl<|Ew Z1<|Ei rfl ?_
  exact Eu<|E.ret<|i9<|Fg rfl rfl () (by rw [show (C9 (l0, f6)) = ([]) from (by rw [C9, q5]; rfl)]; try rfl) rfl
theorem a2w : Tr Tryz.prog 128 [.agg #[.int .i64 l0, .slice w6 B5 w5]] (fun w L => I64 l0 ∧ Ro w L eIs [.slice w6 B5 w5] f6) [] (κ := Unit) (fun k => True) (fun k => P8 (C9 (l0, f6))) (fun k => []) := by
 refine Ti1 Tryz.func128 39 rfl fun w L hR => ?_
 obtain ⟨J4, y6⟩ := hR
 obtain ⟨rfl, Q5⟩ := y6.slen
 refine Ew Z2<|Est rfl (N.box (cs := [_, _]) rfl dc rfl)<|fun b1 _ => Ei rfl<|Eu<|Eq_<|Ew Z11<|Lz fo_Atom_0 i7 rfl m0 rfl<|E0 rfl K4 rfl (fun _ => trivial)<|Ent.b (fun q6 => ?_)<|fun q6 => ?_
 ·refine Yno true rfl<|Em rfl<|Lz fo_Atom_1 ty_Is rfl m0 rfl<|Yln us_Is rfl<|E0 rfl K4 rfl (fun _ => trivial)<|Ent.b (fun q12 => ?_)<|fun q12 => ?_
  ·have jl3 : f6.length ≤ 1000 := by simp only [inR, decide_eq_true_eq] at q12; omega
   have j1 := a2d (n := l0)
   have j3 := X3 (f := O2) (K := 22) (l := f6) (n := 3) (sep := [44]) (fun x => a0I) (by simp only [inR, decide_eq_true_eq] at q12; omega)
   refine Yno true rfl<|Ypf rfl<|Eu<|Cf<|Eq_<|Ew Z1<|Ei rfl<|Eu<|E.block<|Lo (κ := Nat) (fun g => g ≤ f6.length ∧ (f6.any<|fun t => !L6 t) = ((f6.drop g).any (fun t => !L6 t))) (fun g => [(1, .pointer<|some ⟨b1, 0, none⟩), (3, .int .i64 (g : Int))]) (fun g => [pt b1 111 [.int .i64 l0, .slice w6 f6.length w5]]) (fun g => f6.length - g) 0 ⟨Nat.zero_le _, by rfl⟩<|fun g pg => ?_
   obtain ⟨pk, pa⟩ := pg
   refine Eq_<|Ew Z5<|Em rfl<|Lz fo_Atom_1 ty_Is rfl m0 rfl<|Yln us_Is rfl<|Ylt rfl<|l3 (fun q19 => ?_)<|fun q19 => ?_
   ·refine Eu<|Ct<|Eq_<|E.block<|Ew Z7<|Lz fo_Atom_1 ty_Is rfl m0 rfl<|Em rfl ?_
    obtain ⟨eb25, eo25, ea25, ei25, eh25⟩ := y6.elemI g om
    refine Il us_Is i7 rfl ea25 g rfl om rfl (eh25 _)<|E0 rfl a6C rfl (fun _ => trivial)<|Ent.b (fun q27 => ?_)<|fun q27 => ?_
    ·refine Yno true rfl<|Eu<|r7 rfl<|v8<|o6<|Et<|Ez Z3<|Em rfl<|Yad rfl om om<|Ei rfl ?_
     exact Eu<|t7 br (g + 1) ⟨rfl, rfl, trivial⟩ (.refl _) ⟨by omega, by rw [pa]; exact b8Q om q27⟩ om
    ·refine Yno false rfl<|Eu<|r6 rfl<|Ew Z1<|Ei rfl ?_
     exact Eu<|E.ret<|u6<|i9<|i9<|u6<|i9<|Fg rfl rfl () (by rw [show (C9 (l0, f6)) = ([]) from (by rw [C9, q6, q12, pa, c0J om q27]; rfl)]; try rfl) rfl
   ·refine Eu<|r7 rfl<|E.exit<|l4<|l4<|w8<|Et<|Eq_<|D.region (fun j => true) mixed<|Df 0 1 fo_Atom_0 i7 rfl (Hz m0 0 rfl)<|Df 5 6 fo_Atom_1 ty_Is rfl (Hz m0 1 rfl)<|D0 2 rfl a2J rfl (fun hA => J4)<|Dyp 3 rfl (P7 rfl rfl (by first | omega | (simp only [List.length_append, List.length_cons, List.length_nil] at *; omega)))<|Dyp 4 rfl (P7 rfl rfl (by first | omega | (simp only [List.length_append, List.length_cons, List.length_nil] at *; omega)))<|D0 7 rfl (a5O jl3) rfl (fun hA => hA.ro y6)<|Dyp 8 rfl (P7 rfl rfl (by first | omega | (simp only [List.length_append, List.length_cons, List.length_nil] at *; omega)))<|Dyp 9 rfl (P7 rfl rfl (by first | omega | (simp only [List.length_append, List.length_cons, List.length_nil] at *; omega)))<|Dyp 10 rfl (G7 rfl) ?_
    exact n9 kr<|Et<|E.ret<|Fg rfl rfl () (by rw [show (C9 (l0, f6)) = ((((([114]) ++ (Q8 l0)) ++ ([40])) ++ (Lib.join (f6.map O2) [44])) ++ ([41])) from (by rw [C9, q6, q12, pa, b9T om]; rfl)]; try rfl) rfl
  ·refine Yno false rfl<|Ypf rfl<|Eu<|r6 rfl<|Ew Z1<|Ei rfl ?_
   exact Eu<|E.ret<|i9<|Fg rfl rfl () (by rw [show (C9 (l0, f6)) = ([]) from (by rw [C9, q6, q12]; rfl)]; try rfl) rfl
 ·refine Yno false rfl<|Em rfl<|Es rfl<|Es rfl<|Es rfl<|Es rfl<|Es rfl<|Ypt rfl<|Eu<|r6 rfl<|Ew Z1<|Ei rfl ?_
  exact Eu<|E.ret<|i9<|Fg rfl rfl () (by rw [show (C9 (l0, f6)) = ([]) from (by rw [C9, q6]; rfl)]; try rfl) rfl
theorem a7A (hz : O1 (fun x => x.2.length) d4 ≤ 1048576) : Tr Tryz.prog 125 [.agg #[.slice y9 D9 y8, .slice v7 C6 v6]] (fun w L => Ro w L eIs [.slice y9 D9 y8] j8 ∧ Ro w L B1 [.slice v7 C6 v6] d4) [] (κ := Unit) (fun k => True) (fun k => P8 (M6 (j8, d4))) (fun k => []) := by
 refine Ti1 Tryz.func125 46 rfl fun w L hR => ?_
 obtain ⟨C0, z7⟩ := hR
 obtain ⟨rfl, W8⟩ := C0.slen
 obtain ⟨rfl, U3⟩ := z7.slen
 have jn : d4.length ≤ 1048576 := by unfold O1 at hz; omega
 refine Ew Z2<|Est rfl (N.box (cs := [_, _]) rfl dc rfl)<|fun b1 _ => Ei rfl<|Ev Z2<|Est rfl (Nb [] [] us_Ss ty_S rfl rfl)<|fun b7 _ => Ent.drop<|Ei rfl<|Eu<|Eq_<|Ew Z4<|Lz fo_Query_1 ty_Atoms rfl m0 rfl<|Yln us_Atoms rfl<|Em rfl<|Eu<|E.block<|l6 (A := []) (Own.nil (E := Enc.str) (e := tS) (a := (some ⟨b7, 0, none⟩))) rfl<|g9 (congrArg (ow eSs [_]) (show _ = (d4.take 0).map C9 from by rfl))<|Lo (κ := Nat × SL) (fun g => g.1 ≤ d4.length ∧ True) (fun g => [(1, .pointer<|some ⟨b1, 0, none⟩), (3, .slice g.2.1 g.2.2.1 g.2.2.2), (9, .slice v7 d4.length v6), (10, .int .i64 (↑d4.length : Int)), (11, .int .i64 (↑g.1 : Int))]) (fun g => [ow eSs [.slice g.2.1 g.2.2.1 g.2.2.2]<|(d4.take g.1).map C9, pt b1 28 [.slice y9 j8.length y8, .slice v7 d4.length v6]]) (fun g => d4.length - g.1) (0, (some ⟨b7, 0, none⟩), 0, 0) ⟨Nat.zero_le _, by simp⟩<|fun g pg => ?_
 obtain ⟨g, aA0_0, mA0_0, cA0_0⟩ := g
 try dsimp only at pg
 try dsimp only
 obtain ⟨pk, pa⟩ := pg
 have jt := List.length_take_le g d4
 refine r8 m0 ?_
 rintro rfl laA0_0
 refine Ew Z1<|Ylt rfl<|l3 (fun q12 => ?_)<|fun q12 => ?_
 ·obtain ⟨eb13, eo13, ec13, ea13, er13, el13, eh13⟩ := z7.elem g om
  obtain ⟨xa13_0, xc13_0, rfl, ei13_0, xh13_0⟩ := L5 er13
  have := xh13_0.slen.2
  refine Eu<|Eq_<|Ct<|Eq_<|E.block<|Ew Z4<|Ix us_Atoms ty_Atom rfl ea13 g rfl om<|Ey rfl (k7 (cs := [_, _]) ty_Atom rfl (eh13 _) rfl)<|Est rfl (N.alloc ty_Atom dc)<|fun b5 _ => Est rfl (Ns [_, _] ty_Atom rfl)<|fun _ _ => Eu<|Ez Z6<|Em rfl<|Ey rfl (k7 (cs := [_, _]) ty_Atom rfl (Has.pt m0) rfl)<|E0 rfl a3X rfl (fun hA => ⟨ei13_0, hA.ro xh13_0⟩)<|Est rfl (Nb [_] [_] us_Ss ty_S rfl rfl)<|fun b18 _ => i8<|Est rfl (B0 (E := Enc.str) (ex := C9 d4[g]) us_Ss ty_S rfl rfl rfl Own.str rfl bn bn dc)<|fun p19 _ => Ei rfl<|En<|o6<|Et<|Ez Z2<|Yad rfl om om<|Em rfl<|Eu<|f5<|Ent.drop<|g9 (congrArg (ow eSs [_]) (show _ = (d4.take<|g + 1).map C9 from by rw [List.take_succ_eq_append_getElem om, List.map_append]; rfl))<|f5<|f5 ?_
  exact Ea (g + 1, p19.1, (((d4.take g).map C9).length + 1), p19.2) ⟨oz, trivial⟩
 ·refine Eu<|Eq_<|r7 rfl<|E.exit<|l4<|l4<|w8<|Et<|Eq_<|Ew Z13<|Em rfl ?_
  have jg : (d4.take g).map C9 = d4.map C9 := by rw [List.take_of_length_le om]
  refine Yln us_Ss rfl<|E0 rfl O9 rfl (fun _ => trivial)<|Ent.b (fun q23 => ?_)<|fun q23 => ?_
  ·refine Yno true rfl<|Em rfl<|Em rfl<|E0 rfl a2Y rfl (fun hA => hA.ow m0)<|Ent.b (fun q27 => ?_)<|fun q27 => ?_
   ·refine Ypf rfl<|Em rfl<|Es rfl<|Es rfl<|Es rfl<|Ypt rfl<|Eu<|r6 rfl<|Ew Z1<|Ei rfl ?_
    exact Eu<|E.ret<|i9<|Fg rfl rfl () (by rw [show (M6 (j8, d4)) = ([]) from (by rw [jg, b5y] at q27; exact a7x q27)]; try rfl) rfl
   ·refine Ypf rfl<|Em rfl<|Ey rfl (k7 (cs := [_, _]) ty_Query rfl (Has.pt<|mS m0) rfl)<|E0 rfl (a5w fo) rfl (fun hA => ⟨hA.ro C0, hA.ro z7⟩)<|Ent.b (fun q31 => ?_)<|fun q31 => ?_
    ·have jo := b7a q31
     have q4 : inR (d4.length : Int) 1 4 = true := by rw [jg, List.length_map] at q23; exact q23
     have jr : d4.length ≤ 4 := by simp only [inR, decide_eq_true_eq] at q4; omega
     have jj := X3 (f := C9) (K := 100) (l := d4) (n := 4) (sep := [32, 97, 110, 100, 32]) (fun x => a0F) jr
     have jh := a7g (h := j8) jo.1
     have jm := X3 (f := O2) (K := 22) (l := j8) (n := 3) (sep := [44]) (fun x => a0I) jo.1
     have jl := a2C (f := C9) (K := 100) (l := d4) (g := g) (n := 4) (B := 420) (sep := [32, 97, 110, 100, 32]) (fun x => a0F) jr dc
     have j0 : nT C9 d4 = false := by rw [jg, b5y] at q27; exact q27
     refine Yno true rfl<|Ypf rfl<|Eu<|Cf<|Ew Z1<|Ei rfl<|Eu<|Eq_<|Ew Z4<|Lz fo_Query_0 ty_Is rfl (mS m0) rfl<|Yln us_Is rfl<|Ey rfl ((Y.gtr rfl rfl).yd)<|l3 (fun q37 => ?_)<|fun q37 => ?_
     ·refine Eu<|r6 rfl<|Ez Z4<|Lz fo_Query_0 ty_Is rfl (mS m0) rfl<|E0 rfl (a4i (by first | omega | (have := jo.1; omega)) jo.2) rfl (fun hA => hA.ro C0)<|Ei rfl<|Ev Z6<|Em rfl<|Ey rfl ((P7 rfl rfl (by first | omega | (simp only [List.length_append, List.length_cons, List.length_nil] at *; omega))).yd)<|Em rfl<|E0 rfl (a9Y (by simp only [List.length_map, List.length_take]; omega) (by rw [jg]; exact Nat.le_trans jj dc)) rfl (fun hA => hA.ow m0)<|Ey rfl ((P7 rfl rfl (by first | omega | (simp only [List.length_append, List.length_cons, List.length_nil] at *; omega))).yd)<|Ei rfl ?_
      exact Eu<|E.ret<|Fg rfl rfl () (by rw [show (M6 (j8, d4)) = (((Lib.join (j8.map O2) [44]) ++ ([32, 105, 102, 32])) ++ (Lib.join ((d4.take g).map C9)<|[32, 97, 110, 100, 32])) from (by rw [jg]; rw [a7v (h := j8) om]; exact a4T q4 q31 j0)]; try rfl) rfl
     ·refine Eu<|Cf<|Ew Z6<|Em rfl<|Ey rfl ((P7 rfl rfl (by first | omega | (simp only [List.length_append, List.length_cons, List.length_nil] at *; omega))).yd)<|Em rfl<|E0 rfl (a9Y (by simp only [List.length_map, List.length_take]; omega) (by rw [jg]; exact Nat.le_trans jj dc)) rfl (fun hA => hA.ow m0)<|Ey rfl ((P7 rfl rfl (by first | omega | (simp only [List.length_append, List.length_cons, List.length_nil] at *; omega))).yd)<|Ei rfl ?_
      exact Eu<|E.ret<|Fg rfl rfl () (by rw [show (M6 (j8, d4)) = ((([121, 101, 115]) ++ ([32, 105, 102, 32])) ++ (Lib.join ((d4.take g).map C9)<|[32, 97, 110, 100, 32])) from (by rw [jg]; rw [a8J (h := j8) om]; exact a4T q4 q31 j0)]; try rfl) rfl
    ·refine Yno false rfl<|Ypf rfl<|Eu<|r6 rfl<|Ew Z1<|Ei rfl ?_
     exact Eu<|E.ret<|i9<|Fg rfl rfl () (by rw [show (M6 (j8, d4)) = ([]) from (by exact a4P q31)]; try rfl) rfl
  ·refine Yno false rfl<|Em rfl<|Es rfl<|Es rfl<|Ypt rfl<|Em rfl<|Es rfl<|Es rfl<|Es rfl<|Ypt rfl<|Eu<|r6 rfl<|Ew Z1<|Ei rfl ?_
   exact Eu<|E.ret<|i9<|Fg rfl rfl () (by rw [show (M6 (j8, d4)) = ([]) from (by rw [jg, List.length_map] at q23; exact b1d q23)]; try rfl) rfl
theorem a7b (hz : O1 (fun x => x.2.length) d4 ≤ 1048576) : Tr Tryz.prog 127 [.agg #[.slice y9 D9 y8, .slice v7 C6 v6]] (fun w L => Ro w L eIs [.slice y9 D9 y8] j8 ∧ Ro w L B1 [.slice v7 C6 v6] d4) [] (κ := Unit) (fun k => True) (fun k => P8 (M6 (j8, d4))) (fun k => []) := by
 refine Ti1 Tryz.func127 68 rfl fun w L hR => ?_
 obtain ⟨C0, z7⟩ := hR
 obtain ⟨rfl, W8⟩ := C0.slen
 obtain ⟨rfl, U3⟩ := z7.slen
 refine Ew Z2<|Est rfl (N.box (cs := [_, _]) rfl dc rfl)<|fun b1 _ => Ei rfl<|Eu<|Eq_<|Ew Z11<|Lz fo_Query_1 ty_Atoms rfl m0 rfl<|Yln us_Atoms rfl<|E0 rfl K4 rfl (fun _ => trivial)<|Ent.b (fun q11 => ?_)<|fun q11 => ?_
 ·refine Yno true rfl<|Em rfl<|Lz fo_Query_0 ty_Is rfl m0 rfl<|Yln us_Is rfl<|Ey rfl ((Y.gtr rfl rfl).yd)<|l3 (fun q17 => ?_)<|fun q17 => ?_
  ·refine Ypf rfl<|Eu<|r6 rfl<|Ew Z1<|Ei rfl ?_
   exact Eu<|E.ret<|i9<|Fg rfl rfl () (by rw [show (M6 (j8, d4)) = ([]) from (by exact a4P (b4R q17))]; try rfl) rfl
  ·have jr : d4.length ≤ 4 := by have q4 := q11; simp only [inR, decide_eq_true_eq] at q4; omega
   have jh := a7g (h := j8) om
   have jm := X3 (f := O2) (K := 22) (l := j8) (n := 3) (sep := [44]) (fun x => a0I) om
   refine Ypf rfl<|Eu<|Cf<|Ew Z1<|Ei rfl<|Eu<|Eq_<|Ew Z4<|Lz fo_Query_0 ty_Is rfl m0 rfl<|Yln us_Is rfl<|Ey rfl ((Y.gtr rfl rfl).yd)<|l3 (fun q22 => ?_)<|fun q22 => ?_
   ·refine Eu<|r6 rfl<|Ez Z4<|Lz fo_Query_0 ty_Is rfl m0 rfl<|E0 rfl (a5O (by first | omega | (have := jo.1; omega))) rfl (fun hA => hA.ro C0)<|Ei rfl<|Ev Z3<|Ey rfl (k7 (cs := [_, _]) ty_Query rfl (Has.pt m0) rfl)<|El rfl (a0A fo) rfl (fun hA => ⟨hA.ro C0, hA.ro z7⟩)<|fun a27 c27 l27 => Ei rfl<|Eu<|Eq_<|Ew Z1<|Ei rfl<|Eu<|E.block<|Lo (κ := Nat) (fun g => g ≤ j8.length ∧ (j8.any<|a3j d4) = ((j8.drop g).any (a3j d4))) (fun g => [(1, .pointer<|some ⟨b1, 0, none⟩), (3, P8<|Lib.join (j8.map O2) [44]), (4, .slice a27 (u7 (fun t => inR t 10 17) d4).length c27), (5, .int .i64 (g : Int))]) (fun g => [ow eIs [.slice a27 (u7 (fun t => inR t 10 17) d4).length c27]<|u7 (fun t => inR t 10 17) d4, pt b1 28 [.slice y9 j8.length y8, .slice v7 d4.length v6]]) (fun g => j8.length - g) 0 ⟨Nat.zero_le _, by rfl⟩<|fun g pg => ?_
    obtain ⟨pk, pa⟩ := pg
    have pa1 := pa
    refine Eq_<|Ew Z5<|Em rfl<|Lz fo_Query_0 ty_Is rfl (mS m0) rfl<|Yln us_Is rfl<|Ylt rfl<|l3 (fun q32 => ?_)<|fun q32 => ?_
    ·refine Eu<|Ct<|Eq_<|E.block<|Ew Z8<|Em rfl<|Lz fo_Query_0 ty_Is rfl (mS m0) rfl<|Em rfl ?_
     obtain ⟨eb39, eo39, ea39, ei39, eh39⟩ := C0.elemI g om
     refine Il us_Is i7 rfl ea39 g rfl om rfl (eh39 _)<|E0 rfl a0s rfl (fun hA => hA.ow m0)<|Ent.b (fun q41 => ?_)<|fun q41 => ?_
     ·refine Yno true rfl<|Eu<|r7 rfl<|v8<|o6<|Et<|Ez Z3<|Em rfl<|Yad rfl om om<|Ei rfl<|Eu<|f5<|f5 ?_
      exact t7 br (g + 1) rs (.refl _) ⟨by omega, by rw [pa]; exact b1a om q41⟩ om
     ·refine Yno false rfl<|Eu<|r6 rfl<|Ew Z1<|Ei rfl ?_
      exact Eu<|E.ret<|u6<|i9<|i9<|u6<|i9<|Fg rfl rfl () (by rw [show (M6 (j8, d4)) = ([]) from (by exact a4P (a9l<|pa.trans<|b3M om q41))]; try rfl) rfl
    ·refine Eu<|r7 rfl<|E.exit<|l4<|l4<|w8<|Et<|Ew Z3<|Em rfl<|Ey rfl ((P7 rfl rfl (by first | omega | (simp only [List.length_append, List.length_cons, List.length_nil] at *; omega))).yd)<|Ei rfl<|Eu<|Eq_<|Ew Z1<|Ei rfl<|Eu<|E.block<|E.loop (κ := Nat) (fun r => r ≤ d4.length ∧ nT C9 d4 = nT C9 (d4.drop r)) (fun r => [(1, .pointer<|some ⟨b1, 0, none⟩), (3, P8<|a2D j8 ++ [32, 105, 102, 32] ++ Lib.join ((d4.take r).map C9) [32, 97, 110, 100, 32]), (6, .int .i64 (r : Int))]) (fun r => [ow eIs [.slice a27 (u7 (fun t => inR t 10 17) d4).length c27]<|u7 (fun t => inR t 10 17) d4, pt b1 28 [.slice y9 j8.length y8, .slice v7 d4.length v6]]) (fun r => d4.length - r) (0) ⟨Nat.zero_le _, by rfl⟩ ⟨rfl, frS (by rw [b0V, List.append_nil]; first | rw [a7v (h := j8) om] | rw [← a8J (h := j8) om]), rfl, trivial⟩ (.refl _)<|fun r pr => ?_
     try dsimp only
     obtain ⟨pk, pa⟩ := pr
     have pa2 := pa
     have jl := a2C (f := C9) (K := 100) (l := d4) (g := r) (n := 4) (B := 420) (sep := [32, 97, 110, 100, 32]) (fun x => a0F) jr dc
     refine Eq_<|Ew Z5<|Em rfl<|Lz fo_Query_1 ty_Atoms rfl (mS m0) rfl<|Yln us_Atoms rfl<|Ylt rfl<|l3 (fun q49 => ?_)<|fun q49 => ?_
     ·refine Eu<|Ct<|Eq_<|E.block<|Ew Z7<|Lz fo_Query_1 ty_Atoms rfl (mS m0) rfl<|Em rfl ?_
      obtain ⟨eb55, eo55, ec55, ea55, er55, el55, eh55⟩ := z7.elem r om
      obtain ⟨xa55_0, xc55_0, rfl, ei55_0, xh55_0⟩ := L5 er55
      have := xh55_0.slen.2
      refine Ix us_Atoms ty_Atom rfl ea55 r rfl om<|Ey rfl (k7 (cs := [_, _]) ty_Atom rfl (eh55 _) rfl)<|E0 rfl a2w rfl (fun hA => ⟨ei55_0, hA.ro xh55_0⟩)<|Ei rfl<|Eu<|Eq_<|Ew Z2<|Em rfl<|Ey rfl ((a4C rfl rfl).yd)<|l3 (fun q59 => ?_)<|fun q59 => ?_
      ·refine Eu<|r6 rfl<|Ew Z1<|Ei rfl ?_
       exact Eu<|E.ret<|i9<|u6<|i9<|i9<|u6<|i9<|Fg rfl rfl () (by rw [show (M6 (j8, d4)) = ([]) from (by exact a7x (pa2.trans<|b1M om q59))]; try rfl) rfl
      ·have ja : (C9 (d4[r].1, d4[r].2)).length ≤ 100 := a0F
       refine Eu<|Cf<|Eq_<|Ew Z2<|Em rfl<|Ey rfl ((Y.gtr rfl rfl).yd)<|l3 (fun q61 => ?_)<|fun q61 => ?_
       ·refine Eu<|r6 rfl<|Ez Z3<|Em rfl<|Ey rfl ((P7 rfl rfl (by first | omega | (simp only [List.length_append, List.length_cons, List.length_nil] at *; omega))).yd)<|Ei rfl<|Eu<|Ez Z4<|Em rfl<|Em rfl<|Ey rfl ((P7 rfl rfl (by first | omega | (simp only [List.length_append, List.length_cons, List.length_nil] at *; omega))).yd)<|Ei rfl<|En<|o6<|Et<|Ez Z3<|Em rfl<|Yad rfl om om<|Ei rfl<|Eu<|f5<|f5 ?_
        exact t7 br (r + 1) ⟨rfl, frS (by first | exact a3J (f := C9) om om | exact a3Z (f := C9) om om), rfl, trivial⟩ (.refl _) ⟨oz, (show nT C9 d4 = nT C9 (d4.drop<|r + 1) from by rw [pa2]; exact a4f om q59)⟩ oz
       ·refine Eu<|Cf<|Ez Z4<|Em rfl<|Em rfl<|Ey rfl ((P7 rfl rfl (by first | omega | (simp only [List.length_append, List.length_cons, List.length_nil] at *; omega))).yd)<|Ei rfl<|En<|o6<|Et<|Ez Z3<|Em rfl<|Yad rfl om om<|Ei rfl<|Eu<|f5<|f5 ?_
        exact t7 br (r + 1) ⟨rfl, frS (by first | exact a3J (f := C9) om om | exact a3Z (f := C9) om om), rfl, trivial⟩ (.refl _) ⟨oz, (show nT C9 d4 = nT C9 (d4.drop<|r + 1) from by rw [pa2]; exact a4f om q59)⟩ oz
     ·refine Eu<|r7 rfl<|E.exit<|l4<|l4<|w8<|Et<|Ew Z2<|Em rfl<|Ei rfl ?_
      exact Eu<|E.ret<|Fg rfl rfl () (by rw [show (M6 (j8, d4)) = (a2D j8 ++ [32, 105, 102, 32] ++ Lib.join ((d4.take r).map C9) [32, 97, 110, 100, 32]) from (by rw [a4T q11 (a9G q17<|pa1.trans<|b2x om)<|pa2.trans<|a9o om]; rw [List.take_of_length_le om])]; try rfl) rfl
   ·refine Eu<|Cf<|Ew Z3<|Ey rfl (k7 (cs := [_, _]) ty_Query rfl (Has.pt m0) rfl)<|El rfl (a0A fo) rfl (fun hA => ⟨hA.ro C0, hA.ro z7⟩)<|fun a27 c27 l27 => Ei rfl<|Eu<|Eq_<|Ew Z1<|Ei rfl<|Eu<|E.block<|Lo (κ := Nat) (fun g => g ≤ j8.length ∧ (j8.any<|a3j d4) = ((j8.drop g).any (a3j d4))) (fun g => [(1, .pointer<|some ⟨b1, 0, none⟩), (3, P8<|[121, 101, 115]), (4, .slice a27 (u7 (fun t => inR t 10 17) d4).length c27), (5, .int .i64 (g : Int))]) (fun g => [ow eIs [.slice a27 (u7 (fun t => inR t 10 17) d4).length c27]<|u7 (fun t => inR t 10 17) d4, pt b1 28 [.slice y9 j8.length y8, .slice v7 d4.length v6]]) (fun g => j8.length - g) 0 ⟨Nat.zero_le _, by rfl⟩<|fun g pg => ?_
    obtain ⟨pk, pa⟩ := pg
    have pa1 := pa
    refine Eq_<|Ew Z5<|Em rfl<|Lz fo_Query_0 ty_Is rfl (mS m0) rfl<|Yln us_Is rfl<|Ylt rfl<|l3 (fun q32 => ?_)<|fun q32 => ?_
    ·refine Eu<|Ct<|Eq_<|E.block<|Ew Z8<|Em rfl<|Lz fo_Query_0 ty_Is rfl (mS m0) rfl<|Em rfl ?_
     obtain ⟨eb39, eo39, ea39, ei39, eh39⟩ := C0.elemI g om
     refine Il us_Is i7 rfl ea39 g rfl om rfl (eh39 _)<|E0 rfl a0s rfl (fun hA => hA.ow m0)<|Ent.b (fun q41 => ?_)<|fun q41 => ?_
     ·refine Yno true rfl<|Eu<|r7 rfl<|v8<|o6<|Et<|Ez Z3<|Em rfl<|Yad rfl om om<|Ei rfl<|Eu<|f5<|f5 ?_
      exact t7 br (g + 1) rs (.refl _) ⟨by omega, by rw [pa]; exact b1a om q41⟩ om
     ·refine Yno false rfl<|Eu<|r6 rfl<|Ew Z1<|Ei rfl ?_
      exact Eu<|E.ret<|u6<|i9<|i9<|u6<|i9<|Fg rfl rfl () (by rw [show (M6 (j8, d4)) = ([]) from (by exact a4P (a9l<|pa.trans<|b3M om q41))]; try rfl) rfl
    ·refine Eu<|r7 rfl<|E.exit<|l4<|l4<|w8<|Et<|Ew Z3<|Em rfl<|Ey rfl ((P7 rfl rfl (by first | omega | (simp only [List.length_append, List.length_cons, List.length_nil] at *; omega))).yd)<|Ei rfl<|Eu<|Eq_<|Ew Z1<|Ei rfl<|Eu<|E.block<|E.loop (κ := Nat) (fun r => r ≤ d4.length ∧ nT C9 d4 = nT C9 (d4.drop r)) (fun r => [(1, .pointer<|some ⟨b1, 0, none⟩), (3, P8<|a2D j8 ++ [32, 105, 102, 32] ++ Lib.join ((d4.take r).map C9) [32, 97, 110, 100, 32]), (6, .int .i64 (r : Int))]) (fun r => [ow eIs [.slice a27 (u7 (fun t => inR t 10 17) d4).length c27]<|u7 (fun t => inR t 10 17) d4, pt b1 28 [.slice y9 j8.length y8, .slice v7 d4.length v6]]) (fun r => d4.length - r) (0) ⟨Nat.zero_le _, by rfl⟩ ⟨rfl, frS (by rw [b0V, List.append_nil]; first | rw [a7v (h := j8) om] | rw [← a8J (h := j8) om]), rfl, trivial⟩ (.refl _)<|fun r pr => ?_
     try dsimp only
     obtain ⟨pk, pa⟩ := pr
     have pa2 := pa
     have jl := a2C (f := C9) (K := 100) (l := d4) (g := r) (n := 4) (B := 420) (sep := [32, 97, 110, 100, 32]) (fun x => a0F) jr dc
     refine Eq_<|Ew Z5<|Em rfl<|Lz fo_Query_1 ty_Atoms rfl (mS m0) rfl<|Yln us_Atoms rfl<|Ylt rfl<|l3 (fun q49 => ?_)<|fun q49 => ?_
     ·refine Eu<|Ct<|Eq_<|E.block<|Ew Z7<|Lz fo_Query_1 ty_Atoms rfl (mS m0) rfl<|Em rfl ?_
      obtain ⟨eb55, eo55, ec55, ea55, er55, el55, eh55⟩ := z7.elem r om
      obtain ⟨xa55_0, xc55_0, rfl, ei55_0, xh55_0⟩ := L5 er55
      have := xh55_0.slen.2
      refine Ix us_Atoms ty_Atom rfl ea55 r rfl om<|Ey rfl (k7 (cs := [_, _]) ty_Atom rfl (eh55 _) rfl)<|E0 rfl a2w rfl (fun hA => ⟨ei55_0, hA.ro xh55_0⟩)<|Ei rfl<|Eu<|Eq_<|Ew Z2<|Em rfl<|Ey rfl ((a4C rfl rfl).yd)<|l3 (fun q59 => ?_)<|fun q59 => ?_
      ·refine Eu<|r6 rfl<|Ew Z1<|Ei rfl ?_
       exact Eu<|E.ret<|i9<|u6<|i9<|i9<|u6<|i9<|Fg rfl rfl () (by rw [show (M6 (j8, d4)) = ([]) from (by exact a7x (pa2.trans<|b1M om q59))]; try rfl) rfl
      ·have ja : (C9 (d4[r].1, d4[r].2)).length ≤ 100 := a0F
       refine Eu<|Cf<|Eq_<|Ew Z2<|Em rfl<|Ey rfl ((Y.gtr rfl rfl).yd)<|l3 (fun q61 => ?_)<|fun q61 => ?_
       ·refine Eu<|r6 rfl<|Ez Z3<|Em rfl<|Ey rfl ((P7 rfl rfl (by first | omega | (simp only [List.length_append, List.length_cons, List.length_nil] at *; omega))).yd)<|Ei rfl<|Eu<|Ez Z4<|Em rfl<|Em rfl<|Ey rfl ((P7 rfl rfl (by first | omega | (simp only [List.length_append, List.length_cons, List.length_nil] at *; omega))).yd)<|Ei rfl<|En<|o6<|Et<|Ez Z3<|Em rfl<|Yad rfl om om<|Ei rfl<|Eu<|f5<|f5 ?_
        exact t7 br (r + 1) ⟨rfl, frS (by first | exact a3J (f := C9) om om | exact a3Z (f := C9) om om), rfl, trivial⟩ (.refl _) ⟨oz, (show nT C9 d4 = nT C9 (d4.drop<|r + 1) from by rw [pa2]; exact a4f om q59)⟩ oz
       ·refine Eu<|Cf<|Ez Z4<|Em rfl<|Em rfl<|Ey rfl ((P7 rfl rfl (by first | omega | (simp only [List.length_append, List.length_cons, List.length_nil] at *; omega))).yd)<|Ei rfl<|En<|o6<|Et<|Ez Z3<|Em rfl<|Yad rfl om om<|Ei rfl<|Eu<|f5<|f5 ?_
        exact t7 br (r + 1) ⟨rfl, frS (by first | exact a3J (f := C9) om om | exact a3Z (f := C9) om om), rfl, trivial⟩ (.refl _) ⟨oz, (show nT C9 d4 = nT C9 (d4.drop<|r + 1) from by rw [pa2]; exact a4f om q59)⟩ oz
     ·refine Eu<|r7 rfl<|E.exit<|l4<|l4<|w8<|Et<|Ew Z2<|Em rfl<|Ei rfl ?_
      exact Eu<|E.ret<|Fg rfl rfl () (by rw [show (M6 (j8, d4)) = (a2D j8 ++ [32, 105, 102, 32] ++ Lib.join ((d4.take r).map C9) [32, 97, 110, 100, 32]) from (by rw [a4T q11 (a9G q17<|pa1.trans<|b2x om)<|pa2.trans<|a9o om]; rw [List.take_of_length_le om])]; try rfl) rfl
 ·refine Yno false rfl<|Em rfl<|Es rfl<|Es rfl<|Es rfl<|Es rfl<|Ypt rfl<|Eu<|r6 rfl<|Ew Z1<|Ei rfl ?_
  exact Eu<|E.ret<|i9<|Fg rfl rfl () (by rw [show (M6 (j8, d4)) = ([]) from (by exact b1d q11)]; try rfl) rfl
end Go.Proofs.YthapcdhdfaibkaaGreatDoor
