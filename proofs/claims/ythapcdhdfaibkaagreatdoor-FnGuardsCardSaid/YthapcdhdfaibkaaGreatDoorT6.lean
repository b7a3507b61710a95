import Derived.Test.YthapcdhdfaibkaaGreatDoorT1
section
namespace Go.Proofs.YthapcdhdfaibkaaGreatDoor
open Go.RowKit
set_option linter.all false
set_option maxHeartbeats 2000000
attribute [local irreducible] Nop Yd Yp Ent Has Tr FnP FnP2 Src
variable {n n8 : Int} {s f9 : List Int} {m_s c_s I1 E1 : Nat} {a_s E3 : Option Addr}
theorem a5y : TB Tryz.prog 342 [.int .i64 n] (fun w L => True) (inR n 0 9) := by
 refine Ti1 Tryz.func342 5 rfl fun w L hR => Ew Z1<|Ei rfl<|Ev Z3<|Em rfl<|E0 rfl O9 rfl (fun _ => trivial)<|Ei rfl<|Eu<|E.ret<|Fg rfl rfl () rfl rfl
theorem a7f : TB Tryz.prog 341 [.int .i64 n] (fun w L => (I64 n) ∧ True) (!inR n 0 9) := by
 refine Ti1 Tryz.func341 6 rfl fun w L hR => ?_
 obtain ⟨i6n, _⟩ := hR
 refine Ew Z1<|Ei rfl<|Ev Z4<|Em rfl<|E0 rfl a5y rfl (fun _ => trivial)<|Ey rfl ((Y.not rfl).yd)<|Ei rfl<|Eu<|E.ret<|Fb rfl rfl (by simp_all)
theorem a8W {a_l : Option Addr} {m_l c_l : Nat} {l : List Int} : TB Tryz.prog 281 [.slice a_l m_l c_l] (fun w L => Ro w L eIs [.slice a_l m_l c_l] l) (V4 l) := by
 refine Ti1 Tryz.func281 6 rfl fun w L hR => ?_
 have hl := hR
 obtain ⟨rfl, ll⟩ := hl.slen
 refine Ew Z1<|Ei rfl<|Ev Z4<|Em rfl<|E0 rfl (X8 (f := (fun n => !inR n 0 9)) (D_f := (fun _ => True)) (by intros; exact trivial)) rfl (fun hA => ⟨hA.ro hl, a2q (D := (fun _ => True)) (fun hd => a7f)<|fun w' hk => trivial⟩)<|Ey rfl ((Y.not rfl).yd)<|Ei rfl<|Eu<|E.ret<|Fb rfl rfl (by rfl)
theorem b1x : TB Tryz.prog 187 [.slice a_s m_s c_s, .agg #[.int .i64 n8, .slice E3 I1 E1]] (fun w L => Ro w L eIs [.slice a_s m_s c_s] s ∧ I64 n8 ∧ Ro w L eIs [.slice E3 I1 E1] f9) (O6 s (n8, f9)) := by
 refine Ti2 Tryz.func187 25 rfl fun w L hR => ?_
 obtain ⟨hs, M3, C3⟩ := hR
 obtain ⟨rfl, ls⟩ := hs.slen
 obtain ⟨rfl, a0l⟩ := C3.slen
 refine Ew Z2<|Est rfl (N.box (cs := [_, _]) rfl dc rfl)<|fun b3 _ => Ei rfl<|Eu<|Eq_<|D.region (fun j => true) mixed<|Dm 0 rfl<|Df 1 2 fo_Fact_0 i7 rfl (Hz m0 0 rfl)<|D0 3 rfl a3T rfl (fun hA => hA.ro hs)<|Ent.b (fun q8 => ?_)<|fun q8 => ?_
 ·obtain ⟨z1, z2, _, _⟩ := a0N q8
  refine Dm 4 rfl<|Df 5 6 fo_Fact_1 ty_Is rfl (Hz m0 1 rfl)<|Dyp 7 rfl (Y.len us_Is rfl)<|Dm 8 rfl<|Df 9 10 fo_Fact_0 i7 rfl (Hz m0 0 rfl) ?_
  obtain ⟨eb16, eo16, ea16, ei16, eh16⟩ := hs.elemI n8.toNat om
  refine Dyp 11 rfl (z8 us_Is i7 rfl ea16 rfl n8.toNat om om)<|Dy 12 rfl (B4 i7 rfl (eh16 _) rfl)<|Dyp 13 rfl (Y.eql rfl rfl)<|l3 (fun q18 => ?_)<|fun q18 => ?_
  ·refine Dyp 14 rfl (K7 rfl rfl)<|Dm 15 rfl<|Df 16 17 fo_Fact_1 ty_Is rfl (Hz m0 1 rfl)<|D0 18 rfl a8W rfl (fun hA => hA.ro C3)<|Dyp 19 rfl (K7 rfl rfl)<|Dyp 20 rfl (G7 rfl)<|n9 kr<|Et<|E.ret<|Fb rfl rfl (by exact b1p (f := (n8, f9)) q8 (H0 (i := n8) (show n8.toNat < s.length by omega)) q18)
  ·refine Dyp 14 rfl (K7 rfl rfl)<|Dm 15 rfl<|Dsk 16 rfl<|Dsk 17 rfl<|Dsk 18 rfl<|Dyp 19 rfl (L8 rfl rfl)<|Dyp 20 rfl (G7 rfl)<|n9 kr<|Et<|E.ret<|Fb rfl rfl (by exact a9q (H0 (i := n8) (show n8.toNat < s.length by omega)) q18)
 ·refine Dm 4 rfl<|Dsk 5 rfl<|Dsk 6 rfl<|Dsk 7 rfl<|Dsk 8 rfl<|Dsk 9 rfl<|Dsk 10 rfl<|Dsk 11 rfl<|Dsk 12 rfl<|Dsk 13 rfl<|Dyp 14 rfl (L8 rfl rfl)<|Dm 15 rfl<|Dsk 16 rfl<|Dsk 17 rfl<|Dsk 18 rfl<|Dyp 19 rfl (L8 rfl rfl)<|Dyp 20 rfl (G7 rfl)<|n9 kr<|Et<|E.ret<|Fb rfl rfl (by exact a6u q8)
theorem b1J : TB Tryz.prog 101 [.slice a_s m_s c_s, .agg #[.int .i64 n8, .slice E3 I1 E1]] (fun w L => Ro w L eIs [.slice a_s m_s c_s] s ∧ I64 n8 ∧ Ro w L eIs [.slice E3 I1 E1] f9) (O6 s (n8, f9)) := by
 refine Ti2 Tryz.func101 43 rfl fun w L hR => ?_
 obtain ⟨hs, M3, C3⟩ := hR
 obtain ⟨rfl, ls⟩ := hs.slen
 obtain ⟨rfl, a0l⟩ := C3.slen
 refine Ew Z2<|Est rfl (N.box (cs := [_, _]) rfl dc rfl)<|fun b3 _ => Ei rfl<|Eu<|Eq_<|Eq_<|D.region (fun j => true) mixed<|Dm 0 rfl<|D0 1 rfl R6 rfl (fun hA => hA.ro hs)<|Ent.b (fun q7 => ?_)<|fun q7 => ?_
 ·refine Dyp 2 rfl (Y.not (b := true) rfl)<|Dm 3 rfl<|Df 4 5 fo_Fact_0 i7 rfl (Hz m0 0 rfl)<|Dm 6 rfl<|Dyp 7 rfl (Y.len us_Is rfl)<|Dyp 8 rfl (Y.sub rfl rfl om om)<|D0 9 rfl K4 rfl (fun _ => trivial)<|Ent.b (fun q15 => ?_)<|fun q15 => ?_
  ·have y1 : P2 s n8 = true := by rw [P2, q7, q15]; rfl
   obtain ⟨z1, z2, _, _⟩ := a0N y1
   refine Dyp 10 rfl (Y.not (b := true) rfl)<|Dyp 11 rfl (L8 rfl rfl)<|Dm 12 rfl<|Df 13 14 fo_Fact_1 ty_Is rfl (Hz m0 1 rfl)<|Dyp 15 rfl (Y.len us_Is rfl)<|Dm 16 rfl<|Df 17 18 fo_Fact_0 i7 rfl (Hz m0 0 rfl) ?_
   obtain ⟨eb25, eo25, ea25, ei25, eh25⟩ := hs.elemI n8.toNat om
   refine Dyp 19 rfl (z8 us_Is i7 rfl ea25 rfl n8.toNat om om)<|Dy 20 rfl (B4 i7 rfl (eh25 _) rfl)<|Dyp 21 rfl (Y.neq rfl rfl)<|l3 (fun q27 => ?_)<|fun q27 => ?_
   ·refine Dyp 22 rfl (L8 rfl rfl)<|n9 kr<|Et<|r6 rfl<|Ew Z1<|Ei rfl<|Eu<|E.ret<|i9<|Fb rfl rfl (by exact a9q (H0 (i := n8) (show n8.toNat < s.length by omega)) q27)
   ·refine Dyp 22 rfl (L8 rfl rfl)<|n9 kr<|Et<|Cf<|Eq_<|Ew Z1<|Ei rfl<|Eu<|E.block<|Lo (κ := Nat) (fun g => g ≤ f9.length ∧ ∀ x ∈ f9.take g, (!inR x 0 9) = false) (fun g => [(3, .pointer<|some ⟨b3, 0, none⟩), (5, .int .i64 (g : Int))]) (fun g => [pt b3 85 [.int .i64 n8, .slice E3 f9.length E1]]) (fun g => f9.length - g) 0 ⟨by omega, by simp⟩<|fun g pg => ?_
    obtain ⟨pk, pa⟩ := pg
    refine Eq_<|Ew Z5<|Em rfl<|Lz fo_Fact_1 ty_Is rfl m0 rfl<|Yln us_Is rfl<|Ylt rfl<|l3 (fun q33 => ?_)<|fun q33 => ?_
    ·refine Eu<|Ct<|Eq_<|E.block<|Ew Z7<|Lz fo_Fact_1 ty_Is rfl m0 rfl<|Em rfl ?_
     obtain ⟨eb39, eo39, ea39, ei39, eh39⟩ := C3.elemI g om
     refine Il us_Is i7 rfl ea39 g rfl om rfl (eh39 _)<|E0 rfl K4 rfl (fun _ => trivial)<|Ent.b (fun q41 => ?_)<|fun q41 => ?_
     ·refine Yno true rfl<|Eu<|r7 rfl<|v8<|o6<|Et<|Ez Z3<|Em rfl<|Yad rfl om om<|Ei rfl ?_
      exact Eu<|t7 br (g + 1) ⟨rfl, rfl, trivial⟩ (.refl _) ⟨by omega, U7 om pa (by rw [q41]; rfl)⟩ om
     ·refine Yno false rfl<|Eu<|r6 rfl<|Ew Z1<|Ei rfl ?_
      exact Eu<|E.ret<|u6<|i9<|i9<|u6<|i9<|Fb rfl rfl (by exact b4K (by rw [V4, b0h (k := g) (show g < f9.length by omega) (by rw [q41]; rfl)]; rfl))
    ·refine Eu<|r7 rfl<|E.exit<|l4<|l4<|w8<|Et<|Ew Z1<|Ei rfl ?_
     exact Eu<|E.ret<|Fb rfl rfl (by rw [← b1p (f := (n8, f9)) y1 (H0 (i := n8) (show n8.toNat < s.length by omega)) (show (f9.length : Int) = s[n8.toNat] by omega), V4, a8B (show ¬ g < f9.length by omega) pa]; rfl)
  ·refine Dyp 10 rfl (Y.not (b := false) rfl)<|Dyp 11 rfl (L8 rfl rfl)<|Dm 12 rfl<|Dsk 13 rfl<|Dsk 14 rfl<|Dsk 15 rfl<|Dsk 16 rfl<|Dsk 17 rfl<|Dsk 18 rfl<|Dsk 19 rfl<|Dsk 20 rfl<|Dsk 21 rfl<|Dyp 22 rfl (K7 rfl rfl)<|n9 kr<|Et<|r6 rfl<|Ew Z1<|Ei rfl<|Eu<|E.ret<|i9<|Fb rfl rfl (by exact a6u (b6R q15))
 ·refine Dyp 2 rfl (Y.not (b := false) rfl)<|Dm 3 rfl<|Dsk 4 rfl<|Dsk 5 rfl<|Dsk 6 rfl<|Dsk 7 rfl<|Dsk 8 rfl<|Dsk 9 rfl<|Dsk 10 rfl<|Dyp 11 rfl (K7 rfl rfl)<|Dm 12 rfl<|Dsk 13 rfl<|Dsk 14 rfl<|Dsk 15 rfl<|Dsk 16 rfl<|Dsk 17 rfl<|Dsk 18 rfl<|Dsk 19 rfl<|Dsk 20 rfl<|Dsk 21 rfl<|Dyp 22 rfl (K7 rfl rfl)<|n9 kr<|Et<|r6 rfl<|Ew Z1<|Ei rfl<|Eu<|E.ret<|i9<|Fb rfl rfl (by exact a6u (b6a q7))
end Go.Proofs.YthapcdhdfaibkaaGreatDoor
end
section
namespace Go.Proofs.YthapcdhdfaibkaaGreatDoor
open Go.RowKit
set_option linter.all false
set_option maxHeartbeats 2000000
attribute [local irreducible] Nop Yd Yp Ent Has Tr FnP FnP2 Src
variable {t term : Int} {s j9 f8 : List Int} {m_s c_s H1 D5 B6 y5 : Nat} {a_s D4 y4 : Option Addr}
theorem a3q (hz : s.length ≤ 1048576) : TL Tryz.prog 242 [.slice a_s m_s c_s] (fun w L => Ro w L eIs [.slice a_s m_s c_s] s) eIs s := by
 refine Ti1 Tryz.func242 8 rfl fun w L hR => ?_
 have hs := hR
 obtain ⟨rfl, ls⟩ := hs.slen
 refine Ew Z1<|Ei rfl<|Eu<|Eq_<|Ew Z2<|Em rfl<|Ey rfl ((b6p us_Is rfl rfl).yd)<|Ent.b (fun q4 => ?_)<|fun q4 => ?_
 ·refine Eu<|r6 rfl<|Ew Z1<|Ei rfl<|Eu<|E.ret<|i9<|l6 (A := []) (Own.nil (E := Enc.int) (e := tI) (a := none)) rfl<|g9 (congrArg (ow eIs [_]) (show _ = s by (cases a_s with | none => exact hs.none_nil.symm | some x => cases q4)))<|Fg rfl rfl (none, 0, 0) rfl rfl
 ·refine Eu<|Cf<|Ew Z4<|Est rfl (Nb [] [] us_Is i7 rfl rfl)<|fun b5 _ => Ent.drop<|Em rfl<|Est rfl (R1 (E := Enc.int) Plain.int us_Is i7 rfl rfl rfl hs bn bn dc)<|fun p7 _ => Ei rfl<|Eu<|E.ret<|Fg rfl rfl (_, _, _) rfl rfl
theorem b0O {v : Int} : Tr Tryz.prog 234 [.slice a_s m_s c_s, .int .i64 v] (fun w L => Ro w L eIs [.slice a_s m_s c_s] s) [] (κ := Unit) (fun k => True) (fun k => .int .i64 (J0 (fun x => decide (x = v)) s)) (fun k => []) := by
 refine Ti2 Tryz.func234 19 rfl fun w L hR => ?_
 have hs := hR
 obtain ⟨rfl, ls⟩ := hs.slen
 refine Ew Z1<|Ei rfl<|Eu<|Eq_<|Ew Z3<|Em rfl<|Yln us_Is rfl<|Em rfl<|Eu<|E.block<|Lo (κ := Nat) (fun g => g ≤ s.length ∧ ∀ x ∈ s.take g, decide (x = v) = false) (fun g => [(0, .slice a_s s.length c_s), (1, .int .i64 v), (7, .int .i64 (↑s.length : Int)), (8, .int .i64 (g : Int))]) (fun g => []) (fun g => s.length - g) 0 ⟨by omega, by simp⟩<|fun g pg => ?_
 obtain ⟨pk, pa⟩ := pg
 refine Ew Z1<|Ylt rfl<|l3 (fun q9 => ?_)<|fun q9 => ?_
 ·refine Eu<|Eq_<|Ct<|Eq_<|E.block<|Ew Z2<|Em rfl<|Ei rfl<|Ev Z6<|Em rfl<|Em rfl<|Em rfl ?_
  obtain ⟨eb14, eo14, ea14, ei14, eh14⟩ := hs.elemI g om
  refine Il us_Is i7 rfl ea14 g rfl om rfl (eh14 _)<|Yeq rfl<|l3 (fun q16 => ?_)<|fun q16 => ?_
  ·refine Eu<|r6 rfl<|Ew Z2<|Em rfl<|Ei rfl<|Eu<|E.ret<|u6<|i9<|i9<|u6<|i9<|Fg rfl rfl () (congrArg (Value.int .i64) (by exact Q4 (p := fun x => decide (x = v)) om pa (decide_eq_true om))) rfl
  ·refine Eu<|r7 rfl<|v8<|o6<|Et<|Ez Z2<|Yad rfl om om<|Em rfl ?_
   exact Eu<|t7 br (g + 1) rs (.refl _) ⟨by omega, U7 (p := fun x => decide (x = v)) om pa<|decide_eq_false om⟩ om
 ·refine Eu<|Eq_<|r7 rfl<|E.exit<|l4<|l4<|w8<|Et<|Ew Z1<|Ei rfl<|Eu<|E.ret<|Fg rfl rfl () (congrArg (Value.int .i64) (by exact P1 om pa)) rfl
theorem Z0 : TB Tryz.prog 98 [.int .i64 t] (fun w L => True) (inR t 10 17) := by
 refine Ti1 Tryz.func98 5 rfl fun w L hR => Ew Z1<|Ei rfl<|Ev Z3<|Em rfl<|E0 rfl K4 rfl (fun _ => trivial)<|Ei rfl<|Eu<|E.ret<|Fg rfl rfl () rfl rfl
theorem a0Q : TB Tryz.prog 122 [.int .i64 t] (fun w L => True) (inR t 10 17) := by
 refine Ti1 Tryz.func122 5 rfl fun w L hR => Ew Z1<|Ei rfl<|Ev Z3<|Em rfl<|E0 rfl O9 rfl (fun _ => trivial)<|Ei rfl<|Eu<|E.ret<|Fg rfl rfl () rfl rfl
theorem a3e : Tr Tryz.prog 297 [.agg #[.slice D4 H1 D5, .slice y4 B6 y5], .int .i64 t] (fun w L => Ro w L eIs [.slice D4 H1 D5] j9 ∧ Ro w L eIs [.slice y4 B6 y5] f8) [] (κ := Unit) (fun k => True) (fun k => .int .i64 (J0 (fun x => decide (x = t)) (j9.take (min j9.length f8.length)))) (fun k => []) := by
 refine Ti2 Tryz.func297 17 rfl fun w L hR => ?_
 obtain ⟨C7, w9⟩ := hR
 obtain ⟨rfl, a0f⟩ := C7.slen
 obtain ⟨rfl, Q7⟩ := w9.slen
 refine Ew Z2<|Est rfl (N.box (cs := [_, _]) rfl dc rfl)<|fun b2 _ => Ei rfl<|Ev Z13<|Lz fo_Binding_0 ty_Is rfl m0 rfl<|Lz fo_Binding_0 ty_Is rfl m0 rfl<|Yln us_Is rfl<|Lz fo_Binding_1 ty_Is rfl m0 rfl<|Yln us_Is rfl<|Ey rfl ((c1p (a := j9.length) (b := f8.length) rfl rfl).yd) ?_
 have rs14 := C7.upto (min j9.length f8.length) om
 have rl14 := rs14.slen.1
 have rc14 := C7.cap
 refine Ey rfl ((a3Q (h := min j9.length f8.length) us_Is i7 rfl rfl om).yd)<|Em rfl<|E0 rfl b0O rfl (fun hA => hA.ro rs14)<|Ei rfl<|Eu<|E.ret<|Fg rfl rfl () rfl rfl
theorem a0L : Tr Tryz.prog 195 [.agg #[.slice D4 H1 D5, .slice y4 B6 y5], .int .i64 term] (fun w L => Ro w L eIs [.slice D4 H1 D5] j9 ∧ Ro w L eIs [.slice y4 B6 y5] f8) [] (κ := Unit) (fun k => True) (fun k => .int .i64 (F6 (j9, f8) term)) (fun k => []) := by
 refine Ti2 Tryz.func195 20 rfl fun w L hR => ?_
 obtain ⟨C7, w9⟩ := hR
 obtain ⟨rfl, a0f⟩ := C7.slen
 obtain ⟨rfl, Q7⟩ := w9.slen
 refine Ew Z2<|Est rfl (N.box (cs := [_, _]) rfl dc rfl)<|fun b2 _ => Ei rfl<|Eu<|Eq_<|Ew Z3<|Em rfl<|E0 rfl a0Q rfl (fun _ => trivial)<|Ent.b (fun q7 => ?_)<|fun q7 => ?_
 ·refine Yno true rfl<|Eu<|Cf<|Ew Z4<|Ey rfl (k7 (cs := [_, _]) ty_Binding rfl (Has.pt m0) rfl)<|Em rfl<|E0 rfl a3e rfl (fun hA => ⟨hA.ro C7, hA.ro w9⟩)<|Ei rfl<|Eu<|Eq_<|Ew Z2<|Em rfl<|Ylt rfl<|l3 (fun q14 => ?_)<|fun q14 => ?_
  ·refine Eu<|r6 rfl<|Ew Z1<|Ei rfl<|Eu<|E.ret<|i9<|Fg rfl rfl () (congrArg (Value.int .i64) (by exact b2F q7 q14)) rfl
  ·obtain ⟨z1, z2⟩ := a7H q14
   rw [List.length_take] at z2
   refine Eu<|Cf<|Ew Z6<|Lz fo_Binding_1 ty_Is rfl m0 rfl<|Em rfl ?_
   obtain ⟨eb18, eo18, ea18, ei18, eh18⟩ := w9.elemI ((J0 (fun x => decide (x = term)) (j9.take (min j9.length f8.length))).toNat) om
   refine Il us_Is i7 rfl ea18 ((J0 (fun x => decide (x = term))<|j9.take<|min j9.length f8.length).toNat) om om rfl (eh18 _)<|Ei rfl<|Eu<|E.ret<|Fg rfl rfl () (congrArg (Value.int .i64) (by exact b6z (b := (j9, f8)) q7 q14 (show (J0 (fun x => decide (x = term))<|j9.take<|min j9.length f8.length).toNat < f8.length by omega))) rfl
 ·refine Yno false rfl<|Eu<|r6 rfl<|Ew Z2<|Em rfl<|Ei rfl<|Eu<|E.ret<|i9<|Fg rfl rfl () (congrArg (Value.int .i64) (by exact a0c q7)) rfl
theorem a2l : Tr Tryz.prog 207 [.agg #[.slice D4 H1 D5, .slice y4 B6 y5], .int .i64 term] (fun w L => Ro w L eIs [.slice D4 H1 D5] j9 ∧ Ro w L eIs [.slice y4 B6 y5] f8) [] (κ := Unit) (fun k => True) (fun k => .int .i64 (F6 (j9, f8) term)) (fun k => []) := by
 refine Ti2 Tryz.func207 36 rfl fun w L hR => ?_
 obtain ⟨C7, w9⟩ := hR
 obtain ⟨rfl, a0f⟩ := C7.slen
 obtain ⟨rfl, Q7⟩ := w9.slen
 refine Ew Z2<|Est rfl (N.box (cs := [_, _]) rfl dc rfl)<|fun b2 _ => Ei rfl<|Eu<|Eq_<|Ew Z3<|Em rfl<|E0 rfl Z0 rfl (fun _ => trivial)<|Ent.b (fun q7 => ?_)<|fun q7 => ?_
 ·refine Yno true rfl<|Eu<|Cf<|Eq_<|Ew Z1<|Ei rfl<|Eu<|E.block<|Lo (κ := Nat) (fun g => (g ≤ j9.length ∧ g ≤ f8.length) ∧ ∀ x ∈ j9.take g, decide (x = term) = false) (fun g => [(1, .int .i64 term), (2, .pointer<|some ⟨b2, 0, none⟩), (5, .int .i64 (g : Int))]) (fun g => [pt b2 114 [.slice D4 j9.length D5, .slice y4 f8.length y5]]) (fun g => j9.length - g) 0 ⟨by omega, by simp⟩<|fun g pg => ?_
  obtain ⟨pk, pa⟩ := pg
  refine Eq_<|Ew Z12<|Em rfl<|Lz fo_Binding_0 ty_Is rfl m0 rfl<|Yln us_Is rfl<|Ylt rfl<|l3 (fun q14 => ?_)<|fun q14 => ?_
  ·refine Em rfl<|Em rfl<|Lz fo_Binding_1 ty_Is rfl m0 rfl<|Yln us_Is rfl<|Ylt rfl<|l3 (fun q20 => ?_)<|fun q20 => ?_
   ·refine Ypt rfl<|Eu<|Ct<|Eq_<|E.block<|Ew Z7<|Lz fo_Binding_0 ty_Is rfl m0 rfl<|Em rfl ?_
    obtain ⟨eb27, eo27, ea27, ei27, eh27⟩ := C7.elemI g om
    refine Il us_Is i7 rfl ea27 g rfl om rfl (eh27 _)<|Em rfl<|Yeq rfl<|l3 (fun q30 => ?_)<|fun q30 => ?_
    ·refine Eu<|r6 rfl<|Ew Z6<|Lz fo_Binding_1 ty_Is rfl m0 rfl<|Em rfl ?_
     obtain ⟨eb34, eo34, ea34, ei34, eh34⟩ := w9.elemI g om
     refine Il us_Is i7 rfl ea34 g rfl om rfl (eh34 _)<|Ei rfl<|Eu<|E.ret<|u6<|i9<|i9<|u6<|i9<|Fg rfl rfl () (congrArg (Value.int .i64) (by exact a6k (b := (j9, f8)) q7 (show g < j9.length by omega) (show g < f8.length by omega) om pa)) rfl
    ·refine Eu<|r7 rfl<|v8<|o6<|Et<|Ez Z3<|Em rfl<|Yad rfl om om<|Ei rfl ?_
     exact Eu<|t7 br (g + 1) rs (.refl _) ⟨by omega, U7 (p := fun x => decide (x = term)) (show g < j9.length by omega) pa<|decide_eq_false q30⟩ om
   ·refine Ypt rfl<|Eu<|r7 rfl<|E.exit<|l4<|l4<|w8<|Et<|Ew Z1<|Ei rfl<|Eu<|E.ret<|Fg rfl rfl () (congrArg (Value.int .i64) (by exact b0S (b := (j9, f8)) q7 (g := g) (show ¬ (g < j9.length ∧ g < f8.length) by omega) pa)) rfl
  ·refine Em rfl<|Es rfl<|Es rfl<|Es rfl<|Es rfl<|Es rfl<|Ypf rfl<|Eu<|r7 rfl<|E.exit<|l4<|l4<|w8<|Et<|Ew Z1<|Ei rfl<|Eu<|E.ret<|Fg rfl rfl () (congrArg (Value.int .i64) (by exact b0S (b := (j9, f8)) q7 (g := g) (show ¬ (g < j9.length ∧ g < f8.length) by omega) pa)) rfl
 ·refine Yno false rfl<|Eu<|r6 rfl<|Ew Z2<|Em rfl<|Ei rfl<|Eu<|E.ret<|i9<|Fg rfl rfl () (congrArg (Value.int .i64) (by exact a0c q7)) rfl
theorem b0u {y9 : Option Addr} {D9 y8 : Nat} {j8 : List Int} {v7 : Option Addr} {C6 v6 : Nat} {d4 : List IL} (hz : j8.length ≤ 1048576) : TL Tryz.prog 202 [.agg #[.slice y9 D9 y8, .slice v7 C6 v6], .agg #[.slice D4 H1 D5, .slice y4 B6 y5]] (fun w L => Ro w L eIs [.slice y9 D9 y8] j8 ∧ Ro w L B1 [.slice v7 C6 v6] d4 ∧ Ro w L eIs [.slice D4 H1 D5] j9 ∧ Ro w L eIs [.slice y4 B6 y5] f8) eIs (j8.map (F6 (j9, f8))) := by
 refine Ti2 Tryz.func202 24 rfl fun w L hR => ?_
 obtain ⟨C0, z7, C7, w9⟩ := hR
 obtain ⟨rfl, W8⟩ := C0.slen
 obtain ⟨rfl, U3⟩ := z7.slen
 obtain ⟨rfl, a0f⟩ := C7.slen
 obtain ⟨rfl, Q7⟩ := w9.slen
 have jv := a7h (b := (j9, f8)) (l := j8) C0.i64 C7.i64 w9.i64
 refine Ew Z3<|Est rfl (N.box (cs := [_, _]) rfl dc rfl)<|fun b2 _ => Est rfl (N.box (cs := [_, _]) rfl dc rfl)<|fun b3 _ => Ei rfl<|Ev Z2<|Est rfl (Nb [] [] us_Is i7 rfl rfl)<|fun b8 _ => Ent.drop<|Ei rfl<|Eu<|Eq_<|Ew Z4<|Lz fo_Query_0 ty_Is rfl (mS m0) rfl<|Yln us_Is rfl<|Em rfl<|Eu<|E.block<|l6 (A := []) (Own.nil (E := Enc.int) (e := tI) (a := (some ⟨b8, 0, none⟩))) rfl<|g9 (congrArg (ow eIs [_]) (show _ = (j8.take 0).map (F6 (j9, f8)) from by first | rfl | (simp; done) | grind [d1, d2, t1, t2]))<|Lo (κ := Nat × SL) (fun g => g.1 ≤ j8.length ∧ True) (fun g => [(3, .pointer<|some ⟨b3, 0, none⟩), (5, .slice g.2.1 g.2.2.1 g.2.2.2), (10, .slice y9 j8.length y8), (11, .int .i64 (↑j8.length : Int)), (12, .int .i64 (↑g.1 : Int))]) (fun g => [ow eIs [.slice g.2.1 g.2.2.1 g.2.2.2]<|(j8.take g.1).map (F6 (j9, f8)), pt b3 114 [.slice D4 j9.length D5, .slice y4 f8.length y5], pt b2 28 [.slice y9 j8.length y8, .slice v7 d4.length v6]]) (fun g => j8.length - g.1) (0, (some ⟨b8, 0, none⟩), 0, 0) ⟨Nat.zero_le _, by simp⟩<|fun g pg => ?_
 obtain ⟨g, aA0_0, mA0_0, cA0_0⟩ := g
 try dsimp only at pg
 try dsimp only
 obtain ⟨pk, pa⟩ := pg
 refine r8 m0 ?_
 rintro rfl laA0_0
 refine Ew Z1<|Ylt rfl<|l3 (fun q13 => ?_)<|fun q13 => ?_
 ·obtain ⟨eb14, eo14, ea14, ei14, eh14⟩ := C0.elemI g om
  refine Eu<|Eq_<|Ct<|Eq_<|E.block<|Ew Z3<|Il us_Is i7 rfl ea14 g rfl om rfl (eh14 _)<|Ei rfl<|Eu<|Ez Z7<|Em rfl<|Ey rfl (k7 (cs := [_, _]) ty_Binding rfl (Has.pt<|mS m0) rfl)<|Em rfl<|E0 rfl a0L rfl (fun hA => ⟨hA.ro C7, hA.ro w9⟩)<|Est rfl (Nb [_] [_] us_Is i7 rfl rfl)<|fun b20 _ => f5<|Est rfl (B0 (E := Enc.int) (ex := F6 (j9, f8) j8[g]) us_Is i7 rfl rfl rfl (Own.int i6) rfl bn bn dc)<|fun p21 _ => Ei rfl<|En<|o6<|Et<|Ez Z2<|Yad rfl om om<|Em rfl<|Eu<|g9 (congrArg (ow eIs [_]) (show _ = (j8.take<|g + 1).map (F6 (j9, f8)) from by grind [d1, d2, t1, t2]))<|i8<|i8<|i8 ?_
  exact Ea (g + 1, p21.1, (((j8.take g).map (F6 (j9, f8))).length + 1), p21.2) ⟨oz, trivial⟩
 ·refine Eu<|Eq_<|r7 rfl<|E.exit<|l4<|l4<|w8<|Et<|Ew Z2<|Em rfl<|Ei rfl<|Eu<|E.ret<|g9 (congrArg (ow eIs [_]) (show _ = j8.map (F6 (j9, f8)) by grind [d1, d2, t1, t2]))<|Fg rfl rfl (_, _, _) rfl rfl
end Go.Proofs.YthapcdhdfaibkaaGreatDoor
end
