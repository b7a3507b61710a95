import Derived.Test.YthapcdhdfaibkaaGreatDoorT86
import Derived.Test.YthapcdhdfaibkaaGreatDoorGg
namespace Go.Proofs.YthapcdhdfaibkaaGreatDoor
open Go.RowKit
set_option linter.all false
set_option maxHeartbeats 2000000
attribute [local irreducible] Nop Yd Yp Ent Has Tr FnP FnP2 Src M5 U1 V6 W3 G3
theorem a6Q {D4 : Option Addr} {H1 D5 : Nat} {j9 : List Int} {y4 : Option Addr} {B6 y5 : Nat} {f8 : List Int} {b_l : Nat} {a_l : Option Addr} {m_l c_l : Nat} {l : List (Int × List Int × Int × Int × Int)} {b_methods : Nat} {a_methods : Option Addr} {m_methods c_methods : Nat} {methods : List Int} {b_i0 : Nat} {i0 : Int} {b_n : Nat} {Y8 : Int} {b1s : Option Addr} {b1t b1u : Nat} {R2 : List Int} {b_r : Nat} {a_r_Answers : Option Addr} {m_r_Answers c_r_Answers : Nat} {a7Y : Option Addr} {b4m a7Z : Nat} {a5j : List IL} {a_r_Got : Option Addr} {m_r_Got c_r_Got : Nat} {b3m : Int} {b_facts : Nat} {a_facts : Option Addr} {m_facts c_facts : Nat} {d6 : List IL} {s : List Int} (hk : 0 ≤ i0 ∧ i0.toNat < methods.length) (ho : S8 s l (at0 methods i0, R0 (atM l (at0 methods i0)) (Y8, R2) (j9, f8)) = true) (hof : F1 s d6 = true) (hin : ∀ i ∈ (atM l (at0 methods i0)).2.1, 0 ≤ i ∧ i.toNat < R2.length) (hi3 : (atM l (at0 methods i0)).2.1.length ≤ 1000) (hnt : R2.length ≤ 1048576) (hlg : a5j.length ≤ 1000000000) (hn64 : I64 Y8) : Tr Tryz.prog 75 [.agg #[.slice D4 H1 D5, .slice y4 B6 y5], .pointer (some ⟨b_l, 0, none⟩), .pointer (some ⟨b_methods, 0, none⟩), .pointer (some ⟨b_i0, 0, none⟩), .pointer (some ⟨b_n, 0, none⟩), .pointer (some ⟨b_r, 0, none⟩), .pointer (some ⟨b_facts, 0, none⟩)] (fun w L => Ro w L eIs [.slice D4 H1 D5] j9 ∧ Ro w L eIs [.slice y4 B6 y5] f8 ∧ RoPt w L b_l [.slice a_l m_l c_l] ∧ Ro w L G0 [.slice a_l m_l c_l] l ∧ RoPt w L b_methods [.slice a_methods m_methods c_methods] ∧ Ro w L eIs [.slice a_methods m_methods c_methods] methods ∧ RoPt w L b_i0 [.int .i64 i0] ∧ RoPt w L b_n [.int .i64 Y8, .slice b1s b1t b1u] ∧ Ro w L eIs [.slice b1s b1t b1u] R2 ∧ RoPt w L b_facts [.slice a_facts m_facts c_facts] ∧ Ro w L s5 [.slice a_facts m_facts c_facts] d6) [pt b_r 102 [.slice a_r_Answers m_r_Answers c_r_Answers, .slice a7Y b4m a7Z, .slice a_r_Got m_r_Got c_r_Got, .int .i64 b3m], ow z6 [.slice a7Y b4m a7Z] a5j] (κ := SL) (fun k => True) (fun k => .bool (N9 (m6 l d6 (at0 methods i0, R0 (atM l (at0 methods i0)) (Y8, R2) (j9, f8))) (O8 (Y8, R2) (j9, f8)))) (fun k => [ow z6 [.slice k.1 k.2.1 k.2.2] (a3R (at0 methods i0, R0 (atM l (at0 methods i0)) (Y8, R2) (j9, f8)) a5j), pt b_r 102 [.slice a_r_Answers m_r_Answers c_r_Answers, .slice k.1 k.2.1 k.2.2, .slice a_r_Got m_r_Got c_r_Got, .int .i64 b3m]]) := by
 refine Ti7 Tryz.func75 37 rfl fun w L hR => ?_
 obtain ⟨C7, w9, hb_l, hl, hb_methods, hmethods, hb_i0, hb_n, a4B, hb_facts, hfacts⟩ := hR
 obtain ⟨rfl, a0f⟩ := C7.slen
 obtain ⟨rfl, Q7⟩ := w9.slen
 obtain ⟨rfl, ll⟩ := hl.slen
 obtain ⟨rfl, lmethods⟩ := hmethods.slen
 obtain ⟨rfl, c2o⟩ := a4B.slen
 obtain ⟨rfl, lfacts⟩ := hfacts.slen
 refine r8 (mS m0) ?_
 rintro rfl c2I
 have em : at0 methods i0 = methods[i0.toNat] := H0 hk.2
 rw [em] at ho hin hi3
 have em64 : I64 methods[i0.toNat] := hmethods.i64 _ (List.getElem_mem hk.2)
 refine Ew Z2<|Est rfl (N.box (cs := [_, _]) rfl dc rfl)<|fun b7 _ => Ei rfl<|Eu<|Eq_<|a1X (κ := Nat × Option Addr × Nat) (fun _ => True) (fun kM => [(1, .pointer<|some ⟨b_l, 0, none⟩), (4, .pointer<|some ⟨b_n, 0, none⟩), (5, .pointer<|some ⟨b_r, 0, none⟩), (6, .pointer<|some ⟨b_facts, 0, none⟩), (7, .pointer<|some ⟨b7, 0, none⟩), (9, .pointer<|some ⟨kM.1, 0, none⟩)]) (fun kM => [pt kM.1 105 [.int .i64 methods[i0.toNat], .slice kM.2.1 (R0 (atM l methods[i0.toNat]) (Y8, R2) (j9, f8)).length kM.2.2], ow eIs [.slice kM.2.1 (R0 (atM l methods[i0.toNat]) (Y8, R2) (j9, f8)).length kM.2.2]<|R0 (atM l methods[i0.toNat]) (Y8, R2) (j9, f8), pt b7 114 [.slice D4 j9.length D5, .slice y4 f8.length y5], pt b_r 102 [.slice a_r_Answers m_r_Answers c_r_Answers, .slice a7Y a5j.length a7Z, .slice a_r_Got m_r_Got c_r_Got, .int .i64 b3m], ow z6 [.slice a7Y a5j.length a7Z] a5j]) ?_<|fun kM _ => ?_
 ·refine D.region (fun j => !(Nat.beq j 9)) mixed<|Dy 0 rfl (B4 ty_Methods rfl (hb_l.has) rfl)<|Dy 1 rfl (B4 ty_Is rfl (hb_methods.has) rfl)<|Dy 2 rfl (B4 i7 rfl (hb_i0.has) rfl) ?_
  obtain ⟨eb13, eo13, ea13, ei13, eh13⟩ := hmethods.elemI i0.toNat om
  refine Dyp 3 rfl (z8 us_Is i7 rfl ea13 rfl i0.toNat om om)<|Dy 4 rfl (B4 i7 rfl (eh13 _) rfl)<|Dy 5 rfl (k7 (cs := [_, _]) ty_Atom rfl (hb_n.has) rfl)<|Dy 6 rfl (k7 (cs := [_, _]) ty_Binding rfl (Has.pt m0) rfl)<|a4c (i := 7) (j := 8) kr ?_ ?_
  ·refine a1R 7 rfl rfl (fun _ => rfl) (N.call (a1C (T5 ho).2.1 hin hi3) rfl rfl rfl dc rfl<|fun w Lp hA => ⟨hA.ro hl, i6, hA.ro a4B, hA.ro C7, hA.ro w9⟩)<|fun k17 _ => ?_
   obtain ⟨a17, m17, c17⟩ := k17
   refine r8 m0 ?_
   rintro rfl l17
   refine E7 8 rfl rfl kr (fun _ => rfl) (N.alloc ty_Access dc)<|fun b9 _ => E7 9 rfl rfl kr (fun h => by cases h) (Ns [_, _] ty_Access rfl)<|fun _ _ => n9 kr<|s4<|s4<|s4<|s4<|s4<|U4 (b9, a17, c17) trivial ⟨rfl, rfl, rfl, rfl, rfl, rfl, trivial⟩<|.refl _
  ·refine a1R 8 rfl rfl (fun _ => rfl) (N.alloc ty_Access dc)<|fun b9 _ => E7 7 rfl rfl kr (fun _ => rfl) (N.call (a1C (T5 ho).2.1 hin hi3) rfl rfl rfl dc rfl<|fun w Lp hA => ⟨hA.ro hl, i6, hA.ro a4B, hA.ro C7, hA.ro w9⟩)<|fun k17 _ => ?_
   obtain ⟨a17, m17, c17⟩ := k17
   refine r8 m0 ?_
   rintro rfl l17
   refine f5<|E7 9 rfl rfl kr (fun h => by cases h) (Ns [_, _] ty_Access rfl)<|fun _ _ => n9 kr<|s4<|s4<|s4<|s4<|s4<|U4 (b9, a17, c17) trivial ⟨rfl, rfl, rfl, rfl, rfl, rfl, trivial⟩<|.refl _
 ·obtain ⟨b9, a17, c17⟩ := kM
  try dsimp only
  refine Et<|Eq_<|Ew Z5<|Lz fo_Run_1 ty_Accesss rfl (mS<|mS<|mS m0) rfl<|Ey rfl (k7 (cs := [_, _]) ty_Access rfl (Has.pt m0) rfl)<|E0 rfl a4n rfl (fun hA => ⟨hA.ow<|mS<|mS<|mS<|mS m0, em64, hA.ow<|mS m0⟩)<|Ent.b (fun q21 => ?_)<|fun q21 => ?_
  ·refine Yno true rfl<|Eu<|Cf<|Eq_<|D.region (fun j => true) mixed<|Dy 0 rfl (B4 ty_Methods rfl (hb_l.has) rfl)<|Dy 1 rfl (B4 ty_Facts rfl (hb_facts.has) rfl)<|Dy 2 rfl (k7 (cs := [_, _]) ty_Access rfl (Has.pt m0) rfl)<|Dy 4 rfl (k7 (cs := [_, _]) ty_Atom rfl (hb_n.has) rfl)<|Dy 5 rfl (k7 (cs := [_, _]) ty_Binding rfl (Has.pt<|mS<|mS m0) rfl)<|Dl 3 rfl (a3B (T5 ho).2.1 (Nat.le_of_eq (T5 ho).2.2.1.symm) (a7w ho hof) (Nat.le_trans (G4 hof).1 dc)<|fun f hf => Nat.le_trans (W7<|(G4 hof).2 f hf) dc) rfl (fun hA => ⟨hA.ro hl, hA.ro hfacts, em64, hA.ow<|mS m0⟩)<|fun a32 c32 l32 => E7 6 rfl rfl kr (fun _ => rfl) (N.call (a3S hnt) rfl rfl rfl dc rfl<|fun w Lp hA => ⟨i6, hA.ro a4B, hA.ro C7, hA.ro w9⟩)<|fun k35 _ => ?_
   obtain ⟨a35, m35, c35⟩ := k35
   refine r8 m0 ?_
   rintro rfl l35
   refine D0 7 rfl a2k rfl (fun hA => ⟨hA.ow<|mS m0, i6, hA.ow m0⟩)<|Dyp 8 rfl (G7 rfl)<|n9 kr<|Et<|E.ret<|w7<|g9 (congrArg (ow z6 [_]) (show _ = a3R (at0 methods i0, R0 (atM l<|at0 methods i0) (Y8, R2) (j9, f8)) a5j by first | (rw [em]; rfl) | (rw [em]; exact a7k q21) | (rw [em]; exact a7q q21)))<|w7<|f5 ?_
   exact Fg rfl rfl (_, _, _) (by rw [show (N9 (m6 l d6 (at0 methods i0, R0 (atM l<|at0 methods i0) (Y8, R2) (j9, f8)))<|O8 (Y8, R2) (j9, f8)) = (N9 (d6.filter<|W5 (atM l methods[i0.toNat])<|R0 (atM l methods[i0.toNat]) (Y8, R2) (j9, f8)) (((O8 (Y8, R2) (j9, f8)).1), ((O8 (Y8, R2) (j9, f8)).2))) from (by first | (rw [em]; rfl) | (rw [em]; exact a7k q21) | (rw [em]; exact a7q q21))]; try rfl) rfl
  ·refine Yno false rfl<|Eu<|r6 rfl<|Ez Z7<|Lz fo_Run_1 ty_Accesss rfl (mS<|mS<|mS m0) rfl<|Ey rfl (k7 (cs := [_, _]) ty_Access rfl (Has.pt m0) rfl)<|Est rfl (Nb [_] [_, _] us_Accesss ty_Access rfl rfl)<|fun b26 _ => y7<|Est rfl (b4q (E := T3) (ex := (methods[i0.toNat], R0 (atM l methods[i0.toNat]) (Y8, R2) (j9, f8))) (ce := [_, _]) us_Accesss ty_Access rfl rfl rfl rfl rfl rfl bn bn dc)<|fun p27 _ => Ey rfl ((C2 fo_Run_1 ty_Accesss dc rfl).yd)<|s4<|Est rfl (Ns [_, _, _, _] ty_Accesss rfl)<|fun _ _ => Eu<|Eq_<|D.region (fun j => true) mixed<|Dy 0 rfl (B4 ty_Methods rfl (hb_l.has) rfl)<|Dy 1 rfl (B4 ty_Facts rfl (hb_facts.has) rfl)<|Dy 2 rfl (k7 (cs := [_, _]) ty_Access rfl (Has.pt<|mS<|mS m0) rfl)<|Dy 4 rfl (k7 (cs := [_, _]) ty_Atom rfl (hb_n.has) rfl)<|Dy 5 rfl (k7 (cs := [_, _]) ty_Binding rfl (Has.pt<|mS<|mS<|mS<|mS m0) rfl)<|Dl 3 rfl (a3B (T5 ho).2.1 (Nat.le_of_eq (T5 ho).2.2.1.symm) (a7w ho hof) (Nat.le_trans (G4 hof).1 dc)<|fun f hf => Nat.le_trans (W7<|(G4 hof).2 f hf) dc) rfl (fun hA => ⟨hA.ro hl, hA.ro hfacts, em64, hA.ow<|mS<|mS<|mS m0⟩)<|fun a32 c32 l32 => E7 6 rfl rfl kr (fun _ => rfl) (N.call (a3S hnt) rfl rfl rfl dc rfl<|fun w Lp hA => ⟨i6, hA.ro a4B, hA.ro C7, hA.ro w9⟩)<|fun k35 _ => ?_
   obtain ⟨a35, m35, c35⟩ := k35
   refine r8 m0 ?_
   rintro rfl l35
   refine D0 7 rfl a2k rfl (fun hA => ⟨hA.ow<|mS m0, i6, hA.ow m0⟩)<|Dyp 8 rfl (G7 rfl)<|n9 kr<|Et<|E.ret<|y7<|s4<|a7L (a1s (x := (methods[i0.toNat], R0 (atM l methods[i0.toNat]) (Y8, R2) (j9, f8))) em64 Own.ow) rfl rfl<|g9 (congrArg (ow z6 [_]) (show _ = a3R (at0 methods i0, R0 (atM l<|at0 methods i0) (Y8, R2) (j9, f8)) a5j by first | (rw [em]; rfl) | (rw [em]; exact a7k q21) | (rw [em]; exact a7q q21)))<|a4G<|f5 ?_
   exact Fg rfl rfl (_, _, _) (by rw [show (N9 (m6 l d6 (at0 methods i0, R0 (atM l<|at0 methods i0) (Y8, R2) (j9, f8)))<|O8 (Y8, R2) (j9, f8)) = (N9 (d6.filter<|W5 (atM l methods[i0.toNat])<|R0 (atM l methods[i0.toNat]) (Y8, R2) (j9, f8)) (((O8 (Y8, R2) (j9, f8)).1), ((O8 (Y8, R2) (j9, f8)).2))) from (by first | (rw [em]; rfl) | (rw [em]; exact a7k q21) | (rw [em]; exact a7q q21))]; try rfl) rfl
end Go.Proofs.YthapcdhdfaibkaaGreatDoor
