import Derived.Shelf.LaysM
import Derived.Shelf.Strconv.Itoa3
import Derived.KernelRfl
import Derived.Lib.LaidTab
import Derived.Stop.LaidErr
import Derived.Test.YthapcdhdfaibkaaGreatDoorT60
import Derived.Test.YthapcdhdfaibkaaGreatDoorT8
section
namespace Go.Proofs.YthapcdhdfaibkaaGreatDoor
open Go.Shelf
def b4d : Ren := ⟨fun | 171 => 280 | 243 => 340 | 246 => 373 | 283 => 382 | 284 => 383 | 285 => 384 | 286 => 385 | 129 => 364 | 317 => 389 | 318 => 390 | 319 => 391 | 320 => 392 | 337 => 393 | 338 => 394 | n => n, fun | 3 => 3 | 9 => 9 | 2 => 2 | 4 => 4 | 171 => 339 | 0 => 0 | 53 => 327 | 37 => 22 | 5 => 5 | 173 => 341 | 212 => 349 | 51 => 325 | 20 => 20 | 213 => 350 | 46 => 292 | 232 => 351 | 233 => 352 | n => n, fun | 17 => 1 | 18 => 2 | 19 => 3 | n => n⟩
theorem b6d : LaysM.n171 Tryz.prog b4d := { mixed := by kernel_rfl, f129 := Eq.trans Tryz.func364 (congrArg some (by kernel_rfl)), f171 := Eq.trans Tryz.func280 (congrArg some (by kernel_rfl)), f243 := Eq.trans Tryz.func340 (congrArg some (by kernel_rfl)), f246 := Eq.trans Tryz.func373 (congrArg some (by kernel_rfl)), f283 := Eq.trans Tryz.func382 (congrArg some (by kernel_rfl)), f284 := Eq.trans Tryz.func383 (congrArg some (by kernel_rfl)), f285 := Eq.trans Tryz.func384 (congrArg some (by kernel_rfl)), f286 := Eq.trans Tryz.func385 (congrArg some (by kernel_rfl)), f317 := Eq.trans Tryz.func389 (congrArg some (by kernel_rfl)), f318 := Eq.trans Tryz.func390 (congrArg some (by kernel_rfl)), f319 := Eq.trans Tryz.func391 (congrArg some (by kernel_rfl)), f320 := Eq.trans Tryz.func392 (congrArg some (by kernel_rfl)), f337 := Eq.trans Tryz.func393 (congrArg some (by kernel_rfl)), f338 := Eq.trans Tryz.func394 (congrArg some (by kernel_rfl)), t0 := Tryz.underlying0, a0 := Tryz.isAgg0, z0 := Tryz.sizeOf0, v0 := Tryz.zeroValue0, t2 := Tryz.underlying2, a2 := Tryz.isAgg2, z2 := Tryz.sizeOf2, v2 := Tryz.zeroValue2, t3 := Tryz.underlying3, a3 := Tryz.isAgg3, z3 := Tryz.sizeOf3, v3 := Tryz.zeroValue3, t4 := Tryz.underlying4, a4 := Tryz.isAgg4, z4 := Tryz.sizeOf4, v4 := Tryz.zeroValue4, t5 := Tryz.underlying5, a5 := Tryz.isAgg5, z5 := Tryz.sizeOf5, v5 := Tryz.zeroValue5, t9 := Tryz.underlying9, a9 := Tryz.isAgg9, z9 := Tryz.sizeOf9, v9 := Tryz.zeroValue9, t20 := Tryz.underlying20, a20 := Tryz.isAgg20, z20 := Tryz.sizeOf20, v20 := Tryz.zeroValue20, t37 := Tryz.underlying22, a37 := Tryz.isAgg22, z37 := Tryz.sizeOf22, v37 := Tryz.zeroValue22, t46 := Tryz.underlying292, a46 := Tryz.isAgg292, z46 := Tryz.sizeOf292, v46 := Tryz.zeroValue292, t51 := Tryz.underlying325, a51 := Tryz.isAgg325, z51 := Tryz.sizeOf325, v51 := Tryz.zeroValue325, t53 := Tryz.underlying327, a53 := Tryz.isAgg327, z53 := Tryz.sizeOf327, v53 := Tryz.zeroValue327, t171 := Tryz.underlying339, a171 := Tryz.isAgg339, z171 := Tryz.sizeOf339, v171 := Tryz.zeroValue339, t173 := Tryz.underlying341, a173 := Tryz.isAgg341, z173 := Tryz.sizeOf341, v173 := Tryz.zeroValue341, t212 := Tryz.underlying349, a212 := Tryz.isAgg349, z212 := Tryz.sizeOf349, v212 := Tryz.zeroValue349, t213 := Tryz.underlying350, a213 := Tryz.isAgg350, z213 := Tryz.sizeOf350, t232 := Tryz.underlying351, a232 := Tryz.isAgg351, z232 := Tryz.sizeOf351, v232 := Tryz.zeroValue351, t233 := Tryz.underlying352, a233 := Tryz.isAgg352, z233 := Tryz.sizeOf352, v233 := Tryz.zeroValue352, g17 := by kernel_rfl, g18 := by kernel_rfl, g19 := by kernel_rfl, i0 := by kernel_rfl, i2 := by kernel_rfl, i3 := by kernel_rfl, i4 := by kernel_rfl, i5 := by kernel_rfl, i9 := by kernel_rfl, i20 := by kernel_rfl, i37 := by kernel_rfl, i46 := by kernel_rfl, i51 := by kernel_rfl, i53 := by kernel_rfl, i171 := by kernel_rfl, i173 := by kernel_rfl, i212 := by kernel_rfl, i232 := by kernel_rfl, i233 := by kernel_rfl, m17 := by kernel_rfl, m18 := by kernel_rfl, m19 := by kernel_rfl }
end Go.Proofs.YthapcdhdfaibkaaGreatDoor
end
section
namespace Go.Proofs.YthapcdhdfaibkaaGreatDoor
open Go.RowKit Go.Shelf
set_option linter.unusedVariables false
abbrev b1d : List Value := Lib.pow10Tab.map fun z => Value.int .u64 z
abbrev a9r : Nat := 1
theorem b7x : Tryz.prog.globalNamed "internal/strconv.uint64pow10" = some a9r := by kernel_rfl
theorem b8A {w : World} {L : List Nat} (h : RoPt w L a9r b1d) : Lib.TabIs Tryz.prog w "internal/strconv.uint64pow10" .u64 Lib.pow10Tab := by
  obtain ⟨T, fz, g⟩ := h.at'
  unfold Lib.TabIs World.var?
  rw [b7x, Option.bind_some, g]
theorem c0j {w : World} (h : Lib.TabIs Tryz.prog w "internal/strconv.uint64pow10" .u64 Lib.pow10Tab) : RoPt w [] a9r b1d := by
  unfold Lib.TabIs World.var? at h
  rw [b7x, Option.bind_some] at h
  split at h
  · rename_i cs T fz hg
    have := Option.some.inj h
    subst this
    exact ⟨⟨T, fz, hg⟩, by simp⟩
  · cases h
theorem b5D {i : Int} : Tr Tryz.prog 280 [.int .i64 i] (fun w L => I64 i ∧ RoPt w L a9r b1d) [] (κ := Unit) (fun _ => True) (fun _ => P5 (D3 i)) (fun _ => []) := by
  refine b1Y ⟨_, b6d.f171, rfl, by decide +kernel⟩ fun w L h => ?_
  refine (Any.strconv_Itoa b6d i h.1.1 h.1.2 w (b8A h.2)).mono ?_
  rintro e w' ⟨rfl, k, os, rfl⟩
  refine ⟨by rw [b3m h.1], rfl, rfl, rfl, by simp [Go.Sort.grow, World.drewN], fun j hj => ?_⟩
  simp only [Go.Sort.grow, World.drewN]
  exact Array.getElem?_append_left hj
end Go.Proofs.YthapcdhdfaibkaaGreatDoor
end
section
namespace Go.Proofs.YthapcdhdfaibkaaGreatDoor
open Go.RowKit
set_option linter.all false
set_option maxHeartbeats 2000000
attribute [local irreducible] Nop Yd Yp Ent Has Tr FnP FnP2 Src o2 c8 N0 a0b E6
variable {l8 u7 : Int} {f0 w9 : List Int} {w3 s7 B4 z7 : Nat} {s8 z8 : Option Addr}
theorem a6X {n : Int} : Tr Tryz.prog 177 [.int .i64 n] (fun w L => I64 n ∧ RoPt w L a9r b1d) [] (κ := Unit) (fun k => True) (fun k => P5 (D3 n)) (fun k => []) := by
 refine Tr.intro Tryz.func177 rfl (n := 5) rfl (by decide +kernel) bl (fr := [(0, .int .i64 n)]) rfl fun w L hR => ?_
 obtain ⟨i6n, htab⟩ := hR
 refine Ew Z1 (Ei rfl (Ev Z3 (Em rfl (Est rfl (l0 b5D rfl rfl rfl dc (fun w Lp hA => ⟨i6n, hA.rop htab⟩)) (fun _ _ => (Ei rfl ?_))))))
 exact Eu (E.ret (Fg rfl rfl () rfl rfl))
theorem a3Q : Tr Tryz.prog 179 [.agg #[.int .i64 l8, .slice s8 w3 s7]] (fun w L => I64 l8 ∧ Ro w L eIs [.slice s8 w3 s7] f0) [] (κ := Unit) (fun k => True) (fun k => P5 (S1 (l8, f0))) (fun k => []) := by
 refine Tr.intro Tryz.func179 rfl (n := 30) rfl (by decide +kernel) bl (fr := [(0, .agg #[.int .i64 l8, .slice s8 w3 s7])]) rfl fun w L hR => ?_
 obtain ⟨C3, v6⟩ := hR
 obtain ⟨rfl, J1⟩ := v6.slen
 refine Ew Z2 (Est rfl (N.box (cs := [_, _]) rfl dc rfl) (fun b1 _ => (Ei rfl (Eu (Eq_ (Ew Z17 (Ey rfl ((f5 fo_Fact_0 f9 dc rfl).yd) (Ey rfl (g9 f9 rfl (Hz m0 0 rfl) rfl) (Est rfl (l0 b1q rfl rfl rfl dc tv) (fun _ _ => (Ent.b (fun q5 => ?_) (fun q5 => ?_))))))))))))
 ·refine Ey rfl ((Y.not (b := true) rfl).yd) (Em rfl (Ey rfl ((f5 fo_Fact_1 ty_Is dc rfl).yd) (Ey rfl (g9 ty_Is rfl (Hz m0 1 rfl) rfl) (Ey rfl ((Y.len us_Is rfl).yd) (Est rfl (l0 M8 rfl rfl rfl dc tv) (fun _ _ => (Ent.b (fun q11 => ?_) (fun q11 => ?_))))))))
  ·refine Ey rfl ((Y.not (b := true) rfl).yd) (Ey rfl ((t7 rfl rfl).yd) (Em rfl (Ey rfl ((f5 fo_Fact_1 ty_Is dc rfl).yd) (Ey rfl (g9 ty_Is rfl (Hz m0 1 rfl) rfl) (Est rfl (l0 a1r rfl rfl rfl dc (fun w Lp hA => hA.ro v6)) (fun _ _ => (Ent.b (fun q17 => ?_) (fun q17 => ?_))))))))
   ·have jl3 : f0.length ≤ 1000000 := by simp only [inR, decide_eq_true_eq] at q11; omega
    have j1 := O4 (n := l8)
    have j3 := X5 (f := D3) (K := 21) (l := f0) (n := 3) (sep := [44]) (fun x => O4) (by simp only [inR, decide_eq_true_eq] at q11; omega)
    have jF : 0 ≤ l8 ∧ l8 ≤ 9 := by simp only [inR, decide_eq_true_eq] at q5; omega
    have jM := a8w q17
    refine Ey rfl ((Y.not (b := true) rfl).yd) (Ey rfl ((t7 rfl rfl).yd) (Eu (o0 rfl (i7 (Et (Eq_ (D.region (fun j => true) mixed (Dyp 0 rfl (f5 fo_Fact_0 f9 dc rfl) (Dy 1 rfl (g9 f9 rfl (Hz m0 0 rfl) rfl) (Dyp 5 rfl (f5 fo_Fact_1 ty_Is dc rfl) (Dy 6 rfl (g9 ty_Is rfl (Hz m0 1 rfl) rfl) (t6 2 rfl rfl kr (fun _ => rfl) (l0 (a2A jF) rfl rfl rfl dc tv) (fun _ _ => (Dyp 3 rfl (H1 rfl rfl (by first | omega | (simp only [List.length_append, List.length_cons, List.length_nil] at *; omega))) (Dyp 4 rfl (H1 rfl rfl (by first | omega | (simp only [List.length_append, List.length_cons, List.length_nil] at *; omega))) (t6 7 rfl rfl kr (fun _ => rfl) (l0 (a6l jl3 dc jM) rfl rfl rfl dc (fun w Lp hA => hA.ro v6)) (fun _ _ => (Dyp 8 rfl (H1 rfl rfl (by first | omega | (simp only [List.length_append, List.length_cons, List.length_nil] at *; omega))) (Dyp 9 rfl (H1 rfl rfl (by first | omega | (simp only [List.length_append, List.length_cons, List.length_nil] at *; omega))) (Dyp 10 rfl (C2 rfl) ?_))))))))))))))))))))
    exact r9 kr (Et (E.ret (Fg rfl rfl () (by rw [show (S1 (l8, f0)) = ((((([114]) ++ (D3 l8)) ++ ([40])) ++ (Lib.join (f0.map D3) ([44]))) ++ ([41])) from (by rw [S1, q5, q11, q17]; rfl)]; try rfl) rfl)))
   ·refine Ey rfl ((Y.not (b := false) rfl).yd) (Ey rfl ((t7 rfl rfl).yd) (Eu (n8 rfl (Ew Z1 (Ei rfl ?_)))))
    exact Eu (E.ret (n0 (Fg rfl rfl () (by rw [show (S1 (l8, f0)) = ([]) from (by rw [S1, q5, q11, q17]; rfl)]; try rfl) rfl)))
  ·refine Ey rfl ((Y.not (b := false) rfl).yd) (Ey rfl ((t7 rfl rfl).yd) (Em rfl (Es rfl (Es rfl (Es rfl (Es rfl (Ey rfl ((t8 rfl rfl).yd) (Eu (n8 rfl (Ew Z1 (Ei rfl ?_)))))))))))
   exact Eu (E.ret (n0 (Fg rfl rfl () (by rw [show (S1 (l8, f0)) = ([]) from (by rw [S1, q5, q11]; rfl)]; try rfl) rfl)))
 ·refine Ey rfl ((Y.not (b := false) rfl).yd) (Em rfl (Es rfl (Es rfl (Es rfl (Es rfl (Es rfl (Ey rfl ((t8 rfl rfl).yd) (Em rfl (Es rfl (Es rfl (Es rfl (Es rfl (Ey rfl ((t8 rfl rfl).yd) (Eu (n8 rfl (Ew Z1 (Ei rfl ?_)))))))))))))))))
  exact Eu (E.ret (n0 (Fg rfl rfl () (by rw [show (S1 (l8, f0)) = ([]) from (by rw [S1, q5]; rfl)]; try rfl) rfl)))
theorem a1e : Tr Tryz.prog 182 [.agg #[.int .i64 l8, .slice s8 w3 s7]] (fun w L => I64 l8 ∧ Ro w L eIs [.slice s8 w3 s7] f0) [] (κ := Unit) (fun k => True) (fun k => P5 (S1 (l8, f0))) (fun k => []) := by
 refine Tr.intro Tryz.func182 rfl (n := 39) rfl (by decide +kernel) bl (fr := [(0, .agg #[.int .i64 l8, .slice s8 w3 s7])]) rfl fun w L hR => ?_
 obtain ⟨C3, v6⟩ := hR
 obtain ⟨rfl, J1⟩ := v6.slen
 refine Ew Z2 (Est rfl (N.box (cs := [_, _]) rfl dc rfl) (fun b1 _ => (Ei rfl (Eu (Eq_ (Ew Z11 (Ey rfl ((f5 fo_Fact_0 f9 dc rfl).yd) (Ey rfl (g9 f9 rfl (Hz m0 0 rfl) rfl) (Est rfl (l0 G0 rfl rfl rfl dc tv) (fun _ _ => (Ent.b (fun q6 => ?_) (fun q6 => ?_))))))))))))
 ·refine Ey rfl ((Y.not (b := true) rfl).yd) (Em rfl (Ey rfl ((f5 fo_Fact_1 ty_Is dc rfl).yd) (Ey rfl (g9 ty_Is rfl (Hz m0 1 rfl) rfl) (Ey rfl ((Y.len us_Is rfl).yd) (Est rfl (l0 G0 rfl rfl rfl dc tv) (fun _ _ => (Ent.b (fun q12 => ?_) (fun q12 => ?_))))))))
  ·have jl3 : f0.length ≤ 1000000 := by simp only [inR, decide_eq_true_eq] at q12; omega
   have j1 := O4 (n := l8)
   have j3 := X5 (f := D3) (K := 21) (l := f0) (n := 3) (sep := [44]) (fun x => O4) (by simp only [inR, decide_eq_true_eq] at q12; omega)
   refine Ey rfl ((Y.not (b := true) rfl).yd) (Ey rfl ((t7 rfl rfl).yd) (Eu (o0 rfl (i7 (Et (Eq_ (Ew Z1 (Ei rfl (Eu (E.block (E.loop (κ := Nat) (fun g => g ≤ f0.length ∧ G4 f0 = G4 (f0.drop g)) (fun g => [(1, .pointer (some ⟨b1, 0, none⟩)), (3, .int .i64 (g : Int))]) (fun g => [pt b1 85 [.int .i64 l8, .slice s8 f0.length s7]]) (fun g => f0.length - g) 0 ⟨Nat.zero_le _, by rfl⟩ ⟨rfl, rfl, trivial⟩ (.refl _) (fun g pg => ?_))))))))))))
   obtain ⟨pk, pa⟩ := pg
   refine Eq_ (Ew Z5 (Em rfl (Ey rfl ((f5 fo_Fact_1 ty_Is dc rfl).yd) (Ey rfl (g9 ty_Is rfl (Hz m0 1 rfl) rfl) (Ey rfl ((Y.len us_Is rfl).yd) (Ey rfl ((Y.lss rfl rfl).yd) (o3 (fun q19 => ?_) (fun q19 => ?_))))))))
   ·refine Eu (n8 rfl (i7 (Et (Eq_ (E.block (Ew Z7 (Ey rfl ((f5 fo_Fact_1 ty_Is dc rfl).yd) (Ey rfl (g9 ty_Is rfl (Hz m0 1 rfl) rfl) (Em rfl ?_)))))))))
    obtain ⟨eb25, eo25, ea25, ei25, eh25⟩ := v6.elemI g om
    refine Ey rfl ((v8 us_Is f9 rfl ea25 rfl g rfl om).yd) (Ey rfl (g9 f9 rfl (eh25 _) rfl) (Est rfl (l0 G0 rfl rfl rfl dc tv) (fun _ _ => (Ent.b (fun q27 => ?_) (fun q27 => ?_)))))
    ·refine Ey rfl ((Y.not (b := true) rfl).yd) (Eu (o0 rfl (i7 (s9 (Et (Ez Z3 (Em rfl (Ey rfl ((Y.add rfl rfl om om).yd) (Ei rfl ?_)))))))))
     exact Eu (x6 br (g + 1) ⟨rfl, rfl, trivial⟩ (.refl _) ⟨by omega, by rw [pa]; exact a7D om q27⟩ om)
    ·refine Ey rfl ((Y.not (b := false) rfl).yd) (Eu (n8 rfl (Ew Z1 (Ei rfl ?_))))
     exact Eu (E.ret (y8 (n0 (n0 (y8 (n0 (Fg rfl rfl () (by rw [show (S1 (l8, f0)) = ([]) from (by rw [S1, q6, q12, pa, a9J om q27]; rfl)]; try rfl) rfl)))))))
   ·refine Eu (o0 rfl (E.exit (q1 (q1 (y4 (Et (Eq_ (D.region (fun j => true) mixed (Dyp 0 rfl (f5 fo_Fact_0 f9 dc rfl) (Dy 1 rfl (g9 f9 rfl (Hz m0 0 rfl) rfl) (Dyp 5 rfl (f5 fo_Fact_1 ty_Is dc rfl) (Dy 6 rfl (g9 ty_Is rfl (Hz m0 1 rfl) rfl) (t6 2 rfl rfl kr (fun _ => rfl) (l0 a0F rfl rfl rfl dc (fun w Lp hA => C3)) (fun _ _ => (Dyp 3 rfl (H1 rfl rfl (by first | omega | (simp only [List.length_append, List.length_cons, List.length_nil] at *; omega))) (Dyp 4 rfl (H1 rfl rfl (by first | omega | (simp only [List.length_append, List.length_cons, List.length_nil] at *; omega))) (t6 7 rfl rfl kr (fun _ => rfl) (l0 (a6k jl3) rfl rfl rfl dc (fun w Lp hA => hA.ro v6)) (fun _ _ => (Dyp 8 rfl (H1 rfl rfl (by first | omega | (simp only [List.length_append, List.length_cons, List.length_nil] at *; omega))) (Dyp 9 rfl (H1 rfl rfl (by first | omega | (simp only [List.length_append, List.length_cons, List.length_nil] at *; omega))) (Dyp 10 rfl (C2 rfl) ?_)))))))))))))))))))))
    exact r9 kr (Et (E.ret (Fg rfl rfl () (by rw [show (S1 (l8, f0)) = ((((([114]) ++ (D3 l8)) ++ ([40])) ++ (Lib.join (f0.map D3) [44])) ++ ([41])) from (by rw [S1, q6, q12, pa, a8C om]; rfl)]; try rfl) rfl)))
  ·refine Ey rfl ((Y.not (b := false) rfl).yd) (Ey rfl ((t7 rfl rfl).yd) (Eu (n8 rfl (Ew Z1 (Ei rfl ?_)))))
   exact Eu (E.ret (n0 (Fg rfl rfl () (by rw [show (S1 (l8, f0)) = ([]) from (by rw [S1, q6, q12]; rfl)]; try rfl) rfl)))
 ·refine Ey rfl ((Y.not (b := false) rfl).yd) (Em rfl (Es rfl (Es rfl (Es rfl (Es rfl (Es rfl (Ey rfl ((t8 rfl rfl).yd) (Eu (n8 rfl (Ew Z1 (Ei rfl ?_)))))))))))
  exact Eu (E.ret (n0 (Fg rfl rfl () (by rw [show (S1 (l8, f0)) = ([]) from (by rw [S1, q6]; rfl)]; try rfl) rfl)))
theorem a6y : Tr Tryz.prog 178 [.agg #[.int .i64 u7, .slice z8 B4 z7]] (fun w L => I64 u7 ∧ Ro w L eIs [.slice z8 B4 z7] w9) [] (κ := Unit) (fun k => True) (fun k => P5 (U0 (u7, w9))) (fun k => []) := by
 refine Tr.intro Tryz.func178 rfl (n := 29) rfl (by decide +kernel) bl (fr := [(0, .agg #[.int .i64 u7, .slice z8 B4 z7])]) rfl fun w L hR => ?_
 obtain ⟨P2, C4⟩ := hR
 obtain ⟨rfl, W8⟩ := C4.slen
 refine Ew Z2 (Est rfl (N.box (cs := [_, _]) rfl dc rfl) (fun b1 _ => (Ei rfl (Eu (Eq_ (Ew Z16 (Ey rfl ((f5 fo_Access_0 f9 dc rfl).yd) (Ey rfl (g9 f9 rfl (Hz m0 0 rfl) rfl) (Est rfl (l0 M8 rfl rfl rfl dc tv) (fun _ _ => (Ent.b (fun q5 => ?_) (fun q5 => ?_))))))))))))
 ·refine Ey rfl ((Y.not (b := true) rfl).yd) (Em rfl (Ey rfl ((f5 fo_Access_1 ty_Is dc rfl).yd) (Ey rfl (g9 ty_Is rfl (Hz m0 1 rfl) rfl) (Ey rfl ((Y.len us_Is rfl).yd) (Ey rfl ((Y.gtr rfl rfl).yd) (o3 (fun q11 => ?_) (fun q11 => ?_)))))))
  ·refine Ey rfl ((t7 rfl rfl).yd) (Em rfl (Es rfl (Es rfl (Es rfl (Es rfl (Ey rfl ((t8 rfl rfl).yd) (Eu (n8 rfl (Ew Z1 (Ei rfl ?_))))))))))
   exact Eu (E.ret (n0 (Fg rfl rfl () (by rw [show (U0 (u7, w9)) = ([]) from (by rw [U0, q5, decide_eq_true q11]; rfl)]; try rfl) rfl)))
  ·refine Ey rfl ((t7 rfl rfl).yd) (Em rfl (Ey rfl ((f5 fo_Access_1 ty_Is dc rfl).yd) (Ey rfl (g9 ty_Is rfl (Hz m0 1 rfl) rfl) (Est rfl (l0 a1r rfl rfl rfl dc (fun w Lp hA => hA.ro C4)) (fun _ _ => (Ent.b (fun q16 => ?_) (fun q16 => ?_)))))))
   ·have jl3 : w9.length ≤ 1000000 := by omega
    have j1 := O4 (n := u7)
    have j3 := X5 (f := D3) (K := 21) (l := w9) (n := 3) (sep := [44]) (fun x => O4) om
    have jF : 0 ≤ u7 ∧ u7 ≤ 9 := by simp only [inR, decide_eq_true_eq] at q5; omega
    have jM := a8w q16
    refine Ey rfl ((Y.not (b := true) rfl).yd) (Ey rfl ((t7 rfl rfl).yd) (Eu (o0 rfl (i7 (Et (Eq_ (D.region (fun j => true) mixed (Dyp 0 rfl (f5 fo_Access_0 f9 dc rfl) (Dy 1 rfl (g9 f9 rfl (Hz m0 0 rfl) rfl) (Dyp 5 rfl (f5 fo_Access_1 ty_Is dc rfl) (Dy 6 rfl (g9 ty_Is rfl (Hz m0 1 rfl) rfl) (t6 2 rfl rfl kr (fun _ => rfl) (l0 (a2A jF) rfl rfl rfl dc tv) (fun _ _ => (Dyp 3 rfl (H1 rfl rfl (by first | omega | (simp only [List.length_append, List.length_cons, List.length_nil] at *; omega))) (Dyp 4 rfl (H1 rfl rfl (by first | omega | (simp only [List.length_append, List.length_cons, List.length_nil] at *; omega))) (t6 7 rfl rfl kr (fun _ => rfl) (l0 (a6l jl3 dc jM) rfl rfl rfl dc (fun w Lp hA => hA.ro C4)) (fun _ _ => (Dyp 8 rfl (H1 rfl rfl (by first | omega | (simp only [List.length_append, List.length_cons, List.length_nil] at *; omega))) (Dyp 9 rfl (H1 rfl rfl (by first | omega | (simp only [List.length_append, List.length_cons, List.length_nil] at *; omega))) (Dyp 10 rfl (C2 rfl) ?_))))))))))))))))))))
    exact r9 kr (Et (E.ret (Fg rfl rfl () (by rw [show (U0 (u7, w9)) = ((((([109]) ++ (D3 u7)) ++ ([40])) ++ (Lib.join (w9.map D3) ([44]))) ++ ([41])) from (by rw [U0, q5, decide_eq_false q11, q16]; rfl)]; try rfl) rfl)))
   ·refine Ey rfl ((Y.not (b := false) rfl).yd) (Ey rfl ((t7 rfl rfl).yd) (Eu (n8 rfl (Ew Z1 (Ei rfl ?_)))))
    exact Eu (E.ret (n0 (Fg rfl rfl () (by rw [show (U0 (u7, w9)) = ([]) from (by rw [U0, q5, decide_eq_false q11, q16]; rfl)]; try rfl) rfl)))
 ·refine Ey rfl ((Y.not (b := false) rfl).yd) (Em rfl (Es rfl (Es rfl (Es rfl (Es rfl (Ey rfl ((t8 rfl rfl).yd) (Em rfl (Es rfl (Es rfl (Es rfl (Es rfl (Ey rfl ((t8 rfl rfl).yd) (Eu (n8 rfl (Ew Z1 (Ei rfl ?_))))))))))))))))
  exact Eu (E.ret (n0 (Fg rfl rfl () (by rw [show (U0 (u7, w9)) = ([]) from (by rw [U0, q5]; rfl)]; try rfl) rfl)))
theorem a6v : Tr Tryz.prog 181 [.agg #[.int .i64 u7, .slice z8 B4 z7]] (fun w L => I64 u7 ∧ Ro w L eIs [.slice z8 B4 z7] w9) [] (κ := Unit) (fun k => True) (fun k => P5 (U0 (u7, w9))) (fun k => []) := by
 refine Tr.intro Tryz.func181 rfl (n := 38) rfl (by decide +kernel) bl (fr := [(0, .agg #[.int .i64 u7, .slice z8 B4 z7])]) rfl fun w L hR => ?_
 obtain ⟨P2, C4⟩ := hR
 obtain ⟨rfl, W8⟩ := C4.slen
 refine Ew Z2 (Est rfl (N.box (cs := [_, _]) rfl dc rfl) (fun b1 _ => (Ei rfl (Eu (Eq_ (Ew Z10 (Ey rfl ((f5 fo_Access_0 f9 dc rfl).yd) (Ey rfl (g9 f9 rfl (Hz m0 0 rfl) rfl) (Est rfl (l0 G0 rfl rfl rfl dc tv) (fun _ _ => (Ent.b (fun q6 => ?_) (fun q6 => ?_))))))))))))
 ·refine Ey rfl ((Y.not (b := true) rfl).yd) (Em rfl (Ey rfl ((f5 fo_Access_1 ty_Is dc rfl).yd) (Ey rfl (g9 ty_Is rfl (Hz m0 1 rfl) rfl) (Ey rfl ((Y.len us_Is rfl).yd) (Ey rfl ((Y.gtr rfl rfl).yd) (o3 (fun q12 => ?_) (fun q12 => ?_)))))))
  ·refine Ey rfl ((t7 rfl rfl).yd) (Eu (n8 rfl (Ew Z1 (Ei rfl ?_))))
   exact Eu (E.ret (n0 (Fg rfl rfl () (by rw [show (U0 (u7, w9)) = ([]) from (by rw [U0, q6, decide_eq_true q12]; rfl)]; try rfl) rfl)))
  ·have jl3 : w9.length ≤ 1000000 := by omega
   have j1 := O4 (n := u7)
   have j3 := X5 (f := D3) (K := 21) (l := w9) (n := 3) (sep := [44]) (fun x => O4) om
   refine Ey rfl ((t7 rfl rfl).yd) (Eu (o0 rfl (i7 (Et (Eq_ (Ew Z1 (Ei rfl (Eu (E.block (E.loop (κ := Nat) (fun g => g ≤ w9.length ∧ G4 w9 = G4 (w9.drop g)) (fun g => [(1, .pointer (some ⟨b1, 0, none⟩)), (3, .int .i64 (g : Int))]) (fun g => [pt b1 105 [.int .i64 u7, .slice z8 w9.length z7]]) (fun g => w9.length - g) 0 ⟨Nat.zero_le _, by rfl⟩ ⟨rfl, rfl, trivial⟩ (.refl _) (fun g pg => ?_)))))))))))
   obtain ⟨pk, pa⟩ := pg
   refine Eq_ (Ew Z5 (Em rfl (Ey rfl ((f5 fo_Access_1 ty_Is dc rfl).yd) (Ey rfl (g9 ty_Is rfl (Hz m0 1 rfl) rfl) (Ey rfl ((Y.len us_Is rfl).yd) (Ey rfl ((Y.lss rfl rfl).yd) (o3 (fun q18 => ?_) (fun q18 => ?_))))))))
   ·refine Eu (n8 rfl (i7 (Et (Eq_ (E.block (Ew Z7 (Ey rfl ((f5 fo_Access_1 ty_Is dc rfl).yd) (Ey rfl (g9 ty_Is rfl (Hz m0 1 rfl) rfl) (Em rfl ?_)))))))))
    obtain ⟨eb24, eo24, ea24, ei24, eh24⟩ := C4.elemI g om
    refine Ey rfl ((v8 us_Is f9 rfl ea24 rfl g rfl om).yd) (Ey rfl (g9 f9 rfl (eh24 _) rfl) (Est rfl (l0 G0 rfl rfl rfl dc tv) (fun _ _ => (Ent.b (fun q26 => ?_) (fun q26 => ?_)))))
    ·refine Ey rfl ((Y.not (b := true) rfl).yd) (Eu (o0 rfl (i7 (s9 (Et (Ez Z3 (Em rfl (Ey rfl ((Y.add rfl rfl om om).yd) (Ei rfl ?_)))))))))
     exact Eu (x6 br (g + 1) ⟨rfl, rfl, trivial⟩ (.refl _) ⟨by omega, by rw [pa]; exact a7D om q26⟩ om)
    ·refine Ey rfl ((Y.not (b := false) rfl).yd) (Eu (n8 rfl (Ew Z1 (Ei rfl ?_))))
     exact Eu (E.ret (y8 (n0 (n0 (y8 (n0 (Fg rfl rfl () (by rw [show (U0 (u7, w9)) = ([]) from (by rw [U0, q6, decide_eq_false q12, pa, a9J om q26]; rfl)]; try rfl) rfl)))))))
   ·refine Eu (o0 rfl (E.exit (q1 (q1 (y4 (Et (Eq_ (D.region (fun j => true) mixed (Dyp 0 rfl (f5 fo_Access_0 f9 dc rfl) (Dy 1 rfl (g9 f9 rfl (Hz m0 0 rfl) rfl) (Dyp 5 rfl (f5 fo_Access_1 ty_Is dc rfl) (Dy 6 rfl (g9 ty_Is rfl (Hz m0 1 rfl) rfl) (t6 2 rfl rfl kr (fun _ => rfl) (l0 a0F rfl rfl rfl dc (fun w Lp hA => P2)) (fun _ _ => (Dyp 3 rfl (H1 rfl rfl (by first | omega | (simp only [List.length_append, List.length_cons, List.length_nil] at *; omega))) (Dyp 4 rfl (H1 rfl rfl (by first | omega | (simp only [List.length_append, List.length_cons, List.length_nil] at *; omega))) (t6 7 rfl rfl kr (fun _ => rfl) (l0 (a6k jl3) rfl rfl rfl dc (fun w Lp hA => hA.ro C4)) (fun _ _ => (Dyp 8 rfl (H1 rfl rfl (by first | omega | (simp only [List.length_append, List.length_cons, List.length_nil] at *; omega))) (Dyp 9 rfl (H1 rfl rfl (by first | omega | (simp only [List.length_append, List.length_cons, List.length_nil] at *; omega))) (Dyp 10 rfl (C2 rfl) ?_)))))))))))))))))))))
    exact r9 kr (Et (E.ret (Fg rfl rfl () (by rw [show (U0 (u7, w9)) = ((((([109]) ++ (D3 u7)) ++ ([40])) ++ (Lib.join (w9.map D3) [44])) ++ ([41])) from (by rw [U0, q6, decide_eq_false q12, pa, a8C om]; rfl)]; try rfl) rfl)))
 ·refine Ey rfl ((Y.not (b := false) rfl).yd) (Em rfl (Es rfl (Es rfl (Es rfl (Es rfl (Ey rfl ((t8 rfl rfl).yd) (Eu (n8 rfl (Ew Z1 (Ei rfl ?_))))))))))
  exact Eu (E.ret (n0 (Fg rfl rfl () (by rw [show (U0 (u7, w9)) = ([]) from (by rw [U0, q6]; rfl)]; try rfl) rfl)))
end Go.Proofs.YthapcdhdfaibkaaGreatDoor
end
