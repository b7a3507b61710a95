import Derived.Test.YtfnbilpemdgkkaaGreatDoorBu
import Derived.Test.YtfnbilpemdgkkaaGreatDoorBe
namespace Go.Proofs.YtfnbilpemdgkkaaGreatDoor
open Go.RowKit
set_option linter.unusedVariables false
set_option linter.unusedSimpArgs false
instance b6e {b : Nat} {T : TypeId} {cs : List Value} {A H : List HP} [h : PtIn b T cs H] : PtIn b T cs (List.append A H) := ⟨List.mem_append_right _ h.out⟩
abbrev WB := (Int × Option Addr × Nat × Nat) × Option Addr × Nat × Nat
abbrev a2O : TypeId := tway
abbrev P2 : Enc WB := v8 a2h M6
abbrev a2w : Enc (List WB) := Enc.sl a2O P2
def D8 (y : WB) : List Value := [.int .i64 y.1.1, .slice y.1.2.1 y.1.2.2.1 y.1.2.2.2, .slice y.2.1 y.2.2.1 y.2.2.2]
theorem ty_FactB : TyOk Tryz.prog tFact true 2 [.int .i64 0, .slice none 0 0] 32 := ty_Fact
theorem ty_rsl : TyOk Tryz.prog 24 false 1 [.slice none 0 0] 24 := ty_Is
theorem a6x : a7d P2 D8 := by
 rintro w cs y L o ⟨_, _, _, _, rfl, rfl, h0, h1⟩
 obtain ⟨rfl, rfl⟩ := a9T _ _ _ _ _ h0
 obtain ⟨rfl, rfl⟩ := h1
 exact ⟨rfl, rfl⟩
theorem a5q {w : World} {L : List Nat} {y : WB} {x : (Int × List Int) × List Int} (h : Ro w L E8 (D8 y) x) : y.1.1 = x.1.1 ∧ Ro w L eIs [.slice y.1.2.1 y.1.2.2.1 y.1.2.2.2] x.1.2 ∧ Ro w L eIs [.slice y.2.1 y.2.2.1 y.2.2.2] x.2 := by
 obtain ⟨a0, c0, a1, c1, e, i0, r1, r2⟩ := a5a h
 simp only [D8, List.cons.injEq, Value.int.injEq, Value.slice.injEq, true_and, and_true] at e
 obtain ⟨e0, ⟨e1a, e1b, e1c⟩, e2a, e2b, e2c⟩ := e
 exact ⟨e0, (by rw [e1a, e1b, e1c]; exact r1), (by rw [e2a, e2b, e2c]; exact r2)⟩
theorem a0n {x : WB} (h0 : I64 x.1.1) : Own (([] ++ []) ++ []) P2 [.int .i64 x.1.1, .slice x.1.2.1 x.1.2.2.1 x.1.2.2.2, .slice x.2.1 x.2.2.1 x.2.2.2] x := S3 (a7x h0) a8h
theorem b0g {n : Nat} {w0 : World} {L0 : List Nat} {fr : Fr} {R : List HP} {G : Act → World → Prop} {cs : List Value} {x : WB} (h : cs = [.int .i64 x.1.1, .slice x.1.2.1 x.1.2.2.1 x.1.2.2.2, .slice x.2.1 x.2.2.1 x.2.2.2] → I64 x.1.1 → Ent n w0 L0 fr R G) : Ent n w0 L0 fr (ow P2 cs x :: R) G := fun a w h1 h2 => by
 obtain ⟨L, ⟨Lx, LR, rfl, hx, hR⟩, hn, hst⟩ := h2
 obtain ⟨_, _, _, _, rfl, rfl, ⟨_, _, _, _, rfl, rfl, h00, h01⟩, h1'⟩ := hx
 obtain ⟨rfl, i0, rfl⟩ := h00
 obtain ⟨rfl, rfl⟩ := h01
 obtain ⟨rfl, rfl⟩ := h1'
 refine h rfl i0 a w h1 ⟨LR, hR, ?_, ?_⟩
 ·simpa using hn
 ·simpa using hst
section
variable {α β : Type} {E : Enc α} {F : Enc β} {f : β → List Value} {e : TypeId} {n : Nat} {w0 w : World} {L0 Lp : List Nat} {fr : Fr} {H R A pre rest : List HP} {G : Act → World → Prop} {a : Option Addr} {m c i : Nat} {cs ce : List Value} {x x0 : (Int × List Int) × List Int} {X : List ((Int × List Int) × List Int)} {y y0 : WB} {ys : List WB}
theorem At.owB2 {ys : List β} {xs : List α} (hA : At w0 L0 pre rest w Lp) (hF : a7d F f) (hk : F.k = E.k) (hm : Go.Proofs.YtfnbilpemdgkkaaGreatDoor.ow (Enc.sl e F) [.slice a m c] ys ∈ rest) (hb' : Bor w Lp E f ys xs) : Ro w Lp (Enc.sl e E) [.slice a m c] xs := by
 obtain ⟨⟨Lr, h1, h2, h3, h4⟩⟩ := hA
 obtain ⟨L', r1, r2⟩ := h2.mem hm
 obtain ⟨ccs, L1, L2, rfl, g1, g2, g3, g4⟩ := P3 r1
 obtain ⟨rfl, rfl⟩ := hF.cells g3
 obtain ⟨M, m1, m2⟩ := hb'.els
 have hLn : ∀ b ∈ L1, b ∉ Lp := fun b hb hp => (List.nodup_append.1 h3).2.2 b hp b (r2 b (by simpa using hb)) rfl
 have hl : m = xs.length := g1.trans hb'.len
 rcases g4 with ⟨h6, ⟨rfl, rfl, rfl⟩ | ⟨g, cur, rfl, h7, h8, h9, h10, h11, rfl⟩⟩
 ·have : ys = [] := List.eq_nil_of_length_eq_zero g1.symm
  subst this
  exact ⟨M, ⟨a, 0, 0, [], [], M, rfl, hl, g2, rfl, m1, ⟨Nat.le_refl _, Nat.zero_le _⟩, .inl ⟨rfl, rfl⟩⟩, m2⟩
 ·refine ⟨[g] ++ M, ⟨_, m, c, _, [g], M, rfl, hl, g2, rfl, m1, ⟨h8, h9⟩, .inr ⟨g, 0, rfl, fun j v hj => ?_, (Array.getElem?_eq_some_iff.1 h7).1, rfl⟩⟩, fun b hb => ?_⟩
  ·rw [← h11, List.getElem?_take] at hj
   split at hj
   ·simpa [World.cell?, h7] using hj
   ·cases hj
  ·rcases List.mem_append.1 hb with hb | hb
   ·exact hLn b hb
   ·exact m2 b hb
theorem At.wayB (hA : At w0 L0 pre rest w Lp) (h0 : Ro w0 L0 E8 (D8 y0) x0) (hl : (y0 :: ys).map (fun y => y.1.1) = X.map (fun x => x.1.1)) (hX : X[0]? = some x0) (hm : els E8 (ys.flatMap D8) X.tail ∈ rest) : Bor w Lp E8 D8 (y0 :: ys) X := by
 cases X with
 | nil => simp at hX
 | cons x X =>
  simp only [List.getElem?_cons_zero, Option.some.injEq] at hX; subst hX
  exact ⟨hA.ro h0, hA.elsB (fun _ => rfl) (by have := congrArg List.length hl; simpa using this) hm⟩
theorem b6E (hA : At w0 L0 pre rest w Lp) (hr : Go.Proofs.YtfnbilpemdgkkaaGreatDoor.ow a2w [.slice a m c] (y0 :: ys) ∈ rest) (h0 : Ro w0 L0 E8 (D8 y0) x0) (hl : (y0 :: ys).map (fun y => y.1.1) = X.map (fun x => x.1.1)) (hX : X[0]? = some x0) (hm : els E8 (ys.flatMap D8) X.tail ∈ rest) : Ro w Lp a2D [.slice a m c] X :=
 hA.owB2 a6x rfl hr (hA.wayB h0 hl hX hm)
theorem At.wayx (hA : At w0 L0 pre rest w Lp) (h0 : Ro w0 L0 E8 (D8 y0) x0) (hl : (y0 :: ys).map (fun y => y.1.1) = X.map (fun x => x.1.1)) (hX : X[0]? = some x0) (hm : els E8 (ys.flatMap D8) X.tail ∈ rest) (hy : (y0 :: ys)[i]? = some y) (hx : X[i]? = some x) : Ro w Lp eIs [.slice y.1.2.1 y.1.2.2.1 y.1.2.2.2] x.1.2 ∧ Ro w Lp eIs [.slice y.2.1 y.2.2.1 y.2.2.2] x.2 := by
 obtain ⟨i1, e1⟩ := List.getElem?_eq_some_iff.1 hy
 obtain ⟨i2, e2⟩ := List.getElem?_eq_some_iff.1 hx
 have := (hA.wayB h0 hl hX hm).get i i1 i2
 rw [e1, e2] at this
 exact (a5q this).2
theorem b2C (hl : (y0 :: ys).map (fun y => y.1.1) = X.map (fun x => x.1.1)) (hx : X[i]? = some x) : ∃ yv yl, (y0 :: ys)[i]? = some ((x.1.1, yv), yl) := by
 obtain ⟨i2, e2⟩ := List.getElem?_eq_some_iff.1 hx
 have hlen := congrArg List.length hl
 simp only [List.length_map] at hlen
 have i1 : i < (y0 :: ys).length := by omega
 refine ⟨(y0 :: ys)[i].1.2, (y0 :: ys)[i].2, ?_⟩
 have h1 : ((y0 :: ys).map (fun y => y.1.1))[i]? = (X.map (fun x => x.1.1))[i]? := by rw [hl]
 rw [List.getElem?_map, List.getElem?_map, hx, List.getElem?_eq_getElem i1] at h1
 simp only [Option.map_some, Option.some.injEq] at h1
 rw [List.getElem?_eq_getElem i1, ← h1]
theorem b1F (h : Ent n w0 L0 fr (els E [] [] :: R) G) : Ent n w0 L0 fr R G := fun a w h1 ⟨L, hs, hn, hst⟩ => h a w h1 ⟨L, ⟨[], L, rfl, ⟨rfl, rfl⟩, hs⟩, hn, hst⟩
theorem b2Z {x : α} (h : Ent n w0 L0 fr (els E ce [x] :: R) G) : Ent n w0 L0 fr (ow E ce x :: R) G := fun a w h1 ⟨L, ⟨L1, L2, e, ho, hs⟩, hn, hst⟩ => h a w h1 ⟨L, ⟨L1, L2, e, ⟨ce, [], L1, [], by simp, by simp, ho, rfl, rfl⟩, hs⟩, hn, hst⟩
theorem p9.at' : ∀ {xs : List α} {cs : List Value} {L : List Nat} {i : Nat} {ys : List β} {x : α} {y : β}, (∀ y, (f y).length = E.k) → ys.length = xs.length → p9 E w (ys.flatMap f) xs L true → xs[i]? = some x → ys[i]? = some y → ∃ L1, L1.Sublist L ∧ E.rep w (f y) x L1 true
 | [], _, _, _, _, _, _, _, _, _, hx, _ => by simp at hx
 | _ :: _, _, _, _, [], _, _, _, hl, _, _, _ => by simp at hl
 | x' :: xs, _, L, i, y' :: ys, x, y, hf, hl, ⟨c1, c2, L1, L2, h1, h2, h3, h4⟩, hx, hy => by
  rw [List.flatMap_cons] at h1
  obtain ⟨e1, e2⟩ := List.append_inj h1 ((hf y').trans (E.len h3).symm)
  subst e1; subst e2; subst h2
  cases i with
  | zero =>
   simp only [List.getElem?_cons_zero, Option.some.injEq] at hx hy
   subst hx; subst hy
   exact ⟨L1, List.sublist_append_left .., h3⟩
  | succ i =>
   obtain ⟨M, m1, m2⟩ := p9.at' (cs := []) hf (Nat.succ.inj hl) h4 (by simpa using hx) (by simpa using hy)
   exact ⟨M, m1.trans (List.sublist_append_right ..), m2⟩
theorem a8Y (hl : (y0 :: ys).map (fun y => y.1.1) = X.map (fun x => x.1.1)) (hX : X[0]? = some x0) (hy : (y0 :: ys)[i]? = some y) (hx : X[i]? = some x) (h1 : y0.2.2 = (0, 0)) (h2 : x0.2 = []) (h : Ent n w0 L0 fr (ow eIs [.slice y.2.1 y.2.2.1 y.2.2.2] x.2 :: R) G) : Ent n w0 L0 fr (els E8 (ys.flatMap D8) X.tail :: R) G := by
 cases X with
 | nil => simp at hX
 | cons x' X =>
  simp only [List.getElem?_cons_zero, Option.some.injEq] at hX; subst hX
  cases i with
  | zero =>
   simp only [List.getElem?_cons_zero, Option.some.injEq] at hy hx
   subst hy; subst hx
   rw [h1, h2] at h
   exact Ent.drop (o1 (A := []) (Own.nil (E := Enc.int) (e := tI)) rfl h)
  | succ i =>
   have hl2 : ys.length = X.length := by have := congrArg List.length hl; simpa using this
   rintro ac w q1 ⟨L, ⟨LP, LR, rfl, hp, hR⟩, hn, hst⟩
   obtain ⟨L1, s1, c1, c2, La, Lb, e1, rfl, g1, g2⟩ := p9.at' (cs := []) (fun _ => rfl) hl2 hp (i := i) (by simpa using hx) (by simpa using hy)
   have e3 : D8 y = [.int .i64 y.1.1, .slice y.1.2.1 y.1.2.2.1 y.1.2.2.2] ++ [.slice y.2.1 y.2.2.1 y.2.2.2] := rfl
   rw [e3] at e1
   obtain ⟨-, rfl⟩ := List.append_inj e1 (w9.len g1).symm
   have s2 : Lb.Sublist LP := (List.sublist_append_right La Lb).trans s1
   refine h ac w q1 ⟨Lb ++ LR, ⟨Lb, LR, rfl, g2, hR⟩, (s2.append (List.Sublist.refl LR)).nodup hn, ⟨hst.os, hst.tape, hst.output, hst.size, hst.keep, fun b hb => hst.sub b ?_⟩⟩
   rcases List.mem_append.1 hb with hb | hb
   ·exact List.mem_append_left _ (s2.subset hb)
   ·exact List.mem_append_right _ hb
abbrev WX := (Int × List Int) × List Int
theorem a6i : ∀ {ys : List WB}, (∀ y ∈ ys, I64 y.1.1) → p9 P2 w (ys.flatMap D8) ys [] true
 | [], _ => ⟨rfl, rfl⟩
 | y :: ys, h => ⟨D8 y, ys.flatMap D8, [], [], List.flatMap_cons .., rfl, ⟨[.int .i64 y.1.1, .slice y.1.2.1 y.1.2.2.1 y.1.2.2.2], [.slice y.2.1 y.2.2.1 y.2.2.2], [], [], rfl, rfl, ⟨[.int .i64 y.1.1], [.slice y.1.2.1 y.1.2.2.1 y.1.2.2.2], [], [], rfl, rfl, ⟨rfl, h y (List.mem_cons_self ..), rfl⟩, ⟨rfl, rfl⟩⟩, ⟨rfl, rfl⟩⟩, a6i fun z hz => h z (List.mem_cons_of_mem _ hz)⟩
theorem a7U : ∀ {ys : List WB} {cs : List Value} {L : List Nat} {o : Bool}, p9 P2 w cs ys L o → ∀ y ∈ ys, I64 y.1.1
 | [], _, _, _, _, y, hy => by simp at hy
 | y :: ys, _, _, _, ⟨c1, c2, L1, L2, _, _, ⟨_, _, _, _, _, _, ⟨_, _, _, _, _, _, h00, _⟩, _⟩, h4⟩, z, hz => by
  rcases List.mem_cons.1 hz with rfl | hz
  ·exact h00.2.1
  ·exact a7U h4 z hz
def H5 (y0 : WB) (x0 : WX) (P : List WB → Prop) : Enc (List WX) where
 k := 1
 pos := by decide
 rep w cs X L o := ∃ a m c ys L1 L2, cs = [.slice a m c] ∧ m = X.length ∧ m ≤ maxLen ∧ L = L1 ++ L2 ∧ P ys ∧ X[0]? = some x0 ∧ (y0 :: ys).map (fun y => y.1.1) = X.map (fun x => x.1.1) ∧ (∀ y ∈ y0 :: ys, I64 y.1.1) ∧ p9 E8 w (ys.flatMap D8) X.tail L2 true ∧ (row a2O P2.k a m c ((y0 :: ys).flatMap D8)).holds w L1
 len := by rintro w cs X L o ⟨a, m, c, ys, L1, L2, rfl, _⟩; rfl
 one := by rintro w cs X L o ⟨a, m, c, ys, L1, L2, rfl, _⟩; simp [Value.oneCell']
 stable := by
  rintro w w' cs X L o ⟨a, m, c, ys, L1, L2, h1, h2, h3, rfl, h4, h5, h6, h7, h8, h9⟩ hb
  exact ⟨a, m, c, ys, L1, L2, h1, h2, h3, rfl, h4, h5, h6, h7, h8.stable fun b hm => hb b (by simp [hm]), (row a2O P2.k a m c _).stable h9 fun b hm => hb b (by simp [hm])⟩
 inh := by
  rintro w cs X L o ⟨a, m, c, ys, L1, L2, h1, h2, h3, rfl, h4, h5, h6, h7, h8, h9⟩ b hb
  rcases List.mem_append.1 hb with hb | hb
  ·exact (row a2O P2.k a m c _).inh h9 b hb
  ·exact h8.inh b hb
 ro := fun h => ⟨_, fun _ hb => hb, h⟩
variable {P P' : List WB → Prop}
theorem a4Y (h : ∀ ys, P ys → (y0 :: ys).map (fun y => y.1.1) = X.map (fun x => x.1.1) → X[0]? = some x0 → Ent n w0 L0 fr (ow a2w [.slice a m c] (y0 :: ys) :: els E8 (ys.flatMap D8) X.tail :: R) G) : Ent n w0 L0 fr (ow (H5 y0 x0 P) [.slice a m c] X :: R) G := by
 rintro ac w q1 ⟨L, ⟨LP, LR, rfl, ⟨a', m', c', ys, L1, L2, h1, h2, h3, rfl, h4, h5, h6, h7, h8, h9⟩, hR⟩, hn, hst⟩
 simp only [List.cons.injEq, Value.slice.injEq, and_true] at h1
 obtain ⟨rfl, rfl, rfl⟩ := h1
 have hl : m = (y0 :: ys).length := by have := congrArg List.length h6; simp only [List.length_map] at this; omega
 exact h ys h4 h6 h5 ac w q1 ⟨(L1 ++ L2) ++ LR, ⟨L1, L2 ++ LR, by simp, ⟨a, m, c, _, L1, [], rfl, hl, h3, by simp, a6i h7, h9⟩, ⟨L2, LR, rfl, h8, hR⟩⟩, hn, hst⟩
theorem a4X (hP : P ys) (hl : (y0 :: ys).map (fun y => y.1.1) = X.map (fun x => x.1.1)) (hX : X[0]? = some x0) (h : Ent n w0 L0 fr (ow (H5 y0 x0 P) [.slice a m c] X :: R) G) : Ent n w0 L0 fr (ow a2w [.slice a m c] (y0 :: ys) :: els E8 (ys.flatMap D8) X.tail :: R) G := by
 rintro ac w q1 ⟨L, ⟨L1, LZ, rfl, r1, ⟨L2, LR, rfl, h8, hR⟩⟩, hn, hst⟩
 obtain ⟨ccs, M1, M2, rfl, g1, g2, g3, g4⟩ := P3 r1
 obtain ⟨rfl, rfl⟩ := a6x.cells g3
 have hl2 : m = X.length := by have := congrArg List.length hl; simp only [List.length_map] at this; omega
 exact h ac w q1 ⟨(M1 ++ []) ++ (L2 ++ LR), ⟨M1 ++ L2, LR, by simp, ⟨a, m, c, ys, M1, L2, rfl, hl2, g2, rfl, hP, hX, hl, a7U g3, h8, g4⟩, hR⟩, hn, hst⟩
theorem b2X (hP : ∀ ys, P ys → P' ys) (h : Ent n w0 L0 fr (ow (H5 y0 x0 P') [.slice a m c] X :: R) G) : Ent n w0 L0 fr (ow (H5 y0 x0 P) [.slice a m c] X :: R) G := by
 rintro ac w q1 ⟨L, ⟨LP, LR, rfl, ⟨a', m', c', ys, L1, L2, h1, h2, h3, h3', h4, h5⟩, hR⟩, hn, hst⟩
 exact h ac w q1 ⟨LP ++ LR, ⟨LP, LR, rfl, ⟨a', m', c', ys, L1, L2, h1, h2, h3, h3', hP _ h4, h5⟩, hR⟩, hn, hst⟩
theorem a7p (hm : ow (H5 y0 x0 P) [.slice a m c] X ∈ H) (h : m = X.length → m ≤ 9223372036854775807 → Ent n w0 L0 fr H G) : Ent n w0 L0 fr H G := fun ac w h1 h2 => by
 obtain ⟨L, hL⟩ := h2.mem hm
 obtain ⟨a', m', c', ys, L1, L2, q1, q2, q3, _⟩ := hL
 simp only [List.cons.injEq, Value.slice.injEq, and_true] at q1
 obtain ⟨rfl, rfl, rfl⟩ := q1
 exact h q2 (by unfold maxLen at q3; omega) ac w h1 h2
theorem b1E {f : WB → List Value} {ys : List WB} {xs : List WX} {L1 : List Nat} (hr : (row a2O P2.k a m c (ys.flatMap f)).holds w L1) (hd : ∀ b ∈ L1, b ∉ Lp) (hl : m = xs.length) (hm : m ≤ maxLen) (hk : P2.k = E8.k) (hb' : Bor w Lp E8 f ys xs) : Ro w Lp a2D [.slice a m c] xs := by
 obtain ⟨M, m1, m2⟩ := hb'.els
 rcases hr with ⟨h6, ⟨rfl, rfl, rfl⟩ | ⟨g, cur, rfl, h7, h8, h9, h10, h11, rfl⟩⟩
 ·have hx : xs = [] := List.eq_nil_of_length_eq_zero hl.symm
  subst hx
  cases ys with
  | cons => exact absurd hb' id
  | nil => exact ⟨M, ⟨a, 0, 0, [], [], M, rfl, hl, hm, rfl, m1, ⟨Nat.le_refl _, Nat.zero_le _⟩, .inl ⟨rfl, rfl⟩⟩, m2⟩
 ·refine ⟨[g] ++ M, ⟨_, m, c, _, [g], M, rfl, hl, hm, rfl, m1, ⟨h8, h9⟩, .inr ⟨g, 0, rfl, fun j v hj => ?_, (Array.getElem?_eq_some_iff.1 h7).1, rfl⟩⟩, fun b hb => ?_⟩
  ·rw [← h11, List.getElem?_take] at hj
   split at hj
   ·simpa [World.cell?, h7] using hj
   ·cases hj
  ·rcases List.mem_append.1 hb with hb | hb
   ·exact hd b hb
   ·exact m2 b hb
theorem At.wlb (hA : At w0 L0 pre rest w Lp) (h0 : Ro w0 L0 E8 (D8 y0) x0) (hm : Go.Proofs.YtfnbilpemdgkkaaGreatDoor.ow (H5 y0 x0 P) [.slice a m c] X ∈ rest) : ∃ ys, P ys ∧ Bor w Lp E8 D8 (y0 :: ys) X ∧ Ro w Lp a2D [.slice a m c] X := by
 have h0' := hA.ro h0
 obtain ⟨⟨Lr, h1, h2, h3, h4⟩⟩ := hA
 obtain ⟨L', r1, r2⟩ := h2.mem hm
 obtain ⟨a', m', c', ys, L1, L2, q1, q2, q3, rfl, q4, q5, q6, q7, q8, q9⟩ := r1
 simp only [List.cons.injEq, Value.slice.injEq, and_true] at q1
 obtain ⟨rfl, rfl, rfl⟩ := q1
 have hd : ∀ b ∈ L1 ++ L2, b ∉ Lp := fun b hb hp => (List.nodup_append.1 h3).2.2 b hp b (r2 b hb) rfl
 have hb : Bor w Lp E8 D8 (y0 :: ys) X := by
  cases X with
  | nil => simp at q5
  | cons x X =>
   simp only [List.getElem?_cons_zero, Option.some.injEq] at q5; subst q5
   obtain ⟨M, m1, m2⟩ := q8.ro
   exact ⟨h0', a2y (fun _ => rfl) (by have := congrArg List.length q6; simpa using this) m2 fun b hb => hd b (List.mem_append_right _ (m1 b hb))⟩
 exact ⟨ys, q4, hb, b1E q9 (fun b hb => hd b (List.mem_append_left _ hb)) q2 q3 rfl hb⟩
theorem At.wls (hA : At w0 L0 pre rest w Lp) (h0 : Ro w0 L0 E8 (D8 y0) x0) (hm : Go.Proofs.YtfnbilpemdgkkaaGreatDoor.ow (H5 y0 x0 P) [.slice a m c] X ∈ rest) : Ro w Lp a2D [.slice a m c] X := let ⟨_, _, _, h⟩ := hA.wlb h0 hm; h
theorem At.wlx (hA : At w0 L0 pre rest w Lp) (h0 : Ro w0 L0 E8 (D8 y0) x0) (hm : Go.Proofs.YtfnbilpemdgkkaaGreatDoor.ow (H5 y0 x0 P) [.slice a m c] X ∈ rest) (hP : ∀ ys, P ys → (y0 :: ys)[i]? = some y) (hx : X[i]? = some x) : Ro w Lp eIs [.slice y.1.2.1 y.1.2.2.1 y.1.2.2.2] x.1.2 ∧ Ro w Lp eIs [.slice y.2.1 y.2.2.1 y.2.2.2] x.2 := by
 obtain ⟨ys, p1, p2, _⟩ := hA.wlb h0 hm
 obtain ⟨i1, e1⟩ := List.getElem?_eq_some_iff.1 (hP ys p1)
 obtain ⟨i2, e2⟩ := List.getElem?_eq_some_iff.1 hx
 have := p2.get i i1 i2
 rw [e1, e2] at this
 exact (a5q this).2
theorem b0f (hP : ∀ ys, P ys → (y0 :: ys)[i]? = some y) (hx : X[i]? = some x) (h1 : y0.2.2 = (0, 0)) (h2 : x0.2 = []) (h : Ent n w0 L0 fr (ow eIs [.slice y.2.1 y.2.2.1 y.2.2.2] x.2 :: R) G) : Ent n w0 L0 fr (ow (H5 y0 x0 P) [.slice a m c] X :: R) G :=
 a4Y fun ys p1 p2 p3 => Ent.drop (a8Y p2 p3 (hP ys p1) hx h1 h2 h)
theorem b1n {z : WX} (hX : X[0]? = some x0) : X.tail ++ [z] = (X ++ [z]).tail := by cases X with | nil => simp at hX | cons => rfl
theorem b1t {v : WB} (h : (y0 :: ys)[i]? = some y) : (y0 :: (ys ++ [v]))[i]? = some y := by
 rw [← List.cons_append, List.getElem?_append_left (List.getElem?_eq_some_iff.1 h).1]; exact h
theorem b0P {v : WB} {z : WX} (hl : (y0 :: ys).map (fun y => y.1.1) = X.map (fun x => x.1.1)) (hv : v.1.1 = z.1.1) : (y0 :: (ys ++ [v])).map (fun y => y.1.1) = (X ++ [z]).map (fun x => x.1.1) := by
 rw [← List.cons_append, List.map_append, List.map_append, hl, List.map_cons, List.map_cons, hv]; rfl
theorem b3n {z : WX} (hX : X[0]? = some x0) : (X ++ [z])[0]? = some x0 := by
 rw [List.getElem?_append_left (List.getElem?_eq_some_iff.1 hX).1]; exact hX
theorem b0H {v : WB} : ys.flatMap D8 ++ [.int .i64 v.1.1, .slice v.1.2.1 v.1.2.2.1 v.1.2.2.2, .slice v.2.1 v.2.2.1 v.2.2.2] = (ys ++ [v]).flatMap D8 := by simp [D8]
end
end Go.Proofs.YtfnbilpemdgkkaaGreatDoor
