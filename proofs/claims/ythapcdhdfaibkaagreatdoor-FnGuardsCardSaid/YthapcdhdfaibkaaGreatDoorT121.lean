import Derived.Test.YthapcdhdfaibkaaGreatDoorT120
section
namespace Go.Proofs.YthapcdhdfaibkaaGreatDoor
set_option linter.all false
def c3c (s : List Int) (d6 : List Fct) : Prop := d6.length ≤ 7000 ∧ ∀ f ∈ d6, O6 s f = true
abbrev NoS := List Fct × List Lin
abbrev UU := List Fct × List Int × List Acs × List Lin
def c1M (S : NoS) (x : Lin) : NoS := if N9 S.1 x.2.2 then S else (G8 S.1 x.2.2, S.2 ++ [x])
def b7C (S : NoS) (xs : List Lin) : NoS := xs.foldl c1M S
def lnA (a : Acs) (f : Fct) : Lin := (-1, a, f)
def lnR (I5 : List Rul) (F : List Fct) (f : Fct) : Lin := (b7I I5 F f, (0, []), f)
def c2f (l : List Mth) (d6 : List Fct) (O : List Acs) (S : NoS) : NoS := O.foldl (fun S a => b7C S ((b4z l d6 a).map (lnA a))) S
def uO (l : List Mth) (u : UU) : List Acs := U1 u.2.1 u.2.2.1 l 0
def uA (l : List Mth) (d6 : List Fct) (u : UU) : NoS := c2f l d6 (uO l u) (u.1, u.2.2.2)
def uM (l : List Mth) (I5 : List Rul) (d6 : List Fct) (u : UU) : List Fct := b4N I5 (uA l d6 u).1
def uD (l : List Mth) (I5 : List Rul) (d6 : List Fct) (u : UU) : List Lin := (uM l I5 d6 u).map (lnR I5 (uA l d6 u).1)
def uS (l : List Mth) (I5 : List Rul) (d6 : List Fct) (u : UU) : NoS := b7C (uA l d6 u) (uD l I5 d6 u)
def b4A (l : List Mth) (I5 : List Rul) (d6 : List Fct) (u : UU) : UU := ((uS l I5 d6 u).1, (uS l I5 d6 u).1.foldl pvI u.2.1, u.2.2.1 ++ uO l u, (uS l I5 d6 u).2)
def uIt (l : List Mth) (I5 : List Rul) (d6 : List Fct) (O3 : List Int) : Nat → UU
  | 0 => ([], a0w (O3.filter fun t => inR t 0 9), [], [])
  | n + 1 => b4A l I5 d6 (uIt l I5 d6 O3 n)
def c2h (l : List Mth) (I5 : List Rul) (d6 : List Fct) (O3 : List Int) : UU := uIt l I5 d6 O3 6000
-- noting
structure nInv (s : List Int) (S : NoS) : Prop where
  fold : S.1 = (S.2.map fun x => x.2.2).foldl G8 []
  nd : (S.2.map fun x => x.2.2).Nodup
  ok : ∀ x ∈ S.2, O6 s x.2.2 = true
  acc : ∀ x ∈ S.2, x.2.1.2.length ≤ 3
theorem nInv.mem {s : List Int} {S : NoS} (h : nInv s S) {f : Fct} : f ∈ S.1 ↔ ∃ x ∈ S.2, x.2.2 = f := by
  rw [h.fold, a0J]
  simp only [List.not_mem_nil, false_or, List.mem_map]
theorem nInv.len {s : List Int} {S : NoS} (h : nInv s S) : S.2.length ≤ 5324 ∧ S.1.length ≤ 5324 := by
  have h1 := b0Q (s := s) h.nd fun f hf => by
    obtain ⟨x, hx, rfl⟩ := List.mem_map.1 hf
    exact h.ok x hx
  have h2 := b7i (m := S.2.map fun x => x.2.2) (x := [])
  rw [← h.fold] at h2
  simp only [List.length_map, List.length_nil] at h1 h2
  omega
-- what is missing
-- a round
structure uInv (s : List Int) (u : UU) : Prop where
  n : nInv s (u.1, u.2.2.2)
  vals : a7W u.2.1 = true
  cl : ∀ f ∈ u.1, ∀ x ∈ f.2, x ∈ u.2.1
  acc : ∀ a ∈ u.2.2.1, a.2.length ≤ 3
section
variable {s : List Int} {l : List Mth} {I5 : List Rul} {d6 : List Fct} {O3 : List Int} {u : UU} {g : Nat}
structure uStay (l : List Mth) (I5 : List Rul) (d6 : List Fct) (u : UU) : Prop where
  a : uA l d6 u = (u.1, u.2.2.2)
  m : uM l I5 d6 u = []
  s : uS l I5 d6 u = (u.1, u.2.2.2)
  v : (b4A l I5 d6 u).2.1 = u.2.1
  o : uO l (b4A l I5 d6 u) = []
def gI (s : List Int) (l : List Mth) (I5 : List Rul) (d6 : List Fct) (O3 : List Int) (g : Nat) : Prop :=
  uInv s (uIt l I5 d6 O3 g) ∧ (g ≤ (uIt l I5 d6 O3 g).2.2.2.length ∨ (g ≤ (uIt l I5 d6 O3 g).2.2.2.length + 1 ∧ b4A l I5 d6 (uIt l I5 d6 O3 g) = uIt l I5 d6 O3 g ∧ uO l (uIt l I5 d6 O3 g) = []))
end
-- within a round
section
variable {s : List Int} {l : List Mth} {I5 : List Rul} {d6 F : List Fct} {V : List Int} {A : List Acs} {L : List Lin} {g k j i : Nat} {S : NoS}
end
section
variable {s : List Int} {l : List Mth} {I5 : List Rul} {d6 : List Fct} {O3 : List Int} {u : UU} {g i p n : Nat}
end
-- what is asked
def c0y (s : List Int) (l : List Mth) (I5 : List Rul) (d6 : List Fct) : Bool := (J3 s l && a5L s I5) && F1 s d6
def c2E (s : List Int) (l : List Mth) (I5 : List Rul) (d6 : List Fct) (O3 : List Int) : List Fct := if c0y s l I5 d6 then (c2h l I5 d6 O3).1 else []
end Go.Proofs.YthapcdhdfaibkaaGreatDoor
end
section
namespace Go.Proofs.YthapcdhdfaibkaaGreatDoor
open Go.RowKit
set_option linter.all false
def c0X (I5 : List Rul) (F : List Fct) : List Fct → List Value → List Value
  | [], _ => []
  | f :: M, cs => [.int .i64 (b7I I5 F f), .int .i64 0, .slice none 0 0] ++ (cs.take 2 ++ c0X I5 F M (cs.drop 2))
section
variable {n : Nat} {w0 w : World} {L0 Lp : List Nat} {fr : Fr} {H R pre rest : List HP} {G : Act → World → Prop} {a : Option Addr} {m c i : Nat} {cs oc mc : List Value} {xs M F : List Fct} {xs0 : List Lin} {I5 : List Rul}
theorem b1c {a : Option Addr} {m c : Nat} {xs : List Int} {w : World} {L : List Nat} (h : (ow eIs [.slice a m c] xs).holds w L) : m = xs.length ∧ (∀ x ∈ xs, I64 x) ∧ ∃ L1, (row tI 1 a m c (ints xs)).holds w L1 ∧ ∀ b ∈ L1, b ∈ L := by
  obtain ⟨ccs, L1, L2, rfl, g1, _, g3, g4⟩ := a1l h
  obtain ⟨rfl, h1, _⟩ := D8.ints.1 g3
  exact ⟨g1, h1, L1, g4, fun b hb => by simp [hb]⟩
theorem a3G {a : Option Addr} {m c : Nat} {xs : List Int} (j : Nat) (hm : ow eIs [.slice a m c] xs ∈ H) (hj : j < xs.length) (h : I64 xs[j] → Ent n w0 L0 fr H G) : Ent n w0 L0 fr H G := fun ac w h1 h2 => by
  obtain ⟨L, hL⟩ := h2.mem hm
  exact h ((b1c hL).2.1 _ (List.getElem_mem hj)) ac w h1 h2
theorem a2Q {a : Option Addr} {m c g j : Nat} {xs : List Int} (ha : a = some ⟨g, 0, none⟩) (hm : Go.Proofs.YthapcdhdfaibkaaGreatDoor.ow eIs [.slice a m c] xs ∈ H) (hj : j < xs.length) : Has w0 L0 H g (0 + j * 1) [.int .i64 xs[j]] := fun w h => by
  obtain ⟨L', hL⟩ := h.mem hm
  obtain ⟨g1, _, L1, g4, _⟩ := b1c hL
  obtain ⟨_, g5⟩ := g4
  rcases g5 with ⟨_, h0, _⟩ | ⟨g', cur, h2, h3, h4, h5, h6, h7, _⟩
  · omega
  rw [ha] at h2; cases h2
  intro i v hi
  have hi0 : i = 0 ∧ v = .int .i64 xs[j] := by
    rcases i with _ | i
    · simp at hi; exact ⟨rfl, hi.symm⟩
    · simp at hi
  obtain ⟨rfl, rfl⟩ := hi0
  have h8 : (ints xs)[j]? = some (.int .i64 xs[j]) := by simp [Go.Proofs.YthapcdhdfaibkaaGreatDoor.ints, hj]
  rw [← h7, List.getElem?_take] at h8
  split at h8
  · simpa [World.cell?, h3] using h8
  · cases h8
end
end Go.Proofs.YthapcdhdfaibkaaGreatDoor
end
section
namespace Go.Proofs.YthapcdhdfaibkaaGreatDoor
open Go.RowKit
set_option linter.all false
section
variable {α : Type} {E : Enc α} {n : Nat} {w0 : World} {L0 : List Nat} {fr : Fr} {R : List HP} {G : Act → World → Prop} {e : TypeId} {a : Option Addr} {m c : Nat} {xs : List α} {x : α}
def b9U (k m c : Nat) (tl cx : List Value) : Prop := m ≤ c ∧ c ≤ maxLen ∧ tl.length + k = c * k ∧ cx.length + k = m * k ∧ tl.take cx.length = cx
theorem b1v (hx : 0 < xs.length) (h : ∀ b ce tl cx, a = some ⟨b, 0, none⟩ ∧ m = xs.length ∧ b9U E.k m c tl cx → Ent n w0 L0 fr (pt b e (ce ++ tl) :: ow E ce (xs[0]'hx) :: els E cx (xs.drop 1) :: R) G) : Ent n w0 L0 fr (ow (Enc.sl e E) [.slice a m c] xs :: R) G := fun ac w h1 h2 => by
  obtain ⟨L, ⟨Lo, LR, rfl, ho, hR⟩, hn, hst⟩ := h2
  obtain ⟨ccs, L1, L2, rfl, g1, g2, g3, h0, g4⟩ := a1l ho
  match xs, hx, g1, g3, h with
  | x :: xs, hx, g1, g3, h =>
    obtain ⟨c1, c2, La, Lb, rfl, rfl, k1, k2⟩ := g3
    have e1 := E.len k1
    have e2 := k2.len
    rcases g4 with ⟨_, h3, _⟩ | ⟨g, cur, h2, h3, h4, h5, h6, h7, rfl⟩
    · simp at g1; omega
    · have e3 : cur.toList = c1 ++ cur.toList.drop E.k := by
        have h8 := congrArg (List.take E.k) h7
        rw [List.take_take, List.take_append_of_le_length (by omega), ← e1, List.take_length, e1, Nat.min_eq_left (by rw [g1]; simp only [List.length_cons, Nat.succ_mul]; omega)] at h8
        rw [← h8, List.take_append_drop]
      have hl : cur.toList.length = c * E.k := by simpa using h6
      refine h g c1 (cur.toList.drop E.k) c2 ⟨h2, g1, h4, h5, ?_, ?_, ?_⟩ ac w h1 ⟨[g] ++ (La ++ (Lb ++ LR)), ⟨[g], La ++ (Lb ++ LR), rfl, ⟨rfl, ?_⟩, La, Lb ++ LR, rfl, k1, Lb, LR, rfl, ?_, hR⟩, ?_, ?_⟩
      · have := congrArg List.length e3
        rw [List.length_append, hl] at this
        omega
      · rw [e2, g1, List.length_cons, Nat.succ_mul]
      · have h8 := h7
        rw [e3, ← e1, List.take_append, e1] at h8
        have h9 := (List.append_inj' h8 (by
          rw [List.length_take]
          have h10 : (cur.toList.drop E.k).length = c * E.k - E.k := by rw [List.length_drop, hl]
          have h11 : m * E.k = xs.length * E.k + E.k := by rw [g1, List.length_cons, Nat.succ_mul]
          have h12 : m * E.k ≤ c * E.k := Nat.mul_le_mul_right _ h4
          rw [h10, e2]; omega)).2
        rw [e2]
        have h11 : m * E.k - E.k = xs.length * E.k := by rw [g1, List.length_cons, Nat.succ_mul]; omega
        rwa [h11] at h9
      · rw [← e3]; exact h3
      · exact k2
      · simpa [List.append_assoc] using hn
      · simpa [List.append_assoc] using hst
theorem a1z {b : Nat} {ce tl cx : List Value} (hx : 0 < xs.length) (hk : a = some ⟨b, 0, none⟩ ∧ m = xs.length ∧ b9U E.k m c tl cx) (h : Ent n w0 L0 fr (ow (Enc.sl e E) [.slice a m c] (xs.set 0 x) :: R) G) :
    Ent n w0 L0 fr (pt b e (ce ++ tl) :: ow E ce x :: els E cx (xs.drop 1) :: R) G := fun ac w h1 h2 => by
  obtain ⟨L, ⟨L1, L2, rfl, ⟨rfl, p1⟩, La, L3, rfl, k1, Lb, LR, rfl, k2, hR⟩, hn, hst⟩ := h2
  obtain ⟨rfl, rfl, z1, z2, z3, z4, z5⟩ := hk
  match xs, hx, z1, z4, k2, h with
  | y :: xs, hx, z1, z4, k2, h =>
    have e1 := E.len k1
    have k2' : D8 E w cx xs Lb true := k2
    have e2 := k2'.len
    refine h ac w h1 ⟨([b] ++ (La ++ Lb)) ++ LR, ⟨[b] ++ (La ++ Lb), LR, rfl, ?_, hR⟩, by simpa [List.append_assoc] using hn, by simpa [List.append_assoc] using hst⟩
    refine ⟨_, _, c, ce ++ cx, [b], La ++ Lb, rfl, by simp, by simp only [List.length_cons] at z1 ⊢; omega, rfl, ⟨ce, cx, La, Lb, rfl, rfl, k1, k2'⟩, ?_⟩
    show (row _ _ _ _ _ _).holds _ _
    refine ⟨by rw [List.length_append, e1]; omega, .inr ⟨b, (ce ++ tl).toArray, rfl, p1, z1, z2, by simp; omega, ?_, rfl⟩⟩
    have h8 : (y :: xs).length * E.k = ce.length + cx.length := by omega
    rw [List.toList_toArray, h8, List.take_append, List.take_of_length_le (by omega), Nat.add_sub_cancel_left, z5]
end
end Go.Proofs.YthapcdhdfaibkaaGreatDoor
end
section
namespace Go.Proofs.YthapcdhdfaibkaaGreatDoor
open Go.RowKit
set_option linter.all false
theorem b7y {α : Type} {E : Enc α} {w : World} {L : List Nat} {e : TypeId} : Ro w L (Enc.sl e E) [.slice none 0 0] [] :=
  ⟨[], ⟨none, 0, 0, [], [], [], rfl, rfl, Nat.zero_le _, rfl, ⟨rfl, rfl⟩, ⟨⟨Nat.le_refl _, Nat.zero_le _⟩, .inl ⟨rfl, rfl⟩⟩⟩, by simp⟩
end Go.Proofs.YthapcdhdfaibkaaGreatDoor
end
section
namespace Go.Proofs.YthapcdhdfaibkaaGreatDoor
open Go.RowKit
set_option linter.all false
section
variable {P : Program} {n : Nat} {w0 : World} {L0 : List Nat} {fr : Fr} {H : List HP} {fn : Func} {κ : Type} {φ : κ → Prop} {ret : κ → Value} {post : κ → List HP} {wb : World} {Lb : List Nat}
end
end Go.Proofs.YthapcdhdfaibkaaGreatDoor
end
section
namespace Go.Proofs.YthapcdhdfaibkaaGreatDoor
open Go.RowKit
set_option linter.all false
set_option maxHeartbeats 2000000
attribute [local irreducible] Nop Yd Yp Ent Has Tr FnP FnP2 Src M5 U1 V6 W3 G3
variable {s : List Int} {b_c m_s c_s m_b c_b : Nat} {a_s a_b : Option Addr}
theorem a3x {bs : List UInt8} (h1 : 1 ≤ s.length) (hsz : ∀ z ∈ s, 1 ≤ z ∧ z ≤ 3) : Tr Tryz.prog 184 [.pointer (some ⟨b_c, 0, none⟩), .slice a_s m_s c_s] (fun w L => Ro w L eIs [.slice a_s m_s c_s] s ∧ Ro w L a0B [.slice a_b m_b c_b] bs) [cur b_c a_b m_b c_b] (κ := (List Int) × (List IL) × (SL) × SL) (fun k => dQ kT 3 2 k.1 k.2.1) (fun k => .agg #[.slice k.2.2.1.1 k.2.2.1.2.1 k.2.2.1.2.2, .slice k.2.2.2.1 k.2.2.2.2.1 k.2.2.2.2.2]) (fun k => [ow eIs [.slice k.2.2.1.1 k.2.2.1.2.1 k.2.2.1.2.2] k.1, ow B1 [.slice k.2.2.2.1 k.2.2.2.2.1 k.2.2.2.2.2] k.2.1, cur b_c a_b m_b c_b]) := by
 refine Ti2 Tryz.func184 79 rfl fun w L hR => ?_
 obtain ⟨hs, hbs⟩ := hR
 obtain ⟨rfl, ls⟩ := hs.slen
 obtain ⟨rfl, lb⟩ := hbs.slen
 refine Ew Z1<|Est rfl (N.alloc ty_Query dc)<|fun b4 _ => Ev Z3<|Ey rfl ((M4 (pvs := []) (cs := [_, _]) ty_Query b3l rfl rfl).yd)<|Est rfl (N.alloc ty_Query dc)<|fun b5 _ => Est rfl (Ns [_, _] ty_Query rfl)<|fun _ _ => Eu<|Eq_<|Ew Z4<|Em rfl<|i8<|Est rfl (N.call (pre := [_]) C4 rfl rfl rfl dc rfl<|fun w Lp hA => hA.ro hbs)<|fun x14 o14 => ?_
 try dsimp only at o14
 try (conv => arg 5; dsimp only [ca, na])
 refine Yad rfl om om<|Ei rfl<|Eu<|E.block<|l6 (A := []) (Own.nil (E := a1d) (e := tAtom) (a := none)) rfl<|E.loop (κ := Nat × (List<|IL) × SL) (fun g => g.1 ≤ (1 + x14).toNat ∧ g.2.1.length = g.1 ∧ ∀ a ∈ g.2.1, dA kT a) (fun g => [(0, .pointer<|some ⟨b_c, 0, none⟩), (1, .slice a_s s.length c_s), (4, .pointer<|some ⟨b4, 0, none⟩), (5, .pointer<|some ⟨b5, 0, none⟩), (6, .int .i64<|1 + x14 - (↑g.1 : Int))]) (fun g => [ow B1 [.slice g.2.2.1 g.2.2.2.1 g.2.2.2.2] g.2.1, cur b_c a_b bs.length c_b, pt b5 28 [.slice none 0 0, .slice g.2.2.1 g.2.2.2.1 g.2.2.2.2], pt b4 28 [.slice none 0 0, .slice none 0 0]]) (fun g => (1 + x14).toNat - g.1) (0, [], none, 0, 0) ⟨Nat.zero_le _, by simp⟩ ⟨rfl, rfl, rfl, rfl, frI om, trivial⟩ (.refl _)<|fun g pg => ?_
 obtain ⟨g, ats, aA0_1, mA0_1, cA0_1⟩ := g
 try dsimp only at pg
 try dsimp only
 obtain ⟨pk, pa⟩ := pg
 have pa0 := pa
 refine r8 m0 ?_
 rintro rfl laA0_1
 refine Eq_<|Ew Z2<|Em rfl<|Ey rfl ((Y.gtr rfl rfl).yd)<|l3 (fun q17 => ?_)<|fun q17 => ?_
 ·refine Eu<|Ct<|Eq_<|E.block<|Ew Z7<|Em rfl<|Em rfl<|Yln us_Is rfl<|f5<|Est rfl (N.call (pre := [_]) C4 rfl rfl rfl dc rfl<|fun w Lp hA => hA.ro hbs)<|fun x23 o23 => ?_
  try dsimp only at o23
  try (conv => arg 5; dsimp only [ca, na])
  have jx : x23.toNat < s.length := by omega
  have jz := hsz _ (List.getElem_mem jx)
  refine Ey rfl ((M4 (pvs := [_]) (cs := [_, _]) ty_Atom a7X rfl rfl).yd)<|Est rfl (N.alloc ty_Atom dc)<|fun b7 _ => Est rfl (Ns [_, _] ty_Atom rfl)<|fun _ _ => Eu<|Eq_<|Ew Z1<|Ei rfl<|Eu<|E.block<|l6 (A := []) (Own.nil (E := Enc.int) (e := tI) (a := none)) rfl<|Lo (κ := Nat × (List Int) × SL) (fun h => h.1 ≤ s[x23.toNat].toNat ∧ h.2.1.length = h.1 ∧ ∀ t ∈ h.2.1, kT t) (fun h => [(0, .pointer<|some ⟨b_c, 0, none⟩), (1, .slice a_s s.length c_s), (4, .pointer<|some ⟨b4, 0, none⟩), (5, .pointer<|some ⟨b5, 0, none⟩), (6, .int .i64<|1 + x14 - (g : Int)), (7, .pointer<|some ⟨b7, 0, none⟩), (8, .int .i64 (↑h.1 : Int))]) (fun h => [ow eIs [.slice h.2.2.1 h.2.2.2.1 h.2.2.2.2] h.2.1, pt b7 111 [.int .i64 x23, .slice h.2.2.1 h.2.2.2.1 h.2.2.2.2], cur b_c a_b bs.length c_b, ow B1 [.slice aA0_1 (ats).length cA0_1] ats, pt b5 28 [.slice none 0 0, .slice aA0_1 (ats).length cA0_1], pt b4 28 [.slice none 0 0, .slice none 0 0]]) (fun h => s[x23.toNat].toNat - h.1) (0, [], none, 0, 0) ⟨Nat.zero_le _, by simp⟩<|fun h ph => ?_
  obtain ⟨h, tms, aA1_0, mA1_0, cA1_0⟩ := h
  try dsimp only at ph
  try dsimp only
  obtain ⟨pk, pa⟩ := ph
  refine r8 m0 ?_
  rintro rfl laA1_0
  refine Eq_<|Ew Z7<|Em rfl<|Em rfl<|Lz fo_Atom_0 i7 rfl (mS m0) rfl ?_
  obtain ⟨eb29, eo29, ea29, ei29, eh29⟩ := hs.elemI x23.toNat om
  refine Il us_Is i7 rfl ea29 x23.toNat om om rfl (eh29 _)<|Ylt rfl<|l3 (fun q31 => ?_)<|fun q31 => ?_
  ·refine Eu<|Ct<|Eq_<|E.block<|Ew Z4<|Em rfl<|i8<|Est rfl (N.call (pre := [_]) C4 rfl rfl rfl dc rfl<|fun w Lp hA => hA.ro hbs)<|fun x35 o35 => ?_
   try dsimp only at o35
   try (conv => arg 5; dsimp only [ca, na])
   refine Yad rfl om om<|Ei rfl<|Eu<|Eq_<|Ew Z2<|Em rfl<|Est rfl (N.call (pre := [_]) a0g rfl rfl rfl dc rfl<|fun w Lp hA => hA.ro hbs)<|fun o38 o38 => ?_
   try dsimp only at o38
   try (conv => arg 5; dsimp only [ca, na])
   refine Ent.b (fun q38 => ?_)<|fun q38 => ?_
   ·refine Eu<|r6 rfl<|Ez Z3<|Em rfl<|Est rfl (N.call (pre := [_]) C4 rfl rfl rfl dc rfl<|fun w Lp hA => hA.ro hbs)<|fun x40 o40 => ?_
    try dsimp only at o40
    try (conv => arg 5; dsimp only [ca, na])
    refine Ei rfl<|Eu<|Ez Z7<|Lz fo_Atom_1 ty_Is rfl (mS<|mS m0) rfl<|Em rfl<|Est rfl (Nb [_] [_] us_Is i7 rfl rfl)<|fun b44 _ => i8<|Est rfl (B0 (E := Enc.int) (ex := x40) us_Is i7 rfl rfl rfl (Own.int i6) rfl bn bn dc)<|fun p45 _ => Ey rfl ((C2 fo_Atom_1 ty_Is dc rfl).yd)<|i8<|Est rfl (Ns [_, _] ty_Is rfl)<|fun _ _ => En<|o6<|Et<|Ez Z3<|Em rfl<|Yad rfl om om<|Ei rfl<|Eu<|y7<|y7<|y7<|y7<|s4<|y7 ?_
    exact Ea (h + 1, tms ++ [x40], p45.1, ((tms).length + 1), p45.2) ⟨oz, (show (tms ++ [x40]).length = (h + 1) ∧ ∀ t ∈ (tms ++ [x40]), kT t from by exact b2l pa (by unfold kT; omega))⟩
   ·refine Eu<|Cf<|Ez Z7<|Lz fo_Atom_1 ty_Is rfl (mS<|mS m0) rfl<|Em rfl<|Est rfl (Nb [_] [_] us_Is i7 rfl rfl)<|fun b44 _ => i8<|Est rfl (B0 (E := Enc.int) (ex := (10 + x35)) us_Is i7 rfl rfl rfl (Own.int i6) rfl bn bn dc)<|fun p45 _ => Ey rfl ((C2 fo_Atom_1 ty_Is dc rfl).yd)<|i8<|Est rfl (Ns [_, _] ty_Is rfl)<|fun _ _ => En<|o6<|Et<|Ez Z3<|Em rfl<|Yad rfl om om<|Ei rfl<|Eu<|y7<|y7<|y7<|y7<|s4<|y7 ?_
    exact Ea (h + 1, tms ++ [(10 + x35)], p45.1, ((tms).length + 1), p45.2) ⟨oz, (show (tms ++ [(10 + x35)]).length = (h + 1) ∧ ∀ t ∈ (tms ++ [(10 + x35)]), kT t from by exact b2l pa (by unfold kT; omega))⟩
  ·refine Eu<|r7 rfl<|E.exit<|l4<|l4<|w8<|Et<|Ez Z7<|Lz fo_Query_1 ty_Atoms rfl (mS<|mS<|mS<|mS m0) rfl<|Ey rfl (k7 (cs := [_, _]) ty_Atom rfl (Has.pt<|mS m0) rfl)<|Est rfl (Nb [_] [_, _] us_Atoms ty_Atom rfl rfl)<|fun b50 _ => f5<|f5<|s4<|Est rfl (B0 (E := a1d) (ex := (x23, tms)) us_Atoms ty_Atom rfl rfl rfl (V5 (x := (x23, tms)) i6 Own.ow) rfl bn bn dc)<|fun p51 _ => Ey rfl ((C2 fo_Query_1 ty_Atoms dc rfl).yd)<|a4G<|Est rfl (Ns [_, _] ty_Atoms rfl)<|fun _ _ => En<|o6<|Et<|Ez Z3<|Em rfl<|Ey rfl ((Y.sub rfl rfl om om).yd)<|Ei rfl<|Eu<|i8<|Ent.drop<|a4G<|f5<|a4G<|a4G ?_
   exact t7 br (g + 1, ats ++ [(x23, tms)], p51.1, ((ats).length + 1), p51.2) ⟨rfl, rfl, rfl, rfl, frI om, trivial⟩ (.refl _) ⟨oz, (show (ats ++ [(x23, tms)]).length = (g + 1) ∧ ∀ a ∈ (ats ++ [(x23, tms)]), dA kT a from by exact b8U pa0 om om pa.2)⟩ oz
 ·have pb := pa0
  have jv := b6k (is := fun t => inR t 10 17) (show ats.length ≤ 3 by omega) pa0.2
  refine Eu<|r7 rfl<|E.exit<|l4<|l4<|w8<|Et<|Ew Z3<|Ey rfl (k7 (cs := [_, _]) ty_Query rfl (Has.pt<|mS<|mS m0) rfl)<|El rfl (a0A<|b8A om pa0.2) rfl (fun hA => ⟨b7y, hA.ow m0⟩)<|fun a54 c54 l54 => Ei rfl<|Eu<|Eq_<|Ew Z1<|Ei rfl<|Eu<|E.block<|l6 (A := []) (Own.nil (E := Enc.int) (e := tI) (a := none)) rfl<|Lo (κ := Nat × (List Int) × SL) (fun r => r.1 ≤ (u7 (fun t => inR t 10 17) ats).length ∧ r.2.1.length ≤ 2) (fun r => [(0, .pointer<|some ⟨b_c, 0, none⟩), (4, .pointer<|some ⟨b4, 0, none⟩), (5, .pointer<|some ⟨b5, 0, none⟩), (10, .slice a54 (u7 (fun t => inR t 10 17) ats).length c54), (11, .int .i64 (↑r.1 : Int))]) (fun r => [ow eIs [.slice r.2.2.1 r.2.2.2.1 r.2.2.2.2] r.2.1, ow eIs [.slice a54 (u7 (fun t => inR t 10 17) ats).length c54]<|u7 (fun t => inR t 10 17) ats, ow B1 [.slice aA0_1 (ats).length cA0_1] ats, cur b_c a_b bs.length c_b, pt b5 28 [.slice r.2.2.1 r.2.2.2.1 r.2.2.2.2, .slice aA0_1 (ats).length cA0_1], pt b4 28 [.slice none 0 0, .slice none 0 0]]) (fun r => (u7 (fun t => inR t 10 17) ats).length - r.1) (0, [], none, 0, 0) ⟨Nat.zero_le _, by simp⟩<|fun r pr => ?_
  obtain ⟨r, hd, aA2_0, mA2_0, cA2_0⟩ := r
  try dsimp only at pr
  try dsimp only
  obtain ⟨pk, pa⟩ := pr
  refine r8 m0 ?_
  rintro rfl laA2_0
  refine Eq_<|Ew Z10<|Em rfl<|Em rfl<|Yln us_Is rfl<|Ylt rfl<|l3 (fun q58 => ?_)<|fun q58 => ?_
  ·refine Em rfl<|Lz fo_Query_0 ty_Is rfl (mS<|mS<|mS<|mS m0) rfl<|Yln us_Is rfl<|Ylt rfl<|l3 (fun q63 => ?_)<|fun q63 => ?_
   ·refine Ypt rfl<|Eu<|Ct<|Eq_<|E.block<|Ew Z2<|Em rfl<|a4G<|Est rfl (N.call (pre := [_]) a0g rfl rfl rfl dc rfl<|fun w Lp hA => hA.ro hbs)<|fun o68 o68 => ?_
    try dsimp only at o68
    try (conv => arg 5; dsimp only [ca, na])
    refine Ent.b (fun q68 => ?_)<|fun q68 => ?_
    ·refine Eu<|r6 rfl<|D.region (fun j => !(Nat.beq j 7) && !(Nat.beq j 9)) mixed<|Df 0 1 fo_Query_0 ty_Is rfl (Hz (mS<|mS<|mS<|mS m0) 0 rfl)<|Dm 2 rfl<|Dm 3 rfl<|Y6 (mS<|mS m0) om fun ab73 ae73 => a3G r (mS<|mS m0) om fun ei73 => Dyp 4 rfl (z8 us_Is i7 rfl ae73 rfl r rfl om)<|Dy 5 rfl (B4 i7 rfl (a2Q ae73 (mS<|mS m0) om) rfl)<|E7 6 rfl rfl kr (fun _ => rfl) (Nb [_] [_] us_Is i7 rfl rfl)<|fun b75 _ => i8<|E7 7 rfl rfl kr (fun h => by cases h) (B0 (E := Enc.int) (ex := (u7 (fun t => inR t 10 17) ats)[r]) us_Is i7 rfl rfl rfl (Own.int ei73) rfl bn bn dc)<|fun p76 _ => Dyp 8 rfl (C2 fo_Query_0 ty_Is dc rfl)<|s4<|E7 9 rfl rfl kr (fun h => by cases h) (Ns [_, _] ty_Is rfl)<|fun _ _ => n9 kr<|o6<|Et<|Ez Z3<|Em rfl<|Yad rfl om om<|Ei rfl<|Eu<|y7<|f5<|a4G<|y7<|y7<|y7 ?_
     exact Ea (r + 1, hd ++ [(u7 (fun t => inR t 10 17) ats)[r]], p76.1, ((hd).length + 1), p76.2) ⟨oz, (show (hd ++ [(u7 (fun t => inR t 10 17) ats)[r]]).length ≤ 2 from by first | omega | (simp only [List.length_append, List.length_singleton]; omega))⟩
    ·refine Eu<|r7 rfl<|v8<|o6<|Et<|Ez Z3<|Em rfl<|Yad rfl om om<|Ei rfl<|Eu<|y7<|y7<|i8<|y7<|y7<|y7 ?_
     exact Ea (r + 1, hd, aA2_0, _, cA2_0) ⟨oz, (show hd.length ≤ 2 from by first | omega | (simp only [List.length_append, List.length_singleton]; omega))⟩
   ·refine Ypt rfl<|Eu<|r7 rfl<|E.exit<|l4<|l4<|w8<|Et<|Ew Z2<|Ey rfl (k7 (cs := [_, _]) ty_Query rfl (Has.pt<|mS<|mS<|mS<|mS m0) rfl)<|y7<|Est rfl (Ns [_, _] ty_Query rfl)<|fun _ _ => Eu<|E.ret<|a4G<|i8<|s4<|i8<|i8<|S0 br rfl rfl (mS<|mS<|mS m0) ty_Query rfl (hd, ats, (_, _, _), (_, _, _)) (show dQ kT 3 2 hd ats from by exact ⟨⟨by omega, by omega⟩, pb.2, by omega⟩) rfl (J := _) (.refl _)<|.inl rfl
  ·refine Em rfl<|Es rfl<|Es rfl<|Es rfl<|Es rfl<|Ypf rfl<|Eu<|r7 rfl<|E.exit<|l4<|l4<|w8<|Et<|Ew Z2<|Ey rfl (k7 (cs := [_, _]) ty_Query rfl (Has.pt<|mS<|mS<|mS<|mS m0) rfl)<|y7<|Est rfl (Ns [_, _] ty_Query rfl)<|fun _ _ => Eu<|E.ret<|a4G<|i8<|s4<|i8<|i8<|S0 br rfl rfl (mS<|mS<|mS m0) ty_Query rfl (hd, ats, (_, _, _), (_, _, _)) (show dQ kT 3 2 hd ats from by exact ⟨⟨by omega, by omega⟩, pb.2, by omega⟩) rfl (J := _) (.refl _)<|.inl rfl
theorem b2Z {bs : List UInt8} : Tr Tryz.prog 287 [.pointer (some ⟨b_c, 0, none⟩), .slice a_s m_s c_s] (fun w L => Ro w L eIs [.slice a_s m_s c_s] s ∧ Ro w L a0B [.slice a_b m_b c_b] bs) [cur b_c a_b m_b c_b] (κ := (List Int) × (List IL) × (SL) × SL) (fun k => dQ dT 3 3 k.1 k.2.1) (fun k => .agg #[.slice k.2.2.1.1 k.2.2.1.2.1 k.2.2.1.2.2, .slice k.2.2.2.1 k.2.2.2.2.1 k.2.2.2.2.2]) (fun k => [ow eIs [.slice k.2.2.1.1 k.2.2.1.2.1 k.2.2.1.2.2] k.1, ow B1 [.slice k.2.2.2.1 k.2.2.2.2.1 k.2.2.2.2.2] k.2.1, cur b_c a_b m_b c_b]) := by
 refine Ti2 Tryz.func287 48 rfl fun w L hR => ?_
 obtain ⟨hs, hbs⟩ := hR
 obtain ⟨rfl, ls⟩ := hs.slen
 obtain ⟨rfl, lb⟩ := hbs.slen
 refine Ew Z1<|Est rfl (N.alloc ty_Query dc)<|fun b4 _ => Ev Z6<|Est rfl (Nb [_] [_] us_Is i7 rfl rfl)<|fun b6 _ => l6 (A := _ :: _) (U5 (E := Enc.int) (e := tI)<|Own.int i6) rfl<|Ey rfl ((M4 (pvs := [_]) (cs := [_, _]) ty_Atom a7X rfl rfl).yd)<|Est rfl (Nb [_] [_, _] us_Atoms ty_Atom rfl rfl)<|fun b8 _ => f5<|f5<|l6 (A := _ :: _) (U5 (E := a1d) (e := tAtom)<|V5 (x := (0, [10])) i6 Own.ow) rfl<|Ey rfl ((M4 (pvs := [_]) (cs := [_, _]) ty_Query b3l rfl rfl).yd)<|Est rfl (N.alloc ty_Query dc)<|fun b5 _ => Est rfl (Ns [_, _] ty_Query rfl)<|fun _ _ => Eu<|Eq_<|Ew Z2<|Em rfl<|E0 rfl R6 rfl (fun hA => hA.ro hs)<|Ent.b (fun q11 => ?_)<|fun q11 => ?_
 ·refine Eu<|r6 rfl<|Ez Z4<|Em rfl<|Em rfl<|a4G<|Est rfl (N.call (pre := [_]) (a3x (a1H q11).1 (a1H q11).2.2) rfl rfl rfl dc rfl<|fun w Lp hA => ⟨hA.ro hs, hA.ro hbs⟩)<|fun k14 o14 => ?_
  obtain ⟨hq14, aq14, ⟨a14_0, m14_0, c14_0⟩, ⟨a14_1, m14_1, c14_1⟩⟩ := k14
  try dsimp only at o14
  try (conv => arg 4; dsimp only)
  try (conv => arg 5; dsimp only [ca, na])
  have jb := And.intro o14.up o14.2.2
  have jl := jb.1.1
  have jh := jb.2
  have jt := (jb.1.2.1 _ (List.getElem_mem (show 0 < aq14.length by omega))).1
  refine r8 m0 ?_
  rintro rfl l14_0
  refine r8 (mS m0) ?_
  rintro rfl l14_1
  refine a4G<|Est rfl (Ns [_, _] ty_Query rfl)<|fun _ _ => Eu<|Eq_<|Ew Z2<|Em rfl<|a4G<|Est rfl (N.call (pre := [_]) C4 rfl rfl rfl dc rfl<|fun w Lp hA => hA.ro hbs)<|fun x16 o16 => ?_
  try dsimp only at o16
  try (conv => arg 5; dsimp only [ca, na])
  refine Eu<|E.block<|Ew Z2<|Yeq rfl<|a4G<|b1v om fun hb90 hce90 htl90 hcx90 hok90 => f5<|a7J fun oa90_1 om90_1 oc90_1 oe90 oi90_0 on90_1 => ?_
  subst oe90
  subst on90_1
  refine r8 m0 fun _ ol90_1 => Ei rfl<|l3 (fun q17 => ?_)<|fun q17 => ?_
  ·refine Eu<|r6 rfl<|S7 [hb90, b5, b4] (fun j => !(Nat.beq j 8)) mixed<|C1 0 rfl rfl dc (C2 fo_Query_0 ty_Is dc rfl) kr<|a0a 1 rfl rfl dc (W9 ty_Is rfl ((S3.pt (mS<|mS<|mS<|mS m0) (by simp)).sub (cs' := [_]) 0 rfl) rfl) kr<|C1 2 rfl rfl dc (O5 rfl) kr<|G2 3 rfl rfl kr (fun _ _ => SameI.out) (Nb [_, _, _, _] [_, _, _, _] us_Is i7 rfl rfl)<|fun b22 _ => l6 (A := [_]) (Own.ints (e := tI) (xs := [17, 18, 3, -1]) rfl (by simp [maxLen]) (by simp only [List.forall_mem_cons]; exact ⟨i6, i6, i6, i6, List.forall_mem_nil _⟩)) rfl<|s4<|G2 4 rfl rfl kr (fun _ _ => SameI.out) (N.call (pre := [_]) (M0 dc) rfl rfl rfl dc rfl<|fun w Lp hA => ⟨hA.ow m0, hA.ro hbs⟩)<|fun x23 o23 => ?_
   try dsimp only at o23
   try (conv => arg 5; dsimp only [ca, na])
   have jp : -10 ≤ x23 ∧ x23 ≤ 20 := by simp at o23; omega
   refine G2 5 rfl rfl kr (fun _ _ => SameI.out) (Nb [_] [_] us_Is i7 rfl rfl)<|fun b24 _ => H4<|G2 6 rfl rfl kr (fun _ _ => SameI.out) (B0 (E := Enc.int) (ex := x23) us_Is i7 rfl rfl rfl (Own.int i6) rfl bn bn dc)<|fun p25 _ => C1 7 rfl rfl dc (C2 fo_Query_0 ty_Is dc rfl) kr<|w7<|G2 8 rfl rfl kr (fun h => by cases h) (Ns [_, _] ty_Is rfl)<|fun _ _ => U6 kr<|o6<|Et<|Ew Z2<|w7<|w7<|w7<|l6 (A := [_]) (V5 (x := aq14[0]) oi90_0 Own.ow) rfl<|f5<|a1z (xs := aq14) (ce := [_, _]) om hok90<|g9 (congrArg (ow B1 [_])<|List.set_getElem_self (show 0 < List.length aq14 by omega))<|Ey rfl (k7 (cs := [_, _]) ty_Query rfl (Has.pt<|mS m0) rfl)<|w7<|Est rfl (Ns [_, _] ty_Query rfl)<|fun _ _ => Eu<|E.ret<|f5<|a4G<|s4<|i8<|i8<|S0 br rfl rfl (mS<|mS<|mS m0) ty_Query rfl (hq14 ++ [x23], aq14, (_, _, _), (_, _, _)) (show dQ dT 3 3 (hq14 ++ [x23]) aq14 from by exact b3S jb) rfl (J := _) (.refl _)<|.inl rfl
  ·refine Eu<|r7 rfl<|Ew Z2<|Yeq rfl<|Ei rfl<|l3 (fun q27 => ?_)<|fun q27 => ?_
   ·refine Eu<|r6 rfl<|S7 [hb90, b5, b4] (fun j => !(Nat.beq j 9)) mixed<|C1 0 rfl rfl dc (C2 fo_Query_1 ty_Atoms dc rfl) kr<|a0a 1 rfl rfl dc (W9 ty_Atoms rfl ((S3.pt (mS<|mS<|mS<|mS m0) (by simp)).sub (cs' := [_]) 1 rfl) rfl) kr<|C1 2 rfl rfl dc (z8 us_Atoms ty_Atom rfl hok90.1 rfl 0 rfl om) kr<|C1 3 rfl rfl dc (C2 fo_Atom_1 ty_Is dc rfl) kr<|a0a 4 rfl rfl dc (W9 ty_Is rfl ((S3.pt (mS m0) (by simp)).sub (cs' := [_]) 1 rfl) rfl) kr<|C1 5 rfl rfl dc (O5 rfl) kr<|G2 6 rfl rfl kr (fun _ _ => SameI.out) (Nb [_, _, _, _] [_, _, _, _] us_Is i7 rfl rfl)<|fun b35 _ => l6 (A := [_]) (Own.ints (e := tI) (xs := [-1, 9, 17, 18]) rfl (by simp [maxLen]) (by simp only [List.forall_mem_cons]; exact ⟨i6, i6, i6, i6, List.forall_mem_nil _⟩)) rfl<|s4<|G2 7 rfl rfl kr (fun _ _ => SameI.out) (N.call (pre := [_]) (M0 dc) rfl rfl rfl dc rfl<|fun w Lp hA => ⟨hA.ow m0, hA.ro hbs⟩)<|fun x36 o36 => ?_
    try dsimp only at o36
    try (conv => arg 5; dsimp only [ca, na])
    have jp : -10 ≤ x36 ∧ x36 ≤ 20 := by simp at o36; omega
    have jd : dT x36 := by simp at o36; unfold dT; omega
    refine Y6 (mS<|mS m0) om fun ab37 ae37 => C1 8 rfl rfl dc (z8 us_Is i7 rfl ae37 rfl 0 rfl om) kr<|i8<|G2 9 rfl rfl kr (fun _ _ => SameI.out) (N.set (E := Enc.int) (j := 0) (ex := x36) (ce := [_]) i7 rfl rfl rfl rfl (Own.int i6) ae37 (Nat.zero_add _) rfl (by first | (simp; omega) | omega | (simp; done)))<|fun _ _ => U6 kr<|o6<|Et<|Ew Z2<|s4<|s4<|i8<|l6 (A := [_]) (V5 (x := (aq14[0].1, aq14[0].2.set 0 x36)) oi90_0 Own.ow) rfl<|f5<|a1z (xs := aq14) (ce := [_, _]) om hok90<|Ey rfl (k7 (cs := [_, _]) ty_Query rfl (Has.pt<|mS<|mS<|mS m0) rfl)<|w7<|Est rfl (Ns [_, _] ty_Query rfl)<|fun _ _ => Eu<|E.ret<|f5<|y7<|a4G<|i8<|i8<|S0 br rfl rfl (mS<|mS<|mS m0) ty_Query rfl (hq14, aq14.set 0 (aq14[0].1, aq14[0].2.set 0 x36), (_, _, _), (_, _, _)) (show dQ dT 3 3 hq14 (aq14.set 0 (aq14[0].1, aq14[0].2.set 0 x36)) from by exact b4i jb.1 jd) rfl (J := _) (.refl _)<|.inl rfl
   ·refine Eu<|r7 rfl<|Ew Z2<|Yeq rfl<|Ei rfl<|l3 (fun q38 => ?_)<|fun q38 => ?_
    ·refine Eu<|r6 rfl<|S7 [hb90, b5, b4] (fun j => !(Nat.beq j 7)) mixed<|C1 0 rfl rfl dc (C2 fo_Query_1 ty_Atoms dc rfl) kr<|a0a 1 rfl rfl dc (W9 ty_Atoms rfl ((S3.pt (mS<|mS<|mS<|mS m0) (by simp)).sub (cs' := [_]) 1 rfl) rfl) kr<|C1 2 rfl rfl dc (O5 rfl) kr<|a4G<|G2 3 rfl rfl kr (fun _ _ => SameI.out) (N.call (pre := [_]) C4 rfl rfl rfl dc rfl<|fun w Lp hA => hA.ro hbs)<|fun x43 o43 => ?_
     try dsimp only at o43
     try (conv => arg 5; dsimp only [ca, na])
     refine C1 4 rfl rfl dc (Y.sub rfl rfl om om) kr<|C1 5 rfl rfl dc (z8 us_Atoms ty_Atom rfl hok90.1 rfl 0 rfl om) kr<|C1 6 rfl rfl dc (C2 fo_Atom_0 i7 dc rfl) kr<|i8<|G2 7 rfl rfl kr (fun h => by cases h) (a8d (vs := [_]) (cs' := [_, _] ++ htl90) i7 rfl rfl rfl rfl rfl bl rfl)<|fun _ _ => U6 kr<|o6<|Et<|Ew Z2<|a4G<|f5<|a4G<|l6 (A := [_]) (V5 (x := ((x43 - 1), aq14[0].2)) i6 Own.ow) rfl<|f5<|a1z (xs := aq14) (ce := [_, _]) om hok90<|Ey rfl (k7 (cs := [_, _]) ty_Query rfl (Has.pt<|mS<|mS m0) rfl)<|y7<|Est rfl (Ns [_, _] ty_Query rfl)<|fun _ _ => Eu<|E.ret<|f5<|s4<|a4G<|i8<|i8<|S0 br rfl rfl (mS<|mS<|mS m0) ty_Query rfl (hq14, aq14.set 0 ((x43 - 1), aq14[0].2), (_, _, _), (_, _, _)) (show dQ dT 3 3 hq14 (aq14.set 0 ((x43 - 1), aq14[0].2)) from by exact b6d jb.1) rfl (J := _) (.refl _)<|.inl rfl
    ·refine Eu<|r7 rfl<|v8<|o6<|Et<|Ew Z2<|i8<|i8<|i8<|l6 (A := [_]) (V5 (x := aq14[0]) oi90_0 Own.ow) rfl<|f5<|a1z (xs := aq14) (ce := [_, _]) om hok90<|g9 (congrArg (ow B1 [_])<|List.set_getElem_self (show 0 < List.length aq14 by omega))<|Ey rfl (k7 (cs := [_, _]) ty_Query rfl (Has.pt<|mS<|mS m0) rfl)<|y7<|Est rfl (Ns [_, _] ty_Query rfl)<|fun _ _ => Eu<|E.ret<|f5<|s4<|a4G<|i8<|i8<|S0 br rfl rfl (mS<|mS<|mS m0) ty_Query rfl (hq14, aq14, (_, _, _), (_, _, _)) (show dQ dT 3 3 hq14 aq14 from by exact jb.1) rfl (J := _) (.refl _)<|.inl rfl
 ·have jb := b8Z
  refine Eu<|Cf<|Eq_<|Ew Z2<|Em rfl<|a4G<|Est rfl (N.call (pre := [_]) C4 rfl rfl rfl dc rfl<|fun w Lp hA => hA.ro hbs)<|fun x16 o16 => ?_
  try dsimp only at o16
  try (conv => arg 5; dsimp only [ca, na])
  refine Eu<|E.block<|Ew Z2<|Yeq rfl ?_
  obtain ⟨aq0, haq⟩ : ∃ z : List IL, z = [(0, [10])] := ⟨_, rfl⟩
  rw [← haq] at jb
  have jl := jb.1.1
  have jh := jb.2
  have jt := (jb.1.2.1 _ (List.getElem_mem (show 0 < aq0.length by omega))).1
  refine i8<|g9 (congrArg (ow B1 [_]) haq.symm)<|b1v om fun hb90 hce90 htl90 hcx90 hok90 => f5<|a7J fun oa90_1 om90_1 oc90_1 oe90 oi90_0 on90_1 => ?_
  subst oe90
  subst on90_1
  refine r8 m0 fun _ ol90_1 => Ei rfl<|l3 (fun q17 => ?_)<|fun q17 => ?_
  ·refine Eu<|r6 rfl<|S7 [hb90, b5, b4] (fun j => !(Nat.beq j 8)) mixed<|C1 0 rfl rfl dc (C2 fo_Query_0 ty_Is dc rfl) kr<|a0a 1 rfl rfl dc (W9 ty_Is rfl ((S3.pt (mS<|mS<|mS<|mS m0) (by simp)).sub (cs' := [_]) 0 rfl) rfl) kr<|C1 2 rfl rfl dc (O5 rfl) kr<|G2 3 rfl rfl kr (fun _ _ => SameI.out) (Nb [_, _, _, _] [_, _, _, _] us_Is i7 rfl rfl)<|fun b22 _ => l6 (A := [_]) (Own.ints (e := tI) (xs := [17, 18, 3, -1]) rfl (by simp [maxLen]) (by simp only [List.forall_mem_cons]; exact ⟨i6, i6, i6, i6, List.forall_mem_nil _⟩)) rfl<|s4<|G2 4 rfl rfl kr (fun _ _ => SameI.out) (N.call (pre := [_]) (M0 dc) rfl rfl rfl dc rfl<|fun w Lp hA => ⟨hA.ow m0, hA.ro hbs⟩)<|fun x23 o23 => ?_
   try dsimp only at o23
   try (conv => arg 5; dsimp only [ca, na])
   have jp : -10 ≤ x23 ∧ x23 ≤ 20 := by simp at o23; omega
   refine G2 5 rfl rfl kr (fun _ _ => SameI.out) (Nb [_] [_] us_Is i7 rfl rfl)<|fun b24 _ => l6 (A := []) (Own.nil (E := Enc.int) (e := tI) (a := none)) rfl<|f5<|f5<|G2 6 rfl rfl kr (fun _ _ => SameI.out) (B0 (E := Enc.int) (ex := x23) us_Is i7 rfl rfl rfl (Own.int i6) rfl bn bn dc)<|fun p25 _ => C1 7 rfl rfl dc (C2 fo_Query_0 ty_Is dc rfl) kr<|w7<|G2 8 rfl rfl kr (fun h => by cases h) (Ns [_, _] ty_Is rfl)<|fun _ _ => U6 kr<|o6<|Et<|Ew Z2<|w7<|w7<|w7<|l6 (A := [_]) (V5 (x := aq0[0]) oi90_0 Own.ow) rfl<|f5<|a1z (xs := aq0) (ce := [_, _]) om hok90<|g9 (congrArg (ow B1 [_])<|List.set_getElem_self (show 0 < List.length aq0 by omega))<|Ey rfl (k7 (cs := [_, _]) ty_Query rfl (Has.pt<|mS m0) rfl)<|y7<|Est rfl (Ns [_, _] ty_Query rfl)<|fun _ _ => Eu<|E.ret<|f5<|a4G<|s4<|i8<|i8<|S0 br rfl rfl (mS<|mS<|mS m0) ty_Query rfl ([] ++ [x23], aq0, (_, _, _), (_, _, _)) (show dQ dT 3 3 ([] ++ [x23] : List Int) aq0 from by exact b3S jb) rfl (J := _) (.refl _)<|.inl rfl
  ·refine Eu<|r7 rfl<|Ew Z2<|Yeq rfl<|Ei rfl<|l3 (fun q27 => ?_)<|fun q27 => ?_
   ·refine Eu<|r6 rfl<|S7 [hb90, b5, b4] (fun j => !(Nat.beq j 9)) mixed<|C1 0 rfl rfl dc (C2 fo_Query_1 ty_Atoms dc rfl) kr<|a0a 1 rfl rfl dc (W9 ty_Atoms rfl ((S3.pt (mS<|mS<|mS<|mS m0) (by simp)).sub (cs' := [_]) 1 rfl) rfl) kr<|C1 2 rfl rfl dc (z8 us_Atoms ty_Atom rfl hok90.1 rfl 0 rfl om) kr<|C1 3 rfl rfl dc (C2 fo_Atom_1 ty_Is dc rfl) kr<|a0a 4 rfl rfl dc (W9 ty_Is rfl ((S3.pt (mS m0) (by simp)).sub (cs' := [_]) 1 rfl) rfl) kr<|C1 5 rfl rfl dc (O5 rfl) kr<|G2 6 rfl rfl kr (fun _ _ => SameI.out) (Nb [_, _, _, _] [_, _, _, _] us_Is i7 rfl rfl)<|fun b35 _ => l6 (A := [_]) (Own.ints (e := tI) (xs := [-1, 9, 17, 18]) rfl (by simp [maxLen]) (by simp only [List.forall_mem_cons]; exact ⟨i6, i6, i6, i6, List.forall_mem_nil _⟩)) rfl<|s4<|G2 7 rfl rfl kr (fun _ _ => SameI.out) (N.call (pre := [_]) (M0 dc) rfl rfl rfl dc rfl<|fun w Lp hA => ⟨hA.ow m0, hA.ro hbs⟩)<|fun x36 o36 => ?_
    try dsimp only at o36
    try (conv => arg 5; dsimp only [ca, na])
    have jp : -10 ≤ x36 ∧ x36 ≤ 20 := by simp at o36; omega
    have jd : dT x36 := by simp at o36; unfold dT; omega
    refine Y6 (mS<|mS m0) om fun ab37 ae37 => C1 8 rfl rfl dc (z8 us_Is i7 rfl ae37 rfl 0 rfl om) kr<|i8<|G2 9 rfl rfl kr (fun _ _ => SameI.out) (N.set (E := Enc.int) (j := 0) (ex := x36) (ce := [_]) i7 rfl rfl rfl rfl (Own.int i6) ae37 (Nat.zero_add _) rfl (by first | (simp; omega) | omega | (simp; done)))<|fun _ _ => U6 kr<|o6<|Et<|Ew Z2<|s4<|s4<|i8<|l6 (A := [_]) (V5 (x := (aq0[0].1, aq0[0].2.set 0 x36)) oi90_0 Own.ow) rfl<|f5<|a1z (xs := aq0) (ce := [_, _]) om hok90<|Ey rfl (k7 (cs := [_, _]) ty_Query rfl (Has.pt<|mS<|mS<|mS m0) rfl)<|s4<|Est rfl (Ns [_, _] ty_Query rfl)<|fun _ _ => Eu<|E.ret<|f5<|l6 (A := []) (Own.nil (E := Enc.int) (e := tI) (a := none)) rfl<|a4G<|i8<|i8<|S0 br rfl rfl (mS<|mS<|mS m0) ty_Query rfl ([], aq0.set 0 (aq0[0].1, aq0[0].2.set 0 x36), (none, 0, 0), (_, _, _)) (show dQ dT 3 3 ([] : List Int) (aq0.set 0 (aq0[0].1, aq0[0].2.set 0 x36)) from by exact b4i jb.1 jd) rfl (J := _) (.refl _)<|.inl rfl
   ·refine Eu<|r7 rfl<|Ew Z2<|Yeq rfl<|Ei rfl<|l3 (fun q38 => ?_)<|fun q38 => ?_
    ·refine Eu<|r6 rfl<|S7 [hb90, b5, b4] (fun j => !(Nat.beq j 7)) mixed<|C1 0 rfl rfl dc (C2 fo_Query_1 ty_Atoms dc rfl) kr<|a0a 1 rfl rfl dc (W9 ty_Atoms rfl ((S3.pt (mS<|mS<|mS<|mS m0) (by simp)).sub (cs' := [_]) 1 rfl) rfl) kr<|C1 2 rfl rfl dc (O5 rfl) kr<|a4G<|G2 3 rfl rfl kr (fun _ _ => SameI.out) (N.call (pre := [_]) C4 rfl rfl rfl dc rfl<|fun w Lp hA => hA.ro hbs)<|fun x43 o43 => ?_
     try dsimp only at o43
     try (conv => arg 5; dsimp only [ca, na])
     refine C1 4 rfl rfl dc (Y.sub rfl rfl om om) kr<|C1 5 rfl rfl dc (z8 us_Atoms ty_Atom rfl hok90.1 rfl 0 rfl om) kr<|C1 6 rfl rfl dc (C2 fo_Atom_0 i7 dc rfl) kr<|i8<|G2 7 rfl rfl kr (fun h => by cases h) (a8d (vs := [_]) (cs' := [_, _] ++ htl90) i7 rfl rfl rfl rfl rfl bl rfl)<|fun _ _ => U6 kr<|o6<|Et<|Ew Z2<|a4G<|f5<|a4G<|l6 (A := [_]) (V5 (x := ((x43 - 1), aq0[0].2)) i6 Own.ow) rfl<|f5<|a1z (xs := aq0) (ce := [_, _]) om hok90<|Ey rfl (k7 (cs := [_, _]) ty_Query rfl (Has.pt<|mS<|mS m0) rfl)<|a4G<|Est rfl (Ns [_, _] ty_Query rfl)<|fun _ _ => Eu<|E.ret<|f5<|l6 (A := []) (Own.nil (E := Enc.int) (e := tI) (a := none)) rfl<|a4G<|i8<|i8<|S0 br rfl rfl (mS<|mS<|mS m0) ty_Query rfl ([], aq0.set 0 ((x43 - 1), aq0[0].2), (none, 0, 0), (_, _, _)) (show dQ dT 3 3 ([] : List Int) (aq0.set 0 ((x43 - 1), aq0[0].2)) from by exact b6d jb.1) rfl (J := _) (.refl _)<|.inl rfl
    ·refine Eu<|r7 rfl<|v8<|o6<|Et<|Ew Z2<|i8<|i8<|i8<|l6 (A := [_]) (V5 (x := aq0[0]) oi90_0 Own.ow) rfl<|f5<|a1z (xs := aq0) (ce := [_, _]) om hok90<|g9 (congrArg (ow B1 [_])<|List.set_getElem_self (show 0 < List.length aq0 by omega))<|Ey rfl (k7 (cs := [_, _]) ty_Query rfl (Has.pt<|mS<|mS m0) rfl)<|a4G<|Est rfl (Ns [_, _] ty_Query rfl)<|fun _ _ => Eu<|E.ret<|f5<|l6 (A := []) (Own.nil (E := Enc.int) (e := tI) (a := none)) rfl<|a4G<|i8<|i8<|S0 br rfl rfl (mS<|mS<|mS m0) ty_Query rfl ([], aq0, (none, 0, 0), (_, _, _)) (show dQ dT 3 3 ([] : List Int) aq0 from by exact jb.1) rfl (J := _) (.refl _)<|.inl rfl
end Go.Proofs.YthapcdhdfaibkaaGreatDoor
end
