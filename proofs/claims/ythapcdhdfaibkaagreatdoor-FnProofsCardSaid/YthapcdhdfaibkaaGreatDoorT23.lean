import Derived.Test.YthapcdhdfaibkaaGreatDoorEa
import Derived.Test.YthapcdhdfaibkaaGreatDoorT15
section
namespace Go.Proofs.YthapcdhdfaibkaaGreatDoor
set_option linter.unusedVariables false
set_option linter.unusedSimpArgs false
def b5a (h head : List Int) (b : List Int × List Int) : Bool := decide (h.map (a4T b) = head)
def c0u (l : List (List Int × List Int)) (h head : List Int) : List Int × List Int := (l.find? (b5a h head)).getD ([], [])
def xF (p q : List (Int × List Int)) : List (Int × List Int) := p ++ (G5 (fun t => inR t 0 9) q).map fun c => ((3 : Int), [c])
theorem b3Q {is : Int → Bool} {l : List (Int × List Int)} {x : Int} : x ∈ G5 is l ↔ x ∈ l.flatMap (fun a => a.2) ∧ is x = true := by
  unfold G5
  rw [a1s, List.mem_filter]
def b9N (p q : List Int × List (Int × List Int)) : Bool :=
  decide (p.1.length = q.1.length) && (fzB [G5 (fun t => inR t 0 9) p.2, G5 (fun t => inR t 0 9) q.2].flatten p.2 &&
    (a8K q.2 (fzF [G5 (fun t => inR t 0 9) p.2, G5 (fun t => inR t 0 9) q.2].flatten p.2)).any (b5a q.1 (p.1.map (a4T (fzV [G5 (fun t => inR t 0 9) p.2, G5 (fun t => inR t 0 9) q.2].flatten p.2, fzX [G5 (fun t => inR t 0 9) p.2, G5 (fun t => inR t 0 9) q.2].flatten p.2)))))
def b7M (s : List Int) (p q : List Int × List (Int × List Int)) : Bool := S7 s p && (S7 s q && b9N p q)
def a0Y (l : List (List Int)) : Nat := (l.map List.length).sum
theorem a1T {l : List (List Int)} {x : List Int} : a0Y (l ++ [x]) = a0Y l + x.length := by simp [a0Y, List.sum_append]
theorem a4f : a0Y [] = 0 := rfl
theorem a4J {l : List (List Int)} {g : Nat} : a0Y (l.take g) ≤ a0Y l := by
  have : a0Y l = a0Y (l.take g) + a0Y (l.drop g) := by
    rw [a0Y, a0Y, a0Y, ← List.sum_append, ← List.map_append, List.take_append_drop]
  omega
theorem b2b {l : List (List Int)} : l.flatten.length = a0Y l := by rw [a0Y, List.length_flatten]
end Go.Proofs.YthapcdhdfaibkaaGreatDoor
end
section
namespace Go.Proofs.YthapcdhdfaibkaaGreatDoor
set_option linter.unusedVariables false
set_option linter.unusedSimpArgs false
def b8z : List Int → Nat
  | [] => 0
  | v :: l => v.toNat + 10 * b8z l
section
variable {s : List Int} {a8 y9 : List (Int × List Int)} {a : Int × List Int} {l : List (List Int × List Int)} {b : List Int × List Int} {g h n : Nat}
abbrev Few (a : Int × List Int) (a8 : List (Int × List Int)) : Prop := ∀ b, (b7F b a a8).length ≤ 1000
end
end Go.Proofs.YthapcdhdfaibkaaGreatDoor
end
section
namespace Go.Proofs.YthapcdhdfaibkaaGreatDoor
set_option linter.unusedVariables false
set_option linter.unusedSimpArgs false
abbrev a5u (q : List Int × List (Int × List Int)) : List Int := G5 (fun t => inR t 0 9) q.2
def c0S (s : List Int) (l : List Mth) (d4 : List Rul) (q : List Int × List (Int × List Int)) (a8 : List Fct) : List (List Int) :=
  if E7 s l d4 a8 && S7 s q then b3q q.1 (a8K q.2 (B2 l d4 a8 (a5u q)).1) else []
attribute [local irreducible] B2
section
variable {s : List Int} {l : List Mth} {d4 : List Rul} {a8 : List Fct} {d6 : List Int} {q : List Int × List (Int × List Int)}
theorem nInv.asc {S : NoS} (h : nInv s S) : a1H S.1 := by rw [h.fold]; exact a7I .nil
end
end Go.Proofs.YthapcdhdfaibkaaGreatDoor
end
section
namespace Go.Proofs.YthapcdhdfaibkaaGreatDoor
set_option linter.unusedVariables false
set_option linter.unusedSimpArgs false
section
variable {s : List Int} {l : List Mth} {d4 : List Rul} {a8 : List Fct} {d6 u v : List Int} {q : List Int × List (Int × List Int)} {y9 : List (Int × List Int)} {b : List Int × List Int} {n : Nat}
end
def c0l (s : List Int) (l : List Mth) (d4 : List Rul) (q : List Int × List (Int × List Int)) : Bool :=
  (B3 s l && B7 s d4) && (S7 s q && (fzB (a5u q) q.2 && (a8K q.2 (B2 l d4 (a5f d4 (fzF (a5u q) q.2)) (a5u q)).1).any (b5a q.1 (q.1.map (a4T (fzV (a5u q) q.2, fzX (a5u q) q.2))))))
end Go.Proofs.YthapcdhdfaibkaaGreatDoor
end
section
namespace Go.Proofs.YthapcdhdfaibkaaGreatDoor
def b8D (s : List Int) (u : List (List Int × List (Int × List Int))) (q : List Int × List (Int × List Int)) : Bool := u.any (b7M s q)
def b8O (s : List Int) (u : List (List Int × List (Int × List Int))) (q : List Int × List (Int × List Int)) : Bool := !b8D s u q
def b7Y (s : List Int) (a b : List (List Int × List (Int × List Int))) : Bool := !a.any (b8O s b)
def c0r (s : List Int) (a b : List (List Int × List (Int × List Int))) : Bool := a9l s a && (a9l s b && (b7Y s a b && b7Y s b a))
end Go.Proofs.YthapcdhdfaibkaaGreatDoor
end
section
namespace Go.Proofs.YthapcdhdfaibkaaGreatDoor
def b6c {α : Type} (l : List α) (i : Int) : List α := if inR i 0 ((l.length : Int) - 1) then l.take i.toNat ++ l.drop (i + 1).toNat else l
end Go.Proofs.YthapcdhdfaibkaaGreatDoor
end
section
namespace Go.Proofs.YthapcdhdfaibkaaGreatDoor
set_option linter.unusedVariables false
def b8t (s h : List Int) (a : List (Int × List Int) × Nat) : List (Int × List Int) × Nat :=
  if a.2 < a.1.length then (if b7M s (h, b6c a.1 a.2) (h, a.1) then (b6c a.1 a.2, a.2) else (a.1, a.2 + 1)) else a
def a5N (s h : List Int) (l : List (Int × List Int)) : Nat → List (Int × List Int) × Nat
  | 0 => (l, 0)
  | n + 1 => b8t s h (a5N s h l n)
def c0n (s h : List Int) (l : List (Int × List Int)) (n : Nat) : Prop := (a5N s h l n).2 ≤ (a5N s h l n).1.length ∧ (a5N s h l n).1.length - (a5N s h l n).2 + n = l.length ∧ ∀ a ∈ (a5N s h l n).1, a ∈ l
def c0s (s : List Int) (h : List Int) (l : List (Int × List Int)) : List (Int × List Int) := if S7 s (h, l) then (a5N s h l l.length).1 else l
end Go.Proofs.YthapcdhdfaibkaaGreatDoor
end
section
namespace Go.Proofs.YthapcdhdfaibkaaGreatDoor
set_option linter.unusedVariables false
set_option linter.unusedSimpArgs false
section
variable {x b : List Int × List Int} {t u v : Int} {h head : List Int} {s : List Int} {q : List Int × List (Int × List Int)} {F F' : List (Int × List Int)} {y9 : List (Int × List Int)} {a f : Int × List Int}
def bd (x : List Int × List Int) (u : Int) : Prop := inR u 10 17 = false ∨ u ∈ x.1
def MOk (A F : List (Int × List Int)) (b : List Int × List Int) : Prop := b.1.length = b.2.length ∧ ∀ a ∈ A, b3t a b ∈ F ∧ ∀ t ∈ a.2, bd b t
end
end Go.Proofs.YthapcdhdfaibkaaGreatDoor
end
section
namespace Go.Proofs.YthapcdhdfaibkaaGreatDoor
set_option linter.unusedVariables false
set_option linter.unusedSimpArgs false
section
variable {x b : List Int × List Int} {t v : Int} {g : Int → Int} {h head u : List Int} {s : List Int} {p q : List Int × List (Int × List Int)} {F A : List (Int × List Int)} {a f : Int × List Int}
def c0o (b : List Int × List Int) (g : Int → Int) : Prop := b.1.length = b.2.length ∧ ∀ t, bd b t → a4T b t = g t
end
end Go.Proofs.YthapcdhdfaibkaaGreatDoor
end
section
namespace Go.Proofs.YthapcdhdfaibkaaGreatDoor
set_option linter.unusedVariables false
set_option linter.unusedSimpArgs false
abbrev Qry := List Int × List (Int × List Int)
abbrev cU (p q : List (Int × List Int)) : List Int := [G5 (fun t => inR t 0 9) p, G5 (fun t => inR t 0 9) q].flatten
abbrev bP (u : List Int) (A : List (Int × List Int)) : List Int × List Int := (a3v A, b4Y u (a3v A).length)
def unF (u : List Int) (A : List (Int × List Int)) (w : Int) : Int := ((a3v A).find? fun x => decide (a4T (bP u A) x = w)).getD w
def hom (p q : Qry) : Prop := ∃ g : Int → Int, (∀ t, inR t 10 17 = false → g t = t) ∧ (∀ a ∈ q.2, (a.1, a.2.map g) ∈ p.2) ∧ q.1.map g = p.1
section
variable {t v : Int} {g : Int → Int} {h head u : List Int} {s : List Int} {p q r : Qry} {F A B : List (Int × List Int)} {a f : Int × List Int}
theorem b4b (l : List (Int × List Int)) : f ∈ w4 l f := by
  cases e : F3 l f with
  | false => exact a4N e
  | true => exact a3l (V8.1 e)
end
end Go.Proofs.YthapcdhdfaibkaaGreatDoor
end
section
namespace Go.Proofs.YthapcdhdfaibkaaGreatDoor
open Go.RowKit
set_option linter.unusedVariables false
section
variable {P : Program} {n : Nat} {w0 : World} {L0 : List Nat} {fr : Fr} {H : List HP} {fn : Func} {κ : Type} {φ : κ → Prop} {ret : κ → Value} {post : κ → List HP} {wb : World} {Lb : List Nat}
end
end Go.Proofs.YthapcdhdfaibkaaGreatDoor
end
section
namespace Go.Proofs.YthapcdhdfaibkaaGreatDoor
open Go.RowKit
set_option linter.unusedVariables false
end Go.Proofs.YthapcdhdfaibkaaGreatDoor
end
section
namespace Go.Proofs.YthapcdhdfaibkaaGreatDoor
open Go.RowKit
set_option linter.all false
set_option maxHeartbeats 2000000
attribute [local irreducible] Nop Yd Yp Ent Has Tr FnP FnP2 Src o2 c8 N0 a0b E6
theorem b0A {rel : Int} {a_terms : Option Addr} {m_terms c_terms : Nat} {terms : List Int} (hz : terms.length ≤ 1048576) : Tr Tryz.prog 247 [.int .i64 rel, .slice a_terms m_terms c_terms] (fun w L => I64 rel ∧ Ro w L eIs [.slice a_terms m_terms c_terms] terms) [] (κ := Option Addr × Nat × Nat) (fun k => True) (fun k => .agg #[.int .i64 rel, .slice k.1 k.2.1 k.2.2]) (fun k => [ow eIs [.slice k.1 k.2.1 k.2.2] terms]) := by
 refine Tr.intro Tryz.func247 rfl (n := 10) rfl (by decide +kernel) bl (fr := [(0, .int .i64 rel), (1, .slice a_terms m_terms c_terms)]) rfl fun w L hR => ?_
 obtain ⟨i6rel, hterms⟩ := hR
 obtain ⟨rfl, lterms⟩ := hterms.slen
 refine Ew Z1 (Est rfl (N.alloc ty_Atom dc) (fun b4 _ => (Ev Z6 (Em rfl (Est rfl (Nb [] [] us_Is f9 rfl rfl) (fun b6 _ => (Ent.drop (Em rfl (Est rfl (W1 (E := Enc.int) Plain.int us_Is f9 rfl rfl rfl hterms bn bn dc) (fun p8 _ => (Ey rfl ((I2 (pvs := [_, _]) (cs := [_, _]) ty_Atom a9D rfl rfl).yd) (d9 (Est rfl (Ns [_, _] ty_Atom rfl) (fun _ _ => (Eu (E.ret (d9 ?_)))))))))))))))))
 exact O2 br rfl rfl (mS m0) ty_Atom rfl (_, _, _) trivial rfl (J := _) (.refl _) (.inl rfl)
theorem a5s {a_s : Option Addr} {m_s c_s : Nat} {s : List Int} {n : Int} (hs : s = []) (hc : c_s = 0) (hn : 0 ≤ n ∧ n ≤ 1048576) : Tr Tryz.prog 365 [.slice a_s m_s c_s, .int .i64 n] (fun w L => True) [ow eIs [.slice a_s m_s c_s] s] (κ := Option Addr × Nat × Nat) (fun k => True) (fun k => .slice k.1 k.2.1 k.2.2) (fun k => [ow eIs [.slice k.1 k.2.1 k.2.2] s]) := by
 refine Tr.intro Tryz.func365 rfl (n := 27) rfl (by decide +kernel) bl (fr := [(0, .slice a_s m_s c_s), (1, .int .i64 n)]) rfl fun w L hR => (d7 m0 fun es ls => ?_)
 subst es
 refine a3s fun cs hcs => ?_
 replace hcs : cs.length = s.length * 1 := hcs
 show Ent _ _ _ _ (row tI 1 a_s s.length c_s cs :: _) _
 refine a4R (mS m0) fun h1s => (a7p m0 fun hms => ?_)
 have hs0 : s.length = 0 := by simp [hs]
 refine Ew Z1 (Ei rfl (Eu (Eq_ (Ew Z2 (Em rfl (Ey rfl ((Y.lss rfl rfl).yd) (o3 (fun q6 => ?_) (fun q6 => ?_))))))))
 ·exact absurd q6 om
 ·refine Eu (o0 rfl (i7 (Et (Eq_ (Ew Z8 (Em rfl (Em rfl (Ey rfl ((Y.cap us_Is rfl).yd) (Em rfl (Ey rfl ((Y.len us_Is rfl).yd) (Ey rfl ((Y.sub rfl rfl om om).yd) (Ey rfl ((Y.sub rfl rfl om om).yd) (Ei rfl (Ev Z2 (Em rfl (Ey rfl ((Y.gtr rfl rfl).yd) (o3 (fun q16 => ?_) (fun q16 => ?_))))))))))))))))))
  ·refine Eu (n8 rfl (Ez Z10 (Em rfl (Em rfl (Ey rfl ((Y.cap us_Is rfl).yd) (Ey rfl ((a3F (h := c_s) us_Is f9 rfl rfl om).yd) (Em rfl (Est rfl (b4S (zn := n.toNat) us_Is kr f9 dc rfl rfl om om om m0 om om om dc) (fun p22 hp22 => ?_)))))))))
   obtain ⟨pb22, pc22, pz22⟩ := p22
   obtain ⟨hp22, hq22⟩ := hp22
   dsimp only at hp22 hq22
   refine Em rfl (Ey rfl ((Y.len us_Is rfl).yd) (Ey rfl ((a3F (h := s.length) us_Is f9 rfl rfl om).yd) (Ei rfl (Ev Z2 (Em rfl (Ei rfl (Eu (E.ret (Ent.shr (m' := s.length) om (j4 (congrArg (row tI 1 (some ⟨pb22, 0, none⟩) s.length pc22) (show _ = cs from (List.eq_nil_of_length_eq_zero (by simp [hs0])).trans (List.eq_nil_of_length_eq_zero (by simp [hcs, hs0])).symm)) (j8 (d9 (a3u (E := Enc.int) rfl mx ?_)))))))))))))
   exact Fg rfl rfl (_, _, _) rfl rfl
  ·refine Eu (o0 rfl (i7 (Et (Ew Z2 (Em rfl (Ei rfl (Eu (E.ret (d9 (d9 (a3u (E := Enc.int) rfl mx ?_)))))))))))
   exact Fg rfl rfl (_, _, _) rfl rfl
theorem a4x {a_l : Option Addr} {m_l c_l : Nat} {l : List (List Int)} (hz : a0Y l ≤ 1048576) : Tr Tryz.prog 317 [.slice a_l m_l c_l] (fun w L => Ro w L X3 [.slice a_l m_l c_l] l) [] (κ := Option Addr × Nat × Nat) (fun k => True) (fun k => .slice k.1 k.2.1 k.2.2) (fun k => [ow eIs [.slice k.1 k.2.1 k.2.2] l.flatten]) := by
 refine Tr.intro Tryz.func317 rfl (n := 36) rfl (by decide +kernel) bl (fr := [(0, .slice a_l m_l c_l)]) rfl fun w L hR => ?_
 have hl := hR
 obtain ⟨rfl, ll⟩ := hl.slen
 refine Ew Z1 (Ei rfl (Ev Z1 (Ei rfl (Eu (Eq_ (Ew Z3 (Em rfl (Ey rfl ((Y.len us_Iss rfl).yd) (Em rfl (Eu (E.block (E.loop (κ := Nat) (fun g => g ≤ l.length ∧ True) (fun g => [(0, .slice a_l l.length c_l), (3, .int .i64 (↑(a0Y (l.take g)) : Int)), (9, .slice a_l l.length c_l), (10, .int .i64 (↑l.length : Int)), (11, .int .i64 (g : Int))]) (fun g => []) (fun g => l.length - g) (0) ⟨Nat.zero_le _, by simp⟩ ⟨rfl, frI (by first | rfl | (simp; done) | grind [a1T, a4f, d1, d2, t1, t2]), rfl, rfl, rfl, trivial⟩ (.refl _) (fun g pg => ?_)))))))))))))
 try dsimp only
 obtain ⟨pk, pa⟩ := pg
 have js := a4J (l := l) (g := g)
 have js1 := a4J (l := l) (g := g + 1)
 refine Ew Z1 (Ey rfl ((Y.lss rfl rfl).yd) (o3 (fun q12 => ?_) (fun q12 => ?_)))
 ·have jk0 : a0Y (l.take (g + 1)) = a0Y (l.take g) + l[g].length := by rw [List.take_succ_eq_append_getElem om, a1T]
  obtain ⟨eb13, eo13, ec13, ea13, er13, el13, eh13⟩ := hl.elem g om
  obtain ⟨xa13, xc13, rfl⟩ := er13.sl
  have := er13.slen.2
  refine Eu (Eq_ (n8 rfl (i7 (Et (Eq_ (E.block (Ew Z3 (Ey rfl ((v8 us_Iss ty_Is rfl ea13 rfl g rfl om).yd) (Ey rfl (g9 ty_Is rfl (eh13 _) rfl) (Ei rfl (Ev Z5 (Em rfl (Em rfl (Ey rfl ((Y.len us_Is rfl).yd) (Ey rfl ((Y.add rfl rfl om om).yd) (Ei rfl (Ev Z2 (Em rfl (Ey rfl ((Y.lss rfl rfl).yd) (o3 (fun q20 => ?_) (fun q20 => ?_)))))))))))))))))))))
  ·exact absurd q20 om
  ·refine Eu (o0 rfl (i7 (s9 (Et (Ez Z2 (Ey rfl ((Y.add rfl rfl om om).yd) (Em rfl ?_)))))))
   exact Eu (x6 br (g + 1) ⟨rfl, frI (by grind [a1T, a4f, d1, d2, t1, t2]), rfl, rfl, rfl, trivial⟩ (.refl _) ⟨oz, trivial⟩ oz)
 ·refine Eu (Eq_ (o0 rfl (E.exit (q1 (q1 (y4 (Et (Ew Z3 (Em rfl (u9 (A := []) (Own.nil (E := Enc.int) (e := tI) (a := none)) rfl (Est rfl (N.call (pre := [_]) (a5s rfl rfl om) rfl rfl rfl dc rfl tv) (fun k24 _ => ?_))))))))))))
  obtain ⟨a24, m24, c24⟩ := k24
  refine d7 m0 fun e24 l24 => ?_
  subst e24
  refine Ei rfl (Eu (Eq_ (Ew Z3 (Em rfl (Ey rfl ((Y.len us_Iss rfl).yd) (Em rfl (Eu (E.block (j4 (congrArg (ow eIs [_]) (show ([]) = (l.take 0).flatten from by first | rfl | (simp; done) | grind [a1T, a4f, d1, d2, t1, t2])) (E.loop (κ := Nat × Option Addr × Nat × Nat) (fun r => r.1 ≤ l.length ∧ True) (fun r => [(6, .slice r.2.1 r.2.2.1 r.2.2.2), (25, .slice a_l l.length c_l), (26, .int .i64 (↑l.length : Int)), (27, .int .i64 (↑r.1 : Int))]) (fun r => [ow eIs [.slice r.2.1 r.2.2.1 r.2.2.2] ((l.take r.1).flatten)]) (fun r => l.length - r.1) (0, a24, (([])).length, c24) ⟨Nat.zero_le _, by simp⟩ ⟨rfl, rfl, rfl, rfl, trivial⟩ (.refl _) (fun r pr => ?_)))))))))))
  obtain ⟨r, aA1_0, mA1_0, cA1_0⟩ := r
  try dsimp only at pr
  try dsimp only
  obtain ⟨pk, pa⟩ := pr
  have jt := a4J (l := l) (g := r)
  have ju := b2b (l := l.take r)
  have jt1 := a4J (l := l) (g := r + 1)
  refine d7 m0 fun eaA1_0 laA1_0 => ?_
  subst eaA1_0
  refine Ew Z1 (Ey rfl ((Y.lss rfl rfl).yd) (o3 (fun q28 => ?_) (fun q28 => ?_)))
  ·have jk : a0Y (l.take (r + 1)) = a0Y (l.take r) + l[r].length := by rw [List.take_succ_eq_append_getElem om, a1T]
   obtain ⟨eb29, eo29, ec29, ea29, er29, el29, eh29⟩ := hl.elem r om
   obtain ⟨xa29, xc29, rfl⟩ := er29.sl
   have := er29.slen.2
   refine Eu (Eq_ (n8 rfl (i7 (Et (Eq_ (E.block (Ew Z3 (Ey rfl ((v8 us_Iss ty_Is rfl ea29 rfl r rfl om).yd) (Ey rfl (g9 ty_Is rfl (eh29 _) rfl) (Ei rfl (Eu (Ez Z4 (Em rfl (Em rfl (Est rfl (b7j (E := Enc.int) Plain.int us_Is f9 rfl rfl rfl er29 rfl bn bn dc) (fun p33 _ => (Ei rfl (En (s9 (Et (Ez Z2 (Ey rfl ((Y.add rfl rfl om om).yd) (Em rfl (Eu (j4 (congrArg (ow eIs [_]) (show ((l.take r).flatten) ++ l[r] = (l.take (r + 1)).flatten from by grind [a1T, a4f, d1, d2, t1, t2])) ?_)))))))))))))))))))))))))
   exact Ea (r + 1, p33.1, (((l.take r).flatten).length + l[r].length), p33.2) ⟨oz, trivial⟩
  ·refine Eu (Eq_ (o0 rfl (E.exit (q1 (q1 (y4 (Et (Ew Z2 (Em rfl (Ei rfl (Eu (E.ret (j4 (congrArg (ow eIs [_]) (show _ = l.flatten by grind [a1T, a4f, d1, d2, t1, t2])) ?_)))))))))))))
   exact Fg rfl rfl (_, _, _) rfl rfl
end Go.Proofs.YthapcdhdfaibkaaGreatDoor
end
