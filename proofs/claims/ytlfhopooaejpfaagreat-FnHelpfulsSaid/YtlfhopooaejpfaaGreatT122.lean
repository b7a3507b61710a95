import Derived.Test.YtlfhopooaejpfaaGreatBu
import Derived.Test.YtlfhopooaejpfaaGreatT121
section
namespace Go.Proofs.YtlfhopooaejpfaaGreat
open Go.RowKit
set_option linter.unusedVariables false
section
variable {P : Program} {n : Nat} {w0 : World} {L0 : List Nat} {fr : Fr} {H : List HP} {fn : Func} {κ : Type} {φ : κ → Prop} {ret : κ → Value} {post : κ → List HP} {wb : World} {Lb : List Nat}
theorem a6j (hb : U4 w0 L0 wb Lb) {e : Exit} {s0 : Nat} {v0 : Value} {s1 : Nat} {v1 : Value} {s2 : Nat} {v2 : Value} {s3 b3 k3 y3 : Nat} {T3 T3' : TypeId} {z3 cs3 : List Value} (hres : fn.results = #[.tmp s0, .tmp s1, .tmp s2, .cell s3 T3]) (hv0 : fr.lookup s0 = some v0) (hv1 : fr.lookup s1 = some v1) (hv2 : fr.lookup s2 = some v2) (hv3 : fr.lookup s3 = some (.pointer (some ⟨b3, 0, none⟩))) (hm3 : pt b3 T3' cs3 ∈ H) (ht3 : TyOk P T3 true k3 z3 y3) (hl3 : cs3.length = k3)
    (k : κ) (hk : φ k) (hr : .tuple #[v0, v1, v2, .agg cs3.toArray] = ret k) {J : List HP} (hH : H.Perm (post k ++ J)) (he : e = .ret ∨ e = .normal) : Ent n w0 L0 fr H (bodyPost P fn (Fin φ ret post wb Lb) e) :=
  a0L hb he k hk hr hH fun a w h1 h2 => by
    have u0 := h1.ev (x := .tmp s0) hv0
    have u1 := h1.ev (x := .tmp s1) hv1
    have u2 := h1.ev (x := .tmp s2) hv2
    have u3 := h1.ev (x := .tmp s3) hv3
    simp only [Act.eval] at u0 u1 u2 u3
    have q3 := ((Has.pt (w0 := w0) (L0 := L0) hm3) w h2).run_load (P := P) (v := .agg cs3.toArray) ht3 hl3 rfl (fun h => by cases h)
    simp only [Instr.loadAt, Instr.sureAddr, Sem.run_bind, Sem.run_pure, Result.andThen_ok] at q3
    rw [Array.getD_eq_getD_getElem?] at u0 u1 u2 u3
    simp [results, hres, u0, u1, u2, u3, asAddr, q3]
theorem a6J (hb : U4 w0 L0 wb Lb) {e : Exit} {s0 : Nat} {v0 : Value} {s1 : Nat} {v1 : Value} {s2 b2 k2 y2 : Nat} {T2 T2' : TypeId} {z2 cs2 : List Value} (hres : fn.results = #[.tmp s0, .tmp s1, .cell s2 T2]) (hv0 : fr.lookup s0 = some v0) (hv1 : fr.lookup s1 = some v1) (hv2 : fr.lookup s2 = some (.pointer (some ⟨b2, 0, none⟩))) (hm2 : pt b2 T2' cs2 ∈ H) (ht2 : TyOk P T2 true k2 z2 y2) (hl2 : cs2.length = k2)
    (k : κ) (hk : φ k) (hr : .tuple #[v0, v1, .agg cs2.toArray] = ret k) {J : List HP} (hH : H.Perm (post k ++ J)) (he : e = .ret ∨ e = .normal) : Ent n w0 L0 fr H (bodyPost P fn (Fin φ ret post wb Lb) e) :=
  a0L hb he k hk hr hH fun a w h1 h2 => by
    have u0 := h1.ev (x := .tmp s0) hv0
    have u1 := h1.ev (x := .tmp s1) hv1
    have u2 := h1.ev (x := .tmp s2) hv2
    simp only [Act.eval] at u0 u1 u2
    have q2 := ((Has.pt (w0 := w0) (L0 := L0) hm2) w h2).run_load (P := P) (v := .agg cs2.toArray) ht2 hl2 rfl (fun h => by cases h)
    simp only [Instr.loadAt, Instr.sureAddr, Sem.run_bind, Sem.run_pure, Result.andThen_ok] at q2
    rw [Array.getD_eq_getD_getElem?] at u0 u1 u2
    simp [results, hres, u0, u1, u2, asAddr, q2]
end
end Go.Proofs.YtlfhopooaejpfaaGreat
end
section
namespace Go.Proofs.YtlfhopooaejpfaaGreat
set_option linter.unusedVariables false
def c2D (m : Int × (Option Addr × Nat × Nat) × Int × Int × Int) : Int × (Option Addr × Nat × Nat) × Int × Int × Int := cond (decide (m.2.2.1 ≠ 0)) (-1, m.2) m
def exB (l : List (Int × (Option Addr × Nat × Nat) × Int × Int × Int)) : List (Int × (Option Addr × Nat × Nat) × Int × Int × Int) := l.map c2D
section
variable {l : List (Int × (Option Addr × Nat × Nat) × Int × Int × Int)} {xs : List MT5} {g : Nat} {w : World} {L : List Nat}
end
end Go.Proofs.YtlfhopooaejpfaaGreat
end
section
namespace Go.Proofs.YtlfhopooaejpfaaGreat
set_option linter.unusedVariables false
set_option linter.unusedSimpArgs false
def c1a (l : List MT5) : List MT5 := l.filter fun m => decide (m.2.2.1 = 0)
def rk (l : List MT5) (i : Int) : Int := if i < 0 then i else ((c1a (l.take i.toNat)).length : Int)
def rkS (l : List MT5) (x : Stp) : Stp := (x.1, rk l x.2)
section
variable {s : List Int} {l L M : List MT5} {i7 al : List AT2} {ds : List Bool} {a : AT2} {b b' : List Int} {i n g k : Nat} {S R : List Stp} {c6 : List Fct} {m : MT5} {q : List Int × List AT2}
def c4d (l : List (Int × (Option Addr × Nat × Nat) × Int × Int × Int)) : List (Int × (Option Addr × Nat × Nat) × Int × Int × Int) := l.filter fun m => decide (m.2.2.1 = 0)
def c4h (l : List MT5) (p : List Int × List AT2) (c6 : List Fct) : List (List Int) := b0f p.1 (a1i (fun a => a5H l c6 a) l p.2 (grF (exF l) p.2).1).1
def c0f (s : List Int) (l : List MT5) (q : List Int × List AT2) : List Stp := cond ((C0 s l && C8 s q) && decide (q.2.length ≤ (grF l q.2).1.length)) (grF l q.2).1 []
def c3Y (s : List Int) (l : List MT5) (q : List Int × List AT2) : Bool := (C0 s l && C8 s q) && decide (q.2.length ≤ (grF l q.2).1.length)
end
end Go.Proofs.YtlfhopooaejpfaaGreat
end
section
namespace Go.Proofs.YtlfhopooaejpfaaGreat
open Go.RowKit
set_option linter.unusedVariables false
section
variable {P : Program} {n : Nat} {w0 : World} {L0 : List Nat} {fr : Fr} {H : List HP} {fn : Func} {κ : Type} {φ : κ → Prop} {ret : κ → Value} {post : κ → List HP} {wb : World} {Lb : List Nat}
end
section
variable {P : Program} {Q : Exit → Act → World → Prop} {n : Nat} {w0 : World} {L0 PB : List Nat} {fr : Fr} {H : List HP} {ops : Array Oper} {qt : Nat → Bool} {fuel : Nat} {listed : Array Bool} {op : Op} {d : Nat} {ty : TypeId} {pos : String} {af : Array Edge} {g : Option (Nat × Bool)} {v : Value}
theorem N.yd (hd : d < n) (hy : Yd P n w0 L0 fr H op v) : Nop P Q n w0 L0 fr H ⟨some d, op, ty, pos, af, g⟩ true (κ := Unit) (fun _ => (d, v) :: fr) (fun _ => H) (fun _ => True) := fun K hK a w h1 h2 => by
  rw [Oper.wp, hy a w h1 h2 w (a0F w)]
  exact hK () trivial w _ _ (h1.put hd v) h2 (fun _ => a0F w)
theorem c1T (hs : a3g PB H H) : a3g PB H H := hs
end
end Go.Proofs.YtlfhopooaejpfaaGreat
end
section
namespace Go.Proofs.YtlfhopooaejpfaaGreat
set_option linter.unusedVariables false
section
variable {ys ms : List Mth} {lg : List Acs} {i v : List Int} {a b c d : Int} {g : Nat} {s : List Int} {q : List Int × List AT2}
theorem b9u (h : ys.length = g ∧ ∀ m ∈ ys, m.2.1.length ≤ 4) (hi : i.length ≤ 4) : (ys ++ [(a, i, b, c, d)]).length = g + 1 ∧ ∀ m ∈ ys ++ [(a, i, b, c, d)], m.2.1.length ≤ 4 := by
  refine ⟨by simp [h.1], fun m hm => ?_⟩
  rcases List.mem_append.1 hm with hm | hm
  · exact h.2 m hm
  · rw [List.mem_singleton] at hm; rw [hm]; exact hi
theorem b5e (h : (1 ≤ ms.length ∧ ms.length ≤ 4) ∧ ∀ m ∈ ms, m.2.1.length ≤ 4) : ms.length ≤ 5 ∧ ∀ m ∈ ms, m.2.1.length ≤ 4 := ⟨by omega, h.2⟩
theorem c0g (h : (1 ≤ ms.length ∧ ms.length ≤ 4) ∧ ∀ m ∈ ms, m.2.1.length ≤ 4) (hi : i.length ≤ 4) : (ms ++ [(a, i, b, c, d)]).length ≤ 5 ∧ ∀ m ∈ ms ++ [(a, i, b, c, d)], m.2.1.length ≤ 4 := by
  refine ⟨by simp; omega, fun m hm => ?_⟩
  rcases List.mem_append.1 hm with hm | hm
  · exact h.2 m hm
  · rw [List.mem_singleton] at hm; rw [hm]; exact hi
end
end Go.Proofs.YtlfhopooaejpfaaGreat
end
section
namespace Go.Proofs.YtlfhopooaejpfaaGreat
open Go.RowKit
set_option linter.all false
set_option maxHeartbeats 2000000
attribute [local irreducible] Nop Yd Yp Ent Has Tr FnP FnP2 Src o6 d7 O0 a0h H2
theorem u5 {a_code : Option Addr} {m_code c_code : Nat} {code : List UInt8} : Tr Tryz.prog 5 [.slice a_code m_code c_code] (fun w L => Ro w L a0W [.slice a_code m_code c_code] code) [] (κ := Unit) (fun k => True) (fun k => .bool (decide (1048576 < (code.length : Int)))) (fun k => []) := by
 refine Tr.intro Tryz.func5 rfl (n := 6) rfl (by decide +kernel) bl (fr := [(0, .slice a_code m_code c_code)]) rfl fun w L hR => ?_
 have hcode := hR
 obtain ⟨rfl, lcode⟩ := hcode.slen
 refine Ew Z1 (Ei rfl (Ev Z4 (Em rfl (Ey rfl ((Y.len us_U8s rfl).yd) (Ey rfl ((Y.gtr rfl rfl).yd) (Ei rfl ?_))))))
 exact Eu (E.ret (Fb rfl rfl (by simp_all)))
theorem u4 {b_c : Nat} {a_s : Option Addr} {m_s c_s : Nat} {s : List Int} {a_b : Option Addr} {m_b c_b : Nat} {bs : List UInt8} (h1 : 1 ≤ s.length) (hsz : ∀ z ∈ s, 1 ≤ z ∧ z ≤ 3) : Tr Tryz.prog 198 [.pointer (some ⟨b_c, 0, none⟩), .slice a_s m_s c_s] (fun w L => Ro w L eIs [.slice a_s m_s c_s] s ∧ Ro w L a0W [.slice a_b m_b c_b] bs) [cur b_c a_b m_b c_b] (κ := (List Int) × (List (Int × List Int)) × (Option Addr × Nat × Nat) × Option Addr × Nat × Nat) (fun k => sQ k.1 k.2.1 ∧ (∀ u, C8 u (k.1, k.2.1) = true → a3I k.2.1)) (fun k => .agg #[.slice k.2.2.1.1 k.2.2.1.2.1 k.2.2.1.2.2, .slice k.2.2.2.1 k.2.2.2.2.1 k.2.2.2.2.2]) (fun k => [ow eIs [.slice k.2.2.1.1 k.2.2.1.2.1 k.2.2.1.2.2] k.1, ow H9 [.slice k.2.2.2.1 k.2.2.2.2.1 k.2.2.2.2.2] k.2.1, cur b_c a_b m_b c_b]) := by
 refine Tr.intro Tryz.func198 rfl (n := 38) rfl (by decide +kernel) bl (fr := [(0, .pointer (some ⟨b_c, 0, none⟩)), (1, .slice a_s m_s c_s)]) rfl fun w L hR => ?_
 obtain ⟨hs, hbs⟩ := hR
 obtain ⟨rfl, ls⟩ := hs.slen
 obtain ⟨rfl, lb⟩ := hbs.slen
 refine Ew Z1 (Est rfl (N.alloc ty_Query dc) (fun b4 _ => (Ev Z5 (Em rfl (Em rfl (d8 (Est rfl (N.call (pre := [_]) (a5X fc fc) rfl rfl rfl dc rfl (fun w Lp hA => ⟨hA.ro hs, hA.ro hbs⟩)) (fun k10 o10 => ?_))))))))
 obtain ⟨hq10, aq10, ⟨a10_0, m10_0, c10_0⟩, ⟨a10_1, m10_1, c10_1⟩⟩ := k10
 replace o10 : dQ kT 3 2 hq10 aq10 := o10
 try (conv => arg 4; dsimp only)
 try (conv => arg 5; dsimp only [List.cons_append, List.nil_append, List.append_nil])
 have jl := o10.1
 have jh := o10.2.2
 have jt := (o10.2.1 _ (List.getElem_mem (show 0 < aq10.length by omega))).1
 refine d6 m0 fun e10_0 l10_0 => ?_
 subst e10_0
 refine d6 (mS m0) fun e10_1 l10_1 => ?_
 subst e10_1
 refine Est rfl (N.alloc ty_Query dc) (fun b5 _ => (Est rfl (Ns [_, _] ty_Query rfl) (fun _ _ => (Eu (Eq_ (Ew Z8 (Ey rfl ((i8 fo_Query_1 ty_Atoms dc rfl).yd) (Ey rfl (g9 ty_Atoms rfl (Hz m0 1 rfl) rfl) (Ey rfl ((Y.len us_Atoms rfl).yd) (Ey rfl ((Y.lss rfl rfl).yd) (n9 (fun q14 => ?_) (fun q14 => ?_))))))))))))
 ·refine Em rfl (Em rfl (o2 (Est rfl (N.call (pre := [_]) X6 rfl rfl rfl dc rfl (fun w Lp hA => hA.ro hbs)) (fun o17 o17 => ?_))))
  replace o17 : True := o17
  try (conv => arg 5; dsimp only [List.cons_append, List.nil_append, List.append_nil])
  refine Ent.b (fun q17 => ?_) (fun q17 => ?_)
  ·refine Ey rfl ((x6 rfl rfl).yd) (Eu (o0 rfl (Ew Z6 (Ey rfl ((i8 fo_Query_1 ty_Atoms dc rfl).yd) (Ey rfl (g9 ty_Atoms rfl (Hz (mS m0) 1 rfl) rfl) (a1N (mS (mS (mS m0))) om fun ab21 ae21 => (o2 (a9g (x := aq10[0]) 0 (List.getElem?_eq_getElem om) fun ce21 => ?_))))))))
   refine d8 (b1J fun oa21_1 om21_1 oc21_1 oe21 oi21_0 on21_1 => ?_)
   subst oe21
   subst on21_1
   refine Ey rfl ((w3 us_Atoms ty_Atom rfl ae21 rfl 0 rfl om).yd) (Ey rfl (r9 (cs := [_, _]) ty_Atom rfl (Has.hole ae21 (mS m0)) rfl) (Est rfl (N.alloc ty_Atom dc) (fun b6 _ => (Est rfl (Ns [_, _] ty_Atom rfl) (fun _ _ => (Ev Z7 (Ey rfl ((i8 fo_Atom_0 f5 dc rfl).yd) (Ey rfl (g9 f5 rfl (Hz m0 0 rfl) rfl) (Ey rfl ((i8 fo_Atom_1 ty_Is dc rfl).yd) (Ey rfl (g9 ty_Is rfl (Hz m0 1 rfl) rfl) (Est rfl (N.call (b9K fc) rfl rfl rfl dc rfl (fun w Lp hA => ⟨oi21_0, hA.ow (mS m0)⟩)) (fun k27 _ => ?_))))))))))))
   obtain ⟨a27, m27, c27⟩ := k27
   try (conv => arg 4; dsimp only)
   try (conv => arg 5; dsimp only [List.cons_append, List.nil_append, List.append_nil])
   refine d6 m0 fun e27 l27 => ?_
   subst e27
   refine Est rfl (N.alloc ty_Atom dc) (fun b7 _ => (Est rfl (Ns [_, _] ty_Atom rfl) (fun _ _ => (Ev Z4 (o2 (n0 (a6L (a0b (x := aq10[0]) oi21_0 Own.ow) rfl (f6 (congrArg (ow H9 [_]) (List.set_getElem_self om)) (Ey rfl ((i8 fo_Atom_1 ty_Is dc rfl).yd) (Ey rfl (g9 ty_Is rfl (Hz (mS m0) 1 rfl) rfl) (a1N (mS (mS m0)) om fun ab30 ae30 => (Ey rfl ((w3 us_Is f5 rfl ae30 rfl 0 rfl om).yd) (j7 (Est rfl (N.set (E := Enc.int) (j := 0) (ex := 15) (ce := [_]) f5 rfl rfl rfl rfl (Own.int i6) ae30 (Nat.zero_add _) rfl (by first | (simp; omega) | omega | (simp; done))) (fun _ _ => (Eu (Ez Z7 (Ey rfl ((i8 fo_Query_1 ty_Atoms dc rfl).yd) (Ey rfl (g9 ty_Atoms rfl ((Has.pt (mS (mS (mS (mS (mS m0)))))).sub (cs' := [_]) 1 rfl) rfl) (Ey rfl (r9 (cs := [_, _]) ty_Atom rfl (Has.pt (mS (mS m0))) rfl) ?_))))))))))))))))))))
   refine Est rfl (Nb [_] [_, _] us_Atoms ty_Atom rfl rfl) (fun b34 _ => (d8 (d8 (j7 (Est rfl (B2 (E := a2F) (ex := (aq10[0].1, aq10[0].2.set 0 15)) us_Atoms ty_Atom rfl rfl rfl (a0b (x := (aq10[0].1, aq10[0].2.set 0 15)) oi21_0 Own.ow) rfl bn bn dc) (fun p35 _ => (Ey rfl ((i8 fo_Query_1 ty_Atoms dc rfl).yd) (n0 (Est rfl (Ns [_, _] ty_Atoms rfl) (fun _ _ => (Ev Z2 (Ey rfl (r9 (cs := [_, _]) ty_Query rfl (Has.pt m0) rfl) (v7 (Est rfl (Ns [_, _] ty_Query rfl) (fun _ _ => (Eu (E.ret (j7 (v7 (v7 (j7 ?_)))))))))))))))))))))
   refine j7 ?_
   exact O7 br rfl rfl (mS (mS (mS m0))) ty_Query rfl (hq10, aq10 ++ [(aq10[0].1, aq10[0].2.set 0 15)], (_, _, _), (_, _, _)) (show sQ hq10 (aq10 ++ [(aq10[0].1, aq10[0].2.set 0 15)]) ∧ (∀ u, C8 u (hq10, (aq10 ++ [(aq10[0].1, aq10[0].2.set 0 15)])) = true → a3I (aq10 ++ [(aq10[0].1, aq10[0].2.set 0 15)])) from by first | exact ⟨o10.up.small, fun u _ => c3r (o10.mono c1h (Nat.le_refl _) (Nat.le_refl _)).2.1⟩ | exact ⟨(c2f o10).small4, fun u _ => c3r (c2f o10).2.1⟩) rfl (J := _) (.refl _) (.inl rfl)
  ·refine Ey rfl ((x6 rfl rfl).yd) (Eu (n8 rfl (f9 (Et (Ew Z2 (Ey rfl (r9 (cs := [_, _]) ty_Query rfl (Has.pt (mS m0)) rfl) (n0 (Est rfl (Ns [_, _] ty_Query rfl) (fun _ _ => (Eu (E.ret (n0 (n0 (o2 (j7 (j7 ?_))))))))))))))))
   exact O7 br rfl rfl (mS (mS (mS m0))) ty_Query rfl (hq10, aq10, (_, _, _), (_, _, _)) (show sQ hq10 aq10 ∧ (∀ u, C8 u (hq10, aq10) = true → a3I aq10) from by first | exact ⟨o10.up.small, fun u _ => c3r (o10.mono c1h (Nat.le_refl _) (Nat.le_refl _)).2.1⟩ | exact ⟨(c2f o10).small4, fun u _ => c3r (c2f o10).2.1⟩) rfl (J := _) (.refl _) (.inl rfl)
 ·refine Em rfl (Es rfl (Es rfl (Ey rfl ((z7 rfl rfl).yd) (Eu (n8 rfl (f9 (Et (Ew Z2 (Ey rfl (r9 (cs := [_, _]) ty_Query rfl (Has.pt m0) rfl) (n0 (Est rfl (Ns [_, _] ty_Query rfl) (fun _ _ => (Eu (E.ret (o2 (o2 (n0 (j7 (j7 ?_)))))))))))))))))))
  exact O7 br rfl rfl (mS (mS (mS m0))) ty_Query rfl (hq10, aq10, (_, _, _), (_, _, _)) (show sQ hq10 aq10 ∧ (∀ u, C8 u (hq10, aq10) = true → a3I aq10) from by first | exact ⟨o10.up.small, fun u _ => c3r (o10.mono c1h (Nat.le_refl _) (Nat.le_refl _)).2.1⟩ | exact ⟨(c2f o10).small4, fun u _ => c3r (c2f o10).2.1⟩) rfl (J := _) (.refl _) (.inl rfl)
end Go.Proofs.YtlfhopooaejpfaaGreat
end
