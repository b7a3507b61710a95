import Derived.Test.YtfnbilpemdgkkaaGreatDoorT17
import Derived.Test.YtfnbilpemdgkkaaGreatDoorT11
import Derived.Test.YtfnbilpemdgkkaaGreatDoorT13
import Derived.Test.YtfnbilpemdgkkaaGreatDoorDy
section
namespace Go.Proofs.YtfnbilpemdgkkaaGreatDoor
open Go.RowKit
set_option linter.unusedVariables false
section
variable {P : Program} {n : Nat} {w0 : World} {L0 : List Nat} {fr : Fr} {H : List HP} {fn : Func} {κ : Type} {φ : κ → Prop} {ret : κ → Value} {post : κ → List HP} {wb : World} {Lb : List Nat}
theorem a5u (hb : J2 w0 L0 wb Lb) {e : Exit} {s t u b : Nat} {T T' : TypeId} {k' : Nat} {z : List Value} {by' : Nat} {cs : List Value} {v v' : Value} (hres : fn.results = #[.tmp s, .cell t T, .tmp u]) (hv0 : fr.lookup s = some v) (hv : fr.lookup t = some (.pointer (some ⟨b, 0, none⟩))) (hv' : fr.lookup u = some v') (hm : pt b T' cs ∈ H) (ht : TyOk P T true k' z by') (hl : cs.length = k')
    (k : κ) (hk : φ k) (hr : .tuple #[v, .agg cs.toArray, v'] = ret k) {J : List HP} (hH : H.Perm (post k ++ J)) (he : e = .ret ∨ e = .normal) : Ent n w0 L0 fr H (bodyPost P fn (Fin φ ret post wb Lb) e) :=
  R8 hb he k hk hr hH fun a w h1 h2 => by
    have h0 := h1.ev (x := .tmp s) hv0
    have h3 := h1.ev (x := .tmp t) hv
    have h5 := h1.ev (x := .tmp u) hv'
    simp only [Act.eval] at h0 h3 h5
    have h4 := ((Has.pt (w0 := w0) (L0 := L0) hm) w h2).run_load (P := P) (v := .agg cs.toArray) ht hl rfl (fun h => by cases h)
    simp only [Instr.loadAt, Instr.sureAddr, Sem.run_bind, Sem.run_pure, Result.andThen_ok] at h4
    rw [Array.getD_eq_getD_getElem?] at h0 h3 h5
    simp [results, hres, h0, h3, h5, asAddr, h4]
end
end Go.Proofs.YtfnbilpemdgkkaaGreatDoor
end
section
namespace Go.Proofs.YtfnbilpemdgkkaaGreatDoor
open Go.RowKit
set_option linter.unusedVariables false
end Go.Proofs.YtfnbilpemdgkkaaGreatDoor
end
section
namespace Go.Proofs.YtfnbilpemdgkkaaGreatDoor
open Go.RowKit
set_option linter.all false
set_option maxHeartbeats 2000000
attribute [local irreducible] Nop Yd Yp Ent Has Tr FnP FnP2 Src J8 P6 S7 U6 E7
theorem W7 {o3 : Option Addr} {s9 o2 : Nat} {i7 : List Int} {m7 : Option Addr} {r6 l7 : Nat} {f4 : List (Int × List Int)} {a_facts : Option Addr} {m_facts c_facts : Nat} {c7 : List (Int × List Int)} {a_head : Option Addr} {m_head c_head : Nat} {head : List Int} (hqa : f4.length ≤ 4) (hqt : ∀ a ∈ f4, a.2.length ≤ 3) (hf : ∀ a ∈ f4, Few a c7) (hqh : i7.length ≤ 1048576) : Tr Tryz.prog 12 [.agg #[.slice o3 s9 o2, .slice m7 r6 l7], .slice a_facts m_facts c_facts, .slice a_head m_head c_head] (fun w L => Ro w L eIs [.slice o3 s9 o2] i7 ∧ Ro w L C2 [.slice m7 r6 l7] f4 ∧ Ro w L B9 [.slice a_facts m_facts c_facts] c7 ∧ Ro w L eIs [.slice a_head m_head c_head] head) [] (κ := (Option Addr × Nat × Nat) × (Option Addr × Nat × Nat)) (fun k => True) (fun k => .tuple #[.agg #[.slice k.1.1 k.1.2.1 k.1.2.2, .slice k.2.1 k.2.2.1 k.2.2.2], .bool ((r8 f4 c7).any (H4 i7 head))]) (fun k => [ow eIs [.slice k.1.1 k.1.2.1 k.1.2.2] ((F0 (r8 f4 c7) i7 head).1), ow eIs [.slice k.2.1 k.2.2.1 k.2.2.2] ((F0 (r8 f4 c7) i7 head).2)]) := by
 refine Tr.intro Tryz.func12 rfl (n := 26) rfl (by decide +kernel) bl (fr := [(0, .agg #[.slice o3 s9 o2, .slice m7 r6 l7]), (1, .slice a_facts m_facts c_facts), (2, .slice a_head m_head c_head)]) rfl fun w L hR => ?_
 obtain ⟨w4, s5, hfacts, hhead⟩ := hR
 obtain ⟨rfl, I4⟩ := w4.slen
 obtain ⟨rfl, G5⟩ := s5.slen
 obtain ⟨rfl, lfacts⟩ := hfacts.slen
 obtain ⟨rfl, lhead⟩ := hhead.slen
 have jb := a2x (c7 := c7) hf hqa hqt
 refine Ew Z3 (Est rfl (N.box (cs := [_, _]) rfl dc rfl) (fun b3 _ => (Est rfl (N.alloc ty_Binding dc) (fun b6 _ => (Ei rfl (Eu (Eq_ (Ew Z5 (Ey rfl (o1 (cs := [_, _]) ty_Query rfl (Has.pt (mS m0)) rfl) (Em rfl (Est rfl (N.call (R7 fo fo fo) rfl rfl rfl dc rfl (fun w Lp hA => ⟨hA.ro w4, hA.ro s5, hA.ro hfacts⟩)) (fun k12 _ => ?_))))))))))))
 obtain ⟨a12, m12, c12⟩ := k12
 refine f0 m0 fun e12 l12 => ?_
 subst e12
 refine Ey rfl ((Y.len us_Bindings rfl).yd) (Em rfl (Eu (E.block (a9q (E.loop (κ := Nat) (fun g => g ≤ (r8 f4 c7).length ∧ (r8 f4 c7).any (H4 i7 head) = ((r8 f4 c7).drop g).any (H4 i7 head) ∧ F0 (r8 f4 c7) i7 head = F0 ((r8 f4 c7).drop g) i7 head) (fun g => [(2, .slice a_head head.length c_head), (3, .pointer (some ⟨b3, 0, none⟩)), (6, .pointer (some ⟨b6, 0, none⟩)), (12, .slice a12 (r8 f4 c7).length c12), (13, .int .i64 (↑((r8 f4 c7).length) : Int)), (14, .int .i64 (g : Int))]) (fun g => [owd tBinding J5 a12 ((r8 f4 c7).length) c12 (r8 f4 c7) g, pt b6 36 [.slice none 0 0, .slice none 0 0], pt b3 27 [.slice o3 i7.length o2, .slice m7 f4.length l7]]) (fun g => (r8 f4 c7).length - g) (0) ⟨Nat.zero_le _, by simp⟩ ⟨rfl, rfl, rfl, rfl, rfl, rfl, trivial⟩ (.refl _) (fun g pg => ?_))))))
 try dsimp only
 obtain ⟨pk, pa⟩ := pg
 refine Ew Z1 (Ey rfl ((Y.lss rfl rfl).yd) (j4 (fun q15 => ?_) (fun q15 => ?_)))
 ·refine a8u m0 om fun ab16 ae16 => (a9v (j := g) om fun ce16 => (d7 (a5y fun oa16_0 om16_0 oc16_0 oa16_1 om16_1 oc16_1 oe16 on16_0 on16_1 => ?_)))
  subst oe16
  subst on16_0
  subst on16_1
  refine f0 m0 fun _ ol16_0 => (f0 (mS m0) fun _ ol16_1 => (Eu (Eq_ (j9 rfl (f5 (Et (Eq_ (E.block (Ew Z4 (Ey rfl ((o6 us_Bindings ty_Binding rfl ae16 rfl g rfl om).yd) (Ey rfl (o1 (cs := [_, _]) ty_Binding rfl (Has.owt ae16 (mS (mS m0))) rfl) (Est rfl (N.alloc ty_Binding dc) (fun b9 _ => (Est rfl (Ns [_, _] ty_Binding rfl) (fun _ _ => (Ev Z5 (Ey rfl (o1 (cs := [_, _]) ty_Query rfl (Has.pt (mS (mS (mS (mS (mS m0)))))) rfl) (Ey rfl (o1 (cs := [_, _]) ty_Binding rfl (Has.pt m0) rfl) (Est rfl (N.call (a0y fo) rfl rfl rfl dc rfl (fun w Lp hA => ⟨hA.ro w4, hA.ro s5, hA.ow (mS m0), hA.ow (mS (mS m0))⟩)) (fun k20 _ => ?_))))))))))))))))))))
  obtain ⟨a20, m20, c20⟩ := k20
  refine f0 m0 fun e20 l20 => ?_
  subst e20
  refine Em rfl (Est rfl (i8 M6 rfl rfl rfl dc (fun w Lp hA => ⟨hA.ow m0, hA.ro hhead⟩)) (fun _ _ => (u5 (fun q22 => ?_) (fun q22 => ?_))))
  ·refine Eu (j9 rfl (Ew Z3 (Ey rfl (o1 (cs := [_, _]) ty_Binding rfl (Has.pt (mS m0)) rfl) (B7 (Est rfl (Ns [_, _] ty_Binding rfl) (fun _ _ => (Ei rfl (Eu (E.ret (w9 (j5 (j5 (w9 (j5 (o4 (i9 (congrArg (ow eIs [_]) (show _ = (F0 (r8 f4 c7) i7 head).2 by grind [O9, Q9, H4, d1, d2, t1, t2])) (o4 (i9 (congrArg (ow eIs [_]) (show _ = (F0 (r8 f4 c7) i7 head).1 by grind [O9, Q9, H4, d1, d2, t1, t2])) (d7 (d7 ?_))))))))))))))))))))
   exact R1 br rfl rfl rfl (mS (mS m0)) ty_Binding rfl ((_, _, _), (_, _, _)) trivial (by rw [show ((r8 f4 c7).any (H4 i7 head)) = (true) from (by grind [O9, Q9, H4, d1, d2, t1, t2])]; try rfl) (J := _) (.refl _) (.inl rfl)
  ·refine Eu (j8 rfl (f5 (n9 (Et (Ez Z2 (Ey rfl ((Y.add rfl rfl om om).yd) (Em rfl (Eu (o4 (a9p (d7 (Ent.drop (d7 (Ent.drop (d7 (Ent.drop (d7 (Ent.drop (g9 (g9 (g9 ?_)))))))))))))))))))))
   exact Ea (g + 1) ⟨oz, (show (r8 f4 c7).any (H4 i7 head) = ((r8 f4 c7).drop (g + 1)).any (H4 i7 head) ∧ F0 (r8 f4 c7) i7 head = F0 ((r8 f4 c7).drop (g + 1)) i7 head from by grind [O9, Q9, H4, d1, d2, t1, t2])⟩
 ·refine Eu (Eq_ (j8 rfl (E.exit (l2 (l2 (w8 (Et (Ew Z3 (Ey rfl ((E3 (pvs := []) (cs := [_, _]) ty_Binding pl_Binding rfl rfl).yd) (d7 (Est rfl (Ns [_, _] ty_Binding rfl) (fun _ _ => (Ei rfl (Eu (E.ret (l3 (A := []) (Own.nil (E := Enc.int) (e := tI) (a := none)) rfl (i9 (congrArg (ow eIs [_]) (show _ = (F0 (r8 f4 c7) i7 head).2 by grind [O9, Q9, H4, d1, d2, t1, t2])) (l3 (A := []) (Own.nil (E := Enc.int) (e := tI) (a := none)) rfl (i9 (congrArg (ow eIs [_]) (show _ = (F0 (r8 f4 c7) i7 head).1 by grind [O9, Q9, H4, d1, d2, t1, t2])) (d7 (d7 ?_)))))))))))))))))))))
  exact R1 br rfl rfl rfl (mS (mS m0)) ty_Binding rfl ((none, 0, 0), (none, 0, 0)) trivial (by rw [show ((r8 f4 c7).any (H4 i7 head)) = (false) from (by grind [O9, Q9, H4, d1, d2, t1, t2])]; try rfl) (J := _) (.refl _) (.inl rfl)
end Go.Proofs.YtfnbilpemdgkkaaGreatDoor
end
