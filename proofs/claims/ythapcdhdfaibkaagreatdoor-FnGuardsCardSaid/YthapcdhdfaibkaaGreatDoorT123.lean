import Derived.Test.YthapcdhdfaibkaaGreatDoorT121
import Derived.Test.YthapcdhdfaibkaaGreatDoorT19
section
namespace Go.Proofs.YthapcdhdfaibkaaGreatDoor
set_option linter.all false
section
variable {x b : List Int × List Int} {t v : Int} {g : Int → Int} {h head u : List Int} {s : List Int} {p q : List Int × List IL} {F A : List IL} {a f : IL}
def a1B (b : List Int × List Int) (g : Int → Int) : Prop := b.1.length = b.2.length ∧ ∀ t, bd b t → F6 b t = g t
theorem b5M (hg : ∀ t, inR t 10 17 = false → g t = t) (hb : a1B b g) : F6 (F5 b t (g t)) t = g t ∧ a1B (F5 b t (g t)) g := by
  have h1 : F6 (F5 b t (g t)) t = g t := by
    cases hr : inR t 10 17 with
    | false => rw [← a0c hr, hg t hr]
    | true =>
      cases hu : unb b t with
      | true => rw [a7O (by rw [hr, hu]; rfl)]; exact b3W hb.1 hr hu
      | false => rw [a9O (by rw [hr, hu]; rfl)]; exact hb.2 t (.inr ((b4h hb.1).1 hu))
  refine ⟨h1, a4d hb.1, fun y hy => ?_⟩
  by_cases e : y = t
  · rw [e]; exact h1
  · have hy2 : bd b y := by
      rcases hy with hy | hy
      · exact .inl hy
      · unfold F5 at hy
        split at hy
        · rcases List.mem_append.1 hy with hy | hy
          · exact .inr hy
          · exact absurd (List.mem_singleton.1 hy) e
        · exact .inr hy
    rw [b0I hb.1 hy2]; exact hb.2 y hy2
theorem a9Q (hg : ∀ t, inR t 10 17 = false → g t = t) : ∀ {l : List (Int × Int)} {b : List Int × List Int}, a1B b g → (∀ p ∈ l, p.2 = g p.1) → okV b l = true ∧ a1B (I6 b l) g
  | [], b, hb, _ => ⟨rfl, hb⟩
  | p :: l, b, hb, hl => by
    have e := hl p (by simp)
    obtain ⟨h1, h2⟩ := b5M (t := p.1) hg hb
    rw [← e] at h1 h2
    obtain ⟨h3, h4⟩ := a9Q hg (l := l) h2 fun y hy => hl y (by simp [hy])
    exact ⟨by rw [okV, h3, decide_eq_true h1]; rfl, h4⟩
theorem a8u (hg : ∀ t, inR t 10 17 = false → g t = t) (hb : a1B b g) : s7 b a (a.1, a.2.map g) = true ∧ a1B (u9 b a (a.1, a.2.map g)) g := by
  have hz : ∀ p ∈ a.2.zip (a.2.map g), p.2 = g p.1 := by
    intro p hp
    obtain ⟨i, hi, rfl⟩ := List.getElem_of_mem hp
    simp
  obtain ⟨h1, h2⟩ := a9Q hg (l := a.2.zip (a.2.map g)) hb hz
  refine ⟨?_, h2⟩
  simp only [s7, Bool.and_eq_true, decide_eq_true_eq]
  exact ⟨trivial, by simp, hb.1, h1⟩
theorem a9C (hg : ∀ t, inR t 10 17 = false → g t = t) : ∀ {A : List IL} {B : List (List Int × List Int)} {V : List Int}, (∀ a ∈ A, (a.1, a.2.map g) ∈ F) → (∃ b ∈ B, a1B b g ∧ ∀ t ∈ V, bd b t) →
    ∃ b ∈ A.foldl (fun l a => J6 l a F) B, a1B b g ∧ (∀ t ∈ V, bd b t) ∧ ∀ a ∈ A, ∀ t ∈ a.2, bd b t
  | [], B, V, _, ⟨b, h1, h2, h3⟩ => ⟨b, h1, h2, h3, fun a ha => by cases ha⟩
  | a :: A, B, V, hF, ⟨b, h1, h2, h3⟩ => by
    obtain ⟨m1, m2⟩ := a8u (a := a) hg h2
    obtain ⟨k1, k2, k3, k4⟩ := a6W m1
    obtain ⟨c, c1, c2, c3, c4⟩ := a9C hg (A := A) (B := J6 B a F) (V := V ++ a.2) (fun x hx => hF x (by simp [hx]))
      ⟨u9 b a (a.1, a.2.map g), List.mem_flatMap.2 ⟨b, h1, List.mem_map.2 ⟨_, List.mem_filter.2 ⟨hF a (by simp), m1⟩, rfl⟩⟩, m2, fun t ht => by
        rcases List.mem_append.1 ht with ht | ht
        · exact (k4 t<|h3 t ht).2
        · exact k3 t ht⟩
    refine ⟨c, c1, c2, fun t ht => c3 t (by simp [ht]), fun x hx t ht => ?_⟩
    rcases List.mem_cons.1 hx with hx | hx
    · subst hx; exact c3 t (by simp [ht])
    · exact c4 x hx t ht
theorem b0f (hg : ∀ t, inR t 10 17 = false → g t = t) (hF : ∀ a ∈ A, (a.1, a.2.map g) ∈ F) : ∃ b ∈ H6 A F, a1B b g ∧ ∀ a ∈ A, ∀ t ∈ a.2, bd b t := by
  obtain ⟨b, h1, h2, _, h4⟩ := a9C hg (F := F) (A := A) (B := [([], [])]) (V := []) hF ⟨([], []), by simp, ⟨rfl, fun t ht => by
    rcases ht with ht | ht
    · rw [← a0c ht, hg t ht]
    · cases ht⟩, fun t ht => by cases ht⟩
  exact ⟨b, h1, h2, h4⟩
end
end Go.Proofs.YthapcdhdfaibkaaGreatDoor
end
section
namespace Go.Proofs.YthapcdhdfaibkaaGreatDoor
set_option linter.all false
abbrev Qry := List Int × List IL
abbrev cU (p q : List IL) : List Int := [u7 (fun t => inR t 0 9) p, u7 (fun t => inR t 0 9) q].flatten
abbrev bP (u : List Int) (A : List IL) : List Int × List Int := (a2Z A, b6E u (a2Z A).length)
def unF (u : List Int) (A : List IL) (w : Int) : Int := ((a2Z A).find? fun x => decide (F6 (bP u A) x = w)).getD w
def hom (p q : Qry) : Prop := ∃ g : Int → Int, (∀ t, inR t 10 17 = false → g t = t) ∧ (∀ a ∈ q.2, (a.1, a.2.map g) ∈ p.2) ∧ q.1.map g = p.1
section
variable {t v : Int} {g : Int → Int} {h head u : List Int} {s : List Int} {p q r : Qry} {F A B : List IL} {a f : IL}
theorem b7q (hq : I3 s q = true) : (∀ a ∈ q.2, ∀ t ∈ a.2, (inR t 10 17 = true ∧ t ∈ a2Z q.2) ∨ (inR t 10 17 = false ∧ t ∈ u7 (fun t => inR t 0 9) q.2)) ∧ ∀ t ∈ q.1, inR t 10 17 = true ∧ t ∈ a2Z q.2 ∧ ∃ a ∈ q.2, t ∈ a.2 := by
  simp only [I3, Bool.and_eq_true, Bool.not_eq_true', List.any_eq_false, Bool.not_eq_true, W2] at hq
  obtain ⟨_, _, h3, _, h4⟩ := hq
  refine ⟨fun a ha t ht => ?_, fun t ht => ?_⟩
  · have h5 : K3 s a = true := by simpa using h3 a ha
    simp only [K3, Bool.and_eq_true, Bool.not_eq_true', List.any_eq_false, Bool.not_eq_true] at h5
    have h6 : L6 t = true := by simpa using h5.2.2 t ht
    have h7 : t ∈ q.2.flatMap fun a => a.2 := List.mem_flatMap.2 ⟨a, ha, ht⟩
    simp only [L6, Bool.or_eq_true] at h6
    cases hr : inR t 10 17 with
    | true => exact .inl ⟨rfl, a7E.2 ⟨h7, hr⟩⟩
    | false =>
      rcases h6 with h6 | h6
      · exact .inr ⟨rfl, a7E.2 ⟨h7, h6⟩⟩
      · rw [h6] at hr; cases hr
  · have h5 : I8 (u7 (fun t => inR t 10 17) q.2) t = true := by simpa using h4 t ht
    have h6 := a2a.1 h5
    obtain ⟨h7, h8⟩ := a7E.1 h6
    obtain ⟨a, ha, hta⟩ := List.mem_flatMap.1 h7
    exact ⟨h8, h6, a, ha, hta⟩
end
end Go.Proofs.YthapcdhdfaibkaaGreatDoor
end
section
namespace Go.Proofs.YthapcdhdfaibkaaGreatDoor
set_option linter.all false
section
variable {t v : Int} {h u C : List Int} {s : List Int} {p q r : Qry} {L A B : List IL} {n i k : Nat}
def c3m (A : List IL) : Prop := (u7 (fun t => inR t 0 9) A).length + (a2Z A).length ≤ 10
end
section
variable {s h : List Int} {l : List IL} {n : Nat}
structure CInv (s h : List Int) (l : List IL) (σ : List IL × Nat) : Prop where
  sub : ∀ a ∈ σ.1, a ∈ l
  len : σ.1.length ≤ 4
  ok : I3 s (h, σ.1) = true
  hm : hom (h, σ.1) (h, l)
  min : ∀ k, k < σ.2 → k < σ.1.length → I3 s (h, σ.1.eraseIdx k) = true → ¬ hom (h, σ.1.eraseIdx k) (h, σ.1)
end
end Go.Proofs.YthapcdhdfaibkaaGreatDoor
end
section
namespace Go.Proofs.YthapcdhdfaibkaaGreatDoor
set_option linter.all false
def sQ (H : List Int) (A : List IL) : Prop := A.length ≤ 4 ∧ (∀ a ∈ A, a.2.length ≤ 3) ∧ H.length ≤ 3
section
variable {T : Int → Prop} {H G tms : List Int} {A B : List IL} {k n : Nat} {i : Int} {s : List Int} {a : IL}
theorem dQ.small (h : dQ T 3 3 H A) : sQ H A := ⟨by have := h.1.2; omega, fun a ha => (h.2.1 a ha).1.2, h.2.2⟩
theorem a3N (h : sQ H A) : O1 (fun x => x.2.length) A ≤ 1048576 := by
  have h2 := a8x (c := fun x : IL => x.2.length) (n := 3) (l := A) h.2.1
  have := h.1
  unfold O1; omega
end
end Go.Proofs.YthapcdhdfaibkaaGreatDoor
end
section
namespace Go.Proofs.YthapcdhdfaibkaaGreatDoor
open Go.RowKit
set_option linter.all false
end Go.Proofs.YthapcdhdfaibkaaGreatDoor
end
section
namespace Go.Proofs.YthapcdhdfaibkaaGreatDoor
open Go.RowKit
set_option linter.all false
set_option maxHeartbeats 2000000
attribute [local irreducible] Nop Yd Yp Ent Has Tr FnP FnP2 Src M5 U1 V6 W3 G3
theorem b4D {a_code : Option Addr} {m_code c_code : Nat} {code : List UInt8} : TB Tryz.prog 6 [.slice a_code m_code c_code] (fun w L => Ro w L a0B [.slice a_code m_code c_code] code) (decide (1048576 < (code.length : Int))) := by
 refine Ti1 Tryz.func6 6 rfl fun w L hR => ?_
 have hcode := hR
 obtain ⟨rfl, lcode⟩ := hcode.slen
 refine Ew Z1<|Ei rfl<|Ev Z4<|Em rfl<|Yln us_U8s rfl<|Ey rfl ((Y.gtr rfl rfl).yd)<|Ei rfl<|Eu<|E.ret<|Fb rfl rfl (by simp_all)
end Go.Proofs.YthapcdhdfaibkaaGreatDoor
end
section
namespace Go.Proofs.YthapcdhdfaibkaaGreatDoor
set_option linter.all false
section
variable {gn : List IL} {tms H : List Int} {r : Int} {g n : Nat}
theorem b0j (h : gn.length ≤ g ∧ ∀ a ∈ gn, a.2.length ≤ 3) (e : tms.length = n) (hn : n ≤ 3) : (gn ++ [(r, tms)]).length ≤ g + 1 ∧ ∀ a ∈ gn ++ [(r, tms)], a.2.length ≤ 3 := by
  refine ⟨by rw [List.length_append, List.length_singleton]; omega, fun a ha => ?_⟩
  rcases List.mem_append.1 ha with ha | ha
  · exact h.2 a ha
  · rw [List.mem_singleton] at ha; subst ha; show tms.length ≤ 3; omega
theorem a9s (h : gn.length ≤ 2 ∧ ∀ a ∈ gn, a.2.length ≤ 3) : sQ [] gn := ⟨by omega, h.2, Nat.zero_le _⟩
theorem b5h (h : gn.length ≤ 2 ∧ ∀ a ∈ gn, a.2.length ≤ 3) : sQ [] (gn ++ [(r, [17])]) := by
  have := b0j (r := r) (tms := [17]) (n := 1) (g := 2) h rfl (by decide)
  exact ⟨by omega, this.2, Nat.zero_le _⟩
theorem b9P (h : gn.length ≤ 2 ∧ ∀ a ∈ gn, a.2.length ≤ 3) : O1 (fun x => x.2.length) gn ≤ 1048576 := a3N (a9s h)
end
end Go.Proofs.YthapcdhdfaibkaaGreatDoor
end
section
namespace Go.Proofs.YthapcdhdfaibkaaGreatDoor
open Go.RowKit
set_option linter.all false
set_option maxHeartbeats 2000000
attribute [local irreducible] Nop Yd Yp Ent Has Tr FnP FnP2 Src M5 U1 V6 W3 G3
theorem b2X {a_l : Option Addr} {m_l c_l : Nat} {l : List IL} (hz : l.length ≤ 2097152) (hyl : ∀ x ∈ l, x.2.length ≤ 1048576) : TL Tryz.prog 83 [.slice a_l m_l c_l] (fun w L => Ro w L z6 [.slice a_l m_l c_l] l) z6 l := by
 refine Ti1 Tryz.func83 27 rfl fun w L hR => ?_
 have hl := hR
 obtain ⟨rfl, ll⟩ := hl.slen
 refine Ew Z1<|Ei rfl<|Ev Z2<|Est rfl (Nb [] [] us_Accesss ty_Access rfl rfl)<|fun b5 _ => Ent.drop<|Ei rfl<|Eu<|Eq_<|Ew Z1<|Ei rfl<|Eu<|E.block<|l6 (A := []) (Own.nil (E := T3) (e := tAccess) (a := (some ⟨b5, 0, none⟩))) rfl<|g9 (congrArg (ow z6 [_]) (show _ = l.take 0 from by first | rfl | (simp; done) | grind [d1, d2, t1, t2]))<|Lo (κ := Nat × SL) (fun g => g.1 ≤ l.length ∧ True) (fun g => [(0, .slice a_l l.length c_l), (3, .slice g.2.1 g.2.2.1 g.2.2.2), (4, .int .i64 (↑g.1 : Int))]) (fun g => [ow z6 [.slice g.2.1 g.2.2.1 g.2.2.2]<|l.take g.1]) (fun g => l.length - g.1) (0, (some ⟨b5, 0, none⟩), 0, 0) ⟨Nat.zero_le _, by simp⟩<|fun g pg => ?_
 obtain ⟨g, aA0_0, mA0_0, cA0_0⟩ := g
 try dsimp only at pg
 try dsimp only
 obtain ⟨pk, pa⟩ := pg
 have jp := List.length_take_le g l
 refine r8 m0 ?_
 rintro rfl laA0_0
 refine Eq_<|Ew Z4<|Em rfl<|Em rfl<|Yln us_Accesss rfl<|Ylt rfl<|l3 (fun q9 => ?_)<|fun q9 => ?_
 ·refine Eu<|Ct<|Eq_<|E.block<|D.region (fun j => !(Nat.beq j 13)) mixed<|Dm 0 rfl<|Dm 1 rfl<|Dm 2 rfl ?_
  obtain ⟨eb15, eo15, ec15, ea15, er15, el15, eh15⟩ := hl.elem g om
  obtain ⟨xa15_0, xc15_0, rfl, ei15_0, xh15_0⟩ := X7 er15
  have := xh15_0.slen.2
  refine Dyp 3 rfl (z8 us_Accesss ty_Access rfl ea15 rfl g rfl om)<|Df 4 5 fo_Access_0 i7 rfl (Hs (eh15 _) 0 rfl)<|Dm 6 rfl<|Dm 7 rfl<|Dyp 8 rfl (z8 us_Accesss ty_Access rfl ea15 rfl g rfl om)<|Df 9 10 fo_Access_1 ty_Is rfl (Hs (eh15 _) 1 rfl)<|E7 11 rfl rfl kr (fun _ => rfl) (N.call (a1U<|hyl _<|List.getElem_mem om) rfl rfl rfl dc rfl<|fun w Lp hA => ⟨ei15_0, hA.ro xh15_0⟩)<|fun k23 _ => ?_
  obtain ⟨a23, m23, c23⟩ := k23
  refine r8 m0 ?_
  rintro rfl l23
  refine E7 12 rfl rfl kr (fun _ => rfl) (Nb [_] [_, _] us_Accesss ty_Access rfl rfl)<|fun b24 _ => f5<|f5<|i8<|E7 13 rfl rfl kr (fun h => by cases h) (B0 (E := T3) (ex := l[g]) us_Accesss ty_Access rfl rfl rfl (a1s (x := l[g]) ei15_0 Own.ow) rfl bn bn dc)<|fun p25 _ => Dyp 14 rfl (G7 rfl)<|n9 kr<|o6<|Et<|Ez Z3<|Em rfl<|Yad rfl om om<|Ei rfl<|Eu<|g9 (congrArg (ow z6 [_]) (show _ = l.take (g + 1) from by grind [d1, d2, t1, t2])) ?_
  exact Ea (g + 1, p25.1, ((l.take g).length + 1), p25.2) ⟨oz, trivial⟩
 ·refine Eu<|r7 rfl<|E.exit<|l4<|l4<|w8<|Et<|Ew Z2<|Em rfl<|Ei rfl<|Eu<|E.ret<|g9 (congrArg (ow z6 [_]) (show _ = l by grind [d1, d2, t1, t2]))<|Fg rfl rfl (_, _, _) rfl rfl
end Go.Proofs.YthapcdhdfaibkaaGreatDoor
end
section
namespace Go.Proofs.YthapcdhdfaibkaaGreatDoor
open Go.RowKit
set_option linter.all false
section
variable {α β : Type} {E : Enc α} {E2 : Enc β} {e2 : TypeId} {n : Nat} {w0 : World} {L0 : List Nat} {fr : Fr} {R : List HP} {G : Act → World → Prop} {e : TypeId} {a : Option Addr} {m c : Nat} {xs : List α} {ys : List (List β)} {cs cx : List Value}
theorem b7v (hx : 0 < xs.length) (h : ∀ b cs cx, a = some ⟨b, 0, none⟩ → m = xs.length → cx.length = xs.length * E.k → cs.take cx.length = cx → Ent n w0 L0 fr (pt b e cs :: els E cx xs :: R) G) : Ent n w0 L0 fr (ow (Enc.sl e E) [.slice a m c] xs :: R) G := fun ac w h1 h2 => by
  obtain ⟨L, ⟨Lo, LR, rfl, ho, hR⟩, hn, hst⟩ := h2
  obtain ⟨ccs, L1, L2, rfl, g1, g2, g3, h0, g4⟩ := a1l ho
  rcases g4 with ⟨_, h3, _⟩ | ⟨g, cur, h2, h3, h4, h5, h6, h7, rfl⟩
  · omega
  · refine h g cur.toList ccs h2 g1 g3.len ?_ ac w h1 ⟨[g] ++ (L2 ++ LR), ⟨[g], L2 ++ LR, rfl, ⟨rfl, h3⟩, L2, LR, rfl, g3, hR⟩, by simpa [List.append_assoc] using hn, by simpa [List.append_assoc] using hst⟩
    rw [g3.len, ← g1, h7]
theorem b4Y (j : Nat) (hj : j < ys.length) (h : ∀ oa oc, (cx.drop j).take 1 = [.slice oa (ys[j]'hj).length oc] → Ent n w0 L0 fr (ow (Enc.sl e2 E2) [.slice oa (ys[j]'hj).length oc] (ys[j]'hj) :: R) G) : Ent n w0 L0 fr (els (Enc.sl e2 E2) cx ys :: R) G := fun ac w h1 h2 => by
  obtain ⟨L, ⟨Lo, LR, rfl, ho, hR⟩, hn, hst⟩ := h2
  have hx : ys = ys.take j ++ (ys[j] :: ys.drop (j + 1)) := by simp
  have ho' : D8 (Enc.sl e2 E2) w cx ys Lo true := ho
  rw [hx] at ho'
  obtain ⟨c1, c2, L1, L2, f1, rfl, f3, d1, d2, M1, M2, e1, rfl, e3, e4⟩ := ho'.split
  have hl1 : c1.length = j := by rw [f3.len, List.length_take, Nat.min_eq_left (by omega)]; show j * 1 = j; omega
  obtain ⟨a', m', c', ccs, K1, K2, rfl, rfl, k3⟩ := id e3
  refine h a' c' ?_ ac w h1 ⟨M1 ++ LR, ⟨M1, LR, rfl, e3, hR⟩, ?_, hst.sublist fun b hb => ?_⟩
  · rw [f1, e1, List.drop_left' hl1]; rfl
  · have : (M1 ++ LR).Sublist (L1 ++ (M1 ++ M2) ++ LR) := List.Sublist.append ((List.sublist_append_left M1 M2).trans (List.sublist_append_right L1 _)) (.refl _)
    exact hn.sublist this
  · simp only [List.mem_append] at hb ⊢
    rcases hb with hb | hb
    · exact .inl<|.inr<|.inl hb
    · exact .inr hb
theorem b8y {j : Nat} {v : Value} (h : cs.take cx.length = cx) (hj : j < cx.length) (hc : (cx.drop j).take 1 = [v]) : (cs.drop j).take [v].length = [v] := by
  obtain ⟨n, hn⟩ : ∃ n, n = cx.length := ⟨_, rfl⟩
  rw [← hn] at h hj
  subst h
  rw [List.drop_take, List.take_take, Nat.min_eq_left (by omega)] at hc
  exact hc
theorem c2y {H : List HP} {b : Nat} {v : Value} (h : Has w0 L0 H b 0 cs) (j : Nat) (he : (cs.drop j).take [v].length = [v]) : Has w0 L0 H b (0 + j * 1) [v] := by
  rw [Nat.mul_one]; exact h.sub (cs' := [v]) j he
theorem b7A {PB : List Nat} {H : List HP} {b : Nat} {v : Value} (h : S3 w0 L0 PB H b 0 cs) (j : Nat) (he : (cs.drop j).take [v].length = [v]) : S3 w0 L0 PB H b (0 + j * 1) [v] := by
  rw [Nat.mul_one]; exact h.sub (cs' := [v]) j he
end
end Go.Proofs.YthapcdhdfaibkaaGreatDoor
end
section
namespace Go.Proofs.YthapcdhdfaibkaaGreatDoor
open Go.RowKit
set_option linter.all false
set_option maxHeartbeats 2000000
attribute [local irreducible] Nop Yd Yp Ent Has Tr FnP FnP2 Src M5 U1 V6 W3 G3
variable {m_a c_a m_b c_b : Nat} {a_a a_b : Option Addr}
theorem a3a {a : List Int} {b : List Int} : TB Tryz.prog 24 [.slice a_a m_a c_a, .slice a_b m_b c_b] (fun w L => Ro w L eIs [.slice a_a m_a c_a] a ∧ Ro w L eIs [.slice a_b m_b c_b] b) (decide (a = b)) := by
 refine Ti2 Tryz.func24 26 rfl fun w L hR => ?_
 obtain ⟨ha, hb⟩ := hR
 obtain ⟨rfl, la⟩ := ha.slen
 obtain ⟨rfl, lb⟩ := hb.slen
 refine Ew Z1<|Ei rfl<|Eu<|Eq_<|Ew Z5<|Em rfl<|Yln us_Is rfl<|Em rfl<|Yln us_Is rfl<|Ey rfl ((Y.neq rfl rfl).yd)<|l3 (fun q10 => ?_)<|fun q10 => ?_
 ·refine Eu<|r6 rfl<|Ew Z1<|Ei rfl<|Eu<|E.ret<|i9<|Fb rfl rfl (by grind [d1, d2, t1, t2])
 ·refine Eu<|Cf<|Eq_<|Ew Z1<|Ei rfl<|Eu<|E.block<|Lo (κ := Nat) (fun g => g ≤ a.length ∧ a.length = b.length ∧ (a = b ↔ a.drop g = b.drop g)) (fun g => [(0, .slice a_a a.length c_a), (1, .slice a_b b.length c_b), (5, .int .i64 (g : Int))]) (fun g => []) (fun g => a.length - g) 0 ⟨Nat.zero_le _, by exact ⟨by omega, by simp⟩⟩<|fun g pg => ?_
  obtain ⟨pk, pa⟩ := pg
  refine Eq_<|Ew Z4<|Em rfl<|Em rfl<|Yln us_Is rfl<|Ylt rfl<|l3 (fun q14 => ?_)<|fun q14 => ?_
  ·refine Eu<|Ct<|Eq_<|E.block<|Eq_<|D.region (fun j => true) mixed<|Dm 0 rfl<|Dm 1 rfl ?_
   obtain ⟨eb19, eo19, ea19, ei19, eh19⟩ := ha.elemI g om
   refine Dyp 2 rfl (z8 us_Is i7 rfl ea19 rfl g rfl om)<|Dy 3 rfl (B4 i7 rfl (eh19 _) rfl)<|Dm 4 rfl<|Dm 5 rfl ?_
   obtain ⟨eb23, eo23, ea23, ei23, eh23⟩ := hb.elemI g om
   refine Dyp 6 rfl (z8 us_Is i7 rfl ea23 rfl g rfl om)<|Dy 7 rfl (B4 i7 rfl (eh23 _) rfl)<|Dyp 8 rfl (Y.neq rfl rfl)<|l3 (fun q25 => ?_)<|fun q25 => ?_
   ·refine n9 kr<|Et<|r6 rfl<|Ew Z1<|Ei rfl<|Eu<|E.ret<|u6<|i9<|i9<|u6<|i9<|Fb rfl rfl (by grind [d1, d2, t1, t2])
   ·refine n9 kr<|Et<|r7 rfl<|v8<|o6<|Et<|Ez Z3<|Em rfl<|Yad rfl om om<|Ei rfl ?_
    exact Eu<|t7 br (g + 1) rs (.refl _) ⟨by omega, by grind [d1, d2, t1, t2]⟩ om
  ·refine Eu<|r7 rfl<|E.exit<|l4<|l4<|w8<|Et<|Ew Z1<|Ei rfl<|Eu<|E.ret<|Fb rfl rfl (by grind [d1, d2, t1, t2])
theorem b1z {a : List (List Int)} {b : List (List Int)} : TB Tryz.prog 17 [.slice a_a m_a c_a, .slice a_b m_b c_b] (fun w L => Ro w L H3 [.slice a_a m_a c_a] a ∧ Ro w L H3 [.slice a_b m_b c_b] b) (a.all (fun x => b.any fun y => decide (x = y))) := by
 refine Ti2 Tryz.func17 34 rfl fun w L hR => ?_
 obtain ⟨ha, hb⟩ := hR
 obtain ⟨rfl, la⟩ := ha.slen
 obtain ⟨rfl, lb⟩ := hb.slen
 refine Ew Z1<|Ei rfl<|Eu<|Eq_<|Ew Z1<|Ei rfl<|Eu<|E.block<|Lo (κ := Nat) (fun g => g ≤ a.length ∧ a.all (fun x => b.any fun y => decide (x = y)) = (a.drop g).all (fun x => b.any fun y => decide (x = y))) (fun g => [(0, .slice a_a a.length c_a), (1, .slice a_b b.length c_b), (5, .int .i64 (g : Int))]) (fun g => []) (fun g => a.length - g) 0 ⟨Nat.zero_le _, by simp⟩<|fun g pg => ?_
 obtain ⟨pk, pa⟩ := pg
 refine Eq_<|Ew Z4<|Em rfl<|Em rfl<|Yln us_Iss rfl<|Ylt rfl<|l3 (fun q11 => ?_)<|fun q11 => ?_
 ·refine Eu<|Ct<|Eq_<|E.block<|Ew Z1<|Ei rfl<|Eu<|Eq_<|Ew Z1<|Ei rfl<|Eu<|E.block<|E.loop (κ := Nat) (fun h => h ≤ b.length ∧ True) (fun h => [(0, .slice a_a a.length c_a), (1, .slice a_b b.length c_b), (5, .int .i64 (g : Int)), (6, .bool<|(b.take h).any fun y => decide (a[g] = y)), (7, .int .i64 (h : Int))]) (fun h => []) (fun h => b.length - h) (0) ⟨Nat.zero_le _, by simp⟩ ⟨rfl, rfl, rfl, frB (by first | rfl | (simp; done) | grind [E4, d1, d2, t1, t2]), rfl, trivial⟩ (.refl _)<|fun h ph => ?_
  try dsimp only
  obtain ⟨pk, pa⟩ := ph
  refine Eq_<|Ew Z4<|Em rfl<|Em rfl<|Yln us_Iss rfl<|Ylt rfl<|l3 (fun q17 => ?_)<|fun q17 => ?_
  ·refine Eu<|Ct<|Eq_<|E.block<|D.region (fun j => true) mixed<|Dm 0 rfl<|Ent.b (fun q20 => ?_)<|fun q20 => ?_
   ·refine Dm 1 rfl<|Dsk 2 rfl<|Dsk 3 rfl<|Dsk 4 rfl<|Dsk 5 rfl<|Dsk 6 rfl<|Dsk 7 rfl<|Dsk 8 rfl<|Dsk 9 rfl<|Dsk 10 rfl<|Dyp 11 rfl (K7 rfl rfl)<|Dyp 12 rfl (G7 rfl)<|n9 kr<|o6<|Et<|Ez Z3<|Em rfl<|Yad rfl om om<|Ei rfl ?_
    exact Eu<|t7 br (h + 1) ⟨rfl, rfl, rfl, frB (by grind [E4, d1, d2, t1, t2]), rfl, trivial⟩ (.refl _) ⟨oz, trivial⟩ oz
   ·refine Dm 1 rfl<|Dm 2 rfl<|Dm 3 rfl ?_
    obtain ⟨eb24, eo24, ec24, ea24, er24, el24, eh24⟩ := ha.elem g om
    obtain ⟨xa24, xc24, rfl⟩ := er24.sl
    have := er24.slen.2
    refine Dyp 4 rfl (z8 us_Iss ty_Is rfl ea24 rfl g rfl om)<|Dy 5 rfl (B4 ty_Is rfl (eh24 _) rfl)<|Dm 6 rfl<|Dm 7 rfl ?_
    obtain ⟨eb28, eo28, ec28, ea28, er28, el28, eh28⟩ := hb.elem h om
    obtain ⟨xa28, xc28, rfl⟩ := er28.sl
    have := er28.slen.2
    refine Dyp 8 rfl (z8 us_Iss ty_Is rfl ea28 rfl h rfl om)<|Dy 9 rfl (B4 ty_Is rfl (eh28 _) rfl)<|D0 10 rfl a3a rfl (fun hA => ⟨hA.ro er24, hA.ro er28⟩)<|Dyp 11 rfl (L8 rfl rfl)<|Dyp 12 rfl (G7 rfl)<|Ent.b (fun q6 => ?_)<|fun q6 => ?_
    ·refine n9 kr<|o6<|Et<|Ez Z3<|Em rfl<|Yad rfl om om<|Ei rfl ?_
     exact Eu<|t7 br (h + 1) ⟨rfl, rfl, rfl, frB (by grind [E4, d1, d2, t1, t2]), rfl, trivial⟩ (.refl _) ⟨oz, trivial⟩ oz
    ·refine n9 kr<|o6<|Et<|Ez Z3<|Em rfl<|Yad rfl om om<|Ei rfl ?_
     exact Eu<|t7 br (h + 1) ⟨rfl, rfl, rfl, frB (by grind [E4, d1, d2, t1, t2]), rfl, trivial⟩ (.refl _) ⟨oz, trivial⟩ oz
  ·refine Eu<|r7 rfl<|E.exit<|l4<|l4<|w8<|Et<|Ew Z2<|Em rfl<|Ent.b (fun q32 => ?_)<|fun q32 => ?_
   ·refine Yno true rfl<|Eu<|r7 rfl<|v8<|o6<|Et<|Ez Z3<|Em rfl<|Yad rfl om om<|Ei rfl ?_
    exact Eu<|t7 br (g + 1) rs (.refl _) ⟨by omega, by grind [d1, d2, t1, t2]⟩ om
   ·refine Yno false rfl<|Eu<|r6 rfl<|Ew Z1<|Ei rfl<|Eu<|E.ret<|u6<|i9<|i9<|u6<|i9<|Fb rfl rfl (by grind [E4, d1, d2, t1, t2])
 ·refine Eu<|r7 rfl<|E.exit<|l4<|l4<|w8<|Et<|Ew Z1<|Ei rfl<|Eu<|E.ret<|Fb rfl rfl (by grind [E4, d1, d2, t1, t2])
end Go.Proofs.YthapcdhdfaibkaaGreatDoor
end
