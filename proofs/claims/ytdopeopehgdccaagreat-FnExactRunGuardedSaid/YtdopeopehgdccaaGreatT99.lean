import Derived.Test.YtdopeopehgdccaaGreatT31
section
namespace Go.Proofs.YtdopeopehgdccaaGreat
open Go.RowKit
set_option linter.unusedVariables false
set_option linter.unusedSimpArgs false
def hpx {κ : Type} (F : κ → List HP) : HP where
  holds w L := ∃ k, Sep (F k) w L
  stable := fun ⟨k, h⟩ hb => ⟨k, h.stable hb⟩
  inh := fun ⟨k, h⟩ => h.inh
def b4P (RR : World → List Nat → Prop) : Prop := ∀ (w0 : World) (L0 : List Nat) (pre rest : List HP) (w : World) (Lp : List Nat), At w0 L0 pre rest w Lp → RR w0 L0 → RR w Lp
def FnS {α σ : Type} (P : Program) (g : FuncId) (caps : List Value) (RR : World → List Nat → Prop) (E : Enc α) (val : List Value → Value) (D : σ → α → Prop) (p : α → Bool) (S : σ → HP) (st : σ → α → σ) : Prop :=
  ∀ cs x s, D s x → Tr P g (val cs :: caps) (fun w L => Ro w L E cs x ∧ RR w L) [S s] (κ := Unit) (fun _ => True) (fun _ => .bool (p x)) (fun _ => [S (st s x)])
section
variable {P : Program} {Q : Exit → Act → World → Prop} {n : Nat} {w0 : World} {L0 : List Nat} {fr : Fr} {H R A : List HP} {G : Act → World → Prop} {d : Nat} {ty : TypeId} {pos : String} {af : Array Edge} {g : Option (Nat × Bool)} {κ σ α : Type} {F F' : κ → List HP} {RR : World → List Nat → Prop}
theorem b8g (k : κ) (hH : H = F k ++ R) (h : Ent n w0 L0 fr (hpx F :: R) G) : Ent n w0 L0 fr H G := fun a w h1 h2 => by
  subst hH
  obtain ⟨L, hs, hn, hst⟩ := h2
  obtain ⟨L1, L2, rfl, g1, g2⟩ := Sep.append.1 hs
  exact h a w h1 ⟨L1 ++ L2, ⟨L1, L2, rfl, ⟨k, g1⟩, g2⟩, hn, hst⟩
theorem b6S (h : ∀ k, Ent n w0 L0 fr (F k ++ R) G) : Ent n w0 L0 fr (hpx F :: R) G := fun a w h1 h2 => by
  obtain ⟨L, ⟨L1, L2, rfl, ⟨k, g1⟩, g2⟩, hn, hst⟩ := h2
  exact h k a w h1 ⟨L1 ++ L2, Sep.append.2 ⟨L1, L2, rfl, g1, g2⟩, hn, hst⟩
theorem b9P {κ' : Type} [Inhabited κ] {F'' : κ' → List HP} {F' : κ' → List HP} {f : FuncId} {args : List Value} {φ : κ' → Prop} {ret : κ' → Value} {v : Value} (tr : ∀ k, Tr P f args RR (F k) (κ := κ') φ ret F'') (hp : ∀ k, (F'' k).Perm (F' k)) (hr : ∀ k, ret k = v) : Tr P f args RR [hpx F] (κ := Unit) (fun _ => True) (fun _ => v) (fun _ => [hpx F']) := by
  refine ⟨(tr default).1, fun w L hR hs hn => ?_⟩
  obtain ⟨L1, L2, rfl, ⟨k, g1⟩, g2⟩ := hs
  have e2 : L2 = [] := g2
  subst e2
  rw [List.append_nil] at hR hn ⊢
  refine ((tr k).2 w L1 hR g1 hn).mono ?_
  rintro e w' ⟨k', _, rfl, hh⟩
  obtain ⟨L, hs', hn', hst'⟩ := hh.perm (hp k')
  exact ⟨(), trivial, by rw [hr], L, ⟨L, [], (List.append_nil _).symm, ⟨k', hs'⟩, rfl⟩, hn', hst'⟩
theorem b6R {R' : World → List Nat → Prop} {f : FuncId} {args : List Value} {pre : List HP} {κ' : Type} {φ : κ' → Prop} {ret : κ' → Value} {post : κ' → List HP} (tr : Tr P f args R' pre φ ret post) (h : ∀ w L, RR w L → R' w L) : Tr P f args RR pre φ ret post := ⟨tr.1, fun w L hR => tr.2 w L (h w L hR)⟩
theorem b1V {f : FuncId} {caps : List Value} {D : σ → (List Int × List Int) → Prop} {p : (List Int × List Int) → Bool} {S : σ → HP} {st : σ → (List Int × List Int) → σ} (tr : ∀ {a0 : Option Addr} {m0 c0 : Nat} {x0 : List Int} {a1 : Option Addr} {m1 c1 : Nat} {x1 : List Int} {s : σ}, D s (x0, x1) → Tr P f (.agg #[.slice a0 m0 c0, .slice a1 m1 c1] :: caps) (fun w L => (Ro w L eIs [.slice a0 m0 c0] x0 ∧ Ro w L eIs [.slice a1 m1 c1] x1) ∧ RR w L) [S s] (κ := Unit) (fun _ => True) (fun _ => .bool (p (x0, x1))) (fun _ => [S (st s (x0, x1))])) : FnS P f caps RR B0 a1d D p S st := fun cs x s hd =>
  ⟨(tr (a0 := none) (m0 := 0) (c0 := 0) (a1 := none) (m1 := 0) (c1 := 0) hd).1, fun w L hR hs hn => by
    obtain ⟨a0, c0, a1, c1, rfl, h0, h1⟩ := a0R hR.1
    exact (tr hd).2 w L ⟨⟨h0, h1⟩, hR.2⟩ hs hn⟩
theorem b7h {E : Enc α} {S : σ → HP} {f : FuncId} {x y : Operand} {caps : List Value} {ts : Array TypeId} {val : List Value → Value} {D : σ → α → Prop} {p : α → Bool} {st : σ → α → σ} {s : σ} {cs : List Value} {u : α} {v : Value}
    (hf : FnS P f caps RR E val D p S st) (hst : b4P RR) (hrr : RR w0 L0) (hx : ev fr x = some (.func (.func f) #[] caps.toArray)) (hy : ev fr y = some v) (hv : v = val cs) (hd : d < n) (hR : ∀ w Lp, At w0 L0 [S s] R w Lp → Ro w Lp E cs u) (hu : D s u) :
    Nop P Q n w0 L0 fr (S s :: R) ⟨some d, .call ⟨.value x, #[y], ts⟩, ty, pos, af, g⟩ false (κ := Unit) (fun _ => (d, .bool (p u)) :: fr) (fun _ => S (st s u) :: R) (fun _ => True) :=
  N.call (hf cs u s hu) hx (vs := [v]) (by simp [evs, hy]) (by rw [hv]; rfl) hd (rest := R) rfl fun w Lp hA => ⟨hR w Lp hA, hst _ _ _ _ _ _ hA hrr⟩
end
section
variable {α σ : Type} {s : List α} {st : σ → α → σ} {s0 : σ} {p : α → Bool} {k : Nat}
def a6o (p : α → Bool) (s : List α) : Nat := if H0 p s < 0 then s.length else (H0 p s).toNat + 1
theorem b0m (h : k < s.length) : st ((s.take k).foldl st s0) s[k] = (s.take (k + 1)).foldl st s0 := by rw [List.take_succ_eq_append_getElem h, List.foldl_append]; rfl
theorem b6x (hk : k < s.length) (h : ∀ x ∈ s.take k, p x = false) (hp : p s[k] = true) : st ((s.take k).foldl st s0) s[k] = (s.take (a6o p s)).foldl st s0 := by
  rw [b0m (st := st) (s0 := s0) hk, a6o, ← P0 hk h hp, if_neg (by omega), Int.toNat_natCast]
theorem b5j (hk : ¬ k < s.length) (h : ∀ x ∈ s.take k, p x = false) : (s.take k).foldl st s0 = (s.take (a6o p s)).foldl st s0 := by
  rw [a6o, ← O2 hk h, if_pos (by omega), List.take_of_length_le (by omega), List.take_length]
theorem b5p (h : H0 p s < 0) : (s.take (a6o p s)).foldl st s0 = s.foldl st s0 := by rw [a6o, if_pos h, List.take_length]
theorem b5u {i : Nat} (h : H0 p s = (i : Int)) : (s.take (a6o p s)).foldl st s0 = (s.take (i + 1)).foldl st s0 := by rw [a6o, if_neg (by omega), h, Int.toNat_natCast]
end
end Go.Proofs.YtdopeopehgdccaaGreat
end
section
namespace Go.Proofs.YtdopeopehgdccaaGreat
open Go.RowKit
set_option linter.unusedVariables false
set_option linter.unusedSimpArgs false
set_option maxHeartbeats 2000000
attribute [local irreducible] Nop Yd Yp Ent Has Tr FnP FnP2 Src
theorem a6p {a_s : Option Addr} {m_s c_s : Nat} {s : List (List Int × List Int)} {f_g : FuncId} {f_c : List Value} {f : (List Int × List Int) → Bool} {σ : Type} {RR : World → List Nat → Prop} {D : σ → (List Int × List Int) → Prop} {S : σ → HP} {st : σ → (List Int × List Int) → σ} {s0 : σ} (hst : b4P RR) (hf : FnS Tryz.prog f_g f_c RR B0 a1d D f S st) (hD : ∀ j (h : j < s.length), D ((s.take j).foldl st s0) s[j]) : Tr Tryz.prog 208 [.slice a_s m_s c_s, .func (.func f_g) #[] f_c.toArray] (fun w L => Ro w L u9 [.slice a_s m_s c_s] s ∧ RR w L) [S s0] (κ := Unit) (fun k => True) (fun k => .int .i64 (H0 f s)) (fun k => [S ((s.take (a6o f s)).foldl st s0)]) := by
  refine n9 Tryz.func208 rfl (n := 19) rfl (by decide +kernel) (Nat.le_of_ble_eq_true rfl) (fr := [(0, .slice a_s m_s c_s), (1, .func (.func f_g) #[] f_c.toArray)]) rfl fun w L hR => ?_
  obtain ⟨hs, hrr⟩ := hR
  obtain ⟨rfl, ls⟩ := hs.slen
  refine E.seq (E.region (l := [0]) rfl (C1 rfl rfl (by decide) ((F7 rfl).yd) ?_))
  refine E.nil (D9 (E.seq (E.seq (E.region (l := [0, 1, 2]) rfl (C1 rfl rfl (by decide) ((l3 rfl).yd) ?_)))))
  refine C1 rfl rfl (by decide) ((Y.len us_Bindings rfl).yd) ?_
  refine C1 rfl rfl (by decide) ((l3 rfl).yd) ?_
  refine E.nil (D9 (E.block (E.loop (κ := Nat) (fun g => g ≤ s.length ∧ ∀ x ∈ s.take g, f x = false) (fun g => [(0, .slice a_s s.length c_s), (1, .func (.func f_g) #[] f_c.toArray), (7, .int .i64 (↑s.length : Int)), (8, .int .i64 (↑g : Int))]) (fun g => [S ((s.take g).foldl st s0)]) (fun g => s.length - g) 0 ⟨by omega, by simp⟩ ⟨rfl, rfl, rfl, rfl, trivial⟩ (.refl _) (fun g pg => ?_))))
  obtain ⟨pk, pa⟩ := pg
  refine E.seq (E.region (l := [0]) rfl (C1 rfl rfl (by decide) ((Y.lss rfl rfl).yd) (o6 (fun q9 => ?_) (fun q9 => ?_))))
  · refine E.nil (D9 (E.seq (o2 rfl (j5 (D9 (E.seq (E.block (E.seq (E.region (l := [0, 1]) rfl (C1 rfl rfl (by decide) ((l3 rfl).yd) ?_))))))))))
    refine C1 rfl rfl (by decide) ((F7 rfl).yd) ?_
    refine E.nil (D9 (E.seq (E.region (l := [0, 1, 2, 3, 4, 5]) rfl (C1 rfl rfl (by decide) ((l3 rfl).yd) ?_))))
    refine C1 rfl rfl (by decide) ((l3 rfl).yd) ?_
    refine C1 rfl rfl (by decide) ((l3 rfl).yd) ?_
    obtain ⟨eb14, eo14, ec14, ea14, er14, el14, eh14⟩ := hs.elem g (by omega)
    obtain ⟨xa14_0, xc14_0, xa14_1, xc14_1, rfl, xh14_0, xh14_1⟩ := a0R er14
    have := xh14_0.slen.2
    have := xh14_1.slen.2
    refine C1 rfl rfl (by decide) ((r7 us_Bindings ty_Binding rfl ea14 rfl g rfl (by omega)).yd) ?_
    refine C1 rfl rfl (by decide) (o9 (cs := [_, _]) ty_Binding rfl (eh14 _) rfl) ?_
    refine a1O rfl rfl (b7h (cs := [_, _]) hf hst hrr rfl rfl rfl (by decide) (fun w Lp hA => a7I (x := s[g]) (hA.ro xh14_0) (hA.ro xh14_1)) (hD g (by omega))) (fun _ _ => (Ent.b (fun q16 => ?_) (fun q16 => ?_)))
    · refine E.nil (D9 (o2 rfl (E.seq (E.region (l := [0, 1]) rfl (C1 rfl rfl (by decide) ((l3 rfl).yd) ?_)))))
      refine C1 rfl rfl (by decide) ((F7 rfl).yd) ?_
      refine j6 (congrArg S (b6x (by omega) pa q16)) ?_
      exact E.nil (D9 (E.ret (w5 (l4 (l4 (w5 (l4 (F.r1 (V2.refl _ _) rfl rfl () trivial (congrArg (Value.int .i64) (by exact P0 (by omega) pa q16)) (J := _) (.refl _) (.inl rfl)))))))))
    · refine E.nil (D9 (o3 rfl (j5 (t7 (D9 (E.region (l := [0, 1]) rfl (C1 rfl rfl (by decide) ((Y.add rfl rfl (by omega) (by omega)).yd) ?_)))))))
      refine C1 rfl rfl (by decide) ((l3 rfl).yd) ?_
      refine j6 (congrArg S (b0m (by omega))) ?_
      exact E.nil (D9 (v8 (V2.refl _ _) (g + 1) ⟨rfl, rfl, rfl, rfl, trivial⟩ (.refl _) ⟨by omega, T2 (by omega) pa q16⟩ (by omega)))
  · refine E.nil (D9 (E.seq (o3 rfl (E.exit (o8 (o8 (x9 (D9 (E.seq (E.region (l := [0]) rfl (C1 rfl rfl (by decide) ((F7 rfl).yd) ?_)))))))))))
    refine j6 (congrArg S (b5j (by omega) pa)) ?_
    exact E.nil (D9 (E.ret (F.r1 (V2.refl _ _) rfl rfl () trivial (congrArg (Value.int .i64) (by exact O2 (by omega) pa)) (J := _) (.refl _) (.inl rfl))))
theorem a5X {a_s : Option Addr} {m_s c_s : Nat} {s : List (List Int × List Int)} {del_g : FuncId} {del_c : List Value} {del : (List Int × List Int) → Bool} {σ : Type} {RR : World → List Nat → Prop} {D : σ → (List Int × List Int) → Prop} {S : σ → HP} {st : σ → (List Int × List Int) → σ} {s0 : σ} (hst : b4P RR) (hf : FnS Tryz.prog del_g del_c RR B0 a1d D del S st) (hD : ∀ j (h : j < s.length), D ((s.take j).foldl st s0) s[j]) : Tr Tryz.prog 122 [.slice a_s m_s c_s, .func (.func del_g) #[] del_c.toArray] (fun w L => RR w L) [ow u9 [.slice a_s m_s c_s] s, S s0] (κ := Option Addr × Nat × Nat) (fun k => True) (fun k => .slice k.1 k.2.1 k.2.2) (fun k => [ow u9 [.slice k.1 k.2.1 k.2.2] (s.filter (fun x => !del x)), S (s.foldl st s0)]) := by
  refine n9 Tryz.func122 rfl (n := 42) rfl (by decide +kernel) (Nat.le_of_ble_eq_true rfl) (fr := [(0, .slice a_s m_s c_s), (1, .func (.func del_g) #[] del_c.toArray)]) rfl fun w L hR => ?_
  have hdel := hR
  refine i9 m0 fun es ls => ?_
  subst es
  refine E.seq (E.region (l := [0]) rfl (C1 rfl rfl (by decide) ((F7 rfl).yd) ?_))
  refine E.nil (D9 (E.seq (E.region (l := [0, 1, 2, 3]) rfl (C1 rfl rfl (by decide) ((l3 rfl).yd) ?_))))
  refine C1 rfl rfl (by decide) ((l3 rfl).yd) ?_
  refine i7 ?_
  refine a1O rfl rfl (N.call (a6p hst hf hD) rfl rfl rfl (by decide) rfl (fun w Lp hA => ⟨hA.ow m0, hst _ _ _ _ _ _ hA hdel⟩)) (fun _ _ => ?_)
  show Ent _ _ _ _ (S _ :: ow u9 _ _ :: []) _
  refine i7 ?_
  refine C1 rfl rfl (by decide) ((F7 rfl).yd) ?_
  have hrg := a0O (p := del) (s := s)
  refine E.nil (D9 (E.seq (E.seq (E.region (l := [0, 1]) rfl (C1 rfl rfl (by decide) ((l3 rfl).yd) ?_)))))
  refine C1 rfl rfl (by decide) ((Y.eql rfl rfl).yd) (o6 (fun q12 => ?_) (fun q12 => ?_))
  · refine E.nil (D9 (o2 rfl (E.seq (E.region (l := [0, 1]) rfl (C1 rfl rfl (by decide) ((l3 rfl).yd) ?_)))))
    refine C1 rfl rfl (by decide) ((F7 rfl).yd) ?_
    refine E.nil (D9 (E.ret (l4 (j6 (congrArg (ow u9 [_]) (show s = s.filter (fun x => !del x) from (a5t (by omega)).symm)) ?_))))
    refine i7 ?_
    refine j6 (congrArg S (b5p (by omega))) ?_
    refine i7 ?_
    exact F.r1 (V2.refl _ _) rfl rfl (_, _, _) trivial rfl (J := _) (.refl _) (.inl rfl)
  · obtain ⟨i0, hi0⟩ : ∃ i0 : Nat, H0 del s = (i0 : Int) := ⟨(H0 del s).toNat, by omega⟩
    obtain ⟨f1, f2, f3, f4⟩ := a4x hi0
    refine i7 ?_
    refine j6 (congrArg S (b5u hi0)) ?_
    refine i7 ?_
    refine E.nil (D9 (o3 rfl (j5 (D9 (E.seq (E.seq (E.region (l := [0, 1, 2]) rfl (C1 rfl rfl (by decide) ((l3 rfl).yd) ?_))))))))
    refine C1 rfl rfl (by decide) ((Y.add rfl rfl (by omega) (by omega)).yd) ?_
    refine C1 rfl rfl (by decide) ((F7 rfl).yd) ?_
    refine E.nil (D9 (E.block (a4a fun cs hcs => ?_)))
    replace hcs : cs.length = s.length * 2 := hcs
    show Ent _ _ _ _ (row tBinding 2 a_s s.length c_s cs :: _) _
    refine a3Z m0 fun hms => ?_
    refine a3e m0 (by omega) fun sb hsb _ => ?_
    subst hsb
    refine i7 ?_
    have hsp : s = s.take i0 ++ ([s[i0]] ++ s.drop (i0 + 1)) := by
      rw [List.singleton_append, ← List.drop_eq_getElem_cons f1, List.take_append_drop]
    refine j6 (congrArg (els B0 cs) hsp) ?_
    refine a2d fun ka kb hab hka => ?_
    refine i7 ?_
    refine a2d fun kb1 kb2 hb12 hkb => ?_
    subst hb12
    refine Ent.drop ?_
    replace hka : ka.length = i0 * 2 := by rw [hka, List.length_take, Nat.min_eq_left (by omega)]; rfl
    replace hkb : kb1.length = 2 := hkb
    have hinit := a9p (k := 2) hcs f1 hab hka hkb
    refine i7 ?_
    refine j6 (congrArg (els B0 ka) f4.symm) ?_
    refine i7 ?_
    refine E.loop (κ := Nat × Nat × List Value × List Value × List Value) (fun g => DfI 2 s.length g.2.1 g.1 g.2.2.1 g.2.2.2.1 g.2.2.2.2 ∧ g.2.1 = ((s.take g.1).filter (fun x => !del x)).length) (fun g => [(0, .slice (some ⟨sb, 0, none⟩) s.length c_s), (1, .func (.func del_g) #[] del_c.toArray), (5, .int .i64 (g.2.1 : Int)), (6, .int .i64 (g.1 : Int))]) (fun g => [els B0 g.2.2.2.2 (s.drop g.1), els B0 g.2.2.2.1 ((s.take g.1).filter (fun x => !del x)), row tBinding 2 (some ⟨sb, 0, none⟩) s.length c_s g.2.2.1, S ((s.take g.1).foldl st s0)]) (fun g => s.length - g.1) (i0 + 1, i0, cs, ka, kb2) ⟨hinit, by rw [f4, List.length_take, Nat.min_eq_left (by omega)]⟩ ⟨rfl, rfl, frI hi0, frI (by omega), trivial⟩ (.refl _) (fun g pg => ?_)
    obtain ⟨j, i, cur, kc, rc⟩ := g
    try dsimp only at pg
    obtain ⟨hI, hi⟩ := pg
    show Ent _ _ _ [(0, .slice (some ⟨sb, 0, none⟩) s.length c_s), (1, .func (.func del_g) #[] del_c.toArray), (5, .int .i64 (↑i : Int)), (6, .int .i64 (↑j : Int))] [els B0 rc (s.drop j), els B0 kc ((s.take j).filter (fun x => !del x)), row tBinding 2 (some ⟨sb, 0, none⟩) s.length c_s cur, S ((s.take j).foldl st s0)] _
    have hlt := hI.lt
    have hle := hI.le
    refine E.seq (E.seq (E.region (l := [0, 1, 2, 3]) rfl (C1 rfl rfl (by decide) ((l3 rfl).yd) ?_)))
    refine C1 rfl rfl (by decide) ((l3 rfl).yd) ?_
    refine C1 rfl rfl (by decide) ((Y.len us_Bindings rfl).yd) ?_
    refine C1 rfl rfl (by decide) ((Y.lss rfl rfl).yd) (o6 (fun q19 => ?_) (fun q19 => ?_))
    · have hj : j < s.length := by omega
      have hd : s.drop j = [s[j]] ++ s.drop (j + 1) := by rw [List.drop_eq_getElem_cons hj]; rfl
      refine j6 (congrArg (els B0 rc) hd) ?_
      refine a2d fun c1 c2 hc hc1 => ?_
      subst hc
      replace hc1 : c1.length = 2 := hc1
      refine a2z m0 fun h1e => ?_
      refine E.nil (D9 (o2 rfl (j5 (D9 (E.seq (E.block (E.seq (E.region (l := [0, 1, 2, 3, 4, 5]) rfl (C1 rfl rfl (by decide) ((l3 rfl).yd) ?_)))))))))
      refine C1 rfl rfl (by decide) ((l3 rfl).yd) ?_
      refine C1 rfl rfl (by decide) ((r7 us_Bindings ty_Binding rfl rfl rfl j rfl hj).yd) ?_
      refine C1 rfl rfl (by decide) (o9 (cs := c1) ty_Binding rfl (show Has _ _ _ sb (0 + j * 2) c1 from by rw [Nat.zero_add]; exact a3f (mS (mS (mS m0))) j (rest := c2) hI.r1) hc1) ?_
      refine a1O rfl rfl (N.alloc ty_Binding (by decide)) (fun b7 _ => ?_)
      refine a1O rfl rfl (b2c (vs := c1) (cs' := c1) ty_Binding rfl rfl rfl hc1 (List.all_eq_true.2 h1e) (Nat.le_of_ble_eq_true rfl) (by simp)) (fun _ _ => ?_)
      refine E.nil (D9 (E.seq (E.region (l := [0, 1, 2, 3]) rfl (C1 rfl rfl (by decide) ((l3 rfl).yd) ?_))))
      refine C1 rfl rfl (by decide) (o9 (cs := c1) ty_Binding rfl (Has.pt m0) hc1) ?_
      refine J7 ?_
      refine a1O rfl rfl (b7h (cs := c1) hf hst hdel rfl rfl rfl (by decide) (fun w Lp hA => hA.els1 (mS m0)) (hD j hj)) (fun _ _ => (j6 (congrArg S (b0m hj)) (J7 (J7 (J7 (J7 (J7 (Ent.b (fun q28 => ?_) (fun q28 => ?_)))))))))
      · refine C1 rfl rfl (by decide) ((Y.not (b := true) rfl).yd) ?_
        refine E.nil (D9 (o3 rfl (j5 (t7 (D9 (E.region (l := [0, 1, 2]) rfl (C1 rfl rfl (by decide) ((l3 rfl).yd) ?_)))))))
        refine C1 rfl rfl (by decide) ((Y.add rfl rfl (by omega) (by omega)).yd) ?_
        refine C1 rfl rfl (by decide) ((F7 rfl).yd) ?_
        have hK : (s.take (j + 1)).filter (fun x => !del x) = (s.take j).filter (fun x => !del x) := by rw [V9 hj, if_neg (by simp [q28])]
        refine E.nil (D9 (Ent.drop ?_))
        refine Ent.drop ?_
        refine i7 ?_
        refine j6 (congrArg (els B0 kc) hK.symm) ?_
        refine i7 ?_
        exact v8 (V2.refl _ _) (j + 1, i, cur, kc, c2) ⟨rfl, rfl, rfl, rfl, trivial⟩ (.refl _) ⟨hI.skip hj hc1, by rw [hK]; exact hi⟩ (show s.length - (j + 1) < s.length - j from by omega)
      · refine C1 rfl rfl (by decide) ((Y.not (b := false) rfl).yd) ?_
        refine E.nil (D9 (o2 rfl (E.seq (E.region (l := [0, 1, 2, 3, 4]) rfl (C1 rfl rfl (by decide) ((l3 rfl).yd) ?_)))))
        refine C1 rfl rfl (by decide) ((l3 rfl).yd) ?_
        refine C1 rfl rfl (by decide) (o9 (cs := c1) ty_Binding rfl (Has.pt m0) hc1) ?_
        refine C1 rfl rfl (by decide) ((r7 us_Bindings ty_Binding rfl rfl rfl i rfl (by omega)).yd) ?_
        refine C7 ?_
        refine a1O rfl rfl (b3t (i := i) (vs := c1) ty_Binding rfl (Nat.zero_add _) rfl rfl hc1 h1e (by omega) rfl) (fun _ _ => ?_)
        refine E.nil (D9 (E.region (l := [0, 1, 2]) rfl (C1 rfl rfl (by decide) ((l3 rfl).yd) ?_)))
        refine C1 rfl rfl (by decide) ((Y.add rfl rfl (by omega) (by omega)).yd) ?_
        refine C1 rfl rfl (by decide) ((F7 rfl).yd) ?_
        refine E.nil (t7 (D9 (E.region (l := [0, 1, 2]) rfl (C1 rfl rfl (by decide) ((l3 rfl).yd) ?_))))
        refine C1 rfl rfl (by decide) ((Y.add rfl rfl (by omega) (by omega)).yd) ?_
        refine C1 rfl rfl (by decide) ((F7 rfl).yd) ?_
        have hK : (s.take (j + 1)).filter (fun x => !del x) = (s.take j).filter (fun x => !del x) ++ [s[j]] := by rw [V9 hj, if_pos (by simp [q28])]
        refine E.nil (D9 (i7 ?_))
        refine Ent.drop ?_
        refine i7 ?_
        refine w7 ?_
        refine a9t ?_
        refine j6 (congrArg (els B0 (kc ++ c1)) hK.symm) ?_
        refine r5 ?_
        exact v8 (V2.refl _ _) (j + 1, i + 1, cur.take (i * 2) ++ c1 ++ cur.drop (i * 2 + 2), kc ++ c1, c2) ⟨rfl, rfl, rfl, rfl, trivial⟩ (.refl _) ⟨hI.put hj hc1, by rw [hK, List.length_append, ← hi]; rfl⟩ (show s.length - (j + 1) < s.length - j from by omega)
    · obtain rfl : j = s.length := by omega
      refine Ent.drop ?_
      refine E.nil (D9 (o3 rfl (E.exit (o8 (o8 (x9 (D9 (E.seq (E.region (l := [0, 1, 2, 3]) rfl (C1 rfl rfl (by decide) ((l3 rfl).yd) ?_))))))))))
      refine C1 rfl rfl (by decide) ((l3 rfl).yd) ?_
      refine C1 rfl rfl (by decide) ((a0p (l := i) us_Bindings ty_Binding rfl rfl (by omega) (by omega)).yd) ?_
      refine i7 ?_
      refine a1O rfl rfl (b4U (p := i) (q := s.length - i) us_Bindings ty_Binding (by simp [Value.oneCell']) rfl rfl (by omega) (by omega) (by omega) rfl) (fun _ _ => ?_)
      refine E.nil (D9 (E.seq (E.region (l := [0, 1, 2, 3]) rfl (C1 rfl rfl (by decide) ((l3 rfl).yd) ?_))))
      refine C1 rfl rfl (by decide) ((l3 rfl).yd) ?_
      refine C1 rfl rfl (by decide) ((a4j (h := i) us_Bindings ty_Binding rfl rfl (by omega)).yd) ?_
      refine C1 rfl rfl (by decide) ((F7 rfl).yd) ?_
      refine j6 (congrArg (row tBinding 2 (some ⟨sb, 0, none⟩) i c_s) hI.k1) ?_
      refine E.nil (D9 (E.ret (a2G (E := B0) hi (by unfold maxLen; omega) ?_)))
      refine j6 (congrArg (ow u9 [_]) (show _ = s.filter (fun x => !del x) from by rw [List.take_length])) ?_
      refine i7 ?_
      refine j6 (congrArg S (show _ = s.foldl st s0 from by rw [List.take_length])) ?_
      refine i7 ?_
      exact F.r1 (V2.refl _ _) rfl rfl (_, _, _) trivial rfl (J := _) (.refl _) (.inl rfl)
end Go.Proofs.YtdopeopehgdccaaGreat
end
