/- An owned list with one element taken out of it for a while; struct literals; addresses of owned lists. -/
import Derived.Test.YtnagfcajnbkdoaaSlh
namespace Go.Proofs.Ytnagfcajnbkdoaa
open Go.RowKit
set_option linter.unusedVariables false

/-- an owned list, of whose element j (cells ce) the memory is held apart -/
def hole {α : Type} (e : TypeId) (E : Enc α) (a : Option Addr) (m c : Nat) (xs : List α) (j : Nat) (ce : List Value) : HP where
  holds w L := ∃ c1 c2 L1 L2 L3, L = L1 ++ (L2 ++ L3) ∧ m = xs.length ∧ m ≤ maxLen ∧ j < xs.length ∧ ce.length = E.k ∧ (∀ u ∈ ce, u.oneCell' = true) ∧ Elems E w c1 (xs.take j) L2 true ∧ Elems E w c2 (xs.drop (j + 1)) L3 true ∧ (row e E.k a m c (c1 ++ (ce ++ c2))).holds w L1
  stable := by
    rintro w w' L ⟨c1, c2, L1, L2, L3, rfl, h1, h2, h3, h4, h5, h6, h7, h8⟩ hb
    exact ⟨c1, c2, L1, L2, L3, rfl, h1, h2, h3, h4, h5, h6.stable fun b h => hb b (by simp [h]), h7.stable fun b h => hb b (by simp [h]), (row e E.k a m c _).stable h8 fun b h => hb b (by simp [h])⟩
  inh := by
    rintro w L ⟨c1, c2, L1, L2, L3, rfl, h1, h2, h3, h4, h5, h6, h7, h8⟩ b hb
    simp only [List.mem_append] at hb
    rcases hb with hb | hb | hb
    · exact (row e E.k a m c _).inh h8 b hb
    · exact h6.inh b hb
    · exact h7.inh b hb
section
variable {n : Nat} {w0 : World} {L0 : List Nat} {fr : Fr} {H R : List HP} {G : Act → World → Prop} {α : Type} {E : Enc α} {e : TypeId} {a : Option Addr} {m c : Nat} {xs : List α}
/-- the address of an owned list that has elements -/
theorem Ent.adr (hm : ow (Enc.sl e E) [.slice a m c] xs ∈ H) (hlt : 0 < m) (h : ∀ b, a = some ⟨b, 0, none⟩ → Ent n w0 L0 fr H G) : Ent n w0 L0 fr H G := fun ac w h1 h2 => by
  obtain ⟨L, hL⟩ := h2.mem hm
  obtain ⟨ccs, L1, L2, _, g1, g2, _, _, g4⟩ := ow_sl hL
  rcases g4 with ⟨_, h0, _⟩ | ⟨g, cur, h3, _⟩
  · omega
  · exact h g h3 ac w h1 h2
theorem Ent.open (j : Nat) {x : α} (hx : xs[j]? = some x) (h : ∀ ce, Ent n w0 L0 fr (hole e E a m c xs j ce :: ow E ce x :: R) G) : Ent n w0 L0 fr (ow (Enc.sl e E) [.slice a m c] xs :: R) G := fun ac w h1 h2 => by
  obtain ⟨hj, rfl⟩ := List.getElem?_eq_some_iff.1 hx
  obtain ⟨L, ⟨Lo, LR, rfl, ho, hR⟩, hn, hst⟩ := h2
  obtain ⟨ccs, L1, L2, rfl, g1, g2, g3, g4⟩ := ow_sl ho
  have hxs : xs = xs.take j ++ (xs[j] :: xs.drop (j + 1)) := by simp
  rw [hxs] at g3
  obtain ⟨c1, cr, M1, Mr, rfl, rfl, k1, d1, d2, N1, N2, rfl, rfl, k2, k3⟩ := g3.split
  have hperm : (L1 ++ (M1 ++ (N1 ++ N2)) ++ LR).Perm (L1 ++ (M1 ++ N2) ++ (N1 ++ LR)) := by
    simp only [List.append_assoc]
    refine (List.Perm.append_left L1 (List.Perm.append_left M1 ?_))
    rw [← List.append_assoc, ← List.append_assoc]
    exact (List.perm_append_comm).append_right LR
  refine h d1 ac w h1 ⟨L1 ++ (M1 ++ N2) ++ (N1 ++ LR), ⟨_, _, rfl, ⟨c1, d2, L1, M1, N2, rfl, g1, g2, hj, E.len k2, E.one k2, k1, k3, g4⟩, N1, LR, rfl, k2, hR⟩, hperm.nodup_iff.1 hn, hst.sublist fun b hb => hperm.mem_iff.2 hb⟩
/-- and back, perhaps with another one -/
theorem Ent.shut {j : Nat} {ce : List Value} {x' : α} {A : List HP} (hO : Own A E ce x') (hH : H = hole e E a m c xs j ce :: (A ++ R)) (h : Ent n w0 L0 fr (ow (Enc.sl e E) [.slice a m c] (xs.set j x') :: R) G) : Ent n w0 L0 fr H G := fun ac w h1 h2 => by
  subst hH
  obtain ⟨L, ⟨Lo, Lq, rfl, ho, hq⟩, hn, hst⟩ := h2
  obtain ⟨LA, LR, rfl, hA, hR⟩ := Sep.append.1 hq
  obtain ⟨c1, c2, L1, L2, L3, rfl, g1, g2, hj, g4, _, g6, g7, g8⟩ := ho
  have hrep := hO _ _ hA
  have hperm : (L1 ++ (L2 ++ L3) ++ (LA ++ LR)).Perm (L1 ++ (L2 ++ (LA ++ L3)) ++ LR) := by
    simp only [List.append_assoc]
    refine (List.Perm.append_left L1 (List.Perm.append_left L2 ?_))
    rw [← List.append_assoc, ← List.append_assoc]
    exact (List.perm_append_comm).append_right LR
  refine h ac w h1 ⟨L1 ++ (L2 ++ (LA ++ L3)) ++ LR, ⟨_, LR, rfl, ⟨a, m, c, c1 ++ (ce ++ c2), L1, L2 ++ (LA ++ L3), rfl, by simp [g1], g2, rfl, ?_, g8⟩, hR⟩, hperm.nodup_iff.1 hn, hst.sublist fun b hb => hperm.mem_iff.2 hb⟩
  rw [List.set_eq_take_append_cons_drop, if_pos hj]
  exact g6.app ⟨ce, c2, LA, L3, rfl, rfl, hrep, g7⟩
theorem Has.hole {j : Nat} {ce : List Value} {b o : Nat} (ha : a = some ⟨b, o, none⟩) (hm : Go.Proofs.Ytnagfcajnbkdoaa.hole e E a m c xs j ce ∈ H) : Has w0 L0 H b (o + j * E.k) ce := fun w h => by
  obtain ⟨L', c1, c2, L1, L2, L3, _, g1, g2, hj, g4, g5, g6, g7, h0, g8⟩ := h.mem hm
  rcases g8 with ⟨_, h, _⟩ | ⟨g', cur, h2, h3, h4, h5, h6, h7, _⟩
  · omega
  rw [ha] at h2; cases h2
  have hl1 : c1.length = j * E.k := by rw [g6.len, List.length_take, Nat.min_eq_left (by omega)]
  intro i v hi
  have hi' : (c1 ++ (ce ++ c2))[j * E.k + i]? = some v := by
    rw [← hl1, List.getElem?_append_right (by omega), show c1.length + i - c1.length = i from by omega]
    rw [List.getElem?_append_left (by exact (List.getElem?_eq_some_iff.1 hi).1)]; exact hi
  rw [← h7, List.getElem?_take] at hi'
  split at hi'
  · simpa [World.cell?, h3] using hi'
  · cases hi'
end
section
variable {P : Program} {Q : Exit → Act → World → Prop} {n : Nat} {w0 : World} {L0 : List Nat} {fr : Fr} {H R pre : List HP} {d : Nat} {ty : TypeId} {pos : String} {af : Array Edge} {g : Option (Nat × Bool)}
/-- a store into the element that is held apart -/
theorem N.sth {α : Type} {E : Enc α} {e : TypeId} {T : TypeId} {agg : Bool} {k kk m c j f : Nat} {z : List Value} {by' : Nat} {x y : Operand} {b off : Nat} {v : Value} {xs : List α} {ce vs ce' : List Value} {ad : Option Addr} (ht : TyOk P T agg k z by') (hx : ev fr x = some (.pointer (some ⟨b, off, none⟩))) (hy : ev fr y = some v)
    (hv : v.cells = vs.toArray) (hl : vs.length = k) (h1' : vs.all (·.oneCell') = true) (had : ad = some ⟨b, 0, none⟩) (hkk : kk = E.k) (hoff : off = 0 + j * kk + f) (hfit : f + k ≤ ce.length) (hcs : ce.take f ++ vs ++ ce.drop (f + k) = ce') (hH : H = hole e E ad m c xs j ce :: R) :
    Nop P Q n w0 L0 fr H ⟨none, .store T x y, ty, pos, af, g⟩ false (κ := Unit) (fun _ => fr) (fun _ => hole e E ad m c xs j ce' :: R) (fun _ => True) := fun K hK a w ha hw => by
  subst hkk; subst hoff; subst hH
  have hv1 := oneAll h1'
  have hw' := hw
  obtain ⟨L, ⟨Lo, LR, rfl, ho, hR⟩, hn, hst⟩ := hw'
  obtain ⟨c1, c2, L1, L2, L3, rfl, g1, g2, hj, g4, g5, g6, g7, hlen, g8⟩ := ho
  have hpos := E.pos
  rcases g8 with ⟨_, h, _⟩ | ⟨g', cur, h2, hb, h4, h5, h6, h7, rfl⟩
  · omega
  rw [had] at h2; cases h2
  have hl1 : c1.length = j * E.k := by rw [g6.len, List.length_take, Nat.min_eq_left (by omega)]
  have hjm : j * E.k + E.k ≤ m * E.k := by rw [← Nat.succ_mul]; exact Nat.mul_le_mul_right _ (by omega)
  have hcl : m * E.k ≤ cur.size := by rw [h6]; exact Nat.mul_le_mul_right _ h4
  have hrun := run_storeVar (P := P) ht hv hl hv1 hb (off := 0 + j * E.k + f) (by omega)
  have hbn : b ∉ L2 ∧ b ∉ L3 := by
    simp only [List.nodup_append, List.mem_append, List.mem_singleton] at hn
    obtain ⟨⟨n1, n2, n3⟩, _⟩ := hn
    exact ⟨fun h => n3 b rfl b (.inl h) rfl, fun h => n3 b rfl b (.inr h) rfl⟩
  have hstep : Step w ([b] ++ (L2 ++ L3)) (w.setRow b (cur.toList.take (0 + j * E.k + f) ++ vs ++ cur.toList.drop (0 + j * E.k + f + vs.length)).toArray) ([b] ++ (L2 ++ L3)) :=
    ⟨rfl, rfl, rfl, by simp [World.setRow], fun x _ hx => setRow_other w b x _ (fun h => hx (by simp [h])), fun x hx => .inl hx⟩
  obtain ⟨k1, k2, k3⟩ := hst.call hn hR.inh hstep (List.nodup_append.1 hn).1
  simp only [Oper.wp, execOp, ha.ev hx, ha.ev hy, Sem.run_bind, hrun, Result.andThen_ok, Sem.run_pure, Oper.upon_skip]
  have hce' : ce'.length = E.k := by rw [← hcs]; simp; omega
  refine hK () trivial w _ _ ha ⟨_, ⟨[b] ++ (L2 ++ L3), LR, rfl, ⟨c1, c2, [b], L2, L3, rfl, g1, g2, hj, hce', ?_, ?_, ?_, ?_, ?_⟩, hR.stable k3⟩, k2, k1⟩ (by simp)
  · intro u hu
    rw [← hcs] at hu
    simp only [List.mem_append] at hu
    rcases hu with (hu | hu) | hu
    · exact g5 u (List.mem_of_mem_take hu)
    · exact hv1 u hu
    · exact g5 u (List.mem_of_mem_drop hu)
  · exact g6.stable fun x hx => setRow_other w b x _ (fun h => hbn.1 (h ▸ hx))
  · exact g7.stable fun x hx => setRow_other w b x _ (fun h => hbn.2 (h ▸ hx))
  · simp only [List.length_append] at hlen ⊢; omega
  · refine .inr ⟨b, _, had, setRow_heap w b _ _ _ _ hb, h4, h5, by simp; omega, ?_, rfl⟩
    have hcut : (cur.toList.take (0 + j * E.k + f) ++ vs ++ cur.toList.drop (0 + j * E.k + f + vs.length)).take (m * E.k) = (cur.toList.take (m * E.k)).take (j * E.k + f) ++ vs ++ (cur.toList.take (m * E.k)).drop (j * E.k + f + k) := by
      rw [hl, Nat.zero_add, List.take_append, List.take_append]
      simp only [List.length_append, List.length_take, Array.length_toList, hl]
      rw [List.take_of_length_le (l := List.take (j * E.k + f) cur.toList) (by simp; omega), List.take_of_length_le (l := vs) (by omega)]
      congr 1
      · rw [List.take_take, Nat.min_eq_left (by omega)]
      · rw [List.drop_take]; congr 1; rw [Nat.min_eq_left (by omega)]
    rw [show (cur.toList.take (0 + j * E.k + f) ++ vs ++ cur.toList.drop (0 + j * E.k + f + vs.length)).toArray.toList = cur.toList.take (0 + j * E.k + f) ++ vs ++ cur.toList.drop (0 + j * E.k + f + vs.length) from rfl, hcut, h7, ← hl1, ← hcs]
    rw [List.take_append, List.drop_append, List.take_of_length_le (by omega), List.drop_eq_nil_of_le (by omega)]
    rw [show c1.length + f - c1.length = f from by omega, show c1.length + f + k - c1.length = f + k from by omega, List.take_append_of_le_length (by omega), List.drop_append_of_le_length (by omega)]
    simp

/-- the places of a struct's fields -/
def sPlaces (P : Program) (T : TypeId) : Option (List (Nat × Nat)) := match P.underlying T with
  | some (.struct fs) => fs.toList.mapM fun f => (P.info? f.type).map fun i => (f.offset, i.size)
  | _ => none
theorem run_places {P : Program} {w : World} : ∀ (l : List Field) (pl : List (Nat × Nat)), l.mapM (fun f => (P.info? f.type).map fun i => (f.offset, i.size)) = some pl →
    (l.mapM (m := Sem) (fun f => do pure (f.offset, ← sizeOf f.type))).run P w = .ok pl w
  | [], pl, h => by simp at h; subst h; simp
  | f :: l, pl, h => by
    simp only [List.mapM_cons, Option.pure_def, Option.bind_eq_bind, Option.bind_eq_some_iff, Option.some.injEq] at h
    obtain ⟨p, h1, ps, h2, rfl⟩ := h
    obtain ⟨i, hi, rfl⟩ := Option.map_eq_some_iff.1 h1
    have ih := run_places (w := w) l ps h2
    simp only [List.mapM_cons, Sem.run_bind, sizeOf, typeInfo, run_program, Result.andThen_ok, hi, Sem.run_pure]
    simp only [sizeOf, typeInfo] at ih
    rw [ih]; rfl
theorem Y.bld {T : TypeId} {k : Nat} {z : List Value} {by' : Nat} {pl : List (Nat × Nat)} {ps : Array (Nat × Operand)} {pvs : List (Nat × Value)} {cs : List Value} (ht : TyOk P T true k z by') (hpl : sPlaces P T = some pl)
    (hps : ps.toList.mapM (fun p => (ev fr p.2).map fun v => (p.1, v)) = some pvs) (hfill : Instr.fill (pl.toArray[·]?) z.toArray pvs = some cs.toArray) : Yp P n fr (.build T ps) (.agg cs.toArray) := fun a ha w' d t p af g => by
  unfold sPlaces at hpl
  split at hpl
  · rename_i fs hs
    obtain ⟨zv, hz1, hz2⟩ := ht.run_zero w'
    have hpv : ∀ (l : List (Nat × Operand)) (pvs : List (Nat × Value)), l.mapM (fun p => (ev fr p.2).map fun v => (p.1, v)) = some pvs → l.map (fun p => (p.1, a.eval p.2)) = pvs := by
      intro l
      induction l with
      | nil => intro vs hv; simp at hv; subst hv; rfl
      | cons x xs ih =>
        intro vs hv
        simp only [List.mapM_cons, Option.pure_def, Option.bind_eq_bind, Option.bind_eq_some_iff, Option.some.injEq] at hv
        obtain ⟨v, h1, vs', h2, rfl⟩ := hv
        obtain ⟨u, h3, rfl⟩ := Option.map_eq_some_iff.1 h1
        simp [ih _ h2, ha.ev h3]
    have hps' := hpv _ _ hps
    have hpl' := run_places (P := P) (w := w') fs.toList pl hpl
    have hpls : (fs.mapM (m := Sem) fun f => do pure (f.offset, ← sizeOf f.type)).run P w' = .ok pl.toArray w' := by
      rw [Array.mapM_eq_mapM_toList]
      simp only [Sem.run_map, hpl', Result.andThen_ok]
    simp only [execOp, Instr.build, Sem.run_bind, hz1, Result.andThen_ok, run_underlying hs, hpls, hz2, Array.toList_map, hps', hfill, Sem.run_pure]
  · cases hpl
end
end Go.Proofs.Ytnagfcajnbkdoaa
