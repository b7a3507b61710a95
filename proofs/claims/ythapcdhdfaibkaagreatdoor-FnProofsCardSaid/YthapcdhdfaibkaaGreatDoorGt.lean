import Derived.Test.YthapcdhdfaibkaaGreatDoorBe
section
namespace Go.Proofs.YthapcdhdfaibkaaGreatDoor
open Go.RowKit
set_option linter.unusedVariables false
section
variable {P : Program} {n : Nat} {w0 : World} {L0 : List Nat} {fr : Fr} {H : List HP}
end
end Go.Proofs.YthapcdhdfaibkaaGreatDoor
end
section
namespace Go.Proofs.YthapcdhdfaibkaaGreatDoor
open Go.RowKit
set_option linter.unusedVariables false
section
variable {P : Program} {Q : Exit → Act → World → Prop} {n : Nat} {w0 : World} {L0 : List Nat} {fr : Fr} {H R : List HP} {d : Nat} {ty : TypeId} {pos : String} {af : Array Edge} {g : Option (Nat × Bool)}
theorem b8a {T e : TypeId} {agg : Bool} {k : Nat} {z : List Value} {by' : Nat} {x y : Operand} {gb M C i off : Nat} {cs vs cs' : List Value} {v : Value} (ht : TyOk P T agg k z by') (hx : ev fr x = some (.pointer (some ⟨gb, off, none⟩))) (hoff : off = i * k) (hy : ev fr y = some v) (hv : v.cells = vs.toArray) (hl : vs.length = k) (h1 : ∀ u ∈ vs, u.oneCell' = true) (hi : i < M) (hcs : cs.take (i * k) ++ vs ++ cs.drop (i * k + k) = cs') :
  Nop P Q n w0 L0 fr (row e k (some ⟨gb, 0, none⟩) M C cs :: R) ⟨none, .store T x y, ty, pos, af, g⟩ false (κ := Unit) (fun _ => fr) (fun _ => row e k (some ⟨gb, 0, none⟩) M C cs' :: R) (fun _ => True) := fun K hK a w ha hw => by
 subst hcs; subst hoff
 obtain ⟨L, ⟨L1, L2, rfl, hrow, hR⟩, hn, hst⟩ := hw
 obtain ⟨hlc, ⟨_, h0, _⟩ | ⟨g', cur, hg', hg, hmc, hcm, hsz, htake, rfl⟩⟩ := hrow
 ·omega
 cases hg'
 have hik : i * k + k ≤ M * k := by rw [← Nat.succ_mul]; exact Nat.mul_le_mul_right _ hi
 have hMc : M * k ≤ cur.size := by rw [hsz]; exact Nat.mul_le_mul_right _ hmc
 have hrun := a2Y (P := P) ht hv hl h1 hg (off := i * k) (by rw [hl]; omega)
 have hrow' : (row e k (some ⟨gb, 0, none⟩) M C (cs.take (i * k) ++ vs ++ cs.drop (i * k + k))).holds (w.setRow gb (cur.toList.take (i * k) ++ vs ++ cur.toList.drop (i * k + vs.length)).toArray) [gb] := by
  refine ⟨?_, .inr ⟨gb, _, rfl, setRow_heap w gb cur _ e _ hg, hmc, hcm, ?_, ?_, rfl⟩⟩
  ·simp only [List.length_append, List.length_take, List.length_drop, hl, hlc]; omega
  ·simp only [List.size_toArray, List.length_append, List.length_take, List.length_drop, Array.length_toList, hl]; omega
  ·rw [show (cur.toList.take (i * k) ++ vs ++ cur.toList.drop (i * k + vs.length)).toArray.toList = cur.toList.take (i * k) ++ vs ++ cur.toList.drop (i * k + vs.length) from rfl, hl, ← htake]
   rw [List.take_append, List.take_append]
   simp only [List.length_append, List.length_take, Array.length_toList, hl]
   rw [List.take_of_length_le (l := List.take (i * k) cur.toList) (by simp; omega), List.take_of_length_le (l := vs) (by omega)]
   congr 1
   ·rw [List.take_take, Nat.min_eq_left (by omega)]
   ·rw [List.drop_take]; congr 1; rw [Nat.min_eq_left (by omega)]
 obtain ⟨k1, k2, k3⟩ := hst.call hn hR.inh (Step.setRow (Array.getElem?_eq_some_iff.1 hg).1) (List.nodup_append.1 hn).1
 simp only [Oper.wp, execOp, ha.ev hx, ha.ev hy, Sem.run_bind, hrun, Result.andThen_ok, Sem.run_pure, Oper.upon_skip]
 exact hK () trivial w _ _ ha ⟨[gb] ++ L2, ⟨[gb], L2, rfl, hrow', hR.stable k3⟩, k2, k1⟩ (by simp)
end
theorem At.els1 {α : Type} {E : Enc α} {w0 w : World} {L0 Lp : List Nat} {pre rest : List HP} {c1 : List Value} {x : α} (hA : At w0 L0 pre rest w Lp) (hm : els E c1 [x] ∈ rest) : Ro w Lp E c1 x := by
 obtain ⟨⟨Lr, h1, h2, h3, h4⟩⟩ := hA
 obtain ⟨L', ⟨d1, d2, M1, M2, rfl, rfl, r1, rfl, rfl⟩, r2⟩ := h2.mem hm
 rw [List.append_nil] at r2 ⊢
 obtain ⟨L'', r3, r4⟩ := E.ro r1
 exact ⟨L'', r4, fun b hb hp => (List.nodup_append.1 h3).2.2 b hp b (r2 b (r3 b hb)) rfl⟩
section
variable {n : Nat} {w0 : World} {L0 : List Nat} {fr : Fr} {R : List HP} {G : Act → World → Prop} {α : Type} {E : Enc α} {xs ys : List α} {cs c1 c2 : List Value}
theorem a8q (h : ∀ c1 c2, cs = c1 ++ c2 → c1.length = xs.length * E.k → Ent n w0 L0 fr (els E c1 xs :: els E c2 ys :: R) G) : Ent n w0 L0 fr (els E cs (xs ++ ys) :: R) G := fun ac w h1 h2 => by
 obtain ⟨L, ⟨L1, LR, rfl, g1, hR⟩, hn, hst⟩ := h2
 obtain ⟨c1, c2, M1, M2, rfl, rfl, e1, e2⟩ := C0.split g1
 have ea : (M1 ++ M2) ++ LR = M1 ++ (M2 ++ LR) := by simp
 rw [ea] at hn hst
 exact h c1 c2 rfl e1.len ac w h1 ⟨M1 ++ (M2 ++ LR), ⟨M1, M2 ++ LR, rfl, e1, M2, LR, rfl, e2, hR⟩, hn, hst⟩
theorem b5V (h : Ent n w0 L0 fr (els E (c1 ++ c2) (xs ++ ys) :: R) G) : Ent n w0 L0 fr (els E c1 xs :: els E c2 ys :: R) G := fun ac w h1 h2 => by
 obtain ⟨L, ⟨M1, L1, rfl, e1, M2, LR, rfl, e2, hR⟩, hn, hst⟩ := h2
 have ea : M1 ++ (M2 ++ LR) = (M1 ++ M2) ++ LR := by simp
 rw [ea] at hn hst
 exact h ac w h1 ⟨(M1 ++ M2) ++ LR, ⟨M1 ++ M2, LR, rfl, C0.app e1 e2, hR⟩, hn, hst⟩
end
structure DfI (k M i j : Nat) (cur kc rc : List Value) : Prop where
 len : cur.length = M * k
 lt : i < j
 le : j ≤ M
 kl : kc.length = i * k
 k1 : cur.take (i * k) = kc
 r1 : cur.drop (j * k) = rc
theorem DfI.skip {k M i j : Nat} {cur kc c1 c2 : List Value} (h : DfI k M i j cur kc (c1 ++ c2)) (hj : j < M) (hc : c1.length = k) : DfI k M i (j + 1) cur kc c2 := by
 refine ⟨h.len, by have := h.lt; omega, hj, h.kl, h.k1, ?_⟩
 have e : cur.drop ((j + 1) * k) = (cur.drop (j * k)).drop k := by rw [List.drop_drop, Nat.succ_mul]
 rw [e, h.r1, ← hc, List.drop_left]
theorem DfI.put {k M i j : Nat} {cur kc c1 c2 : List Value} (h : DfI k M i j cur kc (c1 ++ c2)) (hj : j < M) (hc : c1.length = k) : DfI k M (i + 1) (j + 1) (cur.take (i * k) ++ c1 ++ cur.drop (i * k + k)) (kc ++ c1) c2 := by
 have hlt := h.lt
 have h2 : i * k + k ≤ j * k := by rw [← Nat.succ_mul]; exact Nat.mul_le_mul_right _ hlt
 have h3 : j * k + k ≤ M * k := by rw [← Nat.succ_mul]; exact Nat.mul_le_mul_right _ hj
 have hl := h.len
 have hs := h.skip hj hc
 have l1 : (cur.take (i * k) ++ c1).length = (i + 1) * k := by rw [List.length_append, List.length_take, hc, Nat.succ_mul]; omega
 refine ⟨?_, by omega, hj, ?_, ?_, ?_⟩
 ·simp only [List.length_append, List.length_take, List.length_drop, hc]; omega
 ·rw [List.length_append, h.kl, hc, Nat.succ_mul]
 ·rw [← l1, List.take_left, h.k1]
 ·rw [← hs.r1, List.drop_append, l1, (show (cur.take (i * k) ++ c1).drop ((j + 1) * k) = [] from List.drop_eq_nil_of_le (by rw [l1]; exact Nat.mul_le_mul_right _ (by omega))), List.nil_append, List.drop_drop]
  congr 1
  have h4 : (i + 1) * k ≤ (j + 1) * k := Nat.mul_le_mul_right _ (by omega)
  have h5 : (i + 1) * k = i * k + k := Nat.succ_mul _ _
  have h6 : (j + 1) * k = j * k + k := Nat.succ_mul _ _
  omega
theorem b5W {k M i : Nat} {cs c1 c2 c3 : List Value} (hl : cs.length = M * k) (hi : i < M) (e : cs = c1 ++ (c2 ++ c3)) (h1 : c1.length = i * k) (h2 : c2.length = k) : DfI k M i (i + 1) cs c1 c3 := by
 subst e
 refine ⟨hl, by omega, hi, h1, by rw [← h1, List.take_left], ?_⟩
 rw [← List.append_assoc, Nat.succ_mul, ← h1, ← h2, ← List.length_append, List.drop_left]
theorem a2v {α : Type} {s : List α} {p : α → Bool} {j : Nat} (h : j < s.length) : (s.take (j + 1)).filter p = if p s[j] then (s.take j).filter p ++ [s[j]] else (s.take j).filter p := by
 rw [List.take_succ_eq_append_getElem h, List.filter_append]
 cases hp : p s[j] <;> simp [hp]
theorem b1H {α : Type} {s : List α} {p : α → Bool} {i : Nat} (h : M6 p s = (i : Int)) : i < s.length ∧ (∀ hi : i < s.length, p s[i] = true) ∧ (s.take i).filter (fun x => !p x) = s.take i ∧ (s.take (i + 1)).filter (fun x => !p x) = s.take i := by
 have h0 : ¬ M6 p s < 0 := by omega
 have h1 := b7K h0
 have ha : s.any p = true := by
  by_cases q : s.any p = true
  ·exact q
  ·exact absurd (b2G.2 (by simpa using q)) h0
 have hf : (s.findIdx p : Int) = (i : Int) := by rw [← h, M6, if_pos ha]
 have hf' : s.findIdx p = i := by omega
 have hi : i < s.length := by omega
 have hp : p s[i] = true := by subst hf'; exact List.findIdx_getElem
 have h3 : (s.take i).filter (fun x => !p x) = s.take i := by
  rw [List.filter_eq_self]
  intro x hx
  obtain ⟨q, hq, rfl⟩ := List.mem_take_iff_getElem.1 hx
  have := List.not_of_lt_findIdx (p := p) (xs := s) (i := q) (by omega)
  simpa using this
 refine ⟨hi, fun _ => hp, h3, ?_⟩
 rw [a2v hi, if_neg (by simp [hp]), h3]
theorem b2c {α : Type} {s : List α} {p : α → Bool} (h : M6 p s < 0) : s.filter (fun x => !p x) = s := by
 rw [List.filter_eq_self]
 intro x hx
 have := b2G.1 h
 rw [List.any_eq_false] at this
 simpa using this x hx
end Go.Proofs.YthapcdhdfaibkaaGreatDoor
end
section
namespace Go.Proofs.YthapcdhdfaibkaaGreatDoor
open Go.RowKit
set_option linter.unusedVariables false
set_option linter.unusedSimpArgs false
def hpx {κ : Type} (F : κ → List HP) : HP where
 holds w L := ∃ k, Sep (F k) w L
 stable := fun ⟨k, h⟩ hb => ⟨k, h.stable hb⟩
 inh := fun ⟨k, h⟩ => h.inh
def c0H (RR : World → List Nat → Prop) : Prop := ∀ (w0 : World) (L0 : List Nat) (pre rest : List HP) (w : World) (Lp : List Nat), At w0 L0 pre rest w Lp → RR w0 L0 → RR w Lp
def FnS {α σ : Type} (P : Program) (g : FuncId) (caps : List Value) (RR : World → List Nat → Prop) (E : Enc α) (val : List Value → Value) (D : σ → α → Prop) (p : α → Bool) (S : σ → HP) (st : σ → α → σ) : Prop :=
 ∀ cs x s, D s x → Tr P g (val cs :: caps) (fun w L => Ro w L E cs x ∧ RR w L) [S s] (κ := Unit) (fun _ => True) (fun _ => .bool (p x)) (fun _ => [S (st s x)])
section
variable {P : Program} {Q : Exit → Act → World → Prop} {n : Nat} {w0 : World} {L0 : List Nat} {fr : Fr} {H R A : List HP} {G : Act → World → Prop} {d : Nat} {ty : TypeId} {pos : String} {af : Array Edge} {g : Option (Nat × Bool)} {κ σ α : Type} {F F' : κ → List HP} {RR : World → List Nat → Prop}
theorem b7e (k : κ) (hH : H = F k ++ R) (h : Ent n w0 L0 fr (hpx F :: R) G) : Ent n w0 L0 fr H G := fun a w h1 h2 => by
 subst hH
 obtain ⟨L, hs, hn, hst⟩ := h2
 obtain ⟨L1, L2, rfl, g1, g2⟩ := Sep.append.1 hs
 exact h a w h1 ⟨L1 ++ L2, ⟨L1, L2, rfl, ⟨k, g1⟩, g2⟩, hn, hst⟩
theorem b5U (h : ∀ k, Ent n w0 L0 fr (F k ++ R) G) : Ent n w0 L0 fr (hpx F :: R) G := fun a w h1 h2 => by
 obtain ⟨L, ⟨L1, L2, rfl, ⟨k, g1⟩, g2⟩, hn, hst⟩ := h2
 exact h k a w h1 ⟨L1 ++ L2, Sep.append.2 ⟨L1, L2, rfl, g1, g2⟩, hn, hst⟩
end
section
variable {α σ : Type} {s : List α} {st : σ → α → σ} {s0 : σ} {p : α → Bool} {k : Nat}
def c0J (p : α → Bool) (s : List α) : Nat := if M6 p s < 0 then s.length else (M6 p s).toNat + 1
end
end Go.Proofs.YthapcdhdfaibkaaGreatDoor
end
section
namespace Go.Proofs.YthapcdhdfaibkaaGreatDoor
open Go.RowKit
set_option linter.unusedVariables false
set_option linter.unusedSimpArgs false
section
variable {P : Program} {n : Nat} {fr : Fr}
theorem b1u (m : Int) : I64 (IntKind.i64.wrap m) := by
 unfold I64
 simp only [IntKind.wrap, IntKind.bits, IntKind.signed]
 simp
 split <;> omega
theorem b8c {x y : Operand} {T U : TypeId} {a b : Int} (hx : ev fr x = some (.int .i64 a)) (hy : ev fr y = some (.int .i64 b)) : Yp P n fr (.binOp .add T x y U) (.int .i64 (IntKind.i64.wrap (a + b))) := fun ac h w' d t p af g => by
 simp [execOp, h.ev hx, h.ev hy, eqGuard_add, binOp_add, Op.intArith]
theorem b4O {x y : Operand} {T U : TypeId} {a b : Int} (hx : ev fr x = some (.int .i64 a)) (hy : ev fr y = some (.int .i64 b)) : Yp P n fr (.binOp .mul T x y U) (.int .i64 (IntKind.i64.wrap (a * b))) := fun ac h w' d t p af g => by
 simp [execOp, h.ev hx, h.ev hy, eqGuard_mul, binOp_mul, Op.intArith]
def a4W (a b : Int) : Int := IntKind.i64.wrap ((BitVec.ofInt 64 a ^^^ BitVec.ofInt 64 b).toNat : Int)
theorem Y.xor {x y : Operand} {T U : TypeId} {a b : Int} (hx : ev fr x = some (.int .i64 a)) (hy : ev fr y = some (.int .i64 b)) : Yp P n fr (.binOp .xor T x y U) (.int .i64 (a4W a b)) := fun ac h w' d t p af g => by
 simp [execOp, h.ev hx, h.ev hy, eqGuard_xor, binOp_xor, Op.intBits, a4W]
 rfl
theorem b1E {a : Int} : 0 ≤ a0I a 255 ∧ a0I a 255 ≤ 255 := by
 have h : (BitVec.ofInt 64 a &&& BitVec.ofInt 64 255).toNat ≤ 255 := by
  rw [BitVec.toNat_and]
  exact Nat.le_trans Nat.and_le_right (by decide)
 unfold a0I
 have e : IntKind.i64.wrap ((BitVec.ofInt 64 a &&& BitVec.ofInt 64 255).toNat : Int) = ((BitVec.ofInt 64 a &&& BitVec.ofInt 64 255).toNat : Int) := IntWalk.i64_in _ ⟨by omega, by omega⟩
 rw [e]; omega
theorem b6k {x : Operand} {S D : TypeId} {a : Int} (hS : P.underlying S = some (.int .u8)) (hD : P.underlying D = some (.int .i64)) (hx : ev fr x = some (.int .u8 a)) (h : 0 ≤ a ∧ a ≤ 255) : Yp P n fr (.convert S D x) (.int .i64 a) := fun ac hF w' d t p af g => by
 have h1 : IntKind.i64.wrap a = a := IntWalk.i64_in _ ⟨by omega, by omega⟩
 simp [execOp, convert, hF.ev hx, run_underlying hS, run_underlying hD, Conv.intToInt, h1]
end
end Go.Proofs.YthapcdhdfaibkaaGreatDoor
end
section
namespace Go.Proofs.YthapcdhdfaibkaaGreatDoor
open Go.RowKit
set_option linter.unusedVariables false
set_option linter.unusedSimpArgs false
abbrev tU8 : TypeId := 5
theorem a7l : TyOk Tryz.prog 5 false 1 [.int .u8 0] 1 := M0 (z := .int .u8 0) (by kernel_rfl) (by kernel_rfl) rfl rfl
theorem us_U8s : Tryz.prog.underlying 22 = some (.slice 5) := by kernel_rfl
theorem ty_U8s : TyOk Tryz.prog 22 false 1 [.slice none 0 0] 24 := M0 (z := .slice none 0 0) (by kernel_rfl) (by kernel_rfl) rfl rfl
theorem b3a : Tryz.prog.underlying 3 = some (.int .i64) := by kernel_rfl
theorem a7k : Tryz.prog.underlying 5 = some (.int .u8) := by kernel_rfl
theorem ub8 {c : UInt8} : 0 ≤ (↑c.toNat : Int) ∧ (↑c.toNat : Int) ≤ 255 := by
 have := c.toNat_lt
 omega
def Enc.u8 : Enc UInt8 where
 k := 1
 pos := by decide
 rep _ cs x L _ := cs = [.int .u8 (↑x.toNat : Int)] ∧ L = []
 len h := by rw [h.1]; rfl
 one h := by rw [h.1]; simp [Value.oneCell']
 stable h _ := h
 inh h := by rw [h.2]; simp
 ro h := ⟨[], by simp, h.1, rfl⟩
abbrev Y6 : Enc (List UInt8) := Enc.sl tU8 Enc.u8
section
variable {w0 : World} {L0 : List Nat} {cs : List Value} {e : TypeId} {xs : List UInt8} {a : Option Addr} {m c : Nat}
theorem Ro.u8 {x : UInt8} (h : Ro w0 L0 Enc.u8 cs x) : cs = [.int .u8 (↑x.toNat : Int)] := let ⟨_, h1, _⟩ := h; h1.1
theorem Ro.elemU (h : Ro w0 L0 (Enc.sl e Enc.u8) [.slice a m c] xs) (i : Nat) (hi : i < xs.length) :
  ∃ b off, a = some ⟨b, off, none⟩ ∧ ∀ H, Has w0 L0 H b (off + i * 1) [.int .u8 (↑xs[i].toNat : Int)] := by
 obtain ⟨b, off, ci, h1, h2, h3, h4⟩ := h.elem i hi
 obtain rfl := h2.u8
 exact ⟨b, off, h1, h4⟩
end
abbrev tl1Cur : TypeId := 204
theorem ty_l1Cur : TyOk Tryz.prog tl1Cur true 3 [.slice none 0 0, .int .i64 0, .int .i64 0] 40 := M0 (z := .agg #[.slice none 0 0, .int .i64 0, .int .i64 0]) (by kernel_rfl) (by kernel_rfl) rfl rfl
theorem fo_l1Cur_0 : S6 Tryz.prog tl1Cur 0 = some (0, 22) := by kernel_rfl
theorem fo_l1Cur_1 : S6 Tryz.prog tl1Cur 1 = some (1, tI) := by kernel_rfl
theorem fo_l1Cur_2 : S6 Tryz.prog tl1Cur 2 = some (2, tI) := by kernel_rfl
theorem pl_l1Cur : a0D Tryz.prog tl1Cur = some [(0, 1), (1, 1), (2, 1)] := by kernel_rfl
abbrev b9E (m : Nat) : Type := { k : Int × Int // (0 ≤ k.1 ∧ k.1 ≤ (m : Int)) ∧ I64 k.2 }
def curF (b : Nat) (a : Option Addr) (m c : Nat) (k : b9E m) : List HP := [pt b tl1Cur [.slice a m c, .int .i64 k.1.1, .int .i64 k.1.2]]
def cur (b : Nat) (a : Option Addr) (m c : Nat) : HP := hpx (curF b a m c)
section
variable {n : Nat} {w0 : World} {L0 : List Nat} {fr : Fr} {R : List HP} {G : Act → World → Prop} {b : Nat} {a : Option Addr} {m c : Nat}
theorem Ent.curO (h : ∀ i h : Int, 0 ≤ i ∧ i ≤ (m : Int) → I64 h → Ent n w0 L0 fr (pt b tl1Cur [.slice a m c, .int .i64 i, .int .i64 h] :: R) G) : Ent n w0 L0 fr (cur b a m c :: R) G := b5U fun k => h k.1.1 k.1.2 k.2.1 k.2.2
theorem Ent.curC {i h : Int} (hi : 0 ≤ i ∧ i ≤ (m : Int)) (hh : I64 h) (k : Ent n w0 L0 fr (cur b a m c :: R) G) : Ent n w0 L0 fr (pt b tl1Cur [.slice a m c, .int .i64 i, .int .i64 h] :: R) G := b7e (F := curF b a m c) ⟨(i, h), hi, hh⟩ rfl k
end
section
variable {P : Program} {n : Nat} {fr : Fr}
theorem a9c {x y : Operand} {T U : TypeId} {a b : Int} (hx : ev fr x = some (.int .i64 a)) (hy : ev fr y = some (.int .i64 b)) (h : -9223372036854775808 ≤ a * b ∧ a * b ≤ 9223372036854775807) : Yp P n fr (.binOp .mul T x y U) (.int .i64 (a * b)) := by
 have := b4O (P := P) (n := n) (T := T) (U := U) hx hy
 rwa [IntWalk.i64_in _ h] at this
theorem b4K {x y : Operand} {T U : TypeId} {a b : Int} (hx : ev fr x = some (.int .i64 a)) (hy : ev fr y = some (.int .u64 b)) (h0 : 0 ≤ b) (h1 : b ≤ 64) : Yp P n fr (.binOp .shr T x y U) (.int .i64 (a / 2 ^ b.toNat)) := fun ac h w' d t p af g => by
 have e : min b.toNat 64 = b.toNat := by omega
 simp [execOp, h.ev hx, h.ev hy, eqGuard_shr, binOp_shr, e]
end
theorem b6a {a : Int} : 0 ≤ a0I a 1073741823 ∧ a0I a 1073741823 ≤ 1073741823 := by
 have h : (BitVec.ofInt 64 a &&& BitVec.ofInt 64 1073741823).toNat ≤ 1073741823 := by
  rw [BitVec.toNat_and]
  exact Nat.le_trans Nat.and_le_right (by decide)
 unfold a0I
 have e : IntKind.i64.wrap ((BitVec.ofInt 64 a &&& BitVec.ofInt 64 1073741823).toNat : Int) = ((BitVec.ofInt 64 a &&& BitVec.ofInt 64 1073741823).toNat : Int) := IntWalk.i64_in _ ⟨by omega, by omega⟩
 rw [e]; omega
theorem a9p {x n : Int} (hn : 0 < n) : 0 ≤ x % n ∧ (n ≤ 0 → x % n = 0) ∧ (0 < n → x % n < n) := ⟨Int.emod_nonneg _ (by omega), fun h => by omega, fun _ => Int.emod_lt_of_pos _ hn⟩
theorem b1C {ys : List Int} {g : Nat} {a : Int} (h : ys.length = g ∧ ∀ z ∈ ys, 1 ≤ z ∧ z ≤ 3) (ha : 1 ≤ a ∧ a ≤ 3) : (ys ++ [a]).length = g + 1 ∧ ∀ z ∈ ys ++ [a], 1 ≤ z ∧ z ≤ 3 := by
 refine ⟨by simp [h.1], fun z hz => ?_⟩
 rcases List.mem_append.1 hz with hz | hz
 ·exact h.2 z hz
 ·rw [List.mem_singleton] at hz; omega
theorem b6J {ys : List Int} {g : Nat} (h : ys.length = g ∧ ∀ z ∈ ys, 1 ≤ z ∧ z ≤ 3) (h1 : 1 ≤ g) (h2 : g ≤ 3) : 1 ≤ ys.length ∧ ys.length ≤ 3 ∧ ∀ z ∈ ys, 1 ≤ z ∧ z ≤ 3 := ⟨by omega, by omega, h.2⟩
end Go.Proofs.YthapcdhdfaibkaaGreatDoor
end
