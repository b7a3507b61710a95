import Derived.Test.YthapcdhdfaibkaaGreatDoorHq
section
namespace Go.Proofs.YthapcdhdfaibkaaGreatDoor
open Go.RowKit
set_option linter.unusedVariables false
set_option linter.unusedSimpArgs false
section
variable {P : Program} {n : Nat} {w0 : World} {L0 : List Nat} {fr : Fr} {H : List HP} {fn : Func} {κ : Type} {φ : κ → Prop} {ret : κ → Value} {post : κ → List HP} {wb : World} {Lb : List Nat}
end
abbrev tB : TypeId := 4
abbrev eBs : Enc (List Bool) := Enc.sl tB Enc.bool
section
variable {w0 : World} {L0 : List Nat} {H : List HP} {e : TypeId} {a : Option Addr} {m c b o : Nat} {xs : List Bool}
end
theorem b4Q {α : Type} {E : Enc α} {w : World} {L : List Nat} {e : TypeId} {a : Option Addr} : Ro w L (Enc.sl e E) [.slice a 0 0] [] :=
 ⟨[], ⟨a, 0, 0, [], [], [], rfl, rfl, Nat.zero_le _, rfl, ⟨rfl, rfl⟩, ⟨⟨Nat.le_refl _, Nat.zero_le _⟩, .inl ⟨rfl, rfl⟩⟩⟩, by simp⟩
def a2l : Enc (Option Addr × Nat × Nat) where
 k := 1
 pos := by decide
 rep _ cs x L _ := cs = [.slice x.1 x.2.1 x.2.2] ∧ L = []
 len h := by rw [h.1]; rfl
 one h := by rw [h.1]; simp [Value.oneCell']
 stable h _ := h
 inh h := by rw [h.2]; simp
 ro h := ⟨[], by simp, h.1, rfl⟩
theorem b9l : Plain a2l := fun w cs x L h => ⟨h.1, rfl⟩
theorem c0a {x : Option Addr × Nat × Nat} : Own [] a2l [.slice x.1 x.2.1 x.2.2] x := fun w L hL => ⟨rfl, hL⟩
theorem c0i {w0 : World} {L0 : List Nat} {cs : List Value} {x : Option Addr × Nat × Nat} (h : Ro w0 L0 a2l cs x) : cs = [.slice x.1 x.2.1 x.2.2] := let ⟨_, h1, _⟩ := h; h1.1
def Bor {α β : Type} (w : World) (L : List Nat) (E : Enc α) (f : β → List Value) : List β → List α → Prop
 | [], [] => True
 | y :: ys, x :: xs => Ro w L E (f y) x ∧ Bor w L E f ys xs
 | _, _ => False
def b7N {β : Type} (F : Enc β) (f : β → List Value) : Prop := ∀ w cs y L o, F.rep w cs y L o → cs = f y ∧ L = []
section
variable {α β : Type} {E : Enc α} {F : Enc β} {f : β → List Value} {w w0 : World} {L L0 Lp : List Nat} {ys ys' : List β} {xs xs' : List α} {pre rest : List HP} {a : Option Addr} {m c : Nat} {e : TypeId} {cs ccs : List Value}
theorem Bor.len : ∀ {ys : List β} {xs : List α}, Bor w L E f ys xs → ys.length = xs.length
 | [], [], _ => rfl
 | _ :: _, _ :: _, h => congrArg (· + 1) (Bor.len h.2)
theorem Bor.nil : Bor w L E f [] [] := trivial
theorem Bor.app : ∀ {ys : List β} {xs : List α}, Bor w L E f ys xs → Bor w L E f ys' xs' → Bor w L E f (ys ++ ys') (xs ++ xs')
 | [], [], _, h => h
 | _ :: _, _ :: _, h, h' => ⟨h.1, Bor.app h.2 h'⟩
theorem Bor.one {y : β} {x : α} (h : Ro w L E (f y) x) : Bor w L E f [y] [x] := ⟨h, trivial⟩
theorem Bor.get : ∀ {ys : List β} {xs : List α}, Bor w L E f ys xs → ∀ i (h1 : i < ys.length) (h2 : i < xs.length), Ro w L E (f ys[i]) xs[i]
 | _ :: _, _ :: _, h, 0, _, _ => h.1
 | _ :: _, _ :: _, h, i + 1, h1, h2 => Bor.get h.2 i (Nat.lt_of_succ_lt_succ h1) (Nat.lt_of_succ_lt_succ h2)
theorem Bor.map {g : β → β} {g' : α → α} (hg : ∀ y x, Ro w L E (f y) x → Ro w L E (f (g y)) (g' x)) : ∀ {ys : List β} {xs : List α}, Bor w L E f ys xs → Bor w L E f (ys.map g) (xs.map g')
 | [], [], _ => trivial
 | _ :: _, _ :: _, h => ⟨hg _ _ h.1, Bor.map hg h.2⟩
theorem Bor.filter {p : β → Bool} {p' : α → Bool} (hp : ∀ y x, Ro w L E (f y) x → p y = p' x) : ∀ {ys : List β} {xs : List α}, Bor w L E f ys xs → Bor w L E f (ys.filter p) (xs.filter p')
 | [], [], _ => trivial
 | y :: _, x :: _, h => by
  have h1 := hp _ _ h.1
  have h2 := Bor.filter hp h.2
  cases h3 : p' x
  ·rw [List.filter_cons_of_neg (by rw [h1, h3]; decide), List.filter_cons_of_neg (by rw [h3]; decide)]; exact h2
  ·rw [List.filter_cons_of_pos (by rw [h1, h3]), List.filter_cons_of_pos h3]; exact ⟨h.1, h2⟩
theorem Bor.take : ∀ (n : Nat) {ys : List β} {xs : List α}, Bor w L E f ys xs → Bor w L E f (ys.take n) (xs.take n)
 | 0, _, _, _ => by simpa using Bor.nil
 | _ + 1, [], [], _ => trivial
 | n + 1, _ :: _, _ :: _, h => ⟨h.1, Bor.take n h.2⟩
theorem Bor.drop : ∀ (n : Nat) {ys : List β} {xs : List α}, Bor w L E f ys xs → Bor w L E f (ys.drop n) (xs.drop n)
 | 0, _, _, h => h
 | _ + 1, [], [], _ => trivial
 | n + 1, _ :: _, _ :: _, h => Bor.drop n h.2
theorem b7N.cells (hF : b7N F f) : ∀ {ys : List β} {cs : List Value} {M : List Nat} {o : Bool}, C0 F w cs ys M o → cs = ys.flatMap f ∧ M = []
 | [], _, _, _, h => ⟨h.1, h.2⟩
 | _ :: _, _, _, _, ⟨c1, c2, L1, L2, h1, h2, h3, h4⟩ => by
  obtain ⟨rfl, rfl⟩ := hF _ _ _ _ _ h3
  obtain ⟨rfl, rfl⟩ := hF.cells h4
  exact ⟨h1, h2⟩
end
section
variable {α β : Type} {E : Enc α} {F : Enc β} {f : β → List Value} {n : Nat} {w0 : World} {L0 : List Nat} {fr : Fr} {A H R : List HP} {G : Act → World → Prop} {a : Option Addr} {m c : Nat} {e : TypeId} {xs : List α}
end

abbrev b5q : TypeId := tMethod
abbrev b5s : Enc (Int × (Option Addr × Nat × Nat) × Int × Int × Int) := Enc.pair Enc.int (Enc.pair a2l (Enc.pair Enc.int (Enc.pair Enc.int Enc.int)))
abbrev b8Y : Enc (List (Int × (Option Addr × Nat × Nat) × Int × Int × Int)) := Enc.sl b5q b5s
def b9G (y : Int × (Option Addr × Nat × Nat) × Int × Int × Int) : List Value := [.int .i64 y.1, .slice y.2.1.1 y.2.1.2.1 y.2.1.2.2, .int .i64 y.2.2.1, .int .i64 y.2.2.2.1, .int .i64 y.2.2.2.2]
abbrev b6y : TypeId := tQuery
abbrev b6s : Enc ((Option Addr × Nat × Nat) × Option Addr × Nat × Nat) := Enc.pair a2l a2l
abbrev b9B : Enc (List ((Option Addr × Nat × Nat) × Option Addr × Nat × Nat)) := Enc.sl b6y b6s
def b9W (y : (Option Addr × Nat × Nat) × Option Addr × Nat × Nat) : List Value := [.slice y.1.1 y.1.2.1 y.1.2.2, .slice y.2.1 y.2.2.1 y.2.2.2]
abbrev b3G : TypeId := tBinding
abbrev b3S : Enc ((Option Addr × Nat × Nat) × Option Addr × Nat × Nat) := Enc.pair a2l a2l
abbrev b8p : Enc (List ((Option Addr × Nat × Nat) × Option Addr × Nat × Nat)) := Enc.sl b3G b3S
def b8W (y : (Option Addr × Nat × Nat) × Option Addr × Nat × Nat) : List Value := [.slice y.1.1 y.1.2.1 y.1.2.2, .slice y.2.1 y.2.2.1 y.2.2.2]
abbrev b7w : TypeId := tFact
abbrev b7H : Enc (Int × Option Addr × Nat × Nat) := Enc.pair Enc.int a2l
abbrev b9X : Enc (List (Int × Option Addr × Nat × Nat)) := Enc.sl b7w b7H
def c0d (y : Int × Option Addr × Nat × Nat) : List Value := [.int .i64 y.1, .slice y.2.1 y.2.2.1 y.2.2.2]
end Go.Proofs.YthapcdhdfaibkaaGreatDoor
end
section
namespace Go.Proofs.YthapcdhdfaibkaaGreatDoor
open Go.RowKit
set_option linter.unusedVariables false
section
variable {P : Program} {n : Nat} {w0 : World} {L0 : List Nat} {fr : Fr} {H : List HP} {fn : Func} {κ : Type} {φ : κ → Prop} {ret : κ → Value} {post : κ → List HP} {wb : World} {Lb : List Nat}
theorem a9d (hb : Y5 w0 L0 wb Lb) {e : Exit} {s0 : Nat} {v0 : Value} {s1 : Nat} {v1 : Value} {s2 : Nat} {v2 : Value} {s3 b3 k3 y3 : Nat} {T3 T3' : TypeId} {z3 cs3 : List Value} (hres : fn.results = #[.tmp s0, .tmp s1, .tmp s2, .cell s3 T3]) (hv0 : fr.lookup s0 = some v0) (hv1 : fr.lookup s1 = some v1) (hv2 : fr.lookup s2 = some v2) (hv3 : fr.lookup s3 = some (.pointer (some ⟨b3, 0, none⟩))) (hm3 : pt b3 T3' cs3 ∈ H) (ht3 : TyOk P T3 true k3 z3 y3) (hl3 : cs3.length = k3)
  (k : κ) (hk : φ k) (hr : .tuple #[v0, v1, v2, .agg cs3.toArray] = ret k) {J : List HP} (hH : H.Perm (post k ++ J)) (he : e = .ret ∨ e = .normal) : Ent n w0 L0 fr H (bodyPost P fn (Fin φ ret post wb Lb) e) :=
 a2V hb he k hk hr hH fun a w h1 h2 => by
  have u0 := h1.ev (x := .tmp s0) hv0
  have u1 := h1.ev (x := .tmp s1) hv1
  have u2 := h1.ev (x := .tmp s2) hv2
  have u3 := h1.ev (x := .tmp s3) hv3
  simp only [Act.eval] at u0 u1 u2 u3
  have q3 := ((Has.pt (w0 := w0) (L0 := L0) hm3) w h2).run_load (P := P) (v := .agg cs3.toArray) ht3 hl3 rfl (fun h => by cases h)
  simp only [Instr.loadAt, Instr.sureAddr, Sem.run_bind, Sem.run_pure, Result.andThen_ok] at q3
  rw [Array.getD_eq_getD_getElem?] at u0 u1 u2 u3
  simp [results, hres, u0, u1, u2, u3, asAddr, q3]
theorem a6d (hb : Y5 w0 L0 wb Lb) {e : Exit} {s0 : Nat} {v0 : Value} {s1 : Nat} {v1 : Value} {s2 b2 k2 y2 : Nat} {T2 T2' : TypeId} {z2 cs2 : List Value} (hres : fn.results = #[.tmp s0, .tmp s1, .cell s2 T2]) (hv0 : fr.lookup s0 = some v0) (hv1 : fr.lookup s1 = some v1) (hv2 : fr.lookup s2 = some (.pointer (some ⟨b2, 0, none⟩))) (hm2 : pt b2 T2' cs2 ∈ H) (ht2 : TyOk P T2 true k2 z2 y2) (hl2 : cs2.length = k2)
  (k : κ) (hk : φ k) (hr : .tuple #[v0, v1, .agg cs2.toArray] = ret k) {J : List HP} (hH : H.Perm (post k ++ J)) (he : e = .ret ∨ e = .normal) : Ent n w0 L0 fr H (bodyPost P fn (Fin φ ret post wb Lb) e) :=
 a2V hb he k hk hr hH fun a w h1 h2 => by
  have u0 := h1.ev (x := .tmp s0) hv0
  have u1 := h1.ev (x := .tmp s1) hv1
  have u2 := h1.ev (x := .tmp s2) hv2
  simp only [Act.eval] at u0 u1 u2
  have q2 := ((Has.pt (w0 := w0) (L0 := L0) hm2) w h2).run_load (P := P) (v := .agg cs2.toArray) ht2 hl2 rfl (fun h => by cases h)
  simp only [Instr.loadAt, Instr.sureAddr, Sem.run_bind, Sem.run_pure, Result.andThen_ok] at q2
  rw [Array.getD_eq_getD_getElem?] at u0 u1 u2
  simp [results, hres, u0, u1, u2, asAddr, q2]
end
end Go.Proofs.YthapcdhdfaibkaaGreatDoor
end
section
namespace Go.Proofs.YthapcdhdfaibkaaGreatDoor
set_option linter.unusedVariables false
def b9v (m : Int × (Option Addr × Nat × Nat) × Int × Int × Int) : Int × (Option Addr × Nat × Nat) × Int × Int × Int := cond (decide (m.2.2.1 ≠ 0)) (-1, m.2) m
def exB (l : List (Int × (Option Addr × Nat × Nat) × Int × Int × Int)) : List (Int × (Option Addr × Nat × Nat) × Int × Int × Int) := l.map b9v
section
variable {l : List (Int × (Option Addr × Nat × Nat) × Int × Int × Int)} {xs : List MT5} {g : Nat} {w : World} {L : List Nat}
end
end Go.Proofs.YthapcdhdfaibkaaGreatDoor
end
section
namespace Go.Proofs.YthapcdhdfaibkaaGreatDoor
set_option linter.unusedVariables false
set_option linter.unusedSimpArgs false
theorem b9R {P : Program} {n : Nat} {fr : Fr} {x : Operand} {s ft : TypeId} {f o k : Nat} {z : List Value} {by' : Nat} {cs : List Value} {v : Value} (hf : S6 P s f = some (o, ft)) (ht : TyOk P ft false k z by') (hx : ev fr x = some (.agg cs.toArray)) (hv : cs[o]? = some v) : Yp P n fr (.field s x f) v := fun ac h w' d t p af g => by
 unfold S6 at hf
 split at hf
 ·rename_i fs hs
  obtain ⟨fd, h1, h2⟩ := Option.map_eq_some_iff.1 hf
  simp only [Prod.mk.injEq] at h2
  obtain ⟨rfl, rfl⟩ := h2
  simp [execOp, Instr.field, h.ev hx, run_underlying hs, h1, part, ht.run_isAgg, asAgg, hv]
 ·cases hf
def b8N (l : List MT5) : List MT5 := l.filter fun m => decide (m.2.2.1 = 0)
def rk (l : List MT5) (i : Int) : Int := if i < 0 then i else ((b8N (l.take i.toNat)).length : Int)
def rkS (l : List MT5) (x : Stp) : Stp := (x.1, rk l x.2)
section
variable {s : List Int} {l L M : List MT5} {y9 al : List AT2} {ds : List Bool} {a : AT2} {b b' : List Int} {i n g k : Nat} {S R : List Stp} {a8 : List Fct} {m : MT5} {q : List Int × List AT2}
def c0R (l : List (Int × (Option Addr × Nat × Nat) × Int × Int × Int)) : List (Int × (Option Addr × Nat × Nat) × Int × Int × Int) := l.filter fun m => decide (m.2.2.1 = 0)
def c0A (l : List MT5) (p : List Int × List AT2) (a8 : List Fct) : List (List Int) := b3q p.1 (b1g (fun a => a9u l a8 a) l p.2 (grF (exF l) p.2).1).1
def c0y (s : List Int) (l : List MT5) (q : List Int × List AT2) : List Stp := cond ((B3 s l && S7 s q) && decide (q.2.length ≤ (grF l q.2).1.length)) (grF l q.2).1 []
def c0B (s : List Int) (l : List MT5) (q : List Int × List AT2) : Bool := (B3 s l && S7 s q) && decide (q.2.length ≤ (grF l q.2).1.length)
end
end Go.Proofs.YthapcdhdfaibkaaGreatDoor
end
section
namespace Go.Proofs.YthapcdhdfaibkaaGreatDoor
open Go.RowKit
set_option linter.unusedVariables false
section
variable {P : Program} {n : Nat} {w0 : World} {L0 : List Nat} {fr : Fr} {H : List HP} {fn : Func} {κ : Type} {φ : κ → Prop} {ret : κ → Value} {post : κ → List HP} {wb : World} {Lb : List Nat}
end
section
variable {P : Program} {Q : Exit → Act → World → Prop} {n : Nat} {w0 : World} {L0 PB : List Nat} {fr : Fr} {H : List HP} {ops : Array Oper} {qt : Nat → Bool} {fuel : Nat} {listed : Array Bool} {op : Op} {d : Nat} {ty : TypeId} {pos : String} {af : Array Edge} {g : Option (Nat × Bool)} {v : Value}
theorem N.yd (hd : d < n) (hy : Yd P n w0 L0 fr H op v) : Nop P Q n w0 L0 fr H ⟨some d, op, ty, pos, af, g⟩ true (κ := Unit) (fun _ => (d, v) :: fr) (fun _ => H) (fun _ => True) := fun K hK a w h1 h2 => by
 rw [Oper.wp, hy a w h1 h2 w (a0J w)]
 exact hK () trivial w _ _ (h1.put hd v) h2 (fun _ => a0J w)
theorem b9j (hs : a3m PB H H) : a3m PB H H := hs
end
end Go.Proofs.YthapcdhdfaibkaaGreatDoor
end
section
namespace Go.Proofs.YthapcdhdfaibkaaGreatDoor
set_option linter.unusedVariables false
section
variable {ys ms : List Mth} {lg : List Acs} {i v : List Int} {a b c d : Int} {g : Nat} {s : List Int} {q : List Int × List AT2}
theorem b6G (h : ys.length = g ∧ ∀ m ∈ ys, m.2.1.length ≤ 4) (hi : i.length ≤ 4) : (ys ++ [(a, i, b, c, d)]).length = g + 1 ∧ ∀ m ∈ ys ++ [(a, i, b, c, d)], m.2.1.length ≤ 4 := by
 refine ⟨by simp [h.1], fun m hm => ?_⟩
 rcases List.mem_append.1 hm with hm | hm
 ·exact h.2 m hm
 ·rw [List.mem_singleton] at hm; rw [hm]; exact hi
theorem b3g (h : (1 ≤ ms.length ∧ ms.length ≤ 4) ∧ ∀ m ∈ ms, m.2.1.length ≤ 4) : ms.length ≤ 5 ∧ ∀ m ∈ ms, m.2.1.length ≤ 4 := ⟨by omega, h.2⟩
theorem b7o (h : (1 ≤ ms.length ∧ ms.length ≤ 4) ∧ ∀ m ∈ ms, m.2.1.length ≤ 4) (hi : i.length ≤ 4) : (ms ++ [(a, i, b, c, d)]).length ≤ 5 ∧ ∀ m ∈ ms ++ [(a, i, b, c, d)], m.2.1.length ≤ 4 := by
 refine ⟨by simp; omega, fun m hm => ?_⟩
 rcases List.mem_append.1 hm with hm | hm
 ·exact h.2 m hm
 ·rw [List.mem_singleton] at hm; rw [hm]; exact hi
end
end Go.Proofs.YthapcdhdfaibkaaGreatDoor
end
section
namespace Go.Proofs.YthapcdhdfaibkaaGreatDoor
set_option linter.unusedVariables false
section
variable {ys rl : List Rul} {m : List Int} {a b : Int} {g : Nat} {s : List Int} {a8 : List Fct} {f : Fct}
theorem b6t (h : ys.length = g ∧ ∀ r ∈ ys, (0 ≤ r.1 ∧ r.1 ≤ 3) ∧ (0 ≤ r.2.1 ∧ r.2.1 ≤ 3) ∧ r.2.2.length ≤ 3) (hm : (0 ≤ a ∧ a ≤ 3) ∧ (0 ≤ b ∧ b ≤ 3) ∧ m.length ≤ 3) : (ys ++ [(a, b, m)]).length = g + 1 ∧ ∀ r ∈ ys ++ [(a, b, m)], (0 ≤ r.1 ∧ r.1 ≤ 3) ∧ (0 ≤ r.2.1 ∧ r.2.1 ≤ 3) ∧ r.2.2.length ≤ 3 := by
 refine ⟨by simp [h.1], fun r hr => ?_⟩
 rcases List.mem_append.1 hr with hr | hr
 ·exact h.2 r hr
 ·rw [List.mem_singleton] at hr; rw [hr]; exact hm
theorem b0I (h : rl.length ≤ 3 ∧ ∀ r ∈ rl, (0 ≤ r.1 ∧ r.1 ≤ 3) ∧ (0 ≤ r.2.1 ∧ r.2.1 ≤ 3) ∧ r.2.2.length ≤ 3) : rl.length ≤ 4 ∧ ∀ r ∈ rl, r.2.2.length ≤ 4 := ⟨Nat.le_trans h.1 (by decide), fun r hr => Nat.le_trans (h.2 r hr).2.2 (by decide)⟩
theorem a8N (h : rl.length ≤ 3 ∧ ∀ r ∈ rl, (0 ≤ r.1 ∧ r.1 ≤ 3) ∧ (0 ≤ r.2.1 ∧ r.2.1 ≤ 3) ∧ r.2.2.length ≤ 3) (hm : m.length ≤ 4) : (rl ++ [(a, b, m)]).length ≤ 4 ∧ ∀ r ∈ rl ++ [(a, b, m)], r.2.2.length ≤ 4 := by
 refine ⟨by simp; omega, fun r hr => ?_⟩
 rcases List.mem_append.1 hr with hr | hr
 ·exact Nat.le_trans (h.2 r hr).2.2 (by decide)
 ·rw [List.mem_singleton] at hr; rw [hr]; exact hm
end
end Go.Proofs.YthapcdhdfaibkaaGreatDoor
end
