/- A region that draws its order: what only yields in every later world may be taken first; of what turns the world one operation may come up at a time. -/
import Derived.Test.YtnagfcajnbkdoaaSla
namespace Go.Proofs.Ytnagfcajnbkdoaa
open Go.RowKit
set_option linter.unusedVariables false

/-- operation j waits, over whatever many edges, for i -/
def waitsFor (ops : Array Oper) (i : Nat) : Nat → Nat → Bool
  | 0, _ => false
  | f + 1, j => ((ops[j]?).map fun o => o.after.any fun e => Region.binds .any e && (e.on == i || waitsFor ops i f e.on)).getD false
/-- what has come up waits for nothing that has not -/
def Down (ops : Array Oper) (listed : Array Bool) : Prop :=
  ∀ j o, ops[j]? = some o → listed.getD j true = true → ∀ e ∈ o.after, Region.binds .any e = true → listed.getD e.on false = true
theorem Down.waits {ops : Array Oper} {listed : Array Bool} {i : Nat} (hi : listed.getD i true = false) (hd : Down ops listed) :
    ∀ f j, waitsFor ops i f j = true → ∀ o, ops[j]? = some o → ¬ (∀ e ∈ o.after, Region.binds .any e = true → listed.getD e.on false = true) := by
  intro f
  induction f with
  | zero => intro j h; cases h
  | succ f ih =>
    intro j h o ho hall
    simp only [waitsFor, ho, Option.map_some, Option.getD_some] at h
    obtain ⟨e, he, hb⟩ := Array.any_eq_true'.1 h
    simp only [Bool.and_eq_true, Bool.or_eq_true, beq_iff_eq] at hb
    have h1 := hall e he hb.1
    rcases hb.2 with h2 | h2
    · rw [h2] at h1
      rcases Nat.lt_or_ge i listed.size with h' | h'
      · simp [h'] at h1 hi; rw [hi] at h1; cases h1
      · simp [Array.getElem?_eq_none h'] at h1
    · cases hoe : ops[e.on]? with
      | none => cases f <;> simp [waitsFor, hoe] at h2
      | some oe =>
        refine ih e.on h2 oe hoe (hd e.on oe hoe ?_)
        rcases Nat.lt_or_ge e.on listed.size with h' | h'
        · simp [h'] at h1 ⊢; exact h1
        · simp [Array.getElem?_eq_none h']

/-- whatever order is picked; behind a quiet operation the world only has grown -/
def wpQt (P : Program) (ops : Array Oper) (Q : Exit → Act → World → Prop) (qt : Nat → Bool) : Nat → Array Bool → Act → World → Prop
  | 0, listed, a, w => Region.ready .any ops listed = [] ∧ Q .normal a w
  | fuel + 1, listed, a, w =>
    (Region.ready .any ops listed = [] → Q .normal a w) ∧
    ∀ i ∈ Region.ready .any ops listed, wpOp P ops Q i (fun a' w' => (qt i = true → Ext w w') ∧ wpQt P ops Q qt fuel (listed.setIfInBounds i true) a' w') a w
section
variable {P : Program} {Q : Exit → Act → World → Prop} {ops : Array Oper} {qt : Nat → Bool}
theorem wpQt_any : ∀ (fuel : Nat) (listed : Array Bool) (a : Act) (w : World), wpQt P ops Q qt fuel listed a w → wpAny P .any ops Q fuel listed a w
  | 0, _, _, _, h => h
  | fuel + 1, _, _, _, h => ⟨h.1, fun i hi => wpOp_mono (fun a' w' h' => wpQt_any fuel _ a' w' h'.2) (h.2 i hi)⟩
/-- yields v now and in every later world; pure: in every world -/
def YieldsW (P : Program) (ops : Array Oper) (S : World → Prop) (o : Oper) (v : Value) (a : Act) : Prop :=
  (Region.wanted o (yielded ops a.tmps) = true ∧ ∀ w, S w → (execOp a.eval o).run P w = .ok (.value v) w) ∨
  (Region.wanted o (yielded ops a.tmps) = false ∧ v = undef)
theorem YieldsW.wpOp {S : World → Prop} {i : Nat} {o : Oper} {v : Value} {a : Act} (hi : ops[i]? = some o) (hy : YieldsW P ops S o v a)
    {K : Act → World → Prop} {w : World} (hS : S w) (h : K (a.put o.dst v) w) : wpOp P ops Q i K a w := by
  unfold Go.wpOp
  simp only [hi]
  rcases hy with ⟨hw, hv⟩ | ⟨hw, rfl⟩
  · simp only [hw, if_true, Oper.wp, hv w hS, Oper.upon]; exact .inl h
  · simp only [hw, Bool.false_eq_true, if_false]; exact h
theorem YieldsW.of_same {S : World → Prop} {o : Oper} {v : Value} {a a' : Act} (hy : YieldsW P ops S o v a) (he : execOp a'.eval o = execOp a.eval o)
    (hw : Region.wanted o (yielded ops a'.tmps) = Region.wanted o (yielded ops a.tmps)) : YieldsW P ops S o v a' := by
  unfold YieldsW at *
  rw [he, hw]
  exact hy
theorem YieldsW.sub {S S' : World → Prop} {o : Oper} {v : Value} {a : Act} (hy : YieldsW P ops S o v a) (h : ∀ w, S' w → S w) : YieldsW P ops S' o v a :=
  hy.imp (fun ⟨h1, h2⟩ => ⟨h1, fun w hw => h2 w (h w hw)⟩) id
theorem wpOp_putW {S : World → Prop} {j : Nat} {oi oj : Oper} {v : Value} (hj : ops[j]? = some oj) (hap : oi.apart ops oj = true)
    (hsi : ∀ cs b, oi.op ≠ .select cs b) (hsj : ∀ cs b, oj.op ≠ .select cs b)
    (hQ : ∀ c a w, Q (.panic c) (a.put oi.dst v) w → Q (.panic c) a w) {K : Act → World → Prop} {a : Act} {w : World}
    (hy : YieldsW P ops S oi v a) (h : wpOp P ops Q j K (a.put oi.dst v) w) :
    wpOp P ops Q j (fun a' w' => YieldsW P ops S oi v a' ∧ K (a'.put oi.dst v) w') a w := by
  obtain ⟨h1, h2, h3⟩ := Oper.apart_spec hap
  have keep : ∀ (a : Act), YieldsW P ops S oi v a → ∀ u, YieldsW P ops S oi v (a.put oj.dst u) := fun a hy u =>
    hy.of_same (execOp_put oi hsi a oj.dst u h3) (wanted_put oi a oj.dst u h3)
  have keepD : ∀ d, YieldsW P ops S oi v { a with defers := d :: a.defers } := fun d => hy.of_same rfl rfl
  unfold wpOp at *
  simp only [hj] at *
  rw [wanted_put oj a oi.dst v h1] at h
  split
  · rename_i hw
    simp only [hw, if_true] at h
    rcases h with h | ⟨hasks, hlets⟩
    case inr => exact .inr ⟨by unfold Oper.asks at *; rw [execOp_put oj hsj a oi.dst v h1] at hasks; exact hasks, hlets⟩
    refine .inl ?_
    unfold Oper.wp at *
    rw [execOp_put oj hsj a oi.dst v h1] at h
    generalize (execOp a.eval oj).run P w = r at *
    cases r with
    | ok n w' =>
      cases n <;> simp only [Oper.upon] at h ⊢
      case value u => exact ⟨keep a hy u, by rw [← Act.put_comm a v u h2]; exact h⟩
      case skip => exact ⟨keep a hy _, by rw [← Act.put_comm a v undef h2]; exact h⟩
      case defer d =>
        refine ⟨keep _ (keepD d) _, ?_⟩
        rw [← Act.put_comm _ v undef h2, ← Act.put_defers]
        exact h
      case enter f args =>
        refine Calls.mono h fun e w'' he => ?_
        cases e with
        | returned u => exact ⟨keep a hy u, by rw [← Act.put_comm a v u h2]; exact he⟩
        | panicked c => exact hQ _ _ _ he
        | outgrown => exact he
      case row row args => exact Rows.mono h fun u w'' he => ⟨keep a hy u, by rw [← Act.put_comm a v u h2]; exact he⟩
    | halt x w' =>
      cases x <;> simp only [Oper.upon] at h ⊢
      case panic u => exact hQ _ _ _ h
  · rename_i hw
    simp only [hw] at h
    exact ⟨keep a hy _, by rw [← Act.put_comm a v undef h2]; exact h⟩
theorem Down.set {listed : Array Bool} {j : Nat} (hd : Down ops listed) (hr : j ∈ Region.ready .any ops listed) : Down ops (listed.setIfInBounds j true) := by
  obtain ⟨hun, oj, hoj, hall⟩ := mem_ready.1 hr
  intro k o ho hk e he hb
  have mono : listed.getD e.on false = true → (listed.setIfInBounds j true).getD e.on false = true := by
    intro h
    by_cases hj : j = e.on
    · subst hj
      rcases Nat.lt_or_ge e.on listed.size with h' | h'
      · simp [h']
      · simp [Array.getElem?_eq_none h'] at h
    · rw [getD_set_ne false hj]; exact h
  by_cases hkj : j = k
  · subst hkj
    rw [hoj] at ho; cases ho
    exact mono (hall e he hb)
  · rw [getD_set_ne true hkj] at hk
    exact mono (hd k o ho hk e he hb)
/-- The theorem: i may come up; it yields v in every world of S; all that has not come up and does not wait for it leaves the world in S. -/
theorem wpQt_first {S : World → World → Prop} (hSr : ∀ w, S w w) (hSt : ∀ a b c, S a b → S b c → S a c) {i : Nat} {oi : Oper} {v : Value} (hi : ops[i]? = some oi)
    (hsel : ∀ (j : Nat) (o : Oper) cs b, ops[j]? = some o → o.op ≠ .select cs b)
    (hQ : ∀ c a w, Q (.panic c) (a.put oi.dst v) w → Q (.panic c) a w)
    (hq : (∀ j, qt j = true ∨ waitsFor ops i ops.size j = true ∨ ops[j]? = none) ∧ (∀ a b, Ext a b → S a b) ∨ ∀ a b, S a b) :
    ∀ (fuel : Nat) (listed : Array Bool) (a : Act) (w : World), Down ops listed →
      (∀ j oj, ops[j]? = some oj → j ≠ i → listed.getD j true = false → (∀ e ∈ oj.after, Region.binds .any e = true → e.on ≠ i) → oi.apart ops oj = true) →
      i ∈ Region.ready .any ops listed → YieldsW P ops (S w) oi v a →
      wpQt P ops Q qt fuel (listed.setIfInBounds i true) (a.put oi.dst v) w → (qt i = true → Ext w w) → wpQt P ops Q qt (fuel + 1) listed a w := by
  intro fuel
  induction fuel with
  | zero =>
    intro listed a w _ _ hr hy H hE
    refine ⟨fun h => (by rw [h] at hr; cases hr), fun j hj => ?_⟩
    by_cases hji : j = i
    · subst hji; exact hy.wpOp hi (hSr w) ⟨hE, H⟩
    · have := ready_mono hj hji
      rw [H.1] at this
      cases this
  | succ fuel ih =>
    intro listed a w hd hfree hr hy H hE
    refine ⟨fun h => (by rw [h] at hr; cases hr), fun j hj => ?_⟩
    by_cases hji : j = i
    · subst hji; exact hy.wpOp hi (hSr w) ⟨hE, H⟩
    · have h1 := H.2 j (ready_mono hj hji)
      obtain ⟨hjun, oj, hoj, hall⟩ := mem_ready.1 hj
      have hiun := (mem_ready.1 hr).1
      have hnot : ∀ e ∈ oj.after, Region.binds .any e = true → e.on ≠ i := fun e he hb heq => by
        have h1 := hall e he hb
        rw [heq] at h1
        rcases Nat.lt_or_ge i listed.size with h' | h'
        · simp [h'] at hiun h1; rw [hiun] at h1; cases h1
        · simp [Array.getElem?_eq_none h'] at h1
      have hS' : ∀ w', (qt j = true → Ext w w') → S w w' := by
        rcases hq with ⟨hq1, hq2⟩ | hq
        · intro w' h
          rcases hq1 j with h' | h' | h'
          · exact hq2 _ _ (h h')
          · exact absurd hall (Down.waits hiun hd _ j h' oj hoj)
          · rw [h'] at hoj; cases hoj
        · intro w' _; exact hq _ _
      have h2 := wpOp_putW hoj (hfree j oj hoj hji hjun hnot) (fun cs b => hsel i oi cs b hi) (fun cs b => hsel j oj cs b hoj) hQ hy h1
      have hfree' : ∀ k ok, ops[k]? = some ok → k ≠ i → (listed.setIfInBounds j true).getD k true = false →
          (∀ e ∈ ok.after, Region.binds .any e = true → e.on ≠ i) → oi.apart ops ok = true := fun k ok hk hki hun hno => by
        refine hfree k ok hk hki ?_ hno
        by_cases hjk : j = k
        · subst hjk; exact hjun
        · rw [getD_set_ne true hjk] at hun; exact hun
      refine wpOp_mono (fun a' w' h3 => ⟨h3.2.1, ih (listed.setIfInBounds j true) a' w' (hd.set hj) hfree' (ready_mono hr (Ne.symm hji)) (h3.1.sub fun w'' hw => hSt _ _ _ (hS' w' h3.2.1) hw) ?_ (fun _ => Ext.rfl' w')⟩) h2
      rw [Array.setIfInBounds_comm _ _ hji]
      exact h3.2.2
end

/-! ### as entailments -/
def qtOk (ops : Array Oper) (qt : Nat → Bool) (i : Nat) : Bool := (List.range ops.size).all fun j => qt j || waitsFor ops i ops.size j
def downOk (ops : Array Oper) (listed : Array Bool) : Bool :=
  (List.range ops.size).all fun j => match ops[j]? with
    | some o => !listed.getD j true || o.after.all fun e => !Region.binds .any e || listed.getD e.on false
    | none => true
theorem downOk_spec {ops : Array Oper} {listed : Array Bool} (h : downOk ops listed = true) : Down ops listed := by
  intro j o ho hl e he hb
  simp only [downOk, List.all_eq_true, List.mem_range] at h
  have h1 := h j (Array.getElem?_eq_some_iff.1 ho).1
  simp only [ho, hl, Bool.not_true, Bool.false_or] at h1
  have h2 := Array.all_eq_true_iff_forall_mem.1 h1 e he
  simpa [hb] using h2
theorem qtOk_spec {ops : Array Oper} {qt : Nat → Bool} {i : Nat} (h : qtOk ops qt i = true) : ∀ j, qt j = true ∨ waitsFor ops i ops.size j = true ∨ ops[j]? = none := by
  intro j
  simp only [qtOk, List.all_eq_true, List.mem_range] at h
  rcases Nat.lt_or_ge j ops.size with h' | h'
  · have := h j h'
    simp only [Bool.or_eq_true] at this
    rcases this with h1 | h1
    · exact .inl h1
    · exact .inr (.inl h1)
  · exact .inr (.inr (by simp [h']))
/-- all that is asked of the region's shape at a take -/
def takeOk (ops : Array Oper) (qt : Nat → Bool) (pure : Bool) (listed : Array Bool) (i : Nat) : Bool :=
  Region.noSelect ops && Region.free .any ops listed i && (Region.ready .any ops listed).contains i && downOk ops listed && (pure || qtOk ops qt i)

/-- Q's panics do not look at the frame: here it holds of every post that lets no panic by -/
class NoPan (Q : Exit → Act → World → Prop) : Prop where
  out : ∀ c a d v w, Q (.panic c) (Act.put a d v) w → Q (.panic c) a w
instance NoPan.thn {Q : Exit → Act → World → Prop} {K : Act → World → Prop} [h : NoPan Q] : NoPan (Exit.then K Q) := ⟨fun c a d v w x => h.out c a d v w x⟩
instance NoPan.body {P : Program} {fn : Func} {R : Ending → World → Prop} : NoPan (bodyPost P fn R) := ⟨fun c a d v w h => by
  cases d <;> exact h⟩
instance NoPan.blk {Q : Exit → Act → World → Prop} {id : Nat} [h : NoPan Q] : NoPan (Exit.inBlock id Q) := ⟨fun c a d v w x => h.out c a d v w x⟩

section
variable {P : Program} {Q : Exit → Act → World → Prop} {n : Nat} {w0 : World} {L0 : List Nat} {fr : Fr} {H : List HP} {ops : Array Oper} {i : Nat} {qt : Nat → Bool} {fuel : Nat} {listed : Array Bool} {op : Op} {d : Nat} {ty : TypeId} {pos : String} {af : Array Edge} {g : Option (Nat × Bool)} {v : Value}
theorem Hp.drew {w : World} (h : Hp w0 L0 H w) : Hp w0 L0 H { w with drawn := w.drawn + 1 } := by
  obtain ⟨L, hs, hn, hst⟩ := h
  exact ⟨L, hs.stable fun _ _ => rfl, hn, ⟨hst.os, hst.tape, hst.output, hst.size, hst.keep, hst.sub⟩⟩
theorem D.region {id : Nat} (qt : Nat → Bool) (hm : P.follows .mixedOrders = true) (h : Ent n w0 L0 fr H (wpQt P ops Q qt ops.size (Array.replicate ops.size false))) :
    Ent n w0 L0 fr H ((Code.region id ops true).wp P Q) := fun a w h1 h2 =>
  wp_region_any hm (wpQt_any _ _ _ _ (h a _ h1 h2.drew))
theorem D.y (i : Nat) [hQ : NoPan Q] (ho : ops[i]? = some ⟨some d, op, ty, pos, af, g⟩) (hg : gdOf ops fr g = some true) (hd : d < n) (hy : Yd P n w0 L0 fr H op v)
    (hk : takeOk ops qt false listed i = true)
    (h : Ent n w0 L0 ((d, v) :: fr) H (wpQt P ops Q qt fuel (listed.setIfInBounds i true))) : Ent n w0 L0 fr H (wpQt P ops Q qt (fuel + 1) listed) := fun a w h1 h2 => by
  simp only [takeOk, Bool.and_eq_true, Bool.or_eq_true, Bool.false_eq_true, false_or] at hk
  obtain ⟨⟨⟨⟨k1, k2⟩, k3⟩, k4⟩, k5⟩ := hk
  refine wpQt_first (S := fun a b => Ext a b) (oi := ⟨some d, op, ty, pos, af, g⟩) (v := v) (fun w => Ext.rfl' w) (fun _ _ _ h k => h.trans k) ho (Region.noSelect_spec k1) (fun c a w => hQ.out c a _ _ w)
    (.inl ⟨qtOk_spec k5, fun _ _ h => h⟩) fuel listed a w (downOk_spec k4) (Region.free_spec ho k2) (by simpa using k3) (.inl ⟨gdOf_wanted (o := ⟨some d, op, ty, pos, af, g⟩) h1 hg, fun w' hw => hy a w h1 h2 w' hw _ _ _ _ _⟩) (h _ _ (h1.put hd v) h2) (fun _ => Ext.rfl' w)
theorem D.yp (i : Nat) [hQ : NoPan Q] (ho : ops[i]? = some ⟨some d, op, ty, pos, af, g⟩) (hg : gdOf ops fr g = some true) (hd : d < n) (hy : Yp P n fr op v)
    (hk : takeOk ops qt true listed i = true)
    (h : Ent n w0 L0 ((d, v) :: fr) H (wpQt P ops Q qt fuel (listed.setIfInBounds i true))) : Ent n w0 L0 fr H (wpQt P ops Q qt (fuel + 1) listed) := fun a w h1 h2 => by
  simp only [takeOk, Bool.and_eq_true, Bool.or_eq_true, true_or] at hk
  obtain ⟨⟨⟨⟨k1, k2⟩, k3⟩, k4⟩, _⟩ := hk
  refine wpQt_first (S := fun _ _ => True) (oi := ⟨some d, op, ty, pos, af, g⟩) (v := v) (fun w => trivial) (fun _ _ _ _ _ => trivial) ho (Region.noSelect_spec k1) (fun c a w => hQ.out c a _ _ w)
    (.inr fun _ _ => trivial) fuel listed a w (downOk_spec k4) (Region.free_spec ho k2) (by simpa using k3) (.inl ⟨gdOf_wanted (o := ⟨some d, op, ty, pos, af, g⟩) h1 hg, fun w' _ => hy a h1 w' _ _ _ _ _⟩) (h _ _ (h1.put hd v) h2) (fun _ => Ext.rfl' w)
theorem D.skip (i : Nat) {dst : Option Tmp} [hQ : NoPan Q] (ho : ops[i]? = some ⟨dst, op, ty, pos, af, g⟩) (hg : gdOf ops fr g = some false)
    (hk : takeOk ops qt true listed i = true) (hfr : (dst.bind fun d' => fr.lookup d') = none)
    (h : Ent n w0 L0 fr H (wpQt P ops Q qt fuel (listed.setIfInBounds i true))) : Ent n w0 L0 fr H (wpQt P ops Q qt (fuel + 1) listed) := fun a w h1 h2 => by
  simp only [takeOk, Bool.and_eq_true, Bool.or_eq_true, true_or] at hk
  obtain ⟨⟨⟨⟨k1, k2⟩, k3⟩, k4⟩, _⟩ := hk
  refine wpQt_first (S := fun _ _ => True) (oi := ⟨dst, op, ty, pos, af, g⟩) (v := undef) (fun w => trivial) (fun _ _ _ _ _ => trivial) ho (Region.noSelect_spec k1) (fun c a w => hQ.out c a _ _ w)
    (.inr fun _ _ => trivial) fuel listed a w (downOk_spec k4) (Region.free_spec ho k2) (by simpa using k3) (.inr ⟨gdOf_wanted (o := ⟨dst, op, ty, pos, af, g⟩) h1 hg, rfl⟩) ?_ (fun _ => Ext.rfl' w)
  cases dst with
  | none => exact h _ _ h1 h2
  | some d' =>
    refine h _ _ ⟨by simp [Act.put, h1.size], h1.defers, fun i v hi => ?_⟩ h2
    simp only [Act.put, Array.getElem?_setIfInBounds]
    rw [if_neg (fun e => by subst e; simp only [Option.bind_some] at hfr; rw [hfr] at hi; cases hi)]
    exact h1.get i v hi
theorem D.sku (i : Nat) [hQ : NoPan Q] (ho : ops[i]? = some ⟨some d, op, ty, pos, af, g⟩) (hg : gdOf ops fr g = some false) (hd : d < n)
    (hk : takeOk ops qt true listed i = true)
    (h : Ent n w0 L0 ((d, .tuple #[]) :: fr) H (wpQt P ops Q qt fuel (listed.setIfInBounds i true))) : Ent n w0 L0 fr H (wpQt P ops Q qt (fuel + 1) listed) := fun a w h1 h2 => by
  simp only [takeOk, Bool.and_eq_true, Bool.or_eq_true, true_or] at hk
  obtain ⟨⟨⟨⟨k1, k2⟩, k3⟩, k4⟩, _⟩ := hk
  exact wpQt_first (S := fun _ _ => True) (oi := ⟨some d, op, ty, pos, af, g⟩) (v := undef) (fun w => trivial) (fun _ _ _ _ _ => trivial) ho (Region.noSelect_spec k1) (fun c a w => hQ.out c a _ _ w)
    (.inr fun _ _ => trivial) fuel listed a w (downOk_spec k4) (Region.free_spec ho k2) (by simpa using k3) (.inr ⟨gdOf_wanted (o := ⟨some d, op, ty, pos, af, g⟩) h1 hg, rfl⟩) (h _ _ (h1.put hd _) h2) (fun _ => Ext.rfl' w)
/-- the one that may come up now turns the world -/
theorem D.st (i : Nat) {dst : Option Tmp} {κ : Type} {fr' : κ → Fr} {H' : κ → List HP} {φ : κ → Prop} {q : Bool} (ho : ops[i]? = some ⟨dst, op, ty, pos, af, g⟩) (hg : gdOf ops fr g = some true)
    (hr : Region.ready .any ops listed = [i]) (hqt : (qt i = true → q = true))
    (hn : Nop P Q n w0 L0 fr H ⟨dst, op, ty, pos, af, g⟩ q fr' H' φ) (h : ∀ k, φ k → Ent n w0 L0 (fr' k) (H' k) (wpQt P ops Q qt fuel (listed.setIfInBounds i true))) : Ent n w0 L0 fr H (wpQt P ops Q qt (fuel + 1) listed) := fun a w h1 h2 => by
  refine ⟨fun h => absurd (hr ▸ h) (by simp), fun j hj => ?_⟩
  rw [hr] at hj
  simp only [List.mem_singleton] at hj
  subst hj
  rw [wpOp]
  simp only [ho]
  rw [gdOf_wanted (o := ⟨dst, op, ty, pos, af, g⟩) h1 hg, if_pos rfl]
  exact .inl (hn (fun w a' w' => (qt j = true → Ext w w') ∧ wpQt P ops Q qt fuel (listed.setIfInBounds j true) a' w') (fun k hk w a' w' h3 h4 h5 => ⟨fun hq => h5 (hqt hq), h k hk a' w' h3 h4⟩) a w h1 h2)
theorem D.done (hr : Region.ready .any ops listed = []) (h : Ent n w0 L0 fr H (Q .normal)) : Ent n w0 L0 fr H (wpQt P ops Q qt fuel listed) := fun a w h1 h2 => by
  cases fuel with
  | zero => exact ⟨hr, h a w h1 h2⟩
  | succ f => exact ⟨fun _ => h a w h1 h2, by rw [hr]; simp⟩
end
end Go.Proofs.Ytnagfcajnbkdoaa
