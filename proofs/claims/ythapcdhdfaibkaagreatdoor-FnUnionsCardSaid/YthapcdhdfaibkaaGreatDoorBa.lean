import Derived.WalkKit
import Derived.Orders
namespace Go.Proofs.YthapcdhdfaibkaaGreatDoor
theorem Z {α : Sort _} {a : α} : a = a := rfl
abbrev IL:=Int×List Int
open Go.RowKit

abbrev Fr:=List (Nat×Value)
structure Fr.ok (n:Nat) (fr:Fr) (a:Act):Prop where
 size:a.tmps.size=n
 defers:a.defers=[]
 get:∀i v,fr.lookup i=some v→a.tmps[i]? =some v
def ev (fr:Fr):Operand→Option Value
 | .tmp t=>fr.lookup t
 | .const v=>some v
 | .global g=>some (.pointer (some ⟨g,0,none⟩))
 | .func f=>some (.func (.func f) #[] #[])
theorem Fr.ok.ev {n:Nat} {fr:Fr} {a:Act} {x:Operand} {v:Value} (h:Fr.ok n fr a) (hx:ev fr x=some v):a.eval x=v:=by
 cases x<;>simp only[Go.Proofs.YthapcdhdfaibkaaGreatDoor.ev,Option.some.injEq] at hx
 case tmp t=>
  obtain ⟨h1,h2⟩:=Array.getElem?_eq_some_iff.1 (h.get t v hx)
  simp[Act.eval,Array.getD,h1,h2]
 all_goals (subst hx;rfl)
theorem Fr.ok.put {n:Nat} {fr:Fr} {a:Act} (h:Fr.ok n fr a) {d:Nat} (hd:d<n) (v:Value):Fr.ok n ((d,v)::fr) (a.put (some d) v):=by
 refine ⟨by simp[Act.put,h.size],h.defers,λi u hi=>?_⟩
 simp only[Act.put,Array.getElem?_setIfInBounds,h.size]
 rw[List.lookup_cons] at hi
 by_cases e:i=d
 ·subst e;simp at hi;subst hi;simp[hd]
 ·have:(i==d)=false:=by simp[e]
  rw[this] at hi
  rw[if_neg (λh=>e h.symm)]
  exact h.get i u hi
def Fr.sub:Fr→Fr→Prop
 |[],_=>True
 |p::r,fr=>fr.lookup p.1=some p.2∧Fr.sub r fr
theorem Fr.sub.get:∀{fr' fr:Fr},Fr.sub fr' fr→∀i v,fr'.lookup i=some v→fr.lookup i=some v
 |[],_,_,_,_,h=>by cases h
 |p::r,fr,⟨h1,h2⟩,i,v,h=>by
  rw[List.lookup_cons] at h
  by_cases e:i=p.1
  ·subst e;simp at h;subst h;exact h1
  ·have:(i==p.1)=false:=by simp[e]
   rw[this] at h
   exact Fr.sub.get h2 i v h
theorem Fr.ok.weak {n:Nat} {fr fr0:Fr} {a:Act} (h:Fr.ok n fr0 a) (hs:∀i v,fr.lookup i=some v→fr0.lookup i=some v):Fr.ok n fr a:=
 ⟨h.size,h.defers,λi v hi=>h.get i v (hs i v hi)⟩

structure HP where
 holds:World→List Nat→Prop
 stable:∀{w w':World} {L:List Nat},holds w L→(∀b∈L,w'.heap[b]? =w.heap[b]?)→holds w' L
 inh:∀{w:World} {L:List Nat},holds w L→∀b∈L,b<w.heap.size
def Sep:List HP→World→List Nat→Prop
 |[],_,L=>L=[]
 |h::hs,w,L=>∃L1 L2,L=L1++L2∧h.holds w L1∧Sep hs w L2
theorem Sep.stable {H:List HP}:∀{w w':World} {L:List Nat},Sep H w L→(∀b∈L,w'.heap[b]? =w.heap[b]?)→Sep H w' L:=by
 induction H with
 |nil=>intro w w' L h _;exact h
 |cons h hs ih=>
  rintro w w' L ⟨L1,L2,rfl,h1,h2⟩ hb
  exact ⟨L1,L2,Z,h.stable h1 λb hm=>hb b (by simp[hm]),ih h2 λb hm=>hb b (by simp[hm])⟩
theorem Sep.inh {H:List HP}:∀{w:World} {L:List Nat},Sep H w L→∀b∈L,b<w.heap.size:=by
 induction H with
 |nil=>intro w L h b hb;rw[Sep] at h;subst h;cases hb
 |cons h hs ih=>
  rintro w L ⟨L1,L2,rfl,h1,h2⟩ b hb
  rcases List.mem_append.1 hb with hb|hb
  ·exact h.inh h1 b hb
  ·exact ih h2 b hb
theorem Sep.append {A B:List HP}:∀{w:World} {L:List Nat},Sep (A++B) w L↔ ∃L1 L2,L=L1++L2∧Sep A w L1∧Sep B w L2:=by
 induction A with
 |nil=>
  intro w L
  constructor
  ·intro h;exact ⟨[],L,Z,Z,h⟩
  ·rintro ⟨L1,L2,rfl,h1,h2⟩;rw[Sep] at h1;subst h1;exact h2
 |cons h hs ih=>
  intro w L
  constructor
  ·rintro ⟨L1,L2,rfl,h1,h2⟩
   obtain ⟨M1,M2,rfl,h3,h4⟩:=ih.1 h2
   exact ⟨L1++M1,M2,by simp,⟨L1,M1,Z,h1,h3⟩,h4⟩
  ·rintro ⟨L1,L2,rfl,⟨M1,M2,rfl,h1,h3⟩,h2⟩
   exact ⟨M1,M2++L2,by simp,h1,ih.2 ⟨M2,L2,Z,h3,h2⟩⟩

structure Step (w0:World) (L0:List Nat) (w:World) (L:List Nat):Prop where
 os:w.os=w0.os
 tape:w.tape=w0.tape
 output:w.output=w0.output
 size:w0.heap.size≤w.heap.size
 keep:∀b,b<w0.heap.size→b∉L0→w.heap[b]? =w0.heap[b]?
 sub:∀b∈L,b∈L0∨w0.heap.size≤b
theorem Step.refl (w:World) (L:List Nat):Step w L w L:=⟨Z,Z,Z,Nat.le_refl _,λ_ _ _=>rfl,λ_ h=>.inl h⟩
theorem Step.below {w0 w:World} {L:List Nat} (h:Step w0 [] w L):Below w0.heap.size w0 w:=
 ⟨h.os,h.tape,h.output,h.size,λk hk=>h.keep k hk (by simp)⟩
abbrev Ext (w w':World):Prop:=Below w.heap.size w w'
theorem Ext.trans {a b c:World} (h:Ext a b) (k:Ext b c):Ext a c:=Below.trans h (k.mono h.size)
theorem a0T (w:World):Ext w w:=Below.refl _ _
theorem Step.call {w0 w w':World} {L0 Lp Lr Lp':List Nat} (h:Step w0 L0 w (Lp++Lr)) (hn:(Lp++Lr).Nodup) (hr:∀b∈Lr,b<w.heap.size)
  (k:Step w Lp w' Lp') (hn':Lp'.Nodup):Step w0 L0 w' (Lp'++Lr)∧(Lp'++Lr).Nodup∧(∀b∈Lr,w'.heap[b]? =w.heap[b]?):=by
 have hdis:∀b∈Lr,b∉Lp:=λb hb hp=>(List.nodup_append.1 hn).2.2 b hp b hb Z
 refine ⟨⟨k.os.trans h.os,k.tape.trans h.tape,k.output.trans h.output,Nat.le_trans h.size k.size,λb hb h0=>?_,λb hb=>?_⟩,?_,λb hb=>k.keep b (hr b hb) (hdis b hb)⟩
 ·refine (k.keep b (Nat.lt_of_lt_of_le hb h.size) λhp=>?_).trans (h.keep b hb h0)
  rcases h.sub b (by simp[hp]) with h1|h1
  ·exact h0 h1
  ·omega
 ·rcases List.mem_append.1 hb with hb|hb
  ·rcases k.sub b hb with h1|h1
   ·exact h.sub b (by simp[h1])
   ·exact .inr (Nat.le_trans h.size h1)
  ·exact h.sub b (by simp[hb])
 ·refine List.nodup_append.2 ⟨hn',(List.nodup_append.1 hn).2.1,λa ha b hb e=>?_⟩
  subst e
  rcases k.sub a ha with h1|h1
  ·exact hdis a hb h1
  ·have:=hr a hb;omega

def Hp (w0:World) (L0:List Nat) (H:List HP) (w:World):Prop:=∃L,Sep H w L∧L.Nodup∧Step w0 L0 w L
theorem Hp.step {w0 w:World} {L0:List Nat} {H:List HP} (h:Hp w0 L0 H w):∃L,Step w0 L0 w L:=let ⟨L,_,_,s⟩:=h;⟨L,s⟩

def Ent (n:Nat) (w0:World) (L0:List Nat) (fr:Fr) (H:List HP) (G:Act→World→Prop):Prop:=
 ∀a w,Fr.ok n fr a→Hp w0 L0 H w→G a w

section
variable {n:Nat} {w0:World} {L0:List Nat} {fr fr':Fr} {H H':List HP} {G G':Act→World→Prop}
theorem Ent.mono (h:Ent n w0 L0 fr H G) (hg:∀a w,G a w→G' a w):Ent n w0 L0 fr H G':=λa w h1 h2=>hg a w (h a w h1 h2)
theorem Ent.weak (hs:∀i v,fr'.lookup i=some v→fr.lookup i=some v) (h:Ent n w0 L0 fr' H G):Ent n w0 L0 fr H G:=
 λa w h1 h2=>h a w (h1.weak hs) h2
theorem Hp.perm {w:World} (hp:H.Perm H'):Hp w0 L0 H w→Hp w0 L0 H' w:=by
 rintro ⟨L,hs,hn,hst⟩
 have:∃L',Sep H' w L'∧L.Perm L':=by
  clear hn hst
  induction hp generalizing L with
  |nil=>exact ⟨L,hs,.refl _⟩
  |cons x _ ih=>
   obtain ⟨L1,L2,rfl,h1,h2⟩:=hs
   obtain ⟨L',h3,h4⟩:=ih _ h2
   exact ⟨L1++L',⟨L1,L',Z,h1,h3⟩,h4.append_left L1⟩
  |swap x y l=>
   obtain ⟨L1,L2,rfl,h1,M1,M2,rfl,h2,h3⟩:=hs
   exact ⟨M1++(L1++M2),⟨M1,L1++M2,Z,h2,L1,M2,Z,h1,h3⟩,by
    rw[←List.append_assoc, ←List.append_assoc];exact List.perm_append_comm.append_right M2⟩
  |trans _ _ ih1 ih2=>
   obtain ⟨L',h3,h4⟩:=ih1 _ hs
   obtain ⟨L'',h5,h6⟩:=ih2 _ h3
   exact ⟨L'',h5,h4.trans h6⟩
 obtain ⟨L',h1,h2⟩:=this
 exact ⟨L',h1,h2.nodup_iff.1 hn,⟨hst.os,hst.tape,hst.output,hst.size,hst.keep,λb hb=>hst.sub b (h2.mem_iff.2 hb)⟩⟩
theorem Ent.perm (hp:H.Perm H') (h:Ent n w0 L0 fr H' G):Ent n w0 L0 fr H G:=λa w h1 h2=>h a w h1 (h2.perm hp)
theorem Hp.tail {w:World} {h:HP} (x:Hp w0 L0 (h::H) w):Hp w0 L0 H w:=by
 obtain ⟨L,⟨L1,L2,rfl,h1,h2⟩,hn,hst⟩:=x
 exact ⟨L2,h2,(List.nodup_append.1 hn).2.1,⟨hst.os,hst.tape,hst.output,hst.size,hst.keep,λb hb=>hst.sub b (by simp[hb])⟩⟩
theorem Ent.drop {h:HP} (x:Ent n w0 L0 fr H G):Ent n w0 L0 fr (h::H) G:=λa w h1 h2=>x a w h1 h2.tail
theorem d8 {A B:HP} (x:Ent n w0 L0 fr (B::A::H) G):Ent n w0 L0 fr (A::B::H) G:=Ent.perm (.swap _ _ _) x
theorem i9 {A B C:HP} (x:Ent n w0 L0 fr (C::A::B::H) G):Ent n w0 L0 fr (A::B::C::H) G:=
 Ent.perm (((List.Perm.swap _ _ _).cons A).trans (.swap _ _ _)) x
theorem n0 {A B C D:HP} (x:Ent n w0 L0 fr (D::A::B::C::H) G):Ent n w0 L0 fr (A::B::C::D::H) G:=
 Ent.perm ((((List.Perm.swap _ _ _).cons B).trans (.swap _ _ _)).cons A|>.trans (.swap _ _ _)) x
theorem s6 {A B C D E:HP} (x:Ent n w0 L0 fr (E::A::B::C::D::H) G):Ent n w0 L0 fr (A::B::C::D::E::H) G:=
 Ent.perm (((((List.Perm.swap _ _ _).cons C).trans (.swap _ _ _)).cons B|>.trans (.swap _ _ _)).cons A|>.trans (.swap _ _ _)) x
theorem u6 {A B C D E F:HP} (x:Ent n w0 L0 fr (F::A::B::C::D::E::H) G):Ent n w0 L0 fr (A::B::C::D::E::F::H) G:=
 Ent.perm ((((((List.Perm.swap _ _ _).cons D).trans (.swap _ _ _)).cons C|>.trans (.swap _ _ _)).cons B|>.trans (.swap _ _ _)).cons A|>.trans (.swap _ _ _)) x
theorem s4 {A B C D E F K:HP} (x:Ent n w0 L0 fr (K::A::B::C::D::E::F::H) G):Ent n w0 L0 fr (A::B::C::D::E::F::K::H) G:=
 Ent.perm (((((((List.Perm.swap _ _ _).cons E).trans (.swap _ _ _)).cons D|>.trans (.swap _ _ _)).cons C|>.trans (.swap _ _ _)).cons B|>.trans (.swap _ _ _)).cons A|>.trans (.swap _ _ _)) x
theorem Ent.b {d:Nat} {b:Bool} (ht:b=true→Ent n w0 L0 ((d,.bool true)::fr) H G) (hf:b=false→Ent n w0 L0 ((d,.bool false)::fr) H G):Ent n w0 L0 ((d,.bool b)::fr) H G:=by
 cases b
 ·exact hf Z
 ·exact ht Z
theorem l3 {d:Nat} {p:Prop} [Decidable p] (ht:p→Ent n w0 L0 ((d,.bool true)::fr) H G) (hf:¬p→Ent n w0 L0 ((d,.bool false)::fr) H G):Ent n w0 L0 ((d,.bool (decide p))::fr) H G:=by
 by_cases h:p
 ·rw[decide_eq_true h];exact ht h
 ·rw[decide_eq_false h];exact hf h
end

def Yd (P:Program) (n:Nat) (w0:World) (L0:List Nat) (fr:Fr) (H:List HP) (op:Op) (v:Value):Prop:=
 ∀a w,Fr.ok n fr a→Hp w0 L0 H w→∀w',Ext w w'→∀d t p af g,(execOp a.eval ⟨d,op,t,p,af,g⟩).run P w'= .ok (.value v) w'
def Yp (P:Program) (n:Nat) (fr:Fr) (op:Op) (v:Value):Prop:=
 ∀a,Fr.ok n fr a→∀w',∀d t p af g,(execOp a.eval ⟨d,op,t,p,af,g⟩).run P w'= .ok (.value v) w'
theorem Yp.yd {P:Program} {n:Nat} {w0:World} {L0:List Nat} {fr:Fr} {H:List HP} {op:Op} {v:Value} (h:Yp P n fr op v):Yd P n w0 L0 fr H op v:=
 λa _ h1 _ w' _=>h a h1 w'
def Nop (P:Program) (Q:Exit→Act→World→Prop) (n:Nat) (w0:World) (L0:List Nat) (fr:Fr) (H:List HP) (o:Oper) (q:Bool) {κ:Type} (fr':κ→Fr) (H':κ→List HP) (φ:κ→Prop):Prop:=
 ∀K:World→Act→World→Prop,(∀k,φ k→∀w a' w',Fr.ok n (fr' k) a'→Hp w0 L0 (H' k) w'→(q=true→Ext w w')→K w a' w')→
  ∀a w,Fr.ok n fr a→Hp w0 L0 H w→o.wp P a w (K w) Q

def N6 (ops:Array Oper) (fr:Fr):Option (Nat×Bool)→Option Bool
 |none=>some true
 |some (j,want)=>match (ops[j]?).bind (·.dst) with
  |some d=>match fr.lookup d with
   |some (.bool b)=>some (b==want)
   |some (.tuple _)=>some false
   |_=>none
  |none=>none
theorem Q8 {n:Nat} {ops:Array Oper} {fr:Fr} {a:Act} {o:Oper} {b:Bool} (h:Fr.ok n fr a) (hg:N6 ops fr o.guard=some b):Region.wanted o (yielded ops a.tmps)=b:=by
 unfold N6 at hg
 unfold Region.wanted
 cases e:o.guard with
 |none=>simp only[e] at hg ⊢;simpa using hg
 |some p=>
  obtain ⟨j,want⟩:=p
  simp only[e] at hg ⊢
  split at hg
  ·rename_i d hd
   split at hg
   ·rename_i b' hb'
    simp only[yielded,hd,Option.bind_some,h.get d _ hb']
    simpa using hg
   ·rename_i vs hb'
    simp only[yielded,hd,Option.bind_some,h.get d _ hb']
    simpa using hg
   ·cases hg
  ·cases hg

section
variable {P:Program} {Q:Exit→Act→World→Prop} {n:Nat} {w0:World} {L0:List Nat} {fr:Fr} {H:List HP} {ops:Array Oper} {i:Nat} {rest:List Nat} {op:Op} {d:Nat} {ty:TypeId} {pos:String} {af:Array Edge} {g:Option (Nat×Bool)} {v:Value}
theorem E.nil (h:Ent n w0 L0 fr H (Q .normal)):Ent n w0 L0 fr H (wpOps P ops Q []):=h
theorem E.y (ho:ops[i]? =some ⟨some d,op,ty,pos,af,g⟩) (hg:N6 ops fr g=some true) (hd:d<n) (hy:Yd P n w0 L0 fr H op v)
  (h:Ent n w0 L0 ((d,v)::fr) H (wpOps P ops Q rest)):Ent n w0 L0 fr H (wpOps P ops Q (i::rest)):=λa w h1 h2=>by
 rw[wpOps_cons,wpOp]
 simp only[ho]
 rw[Q8 (o:=⟨some d,op,ty,pos,af,g⟩) h1 hg,if_pos Z]
 refine .inl ?_
 rw[Oper.wp,hy a w h1 h2 w (a0T w)]
 exact h _ _ (h1.put hd v) h2
theorem E.skip {dst:Option Tmp} (ho:ops[i]? =some ⟨dst,op,ty,pos,af,g⟩) (hg:N6 ops fr g=some false) (hfr:(dst.bind λd'=>fr.lookup d')=none)
  (h:Ent n w0 L0 fr H (wpOps P ops Q rest)):Ent n w0 L0 fr H (wpOps P ops Q (i::rest)):=λa w h1 h2=>by
 rw[wpOps_cons,wpOp]
 simp only[ho]
 rw[Q8 (o:=⟨dst,op,ty,pos,af,g⟩) h1 hg,if_neg (by simp)]
 cases dst with
 |none=>exact h _ _ h1 h2
 |some d'=>
  refine h _ _ ⟨by simp[Act.put,h1.size],h1.defers,λi v hi=>?_⟩ h2
  simp only[Act.put,Array.getElem?_setIfInBounds]
  rw[if_neg (λe=>by subst e;simp only[Option.bind_some] at hfr;rw[hfr] at hi;cases hi)]
  exact h1.get i v hi
theorem c6E (ho:ops[i]? =some ⟨some d,op,ty,pos,af,g⟩) (hg:N6 ops fr g=some false) (hd:d<n)
  (h:Ent n w0 L0 ((d,.tuple #[])::fr) H (wpOps P ops Q rest)):Ent n w0 L0 fr H (wpOps P ops Q (i::rest)):=λa w h1 h2=>by
 rw[wpOps_cons,wpOp]
 simp only[ho]
 rw[Q8 (o:=⟨some d,op,ty,pos,af,g⟩) h1 hg,if_neg (by simp)]
 exact h _ _ (h1.put hd _) h2
theorem c0J {dst:Option Tmp} {κ:Type} {fr':κ→Fr} {H':κ→List HP} {φ:κ→Prop} {q:Bool} (ho:ops[i]? =some ⟨dst,op,ty,pos,af,g⟩) (hg:N6 ops fr g=some true)
  (hn:Nop P Q n w0 L0 fr H ⟨dst,op,ty,pos,af,g⟩ q fr' H' φ) (h:∀k,φ k→Ent n w0 L0 (fr' k) (H' k) (wpOps P ops Q rest)):Ent n w0 L0 fr H (wpOps P ops Q (i::rest)):=λa w h1 h2=>by
 rw[wpOps_cons,wpOp]
 simp only[ho]
 rw[Q8 (o:=⟨dst,op,ty,pos,af,g⟩) h1 hg,if_pos Z]
 exact .inl (hn (λ_=>wpOps P ops Q rest) (λk hk _ a' w' h3 h4 _=>h k hk a' w' h3 h4) a w h1 h2)

theorem E.region {id:Nat} {l:List Nat} (hl:List.range ops.size=l) (h:Ent n w0 L0 fr H (wpOps P ops Q l)):Ent n w0 L0 fr H ((Code.region id ops false).wp P Q):=λa w h1 h2=>
 wp_region (hl▸h a w h1 h2)
theorem E.seq {x y:Code} (h:Ent n w0 L0 fr H (x.wp P (Exit.then (y.wp P Q) Q))):Ent n w0 L0 fr H ((Code.seq x y).wp P Q):=λa w h1 h2=>wp_seq (h a w h1 h2)
theorem v6 (h:Ent n w0 L0 fr H (Q .normal)):Ent n w0 L0 fr H (Code.skip.wp P Q):=λa w h1 h2=>wp_skip (h a w h1 h2)
theorem E.exit {id:Nat} (h:Ent n w0 L0 fr H (Q (.exit id))):Ent n w0 L0 fr H ((Code.exit id).wp P Q):=λa w h1 h2=>wp_exit (h a w h1 h2)
theorem E.ret (h:Ent n w0 L0 fr H (Q .ret)):Ent n w0 L0 fr H (Code.ret.wp P Q):=λa w h1 h2=>wp_ret (h a w h1 h2)
theorem E.block {id:Nat} {c:Code} (h:Ent n w0 L0 fr H (c.wp P (Exit.inBlock id Q))):Ent n w0 L0 fr H ((Code.block id c).wp P Q):=λa w h1 h2=>wp_block (h a w h1 h2)
theorem r9 {c:Operand} {x y:Code} (hc:ev fr c=some (.bool true)) (h:Ent n w0 L0 fr H (x.wp P Q)):Ent n w0 L0 fr H ((Code.cond c x y).wp P Q):=λa w h1 h2=>
 wp_cond_true (h1.ev hc) (h a w h1 h2)
theorem r8 {c:Operand} {x y:Code} (hc:ev fr c=some (.bool false)) (h:Ent n w0 L0 fr H (y.wp P Q)):Ent n w0 L0 fr H ((Code.cond c x y).wp P Q):=λa w h1 h2=>
 wp_cond_false (h1.ev hc) (h a w h1 h2)
theorem b7S {K:Act→World→Prop} (h:Ent n w0 L0 fr H K):Ent n w0 L0 fr H (Exit.then K Q .normal):=h
theorem l2 {K:Act→World→Prop} {id:Nat} (h:Ent n w0 L0 fr H (Q (.exit id))):Ent n w0 L0 fr H (Exit.then K Q (.exit id)):=h
theorem a5h {K:Act→World→Prop} (h:Ent n w0 L0 fr H (Q .ret)):Ent n w0 L0 fr H (Exit.then K Q .ret):=h
theorem o6 {id:Nat} (h:Ent n w0 L0 fr H (Q .normal)):Ent n w0 L0 fr H (Exit.inBlock id Q .normal):=h
theorem v7 {id:Nat} (h:Ent n w0 L0 fr H (Q .ret)):Ent n w0 L0 fr H (Exit.inBlock id Q .ret):=h
theorem E.ble {id id':Nat} {G:Act→World→Prop} (hg:Exit.inBlock id Q (.exit id')=G) (h:Ent n w0 L0 fr H G):Ent n w0 L0 fr H (Exit.inBlock id Q (.exit id')):=hg▸h
theorem u4 {id:Nat} (h:Ent n w0 L0 fr H (Q .normal)):Ent n w0 L0 fr H (Exit.inBlock id Q (.exit id)):=λa w h1 h2=>by
 show (if id=id then Q .normal a w else _);rw[if_pos Z];exact h a w h1 h2
theorem c4V {id id':Nat} (hne:(Nat.beq id' id)=false) (h:Ent n w0 L0 fr H (Q (.exit id'))):Ent n w0 L0 fr H (Exit.inBlock id Q (.exit id')):=λa w h1 h2=>by
 show (if id'=id then _ else Q (.exit id') a w);rw[if_neg (Nat.ne_of_beq_eq_false hne)];exact h a w h1 h2
theorem E.loop {c:Code} {κ:Type} (φ:κ→Prop) (frk:κ→Fr) (Hk:κ→List HP) (μ:κ→Nat) (k0:κ) (h0:φ k0)
  (hfr:Fr.sub (frk k0) fr) (hH:H.Perm (Hk k0))
  (round:∀k,φ k→Ent n w0 L0 (frk k) (Hk k) (c.wp P (Exit.then (λa w=>∃k',φ k'∧Fr.ok n (frk k') a∧Hp w0 L0 (Hk k') w∧μ k'<μ k) Q))):
  Ent n w0 L0 fr H ((Code.loop c).wp P Q):=λa w h1 h2=>by
 have key:∀m,∀k,μ k≤m→φ k→∀a w,Fr.ok n (frk k) a→Hp w0 L0 (Hk k) w→(Code.loop c).wp P Q a w:=by
  intro m
  intro k hm hk a w h1 h2
  refine wp_loop (λa w=>∃k,φ k∧Fr.ok n (frk k) a∧Hp w0 L0 (Hk k) w) (λa w=> @Classical.epsilon Nat ⟨0⟩ λj=>(∃k,φ k∧Fr.ok n (frk k) a∧Hp w0 L0 (Hk k) w∧μ k=j)∧∀k,φ k→Fr.ok n (frk k) a→Hp w0 L0 (Hk k) w→j≤μ k) ⟨k,hk,h1,h2⟩ ?_
  rintro a w ⟨k,hk,h1,h2⟩
  have a8Y:∀a w,(∃k,φ k∧Fr.ok n (frk k) a∧Hp w0 L0 (Hk k) w)→∃j,(∃k,φ k∧Fr.ok n (frk k) a∧Hp w0 L0 (Hk k) w∧μ k=j)∧∀k,φ k→Fr.ok n (frk k) a→Hp w0 L0 (Hk k) w→j≤μ k:=by
   rintro a w ⟨k,hk,h1,h2⟩
   have:∀m,∀k,μ k≤m→φ k→Fr.ok n (frk k) a→Hp w0 L0 (Hk k) w→∃j,(∃k,φ k∧Fr.ok n (frk k) a∧Hp w0 L0 (Hk k) w∧μ k=j)∧∀k,φ k→Fr.ok n (frk k) a→Hp w0 L0 (Hk k) w→j≤μ k:=by
    intro m
    induction m with
    |zero=>intro k hm hk h1 h2;exact ⟨0,⟨k,hk,h1,h2,by omega⟩,λ_ _ _ _=>Nat.zero_le _⟩
    |succ m ih=>
     intro k hm hk h1 h2
     by_cases hx:∃k',φ k'∧Fr.ok n (frk k') a∧Hp w0 L0 (Hk k') w∧μ k'<μ k
     ·obtain ⟨k',a1,a2,a3,a4⟩:=hx
      exact ih k' (by omega) a1 a2 a3
     ·exact ⟨μ k,⟨k,hk,h1,h2,Z⟩,λk' a1 a2 a3=>Nat.le_of_not_lt λh=>hx ⟨k',a1,a2,a3,h⟩⟩
   exact this _ k (Nat.le_refl _) hk h1 h2
  obtain ⟨⟨k1,b1,b2,b3,b4⟩,b5⟩:=Classical.epsilon_spec (a8Y a w ⟨k,hk,h1,h2⟩)
  refine Code.wp_mono (λe a' w' q=>?_) (round k1 b1 a w b2 b3)
  cases e<;>try exact q
  obtain ⟨k',c1,c2,c3,c4⟩:=q
  obtain ⟨_,d5⟩:=Classical.epsilon_spec (a8Y a' w' ⟨k',c1,c2,c3⟩)
  exact ⟨⟨k',c1,c2,c3⟩,Nat.lt_of_le_of_lt (d5 k' c1 c2 c3) (b4▸c4)⟩
 exact key _ k0 (Nat.le_refl _) h0 a w (h1.weak hfr.get) (h2.perm hH)
theorem u7 {wb:World} {Lb:List Nat} (hb:∀X w,Hp w0 L0 X w→Hp wb Lb X w) {κ:Type} {φ:κ→Prop} {frk:κ→Fr} {Hk:κ→List HP} {μ:κ→Nat} {m:Nat} (k':κ) (hfr:Fr.sub (frk k') fr) (hH:H.Perm (Hk k')) (hk:φ k') (hm:μ k'<m):Ent n w0 L0 fr H (λa w=>∃k',φ k'∧Fr.ok n (frk k') a∧Hp wb Lb (Hk k') w∧μ k'<m):=λ_ _ h1 h2=>
 ⟨k',hk,h1.weak hfr.get,hb _ _ (h2.perm hH),hm⟩
end
end Go.Proofs.YthapcdhdfaibkaaGreatDoor

namespace Go.Proofs.YthapcdhdfaibkaaGreatDoor
open Go.RowKit
set_option linter.all false

def a2t (ops:Array Oper) (i:Nat):Nat→Nat→Bool
 |0,_=>false
 |f+1,j=>((ops[j]?).map λo=>o.after.any λe=>Region.binds .any e&&(e.on==i||a2t ops i f e.on)).getD false
def a5Q (ops:Array Oper) (listed:Array Bool):Prop:=
 ∀j o,ops[j]? =some o→listed.getD j true=true→∀e∈o.after,Region.binds .any e=true→listed.getD e.on false=true
theorem b1n {ops:Array Oper} {listed:Array Bool} {i:Nat} (hi:listed.getD i true=false) (hd:a5Q ops listed):
  ∀f j,a2t ops i f j=true→∀o,ops[j]? =some o→¬(∀e∈o.after,Region.binds .any e=true→listed.getD e.on false=true):=by
 intro f
 induction f with
 |zero=>intro j h;cases h
 |succ f ih=>
  intro j h o ho hall
  simp only[a2t,ho,Option.map_some,Option.getD_some] at h
  obtain ⟨e,he,hb⟩:=Array.any_eq_true'.1 h
  simp only[Bool.and_eq_true,Bool.or_eq_true,beq_iff_eq] at hb
  have h1:=hall e he hb.1
  rcases hb.2 with h2|h2
  ·rw[h2] at h1
   rcases Nat.lt_or_ge i listed.size with h'|h'
   ·simp[h'] at h1 hi;rw[hi] at h1;cases h1
   ·simp[Array.getElem?_eq_none h'] at h1
  ·cases hoe:ops[e.on]? with
   |none=>cases f<;>simp[a2t,hoe] at h2
   |some oe=>
    refine ih e.on h2 oe hoe (hd e.on oe hoe ?_)
    rcases Nat.lt_or_ge e.on listed.size with h'|h'
    ·simp[h'] at h1 ⊢;exact h1
    ·simp[Array.getElem?_eq_none h']

def T9 (P:Program) (ops:Array Oper) (Q:Exit→Act→World→Prop) (qt:Nat→Bool):Nat→Array Bool→Act→World→Prop
 |0,listed,a,w=>Region.ready .any ops listed=[]∧Q .normal a w
 |fuel+1,listed,a,w=>
  (Region.ready .any ops listed=[]→Q .normal a w)∧
  ∀i∈Region.ready .any ops listed,wpOp P ops Q i (λa' w'=>(qt i=true→Ext w w')∧T9 P ops Q qt fuel (listed.setIfInBounds i true) a' w') a w
section
variable {P:Program} {Q:Exit→Act→World→Prop} {ops:Array Oper} {qt:Nat→Bool}
theorem b4i:∀(fuel:Nat) (listed:Array Bool) (a:Act) (w:World),T9 P ops Q qt fuel listed a w→wpAny P .any ops Q fuel listed a w
 |0,_,_,_,h=>h
 |fuel+1,_,_,_,h=>⟨h.1,λi hi=>wpOp_mono (λa' w' h'=>b4i fuel _ a' w' h'.2) (h.2 i hi)⟩
def Y0 (P:Program) (ops:Array Oper) (S:World→Prop) (o:Oper) (v:Value) (a:Act):Prop:=
 (Region.wanted o (yielded ops a.tmps)=true∧∀w,S w→(execOp a.eval o).run P w= .ok (.value v) w)∨
 (Region.wanted o (yielded ops a.tmps)=false∧v=undef)
theorem Y0.wpOp {S:World→Prop} {i:Nat} {o:Oper} {v:Value} {a:Act} (hi:ops[i]? =some o) (hy:Y0 P ops S o v a)
  {K:Act→World→Prop} {w:World} (hS:S w) (h:K (a.put o.dst v) w):wpOp P ops Q i K a w:=by
 unfold Go.wpOp
 simp only[hi]
 rcases hy with ⟨hw,hv⟩|⟨hw,rfl⟩
 ·simp only[hw,if_true,Oper.wp,hv w hS,Oper.upon];exact .inl h
 ·simp only[hw,Bool.false_eq_true,if_false];exact h
theorem Y0.of_same {S:World→Prop} {o:Oper} {v:Value} {a a':Act} (hy:Y0 P ops S o v a) (he:execOp a'.eval o=execOp a.eval o)
  (hw:Region.wanted o (yielded ops a'.tmps)=Region.wanted o (yielded ops a.tmps)):Y0 P ops S o v a':=by
 unfold Y0 at *
 rw[he,hw]
 exact hy
theorem Y0.sub {S S':World→Prop} {o:Oper} {v:Value} {a:Act} (hy:Y0 P ops S o v a) (h:∀w,S' w→S w):Y0 P ops S' o v a:=
 hy.imp (λ⟨h1,h2⟩=>⟨h1,λw hw=>h2 w (h w hw)⟩) id
theorem b2S {S:World→Prop} {j:Nat} {oi oj:Oper} {v:Value} (hj:ops[j]? =some oj) (hap:oi.apart ops oj=true)
  (hsi:∀cs b,oi.op≠ .select cs b) (hsj:∀cs b,oj.op≠ .select cs b)
  (hQ:∀c a w,Q (.panic c) (a.put oi.dst v) w→Q (.panic c) a w) {K:Act→World→Prop} {a:Act} {w:World}
  (hy:Y0 P ops S oi v a) (h:wpOp P ops Q j K (a.put oi.dst v) w):
  wpOp P ops Q j (λa' w'=>Y0 P ops S oi v a'∧K (a'.put oi.dst v) w') a w:=by
 obtain ⟨h1,h2,h3⟩:=Oper.apart_spec hap
 have keep:∀(a:Act),Y0 P ops S oi v a→∀u,Y0 P ops S oi v (a.put oj.dst u):=λa hy u=>
  hy.of_same (execOp_put oi hsi a oj.dst u h3) (wanted_put oi a oj.dst u h3)
 have keepD:∀d,Y0 P ops S oi v { a with defers:=d::a.defers }:=λd=>hy.of_same Z Z
 unfold wpOp at *
 simp only[hj] at *
 rw[wanted_put oj a oi.dst v h1] at h
 split
 ·rename_i hw
  simp only[hw,if_true] at h
  rcases h with h|⟨hasks,hlets⟩
  case inr=>exact .inr ⟨by unfold Oper.asks at *;rw[execOp_put oj hsj a oi.dst v h1] at hasks;exact hasks,hlets⟩
  refine .inl ?_
  unfold Oper.wp at *
  rw[execOp_put oj hsj a oi.dst v h1] at h
  generalize (execOp a.eval oj).run P w=r at *
  cases r with
  |ok n w'=>
   cases n<;>simp only[Oper.upon] at h ⊢
   case value u=>exact ⟨keep a hy u,by rw[←Act.put_comm a v u h2];exact h⟩
   case skip=>exact ⟨keep a hy _,by rw[←Act.put_comm a v undef h2];exact h⟩
   case defer d=>
    refine ⟨keep _ (keepD d) _,?_⟩
    rw[←Act.put_comm _ v undef h2, ←Act.put_defers]
    exact h
   case enter f args=>
    refine Calls.mono h λe w'' he=>?_
    cases e with
    |returned u=>exact ⟨keep a hy u,by rw[←Act.put_comm a v u h2];exact he⟩
    |panicked c=>exact hQ _ _ _ he
    |outgrown=>exact he
   case row row args=>exact Rows.mono h λu w'' he=>⟨keep a hy u,by rw[←Act.put_comm a v u h2];exact he⟩
  |halt x w'=>
   cases x<;>simp only[Oper.upon] at h ⊢
   case panic u=>exact hQ _ _ _ h
 ·rename_i hw
  simp only[hw] at h
  exact ⟨keep a hy _,by rw[←Act.put_comm a v undef h2];exact h⟩
theorem a5Q.set {listed:Array Bool} {j:Nat} (hd:a5Q ops listed) (hr:j∈Region.ready .any ops listed):a5Q ops (listed.setIfInBounds j true):=by
 obtain ⟨hun,oj,hoj,hall⟩:=mem_ready.1 hr
 intro k o ho hk e he hb
 have mono:listed.getD e.on false=true→(listed.setIfInBounds j true).getD e.on false=true:=by
  intro h
  by_cases hj:j=e.on
  ·subst hj
   rcases Nat.lt_or_ge e.on listed.size with h'|h'
   ·simp[h']
   ·simp[Array.getElem?_eq_none h'] at h
  ·rw[getD_set_ne false hj];exact h
 by_cases hkj:j=k
 ·subst hkj
  rw[hoj] at ho;cases ho
  exact mono (hall e he hb)
 ·rw[getD_set_ne true hkj] at hk
  exact mono (hd k o ho hk e he hb)
theorem a4B {S:World→World→Prop} (hSr:∀w,S w w) (hSt:∀a b c,S a b→S b c→S a c) {i:Nat} {oi:Oper} {v:Value} (hi:ops[i]? =some oi)
  (hsel:∀(j:Nat) (o:Oper) cs b,ops[j]? =some o→o.op≠ .select cs b)
  (hQ:∀c a w,Q (.panic c) (a.put oi.dst v) w→Q (.panic c) a w)
  (hq:(∀j,qt j=true∨a2t ops i ops.size j=true∨ops[j]? =none)∧(∀a b,Ext a b→S a b)∨ ∀a b,S a b):
  ∀(fuel:Nat) (listed:Array Bool) (a:Act) (w:World),a5Q ops listed→
   (∀j oj,ops[j]? =some oj→j≠i→listed.getD j true=false→(∀e∈oj.after,Region.binds .any e=true→e.on≠i)→oi.apart ops oj=true)→
   i∈Region.ready .any ops listed→Y0 P ops (S w) oi v a→
   T9 P ops Q qt fuel (listed.setIfInBounds i true) (a.put oi.dst v) w→(qt i=true→Ext w w)→T9 P ops Q qt (fuel+1) listed a w:=by
 intro fuel
 induction fuel with
 |zero=>
  intro listed a w _ _ hr hy H hE
  refine ⟨λh=>(by rw[h] at hr;cases hr),λj hj=>?_⟩
  by_cases hji:j=i
  ·subst hji;exact hy.wpOp hi (hSr w) ⟨hE,H⟩
  ·have:=ready_mono hj hji
   rw[H.1] at this
   cases this
 |succ fuel ih=>
  intro listed a w hd hfree hr hy H hE
  refine ⟨λh=>(by rw[h] at hr;cases hr),λj hj=>?_⟩
  by_cases hji:j=i
  ·subst hji;exact hy.wpOp hi (hSr w) ⟨hE,H⟩
  ·have h1:=H.2 j (ready_mono hj hji)
   obtain ⟨hjun,oj,hoj,hall⟩:=mem_ready.1 hj
   have hiun:=(mem_ready.1 hr).1
   have hnot:∀e∈oj.after,Region.binds .any e=true→e.on≠i:=λe he hb heq=>by
    have h1:=hall e he hb
    rw[heq] at h1
    rcases Nat.lt_or_ge i listed.size with h'|h'
    ·simp[h'] at hiun h1;rw[hiun] at h1;cases h1
    ·simp[Array.getElem?_eq_none h'] at h1
   have hS':∀w',(qt j=true→Ext w w')→S w w':=by
    rcases hq with ⟨hq1,hq2⟩|hq
    ·intro w' h
     rcases hq1 j with h'|h'|h'
     ·exact hq2 _ _ (h h')
     ·exact absurd hall (b1n hiun hd _ j h' oj hoj)
     ·rw[h'] at hoj;cases hoj
    ·intro w' _;exact hq _ _
   have h2:=b2S hoj (hfree j oj hoj hji hjun hnot) (λcs b=>hsel i oi cs b hi) (λcs b=>hsel j oj cs b hoj) hQ hy h1
   have hfree':∀k ok,ops[k]? =some ok→k≠i→(listed.setIfInBounds j true).getD k true=false→
     (∀e∈ok.after,Region.binds .any e=true→e.on≠i)→oi.apart ops ok=true:=λk ok hk hki hun hno=>by
    refine hfree k ok hk hki ?_ hno
    by_cases hjk:j=k
    ·subst hjk;exact hjun
    ·rw[getD_set_ne true hjk] at hun;exact hun
   refine wpOp_mono (λa' w' h3=>⟨h3.2.1,ih (listed.setIfInBounds j true) a' w' (hd.set hj) hfree' (ready_mono hr (Ne.symm hji)) (h3.1.sub λw'' hw=>hSt _ _ _ (hS' w' h3.2.1) hw) ?_ (λ_=>a0T w')⟩) h2
   rw[Array.setIfInBounds_comm _ _ hji]
   exact h3.2.2
end

def b9S (ops:Array Oper) (qt:Nat→Bool) (i:Nat):Bool:=(List.range ops.size).all λj=>qt j||a2t ops i ops.size j
def b5f (ops:Array Oper) (listed:Array Bool):Bool:=
 (List.range ops.size).all λj=>match ops[j]? with
  |some o=> !listed.getD j true||o.after.all λe=> !Region.binds .any e||listed.getD e.on false
  |none=>true
theorem a2f {ops:Array Oper} {listed:Array Bool} (h:b5f ops listed=true):a5Q ops listed:=by
 intro j o ho hl e he hb
 simp only[b5f,List.all_eq_true,List.mem_range] at h
 have h1:=h j (Array.getElem?_eq_some_iff.1 ho).1
 simp only[ho,hl,Bool.not_true,Bool.false_or] at h1
 have h2:=Array.all_eq_true_iff_forall_mem.1 h1 e he
 simpa[hb] using h2
theorem b2N {ops:Array Oper} {qt:Nat→Bool} {i:Nat} (h:b9S ops qt i=true):∀j,qt j=true∨a2t ops i ops.size j=true∨ops[j]? =none:=by
 intro j
 simp only[b9S,List.all_eq_true,List.mem_range] at h
 rcases Nat.lt_or_ge j ops.size with h'|h'
 ·have:=h j h'
  simp only[Bool.or_eq_true] at this
  rcases this with h1|h1
  ·exact .inl h1
  ·exact .inr (.inl h1)
 ·exact .inr (.inr (by simp[h']))
def Z0 (ops:Array Oper) (qt:Nat→Bool) (pure:Bool) (listed:Array Bool) (i:Nat):Bool:=
 Region.noSelect ops&&Region.free .any ops listed i&&(Region.ready .any ops listed).contains i&&b5f ops listed&&(pure||b9S ops qt i)

class NoPan (Q:Exit→Act→World→Prop):Prop where
 out:∀c a d v w,Q (.panic c) (Act.put a d v) w→Q (.panic c) a w
instance c5f {Q:Exit→Act→World→Prop} {K:Act→World→Prop} [h:NoPan Q]:NoPan (Exit.then K Q):=⟨λc a d v w x=>h.out c a d v w x⟩
instance NoPan.body {P:Program} {fn:Func} {R:Ending→World→Prop}:NoPan (bodyPost P fn R):=⟨λc a d v w h=>by
 cases d<;>exact h⟩
instance c5k {Q:Exit→Act→World→Prop} {id:Nat} [h:NoPan Q]:NoPan (Exit.inBlock id Q):=⟨λc a d v w x=>h.out c a d v w x⟩

section
variable {P:Program} {Q:Exit→Act→World→Prop} {n:Nat} {w0:World} {L0:List Nat} {fr:Fr} {H:List HP} {ops:Array Oper} {i:Nat} {qt:Nat→Bool} {fuel:Nat} {listed:Array Bool} {op:Op} {d:Nat} {ty:TypeId} {pos:String} {af:Array Edge} {g:Option (Nat×Bool)} {v:Value}
theorem Hp.drew {w:World} (h:Hp w0 L0 H w):Hp w0 L0 H { w with drawn:=w.drawn+1 }:=by
 obtain ⟨L,hs,hn,hst⟩:=h
 exact ⟨L,hs.stable λ_ _=>rfl,hn,⟨hst.os,hst.tape,hst.output,hst.size,hst.keep,hst.sub⟩⟩
theorem D.region {id:Nat} (qt:Nat→Bool) (hm:P.follows .mixedOrders=true) (h:Ent n w0 L0 fr H (T9 P ops Q qt ops.size (Array.replicate ops.size false))):
  Ent n w0 L0 fr H ((Code.region id ops true).wp P Q):=λa w h1 h2=>
 wp_region_any hm (b4i _ _ _ _ (h a _ h1 h2.drew))
theorem D.y (i:Nat) [hQ:NoPan Q] (ho:ops[i]? =some ⟨some d,op,ty,pos,af,g⟩) (hg:N6 ops fr g=some true) (hd:d<n) (hy:Yd P n w0 L0 fr H op v)
  (hk:Z0 ops qt false listed i=true)
  (h:Ent n w0 L0 ((d,v)::fr) H (T9 P ops Q qt fuel (listed.setIfInBounds i true))):Ent n w0 L0 fr H (T9 P ops Q qt (fuel+1) listed):=λa w h1 h2=>by
 simp only[Z0,Bool.and_eq_true,Bool.or_eq_true,Bool.false_eq_true,false_or] at hk
 obtain ⟨⟨⟨⟨k1,k2⟩,k3⟩,k4⟩,k5⟩:=hk
 refine a4B (S:=λa b=>Ext a b) (oi:=⟨some d,op,ty,pos,af,g⟩) (v:=v) (λw=>a0T w) (λ_ _ _ h k=>h.trans k) ho (Region.noSelect_spec k1) (λc a w=>hQ.out c a _ _ w)
  (.inl ⟨b2N k5,λ_ _ h=>h⟩) fuel listed a w (a2f k4) (Region.free_spec ho k2) (by simpa using k3) (.inl ⟨Q8 (o:=⟨some d,op,ty,pos,af,g⟩) h1 hg,λw' hw=>hy a w h1 h2 w' hw _ _ _ _ _⟩) (h _ _ (h1.put hd v) h2) (λ_=>a0T w)
theorem c0L (i:Nat) [hQ:NoPan Q] (ho:ops[i]? =some ⟨some d,op,ty,pos,af,g⟩) (hg:N6 ops fr g=some true) (hd:d<n) (hy:Yp P n fr op v)
  (hk:Z0 ops qt true listed i=true)
  (h:Ent n w0 L0 ((d,v)::fr) H (T9 P ops Q qt fuel (listed.setIfInBounds i true))):Ent n w0 L0 fr H (T9 P ops Q qt (fuel+1) listed):=λa w h1 h2=>by
 simp only[Z0,Bool.and_eq_true,Bool.or_eq_true,true_or] at hk
 obtain ⟨⟨⟨⟨k1,k2⟩,k3⟩,k4⟩,_⟩:=hk
 refine a4B (S:=λ_ _=>True) (oi:=⟨some d,op,ty,pos,af,g⟩) (v:=v) (λw=>trivial) (λ_ _ _ _ _=>trivial) ho (Region.noSelect_spec k1) (λc a w=>hQ.out c a _ _ w)
  (.inr λ_ _=>trivial) fuel listed a w (a2f k4) (Region.free_spec ho k2) (by simpa using k3) (.inl ⟨Q8 (o:=⟨some d,op,ty,pos,af,g⟩) h1 hg,λw' _=>hy a h1 w' _ _ _ _ _⟩) (h _ _ (h1.put hd v) h2) (λ_=>a0T w)
theorem D.skip (i:Nat) {dst:Option Tmp} [hQ:NoPan Q] (ho:ops[i]? =some ⟨dst,op,ty,pos,af,g⟩) (hg:N6 ops fr g=some false)
  (hk:Z0 ops qt true listed i=true) (hfr:(dst.bind λd'=>fr.lookup d')=none)
  (h:Ent n w0 L0 fr H (T9 P ops Q qt fuel (listed.setIfInBounds i true))):Ent n w0 L0 fr H (T9 P ops Q qt (fuel+1) listed):=λa w h1 h2=>by
 simp only[Z0,Bool.and_eq_true,Bool.or_eq_true,true_or] at hk
 obtain ⟨⟨⟨⟨k1,k2⟩,k3⟩,k4⟩,_⟩:=hk
 refine a4B (S:=λ_ _=>True) (oi:=⟨dst,op,ty,pos,af,g⟩) (v:=undef) (λw=>trivial) (λ_ _ _ _ _=>trivial) ho (Region.noSelect_spec k1) (λc a w=>hQ.out c a _ _ w)
  (.inr λ_ _=>trivial) fuel listed a w (a2f k4) (Region.free_spec ho k2) (by simpa using k3) (.inr ⟨Q8 (o:=⟨dst,op,ty,pos,af,g⟩) h1 hg,Z⟩) ?_ (λ_=>a0T w)
 cases dst with
 |none=>exact h _ _ h1 h2
 |some d'=>
  refine h _ _ ⟨by simp[Act.put,h1.size],h1.defers,λi v hi=>?_⟩ h2
  simp only[Act.put,Array.getElem?_setIfInBounds]
  rw[if_neg (λe=>by subst e;simp only[Option.bind_some] at hfr;rw[hfr] at hi;cases hi)]
  exact h1.get i v hi
theorem b3P (i:Nat) [hQ:NoPan Q] (ho:ops[i]? =some ⟨some d,op,ty,pos,af,g⟩) (hg:N6 ops fr g=some false) (hd:d<n)
  (hk:Z0 ops qt true listed i=true)
  (h:Ent n w0 L0 ((d,.tuple #[])::fr) H (T9 P ops Q qt fuel (listed.setIfInBounds i true))):Ent n w0 L0 fr H (T9 P ops Q qt (fuel+1) listed):=λa w h1 h2=>by
 simp only[Z0,Bool.and_eq_true,Bool.or_eq_true,true_or] at hk
 obtain ⟨⟨⟨⟨k1,k2⟩,k3⟩,k4⟩,_⟩:=hk
 exact a4B (S:=λ_ _=>True) (oi:=⟨some d,op,ty,pos,af,g⟩) (v:=undef) (λw=>trivial) (λ_ _ _ _ _=>trivial) ho (Region.noSelect_spec k1) (λc a w=>hQ.out c a _ _ w)
  (.inr λ_ _=>trivial) fuel listed a w (a2f k4) (Region.free_spec ho k2) (by simpa using k3) (.inr ⟨Q8 (o:=⟨some d,op,ty,pos,af,g⟩) h1 hg,Z⟩) (h _ _ (h1.put hd _) h2) (λ_=>a0T w)
theorem w6 (i:Nat) {dst:Option Tmp} {κ:Type} {fr':κ→Fr} {H':κ→List HP} {φ:κ→Prop} {q:Bool} (ho:ops[i]? =some ⟨dst,op,ty,pos,af,g⟩) (hg:N6 ops fr g=some true)
  (hr:Region.ready .any ops listed=[i]) (hqt:(qt i=true→q=true))
  (hn:Nop P Q n w0 L0 fr H ⟨dst,op,ty,pos,af,g⟩ q fr' H' φ) (h:∀k,φ k→Ent n w0 L0 (fr' k) (H' k) (T9 P ops Q qt fuel (listed.setIfInBounds i true))):Ent n w0 L0 fr H (T9 P ops Q qt (fuel+1) listed):=λa w h1 h2=>by
 refine ⟨λh=>absurd (hr▸h) (by simp),λj hj=>?_⟩
 rw[hr] at hj
 simp only[List.mem_singleton] at hj
 subst hj
 rw[wpOp]
 simp only[ho]
 rw[Q8 (o:=⟨dst,op,ty,pos,af,g⟩) h1 hg,if_pos Z]
 exact .inl (hn (λw a' w'=>(qt j=true→Ext w w')∧T9 P ops Q qt fuel (listed.setIfInBounds j true) a' w') (λk hk w a' w' h3 h4 h5=>⟨λhq=>h5 (hqt hq),h k hk a' w' h3 h4⟩) a w h1 h2)
theorem o4 (hr:Region.ready .any ops listed=[]) (h:Ent n w0 L0 fr H (Q .normal)):Ent n w0 L0 fr H (T9 P ops Q qt fuel listed):=λa w h1 h2=>by
 cases fuel with
 |zero=>exact ⟨hr,h a w h1 h2⟩
 |succ f=>exact ⟨λ_=>h a w h1 h2,by rw[hr];simp⟩
end
end Go.Proofs.YthapcdhdfaibkaaGreatDoor

namespace Go.Proofs.YthapcdhdfaibkaaGreatDoor
open Go.RowKit
set_option linter.all false

def b8B:TypeDesc→Bool
 | .struct _| .array _ _=>true
 |_=>false
structure TyOk (P:Program) (t:TypeId) (agg:Bool) (k:Nat) (zero:List Value) (bytes:Nat):Prop where
 info:∃i z,P.info? t=some i∧i.size=k∧i.bytes=bytes∧i.zero=some z∧z.cells=zero.toArray
 aggr:∃d,P.underlying t=some d∧b8B d=agg
 zl:zero.length=k
theorem O1 {P:Program} {t:TypeId} {agg:Bool} {k:Nat} {z:Value} {zero:List Value} {bytes:Nat}
  (h1:(P.info? t).map (λi=>(i.size,i.bytes,i.zero))=some (k,bytes,some z)) (h2:(P.underlying t).map b8B=some agg) (hz:z.cells=zero.toArray) (hl:zero.length=k):TyOk P t agg k zero bytes:=by
 obtain ⟨i,hi,h⟩:=Option.map_eq_some_iff.1 h1
 obtain ⟨d,hd,h'⟩:=Option.map_eq_some_iff.1 h2
 simp only[Prod.mk.injEq] at h
 exact ⟨⟨i,z,hi,h.1,h.2.1,h.2.2,hz⟩,⟨d,hd,h'⟩,hl⟩
section
variable {P:Program} {t:TypeId} {agg:Bool} {k:Nat} {zero:List Value} {bytes:Nat} {w:World}
theorem TyOk.run_sizeOf (h:TyOk P t agg k zero bytes) (w:World):(sizeOf t).run P w= .ok k w:=by
 obtain ⟨i,z,h1,h2,_⟩:=h.info
 simp[sizeOf,typeInfo,h1,h2]
theorem TyOk.run_isAgg (h:TyOk P t agg k zero bytes) (w:World):(isAgg t).run P w= .ok agg w:=by
 obtain ⟨d,h1,h2⟩:=h.aggr
 simp only[isAgg,Sem.run_bind,run_underlying h1,Result.andThen_ok]
 subst h2
 cases d<;>rfl
theorem TyOk.run_zero (h:TyOk P t agg k zero bytes) (w:World):∃z,(zeroValue t).run P w= .ok z w∧z.cells=zero.toArray:=by
 obtain ⟨i,z,h1,_,_,h2,h3⟩:=h.info
 exact ⟨z,by simp[zeroValue,typeInfo,h1,h2],h3⟩
end

def L9 (w:World) (b off:Nat) (cs:List Value):Prop:=∀j v,cs[j]? =some v→w.cell? ⟨b,off+j,none⟩=some v
theorem L9.ext {w w':World} {b off:Nat} {cs:List Value} (h:L9 w b off cs) (hE:Ext w w'):L9 w' b off cs:=λj v hj=>by
 have h1:=h j v hj
 rw[Below.cell hE (World.block_lt_of_cell? w _ h1)];exact h1
theorem L9.same {w w':World} {b off:Nat} {cs:List Value} (h:L9 w b off cs) (hE:w'.heap[b]? =w.heap[b]?):L9 w' b off cs:=λj v hj=>by
 rw[World.cell?_of_block (w:=w) (by exact hE)];exact h j v hj
theorem L9.sub {w:World} {b off:Nat} {cs:List Value} (h:L9 w b off cs) (i m:Nat):L9 w b (off+i) ((cs.drop i).take m):=λj v hj=>by
 rw[List.getElem?_take] at hj
 split at hj
 ·rw[List.getElem?_drop] at hj
  rw[Nat.add_assoc];exact h _ v hj
 ·cases hj
theorem L9.sub' {w:World} {b off:Nat} {cs cs':List Value} (h:L9 w b off cs) (i:Nat) (he:(cs.drop i).take cs'.length=cs'):L9 w b (off+i) cs':=he▸h.sub i _
theorem L9.nil (w:World) (b off:Nat):L9 w b off []:=λj v h=>by simp at h
theorem L9.run_load {P:Program} {t:TypeId} {agg:Bool} {k:Nat} {zero:List Value} {bytes:Nat} {w:World} {b off:Nat} {cs:List Value} (h:L9 w b off cs) (ht:TyOk P t agg k zero bytes) (hl:cs.length=k) {v:Value}
  (hv:v=if agg then .agg cs.toArray else cs.headD undef) (h1:agg=false→k=1):(Instr.loadAt t (.pointer (some ⟨b,off,none⟩))).run P w= .ok v w:=by
 simp only[Instr.loadAt,Instr.sureAddr,loadVar,Sem.run_bind,Sem.run_pure,Result.andThen_ok,ht.run_isAgg w,Sem.run_ite]
 cases agg
 ·have hk:=h1 Z
  subst hl
  match cs,hk with
  |[c],_=>
   have:=h 0 c Z
   simp only[Nat.add_zero] at this
   simp[this,hv]
 ·have:=run_loadCells_list (P:=P) w ⟨b,off,none⟩ cs (λj v hj=>by
   have:=h j v hj
   by_cases e:j=0
   ·subst e;simpa[Addr.add] using this
   ·simpa[Addr.add,e] using this)
  simp[ht.run_sizeOf w, ←hl,this,hv]

def pt (b:Nat) (T:TypeId) (cs:List Value):HP where
 holds w L:=L=[b]∧w.heap[b]? =some (.cells cs.toArray T (0,0))
 stable h hb:=⟨h.1,by rw[hb _ (by simp[h.1])];exact h.2⟩
 inh h b hb:=by
  rw[h.1] at hb
  simp only[List.mem_singleton] at hb
  subst hb
  exact (Array.getElem?_eq_some_iff.1 h.2).1
def row (e:TypeId) (k:Nat) (a:Option Addr) (m c:Nat) (cs:List Value):HP where
 holds w L:=cs.length=m*k∧((c=0∧m=0∧L=[])∨ ∃g cur,a=some ⟨g,0,none⟩∧w.heap[g]? =some (.cells cur e (0,0))∧m≤c∧c≤maxLen∧cur.size=c*k∧cur.toList.take (m*k)=cs∧L=[g])
 stable h hb:=by
  obtain ⟨h1,h2⟩:=h
  refine ⟨h1,h2.imp id ?_⟩
  rintro ⟨g,cur,rfl,h3,r⟩
  exact ⟨g,cur,Z,by rw[hb g (by simp[r.2.2.2.2])];exact h3,r⟩
 inh h b hb:=by
  rcases h.2 with ⟨_,_,rfl⟩|⟨g,cur,rfl,h3,r⟩
  ·cases hb
  ·rw[r.2.2.2.2] at hb
   simp only[List.mem_singleton] at hb
   subst hb
   exact (Array.getElem?_eq_some_iff.1 h3).1

section
variable {n:Nat} {w0:World} {L0:List Nat} {fr:Fr} {H:List HP} {w:World}
theorem m0 {α:Type} {a:α} {l:List α}:a∈a::l:=List.mem_cons_self ..
theorem mS {α:Type} {a b:α} {l:List α} (h:a∈l):a∈b::l:=List.mem_cons_of_mem _ h
theorem Sep.mem {h:HP} {H:List HP}:∀{L:List Nat},Sep H w L→h∈H→∃L',h.holds w L'∧∀b∈L',b∈L:=by
 induction H with
 |nil=>intro L _ hm;cases hm
 |cons x xs ih=>
  rintro L ⟨L1,L2,rfl,h1,h2⟩ hm
  rcases List.mem_cons.1 hm with rfl|hm
  ·exact ⟨L1,h1,λb hb=>by simp[hb]⟩
  ·obtain ⟨L',h3,h4⟩:=ih h2 hm
   exact ⟨L',h3,λb hb=>by simp[h4 b hb]⟩
theorem Hp.mem {h:HP} (x:Hp w0 L0 H w) (hm:h∈H):∃L',h.holds w L':=by
 obtain ⟨L,hs,_⟩:=x
 obtain ⟨L',h1,_⟩:=hs.mem hm
 exact ⟨L',h1⟩
def Has (w0:World) (L0:List Nat) (H:List HP) (b off:Nat) (cs:List Value):Prop:=∀w,Hp w0 L0 H w→L9 w b off cs
theorem Has.pt {b:Nat} {T:TypeId} {cs:List Value} (hm:pt b T cs∈H):Has w0 L0 H b 0 cs:=λw h=>by
 obtain ⟨L',_,h1⟩:=h.mem hm
 intro j v hj
 simp[World.cell?,h1,hj]
theorem Has.row {e:TypeId} {k m c:Nat} {a:Option Addr} {cs:List Value} {g o:Nat} (ha:a=some ⟨g,o,none⟩) (hm:row e k a m c cs∈H):Has w0 L0 H g o cs:=λw h=>by
 obtain ⟨L',h0,h1⟩:=h.mem hm
 rcases h1 with ⟨_,rfl,_⟩|⟨g',cur,h2,h3,h4,h5,h6,rfl,_⟩
 ·have:cs=[]:=List.eq_nil_of_length_eq_zero (by simpa using h0)
  subst this;exact L9.nil _ _ _
 ·rw[ha] at h2;cases h2
  intro j v hj
  rw[List.getElem?_take] at hj
  split at hj
  ·simpa[World.cell?,h3] using hj
  ·cases hj
theorem Has.sub {b off:Nat} {cs cs':List Value} (h:Has w0 L0 H b off cs) (i:Nat) (he:(cs.drop i).take cs'.length=cs'):Has w0 L0 H b (off+i) cs':=λw hw=>(h w hw).sub' i he
end

section
variable {P:Program} {n:Nat} {w0:World} {L0:List Nat} {fr:Fr} {H:List HP}
theorem P5 {x:Operand} {v:Value} (hx:ev fr x=some v):Yp P n fr (.move x) v:=λa h w' d t p af g=>by
 simp[execOp,h.ev hx]
theorem E5 {x:Operand} {v:Value} (hx:ev fr x=some v):Yp P n fr (.assign x) v:=λa h w' d t p af g=>by
 simp[execOp,h.ev hx]
theorem J9 {c x y:Operand} {v:Value} (hc:ev fr c=some (.bool true)) (hx:ev fr x=some v):Yp P n fr (.pick c x y) v:=λa h w' d t p af g=>by
 simp[execOp,h.ev hc,h.ev hx,asBool]
theorem J3 {c x y:Operand} {v:Value} (hc:ev fr c=some (.bool false)) (hy:ev fr y=some v):Yp P n fr (.pick c x y) v:=λa h w' d t p af g=>by
 simp[execOp,h.ev hc,h.ev hy,asBool]
theorem Y.not {x:Operand} {T:TypeId} {b:Bool} (hx:ev fr x=some (.bool b)):Yp P n fr (.unOp .not T x) (.bool (!b)):=λa h w' d t p af g=>by
 simp[execOp,h.ev hx,Op.unary]
theorem Y.fn {f:FuncId} {caps:Array Operand} {vs:List Value} (hc:caps.toList.mapM (ev fr)=some vs):Yp P n fr (.makeFunc (.func f) #[] caps) (.func (.func f) #[] vs.toArray):=λa h w' d t p af g=>by
 have:∀(l:List Operand) (vs:List Value),l.mapM (ev fr)=some vs→l.map a.eval=vs:=by
  intro l
  induction l with
  |nil=>intro vs hv;simp at hv;subst hv;rfl
  |cons x xs ih=>
   intro vs hv
   simp only[List.mapM_cons,Option.pure_def,Option.bind_eq_bind,Option.bind_eq_some_iff,Option.some.injEq] at hv
   obtain ⟨v,h1,vs',h2,rfl⟩:=hv
   simp[ih _ h2,h.ev h1]
 have e:=this _ _ hc
 simp only[execOp,Instr.makeFunc,List.map_toArray,Sem.run_bind,Sem.run_pure,Result.andThen_ok]
 rw[show caps.map a.eval=vs.toArray from by rw[←e];apply Array.ext';simp]
 simp
theorem Y.len {x:Operand} {T e:TypeId} {ad:Option Addr} {m c:Nat} (hT:P.underlying T=some (.slice e)) (hx:ev fr x=some (.slice ad m c)):
  Yp P n fr (.call ⟨.builtin .len, #[x], #[T]⟩) (.int .i64 m):=λa h w' d t p af g=>by
 simp[execOp,resolve,invoke,builtin,Builtin.len_,h.ev hx,run_underlying hT,goInt]
theorem Y.add {x y:Operand} {T U:TypeId} {a b:Int} (hx:ev fr x=some (.int .i64 a)) (hy:ev fr y=some (.int .i64 b)) (h1: -9223372036854775808≤a+b) (h2:a+b≤9223372036854775807):
  Yp P n fr (.binOp .add T x y U) (.int .i64 (a+b)):=λac h w' d t p af g=>by
 have:IntKind.i64.wrap (a+b)=a+b:=IntWalk.i64_in _ ⟨h1,h2⟩
 simp[execOp,h.ev hx,h.ev hy,eqGuard_add,binOp_add,Op.intArith,this]
theorem Y.sub {x y:Operand} {T U:TypeId} {a b:Int} (hx:ev fr x=some (.int .i64 a)) (hy:ev fr y=some (.int .i64 b)) (h1: -9223372036854775808≤a-b) (h2:a-b≤9223372036854775807):
  Yp P n fr (.binOp .sub T x y U) (.int .i64 (a-b)):=λac h w' d t p af g=>by
 have:IntKind.i64.wrap (a-b)=a-b:=IntWalk.i64_in _ ⟨h1,h2⟩
 simp[execOp,h.ev hx,h.ev hy,eqGuard_sub,binOp_sub,Op.intArith,this]
theorem Y.lss {x y:Operand} {T U:TypeId} {k:IntKind} {a b:Int} (hx:ev fr x=some (.int k a)) (hy:ev fr y=some (.int k b)):Yp P n fr (.binOp .lss T x y U) (.bool (decide (a<b))):=λac h w' d t p af g=>by
 simp[execOp,h.ev hx,h.ev hy,eqGuard_lss,binOp_lss]
theorem Y.leq {x y:Operand} {T U:TypeId} {k:IntKind} {a b:Int} (hx:ev fr x=some (.int k a)) (hy:ev fr y=some (.int k b)):Yp P n fr (.binOp .leq T x y U) (.bool (decide (a≤b))):=λac h w' d t p af g=>by
 simp[execOp,h.ev hx,h.ev hy,eqGuard_leq,binOp_leq]
theorem Y.gtr {x y:Operand} {T U:TypeId} {k:IntKind} {a b:Int} (hx:ev fr x=some (.int k a)) (hy:ev fr y=some (.int k b)):Yp P n fr (.binOp .gtr T x y U) (.bool (decide (b<a))):=λac h w' d t p af g=>by
 simp[execOp,h.ev hx,h.ev hy,eqGuard_gtr,binOp_gtr]
theorem Y.geq {x y:Operand} {T U:TypeId} {k:IntKind} {a b:Int} (hx:ev fr x=some (.int k a)) (hy:ev fr y=some (.int k b)):Yp P n fr (.binOp .geq T x y U) (.bool (decide (b≤a))):=λac h w' d t p af g=>by
 simp[execOp,h.ev hx,h.ev hy,eqGuard_geq,binOp_geq]
theorem Y.eql {x y:Operand} {T U:TypeId} {k:IntKind} {a b:Int} (hx:ev fr x=some (.int k a)) (hy:ev fr y=some (.int k b)):Yp P n fr (.binOp .eql T x y U) (.bool (decide (a=b))):=λac h w' d t p af g=>by
 have:(a==b)=decide (a=b):=rfl
 simp only[execOp,h.ev hx,h.ev hy,Sem.run_bind,eqGuard_at_int,Sem.run_pure,Result.andThen_ok,binOp_eql,this]
theorem Y.neq {x y:Operand} {T U:TypeId} {k:IntKind} {a b:Int} (hx:ev fr x=some (.int k a)) (hy:ev fr y=some (.int k b)):Yp P n fr (.binOp .neq T x y U) (.bool (decide (a≠b))):=λac h w' d t p af g=>by
 have:(a !=b)=decide (a≠b):=by by_cases e:a=b<;>simp[e]
 simp only[execOp,h.ev hx,h.ev hy,Sem.run_bind,eqGuard_at_int,Sem.run_pure,Result.andThen_ok,binOp_neq,this]
def V0 (P:Program) (s:TypeId) (f:Nat):Option (Nat×TypeId):=match P.underlying s with
 |some (.struct fs)=>fs[f]?.map λx=>(x.offset,x.type)
 |_=>none
theorem D3 {x:Operand} {s:TypeId} {f o:Nat} {ft:TypeId} {agg:Bool} {k:Nat} {z:List Value} {by':Nat} {b off:Nat} (hf:V0 P s f=some (o,ft)) (ht:TyOk P ft agg k z by') (hk:k≠0) (hx:ev fr x=some (.pointer (some ⟨b,off,none⟩))):
  Yp P n fr (.fieldAddr s x f) (.pointer (some ⟨b,off+o,none⟩)):=λac h w' d t p af g=>by
 unfold V0 at hf
 split at hf
 ·rename_i fs hs
  obtain ⟨fd,h1,h2⟩:=Option.map_eq_some_iff.1 hf
  simp only[Prod.mk.injEq] at h2
  obtain ⟨rfl,rfl⟩:=h2
  simp[execOp,Instr.fieldAt,h.ev hx,run_underlying hs,h1,Instr.sureAddr,fieldPlace,ht.run_sizeOf,hk,Addr.add]
 ·cases hf
theorem y6 {x y:Operand} {T e:TypeId} {agg:Bool} {k:Nat} {z:List Value} {by':Nat} {ad:Option Addr} {b off m c:Nat} {i:Int} (hT:P.underlying T=some (.slice e)) (ht:TyOk P e agg k z by')
  (hx:ev fr x=some (.slice ad m c)) (ha:ad=some ⟨b,off,none⟩) (hy:ev fr y=some (.int .i64 i)) (j:Nat) (hj:i=(j:Int)) (hlt:j<m):
  Yp P n fr (.indexAddr T x y) (.pointer (some ⟨b,off+j*k,none⟩)):=λac h w' d t p af g=>by
 subst ha;subst hj
 simp[execOp,Instr.indexAt,h.ev hx,h.ev hy,asIntOf,run_underlying hT,ht.run_sizeOf,hlt,Addr.add]
theorem z7 {x:Operand} {T:TypeId} {k:Nat} {z:List Value} {by':Nat} {b off:Nat} {v:Value} (ht:TyOk P T false k z by') (hx:ev fr x=some (.pointer (some ⟨b,off,none⟩)))
  (hc:Has w0 L0 H b off [v]) (h1:k=1):Yd P n w0 L0 fr H (.load T x) v:=λa w ha hw w' hE d t p af g=>by
 simp[execOp,ha.ev hx,((hc w hw).ext hE).run_load (v:=v) ht (by simp[h1]) (by simp) (λ_=>h1)]
theorem l4 {x:Operand} {T:TypeId} {k:Nat} {z:List Value} {by':Nat} {b off:Nat} {cs:List Value} (ht:TyOk P T true k z by') (hx:ev fr x=some (.pointer (some ⟨b,off,none⟩)))
  (hc:Has w0 L0 H b off cs) (hl:cs.length=k):Yd P n w0 L0 fr H (.load T x) (.agg cs.toArray):=λa w ha hw w' hE d t p af g=>by
 simp[execOp,ha.ev hx,((hc w hw).ext hE).run_load (v:=.agg cs.toArray) ht hl (by simp) (λh=>by cases h)]
end
end Go.Proofs.YthapcdhdfaibkaaGreatDoor

namespace Go.Proofs.YthapcdhdfaibkaaGreatDoor
open Go.RowKit
set_option linter.all false

section
variable {w0 w:World} {L0:List Nat} {H R:List HP}
theorem Hp.new {T:TypeId} {cs:List Value} (h:Hp w0 L0 H w):Hp w0 L0 (pt w.heap.size T cs::H) (w.alloc (.cells cs.toArray T)):=by
 obtain ⟨L,hs,hn,hst⟩:=h
 have hlt:=hs.inh
 refine ⟨w.heap.size::L,⟨[w.heap.size],L,Z,⟨Z,heap_alloc_new w _⟩,hs.stable λb hb=>?_⟩,List.nodup_cons.2 ⟨λhm=>Nat.lt_irrefl _ (hlt _ hm),hn⟩,
  ⟨hst.os,hst.tape,hst.output,by have:=hst.size;simp;omega,λb hb h0=>?_,λb hb=>?_⟩⟩
 ·exact Below.heap_alloc w _ b (hlt b hb)
 ·rw[Below.heap_alloc w _ b (Nat.lt_of_lt_of_le hb hst.size)];exact hst.keep b hb h0
 ·rcases List.mem_cons.1 hb with rfl|hb
  ·exact .inr hst.size
  ·exact hst.sub b hb
theorem Ext.alloc (w:World) (o:Obj):Ext w (w.alloc o):=Below.alloc (Below.refl _ _) (Nat.le_refl _) o
theorem Hp.turn {A A':HP} {w':World} (h:Hp w0 L0 (A::R) w) (ht:∀L,A.holds w L→∃L',A'.holds w' L'∧L'.Nodup∧Step w L w' L'):Hp w0 L0 (A'::R) w':=by
 obtain ⟨L,⟨L1,L2,rfl,h1,h2⟩,hn,hst⟩:=h
 obtain ⟨L',h3,h4,h5⟩:=ht L1 h1
 obtain ⟨k1,k2,k3⟩:=hst.call hn h2.inh h5 h4
 exact ⟨L'++L2,⟨L',L2,Z,h3,h2.stable k3⟩,k2,k1⟩
end

section
variable {P:Program} {Q:Exit→Act→World→Prop} {n:Nat} {w0:World} {L0:List Nat} {fr:Fr} {H R:List HP} {d:Nat} {ty:TypeId} {pos:String} {af:Array Edge} {g:Option (Nat×Bool)}
theorem N.alloc {T:TypeId} {agg:Bool} {k:Nat} {z:List Value} {by':Nat} (ht:TyOk P T agg k z by') (hd:d<n):
  Nop P Q n w0 L0 fr H ⟨some d,.alloc T,ty,pos,af,g⟩ true (κ:=Nat) (λb=>(d,.pointer (some ⟨b,0,none⟩))::fr) (λb=>pt b T z::H) (λ_=>True):=λK hK a w h1 h2=>by
 obtain ⟨zv,hz1,hz2⟩:=ht.run_zero w
 simp only[Oper.wp,execOp,Instr.alloc,Sem.run_bind,hz1,Result.andThen_ok,newVar,newRow,run_newObj,World.alloc_eq,Sem.run_pure,Oper.upon_value,hz2]
 exact hK w.heap.size trivial w _ _ (h1.put hd _) h2.new (λ_=>Ext.alloc _ _)
theorem N.box {T:TypeId} {x:Operand} {v:Value} {cs:List Value} (hx:ev fr x=some v) (hd:d<n) (hv:v.cells=cs.toArray):
  Nop P Q n w0 L0 fr H ⟨some d,.box T x,ty,pos,af,g⟩ true (κ:=Nat) (λb=>(d,.pointer (some ⟨b,0,none⟩))::fr) (λb=>pt b T cs::H) (λ_=>True):=λK hK a w h1 h2=>by
 simp only[Oper.wp,execOp,Instr.box,h1.ev hx,Sem.run_bind,Result.andThen_ok,newVar,newRow,run_newObj,World.alloc_eq,Sem.run_pure,Oper.upon_value,hv]
 exact hK w.heap.size trivial w _ _ (h1.put hd _) h2.new (λ_=>Ext.alloc _ _)

theorem a2x {T:TypeId} {agg:Bool} {k:Nat} {z:List Value} {by':Nat} {b off:Nat} {v:Value} {vs:List Value} {cur:Array Value} {e:TypeId} {w:World} (ht:TyOk P T agg k z by') (hv:v.cells=vs.toArray) (hl:vs.length=k) (h1:∀u∈vs,u.oneCell'=true)
  (hb:w.heap[b]? =some (.cells cur e (0,0))) (hfit:off+vs.length≤cur.size):
  (Instr.storeAt T (.pointer (some ⟨b,off,none⟩)) v).run P w= .ok () (w.setRow b (cur.toList.take off++vs++cur.toList.drop (off+vs.length)).toArray):=by
 have hst:=run_storeCells_at P b off e vs 0 cur w hb (by simpa using hfit) h1
 simp only[Nat.add_zero] at hst
 simp[Instr.storeAt,Instr.sureAddr,storeVar,ht.run_sizeOf,hv,hl,hst]
theorem Step.setRow {w:World} {b:Nat} {cs:Array Value} (hb:b<w.heap.size):Step w [b] (w.setRow b cs) [b]:=
 ⟨Z,Z,Z,by simp[World.setRow],λk _ hk=>setRow_other w b k cs (by simpa using hk),λk hk=>.inl hk⟩
theorem b8O {vs:List Value} (h:vs.all (·.oneCell')=true):∀u∈vs,u.oneCell'=true:=by simpa using h
theorem b3O {T T':TypeId} {agg:Bool} {k:Nat} {z:List Value} {by':Nat} {x y:Operand} {b off:Nat} {v:Value} {cs vs cs':List Value} (ht:TyOk P T agg k z by') (hx:ev fr x=some (.pointer (some ⟨b,off,none⟩))) (hy:ev fr y=some v)
  (hv:v.cells=vs.toArray) (hl:vs.length=k) (h1':vs.all (·.oneCell')=true) (hfit:off+k≤cs.length) (hcs:cs.take off++vs++cs.drop (off+k)=cs'):
  Nop P Q n w0 L0 fr (pt b T' cs::R) ⟨none,.store T x y,ty,pos,af,g⟩ false (κ:=Unit) (λ_=>fr) (λ_=>pt b T' cs'::R) (λ_=>True):=λK hK a w ha hw=>by
 obtain ⟨L',-,hb⟩:=hw.mem (List.mem_cons_self ..)
 have h1:=b8O h1'
 have hfit':off+vs.length≤cs.toArray.size:=by rw[hl,List.size_toArray];exact hfit
 have hrun:=a2x (P:=P) ht hv hl h1 hb (off:=off) hfit'
 simp only[Oper.wp,execOp,ha.ev hx,ha.ev hy,Sem.run_bind,hrun,Result.andThen_ok,Sem.run_pure,Oper.upon_skip]
 refine hK () trivial w _ _ ha (hw.turn λL hL=>?_) (by simp)
 obtain ⟨rfl,hb'⟩:=hL
 refine ⟨[b],⟨Z,?_⟩,by simp,Step.setRow (Array.getElem?_eq_some_iff.1 hb).1⟩
 rw[setRow_heap w b _ _ _ _ hb, ←hcs,hl]
theorem N.str {T e:TypeId} {agg:Bool} {k kk m c:Nat} {ad:Option Addr} {z:List Value} {by':Nat} {x y:Operand} {b off:Nat} {v:Value} {cs vs cs':List Value} (ht:TyOk P T agg k z by') (hx:ev fr x=some (.pointer (some ⟨b,off,none⟩))) (hy:ev fr y=some v)
  (had:ad=some ⟨b,0,none⟩) (hv:v.cells=vs.toArray) (hl:vs.length=k) (h1:∀u∈vs,u.oneCell'=true) (hk:0<k) (hfit:off+k≤cs.length) (hcs:cs.take off++vs++cs.drop (off+k)=cs'):
  Nop P Q n w0 L0 fr (row e kk ad m c cs::R) ⟨none,.store T x y,ty,pos,af,g⟩ false (κ:=Unit) (λ_=>fr) (λ_=>row e kk ad m c cs'::R) (λ_=>True):=λK hK a w ha hw=>by
 obtain ⟨L',hlen,hrow⟩:=hw.mem (List.mem_cons_self ..)
 rcases hrow with ⟨rfl,rfl,rfl⟩|⟨g',cur,h2,hb,h4,h5,h6,h7,rfl⟩
 ·simp only[Nat.zero_mul] at hlen;omega
 ·rw[had] at h2;cases h2
  have hcl:m*kk≤cur.size:=by rw[h6];exact Nat.mul_le_mul_right _ h4
  rw[hlen] at hfit
  have hrun:=a2x (P:=P) ht hv hl h1 hb (off:=off) (by omega)
  simp only[Oper.wp,execOp,ha.ev hx,ha.ev hy,Sem.run_bind,hrun,Result.andThen_ok,Sem.run_pure,Oper.upon_skip]
  refine hK () trivial w _ _ ha (hw.turn λL hL=>?_) (by simp)
  obtain ⟨-,⟨rfl,rfl,rfl⟩|⟨g'',cur',h2',hb',_,_,_,_,rfl⟩⟩:=hL
  ·simp only[Nat.zero_mul] at hlen;omega
  rw[had] at h2';cases h2'
  refine ⟨[b],⟨?_,.inr ⟨b,_,had,setRow_heap w b _ _ _ _ hb,h4,h5,?_,?_,Z⟩⟩,by simp,Step.setRow (Array.getElem?_eq_some_iff.1 hb).1⟩
  ·rw[←hcs];simp;omega
  ·simp[hl];omega
  ·rw[←hcs, ←h7,hl]
   have hcut:off+k≤m*kk:=by omega
   rw[List.take_append,List.take_append]
   simp only[List.length_append,List.length_take,Array.length_toList,hl]
   rw[List.take_of_length_le (l:=List.take off cur.toList) (by simp;omega),List.take_of_length_le (l:=vs) (by rw[hl];omega)]
   congr 1
   ·rw[List.take_take,Nat.min_eq_left (by omega)]
   ·rw[List.drop_take];congr 1;rw[Nat.min_eq_left (by omega)]
theorem c4Q {T e:TypeId} {agg:Bool} {k len:Nat} {z:List Value} {by':Nat} {ps:Array (Nat×Operand)} {pvs:List (Nat×Value)} {cs:List Value} (hT:P.underlying T=some (.slice e)) (ht:TyOk P e agg k z by')
  (hps:ps.toList.mapM (λp=>(ev fr p.2).map λv=>(p.1,v))=some pvs) (hsm:len*k≤16777216) (hlm:len≤maxLen)
  (hfill:Instr.fill (λi=>some (i*k,k)) ((Array.range (len*k)).map (z.toArray[· % z.toArray.size]!)) pvs=some cs.toArray) (hl:cs.length=len*k) (hd:d<n):
  Nop P Q n w0 L0 fr H ⟨some d,.buildSlice T len ps,ty,pos,af,g⟩ true (κ:=Nat) (λb=>(d,.slice (some ⟨b,0,none⟩) len len)::fr) (λb=>row e k (some ⟨b,0,none⟩) len len cs::H) (λ_=>True):=λK hK a w ha hw=>by
 have hpv:∀(l:List (Nat×Operand)) (pvs:List (Nat×Value)),l.mapM (λp=>(ev fr p.2).map λv=>(p.1,v))=some pvs→l.map (λp=>(p.1,a.eval p.2))=pvs:=by
  intro l
  induction l with
  |nil=>intro vs hv;simp at hv;subst hv;rfl
  |cons x xs ih=>
   intro vs hv
   simp only[List.mapM_cons,Option.pure_def,Option.bind_eq_bind,Option.bind_eq_some_iff,Option.some.injEq] at hv
   obtain ⟨v,h1,vs',h2,rfl⟩:=hv
   obtain ⟨u,h3,rfl⟩:=Option.map_eq_some_iff.1 h1
   simp[ih _ h2,ha.ev h3]
 have hps':=hpv _ _ hps
 have hpl:(ps.map λp=>(p.1,a.eval p.2)).toList=pvs:=by simpa using hps'
 obtain ⟨zv,hz1,hz2⟩:=ht.run_zero w
 have hnot:¬(len*k>2^24):=by omega
 have hfill':Instr.fill (λi=>some (i*k,k)) ((Array.range (len*k)).map ((if len*k=0 then (#[]:Array Value) else z.toArray)[· % (if len*k=0 then (#[]:Array Value) else z.toArray).size]!)) pvs=some cs.toArray:=by
  by_cases e0:len*k=0
  ·rw[e0] at hfill ⊢;simp only[Array.range_zero',List.map_toArray,List.map_nil] at hfill ⊢;exact hfill
  ·rw[if_neg e0];exact hfill
 have hrun:(Instr.buildSlice T len (ps.map λp=>(p.1,a.eval p.2))).run P w= .ok (.slice (some ⟨w.heap.size,0,none⟩) len len) (w.alloc (.cells cs.toArray e)):=by
  by_cases e0:len*k=0
  ·rw[e0] at hfill
   simp only[Array.range_zero',List.map_toArray,List.map_nil] at hfill
   simp only[Instr.buildSlice,run_underlying hT,ht.run_sizeOf,Sem.run_bind,Result.andThen_ok,e0,if_true,hpl,Array.range_zero',List.map_toArray,List.map_nil]
   rw[hfill]
   simp[newRow]
  ·rw[if_neg e0] at hfill'
   simp only[Instr.buildSlice,run_underlying hT,ht.run_sizeOf,Sem.run_bind,Result.andThen_ok,hnot,if_false,e0,Sem.run_pure,hz1,hz2,hpl,hfill',newRow,run_newObj,World.alloc_eq]
 simp only[Oper.wp,execOp,Sem.run_bind,hrun,Result.andThen_ok,Sem.run_pure,Oper.upon_value]
 refine hK w.heap.size trivial w _ _ (ha.put hd _) ?_ (λ_=>Ext.alloc _ _)
 obtain ⟨L,⟨L1,L2,rfl,⟨rfl,hb⟩,h4⟩,h5,h6⟩:=hw.new (T:=e) (cs:=cs)
 exact ⟨_,⟨[w.heap.size],L2,Z,⟨hl,.inr ⟨_,_,Z,hb,Nat.le_refl _,hlm,by simpa using hl,by rw[←hl];exact List.take_length,Z⟩⟩,h4⟩,h5,h6⟩
end
end Go.Proofs.YthapcdhdfaibkaaGreatDoor

namespace Go.Proofs.YthapcdhdfaibkaaGreatDoor
open Go.RowKit
set_option linter.all false

def a1J (m:Nat) (z:List Value):List Value:=(List.replicate m z).flatten
theorem a9o (m:Nat) (z:List Value):(a1J m z).length=m*z.length:=by
 induction m with
 |zero=>simp[a1J]
 |succ m ih=>simp only[a1J,List.replicate_succ,List.flatten_cons,List.length_append] at ih ⊢;rw[ih,Nat.succ_mul];omega
theorem b9K (m:Nat) (z:List Value):∀j,j<m*z.length→(a1J m z)[j]? =z[j % z.length]? :=by
 induction m with
 |zero=>intro j h;omega
 |succ m ih=>
  intro j h
  simp only[a1J,List.replicate_succ,List.flatten_cons] at ih ⊢
  by_cases hj:j<z.length
  ·rw[List.getElem?_append_left hj,Nat.mod_eq_of_lt hj]
  ·rw[List.getElem?_append_right (by omega),ih (j-z.length) (by rw[Nat.add_mul,Nat.one_mul] at h;omega)]
   have hm:=Nat.mod_eq_sub_mod (show j ≥ z.length by omega)
   rw[hm]
theorem b2w (m:Nat) (z:List Value):(Array.range (m*z.length)).map (z.toArray[· % z.toArray.size]!)=(a1J m z).toArray:=by
 apply Array.ext'
 apply List.ext_getElem?
 intro j
 rw[Array.getElem?_toList]
 by_cases h:j<m*z.length
 ·rw[show (a1J m z).toArray.toList=a1J m z from Z,b9K m z j h]
  have hz:0<z.length:=by rcases Nat.eq_zero_or_pos z.length with e|e;(rw[e] at h;omega);exact e
  have hm:j % z.length<z.length:=Nat.mod_lt _ hz
  simp[h,List.getElem?_eq_getElem hm]
 ·rw[Array.getElem?_eq_none (by simpa using h),List.getElem?_eq_none (by rw[show (a1J m z).toArray.toList=a1J m z from Z,a9o];omega)]

section
variable {P:Program} {Q:Exit→Act→World→Prop} {n:Nat} {w0:World} {L0:List Nat} {fr:Fr} {H R:List HP} {d:Nat} {ty:TypeId} {pos:String} {af:Array Edge} {g:Option (Nat×Bool)}
theorem c3U {T e:TypeId} {agg:Bool} {k m:Nat} {z:List Value} {by':Nat} {x y:Operand} {mi:Int} (hT:P.underlying T=some (.slice e)) (ht:TyOk P e agg k z by') (hx:ev fr x=some (.int .i64 mi)) (hy:ev fr y=some (.int .i64 mi))
  (hm:mi=(m:Int)) (hl:m≤maxLen) (hby:m*by'≤281474976710656) (hd:d<n):
  Nop P Q n w0 L0 fr H ⟨some d,.makeSlice T x y,ty,pos,af,g⟩ true (κ:=Nat) (λb=>(d,.slice (some ⟨b,0,none⟩) m m)::fr) (λb=>row e k (some ⟨b,0,none⟩) m m (a1J m z)::H) (λ_=>True):=λK hK a w ha hw=>by
 subst hm
 obtain ⟨zv,hz1,hz2⟩:=ht.run_zero w
 obtain ⟨i,z',i1,i2,i3,i4,i5⟩:=ht.info
 have hw1:IntKind.i64.wrap (m:Int)=m:=IntWalk.i64_in _ (by unfold maxLen at hl;omega)
 have hby':¬((by':Int)*(m:Int)>2^48):=by rw[Int.mul_comm];exact_mod_cast (by omega:¬(m*by'>281474976710656))
 have hrows:(Array.range (m*k)).map ((if m*k=0 then (#[]:Array Value) else z.toArray)[· % (if m*k=0 then (#[]:Array Value) else z.toArray).size]!)=(a1J m z).toArray:=by
  have:=b2w m z
  rw[ht.zl] at this
  by_cases e0:m*k=0
  ·rw[e0] at this ⊢;simp only[Array.range_zero',List.map_toArray,List.map_nil] at this ⊢;exact this
  ·rw[if_neg e0];exact this
 have hrun:(Instr.makeSlice T (.int .i64 m) (.int .i64 m)).run P w= .ok (.slice (some ⟨w.heap.size,0,none⟩) m m) (w.alloc (.cells (a1J m z).toArray e)):=by
  have h0:¬((m:Int)<0):=by omega
  simp only[Instr.makeSlice,run_underlying hT,asInt,asIntOf,Sem.run_bind,Sem.run_pure,Result.andThen_ok,typeInfo,run_program,i1,i3,hw1,h0,decide_false,Bool.false_or,hby',Int.lt_irrefl,Int.toNat_natCast,newRow]
  simp
  rw[ht.run_sizeOf]
  simp only[Result.andThen_ok]
  by_cases e0:m*k=0
  ·rw[e0] at hrows ⊢
   simp only[Array.range_zero',List.map_toArray,List.map_nil,if_true] at hrows ⊢
   rw[hrows]
  ·rw[if_neg e0] at hrows ⊢
   rw[hz1]
   simp only[Result.andThen_ok,hz2,hrows]
 simp only[Oper.wp,execOp,ha.ev hx,ha.ev hy,Sem.run_bind,hrun,Result.andThen_ok,Sem.run_pure,Oper.upon_value]
 refine hK w.heap.size trivial w _ _ (ha.put hd _) ?_ (λ_=>Ext.alloc _ _)
 obtain ⟨L,⟨L1,L2,rfl,⟨rfl,hb⟩,h4⟩,h5,h6⟩:=hw.new (T:=e) (cs:=a1J m z)
 have hlen:(a1J m z).length=m*k:=by rw[a9o,ht.zl]
 exact ⟨_,⟨[w.heap.size],L2,Z,⟨hlen,.inr ⟨_,_,Z,hb,Nat.le_refl _,hl,by simpa using hlen,by rw[←hlen];exact List.take_length,Z⟩⟩,h4⟩,h5,h6⟩

def Src (w0:World) (L0:List Nat) (H:List HP) (a2:Option Addr) (m2:Nat) (news:List Value):Prop:=
 (m2=0∧news=[])∨ ∃b o,a2=some ⟨b,o,none⟩∧Has w0 L0 H b o news
theorem Src.nil {a2:Option Addr}:Src w0 L0 H a2 0 []:=.inl ⟨Z,Z⟩
theorem c6r {a2:Option Addr} {b o m2:Nat} {news:List Value} (h:a2=some ⟨b,o,none⟩) (hh:Has w0 L0 H b o news):Src w0 L0 H a2 m2 news:=.inr ⟨b,o,h,hh⟩
theorem Src.row {e:TypeId} {k m c:Nat} {a:Option Addr} {cs:List Value} (hm:row e k a m c cs∈H) (hk:0<k) {w:World} (hw:Hp w0 L0 H w):Src w0 L0 H a m cs:=by
 obtain ⟨L',h0,h1⟩:=hw.mem hm
 rcases h1 with ⟨_,rfl,_⟩|⟨g',cur,h2,h3,h4,h5,h6,h7,_⟩
 ·exact .inl ⟨Z,List.eq_nil_of_length_eq_zero (by simpa using h0)⟩
 ·exact .inr ⟨g',0,h2,Has.row h2 hm⟩

theorem a3P {P:Program} {T e ty:TypeId} {agg:Bool} {k m c:Nat} {z:List Value} {by':Nat} (hT:P.underlying T=some (.slice e)) (ht:TyOk P e agg k z by') (hk:0<k)
  {ad:Option Addr} {cs:List Value} {w:World} {L:List Nat} (hrow:(row e k ad m c cs).holds w L) {a2:Option Addr} {m2 c2:Nat} {news:List Value}
  (hsrc:(m2=0∧news=[])∨ ∃b o,a2=some ⟨b,o,none⟩∧L9 w b o news) (hl:news.length=m2*k) (h1:∀u∈news,u.oneCell'=true)
  (h63:m+m2≤maxLen) (hbytes:(m+m2)*by'≤140737488355328):
  ∃a' c' w' L',(Builtin.append_ #[T,T] ty #[.slice ad m c,.slice a2 m2 c2]).run P w= .ok (.slice a' (m+m2) c') w'∧(row e k a' (m+m2) c' (cs++news)).holds w' L'∧L'.Nodup∧Step w L w' L'∧(L=[]→Ext w w'):=by
 obtain ⟨i,zv,i1,i2,i3,i4,i5⟩:=ht.info
 have hsmall:m+m2≤9223372036854775807:=by unfold maxLen at h63;omega
 obtain ⟨hlc,hr⟩:=hrow
 have hfirst:(Builtin.firstCells k m2 (.slice a2 m2 c2)).run P w= .ok news.toArray w:=by
  rcases hsrc with ⟨rfl,rfl⟩|⟨b,o,rfl,hc⟩
  ·cases a2<;>simp[Builtin.firstCells,loadCells,loadCellsFrom]
  ·exact run_firstCells_some (P:=P) w k m2 ⟨b,o,none⟩ m2 c2 news hl (λj v hj=>by
    have:=hc j v hj
    by_cases e0:j=0
    ·subst e0;simpa[Addr.add] using this
    ·simpa[Addr.add,e0] using this)
 have hfirstd:(Builtin.firstCells k m2 (.slice a2 m2 c2)).run P w.drew= .ok news.toArray w.drew:=by
  rcases hsrc with ⟨rfl,rfl⟩|⟨b,o,rfl,hc⟩
  ·cases a2<;>simp[Builtin.firstCells,loadCells,loadCellsFrom]
  ·exact run_firstCells_some (P:=P) w.drew k m2 ⟨b,o,none⟩ m2 c2 news hl (λj v hj=>by
    have:=hc j v hj
    by_cases e0:j=0
    ·subst e0;simpa[Addr.add] using this
    ·simpa[Addr.add,e0] using this)
 have hlen:(cs++news).length=(m+m2)*k:=by rw[List.length_append,hlc,hl,Nat.add_mul]
 have hgrow:c<m+m2→(Builtin.firstCells k m (.slice ad m c)).run P w.drew= .ok cs.toArray w.drew→
   (Builtin.append_ #[T,T] ty #[.slice ad m c,.slice a2 m2 c2]).run P w=
    .ok (.slice (some ⟨w.heap.size,0,none⟩) (m+m2) (grownCap w (m+m2) c e)) (w.drew.alloc (.cells (cs.toArray++news.toArray++Builtin.zeroCells zv.cells (grownCap w (m+m2) c e-(m+m2))) e)):=by
  intro hc hf
  have hn:¬(m+m2≤c):=by omega
  have h63':¬(9223372036854775807<((m:Int)+(m2:Int))):=by omega
  have h48':¬(281474976710656<Builtin.nextslicecap (m+m2) c*by'):=by have:=growslice_fits (bytes:=by') hc hbytes;omega
  simp[Builtin.append_,run_underlying hT,sizeOf,typeInfo,zeroValue,i1,i4,i3,i2,Builtin.lenOf,hn,h63',h48',Question.forced,hf,hfirstd,newRow,grownCap]
  congr 2
  apply Array.ext'
  simp[List.append_assoc]
 have hnew:c<m+m2→(row e k (some ⟨w.heap.size,0,none⟩) (m+m2) (grownCap w (m+m2) c e) (cs++news)).holds (w.drew.alloc (.cells (cs.toArray++news.toArray++Builtin.zeroCells zv.cells (grownCap w (m+m2) c e-(m+m2))) e)) [w.heap.size]:=by
  intro hc
  have hge:=grownCap_ge w (m+m2) c e
  refine ⟨hlen,.inr ⟨_,_,Z,heap_alloc_new w.drew _,hge,grownCap_le_maxLen w (m+m2) c e h63,?_,?_,Z⟩⟩
  ·have hz:zv.cells.size=k:=by rw[i5];simpa using ht.zl
   simp only[Array.size_append,List.size_toArray,size_zeroCells,hz,hlc,hl, ←Nat.add_mul]
   congr 1
   omega
  ·simp only[Array.toList_append,List.append_assoc]
   rw[←List.append_assoc, ←hlen]
   exact List.take_left
 have hstep:∀L:List Nat,Step w L (w.drew.alloc (.cells (cs.toArray++news.toArray++Builtin.zeroCells zv.cells (grownCap w (m+m2) c e-(m+m2))) e)) [w.heap.size]:=λL=>
  ⟨Z,Z,Z,by simp,λb hb _=>Below.heap_alloc w.drew _ b hb,λb hb=>by simp at hb;subst hb;exact .inr (Nat.le_refl _)⟩
 have hext:Ext w (w.drew.alloc (.cells (cs.toArray++news.toArray++Builtin.zeroCells zv.cells (grownCap w (m+m2) c e-(m+m2))) e)):=
  ⟨Z,Z,Z,by simp,λb hb=>Below.heap_alloc w.drew _ b hb⟩
 rcases hr with ⟨rfl,rfl,rfl⟩|⟨gb,cur,rfl,hg,hmc,hcm,hcs,htake,rfl⟩
 ·have hcs0:cs=[]:=List.eq_nil_of_length_eq_zero (by simpa using hlc)
  subst hcs0
  by_cases hm2:m2=0
  ·subst hm2
   have hn0:news=[]:=List.eq_nil_of_length_eq_zero (by simpa using hl)
   subst hn0
   refine ⟨ad,0,w,[],?_,⟨by simp,.inl ⟨Z,Z,Z⟩⟩,by simp,Step.refl _ _,λ_=>a0T w⟩
   cases ad<;>simp[Builtin.append_,run_underlying hT,sizeOf,typeInfo,i1,Builtin.lenOf,i2,hfirst,storeCells]
  ·have hc:0<0+m2:=by omega
   refine ⟨_,_,_,_,hgrow hc ?_,hnew hc,by simp,hstep _,λ_=>hext⟩
   cases ad<;>simp[Builtin.firstCells,loadCells,loadCellsFrom]
 ·by_cases hroom:m+m2≤c
  ·have hfit:m*k+news.length≤cur.size:=by rw[hl,hcs, ←Nat.add_mul];exact Nat.mul_le_mul_right _ hroom
   have hst:=run_storeCells_at P gb (m*k) e news 0 cur w hg (by simpa using hfit) h1
   simp only[Nat.add_zero] at hst
   refine ⟨_,_,w.setRow gb (cur.toList.take (m*k)++news++cur.toList.drop (m*k+news.length)).toArray,[gb],?_,⟨hlen,.inr ⟨gb,_,Z,setRow_heap w gb cur _ e _ hg,hroom,hcm,?_,?_,Z⟩⟩,by simp,Step.setRow (Array.getElem?_eq_some_iff.1 hg).1,λh=>by cases h⟩
   ·simp[Builtin.append_,run_underlying hT,sizeOf,typeInfo,i1,Builtin.lenOf,i2,hfirst,hroom,Addr.add_lit,hst]
   ·simp only[List.size_toArray,List.length_append,List.length_take,List.length_drop,Array.length_toList]
    omega
   ·rw[htake, ←hlen]
    exact List.take_left
  ·have hc:c<m+m2:=by omega
   refine ⟨_,_,_,_,hgrow hc ?_,hnew hc,by simp,hstep _,λh=>by cases h⟩
   refine run_firstCells_some (P:=P) w.drew k m ⟨gb,0,none⟩ m c cs hlc (λj v hj=>?_)
   rw[←htake] at hj
   rw[List.getElem?_take] at hj
   split at hj
   ·have:w.cell? ⟨gb,j,none⟩=some v:=by simpa[World.cell?,hg] using hj
    by_cases e0:j=0
    ·subst e0;simpa[Addr.add] using this
    ·simpa[Addr.add,e0] using this
   ·cases hj
theorem N.app {T e:TypeId} {agg:Bool} {k m c:Nat} {z:List Value} {by':Nat} {x y:Operand} {ad a2:Option Addr} {m2 c2:Nat} {cs news:List Value} (hT:P.underlying T=some (.slice e)) (ht:TyOk P e agg k z by') (hk:0<k)
  (hx:ev fr x=some (.slice ad m c)) (hy:ev fr y=some (.slice a2 m2 c2)) (hsrc:∀w,Hp w0 L0 (row e k ad m c cs::R) w→Src w0 L0 (row e k ad m c cs::R) a2 m2 news) (hl:news.length=m2*k) (h1:∀u∈news,u.oneCell'=true)
  (h63:m+m2≤maxLen) (hbytes:(m+m2)*by'≤140737488355328) (hd:d<n):
  Nop P Q n w0 L0 fr (row e k ad m c cs::R) ⟨some d,.call ⟨.builtin .append, #[x,y], #[T,T]⟩,ty,pos,af,g⟩ false (κ:=Option Addr×Nat) (λp=>(d,.slice p.1 (m+m2) p.2)::fr) (λp=>row e k p.1 (m+m2) p.2 (cs++news)::R) (λ_=>True):=λK hK a w ha hw=>by
 obtain ⟨L',hL'⟩:=hw.mem (List.mem_cons_self ..)
 have hsrc':(m2=0∧news=[])∨ ∃b o,a2=some ⟨b,o,none⟩∧L9 w b o news:=(hsrc w hw).imp id λ⟨b,o,h1,h2⟩=>⟨b,o,h1,h2 w hw⟩
 obtain ⟨L,⟨L1,L2,rfl,hrow,hR⟩,hn,hst⟩:=hw
 obtain ⟨a',c',w',L'',r1,r2,r3,r4,-⟩:=a3P (P:=P) (ty:=ty) (c2:=c2) hT ht hk hrow hsrc' hl h1 h63 hbytes
 obtain ⟨k1,k2,k3⟩:=hst.call hn hR.inh r4 r3
 have hrun:(execOp a.eval ⟨some d,.call ⟨.builtin .append, #[x,y], #[T,T]⟩,ty,pos,af,g⟩).run P w= .ok (.value (.slice a' (m+m2) c')) w':=by
  simp only[execOp,resolve,ha.ev hx,ha.ev hy,List.map_toArray,List.map_cons,List.map_nil,Sem.run_bind,Sem.run_pure,Result.andThen_ok,invoke,builtin,r1]
 rw[Oper.wp,hrun]
 exact hK (a',c') trivial w _ _ (ha.put hd _) ⟨L''++L2,⟨L'',L2,Z,r2,hR.stable k3⟩,k2,k1⟩ (by simp)
end

def a5y (P : Program) (f : FuncId) : Prop := ∃ fn, P.funcs[f]? = some fn ∧ fn.body.isNone = false ∧ (fn.name == "runtime.NumGoroutine") = false
def Tr (P:Program) (f:FuncId) (args:List Value) (R:World→List Nat→Prop) (pre:List HP) {κ:Type} (φ:κ→Prop) (ret:κ→Value) (post:κ→List HP):Prop:=
 a5y P f∧∀w L,R w L→Sep pre w L→L.Nodup→Calls P f args.toArray w λe w'=>∃k,φ k∧e= .returned (ret k)∧Hp w L (post k) w'
def c1e {α:Type}:List α→Bool
 |[]=>true
 |_=>false
section
variable {P:Program} {Q:Exit→Act→World→Prop} {n:Nat} {w0:World} {L0:List Nat} {fr:Fr} {H R:List HP} {d:Nat} {ty:TypeId} {pos:String} {af:Array Edge} {g:Option (Nat×Bool)}
structure At (w0:World) (L0:List Nat) (pre rest:List HP) (w:World) (Lp:List Nat):Prop where
 mk'::ex:∃Lr,Sep pre w Lp∧Sep rest w Lr∧(Lp++Lr).Nodup∧Step w0 L0 w (Lp++Lr)
def evs (fr:Fr):List Operand→Option (List Value)
 |[]=>some []
 |x::xs=>match ev fr x,evs fr xs with
  |some v,some vs=>some (v::vs)
  |_,_=>none
theorem b8r {a:Act} (ha:Fr.ok n fr a):∀(l:List Operand) (vs:List Value),evs fr l=some vs→l.map a.eval=vs:=by
 intro l
 induction l with
 |nil=>intro vs hv;simp[evs] at hv;subst hv;rfl
 |cons x xs ih=>
  intro vs hv
  simp only[evs] at hv
  split at hv
  ·rename_i v vs' h1 h2
   cases hv
   simp[ih _ h2,ha.ev h1]
  ·cases hv
theorem N.call {f:FuncId} {x:Operand} {caps:Array Value} {xs:Array Operand} {ts:Array TypeId} {vs args:List Value} {RR:World→List Nat→Prop} {pre rest:List HP} {κ:Type} {φ:κ→Prop} {ret:κ→Value} {post:κ→List HP}
  (tr:Tr P f args RR pre φ ret post) (hx:ev fr x=some (.func (.func f) #[] caps)) (hxs:evs fr xs.toList=some vs) (hargs:vs++caps.toList=args) (hd:d<n)
  (hH:H=pre++rest) (hR:∀w Lp,At w0 L0 pre rest w Lp→RR w Lp):
  Nop P Q n w0 L0 fr H ⟨some d,.call ⟨.value x,xs,ts⟩,ty,pos,af,g⟩ (c1e pre) (κ:=κ) (λk=>(d,ret k)::fr) (λk=>post k++rest) φ:=λK hK a w ha hw=>by
 obtain ⟨⟨fn,f1,f2,f3⟩,tr⟩:=tr
 subst hH
 have hw':=hw
 obtain ⟨L,hs,hn,hst⟩:=hw
 obtain ⟨Lp,Lr,rfl,h1,h2⟩:=Sep.append.1 hs
 have hcall:=tr w Lp (hR w Lp ⟨⟨Lr,h1,h2,hn,hst⟩⟩) h1 (List.nodup_append.1 hn).1
 have e:=b8r ha _ _ hxs
 have hargs':(xs.map a.eval)++caps=args.toArray:=by
  apply Array.ext'
  rw[←hargs,Array.toList_append,Array.toList_map,e]
 have hrun:(execOp a.eval ⟨some d,.call ⟨.value x,xs,ts⟩,ty,pos,af,g⟩).run P w= .ok (.enter f args.toArray) w:=by
  have f2':¬fn.body=none:=λh=>by rw[h] at f2;cases f2
  have f3' : ¬ fn.name = "runtime.NumGoroutine" := by simpa using f3
  rw[←hargs']
  simp[execOp,resolve,ha.ev hx,Deferred.ofValue,invoke,callFunc,f1,f2',f3']
 rw[Oper.wp,hrun,Oper.upon_enter]
 refine hcall.mono ?_
 rintro e w' ⟨k,hk,rfl,hp⟩
 refine hK k hk w _ w' (ha.put hd _) ?_ ?_
 ·obtain ⟨Lp',p1,p2,p3⟩:=hp
  obtain ⟨k1,k2,k3⟩:=hst.call hn h2.inh p3 p2
  exact ⟨Lp'++Lr,Sep.append.2 ⟨Lp',Lr,Z,p1,h2.stable k3⟩,k2,k1⟩
 ·intro hq
  cases pre with
  |nil=>
   rw[Sep] at h1;subst h1
   obtain ⟨Lp',p1,p2,p3⟩:=hp
   exact p3.below
  |cons _ _=>cases hq
end

def c1k (args:List Value):Fr:=args.zipIdx.map λp=>(p.2,p.1)
theorem c0f {P:Program} {args:List Value} {n:Nat} (hn:args.length≤n):Fr.ok n (c1k args) { tmps:=args.toArray++Array.replicate (n-args.toArray.size) undef,defers:=[] }:=by
 refine ⟨by simp;omega,Z,λi v h=>?_⟩
 have key:∀(l:List Value) (k i:Nat) (v:Value),((l.zipIdx k).map λp=>(p.2,p.1)).lookup i=some v→k≤i∧l[i-k]? =some v:=by
  intro l
  induction l with
  |nil=>intro k i v h;cases h
  |cons x xs ih=>
   intro k i v h
   rw[List.zipIdx_cons,List.map_cons,List.lookup_cons] at h
   by_cases e:i=k
   ·subst e;simp at h;subst h;simp
   ·have:(i==k)=false:=by simp[e]
    rw[this] at h
    obtain ⟨h1,h2⟩:=ih _ _ _ h
    refine ⟨by omega,?_⟩
    rw[show i-k=(i-(k+1))+1 from by omega]
    simpa using h2
 obtain ⟨_,h2⟩:=key args 0 i v h
 simp only[Nat.sub_zero] at h2
 have hlt:i<args.length:=(List.getElem?_eq_some_iff.1 h2).1
 rw[Array.getElem?_append_left (by simpa using hlt)]
 simpa using h2
section
variable {P:Program} {f:FuncId} {args:List Value} {RR:World→List Nat→Prop} {pre:List HP} {κ:Type} {φ:κ→Prop} {ret:κ→Value} {post:κ→List HP}
def Fin (φ:κ→Prop) (ret:κ→Value) (post:κ→List HP) (w:World) (L:List Nat):Ending→World→Prop:=λe w'=>∃k,φ k∧e= .returned (ret k)∧Hp w L (post k) w'
theorem Tr.intro {fn : Func} {c : Code} {n : Nat} {fr : Fr} (hf : P.funcs[f]? = some fn) (hb : fn.body = some c) (hn : fn.ntmps = n) (hname : (fn.name == "runtime.NumGoroutine") = false) (hlen : args.length ≤ n) (hfr : c1k args = fr)
  (h:∀w L,RR w L→Ent n w L fr pre (c.wp P (bodyPost P fn (Fin φ ret post w L)))):Tr P f args RR pre φ ret post:=by
 refine ⟨⟨fn,hf,by rw[hb];rfl,hname⟩,λw L hr hs hnd=>?_⟩
 subst hn;subst hfr
 exact calls_of_wp hf hb (h w L hr _ w (c0f (P:=P) hlen) ⟨L,hs,hnd,Step.refl w L⟩)
theorem Tr.mono {κ':Type} {φ':κ'→Prop} {ret':κ'→Value} {post':κ'→List HP} {RR':World→List Nat→Prop} (h:Tr P f args RR pre φ ret post) (hR:∀w L,RR' w L→RR w L)
  (hk:∀k,φ k→∃k',φ' k'∧ret k=ret' k'∧∀w0 L0 w,Hp w0 L0 (post k) w→Hp w0 L0 (post' k') w):Tr P f args RR' pre φ' ret' post':=by
 refine ⟨h.1,λw L hr hs hnd=>(h.2 w L (hR w L hr) hs hnd).mono ?_⟩
 rintro e w' ⟨k,hk1,rfl,hp⟩
 obtain ⟨k',h1,h2,h3⟩:=hk k hk1
 exact ⟨k',h1,by rw[h2],h3 _ _ _ hp⟩
end
theorem Hp.part {w0 w:World} {L0:List Nat} {H A J:List HP} (hp:H.Perm (A++J)) (h:Hp w0 L0 H w):Hp w0 L0 A w:=by
 have h':=h.perm hp
 clear h hp
 induction J generalizing A with
 |nil=>simpa using h'
 |cons j js ih=>exact ih ((h'.perm (List.perm_middle)).tail)
section
variable {P:Program} {n:Nat} {w0:World} {L0:List Nat} {fr:Fr} {H:List HP} {fn:Func} {κ:Type} {φ:κ→Prop} {ret:κ→Value} {post:κ→List HP}
def a0G (w1:World) (L1:List Nat) (w0:World) (L0:List Nat):Prop:=∀X w,Hp w1 L1 X w→Hp w0 L0 X w
theorem a0G.refl (w:World) (L:List Nat):a0G w L w L:=λ_ _ h=>h
theorem a0G.comp {w2 w1 w0:World} {L2 L1 L0:List Nat} (h:a0G w1 L1 w0 L0) (k:a0G w2 L2 w1 L1):a0G w2 L2 w0 L0:=λX w x=>h X w (k X w x)
variable {wb:World} {Lb:List Nat}
theorem a4i (hb:a0G w0 L0 wb Lb) {e:Exit} (he:e= .ret∨e= .normal) {v:Value} (k:κ) (hk:φ k) (hv:v=ret k) {J:List HP} (hH:H.Perm (post k++J))
  (hr:∀a w,Fr.ok n fr a→Hp w0 L0 H w→(results fn a.tmps).run P w= .ok v w):Ent n w0 L0 fr H (bodyPost P fn (Fin φ ret post wb Lb) e):=λa w h1 h2=>by
 have:bodyPost P fn (Fin φ ret post wb Lb) .ret a w:=⟨h1.defers,v,hr a w h1 h2,k,hk,by rw[hv],hb _ _ (h2.part hH)⟩
 rcases he with rfl|rfl<;>exact this
theorem F.r1 (hb:a0G w0 L0 wb Lb) {e:Exit} {t:Nat} {v:Value} (hres:fn.results= #[.tmp t]) (hv:fr.lookup t=some v) (k:κ) (hk:φ k) (hr:v=ret k) {J:List HP} (hH:H.Perm (post k++J)) (he:e= .ret∨e= .normal):Ent n w0 L0 fr H (bodyPost P fn (Fin φ ret post wb Lb) e):=
 a4i hb he k hk hr hH λa w h1 _=>by
  rw[results_tmp hres]
  have:=h1.ev (x:=.tmp t) hv
  simp only[Act.eval] at this
  rw[this]
theorem b2n (hb:a0G w0 L0 wb Lb) {e:Exit} {t u:Nat} {v v':Value} (hres:fn.results= #[.tmp t,.tmp u]) (hv:fr.lookup t=some v) (hv':fr.lookup u=some v') (k:κ) (hk:φ k) (hr: .tuple #[v,v']=ret k) {J:List HP} (hH:H.Perm (post k++J)) (he:e= .ret∨e= .normal):Ent n w0 L0 fr H (bodyPost P fn (Fin φ ret post wb Lb) e):=
 a4i hb he k hk hr hH λa w h1 _=>by
  rw[results_tmp2 hres]
  have:=h1.ev (x:=.tmp t) hv
  have h2:=h1.ev (x:=.tmp u) hv'
  simp only[Act.eval] at this h2
  rw[this,h2]
theorem N7 (hb:a0G w0 L0 wb Lb) {e:Exit} {t b:Nat} {T T':TypeId} {k':Nat} {z:List Value} {by':Nat} {cs:List Value} (hres:fn.results= #[.cell t T]) (hv:fr.lookup t=some (.pointer (some ⟨b,0,none⟩))) (hm:pt b T' cs∈H) (ht:TyOk P T true k' z by') (hl:cs.length=k')
  (k:κ) (hk:φ k) (hr: .agg cs.toArray=ret k) {J:List HP} (hH:H.Perm (post k++J)) (he:e= .ret∨e= .normal):Ent n w0 L0 fr H (bodyPost P fn (Fin φ ret post wb Lb) e):=
 a4i hb he k hk hr hH λa w h1 h2=>by
  have h3:=h1.ev (x:=.tmp t) hv
  simp only[Act.eval] at h3
  have h4:=((Has.pt (w0:=w0) (L0:=L0) hm) w h2).run_load (P:=P) (v:=.agg cs.toArray) ht hl Z (λh=>by cases h)
  simp only[Instr.loadAt,Instr.sureAddr,Sem.run_bind,Sem.run_pure,Result.andThen_ok] at h4
  rw[Array.getD_eq_getD_getElem?] at h3
  simp[results,hres,h3,asAddr,h4]
theorem a1z (hb:a0G w0 L0 wb Lb) {e:Exit} {t u b:Nat} {T T':TypeId} {k':Nat} {z:List Value} {by':Nat} {cs:List Value} {v':Value} (hres:fn.results= #[.cell t T,.tmp u]) (hv:fr.lookup t=some (.pointer (some ⟨b,0,none⟩))) (hv':fr.lookup u=some v') (hm:pt b T' cs∈H) (ht:TyOk P T true k' z by') (hl:cs.length=k')
  (k:κ) (hk:φ k) (hr: .tuple #[.agg cs.toArray,v']=ret k) {J:List HP} (hH:H.Perm (post k++J)) (he:e= .ret∨e= .normal):Ent n w0 L0 fr H (bodyPost P fn (Fin φ ret post wb Lb) e):=
 a4i hb he k hk hr hH λa w h1 h2=>by
  have h3:=h1.ev (x:=.tmp t) hv
  have h5:=h1.ev (x:=.tmp u) hv'
  simp only[Act.eval] at h3 h5
  have h4:=((Has.pt (w0:=w0) (L0:=L0) hm) w h2).run_load (P:=P) (v:=.agg cs.toArray) ht hl Z (λh=>by cases h)
  simp only[Instr.loadAt,Instr.sureAddr,Sem.run_bind,Sem.run_pure,Result.andThen_ok] at h4
  rw[Array.getD_eq_getD_getElem?] at h3 h5
  simp[results,hres,h3,h5,asAddr,h4]
end
end Go.Proofs.YthapcdhdfaibkaaGreatDoor

namespace Go.Proofs.YthapcdhdfaibkaaGreatDoor
open Go.RowKit
set_option linter.all false

structure Enc (α:Type) where
 k:Nat
 pos:0<k
 rep:World→List Value→α→List Nat→Bool→Prop
 len:∀{w cs x L o},rep w cs x L o→cs.length=k
 one:∀{w cs x L o},rep w cs x L o→∀u∈cs,u.oneCell'=true
 stable:∀{w w':World} {cs x L o},rep w cs x L o→(∀b∈L,w'.heap[b]? =w.heap[b]?)→rep w' cs x L o
 inh:∀{w cs x L o},rep w cs x L o→∀b∈L,b<w.heap.size
 ro:∀{w cs x L},rep w cs x L true→∃L',(∀b∈L',b∈L)∧rep w cs x L' false
def c6N:Int:=-9223372036854775808
def c6M:Int:=9223372036854775807
def I64 (x:Int):Prop:=-9223372036854775808≤x∧x≤9223372036854775807
def Enc.int:Enc Int where
 k:=1
 pos:=by decide
 rep _ cs x L _:=cs=[.int .i64 x]∧I64 x∧L=[]
 len h:=by rw[h.1];rfl
 one h:=by rw[h.1];simp[Value.oneCell']
 stable h _:=h
 inh h:=by rw[h.2.2];simp
 ro h:=⟨[],by simp,h.1,h.2.1,Z⟩
def Enc.bool:Enc Bool where
 k:=1
 pos:=by decide
 rep _ cs x L _:=cs=[.bool x]∧L=[]
 len h:=by rw[h.1];rfl
 one h:=by rw[h.1];simp[Value.oneCell']
 stable h _:=h
 inh h:=by rw[h.2];simp
 ro h:=⟨[],by simp,h.1,Z⟩
def Enc.pair {α β:Type} (E:Enc α) (F:Enc β):Enc (α×β) where
 k:=E.k+F.k
 pos:=by have:=E.pos;omega
 rep w cs x L o:=∃c1 c2 L1 L2,cs=c1++c2∧L=L1++L2∧E.rep w c1 x.1 L1 o∧F.rep w c2 x.2 L2 o
 len:=by rintro w cs x L o ⟨c1,c2,L1,L2,rfl,rfl,h1,h2⟩;simp[E.len h1,F.len h2]
 one:=by
  rintro w cs x L o ⟨c1,c2,L1,L2,rfl,rfl,h1,h2⟩ u hu
  rcases List.mem_append.1 hu with hu|hu
  ·exact E.one h1 u hu
  ·exact F.one h2 u hu
 stable:=by
  rintro w w' cs x L o ⟨c1,c2,L1,L2,rfl,rfl,h1,h2⟩ hb
  exact ⟨c1,c2,L1,L2,Z,Z,E.stable h1 λb hm=>hb b (by simp[hm]),F.stable h2 λb hm=>hb b (by simp[hm])⟩
 inh:=by
  rintro w cs x L o ⟨c1,c2,L1,L2,rfl,rfl,h1,h2⟩ b hb
  rcases List.mem_append.1 hb with hb|hb
  ·exact E.inh h1 b hb
  ·exact F.inh h2 b hb
 ro:=by
  rintro w cs x L ⟨c1,c2,L1,L2,rfl,rfl,h1,h2⟩
  obtain ⟨M1,m1,m2⟩:=E.ro h1
  obtain ⟨M2,m3,m4⟩:=F.ro h2
  exact ⟨M1++M2,λb hb=>by rcases List.mem_append.1 hb with hb|hb;(simp[m1 b hb]);(simp[m3 b hb]),c1,c2,M1,M2,Z,Z,m2,m4⟩
def y8 {α:Type} (E:Enc α) (w:World):List Value→List α→List Nat→Bool→Prop
 |cs,[],L,_=>cs=[]∧L=[]
 |cs,x::xs,L,o=>∃c1 c2 L1 L2,cs=c1++c2∧L=L1++L2∧E.rep w c1 x L1 o∧y8 E w c2 xs L2 o
section
variable {α:Type} {E:Enc α}
theorem y8.len:∀{xs:List α} {w:World} {cs:List Value} {L:List Nat} {o:Bool},y8 E w cs xs L o→cs.length=xs.length*E.k
 |[],_,_,_,_,h=>by rw[h.1];simp
 |x::xs,_,_,_,_,⟨c1,c2,L1,L2,h1,_,h3,h4⟩=>by rw[h1,List.length_append,E.len h3,y8.len h4,List.length_cons,Nat.succ_mul];omega
theorem y8.one:∀{xs:List α} {w:World} {cs:List Value} {L:List Nat} {o:Bool},y8 E w cs xs L o→∀u∈cs,u.oneCell'=true
 |[],_,_,_,_,h,u,hu=>by rw[h.1] at hu;cases hu
 |x::xs,_,_,_,_,⟨c1,c2,L1,L2,h1,_,h3,h4⟩,u,hu=>by
  rw[h1] at hu
  rcases List.mem_append.1 hu with hu|hu
  ·exact E.one h3 u hu
  ·exact y8.one h4 u hu
theorem y8.stable {w':World}:∀{xs:List α} {w:World} {cs:List Value} {L:List Nat} {o:Bool},y8 E w cs xs L o→(∀b∈L,w'.heap[b]? =w.heap[b]?)→y8 E w' cs xs L o
 |[],_,_,_,_,h,_=>h
 |x::xs,_,_,_,_,⟨c1,c2,L1,L2,h1,h2,h3,h4⟩,hb=>
  ⟨c1,c2,L1,L2,h1,h2,E.stable h3 λb hm=>hb b (by simp[h2,hm]),y8.stable h4 λb hm=>hb b (by simp[h2,hm])⟩
theorem y8.inh:∀{xs:List α} {w:World} {cs:List Value} {L:List Nat} {o:Bool},y8 E w cs xs L o→∀b∈L,b<w.heap.size
 |[],_,_,_,_,h,b,hb=>by rw[h.2] at hb;cases hb
 |x::xs,_,_,_,_,⟨c1,c2,L1,L2,h1,h2,h3,h4⟩,b,hb=>by
  rw[h2] at hb
  rcases List.mem_append.1 hb with hb|hb
  ·exact E.inh h3 b hb
  ·exact y8.inh h4 b hb
theorem y8.ro:∀{xs:List α} {w:World} {cs:List Value} {L:List Nat},y8 E w cs xs L true→∃L',(∀b∈L',b∈L)∧y8 E w cs xs L' false
 |[],_,_,_,h=>⟨[],by simp,h.1,Z⟩
 |x::xs,_,_,_,⟨c1,c2,L1,L2,h1,h2,h3,h4⟩=>by
  obtain ⟨M1,m1,m2⟩:=E.ro h3
  obtain ⟨M2,m3,m4⟩:=y8.ro h4
  exact ⟨M1++M2,λb hb=>by rcases List.mem_append.1 hb with hb|hb;(simp[h2,m1 b hb]);(simp[h2,m3 b hb]),c1,c2,M1,M2,h1,Z,m2,m4⟩
theorem y8.app:∀{xs:List α} {ys:List α} {w:World} {cs cs':List Value} {L L':List Nat} {o:Bool},y8 E w cs xs L o→y8 E w cs' ys L' o→y8 E w (cs++cs') (xs++ys) (L++L') o
 |[],_,_,_,_,_,_,_,h,h'=>by rw[h.1,h.2];simpa using h'
 |x::xs,ys,w,_,_,_,_,o,⟨c1,c2,L1,L2,h1,h2,h3,h4⟩,h'=>
  ⟨c1,c2++_,L1,L2++_,by simp[h1],by simp[h2],h3,y8.app h4 h'⟩
theorem a3I {w:World} {cs:List Value} {x:α} {L:List Nat} {o:Bool} (h:E.rep w cs x L o):y8 E w cs [x] L o:=⟨cs,[],L,[],by simp,by simp,h,Z,Z⟩
theorem y8.split:∀{xs ys:List α} {w:World} {cs:List Value} {L:List Nat} {o:Bool},y8 E w cs (xs++ys) L o→∃c1 c2 L1 L2,cs=c1++c2∧L=L1++L2∧y8 E w c1 xs L1 o∧y8 E w c2 ys L2 o
 |[],_,_,cs,L,_,h=>⟨[],cs,[],L,Z,Z,⟨Z,Z⟩,h⟩
 |x::xs,ys,_,_,_,_,⟨c1,c2,L1,L2,h1,h2,h3,h4⟩=>by
  obtain ⟨d1,d2,M1,M2,e1,e2,e3,e4⟩:=y8.split h4
  exact ⟨c1++d1,d2,L1++M1,M2,by simp[h1,e1],by simp[h2,e2],⟨c1,d1,L1,M1,Z,Z,h3,e3⟩,e4⟩
theorem y8.get {xs:List α} {w:World} {cs:List Value} {L:List Nat} {o:Bool} (h:y8 E w cs xs L o) (i:Nat) (hi:i<xs.length):
  ∃L',(∀b∈L',b∈L)∧E.rep w ((cs.drop (i*E.k)).take E.k) xs[i] L' o:=by
 have hx:xs=xs.take i++(xs[i]::xs.drop (i+1)):=by simp
 rw[hx] at h
 obtain ⟨c1,c2,L1,L2,h1,h2,h3,d1,d2,M1,M2,e1,e2,e3,e4⟩:=h.split
 refine ⟨M1,λb hb=>by simp[h2,e2,hb],?_⟩
 have hl1:c1.length=i*E.k:=by rw[h3.len,List.length_take,Nat.min_eq_left (by omega)]
 have hl2:=E.len e3
 have:(cs.drop (i*E.k)).take E.k=d1:=by
  rw[h1,e1, ←hl1,List.drop_left, ←hl2,List.take_left]
 rw[this];exact e3
end
def ints (xs:List Int):List Value:=xs.map (.int .i64)
theorem y8.ints {xs:List Int}:∀{w:World} {cs:List Value} {L:List Nat} {o:Bool},y8 Enc.int w cs xs L o↔cs=ints xs∧(∀x∈xs,I64 x)∧L=[]:=by
 induction xs with
 |nil=>intro w cs L o;simp[y8,Go.Proofs.YthapcdhdfaibkaaGreatDoor.ints]
 |cons x xs ih=>
  intro w cs L o
  constructor
  ·rintro ⟨c1,c2,L1,L2,rfl,rfl,⟨rfl,h1,rfl⟩,h2⟩
   obtain ⟨rfl,h3,rfl⟩:=ih.1 h2
   exact ⟨Z,by simpa using ⟨h1,h3⟩,Z⟩
  ·rintro ⟨rfl,h1,rfl⟩
   exact ⟨[_],_,[],[],Z,Z,⟨Z,h1 x (by simp),Z⟩,ih.2 ⟨Z,λy hy=>h1 y (by simp[hy]),Z⟩⟩
def c4m (w:World) (a:Option Addr) (m c:Nat) (cs:List Value) (L:List Nat):Prop:=(m≤c∧c≤maxLen)∧((cs=[]∧L=[])∨ ∃b off,a=some ⟨b,off,none⟩∧L9 w b off cs∧b<w.heap.size∧L=[b])
def Enc.sl {α:Type} (e:TypeId) (E:Enc α):Enc (List α) where
 k:=1
 pos:=by decide
 rep w cs xs L o:=∃a m c ccs L1 L2,cs=[.slice a m c]∧m=xs.length∧m≤maxLen∧L=L1++L2∧y8 E w ccs xs L2 o∧(if o then (row e E.k a m c ccs).holds w L1 else c4m w a m c ccs L1)
 len:=by rintro w cs xs L o ⟨a,m,c,ccs,L1,L2,rfl,_⟩;rfl
 one:=by rintro w cs xs L o ⟨a,m,c,ccs,L1,L2,rfl,_⟩;simp[Value.oneCell']
 stable:=by
  rintro w w' cs xs L o ⟨a,m,c,ccs,L1,L2,h1,h2,h3,rfl,h4,h5⟩ hb
  refine ⟨a,m,c,ccs,L1,L2,h1,h2,h3,Z,h4.stable λb hm=>hb b (by simp[hm]),?_⟩
  cases o
  ·obtain ⟨hc,h5⟩:=h5
   rcases h5 with h5|⟨b,off,h6,h7,h8,rfl⟩
   ·exact ⟨hc,.inl h5⟩
   ·have hs:=hb b (by simp)
    exact ⟨hc,.inr ⟨b,off,h6,h7.same hs,(Array.getElem?_eq_some_iff.1 (hs.trans (Array.getElem?_eq_getElem h8))).1,Z⟩⟩
  ·exact (row e E.k a m c ccs).stable h5 λb hm=>hb b (by simp[hm])
 inh:=by
  rintro w cs xs L o ⟨a,m,c,ccs,L1,L2,h1,h2,h3,rfl,h4,h5⟩ b hb
  rcases List.mem_append.1 hb with hb|hb
  ·cases o
   ·rcases h5 with ⟨_,⟨_,rfl⟩|⟨b',off,h6,h7,h8,rfl⟩⟩
    ·cases hb
    ·simp at hb;subst hb;exact h8
   ·exact (row e E.k a m c ccs).inh h5 b hb
  ·exact h4.inh b hb
 ro:=by
  rintro w cs xs L ⟨a,m,c,ccs,L1,L2,h1,h2,h3,rfl,h4,h5⟩
  obtain ⟨M2,m1,m2⟩:=h4.ro
  rcases h5 with ⟨h6,⟨rfl,rfl,rfl⟩|⟨g,cur,rfl,h7,h8,h9,h10,h11,rfl⟩⟩
  ·have:ccs=[]:=List.eq_nil_of_length_eq_zero (by simpa using h6)
   subst this
   exact ⟨M2,λb hb=>by simp[m1 b hb],a,0,0,[],[],M2,h1,h2,h3,Z,m2,⟨Nat.le_refl _,Nat.zero_le _⟩,.inl ⟨Z,Z⟩⟩
  ·refine ⟨[g]++M2,λb hb=>?_,_,m,c,ccs,[g],M2,h1,h2,h3,Z,m2,⟨h8,h9⟩,.inr ⟨g,0,Z,λj v hj=>?_,(Array.getElem?_eq_some_iff.1 h7).1,Z⟩⟩
   ·rcases List.mem_append.1 hb with hb|hb
    ·exact List.mem_append.2 (.inl hb)
    ·simp[m1 b hb]
   ·rw[←h11,List.getElem?_take] at hj
    split at hj
    ·simpa[World.cell?,h7] using hj
    ·cases hj

def ow {α:Type} (E:Enc α) (cs:List Value) (x:α):HP where
 holds w L:=E.rep w cs x L true
 stable:=E.stable
 inh:=E.inh
def els {α:Type} (E:Enc α) (cs:List Value) (xs:List α):HP where
 holds w L:=y8 E w cs xs L true
 stable:=y8.stable
 inh:=y8.inh

def Ro {α:Type} (w0:World) (L0:List Nat) (E:Enc α) (cs:List Value) (x:α):Prop:=∃L,E.rep w0 cs x L false∧∀b∈L,b∉L0
section
variable {α β:Type} {E:Enc α} {F:Enc β} {w0 w:World} {L0 Lp:List Nat} {H pre rest:List HP} {cs:List Value} {x:α}
theorem Ro.int {x:Int} (h:Ro w0 L0 Enc.int cs x):cs=[.int .i64 x]∧I64 x:=let ⟨_,h1,_⟩:=h;⟨h1.1,h1.2.1⟩
theorem W7 {x:Int} (h:I64 x):Ro w0 L0 Enc.int [.int .i64 x] x:=⟨[],⟨Z,h,Z⟩,by simp⟩
theorem Ro.bool {x:Bool} (h:Ro w0 L0 Enc.bool cs x):cs=[.bool x]:=let ⟨_,h1,_⟩:=h;h1.1
theorem Ro.pair {x:α×β} (h:Ro w0 L0 (Enc.pair E F) cs x):∃c1 c2,cs=c1++c2∧Ro w0 L0 E c1 x.1∧Ro w0 L0 F c2 x.2:=by
 obtain ⟨L,⟨c1,c2,L1,L2,rfl,rfl,h1,h2⟩,h3⟩:=h
 exact ⟨c1,c2,Z,⟨L1,h1,λb hb=>h3 b (by simp[hb])⟩,⟨L2,h2,λb hb=>h3 b (by simp[hb])⟩⟩
theorem U4 {c1 c2:List Value} {x:α×β} (h1:Ro w0 L0 E c1 x.1) (h2:Ro w0 L0 F c2 x.2):Ro w0 L0 (Enc.pair E F) (c1++c2) x:=by
 obtain ⟨L1,h1,h3⟩:=h1
 obtain ⟨L2,h2,h4⟩:=h2
 exact ⟨L1++L2,⟨c1,c2,L1,L2,Z,Z,h1,h2⟩,λb hb=>by rcases List.mem_append.1 hb with hb|hb;(exact h3 b hb);(exact h4 b hb)⟩
theorem Ro.len (h:Ro w0 L0 E cs x):cs.length=E.k:=let ⟨_,h1,_⟩:=h;E.len h1
theorem Ro.one (h:Ro w0 L0 E cs x):∀u∈cs,u.oneCell'=true:=let ⟨_,h1,_⟩:=h;E.one h1
theorem Ro.sl {e:TypeId} {xs:List α} (h:Ro w0 L0 (Enc.sl e E) cs xs):∃a c,cs=[.slice a xs.length c]:=by
 obtain ⟨L,⟨a,m,c,ccs,L1,L2,h1,rfl,_⟩,_⟩:=h
 exact ⟨a,c,h1⟩
theorem Ro.slen {e:TypeId} {xs:List α} {a:Option Addr} {m c:Nat} (h:Ro w0 L0 (Enc.sl e E) [.slice a m c] xs):m=xs.length∧m≤9223372036854775807:=by
 obtain ⟨L,⟨a,m,c,ccs,L1,L2,h1,h2,h3,_⟩,_⟩:=h
 simp only[List.cons.injEq,Value.slice.injEq,and_true] at h1
 obtain ⟨rfl,rfl,rfl⟩:=h1
 exact ⟨h2,h3⟩
theorem Step.rep {L:List Nat} {L':List Nat} (hs:Step w0 L0 w L) (h:E.rep w0 cs x L' false) (hd:∀b∈L',b∉L0):E.rep w cs x L' false∧∀b∈L',b∉L:=
 ⟨E.stable h λb hb=>hs.keep b (E.inh h b hb) (hd b hb),λb hb hb'=>by
  rcases hs.sub b hb' with h1|h1
  ·exact hd b hb h1
  ·have:=E.inh h b hb;omega⟩
theorem At.ro (hA:At w0 L0 pre rest w Lp) (h:Ro w0 L0 E cs x):Ro w Lp E cs x:=by
 obtain ⟨⟨Lr,h1,h2,h3,h4⟩⟩:=hA
 obtain ⟨L',r1,r2⟩:=h
 obtain ⟨r3,r4⟩:=h4.rep r1 r2
 exact ⟨L',r3,λb hb hp=>r4 b hb (by simp[hp])⟩
theorem At.ow (hA:At w0 L0 pre rest w Lp) (hm:ow E cs x∈rest):Ro w Lp E cs x:=by
 obtain ⟨⟨Lr,h1,h2,h3,h4⟩⟩:=hA
 obtain ⟨L',r1,r2⟩:=h2.mem hm
 obtain ⟨L'',r3,r4⟩:=E.ro r1
 exact ⟨L'',r4,λb hb hp=>(List.nodup_append.1 h3).2.2 b hp b (r2 b (r3 b hb)) Z⟩
theorem a8w {b off:Nat} {c:List Value} {L':List Nat} (hb:b∈L') (hlt:∀b∈L',b<w0.heap.size) (hd:∀b∈L',b∉L0) (h:L9 w0 b off c):Has w0 L0 H b off c:=λw hw=>by
 obtain ⟨L,hs⟩:=hw.step
 exact h.same (hs.keep b (hlt b hb) (hd b hb))
theorem Ro.cap {e:TypeId} {xs:List α} {a:Option Addr} {m c:Nat} (h:Ro w0 L0 (Enc.sl e E) [.slice a m c] xs):m≤c∧c≤9223372036854775807:=by
 obtain ⟨L,⟨a',m',c',ccs,L1,L2,h1,h2,h3,_,h4,h5⟩,_⟩:=h
 simp only[List.cons.injEq,Value.slice.injEq,and_true] at h1
 obtain ⟨rfl,rfl,rfl⟩:=h1
 exact h5.1
theorem Ro.none_nil {e:TypeId} {xs:List α} {m c:Nat} (h:Ro w0 L0 (Enc.sl e E) [.slice none m c] xs):xs=[]:=by
 obtain ⟨L,⟨a',m',c',ccs,L1,L2,h1,h2,h3,_,h4,h5⟩,_⟩:=h
 simp only[List.cons.injEq,Value.slice.injEq,and_true] at h1
 obtain ⟨rfl,rfl,rfl⟩:=h1
 rcases h5 with ⟨_,⟨rfl,rfl⟩|⟨b,off,h6,_⟩⟩
 ·have h6:=h4.len
  rcases xs with _|⟨x,xs⟩
  ·rfl
  ·have h9:=Nat.mul_le_mul (show 1≤(x::xs).length by simp) E.pos
   simp only[List.length_nil] at h6
   omega
 ·cases h6
theorem Ro.upto {e:TypeId} {xs:List α} {a:Option Addr} {m c:Nat} (h:Ro w0 L0 (Enc.sl e E) [.slice a m c] xs) (n:Nat) (hn:n≤m):Ro w0 L0 (Enc.sl e E) [.slice a n c] (xs.take n):=by
 obtain ⟨L,⟨a',m',c',ccs,L1,L2,h1,h2,h3,rfl,h4,h5⟩,hd⟩:=h
 simp only[List.cons.injEq,Value.slice.injEq,and_true] at h1
 obtain ⟨rfl,rfl,rfl⟩:=h1
 have hcm:m≤c∧c≤maxLen:=h5.1
 have hx:xs=xs.take n++xs.drop n:=(List.take_append_drop n xs).symm
 rw[hx] at h4
 obtain ⟨c1,c2,M1,M2,rfl,rfl,g1,g2⟩:=h4.split
 refine ⟨L1++M1,⟨a,n,c,c1,L1,M1,Z,by simp;omega,Nat.le_trans hn h3,Z,g1,⟨by omega,h5.1.2⟩,?_⟩,λb hb=>hd b (by simp at hb ⊢;rcases hb with hb|hb<;>simp[hb])⟩
 rcases h5.2 with ⟨h6,h7⟩|⟨b,off,h6,h7,h8,h9⟩
 ·exact .inl ⟨(List.append_eq_nil_iff.1 h6).1,h7⟩
 ·refine .inr ⟨b,off,h6,λj v hj=>h7 j v ?_,h8,h9⟩
  rw[List.getElem?_append_left (by exact (List.getElem?_eq_some_iff.1 hj).1)];exact hj
theorem Ro.frm {e:TypeId} {xs:List α} {a:Option Addr} {m c:Nat} (h:Ro w0 L0 (Enc.sl e E) [.slice a m c] xs) (n:Nat) (hn:n≤m):Ro w0 L0 (Enc.sl e E) [.slice (if c=n then a else a.map (·.add (n*E.k))) (m-n) (c-n)] (xs.drop n):=by
 obtain ⟨L,⟨a',m',c',ccs,L1,L2,h1,h2,h3,rfl,h4,h5⟩,hd⟩:=h
 simp only[List.cons.injEq,Value.slice.injEq,and_true] at h1
 obtain ⟨rfl,rfl,rfl⟩:=h1
 have hcm:m≤c∧c≤maxLen:=h5.1
 have hx:xs=xs.take n++xs.drop n:=(List.take_append_drop n xs).symm
 rw[hx] at h4
 obtain ⟨c1,c2,M1,M2,rfl,rfl,g1,g2⟩:=h4.split
 have hl1:c1.length=n*E.k:=by rw[g1.len,List.length_take,Nat.min_eq_left (by omega)]
 have hl2:c2.length=(xs.length-n)*E.k:=by rw[g2.len,List.length_drop]
 have hbase:(m-n≤c-n∧c-n≤maxLen):=⟨by omega,by omega⟩
 by_cases hc:c=n
 ·have:c2=[]:=List.eq_nil_of_length_eq_zero (by rw[hl2,show xs.length-n=0 by omega,Nat.zero_mul])
  subst this
  exact ⟨M2,⟨_,_,_,[],[],M2,Z,by simp[h2],by omega,Z,g2,hbase,.inl ⟨Z,Z⟩⟩,λb hb=>hd b (by simp[hb])⟩
 ·rw[if_neg hc]
  rcases h5.2 with ⟨h6,h7⟩|⟨b,off,h6,h7,h8,rfl⟩
  ·exact ⟨M2,⟨_,_,_,c2,[],M2,Z,by simp[h2],by omega,Z,g2,hbase,.inl ⟨(List.append_eq_nil_iff.1 h6).2,Z⟩⟩,λb hb=>hd b (by simp[hb])⟩
  ·subst h6
   refine ⟨[b]++M2,⟨_,_,_,c2,[b],M2,Z,by simp[h2],by omega,Z,g2,hbase,.inr ⟨b,off+n*E.k,?_,λj v hj=>?_,h8,Z⟩⟩,λb' hb=>hd b' (by simp at hb ⊢;rcases hb with hb|hb<;>simp[hb])⟩
   ·show some ((⟨b,off,none⟩:Addr).add (n*E.k))=_
    unfold Addr.add
    split
    ·rename_i hz;rw[hz];rfl
    ·rfl
   ·have:=h7 (c1.length+j) v (by rw[List.getElem?_append_right (by omega),Nat.add_sub_cancel_left];exact hj)
    rw[hl1] at this
    rw[Nat.add_assoc];exact this
theorem Ro.elem {e:TypeId} {xs:List α} {a:Option Addr} {m c:Nat} (h:Ro w0 L0 (Enc.sl e E) [.slice a m c] xs) (i:Nat) (hi:i<xs.length):
  ∃b off ci,a=some ⟨b,off,none⟩∧Ro w0 L0 E ci xs[i]∧ci.length=E.k∧∀H,Has w0 L0 H b (off+i*E.k) ci:=by
 obtain ⟨L,hrep,hd⟩:=h
 have hinh:=(Enc.sl e E).inh hrep
 obtain ⟨a',m',c',ccs,L1,L2,h1,h2,h3,rfl,h4,h5⟩:=hrep
 simp only[List.cons.injEq,Value.slice.injEq,and_true] at h1
 obtain ⟨rfl,rfl,rfl⟩:=h1
 obtain ⟨L',g1,g2⟩:=h4.get i hi
 rcases h5 with ⟨_,⟨rfl,rfl⟩|⟨b,off,rfl,h7,h8,rfl⟩⟩
 ·have h6:=h4.len
  have h9:=Nat.mul_le_mul (show 1≤xs.length by omega) E.pos
  simp only[List.length_nil] at h6
  omega
 ·exact ⟨b,off,_,Z,⟨L',g2,λb hb=>hd b (by simp[g1 b hb])⟩,E.len g2,λH=>a8w (L':=[b]++L2) (by simp) hinh hd (h7.sub _ _)⟩
theorem Ro.elemI {e:TypeId} {xs:List Int} {a:Option Addr} {m c:Nat} (h:Ro w0 L0 (Enc.sl e Enc.int) [.slice a m c] xs) (i:Nat) (hi:i<xs.length):
  ∃b off,a=some ⟨b,off,none⟩∧I64 xs[i]∧∀H,Has w0 L0 H b (off+i*1) [.int .i64 xs[i]]:=by
 obtain ⟨b,off,ci,h1,h2,h3,h4⟩:=h.elem i hi
 obtain ⟨rfl,h5⟩:=h2.int
 exact ⟨b,off,h1,h5,h4⟩
theorem Ro.i64 {e:TypeId} {xs:List Int} {a:Option Addr} {m c:Nat} (h:Ro w0 L0 (Enc.sl e Enc.int) [.slice a m c] xs):∀x∈xs,I64 x:=by
 intro x hx
 obtain ⟨i,hi,rfl⟩:=List.getElem_of_mem hx
 obtain ⟨_,_,_,h1,_⟩:=h.elemI i hi
 exact h1
theorem Ro.src {e:TypeId} {xs:List α} {a:Option Addr} {m c:Nat} (h:Ro w0 L0 (Enc.sl e E) [.slice a m c] xs):∃ccs,(∃L,y8 E w0 ccs xs L false)∧ccs.length=m*E.k∧∀H,Src w0 L0 H a m ccs:=by
 obtain ⟨L,hrep,hd⟩:=h
 have hinh:=(Enc.sl e E).inh hrep
 obtain ⟨a',m',c',ccs,L1,L2,h1,rfl,h3,rfl,h4,h5⟩:=hrep
 simp only[List.cons.injEq,Value.slice.injEq,and_true] at h1
 obtain ⟨rfl,rfl,rfl⟩:=h1
 refine ⟨ccs,⟨L2,h4⟩,h4.len,λH=>?_⟩
 rcases h5 with ⟨_,⟨rfl,rfl⟩|⟨b,off,rfl,h7,h8,rfl⟩⟩
 ·have h6:=h4.len
  refine .inl ⟨?_,Z⟩
  rcases Nat.eq_zero_or_pos xs.length with h|h
  ·exact h
  ·have h9:=Nat.mul_le_mul h E.pos
   simp only[List.length_nil] at h6
   omega
 ·exact .inr ⟨b,off,Z,a8w (L':=[b]++L2) (by simp) hinh hd h7⟩
end
end Go.Proofs.YthapcdhdfaibkaaGreatDoor
