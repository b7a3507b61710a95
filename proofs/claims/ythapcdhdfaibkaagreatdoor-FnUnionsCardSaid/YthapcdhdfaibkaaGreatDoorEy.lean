import Derived.Test.YthapcdhdfaibkaaGreatDoorT36
import Derived.Test.YthapcdhdfaibkaaGreatDoorEp
section
namespace Go.Proofs.YthapcdhdfaibkaaGreatDoor
set_option linter.all false
abbrev Acs:=IL
abbrev Rch:=List Fct×List Int×List Acs×Int
def b7y (l:List Mth) (d6:List Fct) (a:Acs):List Fct:=d6.filter (X5 (atM l a.1) a.2)
def c5q (l:List Mth) (d6:List Fct) (F:List Fct) (a:Acs):List Fct:=(b7y l d6 a).foldl F3 F
def wvI (v:List Int) (f:Fct):List Int:=W0 ((v++f.2).filter λt=>inR t 0 9)
def pvI (v:List Int) (f:Fct):List Int:=f.2.foldl O9 v
def c6F (l:List Mth) (d6:List Fct) (v:List Int) (a:Acs):List Int:=(b7y l d6 a).foldl wvI v
def c5u (l:List Mth) (d6:List Fct) (v:List Int) (a:Acs):List Int:=(b7y l d6 a).foldl pvI v
def c5C (n:Nat):Int:=if 0<n then 1 else 0
def b1r (l:List Mth) (r:Rch):List Acs:=Q7 r.2.1 r.2.2.1 l 0
def b7s (l:List Mth) (d6:List Fct) (r:Rch):Rch:=
 ((b1r l r).foldl (c5q l d6) r.1,(b1r l r).foldl (c5u l d6) r.2.1,r.2.2.1++b1r l r,r.2.2.2+c5C (b1r l r).length)
-- order
theorem a9u {α:Type} {r:α→α→Bool} (tr:∀a b c,r a b=true→r b c=true→r a c=true):∀{l:List α},E8 r l=true→l.Pairwise (λa b=>r a b=true)
 |[],_=>.nil
 |[_],_=>by simp
 |a::b::l,h=>by
  simp only[E8,Bool.and_eq_true] at h
  have h2:=a9u tr h.2
  rw[List.pairwise_cons]
  refine ⟨λc hc=>?_,h2⟩
  rw[List.pairwise_cons] at h2
  rcases List.mem_cons.1 hc with rfl|hc
  ·exact h.1
  ·exact tr _ _ _ h.1 (h2.1 c hc)
theorem b3V {α:Type} {r:α→α→Bool} {f:α} (tr:∀a b c,r a b=true→r b c=true→r a c=true):∀{l:List α},l.Pairwise (λa b=>r a b=true)→(∀y∈l,r f y=false→r y f=true)→
  (if (l.any (r f)) then P4 (r f) f l else l++[f]).Pairwise (λa b=>r a b=true)∧∀y,y∈(if (l.any (r f)) then P4 (r f) f l else l++[f])→y∈l∨y=f:=by
 intro l
 induction l with
 |nil=>intro _ _;simp
 |cons z l ih=>
  intro h ht
  rw[List.pairwise_cons] at h
  have ih':=ih h.2 λy hy=>ht y (by simp[hy])
  cases hz:r f z
  ·simp only[List.any_cons,hz,Bool.false_or,P4,Bool.false_eq_true,if_false]
   have e:(if (l.any (r f)) then z::P4 (r f) f l else z::l++[f])=z::(if (l.any (r f)) then P4 (r f) f l else l++[f]):=by split<;>simp
   rw[e]
   refine ⟨?_,λy hy=>?_⟩
   ·rw[List.pairwise_cons]
    refine ⟨λy hy=>?_,ih'.1⟩
    rcases ih'.2 y hy with hy|rfl
    ·exact h.1 y hy
    ·exact ht z (by simp) hz
   ·rcases List.mem_cons.1 hy with rfl|hy
    ·simp
    ·rcases ih'.2 y hy with hy|rfl
     ·simp[hy]
     ·simp
  ·simp only[List.any_cons,hz,Bool.true_or,if_true,P4]
   refine ⟨?_,λy hy=>by simp only[List.mem_cons] at hy ⊢;rcases hy with h|h|h<;>simp[h]⟩
   rw[List.pairwise_cons,List.pairwise_cons]
   refine ⟨λy hy=>?_,h⟩
   rcases List.mem_cons.1 hy with rfl|hy
   ·exact hz
   ·exact tr _ _ _ hz (h.1 y hy)
theorem b6G {a b c:Int}:S2 a b<0→S2 b c<0→S2 a c<0:=by unfold S2;grind
theorem a2E {a b:Int}:S2 a b=0↔a=b:=by unfold S2;grind
theorem b1M:∀{a b c:List Int},I7 a b<0→I7 b c<0→I7 a c<0
 |[],[],c,h,_=>by simp[I7] at h
 |[],_::_,[],_,h=>by simp[I7] at h
 |[],_::_,_::_,_,_=>by simp[I7]
 |_::_,[],_,h,_=>by simp[I7] at h
 |_::_,_::_,[],_,h=>by simp[I7] at h
 |x::a,y::b,z::c,h1,h2=>by
  have h3:=b1M (a:=a) (b:=b) (c:=c)
  have h4:=b6G (a:=x) (b:=y) (c:=z)
  have h5:=a2E (a:=x) (b:=y)
  have h6:=a2E (a:=y) (b:=z)
  have h7:=a2E (a:=x) (b:=z)
  unfold I7 at h1 h2 ⊢;grind
theorem b6y {a b c:Fct} (h1:R3 a b<0) (h2:R3 b c<0):R3 a c<0:=by
 have h3:=b1M (a:=a.2) (b:=b.2) (c:=c.2)
 have h4:=b6G (a:=a.1) (b:=b.1) (c:=c.1)
 have h5:=a2E (a:=a.1) (b:=b.1)
 have h6:=a2E (a:=b.1) (b:=c.1)
 have h7:=a2E (a:=a.1) (b:=c.1)
 unfold R3 at h1 h2 ⊢;grind
abbrev a2v (l:List Fct):Prop:=l.Pairwise (λa b=>ltF a b=true)
theorem b9H {l:List Fct} {f:Fct} (h:a2v l):a2v (F3 l f):=by
 cases hh:O5 l f
 ·rw[F3,hh,W2,if_neg (by decide)]
  refine (b3V (λa b c h1 h2=>?_) h λy hy hf=>?_).1
  ·simp only[ltF,decide_eq_true_eq] at h1 h2 ⊢;exact b6y h1 h2
  ·simp only[ltF,decide_eq_false_iff_not,decide_eq_true_eq] at hf ⊢
   have h1:=a9T (a:=f) (b:=y)
   rcases Int.lt_or_eq_of_le (show R3 y f≤0 by omega) with h2|h2
   ·exact h2
   ·rw[a4h] at h2
    subst h2
    rw[b0d.2 hy] at hh;cases hh
 ·rw[a5f hh];exact h
theorem a9Q:∀{m x:List Fct},a2v x→a2v (m.foldl F3 x)
 |[],_,h=>h
 |f::m,x,h=>a9Q (m:=m) (b9H h)
theorem a4C {l:List Fct} (h:a2v l):l.Nodup:=
 h.imp λ{a b} hab e=>by subst e;simp[ltF,a4h.2 Z] at hab
-- values
-- facts
-- the accesses
-- a step of a state
def c1f (s:List Int) (l:List Mth) (d6:List Fct) (r:Rch):Bool:=C5 s l&&(B8 s d6&&(B8 s r.1&&(a8N r.2.1&&inR r.2.2.2 0 100)))
def c6B (s:List Int) (l:List Mth) (d6:List Fct) (r:Rch):Rch:=if c1f s l d6 r then b7s l d6 r else r
def c6C (s:List Int) (l:List Mth) (d6:List Fct) (r:Rch):Bool:=c1f s l d6 r&&decide (0<(b1r l r).length)
section
variable {l:List Mth} {d6 F:List Fct} {V:List Int} {A:List Acs} {N:Int} {g:Nat}
end
-- states that are reached
def a6o (l:List Mth) (d6:List Fct) (M6:List Int):Nat→Rch
 |0=>([],W0 (M6.filter λt=>inR t 0 9),[],0)
 |n+1=>b7s l d6 (a6o l d6 M6 n)
def b3F (l:List Mth) (d6:List Fct) (r:Rch):Nat→Rch→Bool
 |0,x=>decide (x=r)
 |n+1,x=>decide (x=r)||(decide (0<(b1r l x).length)&&b3F l d6 r n (b7s l d6 x))
def b7p (s:List Int) (l:List Mth) (d6:List Fct) (M6:List Int) (r:Rch):Bool:=(C5 s l&&B8 s d6)&&b3F l d6 r 40 (a6o l d6 M6 0)
structure rInv (s:List Int) (l:List Mth) (d6:List Fct) (n:Nat) (x:Rch):Prop where
 asc:a2v x.1
 sub:∀f∈x.1,f∈d6
 flen:x.1.length≤24
 fel:∀f∈x.1,f.2.length≤3
 a3a:a8N x.2.1=true
 log:x.2.2.1.length≤5000*n
 loge:∀a∈x.2.2.1,a.2.length≤3
 rounds:0≤x.2.2.2∧x.2.2.2≤n
def c6Q (s:List Int) (l:List Mth) (d6:List Fct) (M6:List Int) (r:Rch) (g:Nat):Prop:=
 b7p s l d6 M6 r=b3F l d6 r (40-g) (a6o l d6 M6 g)∧rInv s l d6 g (a6o l d6 M6 g)
section
variable {s:List Int} {l:List Mth} {d6:List Fct} {M6:List Int} {r:Rch} {g:Nat}
def c6R (s:List Int) (l:List Mth) (d6:List Fct) (M6:List Int) (r:Rch) (g:Nat):Prop:=
 (g≤40→b7p s l d6 M6 r=((C5 s l&&B8 s d6)&&b3F l d6 r (40-g) (a6o l d6 M6 g)))∧(40<g→b7p s l d6 M6 r=false)∧(0<g→C5 s l=true∧B8 s d6=true)∧rInv s l d6 g (a6o l d6 M6 g)
end
end Go.Proofs.YthapcdhdfaibkaaGreatDoor
end
section
namespace Go.Proofs.YthapcdhdfaibkaaGreatDoor
set_option linter.all false
def c6L (s:List Int) (d6:List Fct):Prop:=d6.length≤7000∧∀f∈d6,N9 s f=true
abbrev NoS:=List Fct×List Lin
abbrev UU:=List Fct×List Int×List Acs×List Lin
def c5O (S:NoS) (x:Lin):NoS:=if O5 S.1 x.2.2 then S else (F3 S.1 x.2.2,S.2++[x])
def c0V (S:NoS) (xs:List Lin):NoS:=xs.foldl c5O S
def lnA (a:Acs) (f:Fct):Lin:=(-1,a,f)
def lnR (G8:List Rul) (F:List Fct) (f:Fct):Lin:=(c1i G8 F f,(0,[]),f)
def c5S (l:List Mth) (d6:List Fct) (O:List Acs) (S:NoS):NoS:=O.foldl (λS a=>c0V S ((b7y l d6 a).map (lnA a))) S
def uO (l:List Mth) (u:UU):List Acs:=Q7 u.2.1 u.2.2.1 l 0
def uA (l:List Mth) (d6:List Fct) (u:UU):NoS:=c5S l d6 (uO l u) (u.1,u.2.2.2)
def uM (l:List Mth) (G8:List Rul) (d6:List Fct) (u:UU):List Fct:=b7j G8 (uA l d6 u).1
def uD (l:List Mth) (G8:List Rul) (d6:List Fct) (u:UU):List Lin:=(uM l G8 d6 u).map (lnR G8 (uA l d6 u).1)
def uS (l:List Mth) (G8:List Rul) (d6:List Fct) (u:UU):NoS:=c0V (uA l d6 u) (uD l G8 d6 u)
def b7F (l:List Mth) (G8:List Rul) (d6:List Fct) (u:UU):UU:=((uS l G8 d6 u).1,(uS l G8 d6 u).1.foldl pvI u.2.1,u.2.2.1++uO l u,(uS l G8 d6 u).2)
def uIt (l:List Mth) (G8:List Rul) (d6:List Fct) (M6:List Int):Nat→UU
 |0=>([],W0 (M6.filter λt=>inR t 0 9),[],[])
 |n+1=>b7F l G8 d6 (uIt l G8 d6 M6 n)
def c5y (l:List Mth) (G8:List Rul) (d6:List Fct) (M6:List Int):UU:=uIt l G8 d6 M6 6000
-- noting
structure nInv (s:List Int) (S:NoS):Prop where
 fold:S.1=(S.2.map λx=>x.2.2).foldl F3 []
 nd:(S.2.map λx=>x.2.2).Nodup
 ok:∀x∈S.2,N9 s x.2.2=true
 acc:∀x∈S.2,x.2.1.2.length≤3
theorem nInv.mem {s:List Int} {S:NoS} (h:nInv s S) {f:Fct}:f∈S.1↔ ∃x∈S.2,x.2.2=f:=by
 rw[h.fold,a4l]
 simp only[List.not_mem_nil,false_or,List.mem_map]
theorem nInv.len {s:List Int} {S:NoS} (h:nInv s S):S.2.length≤5324∧S.1.length≤5324:=by
 have h1:=b2x (s:=s) h.nd λf hf=>by
  obtain ⟨x,hx,rfl⟩:=List.mem_map.1 hf
  exact h.ok x hx
 have h2:=b9Y (m:=S.2.map λx=>x.2.2) (x:=[])
 rw[←h.fold] at h2
 simp only[List.length_map,List.length_nil] at h1 h2
 omega
-- what is missing
-- a round
structure uInv (s:List Int) (u:UU):Prop where
 n:nInv s (u.1,u.2.2.2)
 a3a:a8N u.2.1=true
 cl:∀f∈u.1,∀x∈f.2,x∈u.2.1
 acc:∀a∈u.2.2.1,a.2.length≤3
section
variable {s:List Int} {l:List Mth} {G8:List Rul} {d6:List Fct} {M6:List Int} {u:UU} {g:Nat}
structure uStay (l:List Mth) (G8:List Rul) (d6:List Fct) (u:UU):Prop where
 a:uA l d6 u=(u.1,u.2.2.2)
 m:uM l G8 d6 u=[]
 s:uS l G8 d6 u=(u.1,u.2.2.2)
 v:(b7F l G8 d6 u).2.1=u.2.1
 o:uO l (b7F l G8 d6 u)=[]
def gI (s:List Int) (l:List Mth) (G8:List Rul) (d6:List Fct) (M6:List Int) (g:Nat):Prop:=
 uInv s (uIt l G8 d6 M6 g)∧(g≤(uIt l G8 d6 M6 g).2.2.2.length∨(g≤(uIt l G8 d6 M6 g).2.2.2.length+1∧b7F l G8 d6 (uIt l G8 d6 M6 g)=uIt l G8 d6 M6 g∧uO l (uIt l G8 d6 M6 g)=[]))
end
-- within a round
section
variable {s:List Int} {l:List Mth} {G8:List Rul} {d6 F:List Fct} {V:List Int} {A:List Acs} {L:List Lin} {g k j i:Nat} {S:NoS}
end
section
variable {s:List Int} {l:List Mth} {G8:List Rul} {d6:List Fct} {M6:List Int} {u:UU} {g i p n:Nat}
end
-- what is asked
def c4u (s:List Int) (l:List Mth) (G8:List Rul) (d6:List Fct):Bool:=(C5 s l&&a6f s G8)&&B8 s d6
def c6p (s:List Int) (l:List Mth) (G8:List Rul) (d6:List Fct) (M6:List Int):List Fct:=if c4u s l G8 d6 then (c5y l G8 d6 M6).1 else []
end Go.Proofs.YthapcdhdfaibkaaGreatDoor
end
section
namespace Go.Proofs.YthapcdhdfaibkaaGreatDoor
open Go.RowKit
set_option linter.all false
def c4y (G8:List Rul) (F:List Fct):List Fct→List Value→List Value
 |[],_=>[]
 |f::M,cs=>[.int .i64 (c1i G8 F f),.int .i64 0,.slice none 0 0]++(cs.take 2++c4y G8 F M (cs.drop 2))
section
variable {n:Nat} {w0 w:World} {L0 Lp:List Nat} {fr:Fr} {H R pre rest:List HP} {G:Act→World→Prop} {a:Option Addr} {m c i:Nat} {cs oc mc:List Value} {xs M F:List Fct} {xs0:List Lin} {G8:List Rul}
theorem b2R {a:Option Addr} {m c:Nat} {xs:List Int} {w:World} {L:List Nat} (h:(ow eIs [.slice a m c] xs).holds w L):m=xs.length∧(∀x∈xs,I64 x)∧∃L1,(row tI 1 a m c (ints xs)).holds w L1∧∀b∈L1,b∈L:=by
 obtain ⟨ccs,L1,L2,rfl,g1,_,g3,g4⟩:=a0V h
 obtain ⟨rfl,h1,_⟩:=y8.ints.1 g3
 exact ⟨g1,h1,L1,g4,λb hb=>by simp[hb]⟩
theorem b6V {a:Option Addr} {m c:Nat} {xs:List Int} (j:Nat) (hm:ow eIs [.slice a m c] xs∈H) (hj:j<xs.length) (h:I64 xs[j]→Ent n w0 L0 fr H G):Ent n w0 L0 fr H G:=λac w h1 h2=>by
 obtain ⟨L,hL⟩:=h2.mem hm
 exact h ((b2R hL).2.1 _ (List.getElem_mem hj)) ac w h1 h2
theorem b5D {a:Option Addr} {m c g j:Nat} {xs:List Int} (ha:a=some ⟨g,0,none⟩) (hm:Go.Proofs.YthapcdhdfaibkaaGreatDoor.ow eIs [.slice a m c] xs∈H) (hj:j<xs.length):Has w0 L0 H g (0+j*1) [.int .i64 xs[j]]:=λw h=>by
 obtain ⟨L',hL⟩:=h.mem hm
 obtain ⟨g1,_,L1,g4,_⟩:=b2R hL
 obtain ⟨_,g5⟩:=g4
 rcases g5 with ⟨_,h0,_⟩|⟨g',cur,h2,h3,h4,h5,h6,h7,_⟩
 ·omega
 rw[ha] at h2;cases h2
 intro i v hi
 have hi0:i=0∧v= .int .i64 xs[j]:=by
  rcases i with _|i
  ·simp at hi;exact ⟨Z,hi.symm⟩
  ·simp at hi
 obtain ⟨rfl,rfl⟩:=hi0
 have h8:(ints xs)[j]? =some (.int .i64 xs[j]):=by simp[Go.Proofs.YthapcdhdfaibkaaGreatDoor.ints,hj]
 rw[←h7,List.getElem?_take] at h8
 split at h8
 ·simpa[World.cell?,h3] using h8
 ·cases h8
end
end Go.Proofs.YthapcdhdfaibkaaGreatDoor
end
section
namespace Go.Proofs.YthapcdhdfaibkaaGreatDoor
set_option linter.all false
abbrev Stp:=Int×Int
def atA (l:List AT2) (i:Int):AT2:=l.getD i.toNat (0,[])
def stB (d7:List AT2) (T:List Stp):List Int:=T.foldl (λb x=>b++(atA d7 x.1).2) []
def stV (d7:List AT2) (T:List Stp):List Int:=T.foldl (λb x=>a3c b (atA d7 x.1)) []
def stD (n:Nat) (T:List Stp):List Bool:=T.foldl (λd x=>d.set x.1.toNat true) (List.replicate n false)
def stU (T:List Stp) (i:Int):Bool:=T.any λy=>decide (y.1=i)
def X8 (l:List MT5) (d7:List AT2) (T:List Stp) (x:Stp):Bool:=inR x.1 0 ((d7.length:Int)-1)&&(!stU T x.1&&(inR x.2 0 ((l.length:Int)-1)&&M4 (l.getD x.2.toNat (0,[],0,0,0)) (atA d7 x.1) (stB d7 T)))
def S6 (l:List MT5) (d7:List AT2) (d4:List Stp):Nat→Bool
 |0=>true
 |g+1=>S6 l d7 d4 g&&X8 l d7 (d4.take g) (d4.getD g (0,0))
def K9 (s:List Int) (l:List MT5) (q:List Int×List AT2) (d4:List Stp):Bool:=(C5 s l&&w7 s q)&&(decide ((d4.length:Int)=q.2.length)&&S6 l q.2 d4 d4.length)
section
variable {s:List Int} {l:List MT5} {d7:List AT2} {q:List Int×List AT2} {d4 T:List Stp} {g n:Nat} {x:Stp}
theorem a2I {i:Int} (h:i.toNat<d7.length):atA d7 i=d7[i.toNat]:=by simp[atA,List.getD,h]
theorem a1O {α β:Type} {f:β→α→β} {b:β} {l:List α} (h:g<l.length):(l.take (g+1)).foldl f b=f ((l.take g).foldl f b) l[g]:=by
 rw[List.take_succ_eq_append_getElem h,List.foldl_append];rfl
theorem b4G (h:g<d4.length):stB d7 (d4.take g)++(atA d7 d4[g].1).2=stB d7 (d4.take (g+1)):=by unfold stB;rw[a1O h]
theorem b4D (h:g<d4.length):a3c (stV d7 (d4.take g)) (atA d7 d4[g].1)=stV d7 (d4.take (g+1)):=by unfold stV;rw[a1O h]
theorem b3W (h:g<d4.length):(d4.take g).map (λx=>x.1)++[d4[g].1]=(d4.take (g+1)).map λx=>x.1:=by rw[List.take_succ_eq_append_getElem h,List.map_append];rfl
theorem b5c:∀{T:List Stp} {d:List Bool},(T.foldl (λd x=>d.set x.1.toNat true) d).length=d.length
 |[],_=>rfl
 |x::T,d=>by rw[List.foldl_cons,b5c (T:=T)];exact List.length_set
theorem c1E:(stD n T).length=n:=by unfold stD;rw[b5c,List.length_replicate]
theorem a6t:∀{g:Nat},S6 l d7 d4 g=true→g≤d4.length→∀x∈d4.take g,0≤x.1∧x.1.toNat<d7.length∧0≤x.2∧x.2.toNat<l.length
 |0,_,_,x,hx=>by simp at hx
 |g+1,h,hg,x,hx=>by
  rw[S6,Bool.and_eq_true] at h
  rw[List.take_succ_eq_append_getElem (by omega)] at hx
  rcases List.mem_append.1 hx with hx|hx
  ·exact a6t h.1 (by omega) x hx
  ·simp only[List.mem_singleton] at hx;subst hx
   have h2:=h.2
   rw[L5 (by omega:g<d4.length)] at h2
   simp only[X8,Bool.and_eq_true] at h2
   have a1:=V8 h2.1
   have a2:=V8 h2.2.2.1
   omega
theorem b4B:∀{k:Nat},S6 l d7 d4 g=false→S6 l d7 d4 (g+k)=false
 |0,h=>h
 |k+1,h=>by rw[←Nat.add_assoc,S6,b4B h,Bool.false_and]
theorem b6C {i:Int}:H6 (T.map λx=>x.1) i=stU T i:=b6t
theorem b8x:∀{T:List Stp} {b b':List Int},(∀v,inR v 10 17=true→H6 b v=H6 b' v)→∀v,inR v 10 17=true→H6 (T.foldl (λb x=>b++(atA d7 x.1).2) b) v=H6 (T.foldl (λb x=>a3c b (atA d7 x.1)) b') v
 |[],_,_,h=>h
 |x::T,b,b',h=>by
  refine b8x (T:=T) λv hv=>?_
  rw[b6e _ hv, ←h v hv]
  unfold H6;rw[List.any_append]
theorem c0Z {m:MT5} {a:AT2}:M4 m a (stV d7 T)=M4 m a (stB d7 T):=b8u λv hv=>(b8x (λ_ _=>rfl) v hv).symm
theorem b0Q (hg:g<d4.length) (h:X8 l q.2 (d4.take g) d4[g]=false):false=K9 s l q d4:=by
 have h1:S6 l q.2 d4 (g+1)=false:=by rw[S6,L5 hg,h,Bool.and_false]
 have h2:=b4B (k:=d4.length-(g+1)) h1
 rw[show g+1+(d4.length-(g+1))=d4.length from by omega] at h2
 rw[K9,h2,Bool.and_false,Bool.and_false]
theorem c0B (hg:g<d4.length) (hp:S6 l d7 d4 g=true) (h:X8 l d7 (d4.take g) d4[g]=true):S6 l d7 d4 (g+1)=true:=by
 rw[S6,L5 hg,h,hp];rfl
theorem c2W (h:inR x.1 0 ((d7.length:Int)-1)=false):X8 l d7 T x=false:=by rw[X8,h,Bool.false_and]
theorem c3f (h:stU T x.1=true):X8 l d7 T x=false:=by rw[X8,h];simp
theorem c3L (h:inR x.2 0 ((l.length:Int)-1)=false):X8 l d7 T x=false:=by rw[X8,h];simp
theorem c3e (h:M4 (l.getD x.2.toNat (0,[],0,0,0)) (atA d7 x.1) (stB d7 T)=false):X8 l d7 T x=false:=by rw[X8,h];simp
theorem c3g (h1:inR x.1 0 ((d7.length:Int)-1)=true) (h2:stU T x.1=false) (h3:inR x.2 0 ((l.length:Int)-1)=true) (h4:M4 (l.getD x.2.toNat (0,[],0,0,0)) (atA d7 x.1) (stB d7 T)=true):X8 l d7 T x=true:=by rw[X8,h1,h2,h3,h4];rfl
theorem c2u (h:(C5 s l&&w7 s q)=false):false=K9 s l q d4:=by rw[K9,h,Bool.false_and]
theorem c2b (h:¬(d4.length:Int)=q.2.length):false=K9 s l q d4:=by rw[K9,decide_eq_false h,Bool.false_and,Bool.and_false]
theorem c2a (h:(C5 s l&&w7 s q)=true) (h2:(d4.length:Int)=q.2.length) (hg:¬g<d4.length) (hl:g≤d4.length) (hp:S6 l q.2 d4 g=true):true=K9 s l q d4:=by
 rw[show g=d4.length from by omega] at hp
 rw[K9,h,decide_eq_true h2,hp];rfl
theorem b4s:∀{T:List Stp} {b:List Int},(∀a∈d7,a.2.length≤3)→(T.foldl (λb x=>b++(atA d7 x.1).2) b).length≤b.length+3*T.length
 |[],b,_=>by simp
 |x::T,b,h=>by
  have ih:=b4s (T:=T) (b:=b++(atA d7 x.1).2) h
  have h1:(atA d7 x.1).2.length≤3:=by
   unfold atA
   rcases Nat.lt_or_ge x.1.toNat d7.length with hk|hk
   ·rw[L5 hk];exact h _ (List.getElem_mem hk)
   ·simp[List.getD,List.getElem?_eq_none hk]
  rw[List.length_append] at ih
  rw[List.foldl_cons,List.length_cons]
  omega
theorem c1S (h:∀a∈d7,a.2.length≤3):(stB d7 T).length≤3*T.length:=by
 have:=b4s (T:=T) (b:=[]) h
 simpa[stB] using this
theorem b9Z {b:List Int} {a:AT2}:(a3c b a).length≤b.length+a.2.length:=by
 have h1:=a4V (b:=b) (t:=a.2.filter λt=>inR t 10 17)
 have h2:=List.length_filter_le (λt=>inR t 10 17) a.2
 unfold a3c;omega
theorem b4H:∀{T:List Stp} {b:List Int},(∀a∈d7,a.2.length≤3)→(T.foldl (λb x=>a3c b (atA d7 x.1)) b).length≤b.length+3*T.length
 |[],b,_=>by simp
 |x::T,b,h=>by
  have ih:=b4H (T:=T) (b:=a3c b (atA d7 x.1)) h
  have h2:=b9Z (b:=b) (a:=atA d7 x.1)
  have h1:(atA d7 x.1).2.length≤3:=by
   unfold atA
   rcases Nat.lt_or_ge x.1.toNat d7.length with hk|hk
   ·rw[L5 hk];exact h _ (List.getElem_mem hk)
   ·simp[List.getD,List.getElem?_eq_none hk]
  rw[List.foldl_cons,List.length_cons]
  omega
theorem c1G (h:∀a∈d7,a.2.length≤3):(stV d7 T).length≤3*T.length:=by
 have:=b4H (T:=T) (b:=[]) h
 simpa[stV] using this
end
end Go.Proofs.YthapcdhdfaibkaaGreatDoor
end
section
namespace Go.Proofs.YthapcdhdfaibkaaGreatDoor
open Go.RowKit
set_option linter.all false
section
variable {P:Program} {n:Nat} {fr:Fr}
theorem c4U {x y:Operand} {ts:Array TypeId} {a b:Int} (hx:ev fr x=some (.int .i64 a)) (hy:ev fr y=some (.int .i64 b)):Yp P n fr (.call ⟨.builtin .max, #[x,y],ts⟩) (.int .i64 (max a b)):=λac h w' d t p af g=>by
 have e:(if a<b then b else a)=max a b:=by split<;>omega
 simp[execOp,resolve,invoke,builtin,Builtin.max_,Builtin.max2,h.ev hx,h.ev hy, ←e]
end
def b4Y (n:Nat) (k lim:Int) (i:Nat):Bool:=decide (((i:Int)-k+n) % n<lim)
def a2P (x:List Fct) (k lim:Int) (g:Nat):List Fct:=((List.range g).filter (b4Y x.length k lim)).map λi=>x.getD i (0,[])
def a3V (x:List Fct) (k:Int) (g:Nat):List Fct:=((List.range g).map λj:Nat=>x.getD ((k+j) % x.length).toNat (0,[])).foldl F3 []
def a1V (l:List Mth) (a:IL):Int:=(atM l a.1).2.2.1
def n9 (l:List Mth) (d6:List Fct) (a:IL):List Fct:=d6.filter (X5 (atM l a.1) a.2)
def s5 (l:List Mth) (d6:List Fct) (a:IL) (c:Int):List Fct:=
 if a1V l a=0∨((n9 l d6 a).length:Int)≤a1V l a then n9 l d6 a
 else a2P (n9 l d6 a) (max 0 c % ((n9 l d6 a).length:Int)) (a1V l a) (n9 l d6 a).length
section
variable {x:List Fct} {k lim c:Int} {g:Nat} {l:List Mth} {d6:List Fct} {a:IL}
theorem c3j (hg:g<x.length) (h:((g:Int)-k+x.length) % x.length<lim):a2P x k lim g++[x[g]]=a2P x k lim (g+1):=by
 unfold a2P
 rw[List.range_succ,List.filter_append,List.map_append,List.filter_cons_of_pos (by unfold b4Y;exact decide_eq_true h)]
 simp[List.getD,hg]
theorem c2Z (h:¬((g:Int)-k+x.length) % x.length<lim):a2P x k lim g=a2P x k lim (g+1):=by
 unfold a2P
 rw[List.range_succ,List.filter_append,List.map_append,List.filter_cons_of_neg (by unfold b4Y;rw[decide_eq_false h];decide)];simp
theorem c0E:(a2P x k lim g).length≤g:=by
 unfold a2P
 rw[List.length_map]
 have:=List.length_filter_le (b4Y x.length k lim) (List.range g)
 simpa using this
theorem b9E {f:Fct} (hg:g≤x.length) (h:f∈a2P x k lim g):f∈x:=by
 unfold a2P at h
 obtain ⟨i,hi,rfl⟩:=List.mem_map.1 h
 have h1:=List.mem_range.1 (List.mem_filter.1 hi).1
 rw[L5 (by omega:i<x.length)];exact List.getElem_mem _
theorem b8V {j:Nat} (hj:j<x.length) (e:((k+g) % x.length).toNat=j):F3 (a3V x k g) x[j]=a3V x k (g+1):=by
 unfold a3V
 rw[List.range_succ,List.map_append,List.foldl_append]
 simp only[List.map_cons,List.map_nil,List.foldl_cons,List.foldl_nil,e,L5 hj]
theorem a4T:∀{m v:List Fct},(m.foldl F3 v).length≤v.length+m.length
 |[],v=>by simp
 |f::m,v=>by
  have ih:=a4T (m:=m) (v:=F3 v f)
  have h1:(F3 v f).length≤v.length+1:=by
   cases hh:O5 v f
   ·rw[a6V hh];simp only[List.length_append,List.length_cons,List.length_take,List.length_drop];omega
   ·rw[a5f hh];omega
  rw[List.foldl_cons,List.length_cons];omega
theorem b9C:(a3V x k g).length≤g:=by
 have:=a4T (m:=(List.range g).map λj:Nat=>x.getD ((k+j) % x.length).toNat (0,[])) (v:=[])
 simpa[a3V] using this
theorem b5m (h0:0≤k) (hn:0<x.length):0≤(k+(g:Int)) % (x.length:Int)∧((k+(g:Int)) % (x.length:Int)).toNat<x.length:=by
 have h1:=Int.emod_nonneg (k+(g:Int)) (show (x.length:Int)≠0 by omega)
 have h2:=Int.emod_lt_of_pos (k+(g:Int)) (show 0<(x.length:Int) by omega)
 omega
theorem c0g {f:Fct} (h0:0≤k) (hn:0<x.length) (h:f∈a3V x k g):f∈x:=by
 unfold a3V at h
 rcases (a4l f).1 h with h|h
 ·simp at h
 ·obtain ⟨j,hj,rfl⟩:=List.mem_map.1 h
  have:=b5m (g:=j) h0 hn
  rw[L5 this.2];exact List.getElem_mem _
theorem b3X:∀{a b:List Fct},a2v a→a2v b→(∀y,y∈a↔y∈b)→a=b
 |[],[],_,_,_=>rfl
 |[],y::b,_,_,h=>by have:=(h y).2 (List.mem_cons_self ..);simp at this
 |x::a,[],_,_,h=>by have:=(h x).1 (List.mem_cons_self ..);simp at this
 |x::a,y::b,ha,hb,h=>by
  have ha':=List.pairwise_cons.1 ha
  have hb':=List.pairwise_cons.1 hb
  have irr:∀z:Fct,ltF z z=true→False:=λz hz=>by simp[ltF,a4h.2 Z] at hz
  have tr:∀u v:Fct,ltF u v=true→ltF v u=true→False:=λu v h1 h2=>by
   simp only[ltF,decide_eq_true_eq] at h1 h2
   have:=a9T (a:=u) (b:=v);omega
  have e:x=y:=by
   rcases List.mem_cons.1 ((h x).1 (List.mem_cons_self ..)) with e|e
   ·exact e
   ·rcases List.mem_cons.1 ((h y).2 (List.mem_cons_self ..)) with e2|e2
    ·exact e2.symm
    ·exact (tr x y (ha'.1 y e2) (hb'.1 x e)).elim
  subst e
  congr 1
  refine b3X ha'.2 hb'.2 λz=>⟨λhz=>?_,λhz=>?_⟩
  ·rcases List.mem_cons.1 ((h z).1 (List.mem_cons_of_mem _ hz)) with e|e
   ·subst e;exact (irr z (ha'.1 z hz)).elim
   ·exact e
  ·rcases List.mem_cons.1 ((h z).2 (List.mem_cons_of_mem _ hz)) with e|e
   ·subst e;exact (irr z (hb'.1 z hz)).elim
   ·exact e
theorem a9I (h:a2v x):∀{g:Nat},g≤x.length→a2v (a2P x k lim g)∧∀f∈a2P x k lim g,∃i,i<g∧x[i]? =some f
 |0,_=>⟨.nil,λf hf=>by simp[a2P] at hf⟩
 |g+1,hg=>by
  obtain ⟨i1,i2⟩:=a9I h (g:=g) (by omega)
  by_cases hc:((g:Int)-k+x.length) % x.length<lim
  ·rw[←c3j (by omega) hc]
   refine ⟨List.pairwise_append.2 ⟨i1,List.pairwise_singleton _ _,λu hu v hv=>?_⟩,λf hf=>?_⟩
   ·simp only[List.mem_singleton] at hv;subst hv
    obtain ⟨i,hi,e⟩:=i2 u hu
    obtain ⟨hi2,rfl⟩:=List.getElem?_eq_some_iff.1 e
    exact List.pairwise_iff_getElem.1 h i g hi2 (by omega) hi
   ·rcases List.mem_append.1 hf with hf|hf
    ·obtain ⟨i,hi,e⟩:=i2 f hf;exact ⟨i,by omega,e⟩
    ·simp only[List.mem_singleton] at hf;subst hf
     exact ⟨g,by omega,List.getElem?_eq_getElem (by omega)⟩
  ·rw[←c2Z hc]
   exact ⟨i1,λf hf=>by obtain ⟨i,hi,e⟩:=i2 f hf;exact ⟨i,by omega,e⟩⟩
theorem c3v {n:Nat} {i:Nat} (hn:0<n) (h0:0≤k∧k<n) (hi:i<n):((k+((i:Int)-k+n) % n) % n).toNat=i:=by
 have e:(k+((i:Int)-k+n) % n) % n=i:=by
  rw[Int.add_emod,Int.emod_emod_of_dvd _ (Int.dvd_refl _), ←Int.add_emod,show k+((i:Int)-k+n)=i+n from by omega,Int.add_emod_right]
  exact Int.emod_eq_of_lt (by omega) (by omega)
 rw[e];simp
theorem c1u {n:Nat} {j:Nat} (hn:0<n) (h0:0≤k∧k<n) (hj:j<n):((((k+j) % n).toNat:Int)-k+n) % n=j:=by
 have h1:=Int.emod_nonneg (k+(j:Int)) (show (n:Int)≠0 by omega)
 rw[show (((k+(j:Int)) % n).toNat:Int)=(k+j) % n from by omega]
 rw[show (k+(j:Int)) % n-k+n=(k+j) % n+(n-k) from by omega,Int.emod_add_emod,show k+(j:Int)+(n-k)=j+n from by omega,Int.add_emod_right]
 exact Int.emod_eq_of_lt (by omega) (by omega)
theorem c3a (h:a2v x) (h0:0≤k∧k<x.length) (hl:0≤lim∧lim≤x.length):a3V x k lim.toNat=a2P x k lim x.length:=by
 have hn:0<x.length:=by omega
 refine b3X (a9Q .nil) (a9I h (Nat.le_refl _)).1 λy=>?_
 unfold a2P a3V
 rw[a4l]
 simp only[List.mem_map,List.mem_filter,List.mem_range,List.not_mem_nil,false_or,b4Y,decide_eq_true_eq]
 constructor
 ·rintro ⟨j,hj,rfl⟩
  have h1:=b5m (g:=j) h0.1 hn
  have h2:=c1u (n:=x.length) (j:=j) hn h0 (by omega)
  exact ⟨((k+j) % x.length).toNat,⟨h1.2,by rw[h2];omega⟩,Z⟩
 ·rintro ⟨i,⟨hi,hc⟩,rfl⟩
  have h1:=Int.emod_nonneg ((i:Int)-k+x.length) (show (x.length:Int)≠0 by omega)
  have h2:=c3v (n:=x.length) (i:=i) hn h0 hi
  refine ⟨(((i:Int)-k+x.length) % x.length).toNat,by omega,?_⟩
  rw[show ((((i:Int)-k+x.length) % x.length).toNat:Int)=((i:Int)-k+x.length) % x.length from by omega,h2]
theorem b0B {s:List Int} (h:B8 s d6=true):a2v d6:=by
 have h:=(Bool.and_eq_true_iff.1 h).1
 simp only[a1W,List.drop_zero,Bool.and_eq_true,List.all_eq_true] at h
 exact a9u (λa b c h1 h2=>by simp only[ltF,decide_eq_true_eq] at h1 h2 ⊢;exact b6y h1 h2) h.2
theorem c2k {s:List Int} (h:T0 s l a=true):0≤a1V l a∧a1V l a≤9:=by
 have h1:=a0I h
 have h2:=a9s h1.1 (atM l a.1) (by rw[U6 h1.2.1.2];exact List.getElem_mem _)
 simp only[S4,a0X,Bool.and_eq_true] at h2
 unfold a1V
 have:inR (atM l a.1).2.2.1 0 9=true:=by grind
 exact V8 this
theorem a6i:(n9 l d6 a).length≤d6.length:=List.length_filter_le _ _
theorem a8R (h:a2v d6):a2v (n9 l d6 a):=List.Pairwise.filter _ h
theorem a4K (h:a1V l a=0∨((n9 l d6 a).length:Int)≤a1V l a):n9 l d6 a=s5 l d6 a c:=by rw[s5,if_pos h]
theorem c0p (ha:a2v d6) (h0:0≤a1V l a) (h:¬a1V l a=0) (h2:¬((n9 l d6 a).length:Int)≤a1V l a) (hg:(g:Int)=a1V l a):a3V (n9 l d6 a) (max c 0 % ((n9 l d6 a).length:Int)) g=s5 l d6 a c:=by
 rw[s5,if_neg (by omega),show max c 0=max 0 c from by omega,show g=(a1V l a).toNat from by omega]
 have h3:=Int.emod_nonneg (max 0 c) (show ((n9 l d6 a).length:Int)≠0 by omega)
 have h4:=Int.emod_lt_of_pos (max 0 c) (show 0<((n9 l d6 a).length:Int) by omega)
 exact c3a (a8R ha) ⟨h3,h4⟩ (by omega)
theorem b6k {f:Fct} (h:f∈s5 l d6 a c):f∈d6:=by
 unfold s5 at h
 split at h
 ·exact (List.mem_filter.1 h).1
 ·exact (List.mem_filter.1 (b9E (Nat.le_refl _) h)).1
theorem b6D:(s5 l d6 a c).length≤d6.length:=by
 unfold s5
 split
 ·exact a6i
 ·exact Nat.le_trans c0E a6i
end
def a0F (m:Mth) (a:AT2) (b:List Int×List Int):List Int:=m.2.1.map λi=>y9 b (at0 a.2 i)
def a1C (l:List Mth) (m:Int):Int:=if (inR m 0 ((l.length:Int)-1)&&inR (atM l m).2.2.2.1 0 99)=true then (atM l m).2.2.2.1 else 0
def a0E (l:List Mth) (log:List IL):Int:=log.foldl (λn a=>n+a1C l a.1) 0
section
variable {l:List Mth} {m i:Int} {g:Nat} {a:AT2} {b:List Int×List Int} {mm:Mth} {log:List IL}
theorem b4E {x:List Int} (hg:g<x.length) (h:0≤x[g]∧x[g].toNat<a.2.length):(x.take g).map (λi=>y9 b (at0 a.2 i))++[y9 b (a.2[x[g].toNat]'h.2)]=(x.take (g+1)).map λi=>y9 b (at0 a.2 i):=by
 rw[List.take_succ_eq_append_getElem hg,List.map_append]
 congr 1
 simp[at0,List.getD,h.2]
theorem a6K (h:inR m 0 ((l.length:Int)-1)=false):0=a1C l m:=by rw[a1C,h];rfl
theorem a6I (h:m.toNat<l.length) (h2:inR l[m.toNat].2.2.2.1 0 99=false):0=a1C l m:=by rw[a1C,U6 h,h2,Bool.and_false];rfl
theorem a6C (h1:inR m 0 ((l.length:Int)-1)=true) (h:m.toNat<l.length) (h2:inR l[m.toNat].2.2.2.1 0 99=true):l[m.toNat].2.2.2.1=a1C l m:=by rw[a1C,U6 h,h1,h2];rfl
theorem b4k:0≤a1C l m∧a1C l m≤99:=by
 unfold a1C
 split
 ·rename_i h;have:=V8 (Bool.and_eq_true_iff.1 h).2;omega
 ·omega
theorem b3b:∀{log:List IL} {n:Int},n≤log.foldl (λn a=>n+a1C l a.1) n∧log.foldl (λn a=>n+a1C l a.1) n≤n+99*log.length
 |[],n=>by simp
 |x::log,n=>by
  have ih:=b3b (log:=log) (n:=n+a1C l x.1)
  have:=b4k (l:=l) (m:=x.1)
  rw[List.foldl_cons,List.length_cons]
  omega
theorem b5s:0≤a0E l log∧a0E l log≤99*log.length:=by
 have:=b3b (l:=l) (log:=log) (n:=0)
 unfold a0E;omega
theorem a3A (h:g<log.length):a0E l (log.take g)+a1C l log[g].1=a0E l (log.take (g+1)):=by
 unfold a0E;rw[a1O h]
theorem a2M (h:g<log.length) (h2:0=a1C l log[g].1):a0E l (log.take g)=a0E l (log.take (g+1)):=by
 rw[←a3A h, ←h2,Int.add_zero]
end
end Go.Proofs.YthapcdhdfaibkaaGreatDoor
end
