import Derived.Test.YthapcdhdfaibkaaGreatDoorBb
namespace Go.Proofs.YthapcdhdfaibkaaGreatDoor
set_option linter.all false
def inR (n lo hi:Int):Bool:=decide (lo≤n∧n≤hi)
def J0 {α:Type} (p:α→Bool) (s:List α):Int:=if s.any p then (s.findIdx p:Int) else-1
theorem P3 {α:Type} {p:α→Bool} {s:List α} {k:Nat} (hk:k<s.length) (h:∀x∈s.take k,p x=false) (hp:p s[k]=true):(k:Int)=J0 p s:=by
 have h1:s.any p=true:=List.any_eq_true.2 ⟨_,List.getElem_mem hk,hp⟩
 have h2:s.findIdx p=k:=by
  rw[List.findIdx_eq hk]
  refine ⟨hp,λj hj=>h _ ?_⟩
  rw[List.mem_take_iff_getElem]
  exact ⟨j,by omega,Z⟩
 rw[J0,if_pos h1,h2]
theorem O4 {α:Type} {p:α→Bool} {s:List α} {k:Nat} (hk:¬k<s.length) (h:∀x∈s.take k,p x=false):(-1:Int)=J0 p s:=by
 rw[List.take_of_length_le (by omega)] at h
 have:¬s.any p=true:=λh'=>by
  obtain ⟨x,hx,hp⟩:=List.any_eq_true.1 h'
  rw[h x hx] at hp;cases hp
 rw[J0,if_neg this]
theorem W1 {α:Type} {p:α→Bool} {s:List α}:decide (0≤J0 p s)=s.any p:=by
 unfold J0;split<;>simp_all
theorem X3 {α:Type} {p:α→Bool} {s:List α} {k:Nat} (hk:k<s.length) (h:∀x∈s.take k,p x=false) (hp:p s[k]=false):∀x∈s.take (k+1),p x=false:=by
 intro x hx
 rw[List.take_succ_eq_append_getElem hk] at hx
 rcases List.mem_append.1 hx with hx|hx
 ·exact h x hx
 ·simp at hx;subst hx;exact hp
theorem b1z {α:Type} {p:α→Bool} {s:List α} {k:Nat} (hk:k<s.length) (hp:p s[k]=true):s.any p=true:=List.any_eq_true.2 ⟨_,List.getElem_mem hk,hp⟩
theorem b0f {α:Type} {p:α→Bool} {s:List α} {k:Nat} (hk:¬k<s.length) (h:∀x∈s.take k,p x=false):s.any p=false:=by
 rw[List.take_of_length_le (by omega)] at h
 rw[←Bool.not_eq_true]
 intro h'
 obtain ⟨x,hx,hp⟩:=List.any_eq_true.1 h'
 rw[h x hx] at hp;cases hp
def Q4 (s:List Int):Bool:=inR (s.length:Int) 1 3&& !s.any λn=> !inR n 1 3
def N8 (s:List Int) (rel:Int):Bool:=Q4 s&&inR rel 0 ((s.length:Int)-1)
def Y9 (l:List Int) (arity:Int):Bool:= !l.any λi=> !inR i 0 (arity-1)
def at0 (s:List Int) (i:Int):Int:=s.getD i.toNat 0
def b8R (s:List Int) (r:Int×IL):Bool:=N8 s r.1&&(N8 s r.2.1&&(decide ((r.2.2.length:Int)=at0 s r.2.1)&&Y9 r.2.2 (at0 s r.1)))
theorem L5 {α:Type} {s:List α} {i:Nat} {d:α} (h:i<s.length):s.getD i d=s[i]:=by simp[List.getD,h]
theorem a0R {s:List Int} {i:Int} (h:N8 s i=true):0≤i∧i<s.length∧1≤s.getD i.toNat 0∧s.getD i.toNat 0≤3:=by
 simp only[N8,Q4,inR,Bool.and_eq_true,decide_eq_true_eq,Bool.not_eq_true',List.any_eq_false] at h
 obtain ⟨⟨_,h1⟩,h2,h3⟩:=h
 have h5:i.toNat<s.length:=by omega
 have h4:=h1 s[i.toNat] (List.getElem_mem h5)
 rw[L5 h5]
 simp at h4
 omega
theorem F8 {s:List Int} {i:Int} (h:i.toNat<s.length):at0 s i=s[i.toNat]:=by simp[at0,h]
def szR (t:Nat) (left:Int):Int:=if (t:Int)≤left then left-t else-1
theorem c0G {s:List Int} {r:Int} (h:inR r 0 ((s.length:Int)-1)=false):N8 s r=false:=by simp[N8,h]
theorem b8j {s:List Int} {r:Int} (h:Q4 s=false):N8 s r=false:=by simp[N8,h]
theorem frI {a b:Int} (h:a=b):some (Value.int .i64 a)=some (Value.int .i64 b):=by rw[h]
def E7 {α:Type} (t:α→Nat) (l:List α):Nat:=(l.map t).sum
theorem b2P {α:Type} {t:α→Nat} {l:List α} {g:Nat} (h:g<l.length):E7 t (l.take (g+1))=E7 t (l.take g)+t l[g]:=by
 unfold E7;rw[List.take_succ_eq_append_getElem h,List.map_append,List.sum_append];rfl
theorem b1B {α:Type} {t:α→Nat} {l:List α} {g:Nat}:E7 t (l.take g)≤E7 t l:=by
 have:E7 t l=E7 t (l.take g)+E7 t (l.drop g):=by
  rw[E7,E7,E7, ←List.sum_append, ←List.map_append,List.take_append_drop]
 omega
def D8 {α:Type} (t:α→Nat) (l:List α):Nat:=l.length+E7 t l
theorem b9J {α:Type} {t:α→Nat} {l:List α} {g:Nat} (h:g<l.length):t l[g]≤D8 t l:=by
 have h1:=b1B (t:=t) (l:=l) (g:=g+1)
 rw[b2P h] at h1
 unfold D8;omega
def a6f (s:List Int) (l:List (Int×IL)):Bool:=Q4 s&&(decide ((l.length:Int)≤4)&& !l.any λr=> !b8R s r)
end Go.Proofs.YthapcdhdfaibkaaGreatDoor

namespace Go.Proofs.YthapcdhdfaibkaaGreatDoor
set_option linter.all false
def c6I (b:Bool):Int:=if b then 1 else 0
def c3O (log:List IL) (m:Int):Int:=((log.countP λa=>decide (a.1=m):Nat):Int)
def quo (l:List (Int×List Int×Int×Int×Int)) (m:Int):Int:=(l.getD m.toNat (0,[],0,0,0)).2.2.2.2
def c0t (l:List (Int×List Int×Int×Int×Int)) (log:List IL) (m:Int):Bool:= !inR m 0 ((l.length:Int)-1)||decide (quo l m<c3O log m)
def c5Z (l:List (Int×List Int×Int×Int×Int)) (log:List IL):Bool:= !log.any λa=>c0t l log a.1
end Go.Proofs.YthapcdhdfaibkaaGreatDoor

namespace Go.Proofs.YthapcdhdfaibkaaGreatDoor
set_option linter.all false
def mkL {α:Type} (c:α→Nat) (m:α→Int→α):List α→Int→List α
 |[],_=>[]
 |x::xs,k=>m x k::mkL c m xs (k+(c x:Nat))
section
variable {α:Type} {c:α→Nat} {m:α→Int→α}
end
theorem b9i {α:Type} {E:Enc α} {cs:List Value} {xs ys:α} (h:xs=ys):[ow E cs xs].Perm [ow E cs ys]:=by rw[h]
def Q5 (_:Int):Nat:=1
def a3E (_:Int) (k:Int):Int:=k
theorem b7Y:∀{l:List Int},E7 Q5 l=l.length
 |[]=>rfl
 |x::l=>by have h:=b7Y (l:=l);simp only[E7,List.map_cons,List.sum_cons,List.length_cons] at h ⊢;rw[h];simp[Q5];omega
def a4A (x:List Int):Nat:=E7 Q5 x
def c4r (x:List Int) (k:Int):List Int:=mkL Q5 a3E x k
def W9 (x:IL):Nat:=1+E7 Q5 x.2
def a6k (x:IL) (k:Int):IL:=((k),mkL Q5 a3E x.2 (k+1))
def c5m (x:List IL):Nat:=E7 W9 x
def c5p (x:List IL) (k:Int):List IL:=mkL W9 a6k x k
def a2N (x:IL):Nat:=1+E7 Q5 x.2
def a8G (x:IL) (k:Int):IL:=((k),mkL Q5 a3E x.2 (k+1))
def c5o (x:List IL):Nat:=E7 a2N x
def c5M (x:List IL) (k:Int):List IL:=mkL a2N a8G x k
def a1j (x:IL):Nat:=1+E7 Q5 x.2
def a7G (x:IL) (k:Int):IL:=((k),mkL Q5 a3E x.2 (k+1))
def c4D (x:List IL):Nat:=E7 a1j x
def c4j (x:List IL) (k:Int):List IL:=mkL a1j a7G x k
def b6E (x:Int×Int):Nat:=1+1
def c1D (x:Int×Int) (k:Int):Int×Int:=((k),(k+1))
def c5L (x:List (Int×Int)):Nat:=E7 b6E x
def c5z (x:List (Int×Int)) (k:Int):List (Int×Int):=mkL b6E c1D x k
def b3T (x:List Int×List IL):Nat:=E7 Q5 x.1+E7 a2N x.2
def c0h (x:List Int×List IL) (k:Int):List Int×List IL:=(mkL Q5 a3E x.1 (k),mkL a2N a8G x.2 (k+(E7 Q5 x.1:Nat)))
def c5c (x:List (List Int×List IL)):Nat:=E7 b3T x
def c4Z (x:List (List Int×List IL)) (k:Int):List (List Int×List IL):=mkL b3T c0h x k
def b0V (x:List Int×List Int):Nat:=E7 Q5 x.1+E7 Q5 x.2
def b7c (x:List Int×List Int) (k:Int):List Int×List Int:=(mkL Q5 a3E x.1 (k),mkL Q5 a3E x.2 (k+(E7 Q5 x.1:Nat)))
def c4f (x:List (List Int×List Int)):Nat:=E7 b0V x
def c4e (x:List (List Int×List Int)) (k:Int):List (List Int×List Int):=mkL b0V b7c x k
def b2J (x:Int×List Int×Int×Int×Int):Nat:=1+E7 Q5 x.2.1+1+1+1
def b8U (x:Int×List Int×Int×Int×Int) (k:Int):Int×List Int×Int×Int×Int:=((k),mkL Q5 a3E x.2.1 (k+1),(k+1+(E7 Q5 x.2.1:Nat)),(k+1+(E7 Q5 x.2.1:Nat)+1),(k+1+(E7 Q5 x.2.1:Nat)+1+1))
def c4k (x:List (Int×List Int×Int×Int×Int)):Nat:=E7 b2J x
def c4L (x:List (Int×List Int×Int×Int×Int)) (k:Int):List (Int×List Int×Int×Int×Int):=mkL b2J b8U x k
def b6L (x:Int×IL):Nat:=1+1+E7 Q5 x.2.2
def c1W (x:Int×IL) (k:Int):Int×IL:=((k),(k+1),mkL Q5 a3E x.2.2 (k+1+1))
def c5x (x:List (Int×IL)):Nat:=E7 b6L x
def c5Q (x:List (Int×IL)) (k:Int):List (Int×IL):=mkL b6L c1W x k
def b1k (x:(List Int×List IL)×List IL):Nat:=E7 Q5 x.1.1+E7 a2N x.1.2+E7 a2N x.2
def b7D (x:(List Int×List IL)×List IL) (k:Int):(List Int×List IL)×List IL:=((mkL Q5 a3E x.1.1 (k),mkL a2N a8G x.1.2 (k+(E7 Q5 x.1.1:Nat))),mkL a2N a8G x.2 (k+(E7 Q5 x.1.1:Nat)+(E7 a2N x.1.2:Nat)))
def c4c (x:List ((List Int×List IL)×List IL)):Nat:=E7 b1k x
def c4d (x:List ((List Int×List IL)×List IL)) (k:Int):List ((List Int×List IL)×List IL):=mkL b1k b7D x k
def a8T (x:Int×IL×IL):Nat:=1+1+E7 Q5 x.2.1.2+1+E7 Q5 x.2.2.2
def b6x (x:Int×IL×IL) (k:Int):Int×IL×IL:=((k),((k+1),mkL Q5 a3E x.2.1.2 (k+1+1)),((k+1+1+(E7 Q5 x.2.1.2:Nat)),mkL Q5 a3E x.2.2.2 (k+1+1+(E7 Q5 x.2.1.2:Nat)+1)))
def c5N (x:List (Int×IL×IL)):Nat:=E7 a8T x
def c5t (x:List (Int×IL×IL)) (k:Int):List (Int×IL×IL):=mkL a8T b6x x k
def b4a (x:List (Int×IL×IL)):Nat:=E7 a8T x
def c0A (x:List (Int×IL×IL)) (k:Int):List (Int×IL×IL):=(mkL a8T b6x x (k))
def c4Y (x:List (List (Int×IL×IL))):Nat:=E7 b4a x
def c5d (x:List (List (Int×IL×IL))) (k:Int):List (List (Int×IL×IL)):=mkL b4a c0A x k
def b0A (x:(List IL)×List Int×(List IL)×Int):Nat:=E7 W9 x.1+E7 Q5 x.2.1+E7 a1j x.2.2.1+1
def b7z (x:(List IL)×List Int×(List IL)×Int) (k:Int):(List IL)×List Int×(List IL)×Int:=(mkL W9 a6k x.1 (k),mkL Q5 a3E x.2.1 (k+(E7 W9 x.1:Nat)),mkL a1j a7G x.2.2.1 (k+(E7 W9 x.1:Nat)+(E7 Q5 x.2.1:Nat)),(k+(E7 W9 x.1:Nat)+(E7 Q5 x.2.1:Nat)+(E7 a1j x.2.2.1:Nat)))
def c4b (x:List ((List IL)×List Int×(List IL)×Int)):Nat:=E7 b0A x
def c4a (x:List ((List IL)×List Int×(List IL)×Int)) (k:Int):List ((List IL)×List Int×(List IL)×Int):=mkL b0A b7z x k
def a6j (x:(List IL)×(List IL)×List Int):Nat:=E7 W9 x.1+E7 W9 x.2.1+E7 Q5 x.2.2
def b1I (x:(List IL)×(List IL)×List Int) (k:Int):(List IL)×(List IL)×List Int:=(mkL W9 a6k x.1 (k),mkL W9 a6k x.2.1 (k+(E7 W9 x.1:Nat)),mkL Q5 a3E x.2.2 (k+(E7 W9 x.1:Nat)+(E7 W9 x.2.1:Nat)))
def c1a (x:List ((List IL)×(List IL)×List Int)):Nat:=E7 a6j x
def c0W (x:List ((List IL)×(List IL)×List Int)) (k:Int):List ((List IL)×(List IL)×List Int):=mkL a6j b1I x k
end Go.Proofs.YthapcdhdfaibkaaGreatDoor

namespace Go.Proofs.YthapcdhdfaibkaaGreatDoor
set_option linter.all false
def S3 (l:List Int):Bool:= !l.any λn=> !inR n 0 9
def N9 (s:List Int) (f:IL):Bool:=N8 s f.1&&(decide ((f.2.length:Int)=at0 s f.1)&&S3 f.2)
theorem a6R {s:List Int} {f:IL} (h:N8 s f.1=false):false=N9 s f:=by simp[N9,h]
theorem b1j {s:List Int} {f:IL} {k:Int} (e:at0 s f.1=k) (h:(f.2.length:Int)≠k):false=N9 s f:=by simp[N9,e,h]
theorem b7A {s:List Int} {f:IL} (h:S3 f.2=false):false=N9 s f:=by simp[N9,h]
theorem b2U {s:List Int} {f:IL} {k:Int} (h:N8 s f.1=true) (e:at0 s f.1=k) (h2:(f.2.length:Int)=k):S3 f.2=N9 s f:=by simp[N9,h,e,h2]
def c0i (s:List Int) (r:Int×IL) (f:IL):Bool:=b8R s r&&(N9 s f&&decide (f.1=r.1))
def a3a (m:List Int) (v:List Int):List Int:=m.map (at0 v)
def c5K (s:List Int) (r:Int×IL) (f:IL):Int:=cond (c0i s r f) r.2.1 0
def c5v (s:List Int) (r:Int×IL) (f:IL):List Int:=cond (c0i s r f) (a3a r.2.2 f.2) []
end Go.Proofs.YthapcdhdfaibkaaGreatDoor

namespace Go.Proofs.YthapcdhdfaibkaaGreatDoor
set_option linter.all false
def y9 (b:List Int×List Int) (t:Int):Int:=
 if inR t 10 17 then (let i:=J0 (λx=>decide (x=t)) (b.1.take (min b.1.length b.2.length));if i<0 then-1 else at0 b.2 i) else t
theorem X0 {b:List Int×List Int} {t:Int} (h:inR t 10 17=false):t=y9 b t:=by simp[y9,h]
theorem b4q {b:List Int×List Int} {t:Int} (h:inR t 10 17=true) (h2:J0 (λx=>decide (x=t)) (b.1.take (min b.1.length b.2.length))<0): -1=y9 b t:=by simp only[y9,h,if_true,if_pos h2]
theorem a8e {α:Type} {p:α→Bool} {s:List α} (h:¬J0 p s<0):0≤J0 p s∧(J0 p s).toNat<s.length:=by
 unfold J0 at *
 by_cases q:s.any p=true
 ·rw[if_pos q] at h ⊢
  have:=List.findIdx_lt_length.2 (List.any_eq_true.1 q)
  omega
 ·rw[if_neg q] at h;omega
theorem c0k {b:List Int×List Int} {t:Int} (h:inR t 10 17=true) (h2:¬J0 (λx=>decide (x=t)) (b.1.take (min b.1.length b.2.length))<0) (h3:(J0 (λx=>decide (x=t)) (b.1.take (min b.1.length b.2.length))).toNat<b.2.length):
  b.2[(J0 (λx=>decide (x=t)) (b.1.take (min b.1.length b.2.length))).toNat]=y9 b t:=by
 simp only[y9,h,if_true,if_neg h2,F8 h3]
theorem a4O {b:List Int×List Int} {t:Int} {g:Nat} (h:inR t 10 17=true) (h1:g<b.1.length) (h2:g<b.2.length) (e:b.1[g]=t) (pa:∀x∈b.1.take g,decide (x=t)=false):b.2[g]=y9 b t:=by
 have h3:g<(b.1.take (min b.1.length b.2.length)).length:=by simp;omega
 have hi:=P3 (p:=λx=>decide (x=t)) h3 (by rw[List.take_take,Nat.min_eq_left (by omega)];exact pa) (by simp[e])
 have h4:¬((g:Nat):Int)<0:=by omega
 simp only[y9,h,if_true, ←hi,if_neg h4,F8 (i:=(g:Int)) (s:=b.2) (by simpa using h2)]
 rfl
theorem b2Q {b:List Int×List Int} {t:Int} {g:Nat} (h:inR t 10 17=true) (h1:¬(g<b.1.length∧g<b.2.length)) (pa:∀x∈b.1.take g,decide (x=t)=false): -1=y9 b t:=by
 refine b4q h ?_
 rw[←O4 (p:=λx=>decide (x=t)) (s:=b.1.take (min b.1.length b.2.length)) (k:=min b.1.length b.2.length) (by simp) ?_]
 ·omega
 ·intro x hx
  rw[List.take_take,Nat.min_self] at hx
  refine pa x ?_
  rw[List.mem_take_iff_getElem] at hx ⊢
  obtain ⟨i,hi,rfl⟩:=hx
  exact ⟨i,by omega,Z⟩
theorem a6Y {b:List Int×List Int} {t:Int} (h:I64 t) (hb:∀x∈b.2,I64 x):I64 (y9 b t):=by
 simp only[y9]
 split
 ·split
  ·exact ⟨by decide,by decide⟩
  ·unfold at0
   rcases Nat.lt_or_ge (J0 (λx=>decide (x=t)) (b.1.take (min b.1.length b.2.length))).toNat b.2.length with h1|h1
   ·rw[L5 h1];exact hb _ (List.getElem_mem h1)
   ·have:b.2.getD (J0 (λx=>decide (x=t)) (b.1.take (min b.1.length b.2.length))).toNat 0=0:=by simp[List.getD,List.getElem?_eq_none h1]
    rw[this];exact ⟨by decide,by decide⟩
 ·exact h
theorem a8o {b:List Int×List Int} {l:List Int} (h:∀x∈l,I64 x) (h1:∀x∈b.1,I64 x) (h2:∀x∈b.2,I64 x):∀x∈l,I64 (y9 b x):=λx hx=>a6Y (h x hx) h2
end Go.Proofs.YthapcdhdfaibkaaGreatDoor

namespace Go.Proofs.YthapcdhdfaibkaaGreatDoor
set_option linter.all false
def pick {α:Type} (p:Nat→Bool):List α→Nat→List α
 |[],_=>[]
 |x::xs,i=>if p i then x::pick p xs (i+1) else pick p xs (i+1)
def c4w (mask:Int) (i:Nat):Bool:=decide (0<mask)&&decide (a0P (mask/2^i) 1=1)
def c6o (l:List (Int×IL)) (mask:Int):List (Int×IL):=pick (c4w mask) (l.take 20) 0
theorem M9 {P:Program} {Q:Exit→Act→World→Prop} {n:Nat} {w0:World} {L0:List Nat} {fr:Fr} {H:List HP} {d:Nat} {ty:TypeId} {pos:String} {af:Array Edge} {g:Option (Nat×Bool)} {α:Type} {E:Enc α} {T e e2:TypeId} {agg:Bool} {k m2:Nat} {z:List Value} {by':Nat} {x y:Operand} {ad a2:Option Addr} {c2:Nat} {ys:List α} (hE:Plain E) (hT:P.underlying T=some (.slice e)) (ht:TyOk P e agg k z by') (hk:k=E.k)
  (hx:ev fr x=some (.slice ad 0 0)) (hy:ev fr y=some (.slice a2 m2 c2)) (hr:Ro w0 L0 (Enc.sl e2 E) [.slice a2 m2 c2] ys) (h63:m2≤9223372036854775807) (hbytes:m2*by'≤140737488355328) (hd:d<n):
  Nop P Q n w0 L0 fr H ⟨some d,.call ⟨.builtin .append, #[x,y], #[T,T]⟩,ty,pos,af,g⟩ true (κ:=Option Addr×Nat) (λp=>(d,.slice p.1 m2 p.2)::fr) (λp=>ow (Enc.sl e E) [.slice p.1 m2 p.2] ys::H) (λ_=>True):=λK hK a w ha hw=>by
 subst hk
 obtain ⟨ccs,⟨Lc,h1⟩,h2,h3⟩:=hr.src
 have hsrc:(m2=0∧ccs=[])∨ ∃b o,a2=some ⟨b,o,none⟩∧L9 w b o ccs:=by
  rcases h3 H with h|⟨b,o,k1,k2⟩
  ·exact .inl h
  ·exact .inr ⟨b,o,k1,k2 w hw⟩
 have hy1:y8 E w ccs ys [] true:=(hE.elems h1).stable (by simp)
 have hm2:=hr.slen.1
 obtain ⟨a',c',w',L1',r1,r2,r3,r4,-⟩:=a3P (P:=P) (ty:=ty) (c2:=c2) hT ht E.pos (show (row e E.k ad 0 0 []).holds w [] from ⟨by simp,.inl ⟨Z,Z,Z⟩⟩) hsrc (by rw[hy1.len,hm2]) hy1.one (by rw[Nat.zero_add];exact h63) (by rw[Nat.zero_add];exact hbytes)
 obtain ⟨L,hs,hn,hst⟩:=id hw
 obtain ⟨d1,d2,d3⟩:=b2B (xs:=([]:List α)) (m:=0) Z hm2 (by rw[Nat.zero_add];exact h63) ⟨Z,Z⟩ hy1 (by simp) r2 r3 r4
 obtain ⟨k1,k2,k3⟩:=Step.call (Lp:=[]) (Lr:=L) (by simpa using hst) (by simpa using hn) hs.inh (by simpa using d3) d2
 have hrun:(execOp a.eval ⟨some d,.call ⟨.builtin .append, #[x,y], #[T,T]⟩,ty,pos,af,g⟩).run P w= .ok (.value (.slice a' (0+m2) c')) w':=by
  simp only[execOp,resolve,ha.ev hx,ha.ev hy,List.map_toArray,List.map_cons,List.map_nil,Sem.run_bind,Sem.run_pure,Result.andThen_ok,invoke,builtin,r1]
 simp only[Nat.zero_add,List.nil_append] at d1 hrun
 rw[Oper.wp,hrun]
 exact hK (a',c') trivial w _ _ (ha.put hd _) ⟨_,⟨_,L,Z,d1,hs.stable k3⟩,k2,k1⟩ (λ_=>r4.below)
end Go.Proofs.YthapcdhdfaibkaaGreatDoor
