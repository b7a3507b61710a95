import Derived.Test.YthapcdhdfaibkaaGreatDoorEy
section
namespace Go.Proofs.YthapcdhdfaibkaaGreatDoor
set_option linter.all false
def a5w:List Int→Nat
 |[]=>0
 |v::l=>v.toNat+10*a5w l
theorem b2M:∀{a b:List Int},a.length=b.length→(∀x∈a,0≤x∧x≤9)→(∀x∈b,0≤x∧x≤9)→a5w a=a5w b→a=b
 |[],[],_,_,_,_=>rfl
 |[],y::b,hl,_,_,_=>by simp at hl
 |x::a,[],hl,_,_,_=>by simp at hl
 |x::a,y::b,hl,ha,hb,h=>by
  have h1:=ha x (by simp)
  have h2:=hb y (by simp)
  simp only[a5w] at h
  rw[b2M (a:=a) (b:=b) (by simpa using hl) (λz hz=>ha z (by simp[hz])) (λz hz=>hb z (by simp[hz])) (by omega),show x=y by omega]
theorem b5a:∀{n:Nat} {a:List Int},(∀x∈a,0≤x∧x≤9)→a.length≤n→a5w a<10^n
 |n,[],_,_=>by simp[a5w];exact Nat.pow_pos (by decide)
 |0,x::a,_,h=>by simp at h
 |n+1,x::a,ha,h=>by
  have h1:=b5a (n:=n) (a:=a) (λz hz=>ha z (by simp[hz])) (by simpa using h)
  have h2:=ha x (by simp)
  simp only[a5w,Nat.pow_succ];omega
section
variable {s:List Int} {d6 d7:List IL} {a:IL} {l:List (List Int×List Int)} {b:List Int×List Int} {g h n:Nat}
abbrev Few (a:IL) (d6:List IL):Prop:=∀b,(W6 b a d6).length≤1000
theorem a5r (hf:d6.length≤24):Few a d6:=λb=>Nat.le_trans a4W (Nat.le_trans hf (by decide))
theorem c4I (hd:d6.Nodup) (ho:∀f∈d6,N9 s f=true):Few a d6:=λb=>by
 have hl:∀f∈d6.filter (t6 b a),f.1=a.1∧f.2.length=a.2.length∧N9 s f=true:=λf hf=>by
  obtain ⟨h1,h2⟩:=List.mem_filter.1 hf
  simp only[t6,Bool.and_eq_true,decide_eq_true_eq] at h2
  exact ⟨h2.1.symm,h2.2.1.symm,ho f h1⟩
 have hn:(d6.filter (t6 b a)).Nodup:=hd.sublist List.filter_sublist
 have h1:((d6.filter (t6 b a)).map λf=>a5w f.2).Nodup:=by
  unfold List.Nodup at hn ⊢
  rw[List.pairwise_map]
  refine List.Pairwise.imp_of_mem (λ{x y} hx hy hxy e=>hxy ?_) hn
  obtain ⟨x1,x2,x3⟩:=hl x hx
  obtain ⟨y1,y2,y3⟩:=hl y hy
  exact Prod.ext (x1.trans y1.symm) (b2M (x2.trans y2.symm) (a1w x3) (a1w y3) e)
 have h2:=a3N (n:=1000) h1 λx hx=>by
  obtain ⟨f,hf,rfl⟩:=List.mem_map.1 hx
  obtain ⟨x1,x2,x3⟩:=hl f hf
  exact b5a (n:=3) (a1w x3) (a0B x3)
 unfold W6
 simpa using h2
theorem b8F (h:Nat):(W6 b a (d6.take h)).length≤(W6 b a d6).length:=by
 unfold W6
 simp only[List.length_map]
 exact ((List.take_sublist h d6).filter _).length_le
theorem a4U (hk:Few a d6):∀{l:List (List Int×List Int)},(I9 l a d6).length≤l.length*1000
 |[]=>by simp[I9]
 |b::l=>by
  have h1:=a4U (l:=l) hk
  have h2:=hk b
  simp only[I9,List.flatMap_cons,List.length_append,List.length_cons,Nat.succ_mul] at h1 ⊢;omega
theorem b2V (hk:Few a d6) (hn:l.length*1000≤n) (hg:g<l.length) (h:Nat):(I9 (l.take g) a d6++W6 l[g] a (d6.take h)).length≤n:=by
 have h1:=a4U (l:=l.take g) hk
 have h2:=hk l[g]
 have h3:=b8F (b:=l[g]) (a:=a) (d6:=d6) h
 have h4:(l.take g).length≤g:=by simp;omega
 have h5:(g+1)*1000≤l.length*1000:=Nat.mul_le_mul_right _ hg
 rw[List.length_append];omega
theorem b4O (hk:∀a∈d7,Few a d6) (ha:∀a∈d7,a.2.length≤3):∀{g:Nat},g≤d7.length→(B1 (d7.take g) d6).length≤1000^g∧∀b∈B1 (d7.take g) d6,b.1.length≤3*g∧b.2.length≤3*g
 |0,_=>by simp[a1Q]
 |g+1,hg=>by
  obtain ⟨i1,i2⟩:=b4O hk ha (g:=g) (by omega)
  rw[List.take_succ_eq_append_getElem (by omega),a1o]
  have h1:=a4U (hk _ (List.getElem_mem (by omega:g<d7.length))) (l:=B1 (d7.take g) d6)
  refine ⟨Nat.le_trans h1 (by rw[Nat.pow_succ];exact Nat.mul_le_mul_right _ i1),λb hb=>?_⟩
  have h2:=b4e (n:=3*g) (k:=3) (d6:=d6) (ha _ (List.getElem_mem (by omega:g<d7.length))) i2 b hb
  omega
theorem a5s (hk:∀a∈d7,Few a d6) (hn:d7.length≤4) (ha:∀a∈d7,a.2.length≤3) (hg:g<d7.length):(B1 (d7.take g) d6).length*1000≤1000000000000∧∀b∈B1 (d7.take g) d6,b.1.length≤12∧b.2.length≤12:=by
 obtain ⟨i1,i2⟩:=b4O hk ha (g:=g) (by omega)
 have h1:1000^g≤1000^3:=Nat.pow_le_pow_right (by decide) (by omega)
 have h2:(1000:Nat)^3=1000000000:=by decide
 exact ⟨by omega,λb hb=>by have:=i2 b hb;omega⟩
theorem b1b (hk:∀a∈d7,Few a d6) (hn:d7.length≤4) (ha:∀a∈d7,a.2.length≤3):(B1 d7 d6).length≤1000000000000∧∀b∈B1 d7 d6,b.1.length≤12∧b.2.length≤12:=by
 obtain ⟨i1,i2⟩:=b4O hk ha (g:=d7.length) (Nat.le_refl _)
 rw[List.take_length] at i1 i2
 have h1:1000^d7.length≤1000^4:=Nat.pow_le_pow_right (by decide) hn
 have h2:(1000:Nat)^4=1000000000000:=by decide
 exact ⟨by omega,λb hb=>by have:=i2 b hb;omega⟩
end
end Go.Proofs.YthapcdhdfaibkaaGreatDoor
end
section
namespace Go.Proofs.YthapcdhdfaibkaaGreatDoor
set_option linter.all false
abbrev Bnd:=List Int×List Int
abbrev RS:=List Bnd×List Acs×List Fct
def C6 (l:List Mth) (d7:List AT2) (x:Stp) (b:Bnd):Acs:=(x.2,a0F (atM l x.2) (atA d7 x.1) b)
def rb1 (T:Acs→List Fct) (l:List Mth) (d7:List AT2) (x:Stp) (σ:RS) (b:Bnd):RS:=
 (σ.1++I9 [b] (atA d7 x.1) (T (C6 l d7 x b)),cond (a2k σ.2.1 (C6 l d7 x b)) σ.2.1 (σ.2.1++[C6 l d7 x b]),cond (a2k σ.2.1 (C6 l d7 x b)) σ.2.2 ((T (C6 l d7 x b)).foldl F3 σ.2.2))
def rbN (T:Acs→List Fct) (l:List Mth) (d7:List AT2) (x:Stp) (σ:RS) (k:Nat):RS:=(σ.1.take k).foldl (rb1 T l d7 x) ([],σ.2)
def rs1 (T:Acs→List Fct) (l:List Mth) (d7:List AT2) (σ:RS) (x:Stp):RS:=σ.1.foldl (rb1 T l d7 x) ([],σ.2)
def m6 (T:Acs→List Fct) (l:List Mth) (d7:List AT2) (d4:List Stp):RS:=d4.foldl (rs1 T l d7) ([([],[])],[],[])
structure BOk (V:List Int) (n:Nat) (b:Bnd):Prop where
 eq:b.1.length=b.2.length
 le:b.1.length≤n
 val:∀x∈b.2,0≤x∧x≤9
 has:∀v,inR v 10 17=true→v∈V→v∈b.1
structure TOk (s:List Int) (D:Acs→Prop) (T:Acs→List Fct):Prop where
 ok:∀a,D a→∀f∈T a,N9 s f=true
 nod:∀a,D a→(T a).Nodup
 len:∀a,D a→(T a).length≤24
section
variable {s:List Int} {D:Acs→Prop} {T:Acs→List Fct} {l:List Mth} {d7:List AT2} {x:Stp} {σ:RS} {b:Bnd} {V:List Int} {n k g:Nat} {a f:IL} {d4:List Stp}
theorem c1z {t:Int} (h:b.1.length=b.2.length) (hu:unb b t=false):t∈b.1:=by
 have e:b.1.take (min b.1.length b.2.length)=b.1:=List.take_of_length_le (by omega)
 rw[unb,e,Bool.not_eq_false'] at hu
 obtain ⟨y,hy,hd⟩:=List.any_eq_true.1 hu
 rw[←of_decide_eq_true hd];exact hy
theorem c1P {t v:Int} (h:BOk V n b) (hv:0≤v∧v≤9):BOk (V++[t]) (n+1) (D4 b t v):=by
 have h1:=a4H (t:=t) (v:=v) h.eq
 have h2:=b3Y (x:=b) (t:=t) (v:=v)
 have h3:=h.le
 refine ⟨h1,by omega,λy hy=>?_,λw hw hm=>?_⟩
 ·unfold D4 at hy
  split at hy
  ·rcases List.mem_append.1 hy with hy|hy
   ·exact h.val y hy
   ·simp only[List.mem_singleton] at hy;subst hy;exact hv
  ·exact h.val y hy
 ·unfold D4
  split
  ·rcases List.mem_append.1 hm with hm|hm
   ·exact List.mem_append_left _ (h.has w hw hm)
   ·exact List.mem_append_right _ hm
  ·rename_i hc
   rcases List.mem_append.1 hm with hm|hm
   ·exact h.has w hw hm
   ·simp only[List.mem_singleton] at hm;subst hm
    rw[hw,Bool.true_and] at hc
    exact c1z h.eq (by simpa using hc)
theorem b4F:∀{t v:List Int} {V:List Int} {n:Nat} {b:Bnd},t.length=v.length→BOk V n b→(∀y∈v,0≤y∧y≤9)→BOk (V++t) (n+t.length) (H0 b (t.zip v))
 |[],[],V,n,b,_,h,_=>by simpa[H0] using h
 |[],_::_,_,_,_,e,_,_=>by simp at e
 |_::_,[],_,_,_,e,_,_=>by simp at e
 |t::ts,v::vs,V,n,b,e,h,hv=>by
  have h1:=b4F (t:=ts) (v:=vs) (by simpa using e) (c1P (t:=t) h (hv v (List.mem_cons_self ..))) λy hy=>hv y (List.mem_cons_of_mem _ hy)
  rw[List.append_assoc,List.singleton_append] at h1
  rw[List.length_cons,show n+(ts.length+1)=n+1+ts.length from by omega]
  exact h1
theorem c2q {F:List Fct} (h:BOk V n b) (ho:∀f∈F,N9 s f=true):∀c∈W6 b a F,BOk (V++a.2) (n+a.2.length) c:=by
 intro c hc
 obtain ⟨f,hf,rfl⟩:=List.mem_map.1 hc
 obtain ⟨h1,h2⟩:=List.mem_filter.1 hf
 simp only[t6,Bool.and_eq_true,decide_eq_true_eq] at h2
 exact b4F h2.2.1 h (a1w (ho f h1))
theorem a6B {F:List Fct}:I9 [b] a F=W6 b a F:=by simp[I9]
theorem c2m {t:Int} (h:BOk V n b) (ht:inR t 0 9=true∨inR t 10 17=true) (hV:inR t 10 17=true→t∈V):0≤y9 b t∧y9 b t≤9:=by
 cases hv:inR t 10 17
 ·rw[←X0 hv]
  rcases ht with ht|ht
  ·exact V8 ht
  ·rw[hv] at ht;cases ht
 ·have hm:=h.has t hv (hV hv)
  have e:b.1.take (min b.1.length b.2.length)=b.1:=List.take_of_length_le (by have:=h.eq;omega)
  have hi:¬J0 (λx=>decide (x=t)) b.1<0:=by
   unfold J0
   rw[if_pos (List.any_eq_true.2 ⟨t,hm,by simp⟩)];omega
  have h2:=a8e hi
  have h3:=h.eq
  simp only[y9,hv,if_true,e,if_neg hi]
  rw[at0,L5 (by omega)]
  exact h.val _ (List.getElem_mem _)
theorem b8n {t:Int} (h:K7 t=true):inR t 0 9=true∨inR t 10 17=true:=by simpa[K7] using h
theorem c3p (hm:C5 s l=true) (hx:0≤x.2∧x.2.toNat<l.length) (hc:M4 (atM l x.2) (atA d7 x.1) V=true) (ht:∀t∈(atA d7 x.1).2,K7 t=true) (h:BOk V n b):T0 s l (C6 l d7 x b)=true:=by
 have hin:∀i∈(atM l x.2).2.1,a1a (atA d7 x.1) V i=false:=λi hi=>by
  have:=(Bool.and_eq_true_iff.1 hc).2
  simp only[Bool.not_eq_true',List.any_eq_false,Bool.not_eq_true] at this
  exact this i hi
 rw[T0,hm,Bool.true_and]
 have h1:inR x.2 0 ((l.length:Int)-1)=true:=by unfold inR;exact decide_eq_true (by omega)
 show (inR x.2 0 ((l.length:Int)-1)&&(decide ((a0F (atM l x.2) (atA d7 x.1) b).length=(atM l x.2).2.1.length)&&S3 (a0F (atM l x.2) (atA d7 x.1) b)))=true
 rw[h1,Bool.true_and,decide_eq_true (by simp[a0F]),Bool.true_and]
 refine b9f λy hy=>?_
 obtain ⟨i,hi,rfl⟩:=List.mem_map.1 hy
 have h2:=hin i hi
 simp only[a1a,Bool.or_eq_false_iff,Bool.not_eq_false',Bool.and_eq_false_imp] at h2
 have h3:=V8 h2.1
 have h4:at0 (atA d7 x.1).2 i∈(atA d7 x.1).2:=by rw[at0,L5 (by omega)];exact List.getElem_mem _
 refine c2m h (b8n (ht _ h4)) λhv=>?_
 exact a0y.1 (h2.2 hv)
theorem BOk.mono {m:Nat} (h:BOk V n b) (hn:n≤m):BOk V m b:=⟨h.eq,Nat.le_trans h.le hn,h.val,h.has⟩
structure RInv (s:List Int) (V:List Int) (n m p:Nat) (σ:RS):Prop where
 b:∀b∈σ.1,BOk V n b
 len:σ.1.length≤m
 log:σ.2.1.length≤p
 got:∀f∈σ.2.2,N9 s f=true
 asc:a2v σ.2.2
theorem RInv.gotL {m p:Nat} (h:RInv s V n m p σ):σ.2.2.length≤5324:=b2x (a4C h.asc) h.got
theorem RInv.gotE {m p:Nat} (h:RInv s V n m p σ):∀f∈σ.2.2,f.2.length≤3:=λf hf=>a0B (h.got f hf)
theorem c1U {m p n':Nat} (hT:TOk s D T) (hD:D (C6 l d7 x b)) (h:RInv s (V++(atA d7 x.1).2) n' m p σ) (hb:BOk V n b) (hn:n+(atA d7 x.1).2.length≤n'):RInv s (V++(atA d7 x.1).2) n' (m+24) (p+1) (rb1 T l d7 x σ b):=by
 refine ⟨λc hc=>?_,?_,?_,?_,?_⟩
 ·rcases List.mem_append.1 hc with hc|hc
  ·exact h.b c hc
  ·rw[a6B] at hc
   exact (c2q hb (hT.ok _ hD) c hc).mono hn
 ·show (σ.1++I9 [b] _ _).length≤_
  rw[List.length_append,a6B]
  have h1:=a4W (b:=b) (a:=atA d7 x.1) (d6:=T (C6 l d7 x b))
  have h2:=hT.len _ hD
  have h3:=h.len
  omega
 ·show (cond _ σ.2.1 _).length≤_
  have h3:=h.log
  cases a2k σ.2.1 (C6 l d7 x b)
  ·simp only[cond_false,List.length_append,List.length_cons,List.length_nil];omega
  ·simp only[cond_true];omega
 ·show ∀f∈cond _ σ.2.2 _,_
  cases a2k σ.2.1 (C6 l d7 x b)
  ·intro f hf
   rcases (a4l f).1 hf with hf|hf
   ·exact h.got f hf
   ·exact hT.ok _ hD f hf
  ·exact h.got
 ·show a2v (cond _ σ.2.2 _)
  cases a2k σ.2.1 (C6 l d7 x b)
  ·exact a9Q h.asc
  ·exact h.asc
theorem a3K (h:k<σ.1.length):rbN T l d7 x σ (k+1)=rb1 T l d7 x (rbN T l d7 x σ k) σ.1[k]:=by unfold rbN;rw[a1O h]
theorem b6d (h:k=σ.1.length):rbN T l d7 x σ k=rs1 T l d7 σ x:=by unfold rbN rs1;rw[h,List.take_length]
theorem b1C {m p:Nat} (hT:TOk s D T) (hD:∀b∈σ.1,D (C6 l d7 x b)) (h:RInv s V n m p σ):∀{k:Nat},k≤σ.1.length→RInv s (V++(atA d7 x.1).2) (n+(atA d7 x.1).2.length) (24*k) (p+k) (rbN T l d7 x σ k)
 |0,_=>⟨λb hb=>by simp[rbN] at hb,by simp[rbN],h.log,h.got,h.asc⟩
 |k+1,hk=>by
  have ih:=b1C hT hD h (k:=k) (by omega)
  rw[a3K (by omega)]
  exact c1U hT (hD _ (List.getElem_mem _)) ih (h.b _ (List.getElem_mem _)) (Nat.le_refl _)
theorem a7O (h:g<d4.length):m6 T l d7 (d4.take (g+1))=rs1 T l d7 (m6 T l d7 (d4.take g)) d4[g]:=by unfold m6;rw[a1O h]
theorem c1M {m p:Nat} (hT:TOk s D T) (hD:∀b∈σ.1,D (C6 l d7 x b)) (h:RInv s V n m p σ):RInv s (V++(atA d7 x.1).2) (n+(atA d7 x.1).2.length) (24*m) (p+m) (rs1 T l d7 σ x):=by
 have h1:=b1C hT hD h (Nat.le_refl σ.1.length)
 rw[b6d Z] at h1
 have h2:=h.len
 exact ⟨h1.b,by have:=h1.len;omega,by have:=h1.log;omega,h1.got,h1.asc⟩
theorem RInv.mono {m p n' m' p':Nat} (h:RInv s V n m p σ) (h1:n≤n') (h2:m≤m') (h3:p≤p'):RInv s V n' m' p' σ:=⟨λb hb=>(h.b b hb).mono h1,Nat.le_trans h.len h2,Nat.le_trans h.log h3,h.got,h.asc⟩
theorem b6N {q:List Int×List AT2} {m p:Nat} (hm:C5 s l=true) (hq:∀a∈q.2,∀t∈a.2,K7 t=true) (ho:S6 l q.2 d4 (g+1)=true) (hg:g<d4.length) (h:RInv s (stB q.2 (d4.take g)) n m p σ):∀b∈σ.1,T0 s l (C6 l q.2 d4[g] b)=true:=λb hb=>by
 have h1:=(Bool.and_eq_true_iff.1 ho).2
 rw[L5 hg] at h1
 simp only[X8,Bool.and_eq_true] at h1
 have a1:=V8 h1.1
 have a2:=V8 h1.2.2.1
 refine c3p hm ⟨by omega,by omega⟩ h1.2.2.2 (λt ht=>hq _ ?_ t ht) (h.b b hb)
 rw[a2I (by omega)];exact List.getElem_mem _
theorem b8y:∀{k:Nat},S6 l d7 d4 (g+k)=true→S6 l d7 d4 g=true
 |0,h=>h
 |k+1,h=>b8y (k:=k) (by rw[←Nat.add_assoc,S6] at h;exact (Bool.and_eq_true_iff.1 h).1)
theorem b0S (h:S6 l d7 d4 d4.length=true) (hg:g≤d4.length):S6 l d7 d4 g=true:=b8y (k:=d4.length-g) (by rw[show g+(d4.length-g)=d4.length from by omega];exact h)
theorem c2c (h:∀a∈d7,a.2.length≤3) {i:Int}:(atA d7 i).2.length≤3:=by
 unfold atA
 rcases Nat.lt_or_ge i.toNat d7.length with hk|hk
 ·rw[L5 hk];exact h _ (List.getElem_mem hk)
 ·simp[List.getD,List.getElem?_eq_none hk]
theorem b6A {q:List Int×List AT2} (hT:TOk s (λa=>T0 s l a=true) T) (hm:C5 s l=true) (hq:∀a∈q.2,∀t∈a.2,K7 t=true) (h3:∀a∈q.2,a.2.length≤3) (ho:S6 l q.2 d4 d4.length=true):∀{g:Nat},g≤d4.length→RInv s (stB q.2 (d4.take g)) (3*g) (24^g) (g*24^g) (m6 T l q.2 (d4.take g))
 |0,_=>⟨λb hb=>by
   simp only[m6,List.take_zero,List.foldl_nil,List.mem_singleton] at hb;subst hb
   exact ⟨Z,by simp,λx hx=>by simp at hx,λv _ hv=>by simp[stB] at hv⟩,by simp[m6],by simp[m6],λf hf=>by simp[m6] at hf,by simp[m6]⟩
 |g+1,hg=>by
  have ih:=b6A hT hm hq h3 ho (g:=g) (by omega)
  have h1:=c1M (x:=d4[g]) hT (b6N hm hq (b0S ho hg) (by omega) ih) ih
  rw[←a7O (by omega),b4G (by omega)] at h1
  have h2:=c2c h3 (i:=d4[g].1)
  refine h1.mono (by omega) (by rw[Nat.pow_succ];omega) ?_
  rw[Nat.pow_succ,Nat.add_mul]
  have:g*24^g≤g*(24^g*24):=Nat.mul_le_mul_left _ (by omega)
  omega
theorem TOk.few (hT:TOk s D T) {c:Acs} (h:D c):Few a (T c):=c4I (hT.nod _ h) (hT.ok _ h)
theorem a1b (h:k<σ.1.length):(rbN T l d7 x σ k).1++I9 [σ.1[k]] (atA d7 x.1) (T (C6 l d7 x σ.1[k]))=(rbN T l d7 x σ (k+1)).1:=by rw[a3K h];rfl
theorem a1e (h:k<σ.1.length) (hh:a2k (rbN T l d7 x σ k).2.1 (C6 l d7 x σ.1[k])=false):(rbN T l d7 x σ k).2.1++[C6 l d7 x σ.1[k]]=(rbN T l d7 x σ (k+1)).2.1:=by rw[a3K h,rb1,hh];rfl
theorem a1f (h:k<σ.1.length) (hh:a2k (rbN T l d7 x σ k).2.1 (C6 l d7 x σ.1[k])=true):(rbN T l d7 x σ k).2.1=(rbN T l d7 x σ (k+1)).2.1:=by rw[a3K h,rb1,hh];rfl
theorem a1c (h:k<σ.1.length) (hh:a2k (rbN T l d7 x σ k).2.1 (C6 l d7 x σ.1[k])=false):(T (C6 l d7 x σ.1[k])).foldl F3 (rbN T l d7 x σ k).2.2=(rbN T l d7 x σ (k+1)).2.2:=by rw[a3K h,rb1,hh];rfl
theorem a1d (h:k<σ.1.length) (hh:a2k (rbN T l d7 x σ k).2.1 (C6 l d7 x σ.1[k])=true):(rbN T l d7 x σ k).2.2=(rbN T l d7 x σ (k+1)).2.2:=by rw[a3K h,rb1,hh];rfl
theorem b4n {F v:List Fct} (h:g<F.length):F3 ((F.take g).foldl F3 v) F[g]=(F.take (g+1)).foldl F3 v:=(a1O h).symm
theorem c2R {d6:List Fct} {c:Int} (hf:B8 s d6=true):TOk s (λa=>T0 s l a=true) λa=>s5 l d6 a c where
 ok:=λa _ f h=>(N4 hf).2 f (b6k h)
 nod:=λa _=>by
  unfold s5
  split
  ·exact a4C (a8R (b0B hf))
  ·exact a4C (a9I (a8R (b0B hf)) (Nat.le_refl _)).1
 len:=λa _=>Nat.le_trans b6D (N4 hf).1
theorem b8T {d6:List Fct} (hf:B8 s d6=true):TOk s (λa=>T0 s l a=true) λa=>n9 l d6 a where
 ok:=λa _ f h=>(N4 hf).2 f (List.mem_filter.1 h).1
 nod:=λa _=>a4C (a8R (b0B hf))
 len:=λa _=>Nat.le_trans a6i (N4 hf).1
end
abbrev c0a:=List (List Int)×List Acs×List Fct×Int
def a1L (T:Acs→List Fct) (l:List Mth) (q:List Int×List AT2) (d4:List Stp):c0a:=
 (U0 q.1 (m6 T l q.2 d4).1,(m6 T l q.2 d4).2.1,(m6 T l q.2 d4).2.2,a0E l (m6 T l q.2 d4).2.1)
def O0 (s:List Int) (l:List Mth) (q:List Int×List AT2) (d4:List Stp) (d6:List Fct) (c:Int):c0a:=
 cond (K9 s l q d4&&B8 s d6) (a1L (λa=>s5 l d6 a c) l q d4) ([],[],[],0)
section
variable {s:List Int} {T:Acs→List Fct} {l:List Mth} {q:List Int×List AT2} {d4:List Stp} {d6:List Fct} {c:Int} {g:Nat}
theorem S7 (h:K9 s l q d4=false):([],[],[],0)=O0 s l q d4 d6 c:=by rw[O0,h];rfl
theorem S8 (h:B8 s d6=false):([],[],[],0)=O0 s l q d4 d6 c:=by rw[O0,h,Bool.and_false];rfl
theorem a8S (h:K9 s l q d4=true) (h2:B8 s d6=true):a1L (λa=>s5 l d6 a c) l q d4=O0 s l q d4 d6 c:=by rw[O0,h,h2];rfl
theorem a0m (h:K9 s l q d4=true):C5 s l=true∧w7 s q=true∧d4.length=q.2.length∧S6 l q.2 d4 d4.length=true:=by
 simp only[K9,Bool.and_eq_true,decide_eq_true_eq] at h
 exact ⟨h.1.1,h.1.2,by omega,h.2.2⟩
theorem a7g (h:w7 s q=true):∀a∈q.2,∀t∈a.2,K7 t=true:=by
 intro a ha t ht
 simp only[w7,Bool.and_eq_true] at h
 have h1:P1 s a=true:=by
  cases e:P1 s a with
  |true=>rfl
  |false=>
   have h2:(q.2.any λa=> !P1 s a)=true:=List.any_eq_true.2 ⟨a,ha,by simp[e]⟩
   rw[h2] at h;simp at h
 cases e:K7 t with
 |true=>rfl
 |false=>
  simp only[P1,Bool.and_eq_true] at h1
  have h2:(a.2.any λt=> !K7 t)=true:=List.any_eq_true.2 ⟨t,ht,by simp[e]⟩
  rw[h2] at h1;simp at h1
theorem a8f (ho:K9 s l q d4=true) (hT:TOk s (λa=>T0 s l a=true) T) (hg:g≤d4.length):RInv s (stB q.2 (d4.take g)) 12 331776 1327104 (m6 T l q.2 (d4.take g)):=by
 obtain ⟨h1,h2,h3,h4⟩:=a0m ho
 have h5:=D1 h2
 have h6:=b6A hT h1 (a7g h2) h5.2.2 h4 hg
 have h7:24^g≤24^4:=Nat.pow_le_pow_right (by decide) (by have:=h5.1;omega)
 have h8:(24:Nat)^4=331776:=by decide
 have h9:g≤4:=by have:=h5.1;omega
 exact h6.mono (by omega) (by omega) (Nat.le_trans (Nat.mul_le_mul h9 h7) (by omega))
theorem b1v (ho:K9 s l q d4=true) (hT:TOk s (λa=>T0 s l a=true) T) (hg:g<d4.length):∀b∈(m6 T l q.2 (d4.take g)).1,T0 s l (C6 l q.2 d4[g] b)=true:=by
 obtain ⟨h1,h2,h3,h4⟩:=a0m ho
 exact b6N h1 (a7g h2) (b0S h4 (by omega)) hg (a8f ho hT (by omega))
theorem b8d (ho:K9 s l q d4=true) (hT:TOk s (λa=>T0 s l a=true) T) (hg:g<d4.length) {k:Nat} (hk:k≤(m6 T l q.2 (d4.take g)).1.length):RInv s (stB q.2 (d4.take g)++(atA q.2 d4[g].1).2) (12+(atA q.2 d4[g].1).2.length) (24*k) (1327104+k) (rbN T l q.2 d4[g] (m6 T l q.2 (d4.take g)) k):=
 b1C hT (b1v ho hT hg) (a8f ho hT (by omega)) hk
theorem b6m (h:g=d4.length):m6 T l q.2 (d4.take g)=m6 T l q.2 d4:=by rw[h,List.take_length]
end
section
variable {s:List Int} {D:Acs→Prop} {T:Acs→List Fct} {l:List Mth} {q:List Int×List AT2} {d7:List AT2} {d4:List Stp} {d6:List Fct} {c:Int} {g k j n m p:Nat} {V:List Int} {σ:RS} {a:Acs}
theorem b8c (h:S6 l d7 d4 d4.length=true) (hg:g<d4.length):∀i∈(atM l d4[g].2).2.1,0≤i∧i.toNat<(atA d7 d4[g].1).2.length:=λi hi=>by
 have h1:=(Bool.and_eq_true_iff.1 (b0S (g:=g+1) h (by omega))).2
 rw[L5 hg] at h1
 simp only[X8,Bool.and_eq_true] at h1
 have h2:=(Bool.and_eq_true_iff.1 h1.2.2.2).2
 simp only[Bool.not_eq_true',List.any_eq_false,Bool.not_eq_true] at h2
 have h3:=h2 i hi
 simp only[a1a,Bool.or_eq_false_iff,Bool.not_eq_false'] at h3
 have h4:=V8 h3.1
 omega
theorem b8H (h:RInv s V n m p σ) (hT:TOk s D T) (hD:D a):(((T a).take j).foldl F3 σ.2.2).length≤6000∧∀f∈((T a).take j).foldl F3 σ.2.2,f.2.length≤3:=by
 have h1:=a4T (m:=(T a).take j) (v:=σ.2.2)
 have h2:=h.gotL
 have h3:=hT.len a hD
 have h4:=List.length_take_le' j (T a)
 refine ⟨by omega,λf hf=>?_⟩
 rcases (a4l f).1 hf with hf|hf
 ·exact h.gotE f hf
 ·exact a0B (hT.ok a hD f (List.mem_of_mem_take hf))
theorem a0a (hk:k=(m6 T l d7 (d4.take g)).1.length) (hg:g<d4.length):rbN T l d7 d4[g] (m6 T l d7 (d4.take g)) k=m6 T l d7 (d4.take (g+1)):=by rw[b6d hk,a7O hg]
theorem a6m:[([],[])]=(m6 T l d7 (d4.take 0)).1:=rfl
theorem a5U:[]=(m6 T l d7 (d4.take 0)).2.1:=rfl
theorem a5W:[]=(m6 T l d7 (d4.take 0)).2.2:=rfl
theorem a6b {x:Stp}:[]=(rbN T l d7 x σ 0).1:=rfl
theorem a6e {x:Stp}:σ.2.1=(rbN T l d7 x σ 0).2.1:=rfl
theorem a6g {x:Stp}:σ.2.2=(rbN T l d7 x σ 0).2.2:=rfl
theorem Q3 (h:g=d4.length):(U0 q.1 (m6 T l q.2 (d4.take g)).1,(m6 T l q.2 (d4.take g)).2.1,(m6 T l q.2 (d4.take g)).2.2,a0E l (m6 T l q.2 (d4.take g)).2.1)=a1L T l q d4:=by rw[a1L,b6m h]
theorem S9 (ho:K9 s l q d4=true) (hf:B8 s d6=true) (h:g=d4.length):(U0 q.1 (m6 (λa=>s5 l d6 a c) l q.2 (d4.take g)).1,(m6 (λa=>s5 l d6 a c) l q.2 (d4.take g)).2.1,(m6 (λa=>s5 l d6 a c) l q.2 (d4.take g)).2.2,a0E l (m6 (λa=>s5 l d6 a c) l q.2 (d4.take g)).2.1)=O0 s l q d4 d6 c:=by
 rw[←a8S ho hf,b6m h];rfl
end
end Go.Proofs.YthapcdhdfaibkaaGreatDoor
end
