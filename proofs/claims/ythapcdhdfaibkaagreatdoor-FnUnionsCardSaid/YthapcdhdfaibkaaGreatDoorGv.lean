import Derived.Test.YthapcdhdfaibkaaGreatDoorT36
section
namespace Go.Proofs.YthapcdhdfaibkaaGreatDoor
set_option linter.all false
def a0Z (h head:List Int) (b:List Int×List Int):Bool:=decide (h.map (y9 b)=head)
def V4 (l:List (List Int×List Int)) (h head:List Int):List Int×List Int:=(l.find? (a0Z h head)).getD ([],[])
theorem a1X {l:List (List Int×List Int)} {h head:List Int} {g:Nat} (hg:g<l.length):V4 (l.drop g) h head=if a0Z h head l[g] then l[g] else V4 (l.drop (g+1)) h head:=by
 rw[List.drop_eq_getElem_cons hg]
 unfold V4
 rw[List.find?_cons]
 cases a0Z h head l[g]<;>simp
theorem a2p {l:List (List Int×List Int)} {h head:List Int} {g:Nat} (hg:l.length≤g):V4 (l.drop g) h head=([],[]):=by
 rw[List.drop_eq_nil_of_le hg];rfl
theorem a0l {d7:List IL}:(k7 (λt=>inR t 0 9) d7).length≤10:=by
 have h1:(k7 (λt=>inR t 0 9) d7).Pairwise (· < ·):=(a3n List.Pairwise.nil).1
 have h2:((k7 (λt=>inR t 0 9) d7).map λx=>x.toNat).Nodup:=by
  unfold List.Nodup
  rw[List.pairwise_map]
  refine List.Pairwise.imp_of_mem (λ{a b} ha hb hab e=>?_) h1
  have ra:=a8W a ha
  have rb:=a8W b hb
  omega
 have h3:=a3N (n:=10) h2 λx hx=>by
  obtain ⟨y,hy,rfl⟩:=List.mem_map.1 hx
  have:=a8W y hy
  omega
 simpa using h3
def xF (p q:List IL):List IL:=p++(k7 (λt=>inR t 0 9) q).map λc=>((3:Int),[c])
theorem c7C {p:List IL} {m:List Int} (h1:p.length≤4) (h2:∀a∈p,a.2.length≤3) (hm:m.length≤10):D8 (λx:IL=>x.2.length) (p++m.map λc=>((3:Int),[c]))≤1048576:=by
 have h4:=a5e (c:=λx:IL=>x.2.length) (n:=3) (l:=p++m.map λc=>((3:Int),[c])) λa ha=>by
  rw[List.mem_append] at ha
  rcases ha with ha|ha
  ·exact h2 a ha
  ·simp only[List.mem_map] at ha
   obtain ⟨c,_,rfl⟩:=ha
   show 1≤3;decide
 have h5:(p++m.map λc=>((3:Int),[c])).length≤14:=by simp;omega
 unfold D8;omega
theorem c7o:∀{m:List Int},(m.map λc=>((3:Int),[c])).flatMap (λa=>a.2)=m
 |[]=>rfl
 |x::m=>by simp only[List.map_cons,List.flatMap_cons,c7o (m:=m)];rfl
theorem c7v {p q:List IL}:(xF p q).flatMap (λa=>a.2)=p.flatMap (λa=>a.2)++k7 (λt=>inR t 0 9) q:=by
 rw[xF,List.flatMap_append,c7o]
theorem a5m {is:Int→Bool} {l:List IL} {x:Int}:x∈k7 is l↔x∈l.flatMap (λa=>a.2)∧is x=true:=by
 unfold k7
 rw[a4Y,List.mem_filter]
theorem c7p {p q:List IL}:∀x,H6 (k7 (λt=>inR t 0 9) (xF p q)) x=H6 [k7 (λt=>inR t 0 9) p,k7 (λt=>inR t 0 9) q].flatten x:=by
 refine c7y λx=>?_
 rw[a5m,c7v,List.mem_append]
 simp only[List.flatten_cons,List.flatten_nil,List.append_nil,List.mem_append]
 constructor
 ·rintro ⟨h|h,h2⟩
  ·exact .inl (a5m.2 ⟨h,h2⟩)
  ·exact .inr h
 ·rintro (h|h)
  ·exact ⟨.inl (a5m.1 h).1,(a5m.1 h).2⟩
  ·exact ⟨.inr h,(a5m.1 h).2⟩
theorem c7h {p q:List IL}:V3 (xF p q)=V3 p:=by
 unfold V3
 show k7 _ _=k7 _ _
 have e:(k7 (λt=>inR t 0 9) q).filter (λt=>inR t 10 17)=[]:=by
  rw[List.filter_eq_nil_iff]
  intro x hx
  have:=a8W x hx
  simp[inR];omega
 rw[k7,c7v,List.filter_append,e,List.append_nil];rfl
theorem c7f {α:Type} {p P:α→Bool} {f:α} (hf:P f=false):∀{l:List α},(P4 p f l).filter P=l.filter P
 |[]=>rfl
 |x::l=>by
  have h:=c7f (p:=p) hf (l:=l)
  simp only[P4]
  split
  ·simp[hf]
  ·simp only[List.filter_cons,h]
theorem c7q {P:IL→Bool} {f:IL} {l:List IL} (hf:P f=false):(F3 l f).filter P=l.filter P:=by
 unfold F3 W2
 split
 ·rfl
 ·split
  ·exact c7f hf
  ·simp[List.filter_append,hf]
theorem c7x {P:IL→Bool} {b:List Int×List Int} (h3:∀f:IL,f.1=3→P f=false):∀{m:List Int} {out:List IL},((m.map λc=>((3:Int),[c])).foldl (λout a=>F3 out (R2 a b)) out).filter P=out.filter P
 |[],out=>rfl
 |x::m,out=>by
  rw[List.map_cons,List.foldl_cons,c7x h3,c7q (h3 _ Z)]
theorem c7r {b:List Int×List Int}:∀{d7 out:List IL},(∀a∈d7,a.1<3)→(∀f∈out,f.1<3)→∀f∈d7.foldl (λout a=>F3 out (R2 a b)) out,f.1<3
 |[],out,_,h=>h
 |a::d7,out,ha,h=>by
  refine c7r (d7:=d7) (out:=F3 out (R2 a b)) (λx hx=>ha x (by simp[hx])) λf hf=>?_
  rcases a3Q hf with hf|rfl
  ·exact h f hf
  ·exact ha a (by simp)
theorem c7E {p q:List IL} {b:List Int×List Int} (hp:∀a∈p,a.1<3):(a7D (xF p q) b).filter (λf=>decide (f.1<3))=a7D p b:=by
 unfold a7D xF
 rw[List.foldl_append,c7x (λf hf=>by simp[hf])]
 rw[List.filter_eq_self]
 intro f hf
 rw[decide_eq_true_eq]
 exact c7r hp (by simp) f hf
theorem x_B {p q:List IL}:fzB (k7 (λt=>inR t 0 9) (xF p q)) (xF p q)=fzB [k7 (λt=>inR t 0 9) p,k7 (λt=>inR t 0 9) q].flatten p:=by
 unfold fzB;rw[c7h,(c7e c7p).1]
theorem x_V {p q:List IL}:fzV (k7 (λt=>inR t 0 9) (xF p q)) (xF p q)=fzV [k7 (λt=>inR t 0 9) p,k7 (λt=>inR t 0 9) q].flatten p:=by
 unfold fzV;rw[x_B,c7h]
theorem x_X {p q:List IL}:fzX (k7 (λt=>inR t 0 9) (xF p q)) (xF p q)=fzX [k7 (λt=>inR t 0 9) p,k7 (λt=>inR t 0 9) q].flatten p:=by
 unfold fzX;rw[x_B,c7h,(c7e c7p).2]
theorem x_F {p q:List IL} (hp:∀a∈p,a.1<3):(fzF (k7 (λt=>inR t 0 9) (xF p q)) (xF p q)).filter (λf=>decide (f.1<3))=fzF [k7 (λt=>inR t 0 9) p,k7 (λt=>inR t 0 9) q].flatten p:=by
 unfold fzF
 rw[x_B]
 cases fzB [k7 (λt=>inR t 0 9) p,k7 (λt=>inR t 0 9) q].flatten p
 ·rfl
 ·simp only[cond_true]
  rw[c7E hp,c7h,(c7e c7p).2]
theorem a4I {u:List Int} {d7:List IL}:(fzF u d7).length≤d7.length:=by
 unfold fzF
 cases fzB u d7
 ·simp
 ·exact c2h
theorem a5a {p q:List IL}:∀x∈[k7 (λt=>inR t 0 9) p,k7 (λt=>inR t 0 9) q].flatten,0≤x∧x≤9:=by
 intro x hx
 simp only[List.flatten_cons,List.flatten_nil,List.append_nil,List.mem_append] at hx
 rcases hx with h|h<;>exact a8W x h
def a2i (p q:List Int×List IL):Bool:=
 decide (p.1.length=q.1.length)&&(fzB [k7 (λt=>inR t 0 9) p.2,k7 (λt=>inR t 0 9) q.2].flatten p.2&&
  (B1 q.2 (fzF [k7 (λt=>inR t 0 9) p.2,k7 (λt=>inR t 0 9) q.2].flatten p.2)).any (a0Z q.1 (p.1.map (y9 (fzV [k7 (λt=>inR t 0 9) p.2,k7 (λt=>inR t 0 9) q.2].flatten p.2,fzX [k7 (λt=>inR t 0 9) p.2,k7 (λt=>inR t 0 9) q.2].flatten p.2)))))
def a1F (s:List Int) (p q:List Int×List IL):Bool:=w7 s p&&(w7 s q&&a2i p q)
theorem b5L {s:List Int} {q:List Int×List IL} (h:w7 s q=true):∀a∈q.2,a.1<3:=by
 intro a ha
 simp only[w7,Bool.and_eq_true,Bool.not_eq_true',List.any_eq_false,Bool.not_eq_true] at h
 have h1:P1 s a=true:=by simpa using h.2.2.1 a ha
 simp only[P1,Bool.and_eq_true] at h1
 have h2:=a0R h1.1
 have h3:=h1.1
 simp only[N8,Q4,inR,Bool.and_eq_true,decide_eq_true_eq] at h3
 omega
def a0v (l:List (List Int)):Nat:=(l.map List.length).sum
theorem a2q {l:List (List Int)} {x:List Int}:a0v (l++[x])=a0v l+x.length:=by simp[a0v,List.sum_append]
theorem a5c:a0v []=0:=rfl
theorem a5u {l:List (List Int)} {g:Nat}:a0v (l.take g)≤a0v l:=by
 have:a0v l=a0v (l.take g)+a0v (l.drop g):=by
  rw[a0v,a0v,a0v, ←List.sum_append, ←List.map_append,List.take_append_drop]
 omega
theorem b5P {l:List (List Int)}:l.flatten.length=a0v l:=by rw[a0v,List.length_flatten]
end Go.Proofs.YthapcdhdfaibkaaGreatDoor
end
section
namespace Go.Proofs.YthapcdhdfaibkaaGreatDoor
set_option linter.all false
section
variable {x b:List Int×List Int} {t u v:Int} {h head:List Int} {s:List Int} {q:List Int×List IL} {F F':List IL} {d7:List IL} {a f:IL}
theorem b2F:∀{l:List Int} {u:Int},u∈l→∃g,∃hg:g<l.length,l[g]=u∧∀y∈l.take g,decide (y=u)=false
 |[],_,h=>by cases h
 |z::l,u,h=>by
  by_cases e:z=u
  ·exact ⟨0,by simp,e,by simp⟩
  ·rcases List.mem_cons.1 h with h|h
   ·exact absurd h.symm e
   ·obtain ⟨g,hg,h1,h2⟩:=b2F h
    refine ⟨g+1,by simp;omega,by simpa using h1,λy hy=>?_⟩
    rw[List.take_succ_cons] at hy
    rcases List.mem_cons.1 hy with hy|hy
    ·rw[hy];exact decide_eq_false e
    ·exact h2 y hy
theorem b6c (h:x.1.length=x.2.length):unb x u=false↔u∈x.1:=by
 rw[unb, ←h,Nat.min_self,List.take_length]
 simp
def bd (x:List Int×List Int) (u:Int):Prop:=inR u 10 17=false∨u∈x.1
theorem b3c (h:x.1.length=x.2.length) (hu:bd x u):y9 (D4 x t v) u=y9 x u:=by
 cases hc:inR t 10 17&&unb x t with
 |false=>rw[b0M hc]
 |true=>
  rw[a8L hc]
  rcases hu with hu|hu
  ·rw[←X0 hu, ←X0 hu]
  ·cases hr:inR u 10 17 with
   |false=>rw[←X0 hr, ←X0 hr]
   |true=>
    obtain ⟨g,hg,h1,h2⟩:=b2F hu
    have e1:=a4O (b:=x) hr hg (by omega) h1 h2
    have e2:=a4O (b:=(x.1++[t],x.2++[v])) (g:=g) hr (by simp;omega) (by simp;omega) (by simp[List.getElem_append_left hg,h1]) (by
     intro y hy
     simp only[List.take_append_of_le_length (Nat.le_of_lt hg)] at hy
     exact h2 y hy)
    rw[←e1, ←e2]
    simp[List.getElem_append_left (show g<x.2.length by omega)]
theorem b6s (hu:bd x u):bd (D4 x t v) u:=by
 unfold D4
 split
 ·rcases hu with hu|hu
  ·exact .inl hu
  ·exact .inr (by simp[hu])
 ·exact hu
theorem c1A (h:x.1.length=x.2.length):bd (D4 x t v) t:=by
 cases hr:inR t 10 17 with
 |false=>exact .inl hr
 |true=>
  cases hu:unb x t with
  |true=>rw[a8L (by rw[hr,hu];rfl)];exact .inr (by simp)
  |false=>rw[b0M (by rw[hr,hu];rfl)];exact .inr ((b6c h).1 hu)
theorem a9z:∀{l:List (Int×Int)} {x:List Int×List Int} {u:Int},bd x u→bd (H0 x l) u
 |[],_,_,h=>h
 |p::l,x,u,h=>a9z (l:=l) (b6s h)
theorem a6L:∀{l:List (Int×Int)} {x:List Int×List Int} {u:Int},x.1.length=x.2.length→bd x u→y9 (H0 x l) u=y9 x u
 |[],_,_,_,_=>rfl
 |p::l,x,u,h,hu=>(a6L (l:=l) (a4H h) (b6s hu)).trans (b3c h hu)
theorem b2v:∀{l:List (Int×Int)} {x:List Int×List Int},x.1.length=x.2.length→okV x l=true→∀p∈l,y9 (H0 x l) p.1=p.2∧bd (H0 x l) p.1
 |[],_,_,_,p,hp=>by cases hp
 |q::l,x,h,hk,p,hp=>by
  simp only[okV,Bool.and_eq_true,decide_eq_true_eq] at hk
  rcases List.mem_cons.1 hp with hp|hp
  ·subst hp
   have hb:bd (D4 x p.1 p.2) p.1:=c1A h
   exact ⟨(a6L (l:=l) (a4H h) hb).trans hk.1,a9z (l:=l) hb⟩
  ·exact b2v (l:=l) (a4H h) hk.2 p hp
theorem a7w (hm:t6 b a f=true):(u9 b a f).1.length=(u9 b a f).2.length∧R2 a (u9 b a f)=f∧(∀t∈a.2,bd (u9 b a f) t)∧∀u,bd b u→y9 (u9 b a f) u=y9 b u∧bd (u9 b a f) u:=by
 simp only[t6,Bool.and_eq_true,decide_eq_true_eq] at hm
 obtain ⟨h1,h2,h3,h4⟩:=hm
 have hv:=b2v h3 h4
 have hz:∀i (hi:i<a.2.length),(a.2[i],f.2[i]'(by omega))∈a.2.zip f.2:=λi hi=>by
  have:(a.2.zip f.2)[i]'(by simp;omega)=(a.2[i],f.2[i]'(by omega)):=by simp
  rw[←this];exact List.getElem_mem _
 refine ⟨a6E h3,?_,?_,λu hu=>⟨a6L h3 hu,a9z hu⟩⟩
 ·unfold R2
  refine Prod.ext h1 (List.ext_getElem (by simpa using h2) λi hi hi'=>?_)
  simp only[List.length_map] at hi
  rw[List.getElem_map]
  exact (hv _ (hz i hi)).1
 ·intro t ht
  obtain ⟨i,hi,rfl⟩:=List.getElem_of_mem ht
  exact (hv _ (hz i hi)).2
def MOk (A F:List IL) (b:List Int×List Int):Prop:=b.1.length=b.2.length∧∀a∈A,R2 a b∈F∧∀t∈a.2,bd b t
theorem b5O {b b':List Int×List Int} (h:∀t∈a.2,y9 b' t=y9 b t):R2 a b'=R2 a b:=by
 unfold R2
 rw[List.map_congr_left h]
theorem b6r {A:List IL} {B:List (List Int×List Int)} (hB:∀b∈B,MOk A F b):∀b∈I9 B a F,MOk (A++[a]) F b:=by
 intro b hb
 obtain ⟨b0,hb0,hb⟩:=List.mem_flatMap.1 hb
 obtain ⟨f,hf,rfl⟩:=List.mem_map.1 hb
 rw[List.mem_filter] at hf
 obtain ⟨m1,m2,m3,m4⟩:=a7w hf.2
 refine ⟨m1,λc hc=>?_⟩
 rcases List.mem_append.1 hc with hc|hc
 ·obtain ⟨k1,k2⟩:=(hB b0 hb0).2 c hc
  exact ⟨by rw[b5O λt ht=>(m4 t (k2 t ht)).1];exact k1,λt ht=>(m4 t (k2 t ht)).2⟩
 ·rw[List.mem_singleton] at hc
  subst hc
  exact ⟨by rw[m2];exact hf.1,m3⟩
theorem b4J:∀{d7 A:List IL} {B:List (List Int×List Int)},(∀b∈B,MOk A F b)→∀b∈d7.foldl (λl a=>I9 l a F) B,MOk (A++d7) F b
 |[],A,B,hB,b,hb=>by simpa using hB b hb
 |a::d7,A,B,hB,b,hb=>by
  have:=b4J (d7:=d7) (b6r (a:=a) hB) b hb
  simpa using this
theorem a8b:∀b∈B1 d7 F,MOk d7 F b:=by
 have:=b4J (F:=F) (d7:=d7) (A:=[]) (B:=[([],[])]) λb hb=>by
  rw[List.mem_singleton] at hb;subst hb;exact ⟨Z,λa ha=>by cases ha⟩
 simpa[B1] using this
theorem b4S {l:List (List Int)} {t:List Int}:T5 l t=true↔t∈l:=by
 unfold T5
 rw[List.any_eq_true]
 constructor
 ·rintro ⟨y,hy,e⟩;rw[decide_eq_true_eq] at e;exact e▸hy
 ·exact λh=>⟨t,h,by simp⟩
theorem b4o {l:List (List Int)} {t y:List Int}:y∈K6 l t↔y∈l∨y=t:=by
 constructor
 ·exact a3Q
 ·intro h
  unfold K6 W2
  by_cases h1:T5 l t=true
  ·rw[if_pos h1]
   rcases h with h|h
   ·exact h
   ·rw[h];exact b4S.1 h1
  ·rw[if_neg h1]
   split
   ·rename_i h2
    rcases h with h|h
    ·exact a9A h
    ·rw[h];exact a8p h2
   ·rcases h with h|h<;>simp[h]
theorem a8i {h t:List Int}:∀{l:List (List Int×List Int)} {out:List (List Int)},t∈l.foldl (λout b=>K6 out (h.map (y9 b))) out↔t∈out∨ ∃b∈l,h.map (y9 b)=t
 |[],out=>by simp
 |b::l,out=>by
  rw[List.foldl_cons,a8i,b4o]
  constructor
  ·rintro ((h1|h1)|⟨c,hc,e⟩)
   ·exact .inl h1
   ·exact .inr ⟨b,by simp,h1.symm⟩
   ·exact .inr ⟨c,by simp[hc],e⟩
  ·rintro (h1|⟨c,hc,e⟩)
   ·exact .inl (.inl h1)
   ·rcases List.mem_cons.1 hc with hc|hc
    ·subst hc;exact .inl (.inr e.symm)
    ·exact .inr ⟨c,hc,e⟩
theorem a4J {h t:List Int} {l:List (List Int×List Int)}:t∈U0 h l↔ ∃b∈l,h.map (y9 b)=t:=by
 rw[U0,a8i];simp
theorem b9U {B B':List (List Int×List Int)} (hF:∀f∈F,f∈F') (hB:∀b∈B,b∈B'):∀b∈I9 B a F,b∈I9 B' a F':=by
 intro b hb
 obtain ⟨b0,hb0,hb⟩:=List.mem_flatMap.1 hb
 obtain ⟨f,hf,rfl⟩:=List.mem_map.1 hb
 rw[List.mem_filter] at hf
 exact List.mem_flatMap.2 ⟨b0,hB b0 hb0,List.mem_map.2 ⟨f,List.mem_filter.2 ⟨hF f hf.1,hf.2⟩,Z⟩⟩
end
end Go.Proofs.YthapcdhdfaibkaaGreatDoor
end
section
namespace Go.Proofs.YthapcdhdfaibkaaGreatDoor
def a0s (s:List Int) (u:List (List Int×List IL)) (q:List Int×List IL):Bool:=u.any (a1F s q)
def a1B (s:List Int) (u:List (List Int×List IL)) (q:List Int×List IL):Bool:= !a0s s u q
def a4p (s:List Int) (a b:List (List Int×List IL)):Bool:= !a.any (a1B s b)
def a2V (s:List Int) (a b:List (List Int×List IL)):Bool:=F9 s a&&(F9 s b&&(a4p s a b&&a4p s b a))
end Go.Proofs.YthapcdhdfaibkaaGreatDoor
end
section
namespace Go.Proofs.YthapcdhdfaibkaaGreatDoor
def c1h {α:Type} (l:List α) (i:Int):List α:=if inR i 0 ((l.length:Int)-1) then l.take i.toNat++l.drop (i+1).toNat else l
end Go.Proofs.YthapcdhdfaibkaaGreatDoor
end
section
namespace Go.Proofs.YthapcdhdfaibkaaGreatDoor
set_option linter.all false
def c4n (s h:List Int) (a:List IL×Nat):List IL×Nat:=
 if a.2<a.1.length then (if a1F s (h,c1h a.1 a.2) (h,a.1) then (c1h a.1 a.2,a.2) else (a.1,a.2+1)) else a
def a6X (s h:List Int) (l:List IL):Nat→List IL×Nat
 |0=>(l,0)
 |n+1=>c4n s h (a6X s h l n)
def c6y (s h:List Int) (l:List IL) (n:Nat):Prop:=(a6X s h l n).2≤(a6X s h l n).1.length∧(a6X s h l n).1.length-(a6X s h l n).2+n=l.length∧∀a∈(a6X s h l n).1,a∈l
def c6u (s:List Int) (h:List Int) (l:List IL):List IL:=if w7 s (h,l) then (a6X s h l l.length).1 else l
end Go.Proofs.YthapcdhdfaibkaaGreatDoor
end
section
namespace Go.Proofs.YthapcdhdfaibkaaGreatDoor
set_option linter.all false
section
variable {x b:List Int×List Int} {t v:Int} {g:Int→Int} {h head u:List Int} {s:List Int} {p q:List Int×List IL} {F A:List IL} {a f:IL}
def a2m (b:List Int×List Int) (g:Int→Int):Prop:=b.1.length=b.2.length∧∀t,bd b t→y9 b t=g t
theorem b8L (hg:∀t,inR t 10 17=false→g t=t) (hb:a2m b g):y9 (D4 b t (g t)) t=g t∧a2m (D4 b t (g t)) g:=by
 have h1:y9 (D4 b t (g t)) t=g t:=by
  cases hr:inR t 10 17 with
  |false=>rw[←X0 hr,hg t hr]
  |true=>
   cases hu:unb b t with
   |true=>rw[a8L (by rw[hr,hu];rfl)];exact b5X hb.1 hr hu
   |false=>rw[b0M (by rw[hr,hu];rfl)];exact hb.2 t (.inr ((b6c hb.1).1 hu))
 refine ⟨h1,a4H hb.1,λy hy=>?_⟩
 by_cases e:y=t
 ·rw[e];exact h1
 ·have hy2:bd b y:=by
   rcases hy with hy|hy
   ·exact .inl hy
   ·unfold D4 at hy
    split at hy
    ·rcases List.mem_append.1 hy with hy|hy
     ·exact .inr hy
     ·exact absurd (List.mem_singleton.1 hy) e
    ·exact .inr hy
  rw[b3c hb.1 hy2];exact hb.2 y hy2
theorem b0K (hg:∀t,inR t 10 17=false→g t=t):∀{l:List (Int×Int)} {b:List Int×List Int},a2m b g→(∀p∈l,p.2=g p.1)→okV b l=true∧a2m (H0 b l) g
 |[],b,hb,_=>⟨Z,hb⟩
 |p::l,b,hb,hl=>by
  have e:=hl p (by simp)
  obtain ⟨h1,h2⟩:=b8L (t:=p.1) hg hb
  rw[←e] at h1 h2
  obtain ⟨h3,h4⟩:=b0K hg (l:=l) h2 λy hy=>hl y (by simp[hy])
  exact ⟨by rw[okV,h3,decide_eq_true h1];rfl,h4⟩
theorem a9t (hg:∀t,inR t 10 17=false→g t=t) (hb:a2m b g):t6 b a (a.1,a.2.map g)=true∧a2m (u9 b a (a.1,a.2.map g)) g:=by
 have hz:∀p∈a.2.zip (a.2.map g),p.2=g p.1:=by
  intro p hp
  obtain ⟨i,hi,rfl⟩:=List.getElem_of_mem hp
  simp
 obtain ⟨h1,h2⟩:=b0K hg (l:=a.2.zip (a.2.map g)) hb hz
 refine ⟨?_,h2⟩
 simp only[t6,Bool.and_eq_true,decide_eq_true_eq]
 exact ⟨trivial,by simp,hb.1,h1⟩
theorem b0W (hg:∀t,inR t 10 17=false→g t=t):∀{A:List IL} {B:List (List Int×List Int)} {V:List Int},(∀a∈A,(a.1,a.2.map g)∈F)→(∃b∈B,a2m b g∧∀t∈V,bd b t)→
  ∃b∈A.foldl (λl a=>I9 l a F) B,a2m b g∧(∀t∈V,bd b t)∧∀a∈A,∀t∈a.2,bd b t
 |[],B,V,_,⟨b,h1,h2,h3⟩=>⟨b,h1,h2,h3,λa ha=>by cases ha⟩
 |a::A,B,V,hF,⟨b,h1,h2,h3⟩=>by
  obtain ⟨m1,m2⟩:=a9t (a:=a) hg h2
  obtain ⟨k1,k2,k3,k4⟩:=a7w m1
  obtain ⟨c,c1,c2,c3,c4⟩:=b0W hg (A:=A) (B:=I9 B a F) (V:=V++a.2) (λx hx=>hF x (by simp[hx]))
   ⟨u9 b a (a.1,a.2.map g),List.mem_flatMap.2 ⟨b,h1,List.mem_map.2 ⟨_,List.mem_filter.2 ⟨hF a (by simp),m1⟩,Z⟩⟩,m2,λt ht=>by
    rcases List.mem_append.1 ht with ht|ht
    ·exact (k4 t (h3 t ht)).2
    ·exact k3 t ht⟩
  refine ⟨c,c1,c2,λt ht=>c3 t (by simp[ht]),λx hx t ht=>?_⟩
  rcases List.mem_cons.1 hx with hx|hx
  ·subst hx;exact c3 t (by simp[ht])
  ·exact c4 x hx t ht
theorem a3L (hg:∀t,inR t 10 17=false→g t=t) (hF:∀a∈A,(a.1,a.2.map g)∈F):∃b∈B1 A F,a2m b g∧∀a∈A,∀t∈a.2,bd b t:=by
 obtain ⟨b,h1,h2,_,h4⟩:=b0W hg (F:=F) (A:=A) (B:=[([],[])]) (V:=[]) hF ⟨([],[]),by simp,⟨Z,λt ht=>by
  rcases ht with ht|ht
  ·rw[←X0 ht,hg t ht]
  ·cases ht⟩,λt ht=>by cases ht⟩
 exact ⟨b,h1,h2,h4⟩
theorem b5r (hu:∀x∈u,0≤x∧x≤9):∀{n v:Nat},10≤v+n→H6 u (nxt u n v:Nat)=false∧v≤nxt u n v∧∀w,v≤w→w<nxt u n v→H6 u (w:Nat)=true
 |0,v,h=>⟨by
   cases e:H6 u (v:Int) with
   |false=>exact e
   |true=>have:=c1y hu e;omega,Nat.le_refl _,λw h1 h2=>by simp only[nxt] at h2;omega⟩
 |n+1,v,h=>by
  rw[nxt]
  split
  ·rename_i e
   obtain ⟨h1,h2,h3⟩:=b5r hu (n:=n) (v:=v+1) (by omega)
   refine ⟨h1,by omega,λw hw1 hw2=>?_⟩
   by_cases e2:w=v
   ·rw[e2];exact e
   ·exact h3 w (by omega) hw2
  ·rename_i e
   exact ⟨by simpa using e,Nat.le_refl _,λw h1 h2=>by omega⟩
theorem a2H (hu:∀x∈u,0≤x∧x≤9) {v:Nat}:H6 u (a1n u v:Nat)=false∧v≤a1n u v∧∀w,v≤w→w<a1n u v→H6 u (w:Nat)=true:=b5r hu (by omega)
theorem b3U (hu:∀x∈u,0≤x∧x≤9):∀{k i:Nat},i<k→a1n u (fzN u i)<fzN u k
 |0,i,h=>by omega
 |k+1,i,h=>by
  rw[fzN]
  rcases Nat.lt_succ_iff_lt_or_eq.1 h with h1|rfl
  ·have h2:=b3U hu h1
   have:=(a2H hu (v:=fzN u k)).2.1
   omega
  ·omega
theorem c1J (hu:∀x∈u,0≤x∧x≤9) {i k:Nat} (h:a1n u (fzN u i)=a1n u (fzN u k)):i=k:=by
 rcases Nat.lt_trichotomy i k with h1|h1|h1
 ·have h2:=b3U hu h1
  have:=(a2H hu (v:=fzN u k)).2.1
  omega
 ·exact h1
 ·have h2:=b3U hu h1
  have:=(a2H hu (v:=fzN u i)).2.1
  omega
end
end Go.Proofs.YthapcdhdfaibkaaGreatDoor
end
