import Derived.Test.YthapcdhdfaibkaaGreatDoorEh
section
namespace Go.Proofs.YthapcdhdfaibkaaGreatDoor
set_option linter.all false
abbrev Qry:=List Int×List IL
abbrev cU (p q:List IL):List Int:=[k7 (λt=>inR t 0 9) p,k7 (λt=>inR t 0 9) q].flatten
abbrev bP (u:List Int) (A:List IL):List Int×List Int:=(V3 A,a8m u (V3 A).length)
def unF (u:List Int) (A:List IL) (w:Int):Int:=((V3 A).find? λx=>decide (y9 (bP u A) x=w)).getD w
def hom (p q:Qry):Prop:=∃g:Int→Int,(∀t,inR t 10 17=false→g t=t)∧(∀a∈q.2,(a.1,a.2.map g)∈p.2)∧q.1.map g=p.1
section
variable {t v:Int} {g:Int→Int} {h head u:List Int} {s:List Int} {p q r:Qry} {F A B:List IL} {a f:IL}
theorem b7u:(V3 A).Nodup:=by
 have h1:(V3 A).Pairwise (· < ·):=(a3n List.Pairwise.nil).1
 exact List.Pairwise.imp (λ{a b} h e=>by omega) h1
theorem b5W:∀{l:List Int} {i:Nat} (hi:i<l.length),l.Nodup→∀y∈l.take i,decide (y=l[i])=false
 |x::l,0,_,_,y,hy=>by cases hy
 |x::l,i+1,hi,hn,y,hy=>by
  rw[List.take_succ_cons] at hy
  rw[List.nodup_cons] at hn
  rcases List.mem_cons.1 hy with hy|hy
  ·refine decide_eq_false λe=>hn.1 ?_
   rw[←hy,e]
   exact List.getElem_mem _
  ·exact b5W (by simpa using hi) hn.2 y hy
theorem c0u {i:Nat} (hi:i<(V3 A).length):y9 (bP u A) (V3 A)[i]=(a1n u (fzN u i):Int):=by
 have hv:=c1x (d7:=A) _ (List.getElem_mem hi)
 have e:=a4O (b:=bP u A) (t:=(V3 A)[i]) (g:=i) (by simp[inR];omega) hi (by simpa[c0o] using hi) Z (b5W hi b7u)
 rw[←e]
 simp[a8m]
theorem b5Z (hu:∀x∈u,0≤x∧x≤9) (ht:t∈V3 A):unF u A (y9 (bP u A) t)=t:=by
 unfold unF
 cases c:(V3 A).find? λx=>decide (y9 (bP u A) x=y9 (bP u A) t) with
 |none=>exact absurd (List.find?_eq_none.1 c t ht) (by simp)
 |some y=>
  have h1:=List.find?_some c
  rw[decide_eq_true_eq] at h1
  have h2:=List.mem_of_find?_eq_some c
  obtain ⟨i,hi,rfl⟩:=List.getElem_of_mem ht
  obtain ⟨k,hk,rfl⟩:=List.getElem_of_mem h2
  rw[c0u hi,c0u hk] at h1
  have:=c1J hu (Int.ofNat_inj.1 h1)
  subst this
  rfl
theorem b6i (hu:∀x∈u,0≤x∧x≤9) (ht:t∈u):unF u A t=t:=by
 unfold unF
 cases c:(V3 A).find? λx=>decide (y9 (bP u A) x=t) with
 |none=>rfl
 |some y=>
  have h1:=List.find?_some c
  rw[decide_eq_true_eq] at h1
  have h2:=List.mem_of_find?_eq_some c
  obtain ⟨k,hk,rfl⟩:=List.getElem_of_mem h2
  rw[c0u hk] at h1
  have h3:=(a2H hu (v:=fzN u k)).1
  rw[h1,a0y.2 ht] at h3
  cases h3
theorem b8N (l:List IL):f∈F3 l f:=by
 cases e:O5 l f with
 |false=>exact b2L e
 |true=>exact a6W (b0d.1 e)
theorem b5d {b:List Int×List Int}:∀{A out:List IL},f∈A.foldl (λout a=>F3 out (R2 a b)) out↔f∈out∨ ∃a∈A,R2 a b=f
 |[],out=>by simp
 |a::A,out=>by
  rw[List.foldl_cons,b5d]
  constructor
  ·rintro (h1|⟨c,hc,e⟩)
   ·rcases a3Q h1 with h1|h1
    ·exact .inl h1
    ·exact .inr ⟨a,by simp,h1.symm⟩
   ·exact .inr ⟨c,by simp[hc],e⟩
  ·rintro (h1|⟨c,hc,e⟩)
   ·exact .inl (a6W h1)
   ·rcases List.mem_cons.1 hc with hc|hc
    ·subst hc;subst e;exact .inl (b8N _)
    ·exact .inr ⟨c,hc,e⟩
theorem b6B {b:List Int×List Int}:f∈a7D A b↔ ∃a∈A,R2 a b=f:=by rw[a7D,b5d];simp
theorem a3e (hq:w7 s q=true):(∀a∈q.2,∀t∈a.2,(inR t 10 17=true∧t∈V3 q.2)∨(inR t 10 17=false∧t∈k7 (λt=>inR t 0 9) q.2))∧∀t∈q.1,inR t 10 17=true∧t∈V3 q.2∧∃a∈q.2,t∈a.2:=by
 simp only[w7,Bool.and_eq_true,Bool.not_eq_true',List.any_eq_false,Bool.not_eq_true,T7] at hq
 obtain ⟨_,_,h3,_,h4⟩:=hq
 refine ⟨λa ha t ht=>?_,λt ht=>?_⟩
 ·have h5:P1 s a=true:=by simpa using h3 a ha
  simp only[P1,Bool.and_eq_true,Bool.not_eq_true',List.any_eq_false,Bool.not_eq_true] at h5
  have h6:K7 t=true:=by simpa using h5.2.2 t ht
  have h7:t∈q.2.flatMap λa=>a.2:=List.mem_flatMap.2 ⟨a,ha,ht⟩
  simp only[K7,Bool.or_eq_true] at h6
  cases hr:inR t 10 17 with
  |true=>exact .inl ⟨Z,a5m.2 ⟨h7,hr⟩⟩
  |false=>
   rcases h6 with h6|h6
   ·exact .inr ⟨Z,a5m.2 ⟨h7,h6⟩⟩
   ·rw[h6] at hr;cases hr
 ·have h5:H6 (k7 (λt=>inR t 10 17) q.2) t=true:=by simpa using h4 t ht
  have h6:=a0y.1 h5
  obtain ⟨h7,h8⟩:=a5m.1 h6
  obtain ⟨a,ha,hta⟩:=List.mem_flatMap.1 h7
  exact ⟨h8,h6,a,ha,hta⟩
theorem b3H {A B:List IL}:∀x∈cU A B,0≤x∧x≤9:=a5a
theorem c5R (h:t∈k7 (λt=>inR t 0 9) A):t∈cU A B:=by simp[cU,h]
theorem c5G (h:t∈k7 (λt=>inR t 0 9) B):t∈cU A B:=by simp[cU,h]
theorem c2v (hp:w7 s p=true) (hu:∀x∈u,0≤x∧x≤9) (hc:∀x∈k7 (λt=>inR t 0 9) p.2,x∈u) {a:IL} (ha:a∈p.2) {t:Int} (ht:t∈a.2):unF u p.2 (y9 (bP u p.2) t)=t:=by
 rcases (a3e hp).1 a ha t ht with h1|h1
 ·exact b5Z hu h1.2
 ·rw[←X0 h1.1];exact b6i hu (hc t h1.2)
theorem b9F (hp:w7 s p=true) (hq:w7 s q=true) (hc:a2i p q=true):hom p q:=by
 simp only[a2i,Bool.and_eq_true,decide_eq_true_eq] at hc
 obtain ⟨h1,h2,h3⟩:=hc
 have hF:fzF (cU p.2 q.2) p.2=a7D p.2 (bP (cU p.2 q.2) p.2):=by rw[fzF,h2];rfl
 have hV:fzV (cU p.2 q.2) p.2=V3 p.2:=by rw[fzV,h2];rfl
 have hX:fzX (cU p.2 q.2) p.2=a8m (cU p.2 q.2) (V3 p.2).length:=by rw[fzX,h2];rfl
 rw[hF,hV,hX,List.any_eq_true] at h3
 obtain ⟨b,hb,hh⟩:=h3
 simp only[a0Z,decide_eq_true_eq] at hh
 obtain ⟨m1,m2⟩:=a8b b hb
 refine ⟨λt=>if inR t 10 17 then unF (cU p.2 q.2) p.2 (y9 b t) else t,λt ht=>by simp[ht],λa ha=>?_,?_⟩
 ·obtain ⟨a',ha',e⟩:=b6B.1 (m2 a ha).1
  have e1:(R2 a' (bP (cU p.2 q.2) p.2)).1=(R2 a b).1:=congrArg Prod.fst e
  replace e1:a'.1=a.1:=e1
  have e2:(R2 a' (bP (cU p.2 q.2) p.2)).2=(R2 a b).2:=congrArg Prod.snd e
  replace e2:a'.2.map (y9 (bP (cU p.2 q.2) p.2))=a.2.map (y9 b):=e2
  have e3:a.2.map (λt=>if inR t 10 17 then unF (cU p.2 q.2) p.2 (y9 b t) else t)=(a.2.map (y9 b)).map (unF (cU p.2 q.2) p.2):=by
   rw[List.map_map]
   refine List.map_congr_left λt ht=>?_
   rcases (a3e hq).1 a ha t ht with k|k
   ·simp[k.1]
   ·simp only[k.1,Function.comp]
    rw[←X0 k.1,b6i b3H (c5G k.2)];simp
  have e4:(a'.2.map (y9 (bP (cU p.2 q.2) p.2))).map (unF (cU p.2 q.2) p.2)=a'.2:=by
   rw[List.map_map]
   exact (List.map_congr_left λt ht=>c2v hp b3H (λx hx=>c5R hx) ha' ht).trans (List.map_id _)
  rw[e3, ←e2,e4, ←e1]
  exact ha'
 ·have e3:q.1.map (λt=>if inR t 10 17 then unF (cU p.2 q.2) p.2 (y9 b t) else t)=(q.1.map (y9 b)).map (unF (cU p.2 q.2) p.2):=by
   rw[List.map_map]
   refine List.map_congr_left λt ht=>?_
   simp[((a3e hq).2 t ht).1]
  rw[e3,hh,List.map_map]
  exact (List.map_congr_left λt ht=>b5Z b3H ((a3e hp).2 t ht).2.1).trans (List.map_id _)
theorem c0H (hp:w7 s p=true) (hq:w7 s q=true) (hf:fzB (cU p.2 q.2) p.2=true) (hh:hom p q):a2i p q=true:=by
 obtain ⟨g,g1,g2,g3⟩:=hh
 have hF:fzF (cU p.2 q.2) p.2=a7D p.2 (bP (cU p.2 q.2) p.2):=by rw[fzF,hf];rfl
 have hV:fzV (cU p.2 q.2) p.2=V3 p.2:=by rw[fzV,hf];rfl
 have hX:fzX (cU p.2 q.2) p.2=a8m (cU p.2 q.2) (V3 p.2).length:=by rw[fzX,hf];rfl
 obtain ⟨b,b1,b2,b3⟩:=a3L (g:=λt=>y9 (bP (cU p.2 q.2) p.2) (g t)) (A:=q.2) (F:=a7D p.2 (bP (cU p.2 q.2) p.2)) (λt ht=>by
  show y9 _ (g t)=t
  rw[g1 t ht, ←X0 ht]) (λa ha=>b6B.2 ⟨_,g2 a ha,by
  show (a.1,(a.2.map g).map _)=_
  rw[List.map_map];rfl⟩)
 simp only[a2i,Bool.and_eq_true,decide_eq_true_eq]
 refine ⟨by rw[←g3,List.length_map],hf,?_⟩
 rw[hF,hV,hX,List.any_eq_true]
 refine ⟨b,b1,?_⟩
 simp only[a0Z,decide_eq_true_eq]
 rw[←g3,List.map_map]
 refine List.map_congr_left λt ht=>?_
 obtain ⟨_,_,a,ha,hta⟩:=(a3e hq).2 t ht
 exact b2.2 t (b3 a ha t hta)
theorem b4f:hom p p:=⟨id,λ_ _=>rfl,λa ha=>by rw[List.map_id];exact ha,List.map_id _⟩
theorem b8t (h1:hom p q) (h2:hom q r):hom p r:=by
 obtain ⟨g,g1,g2,g3⟩:=h1
 obtain ⟨k,k1,k2,k3⟩:=h2
 refine ⟨λt=>g (k t),λt ht=>by show g (k t)=t;rw[k1 t ht,g1 t ht],λa ha=>?_,?_⟩
 ·have:=g2 _ (k2 a ha)
  rwa [List.map_map] at this
 ·have e:r.1.map (λt=>g (k t))=(r.1.map k).map g:=by rw[List.map_map];rfl
  rw[e,k3,g3]
theorem c1t (h1:p.1=q.1) (h2:∀a∈q.2,a∈p.2):hom p q:=⟨id,λ_ _=>rfl,λa ha=>by rw[List.map_id];exact h2 a ha,by rw[List.map_id,h1]⟩
theorem b1X (hp:w7 s p=true) (hq:w7 s q=true) (hh:hom p q) (hF:B8 s F=true):∀t∈U8 s p F,t∈U8 s q F:=by
 intro t ht
 obtain ⟨g,g1,g2,g3⟩:=hh
 unfold U8 at ht ⊢
 rw[if_pos (by rw[hq,hF];rfl)]
 rw[if_pos (by rw[hp,hF];rfl)] at ht
 obtain ⟨b,hb,e⟩:=a4J.1 ht
 obtain ⟨m1,m2⟩:=a8b b hb
 obtain ⟨c,c1,c2,c3⟩:=a3L (g:=λt=>y9 b (g t)) (A:=q.2) (F:=F) (λt ht=>by
  show y9 b (g t)=t
  rw[g1 t ht, ←X0 ht]) (λa ha=>by
  have:=(m2 _ (g2 a ha)).1
  have e:R2 (a.1,a.2.map g) b=(a.1,a.2.map λt=>y9 b (g t)):=by
   show (a.1,(a.2.map g).map _)=_
   rw[List.map_map];rfl
  rw[←e];exact this)
 refine a4J.2 ⟨c,c1,?_⟩
 rw[←e, ←g3,List.map_map]
 refine List.map_congr_left λx hx=>?_
 obtain ⟨_,_,a,ha,hta⟩:=(a3e hq).2 x hx
 exact c2.2 x (c3 a ha x hta)
end
end Go.Proofs.YthapcdhdfaibkaaGreatDoor
end
section
namespace Go.Proofs.YthapcdhdfaibkaaGreatDoor
section
variable {s v:List Int} {ys l:List IL} {g:Nat} {f:IL} {r:Int}
theorem a0b (h:Q4 s=true):1≤s.length∧s.length≤3∧∀z∈s,1≤z∧z≤3:=by
 simp only[Q4,inR,Bool.and_eq_true,decide_eq_true_eq,Bool.not_eq_true',List.any_eq_false] at h
 refine ⟨by omega,by omega,λz hz=>?_⟩
 have:=h.2 z hz
 simpa using this
theorem b9O (h:ys.length≤g∧∀f∈ys,1≤f.2.length∧f.2.length≤3) (hf:1≤v.length∧v.length≤3):(F3 ys (r,v)).length≤g+1∧∀f∈F3 ys (r,v),1≤f.2.length∧f.2.length≤3:=by
 have h1:=a3M (h:=O5 ys (r,v)) (p:=ltF (r,v)) (f:=(r,v)) (l:=ys)
 refine ⟨by unfold F3;omega,λf hm=>?_⟩
 rcases a3Q hm with hm|rfl
 ·exact h.2 f hm
 ·exact hf
theorem a6F {l:List IL} (h:l=[]):l.length≤9∧∀f∈l,1≤f.2.length∧f.2.length≤4:=by subst h;simp
theorem a5x (h:(↑l.length:Int)≤8∧∀f∈l,1≤f.2.length∧f.2.length≤3):l.length≤9∧∀f∈l,1≤f.2.length∧f.2.length≤4:=⟨by omega,λf hf=>by have:=h.2 f hf;omega⟩
theorem a5F (h:(↑l.length:Int)≤8∧∀f∈l,1≤f.2.length∧f.2.length≤3) (hv:1≤v.length∧v.length≤4):(l++[(r,v)]).length≤9∧∀f∈l++[(r,v)],1≤f.2.length∧f.2.length≤4:=by
 refine ⟨by simp;omega,λf hf=>?_⟩
 rcases List.mem_append.1 hf with hf|hf
 ·have:=h.2 f hf;omega
 ·rw[List.mem_singleton] at hf;subst hf;exact hv
theorem a5t (hv:1≤v.length∧v.length≤4):([]++[(r,v)]:List IL).length≤9∧∀f∈([]++[(r,v)]:List IL),1≤f.2.length∧f.2.length≤4:=by
 refine ⟨by simp,λf hf=>?_⟩
 have:f=(r,v):=by simpa using hf
 subst this;exact hv
end
def kT (t:Int):Prop:=(0≤t∧t≤3)∨(10≤t∧t≤13)
def dT (t:Int):Prop:=(0≤t∧t≤3)∨(10≤t∧t≤13)∨t= -1∨t=9∨t=17∨t=18
def rT (t:Int):Prop:=(0≤t∧t≤3)∨(10≤t∧t≤13)∨t=15
def dA (T:Int→Prop) (a:IL):Prop:=(1≤a.2.length∧a.2.length≤3)∧∀t∈a.2,T t
def dQ (T:Int→Prop) (k n:Nat) (H:List Int) (A:List IL):Prop:=(1≤A.length∧A.length≤k)∧(∀a∈A,dA T a)∧H.length≤n
section
variable {T T':Int→Prop} {H tms:List Int} {A ats:List IL} {g h k n k' n':Nat} {x y rl:Int}
theorem dQ.mono (hq:dQ T k n H A) (hT:∀t,T t→T' t) (hk:k≤k') (hn:n≤n'):dQ T' k' n' H A:=⟨⟨hq.1.1,Nat.le_trans hq.1.2 hk⟩,λa ha=>⟨(hq.2.1 a ha).1,λt ht=>hT t ((hq.2.1 a ha).2 t ht)⟩,Nat.le_trans hq.2.2 hn⟩
theorem c1d (t:Int) (h:kT t):dT t:=by unfold kT at h;unfold dT;omega
theorem b0X (t:Int) (h:kT t):rT t:=by unfold kT at h;unfold rT;omega
theorem dQ.up (hq:dQ kT 3 2 H A):dQ dT 3 3 H A:=hq.mono c1d (Nat.le_refl _) (by decide)
theorem b4R (hp:tms.length=h∧∀t∈tms,T t) (hy:T y):(tms++[y]).length=h+1∧∀t∈tms++[y],T t:=by
 refine ⟨by simp[hp.1],λt ht=>?_⟩
 rcases List.mem_append.1 ht with ht|ht
 ·exact hp.2 t ht
 ·rw[List.mem_singleton] at ht;subst ht;exact hy
theorem c1V (hp:ats.length=g∧∀a∈ats,dA T a) (h1:1≤tms.length) (h2:tms.length≤3) (h3:∀t∈tms,T t):(ats++[(rl,tms)]).length=g+1∧∀a∈ats++[(rl,tms)],dA T a:=by
 refine ⟨by simp[hp.1],λt ht=>?_⟩
 rcases List.mem_append.1 ht with ht|ht
 ·exact hp.2 t ht
 ·rw[List.mem_singleton] at ht;subst ht;exact ⟨⟨h1,h2⟩,h3⟩
theorem c2g (hl:ats.length≤4) (h:∀a∈ats,dA T a):D8 (λx=>x.2.length) ats≤1048576:=by
 have h2:=a5e (c:=λx:IL=>x.2.length) (n:=3) (l:=ats) λa ha=>(h a ha).1.2
 unfold D8;omega
theorem b9L (h:∀a∈ats,dA T a):(ats.flatMap λa=>a.2).length≤3*ats.length:=by
 induction ats with
 |nil=>simp
 |cons a ats ih=>
  have h1:=(h a (by simp)).1.2
  have h2:=ih λx hx=>h x (by simp[hx])
  simp only[List.flatMap_cons,List.length_append,List.length_cons]
  omega
theorem b8M {is:Int→Bool} (hl:ats.length≤3) (h:∀a∈ats,dA T a):(k7 is ats).length≤9:=by
 have h1:=b9L h
 have h2:=List.length_filter_le is (ats.flatMap λa=>a.2)
 have h3:=b0m (l:=(ats.flatMap λa=>a.2).filter is)
 unfold k7;omega
theorem c2r:dQ dT 3 3 [] [(0,[10])]∧([]:List Int).length≤2:=⟨⟨by simp,λa ha=>by
 rw[List.mem_singleton] at ha;subst ha
 exact ⟨by simp,λt ht=>by rw[List.mem_singleton] at ht;subst ht;unfold dT;omega⟩,by simp⟩,by simp⟩
theorem b6Q (hq:dQ T k n H A∧H.length≤2):dQ T k 3 (H++[x]) A:=⟨hq.1.1,hq.1.2.1,by have:=hq.2;simp;omega⟩
theorem b8h (hq:dQ T k n H A) {a:IL} (ha:dA T a):dQ T k n H (A.set 0 a):=⟨by rw[List.length_set];exact hq.1,λb hb=>by
 rcases List.mem_or_eq_of_mem_set hb with hb|hb
 ·exact hq.2.1 b hb
 ·rw[hb];exact ha,hq.2.2⟩
theorem b8k (hq:dQ T k n H A) {h0:0<A.length}:dQ T k n H (A.set 0 (x,A[0].2)):=b8h hq ⟨(hq.2.1 _ (List.getElem_mem h0)).1,(hq.2.1 _ (List.getElem_mem h0)).2⟩
theorem b6u (hp:∀t∈tms,T t) (hx:T x):∀t∈tms.set 0 x,T t:=λt ht=>by
 rcases List.mem_or_eq_of_mem_set ht with ht|ht
 ·exact hp t ht
 ·rw[ht];exact hx
theorem b6J (hq:dQ T k n H A) (hx:T x) {h0:0<A.length}:dQ T k n H (A.set 0 (A[0].1,A[0].2.set 0 x)):=b8h hq (by
 have h1:=hq.2.1 _ (List.getElem_mem h0)
 exact ⟨by rw[List.length_set];exact h1.1,b6u h1.2 hx⟩)
end
end Go.Proofs.YthapcdhdfaibkaaGreatDoor
end
section
namespace Go.Proofs.YthapcdhdfaibkaaGreatDoor
set_option linter.all false
section
variable {t v:Int} {h u C:List Int} {s:List Int} {p q r:Qry} {L A B:List IL} {n i k:Nat}
theorem b1e {α:Type} [DecidableEq α]:∀{l m:List α},l.Nodup→(∀x∈l,x∈m)→l.length≤m.length
 |[],_,_,_=>Nat.zero_le _
 |x::l,m,hn,hs=>by
  obtain ⟨h1,h2⟩:=List.nodup_cons.1 hn
  have hx:=hs x (List.mem_cons_self ..)
  have h3:=b1e (m:=m.erase x) h2 λy hy=>(List.mem_erase_of_ne (λe=>h1 (by rw[←e];exact hy))).2 (hs y (List.mem_cons_of_mem _ hy))
  have h4:=List.length_erase_of_mem hx
  have h5:=List.length_pos_of_mem hx
  rw[List.length_cons];omega
theorem b4M (hu:∀x∈u,0≤x∧x≤9):∀{i:Nat} {w:Nat},w<fzN u i→H6 u (w:Int)=true∨ ∃k,k<i∧w=a1n u (fzN u k)
 |0,w,hw=>by simp[fzN] at hw
 |i+1,w,hw=>by
  rw[fzN] at hw
  by_cases h1:w<fzN u i
  ·rcases b4M hu h1 with h2|⟨k,hk,e⟩
   ·exact .inl h2
   ·exact .inr ⟨k,by omega,e⟩
  ·by_cases h2:w=a1n u (fzN u i)
   ·exact .inr ⟨i,by omega,h2⟩
   ·exact .inl ((a2H hu (v:=fzN u i)).2.2 w (by omega) (by omega))
theorem c1s (hu:∀x∈u,0≤x∧x≤9) (hC:∀x∈u,x∈C) {i:Nat}:a1n u (fzN u i)≤C.length+i:=by
 have h1:=b1e (l:=List.range (a1n u (fzN u i))) (m:=C.map (λx=>x.toNat)++(List.range i).map λk=>a1n u (fzN u k)) List.nodup_range λw hw=>by
  rw[List.mem_range] at hw
  have h2:H6 u (w:Int)=true∨ ∃k,k<i∧w=a1n u (fzN u k):=by
   by_cases h1:w<fzN u i
   ·exact b4M hu h1
   ·exact .inl ((a2H hu (v:=fzN u i)).2.2 w (by omega) hw)
  rcases h2 with h2|⟨k,hk,e⟩
  ·exact List.mem_append.2 (.inl (List.mem_map.2 ⟨(w:Int),hC _ (a0y.1 h2),by simp⟩))
  ·exact List.mem_append.2 (.inr (List.mem_map.2 ⟨k,List.mem_range.2 hk,e.symm⟩))
 simpa using h1
theorem c0j (hu:∀x∈u,0≤x∧x≤9) (hC:∀x∈u,x∈C) (hn:C.length+n≤10):b3G u n=true:=b8m λi hi=>by
 have:=c1s hu hC (i:=i)
 omega
def c6S (A:List IL):Prop:=(k7 (λt=>inR t 0 9) A).length+(V3 A).length≤10
theorem b6H (h:a1F s p q=true):w7 s p=true∧w7 s q=true∧hom p q:=by
 unfold a1F at h
 rw[Bool.and_eq_true,Bool.and_eq_true] at h
 exact ⟨h.1,h.2.1,b9F h.1 h.2.1 h.2.2⟩
end
section
variable {s h:List Int} {l:List IL} {n:Nat}
structure CInv (s h:List Int) (l:List IL) (σ:List IL×Nat):Prop where
 sub:∀a∈σ.1,a∈l
 len:σ.1.length≤4
 ok:w7 s (h,σ.1)=true
 hm:hom (h,σ.1) (h,l)
 min:∀k,k<σ.2→k<σ.1.length→w7 s (h,σ.1.eraseIdx k)=true→¬hom (h,σ.1.eraseIdx k) (h,σ.1)
end
end Go.Proofs.YthapcdhdfaibkaaGreatDoor
end
section
namespace Go.Proofs.YthapcdhdfaibkaaGreatDoor
set_option linter.all false
def sQ (H:List Int) (A:List IL):Prop:=A.length≤4∧(∀a∈A,a.2.length≤3)∧H.length≤3
section
variable {T:Int→Prop} {H G tms:List Int} {A B:List IL} {k n:Nat} {i:Int} {s:List Int} {a:IL}
theorem dQ.small (h:dQ T 3 3 H A):sQ H A:=⟨by have:=h.1.2;omega,λa ha=>(h.2.1 a ha).1.2,h.2.2⟩
theorem dQ.small4 (h:dQ T 4 2 H A):sQ H A:=⟨h.1.2,λa ha=>(h.2.1 a ha).1.2,by have:=h.2.2;omega⟩
theorem b8a (h:sQ H A):D8 (λx=>x.2.length) A≤1048576:=by
 have h2:=a5e (c:=λx:IL=>x.2.length) (n:=3) (l:=A) h.2.1
 have:=h.1
 unfold D8;omega
theorem a9v {is:Int→Bool}:(k7 is A).Nodup:=by
 have h1:(k7 is A).Pairwise (· < ·):=(a3n List.Pairwise.nil).1
 exact List.Pairwise.imp (λ{a b} h e=>by omega) h1
theorem a8F {is:Int→Bool} (h:∀a∈A,dA T a) {t:Int} (ht:t∈k7 is A):T t∧is t=true:=by
 obtain ⟨h1,h2⟩:=a5m.1 ht
 obtain ⟨a,ha,hta⟩:=List.mem_flatMap.1 h1
 exact ⟨(h a ha).2 t hta,h2⟩
theorem a9V (h:dQ kT 3 2 H A) {h0:0<A.length} {r:Int}:dQ rT 4 2 H (A++[(r,A[0].2.set 0 15)]):=by
 have h1:=h.mono b0X (Nat.le_refl _) (Nat.le_refl _)
 have h2:=h1.2.1 _ (List.getElem_mem h0)
 refine ⟨by have:=h.1;simp;omega,λa ha=>?_,h.2.2⟩
 rcases List.mem_append.1 ha with ha|ha
 ·exact h1.2.1 a ha
 ·rw[List.mem_singleton] at ha;subst ha
  exact ⟨by rw[List.length_set];exact h2.1,b6u h2.2 (by unfold rT;omega)⟩
end
end Go.Proofs.YthapcdhdfaibkaaGreatDoor
end
section
namespace Go.Proofs.YthapcdhdfaibkaaGreatDoor
set_option linter.all false
section
variable {s H:List Int} {A F:List IL} {p q:Qry}
end
end Go.Proofs.YthapcdhdfaibkaaGreatDoor
end
section
namespace Go.Proofs.YthapcdhdfaibkaaGreatDoor
set_option linter.all false
def uAq (A:List IL):Prop:=(∀a∈A,dA dT a)∨ ∀a∈A,dA rT a
def uQ (H:List Int) (A:List IL):Prop:=(A.length≤5∧(∀a∈A,a.2.length≤3)∧H.length≤3)∧uAq A
def uU (u:List (List Int×List IL)):Prop:=(1≤u.length∧u.length≤3)∧∀q∈u,uQ q.1 q.2
section
variable {s G H H':List Int} {A B:List IL} {p q:List Int×List IL} {u us:List (List Int×List IL)} {g:Nat} {t:Int}
theorem c1c (h:sQ H A) (hu:uAq A):uQ H A:=⟨⟨by have:=h.1;omega,h.2.1,h.2.2⟩,hu⟩
theorem b1f (h:dQ rT 4 2 H' A) (hh:H.length≤3):uQ H A:=⟨⟨by have:=h.1.2;omega,λa ha=>(h.2.1 a ha).1.2,hh⟩,.inr h.2.1⟩
theorem b3M (h:sQ H A) (hu:uAq A) (g:dQ kT 3 2 G B) {h0:0<B.length}:uQ H (A++[B[0]]):=by
 have hb:=g.2.1 _ (List.getElem_mem h0)
 refine ⟨⟨by have:=h.1;simp;omega,λa ha=>?_,h.2.2⟩,?_⟩
 ·rcases List.mem_append.1 ha with ha|ha
  ·exact h.2.1 a ha
  ·rw[List.mem_singleton] at ha;subst ha;exact hb.1.2
 ·rcases hu with hu|hu
  ·refine .inl λa ha=>?_
   rcases List.mem_append.1 ha with ha|ha
   ·exact hu a ha
   ·rw[List.mem_singleton] at ha;subst ha;exact ⟨hb.1,λt ht=>c1d t (hb.2 t ht)⟩
  ·refine .inr λa ha=>?_
   rcases List.mem_append.1 ha with ha|ha
   ·exact hu a ha
   ·rw[List.mem_singleton] at ha;subst ha;exact ⟨hb.1,λt ht=>b0X t (hb.2 t ht)⟩
theorem a3m (h:us.length≤g∧∀q∈us,uQ q.1 q.2) (hx:uQ H A):(us++[(H,A)]).length≤g+1∧∀q∈us++[(H,A)],uQ q.1 q.2:=by
 refine ⟨by rw[List.length_append,List.length_singleton];omega,λq hq=>?_⟩
 rcases List.mem_append.1 hq with hq|hq
 ·exact h.2 q hq
 ·rw[List.mem_singleton] at hq;subst hq;exact hx
theorem c1b (h:us.length≤g∧∀q∈us,uQ q.1 q.2) (hg:g≤2) (hx:uQ H A):uU ((H,A)::us):=⟨⟨by simp,by simp;omega⟩,λq hq=>by
 rcases List.mem_cons.1 hq with rfl|hq
 ·exact hx
 ·exact h.2 q hq⟩
theorem b8f (h:uQ H A):D8 (λx=>x.2.length) A≤1048576:=by
 have h1:=h.1
 have h2:E7 (λx:IL=>x.2.length) A≤A.length*3:=a5e λa ha=>h1.2.1 a ha
 have h3:D8 (λx:IL=>x.2.length) A=A.length+E7 (λx=>x.2.length) A:=rfl
 omega
theorem b2f (h:∀q∈u,uQ q.1 q.2):∀q∈u,D8 (λx=>x.2.length) q.2≤1048576:=λq hq=>b8f (h q hq)
theorem uU.tot (h:uU u):∀q∈u,D8 (λx=>x.2.length) q.2≤1048576:=b2f h.2
theorem uU.head (h:uU u):∀q∈u,q.1.length≤1048576:=λq hq=>Nat.le_trans (h.2 q hq).1.2.2 (by decide)
theorem b8z (h:uAq A) (ht:t∈k7 (λt=>inR t 0 9) A):t∈[0,1,2,3,9]:=by
 rcases h with h|h
 ·obtain ⟨h1,h2⟩:=a8F h ht
  simp only[inR,decide_eq_true_eq] at h2
  unfold dT at h1
  simp only[List.mem_cons,List.not_mem_nil,or_false];omega
 ·obtain ⟨h1,h2⟩:=a8F h ht
  simp only[inR,decide_eq_true_eq] at h2
  unfold rT at h1
  simp only[List.mem_cons,List.not_mem_nil,or_false];omega
theorem c3u (h:uAq A):(V3 A).length≤5:=by
 rcases h with h|h
 ·have h2:=b1e (a9v (is:=λt=>inR t 10 17) (A:=A)) (m:=[10,11,12,13,17]) λt ht=>by
   obtain ⟨h1,h2⟩:=a8F h ht
   simp only[inR,decide_eq_true_eq] at h2
   unfold dT at h1
   simp only[List.mem_cons,List.not_mem_nil,or_false];omega
  exact h2
 ·have h2:=b1e (a9v (is:=λt=>inR t 10 17) (A:=A)) (m:=[10,11,12,13,15]) λt ht=>by
   obtain ⟨h1,h2⟩:=a8F h ht
   simp only[inR,decide_eq_true_eq] at h2
   unfold rT at h1
   simp only[List.mem_cons,List.not_mem_nil,or_false];omega
  exact h2
theorem c2d (hp:uAq A) (hq:uAq B):fzB (cU A B) A=true:=by
 unfold fzB
 refine c0j (C:=[0,1,2,3,9]) b3H (λx hx=>?_) ?_
 ·simp only[cU,List.flatten_cons,List.flatten_nil,List.append_nil,List.mem_append] at hx
  rcases hx with hx|hx
  ·exact b8z hp hx
  ·exact b8z hq hx
 ·have:=c3u hp
  simp only[List.length_cons,List.length_nil];omega
end
end Go.Proofs.YthapcdhdfaibkaaGreatDoor
end
