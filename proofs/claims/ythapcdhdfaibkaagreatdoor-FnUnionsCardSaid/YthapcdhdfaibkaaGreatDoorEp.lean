import Derived.Test.YthapcdhdfaibkaaGreatDoorBd
namespace Go.Proofs.YthapcdhdfaibkaaGreatDoor
set_option linter.all false
abbrev MT5:=Int×List Int×Int×Int×Int
abbrev AT2:=IL
abbrev GS:=List (Int×Int)×List Bool×List Int
def a1a (a:AT2) (b:List Int) (i:Int):Bool:= !inR i 0 ((a.2.length:Int)-1)||(inR (at0 a.2 i) 10 17&& !H6 b (at0 a.2 i))
def M4 (m:MT5) (a:AT2) (b:List Int):Bool:=decide (m.1=a.1)&& !m.2.1.any (a1a a b)
def I5 (l:List MT5) (a:AT2) (b:List Int):Int:=J0 (λm=>M4 m a b) l
def F7 (l:List MT5) (b:List Int):List AT2→List Bool→Nat→Int×Int×Bool
 |a::al,d::ds,i=>if !d&&decide (0≤I5 l a b) then ((i:Int),I5 l a b,true) else F7 l b al ds (i+1)
 |_,_,_=>(0,0,false)
def gNx (l:List MT5) (d7:List AT2) (σ:GS):Int×Int×Bool:=F7 l σ.2.2 d7 σ.2.1 0
def grS (l:List MT5) (d7:List AT2) (σ:GS):GS:=cond (gNx l d7 σ).2.2
 (σ.1++[((gNx l d7 σ).1,(gNx l d7 σ).2.1)],σ.2.1.set (gNx l d7 σ).1.toNat true,σ.2.2++(d7.getD (gNx l d7 σ).1.toNat (0,[])).2) σ
def grI (l:List MT5) (d7:List AT2):Nat→GS
 |0=>([],List.replicate d7.length false,[])
 |n+1=>grS l d7 (grI l d7 n)
def grF (l:List MT5) (d7:List AT2):GS:=grI l d7 d7.length
section
variable {l:List MT5} {d7 al:List AT2} {ds:List Bool} {b b':List Int} {i n g:Nat} {σ:GS}
theorem a4X {a:AT2} {d:Bool} (h:¬(!d&&decide (0≤I5 l a b))=true):F7 l b (a::al) (d::ds) i=F7 l b al ds (i+1):=by rw[F7,if_neg h]
theorem a6n {a:AT2} {d:Bool} (h:(!d&&decide (0≤I5 l a b))=true):F7 l b (a::al) (d::ds) i=((i:Int),I5 l a b,true):=by rw[F7,if_pos h]
theorem a6G (h1:g<al.length) (h2:g<ds.length) (h:¬(!ds[g]&&decide (0≤I5 l al[g] b))=true):F7 l b (al.drop g) (ds.drop g) g=F7 l b (al.drop (g+1)) (ds.drop (g+1)) (g+1):=by
 rw[List.drop_eq_getElem_cons h1,List.drop_eq_getElem_cons h2,a4X h]
theorem a6Q (h1:g<al.length) (h2:g<ds.length) (h:(!ds[g]&&decide (0≤I5 l al[g] b))=true):F7 l b (al.drop g) (ds.drop g) g=((g:Int),I5 l al[g] b,true):=by
 rw[List.drop_eq_getElem_cons h1,List.drop_eq_getElem_cons h2,a6n h]
theorem a6H (h1:¬g<al.length):F7 l b (al.drop g) (ds.drop g) g=(0,0,false):=by
 rw[List.drop_eq_nil_of_le (by omega)];cases ds.drop g<;>rfl
theorem a3D:∀{al:List AT2} {ds:List Bool} {i:Nat},(F7 l b al ds i).2.2=true→∃k,(F7 l b al ds i).1=((i+k:Nat):Int)∧k<al.length∧ds[k]? =some false∧∃a,al[k]? =some a∧(F7 l b al ds i).2.1=I5 l a b∧0≤I5 l a b
 |[],_,_,h=>by simp[F7] at h
 |_::_,[],_,h=>by simp[F7] at h
 |a::al,d::ds,i,h=>by
  by_cases hc:(!d&&decide (0≤I5 l a b))=true
  ·rw[a6n hc] at h ⊢
   simp only[Bool.and_eq_true,Bool.not_eq_true',decide_eq_true_eq] at hc
   exact ⟨0,Z,by simp,by simp[hc.1],a,Z,Z,hc.2⟩
  ·rw[a4X hc] at h ⊢
   obtain ⟨k,h1,h2,h3,a',h4,h5,h6⟩:=a3D h
   exact ⟨k+1,by rw[h1];congr 1;omega,by simp;omega,by simpa using h3,a',by simpa using h4,h5,h6⟩
theorem a2u:(grI l d7 n).2.1.length=d7.length:=by
 induction n with
 |zero=>simp[grI]
 |succ n ih=>
  simp only[grI,grS]
  cases (gNx l d7 (grI l d7 n)).2.2
  ·exact ih
  ·simp only[cond_true,List.length_set];exact ih
theorem a5G:∀{ds:List Bool} {k:Nat},ds[k]? =some false→(ds.set k true).count false+1=ds.count false
 |[],_,h=>by simp at h
 |d::ds,0,h=>by simp at h;subst h;simp
 |d::ds,k+1,h=>by
  have:=a5G (ds:=ds) (k:=k) (by simpa using h)
  simp only[List.set_cons_succ,List.count_cons];omega
theorem b0c:(grI l d7 n).2.1.count false+(grI l d7 n).1.length=d7.length:=by
 induction n with
 |zero=>simp[grI]
 |succ n ih=>
  simp only[grI,grS]
  cases h:(gNx l d7 (grI l d7 n)).2.2
  ·exact ih
  ·obtain ⟨k,h1,h2,h3,_⟩:=a3D (show (F7 l (grI l d7 n).2.2 d7 (grI l d7 n).2.1 0).2.2=true from h)
   have h4:(gNx l d7 (grI l d7 n)).1.toNat=k:=by unfold gNx;rw[h1];simp
   simp only[cond_true,h4,List.length_append,List.length_cons,List.length_nil]
   have:=a5G h3
   omega
theorem b3I:(grI l d7 n).1.length≤d7.length:=by have:=b0c (l:=l) (d7:=d7) (n:=n);omega
theorem c4J (h:(gNx l d7 (grI l d7 n)).2.2=true):(grI l d7 n).1.length<d7.length:=by
 obtain ⟨k,h1,h2,h3,_⟩:=a3D (show (F7 l (grI l d7 n).2.2 d7 (grI l d7 n).2.1 0).2.2=true from h)
 have h4:=b0c (l:=l) (d7:=d7) (n:=n)
 have:0<(grI l d7 n).2.1.count false:=List.count_pos_iff.2 (List.mem_of_getElem? h3)
 omega
def grP (l:List MT5) (d7:List AT2) (n:Nat):Prop:=(grI l d7 n).1.length=n
theorem b6h:grP l d7 0:=rfl
theorem b6P (h:grP l d7 n) (hx:(gNx l d7 (grI l d7 n)).2.2=true):grP l d7 (n+1):=by
 unfold grP at *
 simp only[grI,grS,hx,cond_true,List.length_append,List.length_cons,List.length_nil,h]
theorem c4p (h:grP l d7 n):n≤d7.length:=by have:=b3I (l:=l) (d7:=d7) (n:=n);unfold grP at h;omega
theorem c0X (h:grP l d7 n) (hx:(gNx l d7 (grI l d7 n)).2.2=true):n<d7.length:=by have:=c4J hx;unfold grP at h;omega
theorem a0t (hx:(gNx l d7 (grI l d7 n)).2.2=false):grI l d7 (n+1)=grI l d7 n:=by simp[grI,grS,hx]
theorem b1H (hx:(gNx l d7 (grI l d7 n)).2.2=false):∀k,grI l d7 (n+k)=grI l d7 n
 |0=>rfl
 |k+1=>by
  have ih:=b1H hx k
  rw[←Nat.add_assoc, ←ih]
  exact a0t (by rw[ih];exact hx)
theorem c2P (h:grP l d7 n) (hx:(gNx l d7 (grI l d7 n)).2.2=false):grI l d7 n=grF l d7:=by
 have h1:=c4p h
 have h2:=b1H hx (d7.length-n)
 rw[show n+(d7.length-n)=d7.length from by omega] at h2
 exact h2.symm
theorem X2 (hx:(gNx l d7 (grI l d7 n)).2.2=true):grI l d7 (n+1)=((grI l d7 n).1++[((gNx l d7 (grI l d7 n)).1,(gNx l d7 (grI l d7 n)).2.1)],(grI l d7 n).2.1.set (gNx l d7 (grI l d7 n)).1.toNat true,(grI l d7 n).2.2++(d7.getD (gNx l d7 (grI l d7 n)).1.toNat (0,[])).2):=by
 simp[grI,grS,hx]
theorem a8V:(∀k,(grI l d7 n).2.1.getD k false=(grI l d7 n).1.any λx=>decide (x.1=(k:Int)))∧((grI l d7 n).1.map λx=>x.1).Nodup∧∀x∈(grI l d7 n).1,0≤x.1∧x.1.toNat<d7.length∧0≤x.2∧x.2<(l.length:Int):=by
 induction n with
 |zero=>
  refine ⟨λk=>?_,by simp[grI],by simp[grI]⟩
  simp only[grI,List.any_nil,List.getD]
  cases h:(List.replicate d7.length false)[k]? with
  |none=>rfl
  |some v=>rw[List.getElem?_replicate] at h;split at h<;>simp at h;rw[←h];rfl
 |succ n ih=>
  obtain ⟨i1,i2,i3⟩:=ih
  cases h:(gNx l d7 (grI l d7 n)).2.2
  ·rw[a0t h];exact ⟨i1,i2,i3⟩
  ·rw[X2 h]
   obtain ⟨k,h1,h2,h3,a,h4,h5,h6⟩:=a3D (show (F7 l (grI l d7 n).2.2 d7 (grI l d7 n).2.1 0).2.2=true from h)
   have e1:(gNx l d7 (grI l d7 n)).1=(k:Int):=by unfold gNx;rw[h1];simp
   have e2:(gNx l d7 (grI l d7 n)).1.toNat=k:=by rw[e1];simp
   have e3:(gNx l d7 (grI l d7 n)).2.1=I5 l a (grI l d7 n).2.2:=h5
   have hk:k<(grI l d7 n).2.1.length:=(List.getElem?_eq_some_iff.1 h3).1
   have i1k:=i1 k
   simp only[List.getD,h3,Option.getD_some] at i1k
   refine ⟨λj=>?_,?_,?_⟩
   ·simp only[e2,e1,List.any_append,List.any_cons,List.any_nil,Bool.or_false, ←i1 j]
    by_cases hj:j=k
    ·subst hj;simp[List.getD,hk]
    ·have:¬((k:Int)=(j:Int)):=by omega
     simp only[this,decide_false,Bool.or_false,List.getD,Int.toNat_natCast,List.getElem?_set_ne (Ne.symm hj)]
   ·rw[List.map_append,List.nodup_append]
    refine ⟨i2,by simp,λu hu v hv e=>?_⟩
    simp only[List.map_cons,List.map_nil,List.mem_singleton] at hv
    subst e;rw[hv,e1] at hu
    obtain ⟨y,hy,hy2⟩:=List.mem_map.1 hu
    have:=List.any_eq_false.1 i1k.symm y hy
    simp[hy2] at this
   ·intro x hx
    rcases List.mem_append.1 hx with hx|hx
    ·exact i3 x hx
    ·simp only[List.mem_singleton] at hx;subst hx
     refine ⟨by rw[e1];omega,by rw[e2];exact h2,by rw[e3];exact h6,?_⟩
     show (gNx l d7 (grI l d7 n)).2.1<_
     rw[e3]
     unfold I5 at h6 ⊢
     have:=(a8e (p:=λm=>M4 m a (grI l d7 n).2.2) (s:=l) (by omega)).2
     omega
theorem b6t {s:List (Int×Int)} {k:Int}:H6 (s.map λx=>x.1) k=s.any λx=>decide (x.1=k):=by
 unfold H6;rw[List.any_map];rfl
end
def a3c (b:List Int) (a:AT2):List Int:=(a.2.filter λt=>inR t 10 17).foldl O9 b
def grV (l:List MT5) (d7:List AT2):Nat→List Int
 |0=>[]
 |n+1=>cond (gNx l d7 (grI l d7 n)).2.2 (a3c (grV l d7 n) (d7.getD (gNx l d7 (grI l d7 n)).1.toNat (0,[]))) (grV l d7 n)
section
variable {l:List MT5} {d7 al:List AT2} {ds:List Bool} {b b':List Int} {i n g:Nat} {m:MT5} {a:AT2}
theorem c2Q (h:∀v,inR v 10 17=true→H6 b v=H6 b' v):a1a a b=a1a a b':=by
 funext i;unfold a1a
 cases hv:inR (at0 a.2 i) 10 17
 ·rfl
 ·rw[h _ hv]
theorem b8u (h:∀v,inR v 10 17=true→H6 b v=H6 b' v):M4 m a b=M4 m a b':=by unfold M4;rw[c2Q h]
theorem c1F (h:∀v,inR v 10 17=true→H6 b v=H6 b' v):I5 l a b=I5 l a b':=by
 unfold I5;congr 1;funext m;exact b8u h
theorem b2s {α:Type} {p:α→Bool} {f:α}:∀{l:List α},l.any p=true→∀y,y∈P4 p f l↔y∈l∨y=f
 |[],h,_=>by simp at h
 |x::l,h,y=>by
  by_cases hp:p x=true
  ·simp only[P4,hp,if_true,List.mem_cons]
   constructor
   ·rintro (h|h|h)
    ·exact .inr h
    ·exact .inl (.inl h)
    ·exact .inl (.inr h)
   ·rintro ((h|h)|h)
    ·exact .inr (.inl h)
    ·exact .inr (.inr h)
    ·exact .inl h
  ·have h1:l.any p=true:=by simpa[hp] using h
   simp only[P4,hp,if_false,List.mem_cons,b2s h1 y,Bool.false_eq_true]
   exact or_assoc.symm
theorem c0s {x y:Int}:y∈O9 b x↔y∈b∨y=x:=by
 unfold O9 W2
 split
 ·rename_i h
  rw[a0y] at h
  exact ⟨.inl,λh'=>h'.elim id λe=>e▸h⟩
 ·split
  ·rename_i h;exact b2s h y
  ·simp
theorem c2x {x v:Int}:H6 (O9 b x) v=(H6 b v||decide (x=v)):=by
 rw[Bool.eq_iff_iff,a0y,c0s,Bool.or_eq_true,a0y,decide_eq_true_eq]
 exact ⟨λh=>h.imp id Eq.symm,λh=>h.imp id Eq.symm⟩
theorem b6e (a:AT2) {v:Int} (hv:inR v 10 17=true):H6 (a3c b a) v=(H6 b v||H6 a.2 v):=by
 unfold a3c
 generalize a.2=t
 induction t generalizing b with
 |nil=>simp[H6]
 |cons x t ih=>
  by_cases hx:inR x 10 17=true
  ·rw[List.filter_cons_of_pos (p:=λt=>inR t 10 17) hx,List.foldl_cons,ih,c2x]
   simp only[H6,List.any_cons,Bool.or_assoc]
  ·rw[List.filter_cons_of_neg (p:=λt=>inR t 10 17) hx,ih]
   have:decide (x=v)=false:=decide_eq_false λe=>hx (e▸hv)
   simp only[H6,List.any_cons,this,Bool.false_or]
theorem c1H {v:Int} (hv:inR v 10 17=true):H6 (grV l d7 n) v=H6 (grI l d7 n).2.2 v:=by
 induction n with
 |zero=>rfl
 |succ n ih=>
  cases h:(gNx l d7 (grI l d7 n)).2.2
  ·rw[a0t h,grV,h];exact ih
  ·rw[X2 h,grV,h,cond_true,b6e _ hv,ih]
   simp only[H6,List.any_append]
theorem a4V {t:List Int}:(t.foldl O9 b).length≤b.length+t.length:=by
 induction t generalizing b with
 |nil=>simp
 |cons x t ih=>
  have h1:=ih (b:=O9 b x)
  have h2:=a3M (h:=H6 b x) (p:=λy=>decide (x<y)) (f:=x) (l:=b)
  simp only[List.foldl_cons,List.length_cons];unfold O9 at *;omega
theorem c1B:(a3c b a).length≤b.length+a.2.length:=by
 unfold a3c
 have h1:=a4V (b:=b) (t:=a.2.filter λt=>inR t 10 17)
 have h2:=List.length_filter_le (λt=>inR t 10 17) a.2
 omega
theorem b4X (h:∀a∈d7,a.2.length≤3) (k:Nat):(d7.getD k (0,[])).2.length≤3:=by
 rw[List.getD]
 cases hk:d7[k]? with
 |none=>simp
 |some a=>exact h a (List.mem_of_getElem? hk)
theorem c2e (h:∀a∈d7,a.2.length≤3):(grV l d7 n).length≤3*n:=by
 induction n with
 |zero=>simp[grV]
 |succ n ih=>
  rw[grV]
  cases (gNx l d7 (grI l d7 n)).2.2
  ·simp only[cond_false];omega
  ·simp only[cond_true]
   have h1:=c1B (b:=grV l d7 n) (a:=d7.getD (gNx l d7 (grI l d7 n)).1.toNat (0,[]))
   have h2:=b4X h (gNx l d7 (grI l d7 n)).1.toNat
   omega
theorem c2z (h:∀a∈d7,a.2.length≤3):(grI l d7 n).2.2.length≤3*n:=by
 induction n with
 |zero=>simp[grI]
 |succ n ih=>
  cases hx:(gNx l d7 (grI l d7 n)).2.2
  ·rw[a0t hx];omega
  ·rw[X2 hx]
   have h2:=b4X h (gNx l d7 (grI l d7 n)).1.toNat
   simp only[List.length_append];omega
theorem b9c:I5 l a (grV l d7 n)=I5 l a (grI l d7 n).2.2:=c1F λv hv=>c1H hv
end
def exM (m:MT5):MT5:=cond (decide (m.2.2.1≠0)) (-1,m.2) m
def exF (l:List MT5):List MT5:=l.map exM
def N0 (al:List AT2) (ds:List Bool):List AT2:=((al.zip ds).filter λx=>x.2).map λx=>x.1
def I1 (l:List MT5) (d7:List AT2):List AT2:=N0 d7 (grF (exF l) d7).2.1
section
variable {al:List AT2} {ds:List Bool} {g:Nat} {l:List MT5} {d7:List AT2}
theorem a6T (h1:g<al.length) (h2:g<ds.length):N0 (al.take (g+1)) (ds.take (g+1))=N0 (al.take g) (ds.take g)++cond ds[g] [al[g]] []:=by
 unfold N0
 rw[List.take_succ_eq_append_getElem h1,List.take_succ_eq_append_getElem h2,List.zip_append (by simp;omega),List.filter_append,List.map_append]
 congr 1
 cases ds[g]<;>rfl
theorem a1l (h1:¬g<al.length) (h:ds.length=al.length):N0 (al.take g) (ds.take g)=N0 al ds:=by
 rw[List.take_of_length_le (by omega),List.take_of_length_le (by omega)]
theorem a8j:(N0 al ds).length≤al.length:=by
 unfold N0
 rw[List.length_map]
 refine Nat.le_trans (List.length_filter_le _ _) ?_
 rw[List.length_zip];omega
theorem b2A {a:AT2} (h:a∈N0 al ds):a∈al:=by
 obtain ⟨x,hx,rfl⟩:=List.mem_map.1 h
 exact (List.of_mem_zip (List.mem_filter.1 hx).1).1
theorem b9M {s:List (Int×Int)} {k:Int} {a:AT2} (h:(s.map λx=>x.1).Nodup):(s.filter λx=>decide (x.1=k)).map (λ_=>a)=cond (s.any λx=>decide (x.1=k)) [a] []:=by
 induction s with
 |nil=>rfl
 |cons x s ih=>
  rw[List.map_cons,List.nodup_cons] at h
  by_cases hx:x.1=k
  ·have h0:(s.filter λx=>decide (x.1=k))=[]:=List.filter_eq_nil_iff.2 λy hy=>by
    simp only[decide_eq_true_eq]
    intro e
    exact h.1 (List.mem_map.2 ⟨y,hy,by rw[e,hx]⟩)
   rw[List.filter_cons_of_pos (by simp[hx]),h0,List.any_cons,decide_eq_true hx];rfl
  ·rw[List.filter_cons_of_neg (by simp[hx]),ih h.2,List.any_cons,decide_eq_false hx,Bool.false_or]
theorem c0m {k:Nat}:(grF l d7).2.1.getD k false=(grF l d7).1.any λx=>decide (x.1=(k:Int)):=a8V.1 k
theorem c1T {k:Nat} {a:AT2} (hk:k<(grF l d7).2.1.length):((grF l d7).1.filter λx=>decide (x.1=(k:Int))).map (λ_=>a)=cond ((grF l d7).2.1[k]) [a] []:=by
 have h0:=(a8V (l:=l) (d7:=d7) (n:=d7.length)).2.1
 change (((grF l d7).1).map λx=>x.1).Nodup at h0
 rw[b9M h0]
 have:=c0m (l:=l) (d7:=d7) (k:=k)
 rw[List.getD,List.getElem?_eq_getElem hk,Option.getD_some] at this
 rw[this]
end
section
variable {l:List MT5} {d7:List AT2} {g n r i:Nat} {q:List Int×List AT2} {s:List Int}
theorem c5I (h:(F7 l (grI l d7 n).2.2 d7 (grI l d7 n).2.1 0).2.2=true):0≤(F7 l (grI l d7 n).2.2 d7 (grI l d7 n).2.1 0).1∧(F7 l (grI l d7 n).2.2 d7 (grI l d7 n).2.1 0).1.toNat<d7.length∧0≤(F7 l (grI l d7 n).2.2 d7 (grI l d7 n).2.1 0).2.1∧(F7 l (grI l d7 n).2.2 d7 (grI l d7 n).2.1 0).2.1<l.length:=by
 obtain ⟨k,h1,h2,h3,a,h4,h5,h6⟩:=a3D h
 refine ⟨by rw[h1];omega,by rw[h1];omega,by rw[h5];exact h6,?_⟩
 rw[h5];unfold I5 at h6 ⊢
 have:=(a8e (p:=λm=>M4 m a (grI l d7 n).2.2) (s:=l) (by omega)).2
 omega
theorem b3J (h:(F7 l (grI l d7 n).2.2 d7 (grI l d7 n).2.1 0).2.2=true):(grI l d7 n).1++[((F7 l (grI l d7 n).2.2 d7 (grI l d7 n).2.1 0).1,(F7 l (grI l d7 n).2.2 d7 (grI l d7 n).2.1 0).2.1)]=(grI l d7 (n+1)).1:=by rw[X2 h];rfl
theorem c4O (h:(F7 l (grI l d7 n).2.2 d7 (grI l d7 n).2.1 0).2.2=true):(grI l d7 n).2.1.set (F7 l (grI l d7 n).2.2 d7 (grI l d7 n).2.1 0).1.toNat true=(grI l d7 (n+1)).2.1:=by rw[X2 h];rfl
theorem c4l (h:(F7 l (grI l d7 n).2.2 d7 (grI l d7 n).2.1 0).2.2=true) (hk:(F7 l (grI l d7 n).2.2 d7 (grI l d7 n).2.1 0).1.toNat<d7.length):(grI l d7 n).2.2++(d7[(F7 l (grI l d7 n).2.2 d7 (grI l d7 n).2.1 0).1.toNat]).2=(grI l d7 (n+1)).2.2:=by
 rw[X2 h]
 show _=(grI l d7 n).2.2++(d7.getD (F7 l (grI l d7 n).2.2 d7 (grI l d7 n).2.1 0).1.toNat (0,[])).2
 rw[List.getD,List.getElem?_eq_getElem hk,Option.getD_some]
def sgI (l:List MT5) (d7:List AT2) (r i:Nat):Prop:=gNx l d7 (grI l d7 r)=F7 l (grI l d7 r).2.2 (d7.drop i) ((grI l d7 r).2.1.drop i) i
theorem c2t:sgI l d7 r 0:=rfl
theorem b6b (hi:i<d7.length):H6 ((grI l d7 r).1.map λx=>x.1) i=(grI l d7 r).2.1[i]'(by rw[a2u];exact hi):=by
 rw[b6t, ←a8V.1 i,List.getD,List.getElem?_eq_getElem (by rw[a2u];exact hi),Option.getD_some]
theorem b6a (h:sgI l d7 r i) (hi:i<d7.length) (hm:¬0≤I5 l d7[i] (grV l d7 r)):sgI l d7 r (i+1):=by
 unfold sgI at *
 rw[h]
 exact a6G hi (by rw[a2u];exact hi) (by rw[b9c] at hm;simp[hm])
theorem b6v (h:sgI l d7 r i) (hi:i<d7.length) (hm:H6 ((grI l d7 r).1.map λx=>x.1) i=true):sgI l d7 r (i+1):=by
 unfold sgI at *
 rw[h]
 exact a6G hi (by rw[a2u];exact hi) (by rw[b6b hi] at hm;simp[hm])
theorem b9k (h:sgI l d7 r i) (hi:i<d7.length) (hm:0≤I5 l d7[i] (grV l d7 r)) (hu:H6 ((grI l d7 r).1.map λx=>x.1) i=false):gNx l d7 (grI l d7 r)=((i:Int),I5 l d7[i] (grV l d7 r),true):=by
 unfold sgI at h
 rw[b6b hi] at hu
 rw[b9c] at hm ⊢
 rw[h,a6Q hi (by rw[a2u];exact hi) (by simp[hu,hm])]
theorem sg1 (h:sgI l d7 r i) (hi:i<d7.length) (hm:0≤I5 l d7[i] (grV l d7 r)) (hu:H6 ((grI l d7 r).1.map λx=>x.1) i=false):(grI l d7 r).1++[((i:Int),I5 l d7[i] (grV l d7 r))]=(grI l d7 (r+1)).1:=by
 have h1:=b9k h hi hm hu
 rw[X2 (by rw[h1]),h1]
theorem sg2 (h:sgI l d7 r i) (hi:i<d7.length) (hm:0≤I5 l d7[i] (grV l d7 r)) (hu:H6 ((grI l d7 r).1.map λx=>x.1) i=false):a3c (grV l d7 r) d7[i]=grV l d7 (r+1):=by
 have h1:=b9k h hi hm hu
 rw[grV,h1,cond_true,List.getD,Int.toNat_natCast,List.getElem?_eq_getElem hi,Option.getD_some]
theorem sg3 (h:sgI l d7 r i) (hi:i<d7.length) (hm:0≤I5 l d7[i] (grV l d7 r)) (hu:H6 ((grI l d7 r).1.map λx=>x.1) i=false):((grI l d7 r).1.map λx=>x.1)++[(i:Int)]=(grI l d7 (r+1)).1.map λx=>x.1:=by
 rw[←sg1 h hi hm hu,List.map_append];rfl
theorem b9b (h:sgI l d7 r i) (hi:¬i<d7.length):(gNx l d7 (grI l d7 r)).2.2=false:=by
 unfold sgI at h
 rw[h,a6H hi]
theorem se1 (h:sgI l d7 r i) (hi:¬i<d7.length):grI l d7 r=grI l d7 (r+1):=(a0t (b9b h hi)).symm
theorem se2 (h:sgI l d7 r i) (hi:¬i<d7.length):grV l d7 r=grV l d7 (r+1):=by rw[grV,b9b h hi];rfl
theorem b8K {b t:List Int} {k:Nat} (hk:k<t.length) (h:inR t[k] 10 17=true):O9 (((t.take k).filter λt=>inR t 10 17).foldl O9 b) t[k]=((t.take (k+1)).filter λt=>inR t 10 17).foldl O9 b:=by
 rw[List.take_succ_eq_append_getElem hk,List.filter_append,List.foldl_append,List.filter_cons_of_pos (p:=λt=>inR t 10 17) h];rfl
theorem b8g {b t:List Int} {k:Nat} (hk:k<t.length) (h:inR t[k] 10 17=false):((t.take k).filter λt=>inR t 10 17).foldl O9 b=((t.take (k+1)).filter λt=>inR t 10 17).foldl O9 b:=by
 rw[List.take_succ_eq_append_getElem hk,List.filter_append,List.foldl_append,List.filter_cons_of_neg (p:=λt=>inR t 10 17) (by rw[h];decide)];rfl
theorem b5k {al:List AT2} {ds:List Bool} (h1:g<al.length) (h2:g<ds.length) (h:ds[g]=true):N0 (al.take g) (ds.take g)++[al[g]]=N0 (al.take (g+1)) (ds.take (g+1)):=by rw[a6T h1 h2,h];rfl
theorem b3Z {al:List AT2} {ds:List Bool} (h1:g<al.length) (h2:g<ds.length) (h:ds[g]=false):N0 (al.take g) (ds.take g)=N0 (al.take (g+1)) (ds.take (g+1)):=by rw[a6T h1 h2,h];exact (List.append_nil _).symm
theorem b1A:∀{al:List AT2},(∀a∈al,a.2.length≤3)→D8 (λx=>x.2.length) al≤4*al.length
 |[],_=>by simp[D8,E7]
 |a::al,h=>by
  have h1:=b1A (al:=al) λb hb=>h b (List.mem_cons_of_mem _ hb)
  have h2:=h a (List.mem_cons_self ..)
  simp only[D8,E7,List.length_cons,List.map_cons,List.sum_cons] at *;omega
theorem a9L {al:List AT2} {ds:List Bool} (h:∀a∈al,a.2.length≤3) (hl:al.length≤4):D8 (λx=>x.2.length) (N0 (al.take g) ds)≤1048576:=by
 have h1:=b1A (al:=N0 (al.take g) ds) λa ha=>h a (List.mem_of_mem_take (b2A ha))
 have h2:=a8j (al:=al.take g) (ds:=ds)
 have h3:(al.take g).length≤al.length:=by rw[List.length_take];omega
 omega
theorem b9X {a:AT2} {b:List Int}:I5 l a b≤l.length∧ -1≤I5 l a b:=a3i
theorem b0Z {X:List (Int×Int)} {k:Nat} {c:Int} {a:AT2} (hk:k<X.length):((X.take (k+1)).filter λx=>decide (x.1=c)).map (λ_=>a)=((X.take k).filter λx=>decide (x.1=c)).map (λ_=>a)++cond (decide (X[k].1=c)) [a] []:=by
 rw[List.take_succ_eq_append_getElem hk,List.filter_append,List.map_append]
 congr 1
 cases h:decide (X[k].1=c)<;>simp_all
theorem b4w {P:List AT2} {X:List (Int×Int)} {k:Nat} {c:Int} {a:AT2} (hk:k<X.length) (h:X[k].1=c):P++((X.take k).filter λx=>decide (x.1=c)).map (λ_=>a)++[a]=P++((X.take (k+1)).filter λx=>decide (x.1=c)).map λ_=>a:=by
 rw[b0Z hk,decide_eq_true h,List.append_assoc];rfl
theorem b5l {P:List AT2} {X:List (Int×Int)} {k:Nat} {c:Int} {a:AT2} (hk:k<X.length) (h:¬X[k].1=c):P++((X.take k).filter λx=>decide (x.1=c)).map (λ_=>a)=P++((X.take (k+1)).filter λx=>decide (x.1=c)).map λ_=>a:=by
 rw[b0Z hk,decide_eq_false h];simp
theorem b7C {X:List (Int×Int)} {k:Nat} {c:Int}:((X.take k).filter λx=>decide (x.1=c)).length≤X.length:=
 Nat.le_trans (List.length_filter_le _ _) (by rw[List.length_take];omega)
theorem b9l {X:List (Int×Int)} {k:Nat} {c:Int} {a:AT2}:(((X.take k).filter λx=>decide (x.1=c)).map λ_=>a).length≤X.length:=by
 rw[List.length_map]
 exact Nat.le_trans (List.length_filter_le _ _) (by rw[List.length_take];omega)
theorem b1q:(grF l d7).2.1.length=d7.length:=a2u
theorem c0x {X:List (Int×Int)} {k:Nat} (hX:X=(grF l d7).1) (hk:¬k<X.length) (hg:g<d7.length):N0 (d7.take g) ((grF l d7).2.1.take g)++((X.take k).filter λx=>decide (x.1=(g:Int))).map (λ_=>d7[g])=N0 (d7.take (g+1)) ((grF l d7).2.1.take (g+1)):=by
 subst hX
 have hd:g<(grF l d7).2.1.length:=by rw[b1q];exact hg
 rw[show (grF l d7).1.take k=(grF l d7).1 from List.take_of_length_le (by omega),c1T hd,a6T hg hd]
end
def Q0 (s:List Int) (l:List MT5) (q:List Int×List AT2):Bool:=(C5 s l&&w7 s q)&&w7 s (q.1,I1 l q.2)
def J4 (s:List Int) (l:List MT5) (q:List Int×List AT2):List Int:=cond (Q0 s l q) q.1 []
def J1 (s:List Int) (l:List MT5) (q:List Int×List AT2):List AT2:=cond (Q0 s l q) (I1 l q.2) []
section
variable {s:List Int} {l:List MT5} {q:List Int×List AT2}
theorem L7 (h:Q0 s l q=false):[]=J4 s l q∧[]=J1 s l q∧false=Q0 s l q:=by rw[J4,J1,h];exact ⟨Z,Z,Z⟩
theorem V7 (h:(C5 s l&&w7 s q)=false):Q0 s l q=false:=by rw[Q0,h];rfl
theorem V5 (h:w7 s (q.1,I1 l q.2)=false):Q0 s l q=false:=by rw[Q0,h,Bool.and_false]
theorem R8 (h1:(C5 s l&&w7 s q)=true) (h2:w7 s (q.1,I1 l q.2)=true):q.1=J4 s l q∧I1 l q.2=J1 s l q∧true=Q0 s l q:=by
 have h:Q0 s l q=true:=by rw[Q0,h1,h2];rfl
 rw[J4,J1,h];exact ⟨Z,Z,Z⟩
end
abbrev GQ:=(List Int×List AT2)×List AT2
def c3r (g:GQ):List Int:=k7 (λt=>inR t 10 17) g.1.2
def c0q (s:List Int) (l:List MT5) (g:GQ):Bool:=
 C5 s l&&(b2c s g&&(!decide (((grF (exF l) g.1.2).1.length:Int)<g.1.2.length)&& !g.2.any λa=>decide (I5 (exF l) a (c3r g)<0)))
def c5s (s:List Int) (l:List MT5) (g:GQ):List (Int×Int):=cond (c0q s l g) (grF (exF l) g.1.2).1 []
def c5l (s:List Int) (l:List MT5) (g:GQ):List Int:=cond (c0q s l g) (g.2.map λa=>I5 (exF l) a (c3r g)) []
section
variable {s:List Int} {l:List MT5} {g:GQ} {i:Nat}
theorem c3B {q:List Int×List AT2} (h:Q0 s l q=true):w7 s (J4 s l q,J1 s l q)=true∧w7 s q=true:=by
 rw[J4,J1,h]
 simp only[Q0,Bool.and_eq_true] at h
 exact ⟨h.2,h.1.2⟩
end
end Go.Proofs.YthapcdhdfaibkaaGreatDoor
