import Derived.Test.YthapcdhdfaibkaaGreatDoorT13
import Derived.Test.YthapcdhdfaibkaaGreatDoorT10
section
namespace Go.Proofs.YthapcdhdfaibkaaGreatDoor
set_option linter.all false
theorem b6X {w:World} {L:List Nat} {e:TypeId} {a:Option Addr} {m c:Nat} {xs:List (List Int×List Int)} (h:Ro w L (Enc.sl e (Enc.pair (Enc.sl tI Enc.int) (Enc.sl tI Enc.int))) [.slice a m c] xs):∀x∈xs,(∀y∈x.1,I64 y)∧∀y∈x.2,I64 y:=by
  intro x hx
  obtain ⟨i,hi,rfl⟩:=List.getElem_of_mem hx
  obtain ⟨_,_,ci,_,h1,_⟩:=h.elem i hi
  obtain ⟨c1,c2,rfl,h2,h3⟩:=h1.pair
  obtain ⟨a',c',rfl⟩:=h3.sl
  obtain ⟨a2,c2',rfl⟩:=h2.sl
  exact ⟨h2.i64,h3.i64⟩
theorem b9T {s:List Int} {q:List Int×List IL} {d6:List IL} (h1:w7 s q=true) (h2:B8 s d6=true):U8 s q d6=U0 q.1 (B1 q.2 d6):=by simp[U8,h1,h2]
theorem c2i {s:List Int} {q:List Int×List IL} {d6:List IL} (h2:B8 s d6=false):U8 s q d6=[]:=by simp[U8,h2]
theorem b5o {s:List Int} {q:List Int×List IL} {d6:List IL}:(U8 s q d6).length≤331776∧∀t∈U8 s q d6,t.length≤3:=by
  unfold U8
  split
  · rename_i h
    rw[Bool.and_eq_true] at h
    have h1:=D1 h.1
    have h2:=N4 h.2
    have h3:=b4I (d6:=d6) h2.1 h1.1 h1.2.2
    have h4:=a8P (h:=q.1) (l:=B1 q.2 d6)
    exact ⟨by omega,λt ht=>Nat.le_trans (b1a (h:=q.1) (l:=B1 q.2 d6) t ht) h1.2.1⟩
  · simp
theorem a3h {n:Nat}:∀{m out:List (List Int)},(m.foldl K6 out).length≤out.length+m.length∧((∀t∈out,t.length≤n)→(∀t∈m,t.length≤n)→∀t∈m.foldl K6 out,t.length≤n)
  |[],out=>by simp
  |x::m,out=>by
    have h1:=a3h (n:=n) (m:=m) (out:=K6 out x)
    have h2:=b4x (l:=out) (t:=x)
    refine ⟨by simp only[List.foldl_cons,List.length_cons];omega,λho hm=>h1.2 (λt ht=>?_)<|λt ht=>hm t (by simp[ht])⟩
    rcases a3Q ht with ht|rfl
    · exact ho t ht
    · exact hm _ (by simp)
def a1H (s:List Int) (d6:List IL) (out:List (List Int)) (q:List Int×List IL):List (List Int):=(U8 s q d6).foldl K6 out
def a1x (s:List Int) (u:List (List Int×List IL)) (d6:List IL):List (List Int):=if F9 s u then u.foldl (a1H s d6) [] else []
theorem b3Q {s:List Int} {d6:List IL}:∀{u:List (List Int×List IL)} {out:List (List Int)},(u.foldl (a1H s d6) out).length≤out.length+u.length*331776∧((∀t∈out,t.length≤3)→∀t∈u.foldl (a1H s d6) out,t.length≤3)
  |[],out=>by simp
  |q::u,out=>by
    have h1:=b3Q (s:=s) (d6:=d6) (u:=u) (out:=a1H s d6 out q)
    have h2:=a3h (n:=3) (m:=U8 s q d6) (out:=out)
    have h3:=b5o (s:=s) (q:=q) (d6:=d6)
    refine ⟨?_,λho=>h1.2<|h2.2 ho h3.2⟩
    have h4:(a1H s d6 out q).length≤out.length+(U8 s q d6).length:=h2.1
    simp only[List.foldl_cons,List.length_cons,Nat.succ_mul];omega
theorem c0l {s:List Int} {d6:List IL} {u:List (List Int×List IL)} {g h:Nat} {m:List (List Int)} (hg:g≤3) (hm:m.length≤331776) (he:∀t∈m,t.length≤3):((m.take h).foldl K6 ((u.take g).foldl (a1H s d6) [])).length≤2000000∧∀t∈(m.take h).foldl K6 ((u.take g).foldl (a1H s d6) []),t.length≤1048576:=by
  have h1:=b3Q (s:=s) (d6:=d6) (u:=u.take g) (out:=[])
  have h2:=a3h (n:=3) (m:=m.take h) (out:=(u.take g).foldl (a1H s d6) [])
  have h3:=List.length_take_le g u
  have h4:=List.length_take_le' h m
  have h5:=Nat.mul_le_mul_right 331776 (Nat.le_trans h3 hg)
  simp only[List.length_nil] at h1
  refine ⟨by omega,λt ht=>Nat.le_trans (h2.2 (h1.2 (by simp)) (λt ht=>he t<|List.mem_of_mem_take ht) t ht) (by decide)⟩
theorem b2I {s:List Int} {u:List (List Int×List IL)} (h:F9 s u=true):u.length≤3∧∀q∈u,w7 s q=true:=by
  simp only[F9,a2z,inR,Bool.and_eq_true,decide_eq_true_eq,Bool.not_eq_true',List.any_eq_false] at h
  refine ⟨by omega,λq hq=>?_⟩
  have:=h.2 q hq
  cases hk:w7 s q with
  |true=>rfl
  |false=>simp[hk] at this
theorem a6d {s:List Int} {d6:List IL} (h2:B8 s d6=false):∀{u:List (List Int×List IL)},u.foldl (a1H s d6) []=[]
  |[]=>rfl
  |q::u=>by
    have:a1H s d6 [] q=[]:=by simp[a1H,c2i h2]
    rw[List.foldl_cons,this,a6d h2]
theorem c7l {d7:List IL}:(k7 (λt=>inR t 10 17) d7).length≤8:=by
  have h1:(k7 (λt=>inR t 10 17) d7).Pairwise (· < ·):=(a3n List.Pairwise.nil).1
  have h2:((k7 (λt=>inR t 10 17) d7).map λx=>(x-10).toNat).Nodup:=by
    unfold List.Nodup
    rw[List.pairwise_map]
    refine List.Pairwise.imp_of_mem (λ{a b} ha hb hab e=>?_) h1
    have ra:=c1x a ha
    have rb:=c1x b hb
    omega
  have h3:=a3N (n:=8) h2 λx hx=>by
    obtain ⟨y,hy,rfl⟩:=List.mem_map.1 hx
    have:=c1x y hy
    omega
  simpa using h3
theorem c7z {u:List Int} {n:Nat} (h:∀i,i<n→a1n u (fzN u i)≤9):∀x∈a8m u n,I64 x:=by
  intro x hx
  simp only[a8m,List.mem_map,List.mem_range] at hx
  obtain ⟨i,hi,rfl⟩:=hx
  have:=h i hi
  unfold I64;constructor<;>omega
end Go.Proofs.YthapcdhdfaibkaaGreatDoor
end
section
namespace Go.Proofs.YthapcdhdfaibkaaGreatDoor
set_option linter.all false
def a3x (v:List Int) (p:Int×Int):Bool:=decide (at0 v p.1=p.2)
def X5 (m:Int×List Int×Int×Int×Int) (v:List Int) (f:IL):Bool:=decide (f.1=m.1)&&(m.2.1.zip v).all (a3x f.2)
theorem a1R {a b:List Int} {p:Int×Int→Bool} {g:Nat} (h:g<a.length) (h2:g<b.length):((a.zip b).drop g).all p=(p (a[g],b[g])&&((a.zip b).drop (g+1)).all p):=by
  rw[List.drop_eq_getElem_cons (by simp;omega)]
  simp
theorem a3O {a b:List Int} {p:Int×Int→Bool} {g:Nat} (h:a.length≤g):((a.zip b).drop g).all p=true:=by
  rw[List.drop_eq_nil_of_le (by simp;omega)];rfl
theorem b7X {α:Type} {s:List α} {p:α→Bool}:s.filter (λx=> !!p x)=s.filter p:=by
  congr 1;funext x;cases p x<;>rfl
theorem b5Q {s:List Int} {m:Int×List Int×Int×Int×Int} {f:IL} (h1:S4 s m=true) (h2:N9 s f=true) (e:f.1=m.1):∀i∈m.2.1,0≤i∧i<f.2.length:=by
  simp only[S4,a0X,N9,Y9,Bool.and_eq_true,decide_eq_true_eq,Bool.not_eq_true',List.any_eq_false] at h1 h2
  intro i hi
  have h3:=h1.2.2.1 i hi
  have h4:=h2.2.1
  rw[e] at h4
  simp only[inR,Bool.not_eq_true,Bool.and_eq_false_imp,Bool.and_eq_true,decide_eq_true_eq,decide_eq_false_iff_not] at h3
  omega
end Go.Proofs.YthapcdhdfaibkaaGreatDoor
end
section
namespace Go.Proofs.YthapcdhdfaibkaaGreatDoor
set_option linter.all false
abbrev Mth:=Int×List Int×Int×Int×Int
abbrev Fct:=IL
abbrev Lin:=Int×IL×IL
abbrev Rul:=Int×IL
def atM (l:List Mth) (i:Int):Mth:=l.getD i.toNat (0,[],0,0,0)
theorem U6 {l:List Mth} {i:Int} (h:i.toNat<l.length):atM l i=l[i.toNat]:=by simp[atM,List.getD,h]
def atR (l:List Rul) (i:Int):Rul:=l.getD i.toNat (0,0,[])
theorem V8 {n a b:Int} (h:inR n a b=true):a≤n∧n≤b:=of_decide_eq_true h
def T0 (s:List Int) (l:List Mth) (a:IL):Bool:=C5 s l&&(inR a.1 0 ((l.length:Int)-1)&&(decide (a.2.length=(atM l a.1).2.1.length)&&S3 a.2))
theorem a0I {s:List Int} {l:List Mth} {a:IL} (h:T0 s l a=true):C5 s l=true∧(0≤a.1∧a.1.toNat<l.length)∧a.2.length=(atM l a.1).2.1.length∧S3 a.2=true:=by
  simp only[T0,Bool.and_eq_true,decide_eq_true_eq] at h
  have h1:=V8 h.2.1
  exact ⟨h.1,⟨by omega,by omega⟩,h.2.2.1,h.2.2.2⟩
theorem a9s {s:List Int} {l:List Mth} (h:C5 s l=true):∀m∈l,S4 s m=true:=by
  simp only[C5,Bool.and_eq_true,Bool.not_eq_true',List.any_eq_false,decide_eq_true_eq] at h
  intro m hm
  have:=h.2.2 m hm
  simpa using this
theorem b7W {s:List Int} {l:List Mth} {a:IL} (h:T0 s l a=true):S4 s (atM l a.1)=true:=by
  obtain ⟨h1,h2,_⟩:=a0I h
  rw[U6 h2.2]
  exact a9s h1 _<|List.getElem_mem _
theorem b8G {s:List Int} {l:List Mth} {a:IL} {d6:List Fct} (h:T0 s l a=true) (hf:B8 s d6=true):∀f∈d6,f.1=(atM l a.1).1→∀i∈(atM l a.1).2.1,0≤i∧i<f.2.length:=
  λf hm e=>b5Q (b7W h) ((N4 hf).2 f hm) e
def c5H (r:Rul) (f x:Fct):Bool:=decide (x.1=r.1)&&decide (R3 (r.2.1,a3a r.2.2 x.2) f=0)
def c2X (d6:List Fct) (f:Fct) (r:Rul):Bool:=d6.any (c5H r f)
def c1i (G8:List Rul) (d6:List Fct) (f:Fct):Int:=J0 (c2X d6 f) G8
def c3P (M6:List Int) (before:List Lin) (v:Int):Bool:=H6 M6 v||before.any (λy=>H6 y.2.2.2 v)
def c5J (s:List Int) (r:Rul) (x y:Fct):Bool:=c0i s r y&&decide (R3 (c5K s r y,c5v s r y) x=0)
def c3d (s:List Int) (l:List Mth) (d6:List Fct) (kn:Int→Bool) (x:Lin):Bool:=
  T0 s l x.2.1&&(decide ((atM l x.2.1.1).2.2.1=0)&&((!x.2.1.2.any (λv=> !kn v))&&O5 (d6.filter (X5 (atM l x.2.1.1) x.2.1.2)) x.2.2))
def c3J (s:List Int) (G8:List Rul) (gv:Bool) (x:Lin):Bool:=inR x.1 0 ((G8.length:Int)-1)&&(N9 s x.2.2&&gv)
def c3l (s:List Int) (l:List Mth) (G8:List Rul) (d6:List Fct) (M6:List Int) (before:List Lin) (x:Lin):Bool:=
  if x.1= -1 then c3d s l d6 (c3P M6 before) x else c3J s G8 (before.any λy=>c5J s (atR G8 x.1) x.2.2 y.2.2) x
def c0D:Lin:=(0,(0,[]),0,[])
def c3q (s:List Int) (l:List Mth) (G8:List Rul) (d6:List Fct) (M6:List Int) (lines:List Lin) (g:Nat):Bool:=
  ((List.range lines.length).drop g).all λi=>c3l s l G8 d6 M6 (lines.take i) (lines.getD i c0D)
def c4x (lines:List Lin) (f:Fct):Bool:=decide (R3 (lines.getD (lines.length-1) c0D).2.2 f=0)
def c6m (s:List Int) (l:List Mth) (G8:List Rul) (d6:List Fct) (M6:List Int) (f:Fct) (lines:List Lin):Bool:=
  (C5 s l&&a6f s G8)&&(B8 s d6&&(decide (0<lines.length)&&(c4x lines f&&c3q s l G8 d6 M6 lines 0)))
-- the other one's way
def c4G (lines:List Lin) (g:Nat):List Fct:=((lines.take g).map λx=>x.2.2).foldl F3 []
def c4E (M6:List Int) (lines:List Lin) (g:Nat):List Int:=(lines.take g).foldl (λv x=>x.2.2.2.foldl O9 v) (W0 (M6.filter λt=>inR t 0 9))
def c4B (s:List Int) (l:List Mth) (G8:List Rul) (d6:List Fct) (F:List Fct) (V:List Int) (x:Lin):Bool:=
  if x.1= -1 then c3d s l d6 (H6 V) x else c3J s G8 (c2X F x.2.2 (atR G8 x.1)) x
def c6w (s:List Int) (l:List Mth) (G8:List Rul) (d6:List Fct) (M6:List Int) (lines:List Lin) (g:Nat):Bool:=
  ((List.range lines.length).drop g).all λi=>c4B s l G8 d6 (c4G lines i) (c4E M6 lines i) (lines.getD i c0D)
theorem a4l {x:List Fct}:∀{v:List Fct} (y:Fct),y∈x.foldl F3 v↔y∈v∨y∈x:=by
  induction x with
  |nil=>intro v y;simp
  |cons a x ih=>
    intro v y
    rw[List.foldl_cons,ih,List.mem_cons]
    have:y∈F3 v a↔y∈v∨y=a:=by
      refine ⟨λh=>a3Q h,?_⟩
      rintro (h|rfl)
      · exact a6W h
      · cases hh:O5 v y
        · exact b2L hh
        · exact a6W<|b0d.1 hh
    rw[this,or_assoc]
-- sizes
abbrev c6H:Lin→Nat:=λx=>x.2.1.2.length+x.2.2.2.length
end Go.Proofs.YthapcdhdfaibkaaGreatDoor
end
section
namespace Go.Proofs.YthapcdhdfaibkaaGreatDoor
open Go.RowKit
set_option linter.all false
set_option maxHeartbeats 2000000
attribute [local irreducible] Nop Yd Yp Ent Has Tr FnP FnP2 Src K8 Q7 R5 S1 E8
variable {G5 D6 G4 D7 o3:Int} {t8 N5 i7:List Int} {H9 F5 m_values c_values G6 C3:Nat} {F6 a_values C4:Option Addr}
theorem b3z (hv:t8.length≤N5.length) (hi:o3=G5→∀i∈t8,0≤i∧i<i7.length):TB Tryz.prog 208 [.agg #[.int .i64 G5,.slice F6 H9 F5,.int .i64 D6,.int .i64 G4,.int .i64 D7],.slice a_values m_values c_values,.agg #[.int .i64 o3,.slice C4 G6 C3]] (λw L=>I64 G5∧Ro w L eIs [.slice F6 H9 F5] t8∧I64 D6∧I64 G4∧I64 D7∧Ro w L eIs [.slice a_values m_values c_values] N5∧I64 o3∧Ro w L eIs [.slice C4 G6 C3] i7) (X5 (G5,t8,D6,G4,D7) N5 (o3,i7)):=by
 refine Ti3 Tryz.func208 34 Z λw L hR=>?_
 obtain ⟨Y1,F4,R9,V1,S0,hvalues,L4,z8⟩:=hR
 obtain ⟨rfl,a0p⟩:=F4.slen
 obtain ⟨rfl,lvalues⟩:=hvalues.slen
 obtain ⟨rfl,Y6⟩:=z8.slen
 refine Ew Z3<|Est Z (N.box (cs:=[_,_,_,_,_]) Z dc Z)<|λb3 _=>Est Z (N.box (cs:=[_,_]) Z dc Z)<|λb5 _=>Ei Z<|Eu<|Eq_<|Ew Z5<|Lz fo_Fact_0 j8 Z m0 Z<|Lz fo_Method_0 j8 Z (mS m0) Z<|Ey Z ((Y.neq Z Z).yd)<|l3 (λq12=>?_)<|λq12=>?_
 ·refine Eu<|r9 Z<|Ew Z1<|Ei Z<|Eu<|E.ret<|a5h<|Fb Z Z (by grind[X5,a1R,a3O,a3x,F8,d1,d2,t1,t2])
 ·refine Eu<|Cf<|Eq_<|Ew Z1<|Ei Z<|Eu<|E.block<|Lo (κ:=Nat) (λg=>g≤t8.length∧(t8.zip N5).all (a3x i7)=((t8.zip N5).drop g).all (a3x i7)) (λg=>[(1,.slice a_values N5.length c_values),(3,.pointer<|some ⟨b3,0,none⟩),(5,.pointer<|some ⟨b5,0,none⟩),(7,.int .i64 (g:Int))]) (λg=>[pt b5 85 [.int .i64 o3,.slice C4 i7.length C3],pt b3 125 [.int .i64 G5,.slice F6 t8.length F5,.int .i64 D6,.int .i64 G4,.int .i64 D7]]) (λg=>t8.length-g) 0 ⟨Nat.zero_le _,by simp⟩<|λg pg=>?_
  obtain ⟨pk,pa⟩:=pg
  refine Eq_<|Ew Z5<|Em Z<|Lz fo_Method_1 ty_Is Z (mS m0) Z<|Yln us_Is Z<|Ylt Z<|l3 (λq17=>?_)<|λq17=>?_
  ·have hi1:=hi om t8[g] (List.getElem_mem om)
   refine Eu<|Ct<|Eq_<|E.block<|Eq_<|D.region (λj=>true) mixed<|Df 0 1 fo_Fact_1 ty_Is Z (Hz m0 1 Z)<|Df 2 3 fo_Method_1 ty_Is Z (Hz (mS m0) 1 Z)<|Dm 4 Z ?_
   obtain ⟨eb25,eo25,ea25,ei25,eh25⟩:=F4.elemI g om
   refine Dyp 5 Z (y6 us_Is j8 Z ea25 Z g Z om)<|Dy 6 Z (z7 j8 Z (eh25 _) Z) ?_
   obtain ⟨eb27,eo27,ea27,ei27,eh27⟩:=z8.elemI t8[g].toNat om
   refine Dyp 7 Z (y6 us_Is j8 Z ea27 Z t8[g].toNat om om)<|Dy 8 Z (z7 j8 Z (eh27 _) Z)<|Dm 9 Z<|Dm 10 Z ?_
   obtain ⟨eb31,eo31,ea31,ei31,eh31⟩:=hvalues.elemI g om
   refine Dyp 11 Z (y6 us_Is j8 Z ea31 Z g Z om)<|Dy 12 Z (z7 j8 Z (eh31 _) Z)<|Dyp 13 Z (Y.neq Z Z)<|l3 (λq33=>?_)<|λq33=>?_
   ·refine o4 kr<|Et<|r9 Z<|Ew Z1<|Ei Z<|Eu<|E.ret<|v7<|a5h<|a5h<|v7<|a5h<|Fb Z Z (by grind[X5,a1R,a3O,a3x,F8,d1,d2,t1,t2])
   ·refine o4 kr<|Et<|r8 Z<|v6<|o6<|Et<|Ez Z3<|Em Z<|Yad Z om om<|Ei Z<|Eu<|d8<|d8 ?_
    exact u7 br (g+1) rs (.refl _) ⟨by omega,by grind[a1R,a3x,F8,d1,d2,t1,t2]⟩ om
  ·refine Eu<|r8 Z<|E.exit<|l2<|l2<|u4<|Et<|Ew Z1<|Ei Z<|Eu<|E.ret<|Fb Z Z (by grind[X5,a1R,a3O,a3x,F8,d1,d2,t1,t2])
theorem a9H {b_m:Nat} {b_a:Nat} {r5:Int} {C9:Option Addr} {G1 C8:Nat} {s8:List Int} (hv:t8.length≤s8.length) (hi:o3=G5→∀i∈t8,0≤i∧i<i7.length):TB Tryz.prog 193 [.agg #[.int .i64 o3,.slice C4 G6 C3],.pointer (some ⟨b_m,0,none⟩),.pointer (some ⟨b_a,0,none⟩)] (λw L=>(I64 o3∧Ro w L eIs [.slice C4 G6 C3] i7)∧RoPt w L b_m [.int .i64 G5,.slice F6 H9 F5,.int .i64 D6,.int .i64 G4,.int .i64 D7]∧I64 G5∧Ro w L eIs [.slice F6 H9 F5] t8∧I64 D6∧I64 G4∧I64 D7∧RoPt w L b_a [.int .i64 r5,.slice C9 G1 C8]∧I64 r5∧Ro w L eIs [.slice C9 G1 C8] s8) (!X5 (G5,t8,D6,G4,D7) s8 (o3,i7)):=by
 refine Ti3 Tryz.func193 32 Z λw L hR=>?_
 obtain ⟨⟨L4,z8⟩,hb_m,Y1,F4,R9,V1,S0,hb_a,P2,D9⟩:=hR
 obtain ⟨rfl,Y6⟩:=z8.slen
 obtain ⟨rfl,a0p⟩:=F4.slen
 obtain ⟨rfl,Y5⟩:=D9.slen
 refine Ew Z2<|Est Z (N.box (cs:=[_,_]) Z dc Z)<|λb3 _=>Ei Z<|Eu<|Eq_<|Ew Z5<|Lz fo_Fact_0 j8 Z m0 Z<|Lf fo_Method_0 j8 Z (Hs (hb_m.has) 0 Z)<|Ey Z ((Y.neq Z Z).yd)<|l3 (λq11=>?_)<|λq11=>?_
 ·refine Eu<|r9 Z<|Ew Z1<|Ei Z<|Eu<|E.ret<|a5h<|Fb Z Z (by grind[X5,a1R,a3O,a3x,F8,d1,d2,t1,t2])
 ·refine Eu<|Cf<|Eq_<|Ew Z4<|Lf fo_Method_1 ty_Is Z (Hs (hb_m.has) 1 Z)<|Yln us_Is Z<|Em Z<|Eu<|E.block<|Lo (κ:=Nat) (λg=>g≤t8.length∧(t8.zip s8).all (a3x i7)=((t8.zip s8).drop g).all (a3x i7)) (λg=>[(2,.pointer<|some ⟨b_a,0,none⟩),(3,.pointer<|some ⟨b3,0,none⟩),(13,.slice F6 t8.length F5),(14,.int .i64 (↑t8.length:Int)),(15,.int .i64 (g:Int))]) (λg=>[pt b3 85 [.int .i64 o3,.slice C4 i7.length C3]]) (λg=>t8.length-g) 0 ⟨Nat.zero_le _,by simp⟩<|λg pg=>?_
  obtain ⟨pk,pa⟩:=pg
  refine Ew Z1<|Ylt Z<|l3 (λq16=>?_)<|λq16=>?_
  ·have hi1:=hi om t8[g] (List.getElem_mem om)
   refine Eu<|Eq_<|Ct<|Eq_<|E.block<|Ew Z5<|Em Z ?_
   obtain ⟨eb18,eo18,ea18,ei18,eh18⟩:=F4.elemI g om
   refine Il us_Is j8 Z ea18 g Z om Z (eh18 _)<|Ei Z<|Ei Z<|Eu<|Eq_<|D.region (λj=>true) mixed<|Df 0 1 fo_Fact_1 ty_Is Z (Hz m0 1 Z)<|Dm 2 Z ?_
   obtain ⟨eb23,eo23,ea23,ei23,eh23⟩:=z8.elemI t8[g].toNat om
   refine Dyp 3 Z (y6 us_Is j8 Z ea23 Z t8[g].toNat om om)<|Dy 4 Z (z7 j8 Z (eh23 _) Z)<|Df 5 6 fo_Access_1 ty_Is Z (Hs (hb_a.has) 1 Z)<|Dm 7 Z ?_
   obtain ⟨eb28,eo28,ea28,ei28,eh28⟩:=D9.elemI g om
   refine Dyp 8 Z (y6 us_Is j8 Z ea28 Z g Z om)<|Dy 9 Z (z7 j8 Z (eh28 _) Z)<|Dyp 10 Z (Y.neq Z Z)<|l3 (λq30=>?_)<|λq30=>?_
   ·refine o4 kr<|Et<|r9 Z<|Ew Z1<|Ei Z<|Eu<|E.ret<|v7<|a5h<|a5h<|v7<|a5h<|Fb Z Z (by grind[X5,a1R,a3O,a3x,F8,d1,d2,t1,t2])
   ·refine o4 kr<|Et<|r8 Z<|v6<|o6<|Et<|Ez Z2<|Yad Z om om<|Em Z ?_
    exact Eu<|u7 br (g+1) rs (.refl _) ⟨by omega,by grind[a1R,a3x,F8,d1,d2,t1,t2]⟩ om
  ·refine Eu<|Eq_<|r8 Z<|E.exit<|l2<|l2<|u4<|Et<|Ew Z1<|Ei Z<|Eu<|E.ret<|Fb Z Z (by grind[X5,a1R,a3O,a3x,F8,d1,d2,t1,t2])
theorem b0h {a_facts:Option Addr} {m_facts c_facts:Nat} {d6:List IL} (hv:t8.length≤N5.length) (hif:∀f∈d6,f.1=G5→∀i∈t8,0≤i∧i<f.2.length) (hfl:d6.length≤1048576) (hfe:∀f∈d6,f.2.length≤1048576):TL Tryz.prog 87 [.agg #[.int .i64 G5,.slice F6 H9 F5,.int .i64 D6,.int .i64 G4,.int .i64 D7],.slice a_values m_values c_values,.slice a_facts m_facts c_facts] (λw L=>I64 G5∧Ro w L eIs [.slice F6 H9 F5] t8∧I64 D6∧I64 G4∧I64 D7∧Ro w L eIs [.slice a_values m_values c_values] N5∧Ro w L t7 [.slice a_facts m_facts c_facts] d6) t7 (d6.filter (X5 (G5,t8,D6,G4,D7) N5)):=by
 refine Ti3 Tryz.func87 38 Z λw L hR=>?_
 obtain ⟨Y1,F4,R9,V1,S0,hvalues,hfacts⟩:=hR
 obtain ⟨rfl,a0p⟩:=F4.slen
 obtain ⟨rfl,lvalues⟩:=hvalues.slen
 obtain ⟨rfl,lfacts⟩:=hfacts.slen
 refine Ew Z2<|Est Z (N.box (cs:=[_,_,_,_,_]) Z dc Z)<|λb3 _=>Ei Z<|Ev Z2<|Est Z (Nb [] [] us_Facts ty_Fact Z Z)<|λb9 _=>Ent.drop<|Ei Z<|Eu<|Eq_<|Ew Z1<|Ei Z<|Eu<|E.block<|m8 (A:=[]) (Own.nil (E:=I3) (e:=tFact) (a:=(some ⟨b9,0,none⟩))) Z<|g9 (congrArg (ow t7 [_]) (show _=(d6.take 0).filter (X5 (G5,t8,D6,G4,D7) N5) from by first|rfl|(simp;done)|grind[d1,d2,t1,t2]))<|Lo (κ:=Nat×SL) (λg=>g.1≤d6.length∧True) (λg=>[(1,.slice a_values N5.length c_values),(2,.slice a_facts d6.length c_facts),(3,.pointer<|some ⟨b3,0,none⟩),(7,.slice g.2.1 g.2.2.1 g.2.2.2),(8,.int .i64 (↑g.1:Int))]) (λg=>[ow t7 [.slice g.2.1 g.2.2.1 g.2.2.2]<|(d6.take g.1).filter (X5 (G5,t8,D6,G4,D7) N5),pt b3 125 [.int .i64 G5,.slice F6 t8.length F5,.int .i64 D6,.int .i64 G4,.int .i64 D7]]) (λg=>d6.length-g.1) (0,(some ⟨b9,0,none⟩),0,0) ⟨Nat.zero_le _,by simp⟩<|λg pg=>?_
 obtain ⟨g,aA0_0,mA0_0,cA0_0⟩:=g
 try dsimp only at pg
 try dsimp only
 obtain ⟨pk,pa⟩:=pg
 have jf:=List.length_filter_le (X5 (G5,t8,D6,G4,D7) N5) (d6.take g)
 have jt:=List.length_take_le g d6
 refine f0 m0 ?_
 rintro rfl laA0_0
 refine Eq_<|Ew Z4<|Em Z<|Em Z<|Yln us_Facts Z<|Ylt Z<|l3 (λq13=>?_)<|λq13=>?_
 ·refine Eu<|Ct<|Eq_<|E.block<|Eq_<|D.region (λj=>true) mixed<|Dy 0 Z (l4 (cs:=[_,_,_,_,_]) ty_Method Z (Has.pt<|mS m0) Z)<|Dm 1 Z<|Dm 2 Z<|Dm 3 Z ?_
  obtain ⟨eb20,eo20,ec20,ea20,er20,el20,eh20⟩:=hfacts.elem g om
  obtain ⟨xa20_0,xc20_0,rfl,ei20_0,xh20_0⟩:=U2 er20
  have:=xh20_0.slen.2
  refine Dyp 4 Z (y6 us_Facts ty_Fact Z ea20 Z g Z om)<|Dy 5 Z (l4 (cs:=[_,_]) ty_Fact Z (eh20 _) Z)<|D0 6 Z (b3z hv<|hif _<|List.getElem_mem om) Z (λhA=>⟨Y1,hA.ro F4,R9,V1,S0,hA.ro hvalues,ei20_0,hA.ro xh20_0⟩)<|Ent.b (λq22=>?_)<|λq22=>?_
  ·refine o4 kr<|Et<|r9 Z<|D.region (λj=> !(Nat.beq j 13)) mixed<|Dm 0 Z<|Dm 1 Z<|Dm 2 Z<|Dyp 3 Z (y6 us_Facts ty_Fact Z ea20 Z g Z om)<|Df 4 5 fo_Fact_0 j8 Z (Hs (eh20 _) 0 Z)<|Dm 6 Z<|Dm 7 Z<|Dyp 8 Z (y6 us_Facts ty_Fact Z ea20 Z g Z om)<|Df 9 10 fo_Fact_1 ty_Is Z (Hs (eh20 _) 1 Z)<|w6 11 Z Z kr (λ_=>rfl) (N.call (T4<|hfe _<|List.getElem_mem om) Z Z Z dc Z<|λw Lp hA=>⟨ei20_0,hA.ro xh20_0⟩)<|λk34 _=>?_
   obtain ⟨a34,m34,c34⟩:=k34
   refine f0 m0 ?_
   rintro rfl l34
   refine w6 12 Z Z kr (λ_=>rfl) (Nb [_] [_,_] us_Facts ty_Fact Z Z)<|λb35 _=>d8<|d8<|i9<|w6 13 Z Z kr (λh=>by cases h) (w3 (E:=I3) (ex:=d6[g]) us_Facts ty_Fact Z Z Z (N3 (x:=d6[g]) ei20_0 Own.ow) Z bn bn dc)<|λp36 _=>Dyp 14 Z (E5 Z)<|o4 kr<|o6<|Et<|Ez Z3<|Em Z<|Yad Z om om<|Ei Z<|Eu<|g9 (congrArg (ow t7 [_]) (show _=(d6.take<|g+1).filter (X5 (G5,t8,D6,G4,D7) N5) from by grind[d1,d2,t1,t2]))<|d8<|d8 ?_
   exact Ea (g+1,p36.1,(((d6.take g).filter (X5 (G5,t8,D6,G4,D7) N5)).length+1),p36.2) ⟨oz,trivial⟩
  ·refine o4 kr<|Et<|r8 Z<|v6<|o6<|Et<|Ez Z3<|Em Z<|Yad Z om om<|Ei Z<|Eu<|g9 (congrArg (ow t7 [_]) (show _=(d6.take<|g+1).filter (X5 (G5,t8,D6,G4,D7) N5) from by grind[d1,d2,t1,t2]))<|d8<|d8 ?_
   exact Ea (g+1,aA0_0,_,cA0_0) ⟨oz,trivial⟩
 ·refine Eu<|r8 Z<|E.exit<|l2<|l2<|u4<|Et<|Ew Z2<|Em Z<|Ei Z<|Eu<|E.ret<|g9 (congrArg (ow t7 [_]) (show _=d6.filter (X5 (G5,t8,D6,G4,D7) N5) by grind[d1,d2,t1,t2]))<|Fg Z Z (_,_,_) Z Z
end Go.Proofs.YthapcdhdfaibkaaGreatDoor
end
