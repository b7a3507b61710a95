import Derived.Test.YthapcdhdfaibkaaGreatDoorT17
import Derived.Test.YthapcdhdfaibkaaGreatDoorT11
namespace Go.Proofs.YthapcdhdfaibkaaGreatDoor
open Go.RowKit
set_option linter.all false
set_option maxHeartbeats 2000000
attribute [local irreducible] Nop Yd Yp Ent Has Tr FnP FnP2 Src K8 Q7 R5 S1 E8
variable {f_g:FuncId} {c6 d6:List IL} {s l:List (List Int)} {x t d9:List Int} {f_c:List Value} {m_s c_s m_x c_x b_t m_t c_t m_l c_l u5 r6 s9 o0 m_facts c_facts:Nat} {a_s a_x a_t a_l r7 o1 a_facts:Option Addr}
theorem a5V {D_f:(List Int)→Prop} {f:(List Int)→Bool} (hD_f:∀x∈s,D_f x):Tr Tryz.prog 299 [.slice a_s m_s c_s,.func (.func f_g) #[] f_c.toArray] (λw L=>Ro w L D5 [.slice a_s m_s c_s] s∧FnP Tryz.prog w L f_g f_c eIs a7z D_f f) [] (κ:=Unit) (λk=>True) (λk=>.int .i64 (J0 f s)) (λk=>[]):=by
 refine Ti2 Tryz.func299 19 Z λw L hR=>?_
 obtain ⟨hs,hf⟩:=hR
 obtain ⟨rfl,ls⟩:=hs.slen
 refine Ew Z1<|Ei Z<|Eu<|Eq_<|Ew Z3<|Em Z<|Yln us_Iss Z<|Em Z<|Eu<|E.block<|Lo (κ:=Nat) (λg=>g≤s.length∧∀x∈s.take g,f x=false) (λg=>[(0,.slice a_s s.length c_s),(1,.func (.func f_g) #[] f_c.toArray),(7,.int .i64 (↑s.length:Int)),(8,.int .i64 (g:Int))]) (λg=>[]) (λg=>s.length-g) 0 ⟨by omega,by simp⟩<|λg pg=>?_
 obtain ⟨pk,pa⟩:=pg
 refine Ew Z1<|Ylt Z<|l3 (λq9=>?_)<|λq9=>?_
 ·refine Eu<|Eq_<|Ct<|Eq_<|E.block<|Ew Z2<|Em Z<|Ei Z<|Ev Z6<|Em Z<|Em Z<|Em Z ?_
  obtain ⟨eb14,eo14,ec14,ea14,er14,el14,eh14⟩:=hs.elem g om
  obtain ⟨xa14,xc14,rfl⟩:=er14.sl
  have:=er14.slen.2
  refine Il us_Iss ty_Is Z ea14 g Z om Z (eh14 _)<|Est Z (N.fn (cs:=[_]) hf Z Z Z dc (λw Lp hA=>hA.ro er14)<|hD_f _<|List.getElem_mem om)<|λ_ _=>Ent.b (λq16=>?_)<|λq16=>?_
  ·refine Eu<|r9 Z<|Ew Z2<|Em Z<|Ei Z<|Eu<|E.ret<|v7<|a5h<|a5h<|v7<|a5h<|Fg Z Z () (congrArg (Value.int .i64) (by first|exact P3 om pa q16|exact O4 om pa)) Z
  ·refine Eu<|r8 Z<|v6<|o6<|Et<|Ez Z2<|Yad Z om om<|Em Z ?_
   exact Eu<|u7 br (g+1) rs (.refl _) ⟨by omega,X3 om pa q16⟩ om
 ·refine Eu<|Eq_<|r8 Z<|E.exit<|l2<|l2<|u4<|Et<|Ew Z1<|Ei Z<|Eu<|E.ret<|Fg Z Z () (congrArg (Value.int .i64) (by first|exact P3 om pa q16|exact O4 om pa)) Z
theorem a9m {D_f:(List Int)→Prop} {f:(List Int)→Bool} (hD_f:∀x∈s,D_f x):TB Tryz.prog 224 [.slice a_s m_s c_s,.func (.func f_g) #[] f_c.toArray] (λw L=>Ro w L D5 [.slice a_s m_s c_s] s∧FnP Tryz.prog w L f_g f_c eIs a7z D_f f) (s.any f):=by
 refine Ti2 Tryz.func224 9 Z λw L hR=>?_
 obtain ⟨hs,hf⟩:=hR
 obtain ⟨rfl,ls⟩:=hs.slen
 refine Ew Z1<|Ei Z<|Ev Z5<|Em Z<|Em Z<|E0 Z (a5V (f:=f) (D_f:=D_f) hD_f) Z (λhA=>⟨hA.ro hs,hA.fn hf⟩)<|Ey Z ((Y.geq Z Z).yd)<|Ei Z<|Eu<|E.ret<|Fb Z Z (by exact W1)
theorem a9d:TB Tryz.prog 225 [.slice a_x m_x c_x,.pointer (some ⟨b_t,0,none⟩)] (λw L=>(Ro w L eIs [.slice a_x m_x c_x] x)∧RoPt w L b_t [.slice a_t m_t c_t]∧Ro w L eIs [.slice a_t m_t c_t] t) (decide (x=t)):=by
 refine Ti2 Tryz.func225 7 Z λw L hR=>?_
 obtain ⟨hx,hb_t,ht⟩:=hR
 obtain ⟨rfl,lx⟩:=hx.slen
 obtain ⟨rfl,lt⟩:=ht.slen
 refine Ew Z1<|Ei Z<|Ev Z4<|Em Z<|Ey Z (z7 ty_Is Z (hb_t.has) Z)<|E0 Z a1v Z (λhA=>⟨hA.ro hx,hA.ro ht⟩)<|Ei Z<|Eu<|E.ret<|Fg Z Z () Z Z
theorem b1h:TB Tryz.prog 114 [.slice a_l m_l c_l,.slice a_t m_t c_t] (λw L=>Ro w L D5 [.slice a_l m_l c_l] l∧Ro w L eIs [.slice a_t m_t c_t] t) (T5 l t):=by
 refine Ti2 Tryz.func114 8 Z λw L hR=>?_
 obtain ⟨hl,ht⟩:=hR
 obtain ⟨rfl,ll⟩:=hl.slen
 obtain ⟨rfl,lt⟩:=ht.slen
 refine Ew Z2<|Est Z (N.box (cs:=[_]) Z dc Z)<|λb3 _=>Ei Z<|Ev Z4<|Em Z<|Ey Z ((Y.fn (vs:=[_]) Z).yd)<|E0 Z (a9m (f:=(λx=>decide (x=t))) (D_f:=(λ_=>True)) (by intros;exact trivial)) Z (λhA=>⟨hA.ro hl,b5E (D:=(λ_=>True)) (λhd=>a9d)<|λw' hk=>⟨(hA.pt m0).keep hk,(hA.ro ht).keep hk⟩⟩)<|Ei Z<|Eu<|E.ret<|Fb Z Z (by grind[T5,d1,d2,t1,t2])
theorem a7u:TB Tryz.prog 300 [.slice a_x m_x c_x,.pointer (some ⟨b_t,0,none⟩)] (λw L=>(Ro w L eIs [.slice a_x m_x c_x] x)∧RoPt w L b_t [.slice a_t m_t c_t]∧Ro w L eIs [.slice a_t m_t c_t] t) (decide (0<I7 x t)):=by
 refine Ti2 Tryz.func300 8 Z λw L hR=>?_
 obtain ⟨hx,hb_t,ht⟩:=hR
 obtain ⟨rfl,lx⟩:=hx.slen
 obtain ⟨rfl,lt⟩:=ht.slen
 refine Ew Z1<|Ei Z<|Ev Z5<|Em Z<|Ey Z (z7 ty_Is Z (hb_t.has) Z)<|E0 Z a2w Z (λhA=>⟨hA.ro hx,hA.ro ht⟩)<|Ey Z ((Y.gtr Z Z).yd)<|Ei Z<|Eu<|E.ret<|Fg Z Z () Z Z
theorem a4v (hz:l.length≤1000000000000) (ht:t.length≤1048576):Tr Tryz.prog 201 [.slice a_l m_l c_l,.slice a_t m_t c_t] (λw L=>Ro w L eIs [.slice a_t m_t c_t] t) [ow D5 [.slice a_l m_l c_l] l] (κ:=SL) (λk=>True) (λk=>.slice k.1 k.2.1 k.2.2) (λk=>[ow D5 [.slice k.1 k.2.1 k.2.2] (K6 l t)]):=by
 refine Ti2 Tryz.func201 23 Z λw L hR=>?_
 have ht:=hR
 obtain ⟨rfl,lt⟩:=ht.slen
 refine f0 m0 ?_
 rintro rfl ll
 refine Ew Z2<|Est Z (N.box (cs:=[_]) Z dc Z)<|λb3 _=>Ei Z<|Eu<|Eq_<|Ew Z3<|Em Z<|Ey Z (z7 ty_Is Z (Has.pt m0) Z)<|E0 Z b1h Z (λhA=>⟨hA.ow<|mS m0,hA.ro ht⟩)<|Ent.b (λq8=>?_)<|λq8=>?_
 ·refine Eu<|r9 Z<|Ew Z2<|Em Z<|Ei Z<|Eu<|E.ret<|a5h<|d8<|g9 (congrArg (ow D5 [_]) (show _=K6 l t by grind[b0a,b0g]))<|Fg Z Z (_,_,_) Z Z
 ·refine Eu<|Cf<|Ew Z4<|Em Z<|Ey Z ((Y.fn (vs:=[_]) Z).yd) ?_
  have ji:=a3i (p:=λz=>decide (0<I7 z t)) (s:=l)
  refine E0 Z (a5V (f:=(λx=>decide (0<I7 x t))) (D_f:=(λ_=>True)) (by intros;exact trivial)) Z (λhA=>⟨hA.ow<|mS m0,b5E (D:=(λ_=>True)) (λhd=>a7u)<|λw' hk=>⟨(hA.pt m0).keep hk,(hA.ro ht).keep hk⟩⟩)<|Ei Z<|Eu<|Eq_<|Ew Z2<|Em Z<|Ylt Z<|l3 (λq14=>?_)<|λq14=>?_
  ·refine Eu<|r9 Z<|Ez Z3<|Em Z<|Yln us_Iss Z<|Ei Z<|Ev Z7<|Em Z<|Em Z<|Ey Z (z7 ty_Is Z (Has.pt m0) Z)<|El Z (a1g fc) Z (λhA=>hA.ro ht)<|λa20 c20 l20=>?_
   refine Est Z (Nb [_] [_] us_Iss ty_Is Z Z)<|λb21 _=>d8<|d8<|m8 (A:=_::_) (V2 (E:=eIs) (e:=tIs) Own.ow) Z<|i9<|Est Z (N.call (pre:=[_,_]) (a9r om (by simp) (by simp;omega)) Z Z Z dc Z tv)<|λk22 _=>?_
   obtain ⟨a22,m22,c22⟩:=k22
   refine f0 m0 ?_
   rintro rfl l22
   refine Ei Z<|Eu<|E.ret<|g9 (congrArg (ow D5 [_]) (show _=K6 l t by grind[b0a,b0g]))<|Fg Z Z (_,_,_) Z Z
  ·refine Eu<|Cf<|Ew Z7<|Em Z<|Em Z<|Ey Z (z7 ty_Is Z (Has.pt m0) Z)<|El Z (a1g fc) Z (λhA=>hA.ro ht)<|λa20 c20 l20=>?_
   refine Est Z (Nb [_] [_] us_Iss ty_Is Z Z)<|λb21 _=>d8<|d8<|m8 (A:=_::_) (V2 (E:=eIs) (e:=tIs) Own.ow) Z<|i9<|Est Z (N.call (pre:=[_,_]) (a9r om (by simp) (by simp;omega)) Z Z Z dc Z tv)<|λk22 _=>?_
   obtain ⟨a22,m22,c22⟩:=k22
   refine f0 m0 ?_
   rintro rfl l22
   refine Ei Z<|Eu<|E.ret<|g9 (congrArg (ow D5 [_]) (show _=K6 l t by grind[b0a,b0g]))<|Fg Z Z (_,_,_) Z Z
theorem b3B {a_a:Option Addr} {m_a c_a:Nat} {a:List Int} {a_b:Option Addr} {m_b c_b:Nat} {b:List Int}:TB Tryz.prog 245 [.slice a_a m_a c_a,.slice a_b m_b c_b] (λw L=>Ro w L eIs [.slice a_a m_a c_a] a∧Ro w L eIs [.slice a_b m_b c_b] b) (ltT a b):=by
 refine Ti2 Tryz.func245 41 Z λw L hR=>?_
 obtain ⟨ha,hb⟩:=hR
 obtain ⟨rfl,la⟩:=ha.slen
 obtain ⟨rfl,lb⟩:=hb.slen
 refine Ew Z1<|Ei Z<|Eu<|Eq_<|Ew Z1<|Ei Z<|Eu<|E.block<|Lo (κ:=Nat) (λg=>g≤a.length∧g≤b.length∧I7 a b=I7 (a.drop g) (b.drop g)) (λg=>[(0,.slice a_a a.length c_a),(1,.slice a_b b.length c_b),(5,.int .i64 (g:Int))]) (λg=>[]) (λg=>a.length-g) 0 ⟨Nat.zero_le _,by simp⟩<|λg pg=>?_
 obtain ⟨pk,pa⟩:=pg
 refine Eq_<|Ew Z10<|Em Z<|Em Z<|Yln us_Is Z<|Ylt Z<|l3 (λq9=>?_)<|λq9=>?_
 ·refine Em Z<|Em Z<|Em Z<|Yln us_Is Z<|Ylt Z<|l3 (λq14=>?_)<|λq14=>?_
  ·refine Ypt Z<|Eu<|Ct<|Eq_<|E.block<|Eq_<|D.region (λj=>true) mixed<|Dm 0 Z<|Dm 1 Z ?_
   obtain ⟨eb20,eo20,ea20,ei20,eh20⟩:=ha.elemI g om
   refine Dyp 2 Z (y6 us_Is j8 Z ea20 Z g Z om)<|Dy 3 Z (z7 j8 Z (eh20 _) Z)<|Dm 4 Z<|Dm 5 Z ?_
   obtain ⟨eb24,eo24,ea24,ei24,eh24⟩:=hb.elemI g om
   refine Dyp 6 Z (y6 us_Is j8 Z ea24 Z g Z om)<|Dy 7 Z (z7 j8 Z (eh24 _) Z)<|Dyp 8 Z (Y.neq Z Z)<|l3 (λq26=>?_)<|λq26=>?_
   ·refine o4 kr<|Et<|r9 Z<|Eq_<|D.region (λj=>true) mixed<|Dm 0 Z<|Dm 1 Z<|Dyp 2 Z (y6 us_Is j8 Z ea20 Z g Z om)<|Dy 3 Z (z7 j8 Z (eh20 _) Z)<|Dm 4 Z<|Dm 5 Z<|Dyp 6 Z (y6 us_Is j8 Z ea24 Z g Z om)<|Dy 7 Z (z7 j8 Z (eh24 _) Z)<|Dyp 8 Z (Y.lss Z Z)<|Dyp 9 Z (E5 Z)<|o4 kr<|Et<|E.ret<|v7<|a5h<|a5h<|v7<|a5h<|Fb Z Z (by grind[ltT,I7,S2,d1,d2,t1,t2])
   ·refine o4 kr<|Et<|r8 Z<|v6<|o6<|Et<|Ez Z3<|Em Z<|Yad Z om om<|Ei Z ?_
    exact Eu<|u7 br (g+1) rs (.refl _) ⟨by omega,by grind[I7,S2,d1,d2,t1,t2]⟩ om
  ·refine Ypt Z<|Eu<|r8 Z<|E.exit<|l2<|l2<|u4<|Et<|Ew Z6<|Em Z<|Yln us_Is Z<|Em Z<|Yln us_Is Z<|Ylt Z<|Ei Z<|Eu<|E.ret<|Fb Z Z (by grind[ltT,I7,S2,d1,d2,t1,t2])
 ·refine Em Z<|Es Z<|Es Z<|Es Z<|Es Z<|Ypf Z<|Eu<|r8 Z<|E.exit<|l2<|l2<|u4<|Et<|Ew Z6<|Em Z<|Yln us_Is Z<|Em Z<|Yln us_Is Z<|Ylt Z<|Ei Z<|Eu<|E.ret<|Fb Z Z (by grind[ltT,I7,S2,d1,d2,t1,t2])
theorem a5p (hz:l.length≤1000000000000) (hyl:∀x∈l,x.length≤1048576) (ht:t.length≤1048576):TL Tryz.prog 139 [.slice a_l m_l c_l,.slice a_t m_t c_t] (λw L=>Ro w L D5 [.slice a_l m_l c_l] l∧Ro w L eIs [.slice a_t m_t c_t] t) D5 (K6 l t):=by
 refine Ti2 Tryz.func139 65 Z λw L hR=>?_
 obtain ⟨hl,ht⟩:=hR
 obtain ⟨rfl,ll⟩:=hl.slen
 obtain ⟨rfl,lt⟩:=ht.slen
 refine Ew Z1<|Ei Z<|Ev Z2<|Est Z (Nb [] [] us_Iss ty_Is Z Z)<|λb9 _=>Ent.drop<|Ei Z<|Ev Z1<|Ei Z<|Eu<|Eq_<|Ew Z1<|Ei Z<|Eu<|E.block<|E.loop (κ:=Nat) (λg=>g≤l.length∧True) (λg=>[(0,.slice a_l l.length c_l),(1,.slice a_t t.length c_t),(5,.slice (some ⟨b9,0,none⟩) 0 0),(6,.bool<|(l.take g).any λx=>decide (x=t)),(7,.int .i64 (g:Int))]) (λg=>[]) (λg=>l.length-g) (0) ⟨Nat.zero_le _,by simp⟩ ⟨Z,Z,Z,frB (by first|rfl|(simp;done)|grind[K6,G2,G3,H7,H8,T5,d1,d2,t1,t2]),Z,trivial⟩ (.refl _)<|λg pg=>?_
 try dsimp only
 obtain ⟨pk,pa⟩:=pg
 refine Eq_<|Ew Z4<|Em Z<|Em Z<|Yln us_Iss Z<|Ylt Z<|l3 (λq13=>?_)<|λq13=>?_
 ·refine Eu<|Ct<|Eq_<|E.block<|Ez Z10<|Em Z<|Ent.b (λq16=>?_)<|λq16=>?_
  ·refine Em Z<|Es Z<|Es Z<|Es Z<|Es Z<|Es Z<|Es Z<|Ypt Z<|Ei Z<|En<|o6<|Et<|Ez Z3<|Em Z<|Yad Z om om<|Ei Z ?_
   exact Eu<|u7 br (g+1) ⟨Z,Z,Z,frB (by grind[K6,G2,G3,H7,H8,T5,d1,d2,t1,t2]),Z,trivial⟩ (.refl _) ⟨oz,trivial⟩ oz
  ·refine Em Z<|Em Z<|Em Z ?_
   obtain ⟨eb20,eo20,ec20,ea20,er20,el20,eh20⟩:=hl.elem g om
   obtain ⟨xa20,xc20,rfl⟩:=er20.sl
   have:=er20.slen.2
   refine Il us_Iss ty_Is Z ea20 g Z om Z (eh20 _)<|Em Z<|E0 Z a2b Z (λhA=>⟨hA.ro er20,hA.ro ht⟩)<|Ypf Z<|Ei Z<|Ent.b (λq6=>?_)<|λq6=>?_
   ·refine En<|o6<|Et<|Ez Z3<|Em Z<|Yad Z om om<|Ei Z ?_
    exact Eu<|u7 br (g+1) ⟨Z,Z,Z,frB (by grind[K6,G2,G3,H7,H8,T5,d1,d2,t1,t2]),Z,trivial⟩ (.refl _) ⟨oz,trivial⟩ oz
   ·refine En<|o6<|Et<|Ez Z3<|Em Z<|Yad Z om om<|Ei Z ?_
    exact Eu<|u7 br (g+1) ⟨Z,Z,Z,frB (by grind[K6,G2,G3,H7,H8,T5,d1,d2,t1,t2]),Z,trivial⟩ (.refl _) ⟨oz,trivial⟩ oz
 ·refine Eu<|r8 Z<|E.exit<|l2<|l2<|u4<|Et<|Eq_<|Ew Z1<|Ei Z<|Eu<|E.block<|m8 (A:=[]) (Own.nil (E:=eIs) (e:=tIs) (a:=(some ⟨b9,0,none⟩))) Z<|g9 (congrArg (ow D5 [_]) (show _=addS (T5 l t) (ltT t) t (l.take 0) from by first|rfl|(simp;done)|grind[K6,G2,G3,H7,H8,T5,d1,d2,t1,t2]))<|E.loop (κ:=Nat×SL) (λg=>g.1≤l.length∧True) (λg=>[(0,.slice a_l l.length c_l),(1,.slice a_t t.length c_t),(5,.slice g.2.1 g.2.2.1 g.2.2.2),(6,.bool<|T5 l t||(l.take g.1).any (ltT t)),(8,.int .i64 (↑g.1:Int))]) (λg=>[ow D5 [.slice g.2.1 g.2.2.1 g.2.2.2]<|addS (T5 l t) (ltT t) t<|l.take g.1]) (λg=>l.length-g.1) (0,(some ⟨b9,0,none⟩),0,0) ⟨Nat.zero_le _,by simp⟩ ⟨Z,Z,Z,frB (by first|rfl|(simp;done)|grind[K6,G2,G3,H7,H8,T5,d1,d2,t1,t2]),Z,trivial⟩ (.refl _)<|λg pg=>?_
  obtain ⟨g,aA1_0,mA1_0,cA1_0⟩:=g
  try dsimp only at pg
  try dsimp only
  obtain ⟨pk,pa⟩:=pg
  have jp:=List.length_take_le g l
  have ji:=a9N (h:=T5 l t) (p:=(ltT t)) (f:=t) (l:=l.take g)
  refine f0 m0 ?_
  rintro rfl laA1_0
  refine Eq_<|Ew Z4<|Em Z<|Em Z<|Yln us_Iss Z<|Ylt Z<|l3 (λq28=>?_)<|λq28=>?_
  ·have jy1:=hyl l[g] (List.getElem_mem om)
   refine Eu<|Ct<|Eq_<|E.block<|Eq_<|Ew Z10<|Em Z<|Ent.b (λq31=>?_)<|λq31=>?_
   ·refine Yno true Z<|Em Z<|Es Z<|Es Z<|Es Z<|Es Z<|Es Z<|Es Z<|Ypf Z<|Eu<|Cf<|Ez Z10<|Em Z<|Est Z (Nb [] [] us_Is j8 Z Z)<|λb48 _=>Ent.drop<|Em Z<|Em Z ?_
    obtain ⟨eb51,eo51,ec51,ea51,er51,el51,eh51⟩:=hl.elem g om
    obtain ⟨xa51,xc51,rfl⟩:=er51.sl
    have:=er51.slen.2
    refine Il us_Iss ty_Is Z ea51 g Z om Z (eh51 _)<|Est Z (M9 (E:=Enc.int) Plain.int us_Is j8 Z Z Z er51 bn bn dc)<|λp53 _=>Est Z (Nb [_] [_] us_Iss ty_Is Z Z)<|λb54 _=>d8<|d8<|i9<|Est Z (w3 (E:=eIs) (ex:=l[g]) us_Iss ty_Is Z Z Z Own.ow Z bn bn dc)<|λp55 _=>Ei Z<|En<|o6<|Et<|Ez Z3<|Em Z<|Yad Z om om<|Ei Z<|Eu<|g9 (congrArg (ow D5 [_]) (show _=addS (T5 l t) (ltT t) t (l.take<|g+1) from by grind[K6,G2,G3,H7,H8,T5,d1,d2,t1,t2])) ?_
    exact u7 br (g+1,p55.1,((addS (T5 l t) (ltT t) t<|l.take g).length+1),p55.2) ⟨Z,Z,Z,frB (by grind[K6,G2,G3,H7,H8,T5,d1,d2,t1,t2]),Z,trivial⟩ (.refl _) ⟨oz,trivial⟩ oz
   ·refine Yno false Z<|Em Z<|Em Z<|Em Z<|Em Z ?_
    obtain ⟨eb37,eo37,ec37,ea37,er37,el37,eh37⟩:=hl.elem g om
    obtain ⟨xa37,xc37,rfl⟩:=er37.sl
    have:=er37.slen.2
    refine Il us_Iss ty_Is Z ea37 g Z om Z (eh37 _)<|E0 Z b3B Z (λhA=>⟨hA.ro ht,hA.ro er37⟩)<|Ent.b (λq39=>?_)<|λq39=>?_
    ·refine Ypt Z<|Eu<|r9 Z<|Ew Z7<|Em Z<|Est Z (Nb [] [] us_Is j8 Z Z)<|λb42 _=>Ent.drop<|Em Z<|Est Z (M9 (E:=Enc.int) Plain.int us_Is j8 Z Z Z ht bn bn dc)<|λp44 _=>Est Z (Nb [_] [_] us_Iss ty_Is Z Z)<|λb45 _=>d8<|d8<|i9<|Est Z (w3 (E:=eIs) (ex:=t) us_Iss ty_Is Z Z Z Own.ow Z bn bn dc)<|λp46 _=>Ei Z<|Eu<|Ez Z1<|Ei Z<|Eu<|Ez Z10<|Em Z<|Est Z (Nb [] [] us_Is j8 Z Z)<|λb48 _=>Ent.drop<|Em Z<|Em Z<|Il us_Iss ty_Is Z ea37 g Z om Z (eh37 _)<|Est Z (M9 (E:=Enc.int) Plain.int us_Is j8 Z Z Z er37 bn bn dc)<|λp53 _=>Est Z (Nb [_] [_] us_Iss ty_Is Z Z)<|λb54 _=>d8<|d8<|i9<|Est Z (w3 (E:=eIs) (ex:=l[g]) us_Iss ty_Is Z Z Z Own.ow Z bn bn dc)<|λp55 _=>Ei Z<|En<|o6<|Et<|Ez Z3<|Em Z<|Yad Z om om<|Ei Z<|Eu<|g9 (congrArg (ow D5 [_]) (show _=addS (T5 l t) (ltT t) t (l.take<|g+1) from by grind[K6,G2,G3,H7,H8,T5,d1,d2,t1,t2])) ?_
     exact u7 br (g+1,p55.1,(((addS (T5 l t) (ltT t) t<|l.take g).length+1)+1),p55.2) ⟨Z,Z,Z,frB (by grind[K6,G2,G3,H7,H8,T5,d1,d2,t1,t2]),Z,trivial⟩ (.refl _) ⟨oz,trivial⟩ oz
    ·refine Ypt Z<|Eu<|Cf<|Ez Z10<|Em Z<|Est Z (Nb [] [] us_Is j8 Z Z)<|λb48 _=>Ent.drop<|Em Z<|Em Z<|Il us_Iss ty_Is Z ea37 g Z om Z (eh37 _)<|Est Z (M9 (E:=Enc.int) Plain.int us_Is j8 Z Z Z er37 bn bn dc)<|λp53 _=>Est Z (Nb [_] [_] us_Iss ty_Is Z Z)<|λb54 _=>d8<|d8<|i9<|Est Z (w3 (E:=eIs) (ex:=l[g]) us_Iss ty_Is Z Z Z Own.ow Z bn bn dc)<|λp55 _=>Ei Z<|En<|o6<|Et<|Ez Z3<|Em Z<|Yad Z om om<|Ei Z<|Eu<|g9 (congrArg (ow D5 [_]) (show _=addS (T5 l t) (ltT t) t (l.take<|g+1) from by grind[K6,G2,G3,H7,H8,T5,d1,d2,t1,t2])) ?_
     exact u7 br (g+1,p55.1,((addS (T5 l t) (ltT t) t<|l.take g).length+1),p55.2) ⟨Z,Z,Z,frB (by grind[K6,G2,G3,H7,H8,T5,d1,d2,t1,t2]),Z,trivial⟩ (.refl _) ⟨oz,trivial⟩ oz
  ·refine Eu<|r8 Z<|E.exit<|l2<|l2<|u4<|Et<|Eq_<|Ew Z2<|Em Z<|Ent.b (λq56=>?_)<|λq56=>?_
   ·refine Yno true Z<|Eu<|Cf<|Ew Z2<|Em Z<|Ei Z<|Eu<|E.ret<|g9 (congrArg (ow D5 [_]) (show _=K6 l t by grind[K6,G2,G3,H7,H8,T5,d1,d2,t1,t2]))<|Fg Z Z (_,_,_) Z Z
   ·refine Yno false Z<|Eu<|r9 Z<|Ez Z7<|Em Z<|Est Z (Nb [] [] us_Is j8 Z Z)<|λb59 _=>Ent.drop<|Em Z<|Est Z (M9 (E:=Enc.int) Plain.int us_Is j8 Z Z Z ht bn bn dc)<|λp61 _=>Est Z (Nb [_] [_] us_Iss ty_Is Z Z)<|λb62 _=>d8<|d8<|i9<|Est Z (w3 (E:=eIs) (ex:=t) us_Iss ty_Is Z Z Z Own.ow Z bn bn dc)<|λp63 _=>Ei Z<|Ev Z2<|Em Z<|Ei Z<|Eu<|E.ret<|g9 (congrArg (ow D5 [_]) (show _=K6 l t by grind[K6,G2,G3,H7,H8,T5,d1,d2,t1,t2]))<|Fg Z Z (_,_,_) Z Z
theorem a5J {l:List (List Int×List Int)} (hqh:d9.length≤1048576) (hz:l.length≤1000000000000):TL Tryz.prog 80 [.agg #[.slice r7 u5 r6,.slice o1 s9 o0],.slice a_l m_l c_l] (λw L=>Ro w L eIs [.slice r7 u5 r6] d9∧Ro w L v8 [.slice o1 s9 o0] c6∧Ro w L B0 [.slice a_l m_l c_l] l) D5 (U0 d9 l):=by
 refine Ti2 Tryz.func80 22 Z λw L hR=>?_
 obtain ⟨s7,o2,hl⟩:=hR
 obtain ⟨rfl,I8⟩:=s7.slen
 obtain ⟨rfl,G9⟩:=o2.slen
 obtain ⟨rfl,ll⟩:=hl.slen
 have jv:=b6X hl
 have jw:=s7.i64
 refine Ew Z2<|Est Z (N.box (cs:=[_,_]) Z dc Z)<|λb2 _=>Ei Z<|Ev Z2<|Est Z (Nb [] [] us_Iss ty_Is Z Z)<|λb8 _=>Ent.drop<|Ei Z<|Eu<|Eq_<|Ew Z3<|Em Z<|Yln us_Bindings Z<|Em Z<|Eu<|E.block<|m8 (A:=[]) (Own.nil (E:=eIs) (e:=tIs) (a:=(some ⟨b8,0,none⟩))) Z<|g9 (congrArg (ow D5 [_]) (show _=U0 d9 (l.take 0) from by first|rfl|(simp;done)|grind[a3g,a2s,d1,d2,t1,t2]))<|Lo (κ:=Nat×SL) (λg=>g.1≤l.length∧True) (λg=>[(2,.pointer<|some ⟨b2,0,none⟩),(5,.slice g.2.1 g.2.2.1 g.2.2.2),(9,.slice a_l l.length c_l),(10,.int .i64 (↑l.length:Int)),(11,.int .i64 (↑g.1:Int))]) (λg=>[ow D5 [.slice g.2.1 g.2.2.1 g.2.2.2]<|U0 d9<|l.take g.1,pt b2 28 [.slice r7 d9.length r6,.slice o1 c6.length o0]]) (λg=>l.length-g.1) (0,(some ⟨b8,0,none⟩),0,0) ⟨Nat.zero_le _,by simp⟩<|λg pg=>?_
 obtain ⟨g,aA0_0,mA0_0,cA0_0⟩:=g
 try dsimp only at pg
 try dsimp only
 obtain ⟨pk,pa⟩:=pg
 have jp:=List.length_take_le g l
 have jn:=a8P (h:=d9) (l:=l.take g)
 have je:=b1a (h:=d9) (l:=l.take g)
 refine f0 m0 ?_
 rintro rfl laA0_0
 refine Ew Z1<|Ylt Z<|l3 (λq12=>?_)<|λq12=>?_
 ·obtain ⟨eb13,eo13,ec13,ea13,er13,el13,eh13⟩:=hl.elem g om
  obtain ⟨xa13_0,xc13_0,xa13_1,xc13_1,rfl,xh13_0,xh13_1⟩:=a4g er13
  have:=xh13_0.slen.2
  have:=xh13_1.slen.2
  refine Eu<|Eq_<|Ct<|Eq_<|E.block<|Ew Z4<|Ix us_Bindings ty_Binding Z ea13 g Z om<|Ey Z (l4 (cs:=[_,_]) ty_Binding Z (eh13 _) Z)<|Est Z (N.alloc ty_Binding dc)<|λb7 _=>Est Z (Ns [_,_] ty_Binding Z)<|λ_ _=>Eu<|Ez Z6<|Em Z<|Ey Z (l4 (cs:=[_,_]) ty_Query Z (Has.pt<|mS<|mS m0) Z)<|Ey Z (l4 (cs:=[_,_]) ty_Binding Z (Has.pt m0) Z)<|El Z (a2L (by first|omega|assumption|(simp;omega))) Z (λhA=>⟨hA.ro s7,hA.ro o2,hA.ro xh13_0,hA.ro xh13_1⟩)<|λa18 c18 l18=>?_
  refine i9<|Est Z (N.call (pre:=[_]) (a4v (by first|omega|assumption|(simp;omega)) (by first|omega|assumption|(simp;omega))) Z Z Z dc Z<|λw Lp hA=>hA.ow m0)<|λk19 _=>?_
  obtain ⟨a19,m19,c19⟩:=k19
  refine f0 m0 ?_
  rintro rfl l19
  refine Ei Z<|En<|o6<|Et<|Ez Z2<|Yad Z om om<|Em Z<|Eu<|d8<|Ent.drop<|d8<|Ent.drop<|g9 (congrArg (ow D5 [_]) (show _=U0 d9 (l.take<|g+1) from by grind[a3g,a2s,d1,d2,t1,t2]))<|d8<|d8 ?_
  exact Ea (g+1,a19,_,c19) ⟨oz,trivial⟩
 ·refine Eu<|Eq_<|r8 Z<|E.exit<|l2<|l2<|u4<|Et<|Ew Z2<|Em Z<|Ei Z<|Eu<|E.ret<|g9 (congrArg (ow D5 [_]) (show _=U0 d9 l by grind[a3g,a2s,d1,d2,t1,t2]))<|Fg Z Z (_,_,_) Z Z
theorem a5l {l:List (List Int×List Int)} (hqh:d9.length≤1048576) (hz:l.length≤1000000000000):TL Tryz.prog 89 [.agg #[.slice r7 u5 r6,.slice o1 s9 o0],.slice a_l m_l c_l] (λw L=>Ro w L eIs [.slice r7 u5 r6] d9∧Ro w L v8 [.slice o1 s9 o0] c6∧Ro w L B0 [.slice a_l m_l c_l] l) D5 (U0 d9 l):=by
 refine Ti2 Tryz.func89 41 Z λw L hR=>?_
 obtain ⟨s7,o2,hl⟩:=hR
 obtain ⟨rfl,I8⟩:=s7.slen
 obtain ⟨rfl,G9⟩:=o2.slen
 obtain ⟨rfl,ll⟩:=hl.slen
 have jv:=b6X hl
 have jw:=s7.i64
 refine Ew Z2<|Est Z (N.box (cs:=[_,_]) Z dc Z)<|λb2 _=>Ei Z<|Ev Z2<|Est Z (Nb [] [] us_Iss ty_Is Z Z)<|λb9 _=>Ent.drop<|Ei Z<|Eu<|Eq_<|Ew Z1<|Ei Z<|Eu<|E.block<|m8 (A:=[]) (Own.nil (E:=eIs) (e:=tIs) (a:=(some ⟨b9,0,none⟩))) Z<|g9 (congrArg (ow D5 [_]) (show _=U0 d9 (l.take 0) from by first|rfl|(simp;done)|grind[a3g,a2s,d1,d2,t1,t2]))<|Lo (κ:=Nat×SL) (λg=>g.1≤l.length∧True) (λg=>[(1,.slice a_l l.length c_l),(2,.pointer<|some ⟨b2,0,none⟩),(5,.slice g.2.1 g.2.2.1 g.2.2.2),(6,.int .i64 (↑g.1:Int))]) (λg=>[ow D5 [.slice g.2.1 g.2.2.1 g.2.2.2]<|U0 d9<|l.take g.1,pt b2 28 [.slice r7 d9.length r6,.slice o1 c6.length o0]]) (λg=>l.length-g.1) (0,(some ⟨b9,0,none⟩),0,0) ⟨Nat.zero_le _,by simp⟩<|λg pg=>?_
 obtain ⟨g,aA0_0,mA0_0,cA0_0⟩:=g
 try dsimp only at pg
 try dsimp only
 obtain ⟨pk,pa⟩:=pg
 have jp:=List.length_take_le g l
 have jn:=a8P (h:=d9) (l:=l.take g)
 have je:=b1a (h:=d9) (l:=l.take g)
 refine f0 m0 ?_
 rintro rfl laA0_0
 refine Eq_<|Ew Z4<|Em Z<|Em Z<|Yln us_Bindings Z<|Ylt Z<|l3 (λq13=>?_)<|λq13=>?_
 ·refine Eu<|Ct<|Eq_<|E.block<|Ew Z2<|Est Z (Nb [] [] us_Is j8 Z Z)<|λb16 _=>Ent.drop<|Ei Z<|Eu<|Eq_<|Ew Z1<|Ei Z<|Eu<|E.block<|m8 (A:=[]) (Own.nil (E:=Enc.int) (e:=tI) (a:=(some ⟨b16,0,none⟩))) Z<|g9 (congrArg (ow eIs [_]) (show _=(d9.take 0).map (y9 l[g]) from by first|rfl|(simp;done)|grind[a3g,a2s,d1,d2,t1,t2]))<|Lo (κ:=Nat×SL) (λh=>h.1≤d9.length∧True) (λh=>[(1,.slice a_l l.length c_l),(2,.pointer<|some ⟨b2,0,none⟩),(5,.slice aA0_0 (U0 d9<|l.take g).length cA0_0),(6,.int .i64 (g:Int)),(7,.slice h.2.1 h.2.2.1 h.2.2.2),(8,.int .i64 (↑h.1:Int))]) (λh=>[ow eIs [.slice h.2.1 h.2.2.1 h.2.2.2]<|(d9.take h.1).map (y9 l[g]),ow D5 [.slice aA0_0 (U0 d9<|l.take g).length cA0_0]<|U0 d9<|l.take g,pt b2 28 [.slice r7 d9.length r6,.slice o1 c6.length o0]]) (λh=>d9.length-h.1) (0,(some ⟨b16,0,none⟩),0,0) ⟨Nat.zero_le _,by simp⟩<|λh ph=>?_
  obtain ⟨h,aA1_0,mA1_0,cA1_0⟩:=h
  try dsimp only at ph
  try dsimp only
  obtain ⟨pk,pa⟩:=ph
  refine f0 m0 ?_
  rintro rfl laA1_0
  refine Eq_<|Ew Z5<|Em Z<|Lz fo_Query_0 ty_Is Z (mS<|mS m0) Z<|Yln us_Is Z<|Ylt Z<|l3 (λq21=>?_)<|λq21=>?_
  ·have jx:=a6Y (b:=l[g]) (jw d9[h] (List.getElem_mem om)) (jv l[g] (List.getElem_mem om)).2
   refine Eu<|Ct<|Eq_<|E.block<|D.region (λj=> !(Nat.beq j 12)) mixed<|Dm 0 Z<|Dm 1 Z<|Dm 2 Z ?_
   obtain ⟨eb27,eo27,ec27,ea27,er27,el27,eh27⟩:=hl.elem g om
   obtain ⟨xa27_0,xc27_0,xa27_1,xc27_1,rfl,xh27_0,xh27_1⟩:=a4g er27
   have:=xh27_0.slen.2
   have:=xh27_1.slen.2
   refine Dyp 3 Z (y6 us_Bindings ty_Binding Z ea27 Z g Z om)<|Dy 4 Z (l4 (cs:=[_,_]) ty_Binding Z (eh27 _) Z)<|Df 5 6 fo_Query_0 ty_Is Z (Hz (mS<|mS m0) 0 Z)<|Dm 7 Z ?_
   obtain ⟨eb32,eo32,ea32,ei32,eh32⟩:=s7.elemI h om
   refine Dyp 8 Z (y6 us_Is j8 Z ea32 Z h Z om)<|Dy 9 Z (z7 j8 Z (eh32 _) Z)<|D0 10 Z a2F Z (λhA=>⟨hA.ro xh27_0,hA.ro xh27_1⟩)<|w6 11 Z Z kr (λ_=>rfl) (Nb [_] [_] us_Is j8 Z Z)<|λb35 _=>d8<|w6 12 Z Z kr (λh=>by cases h) (w3 (E:=Enc.int) (ex:=y9 l[g] d9[h]) us_Is j8 Z Z Z (Own.int i6) Z bn bn dc)<|λp36 _=>Dyp 13 Z (E5 Z)<|o4 kr<|o6<|Et<|Ez Z3<|Em Z<|Yad Z om om<|Ei Z<|Eu<|g9 (congrArg (ow eIs [_]) (show _=(d9.take<|h+1).map (y9 l[g]) from by grind[a3g,a2s,d1,d2,t1,t2]))<|i9<|i9<|i9 ?_
   exact Ea (h+1,p36.1,(((d9.take h).map (y9 l[g])).length+1),p36.2) ⟨oz,trivial⟩
  ·refine Eu<|r8 Z<|E.exit<|l2<|l2<|u4<|Et<|Ez Z4<|Em Z<|Em Z<|El Z (a5p (by first|omega|assumption|(simp;omega)) (λx hx=>Nat.le_trans (je x hx) hqh) (by first|omega|assumption|(simp;omega))) Z (λhA=>⟨hA.ow<|mS m0,hA.ow m0⟩)<|λa39 c39 l39=>Ei Z<|En<|o6<|Et<|Ez Z3<|Em Z<|Yad Z om om<|Ei Z<|Eu<|d8<|Ent.drop<|d8<|Ent.drop<|g9 (congrArg (ow D5 [_]) (show _=U0 d9 (l.take<|g+1) from by grind[a3g,a2s,d1,d2,t1,t2]))<|d8<|d8 ?_
   exact Ea (g+1,a39,_,c39) ⟨oz,trivial⟩
 ·refine Eu<|r8 Z<|E.exit<|l2<|l2<|u4<|Et<|Ew Z2<|Em Z<|Ei Z<|Eu<|E.ret<|g9 (congrArg (ow D5 [_]) (show _=U0 d9 l by grind[a3g,a2s,d1,d2,t1,t2]))<|Fg Z Z (_,_,_) Z Z
theorem b1U (hqa:c6.length≤4) (hqt:∀a∈c6,a.2.length≤3) (hf:∀a∈c6,Few a d6) (hqh:d9.length≤3):TL Tryz.prog 131 [.agg #[.slice r7 u5 r6,.slice o1 s9 o0],.slice a_facts m_facts c_facts] (λw L=>Ro w L eIs [.slice r7 u5 r6] d9∧Ro w L v8 [.slice o1 s9 o0] c6∧Ro w L t7 [.slice a_facts m_facts c_facts] d6) D5 (U0 d9 (B1 c6 d6)):=by
 refine Ti2 Tryz.func131 10 Z λw L hR=>?_
 obtain ⟨s7,o2,hfacts⟩:=hR
 obtain ⟨rfl,I8⟩:=s7.slen
 obtain ⟨rfl,G9⟩:=o2.slen
 obtain ⟨rfl,lfacts⟩:=hfacts.slen
 have jb:=b1b (d6:=d6) hf hqa hqt
 refine Ew Z2<|Est Z (N.box (cs:=[_,_]) Z dc Z)<|λb2 _=>Ei Z<|Eu<|Eq_<|D.region (λj=>true) mixed<|Dy 0 Z (l4 (cs:=[_,_]) ty_Query Z (Has.pt m0) Z)<|Dy 1 Z (l4 (cs:=[_,_]) ty_Query Z (Has.pt m0) Z)<|Dm 2 Z<|Dl 3 Z (a4z fc fc fc) Z (λhA=>⟨hA.ro s7,hA.ro o2,hA.ro hfacts⟩)<|λa8 c8 l8=>Dl 4 Z (a5J fc fc) Z (λhA=>⟨hA.ro s7,hA.ro o2,hA.ow m0⟩)<|λa9 c9 l9=>Dyp 5 Z (E5 Z)<|o4 kr<|Et<|E.ret<|Fg Z Z (_,_,_) Z Z
theorem b9R {s:List Int} (hz:D8 (λx=>x.2.length) c6≤1048576):TL Tryz.prog 18 [.slice a_s m_s c_s,.agg #[.slice r7 u5 r6,.slice o1 s9 o0],.slice a_facts m_facts c_facts] (λw L=>Ro w L eIs [.slice a_s m_s c_s] s∧Ro w L eIs [.slice r7 u5 r6] d9∧Ro w L v8 [.slice o1 s9 o0] c6∧Ro w L t7 [.slice a_facts m_facts c_facts] d6) D5 (U8 s (d9,c6) d6):=by
 refine Ti3 Tryz.func18 23 Z λw L hR=>?_
 obtain ⟨hs,s7,o2,hfacts⟩:=hR
 obtain ⟨rfl,ls⟩:=hs.slen
 obtain ⟨rfl,I8⟩:=s7.slen
 obtain ⟨rfl,G9⟩:=o2.slen
 obtain ⟨rfl,lfacts⟩:=hfacts.slen
 refine Ew Z2<|Est Z (N.box (cs:=[_,_]) Z dc Z)<|λb4 _=>Ei Z<|Eu<|Eq_<|Ew Z10<|Em Z<|Ey Z (l4 (cs:=[_,_]) ty_Query Z (Has.pt m0) Z)<|E0 Z (a0J<|fo) Z (λhA=>⟨hA.ro hs,hA.ro s7,hA.ro o2⟩)<|Ent.b (λq9=>?_)<|λq9=>?_
 ·refine Yno true Z<|Em Z<|Em Z<|Em Z<|E0 Z a1i Z (λhA=>⟨hA.ro hs,hA.ro hfacts⟩)<|Ent.b (λq14=>?_)<|λq14=>?_
  ·refine Yno true Z<|Ypf Z<|Eu<|Cf<|Eq_<|D.region (λj=>true) mixed<|Dy 0 Z (l4 (cs:=[_,_]) ty_Query Z (Has.pt m0) Z)<|Dy 1 Z (l4 (cs:=[_,_]) ty_Query Z (Has.pt m0) Z)<|Dm 2 Z<|Dl 3 Z (a9g ((D1 (s:=s) (q:=(d9,c6)) (by assumption)).1) ((D1 (s:=s) (q:=(d9,c6)) (by assumption)).2.2)<|(λa _=>a5r (N4 (s:=s) (by assumption)).1)) Z (λhA=>⟨hA.ro s7,hA.ro o2,hA.ro hfacts⟩)<|λa21 c21 l21=>Dl 4 Z (a5l ((Nat.le_trans (D1 (s:=s) (q:=(d9,c6)) (by assumption)).2.1 dc))<|(Nat.le_trans (b4I (d6:=d6) (N4 (s:=s) (by assumption)).1 (D1 (s:=s) (q:=(d9,c6)) (by assumption)).1 (D1 (s:=s) (q:=(d9,c6)) (by assumption)).2.2).1 dc)) Z (λhA=>⟨hA.ro s7,hA.ro o2,hA.ow m0⟩)<|λa22 c22 l22=>Dyp 5 Z (E5 Z)<|o4 kr<|Et<|E.ret<|g9 (congrArg (ow D5 [_]) (show _=U8 s (d9,c6) d6 by grind[U8,d1,d2,t1,t2]))<|Fg Z Z (_,_,_) Z Z
  ·refine Yno false Z<|Ypf Z<|Eu<|r9 Z<|Ew Z2<|Est Z (Nb [] [] us_Iss ty_Is Z Z)<|λb17 _=>Ent.drop<|Ei Z<|Eu<|E.ret<|a5h<|m8 (A:=[]) (Own.nil (E:=eIs) (e:=tIs) (a:=(some ⟨b17,0,none⟩))) Z<|g9 (congrArg (ow D5 [_]) (show _=U8 s (d9,c6) d6 by grind[U8,d1,d2,t1,t2]))<|Fg Z Z ((some ⟨b17,0,none⟩),0,0) Z Z
 ·refine Yno false Z<|Em Z<|Es Z<|Es Z<|Es Z<|Es Z<|Ypt Z<|Eu<|r9 Z<|Ew Z2<|Est Z (Nb [] [] us_Iss ty_Is Z Z)<|λb17 _=>Ent.drop<|Ei Z<|Eu<|E.ret<|a5h<|m8 (A:=[]) (Own.nil (E:=eIs) (e:=tIs) (a:=(some ⟨b17,0,none⟩))) Z<|g9 (congrArg (ow D5 [_]) (show _=U8 s (d9,c6) d6 by grind[U8,d1,d2,t1,t2]))<|Fg Z Z ((some ⟨b17,0,none⟩),0,0) Z Z
end Go.Proofs.YthapcdhdfaibkaaGreatDoor
