import Derived.Test.YthapcdhdfaibkaaGreatDoorBq
namespace Go.Proofs.YthapcdhdfaibkaaGreatDoor
open Go.RowKit
set_option linter.all false
set_option maxHeartbeats 2000000
attribute [local irreducible] Nop Yd Yp Ent Has Tr FnP FnP2 Src
variable {f_g:FuncId} {low high n:Int} {s:List IL} {f_c:List Value} {m_s c_s:Nat} {a_s:Option Addr}
theorem H3 {x:Int}:TB Tryz.prog 145 [.int .i64 x,.int .i64 low,.int .i64 high] (λw L=>True) (inR x low high):=by
 refine Ti3 Tryz.func145 15 Z λw L hR=>Ew Z1<|Ei Z<|Ev Z9<|Em Z<|Em Z<|Ey Z ((Y.geq Z Z).yd)<|l3 (λq9=>?_)<|λq9=>?_
 ·refine Em Z<|Em Z<|Em Z<|Ey Z ((Y.leq Z Z).yd)<|Ypt Z<|Ei Z ?_
  exact Eu<|E.ret<|Fb Z Z (by simp_all [inR];try omega)
 ·refine Em Z<|Es Z<|Es Z<|Es Z<|Ypf Z<|Ei Z ?_
  exact Eu<|E.ret<|Fb Z Z (by simp_all [inR];try omega)
theorem L8:TB Tryz.prog 150 [.int .i64 n,.int .i64 low,.int .i64 high] (λw L=>True) (inR n low high):=by
 refine Ti3 Tryz.func150 15 Z λw L hR=>Ew Z1<|Ei Z<|Ev Z9<|Em Z<|Em Z<|Ey Z ((Y.geq Z Z).yd)<|l3 (λq9=>?_)<|λq9=>?_
 ·refine Em Z<|Em Z<|Em Z<|Ey Z ((Y.leq Z Z).yd)<|Ypt Z<|Ei Z ?_
  exact Eu<|E.ret<|Fb Z Z (by simp_all [inR];try omega)
 ·refine Em Z<|Es Z<|Es Z<|Es Z<|Ypf Z<|Ei Z ?_
  exact Eu<|E.ret<|Fb Z Z (by simp_all [inR];try omega)
theorem b3D {s:List Int} {D_f:Int→Prop} {f:Int→Bool} (hD_f:∀x∈s,D_f x):Tr Tryz.prog 231 [.slice a_s m_s c_s,.func (.func f_g) #[] f_c.toArray] (λw L=>Ro w L eIs [.slice a_s m_s c_s] s∧FnP Tryz.prog w L f_g f_c Enc.int a7z D_f f) [] (κ:=Unit) (λk=>True) (λk=>.int .i64 (J0 f s)) (λk=>[]):=by
 refine Ti2 Tryz.func231 19 Z λw L hR=>?_
 obtain ⟨hs,hf⟩:=hR
 obtain ⟨rfl,ls⟩:=hs.slen
 refine Ew Z1<|Ei Z<|Eu<|Eq_<|Ew Z3<|Em Z<|Yln us_Is Z<|Em Z<|Eu<|E.block<|Lo (κ:=Nat) (λg=>g≤s.length∧∀x∈s.take g,f x=false) (λg=>[(0,.slice a_s s.length c_s),(1,.func (.func f_g) #[] f_c.toArray),(7,.int .i64 (↑s.length:Int)),(8,.int .i64 (g:Int))]) (λg=>[]) (λg=>s.length-g) 0 ⟨by omega,by simp⟩<|λg pg=>?_
 obtain ⟨pk,pa⟩:=pg
 refine Ew Z1<|Ylt Z<|l3 (λq9=>?_)<|λq9=>?_
 ·refine Eu<|Eq_<|Ct<|Eq_<|E.block<|Ew Z2<|Em Z<|Ei Z<|Ev Z6<|Em Z<|Em Z<|Em Z ?_
  obtain ⟨eb14,eo14,ea14,ei14,eh14⟩:=hs.elemI g om
  refine Il us_Is j8 Z ea14 g Z om Z (eh14 _)<|Est Z (N.fn (cs:=[_]) hf Z Z Z dc (λw Lp hA=>W7 ei14)<|hD_f _<|List.getElem_mem om)<|λ_ _=>Ent.b (λq16=>?_)<|λq16=>?_
  ·refine Eu<|r9 Z<|Ew Z2<|Em Z<|Ei Z<|Eu<|E.ret<|v7<|a5h<|a5h<|v7<|a5h<|Fg Z Z () (congrArg (Value.int .i64) (by first|exact P3 om pa q16|exact O4 om pa)) Z
  ·refine Eu<|r8 Z<|v6<|o6<|Et<|Ez Z2<|Yad Z om om<|Em Z ?_
   exact Eu<|u7 br (g+1) rs (.refl _) ⟨by omega,X3 om pa q16⟩ om
 ·refine Eu<|Eq_<|r8 Z<|E.exit<|l2<|l2<|u4<|Et<|Ew Z1<|Ei Z<|Eu<|E.ret<|Fg Z Z () (congrArg (Value.int .i64) (by first|exact P3 om pa q16|exact O4 om pa)) Z
theorem a0c {s:List Int} {D_f:Int→Prop} {f:Int→Bool} (hD_f:∀x∈s,D_f x):TB Tryz.prog 120 [.slice a_s m_s c_s,.func (.func f_g) #[] f_c.toArray] (λw L=>Ro w L eIs [.slice a_s m_s c_s] s∧FnP Tryz.prog w L f_g f_c Enc.int a7z D_f f) (s.any f):=by
 refine Ti2 Tryz.func120 9 Z λw L hR=>?_
 obtain ⟨hs,hf⟩:=hR
 obtain ⟨rfl,ls⟩:=hs.slen
 refine Ew Z1<|Ei Z<|Ev Z5<|Em Z<|Em Z<|E0 Z (b3D (f:=f) (D_f:=D_f) hD_f) Z (λhA=>⟨hA.ro hs,hA.fn hf⟩)<|Ey Z ((Y.geq Z Z).yd)<|Ei Z<|Eu<|E.ret<|Fb Z Z (by exact W1)
theorem a7Q {D_f:IL→Prop} {f:IL→Bool} (hD_f:∀x∈s,D_f x):Tr Tryz.prog 298 [.slice a_s m_s c_s,.func (.func f_g) #[] f_c.toArray] (λw L=>Ro w L H4 [.slice a_s m_s c_s] s∧FnP Tryz.prog w L f_g f_c a0i a1U D_f f) [] (κ:=Unit) (λk=>True) (λk=>.int .i64 (J0 f s)) (λk=>[]):=by
 refine Ti2 Tryz.func298 19 Z λw L hR=>?_
 obtain ⟨hs,hf⟩:=hR
 obtain ⟨rfl,ls⟩:=hs.slen
 refine Ew Z1<|Ei Z<|Eu<|Eq_<|Ew Z3<|Em Z<|Yln us_Accesss Z<|Em Z<|Eu<|E.block<|Lo (κ:=Nat) (λg=>g≤s.length∧∀x∈s.take g,f x=false) (λg=>[(0,.slice a_s s.length c_s),(1,.func (.func f_g) #[] f_c.toArray),(7,.int .i64 (↑s.length:Int)),(8,.int .i64 (g:Int))]) (λg=>[]) (λg=>s.length-g) 0 ⟨by omega,by simp⟩<|λg pg=>?_
 obtain ⟨pk,pa⟩:=pg
 refine Ew Z1<|Ylt Z<|l3 (λq9=>?_)<|λq9=>?_
 ·refine Eu<|Eq_<|Ct<|Eq_<|E.block<|Ew Z2<|Em Z<|Ei Z<|Ev Z6<|Em Z<|Em Z<|Em Z ?_
  obtain ⟨eb14,eo14,ec14,ea14,er14,el14,eh14⟩:=hs.elem g om
  obtain ⟨xa14_0,xc14_0,rfl,ei14_0,xh14_0⟩:=a1Z er14
  have:=xh14_0.slen.2
  refine Ix us_Accesss ty_Access Z ea14 g Z om<|Ey Z (l4 (cs:=[_,_]) ty_Access Z (eh14 _) Z)<|Est Z (N.fn (cs:=[_,_]) hf Z Z Z dc (λw Lp hA=>b5R (x:=s[g]) ei14_0<|hA.ro xh14_0)<|hD_f _<|List.getElem_mem om)<|λ_ _=>Ent.b (λq16=>?_)<|λq16=>?_
  ·refine Eu<|r9 Z<|Ew Z2<|Em Z<|Ei Z<|Eu<|E.ret<|v7<|a5h<|a5h<|v7<|a5h<|Fg Z Z () (congrArg (Value.int .i64) (by first|exact P3 om pa q16|exact O4 om pa)) Z
  ·refine Eu<|r8 Z<|v6<|o6<|Et<|Ez Z2<|Yad Z om om<|Em Z ?_
   exact Eu<|u7 br (g+1) rs (.refl _) ⟨by omega,X3 om pa q16⟩ om
 ·refine Eu<|Eq_<|r8 Z<|E.exit<|l2<|l2<|u4<|Et<|Ew Z1<|Ei Z<|Eu<|E.ret<|Fg Z Z () (congrArg (Value.int .i64) (by first|exact P3 om pa q16|exact O4 om pa)) Z
theorem a6r {D_f:IL→Prop} {f:IL→Bool} (hD_f:∀x∈s,D_f x):TB Tryz.prog 196 [.slice a_s m_s c_s,.func (.func f_g) #[] f_c.toArray] (λw L=>Ro w L H4 [.slice a_s m_s c_s] s∧FnP Tryz.prog w L f_g f_c a0i a1U D_f f) (s.any f):=by
 refine Ti2 Tryz.func196 9 Z λw L hR=>?_
 obtain ⟨hs,hf⟩:=hR
 obtain ⟨rfl,ls⟩:=hs.slen
 refine Ew Z1<|Ei Z<|Ev Z5<|Em Z<|Em Z<|E0 Z (a7Q (f:=f) (D_f:=D_f) hD_f) Z (λhA=>⟨hA.ro hs,hA.fn hf⟩)<|Ey Z ((Y.geq Z Z).yd)<|Ei Z<|Eu<|E.ret<|Fb Z Z (by exact W1)
theorem a4k {s:List (Int×List Int×Int×Int×Int)} {D_f:(Int×List Int×Int×Int×Int)→Prop} {f:(Int×List Int×Int×Int×Int)→Bool} (hD_f:∀x∈s,D_f x):Tr Tryz.prog 218 [.slice a_s m_s c_s,.func (.func f_g) #[] f_c.toArray] (λw L=>Ro w L F0 [.slice a_s m_s c_s] s∧FnP Tryz.prog w L f_g f_c V6 a1U D_f f) [] (κ:=Unit) (λk=>True) (λk=>.int .i64 (J0 f s)) (λk=>[]):=by
 refine Ti2 Tryz.func218 19 Z λw L hR=>?_
 obtain ⟨hs,hf⟩:=hR
 obtain ⟨rfl,ls⟩:=hs.slen
 refine Ew Z1<|Ei Z<|Eu<|Eq_<|Ew Z3<|Em Z<|Yln us_Methods Z<|Em Z<|Eu<|E.block<|Lo (κ:=Nat) (λg=>g≤s.length∧∀x∈s.take g,f x=false) (λg=>[(0,.slice a_s s.length c_s),(1,.func (.func f_g) #[] f_c.toArray),(7,.int .i64 (↑s.length:Int)),(8,.int .i64 (g:Int))]) (λg=>[]) (λg=>s.length-g) 0 ⟨by omega,by simp⟩<|λg pg=>?_
 obtain ⟨pk,pa⟩:=pg
 refine Ew Z1<|Ylt Z<|l3 (λq9=>?_)<|λq9=>?_
 ·refine Eu<|Eq_<|Ct<|Eq_<|E.block<|Ew Z2<|Em Z<|Ei Z<|Ev Z6<|Em Z<|Em Z<|Em Z ?_
  obtain ⟨eb14,eo14,ec14,ea14,er14,el14,eh14⟩:=hs.elem g om
  obtain ⟨xa14_0,xc14_0,rfl,ei14_0,xh14_0,ei14_2,ei14_3,ei14_4⟩:=P9 er14
  have:=xh14_0.slen.2
  refine Ix us_Methods ty_Method Z ea14 g Z om<|Ey Z (l4 (cs:=[_,_,_,_,_]) ty_Method Z (eh14 _) Z)<|Est Z (N.fn (cs:=[_,_,_,_,_]) hf Z Z Z dc (λw Lp hA=>a9x (x:=s[g]) ei14_0 (hA.ro xh14_0) ei14_2 ei14_3 ei14_4)<|hD_f _<|List.getElem_mem om)<|λ_ _=>Ent.b (λq16=>?_)<|λq16=>?_
  ·refine Eu<|r9 Z<|Ew Z2<|Em Z<|Ei Z<|Eu<|E.ret<|v7<|a5h<|a5h<|v7<|a5h<|Fg Z Z () (congrArg (Value.int .i64) (by first|exact P3 om pa q16|exact O4 om pa)) Z
  ·refine Eu<|r8 Z<|v6<|o6<|Et<|Ez Z2<|Yad Z om om<|Em Z ?_
   exact Eu<|u7 br (g+1) rs (.refl _) ⟨by omega,X3 om pa q16⟩ om
 ·refine Eu<|Eq_<|r8 Z<|E.exit<|l2<|l2<|u4<|Et<|Ew Z1<|Ei Z<|Eu<|E.ret<|Fg Z Z () (congrArg (Value.int .i64) (by first|exact P3 om pa q16|exact O4 om pa)) Z
theorem a5X {s:List (Int×List Int×Int×Int×Int)} {D_f:(Int×List Int×Int×Int×Int)→Prop} {f:(Int×List Int×Int×Int×Int)→Bool} (hD_f:∀x∈s,D_f x):TB Tryz.prog 212 [.slice a_s m_s c_s,.func (.func f_g) #[] f_c.toArray] (λw L=>Ro w L F0 [.slice a_s m_s c_s] s∧FnP Tryz.prog w L f_g f_c V6 a1U D_f f) (s.any f):=by
 refine Ti2 Tryz.func212 9 Z λw L hR=>?_
 obtain ⟨hs,hf⟩:=hR
 obtain ⟨rfl,ls⟩:=hs.slen
 refine Ew Z1<|Ei Z<|Ev Z5<|Em Z<|Em Z<|E0 Z (a4k (f:=f) (D_f:=D_f) hD_f) Z (λhA=>⟨hA.ro hs,hA.fn hf⟩)<|Ey Z ((Y.geq Z Z).yd)<|Ei Z<|Eu<|E.ret<|Fb Z Z (by exact W1)
theorem a3b {D_f:IL→Prop} {f:IL→Bool} (hD_f:∀x∈s,D_f x):Tr Tryz.prog 292 [.slice a_s m_s c_s,.func (.func f_g) #[] f_c.toArray] (λw L=>Ro w L t7 [.slice a_s m_s c_s] s∧FnP Tryz.prog w L f_g f_c I3 a1U D_f f) [] (κ:=Unit) (λk=>True) (λk=>.int .i64 (J0 f s)) (λk=>[]):=by
 refine Ti2 Tryz.func292 19 Z λw L hR=>?_
 obtain ⟨hs,hf⟩:=hR
 obtain ⟨rfl,ls⟩:=hs.slen
 refine Ew Z1<|Ei Z<|Eu<|Eq_<|Ew Z3<|Em Z<|Yln us_Facts Z<|Em Z<|Eu<|E.block<|Lo (κ:=Nat) (λg=>g≤s.length∧∀x∈s.take g,f x=false) (λg=>[(0,.slice a_s s.length c_s),(1,.func (.func f_g) #[] f_c.toArray),(7,.int .i64 (↑s.length:Int)),(8,.int .i64 (g:Int))]) (λg=>[]) (λg=>s.length-g) 0 ⟨by omega,by simp⟩<|λg pg=>?_
 obtain ⟨pk,pa⟩:=pg
 refine Ew Z1<|Ylt Z<|l3 (λq9=>?_)<|λq9=>?_
 ·refine Eu<|Eq_<|Ct<|Eq_<|E.block<|Ew Z2<|Em Z<|Ei Z<|Ev Z6<|Em Z<|Em Z<|Em Z ?_
  obtain ⟨eb14,eo14,ec14,ea14,er14,el14,eh14⟩:=hs.elem g om
  obtain ⟨xa14_0,xc14_0,rfl,ei14_0,xh14_0⟩:=U2 er14
  have:=xh14_0.slen.2
  refine Ix us_Facts ty_Fact Z ea14 g Z om<|Ey Z (l4 (cs:=[_,_]) ty_Fact Z (eh14 _) Z)<|Est Z (N.fn (cs:=[_,_]) hf Z Z Z dc (λw Lp hA=>b9s (x:=s[g]) ei14_0<|hA.ro xh14_0)<|hD_f _<|List.getElem_mem om)<|λ_ _=>Ent.b (λq16=>?_)<|λq16=>?_
  ·refine Eu<|r9 Z<|Ew Z2<|Em Z<|Ei Z<|Eu<|E.ret<|v7<|a5h<|a5h<|v7<|a5h<|Fg Z Z () (congrArg (Value.int .i64) (by first|exact P3 om pa q16|exact O4 om pa)) Z
  ·refine Eu<|r8 Z<|v6<|o6<|Et<|Ez Z2<|Yad Z om om<|Em Z ?_
   exact Eu<|u7 br (g+1) rs (.refl _) ⟨by omega,X3 om pa q16⟩ om
 ·refine Eu<|Eq_<|r8 Z<|E.exit<|l2<|l2<|u4<|Et<|Ew Z1<|Ei Z<|Eu<|E.ret<|Fg Z Z () (congrArg (Value.int .i64) (by first|exact P3 om pa q16|exact O4 om pa)) Z
theorem a7r {D_f:IL→Prop} {f:IL→Bool} (hD_f:∀x∈s,D_f x):TB Tryz.prog 199 [.slice a_s m_s c_s,.func (.func f_g) #[] f_c.toArray] (λw L=>Ro w L t7 [.slice a_s m_s c_s] s∧FnP Tryz.prog w L f_g f_c I3 a1U D_f f) (s.any f):=by
 refine Ti2 Tryz.func199 9 Z λw L hR=>?_
 obtain ⟨hs,hf⟩:=hR
 obtain ⟨rfl,ls⟩:=hs.slen
 refine Ew Z1<|Ei Z<|Ev Z5<|Em Z<|Em Z<|E0 Z (a3b (f:=f) (D_f:=D_f) hD_f) Z (λhA=>⟨hA.ro hs,hA.fn hf⟩)<|Ey Z ((Y.geq Z Z).yd)<|Ei Z<|Eu<|E.ret<|Fb Z Z (by exact W1)
theorem a9Z {D_f:IL→Prop} {f:IL→Bool} (hD_f:∀x∈s,D_f x):Tr Tryz.prog 210 [.slice a_s m_s c_s,.func (.func f_g) #[] f_c.toArray] (λw L=>Ro w L v8 [.slice a_s m_s c_s] s∧FnP Tryz.prog w L f_g f_c W5 a1U D_f f) [] (κ:=Unit) (λk=>True) (λk=>.int .i64 (J0 f s)) (λk=>[]):=by
 refine Ti2 Tryz.func210 19 Z λw L hR=>?_
 obtain ⟨hs,hf⟩:=hR
 obtain ⟨rfl,ls⟩:=hs.slen
 refine Ew Z1<|Ei Z<|Eu<|Eq_<|Ew Z3<|Em Z<|Yln us_Atoms Z<|Em Z<|Eu<|E.block<|Lo (κ:=Nat) (λg=>g≤s.length∧∀x∈s.take g,f x=false) (λg=>[(0,.slice a_s s.length c_s),(1,.func (.func f_g) #[] f_c.toArray),(7,.int .i64 (↑s.length:Int)),(8,.int .i64 (g:Int))]) (λg=>[]) (λg=>s.length-g) 0 ⟨by omega,by simp⟩<|λg pg=>?_
 obtain ⟨pk,pa⟩:=pg
 refine Ew Z1<|Ylt Z<|l3 (λq9=>?_)<|λq9=>?_
 ·refine Eu<|Eq_<|Ct<|Eq_<|E.block<|Ew Z2<|Em Z<|Ei Z<|Ev Z6<|Em Z<|Em Z<|Em Z ?_
  obtain ⟨eb14,eo14,ec14,ea14,er14,el14,eh14⟩:=hs.elem g om
  obtain ⟨xa14_0,xc14_0,rfl,ei14_0,xh14_0⟩:=L6 er14
  have:=xh14_0.slen.2
  refine Ix us_Atoms ty_Atom Z ea14 g Z om<|Ey Z (l4 (cs:=[_,_]) ty_Atom Z (eh14 _) Z)<|Est Z (N.fn (cs:=[_,_]) hf Z Z Z dc (λw Lp hA=>b9t (x:=s[g]) ei14_0<|hA.ro xh14_0)<|hD_f _<|List.getElem_mem om)<|λ_ _=>Ent.b (λq16=>?_)<|λq16=>?_
  ·refine Eu<|r9 Z<|Ew Z2<|Em Z<|Ei Z<|Eu<|E.ret<|v7<|a5h<|a5h<|v7<|a5h<|Fg Z Z () (congrArg (Value.int .i64) (by first|exact P3 om pa q16|exact O4 om pa)) Z
  ·refine Eu<|r8 Z<|v6<|o6<|Et<|Ez Z2<|Yad Z om om<|Em Z ?_
   exact Eu<|u7 br (g+1) rs (.refl _) ⟨by omega,X3 om pa q16⟩ om
 ·refine Eu<|Eq_<|r8 Z<|E.exit<|l2<|l2<|u4<|Et<|Ew Z1<|Ei Z<|Eu<|E.ret<|Fg Z Z () (congrArg (Value.int .i64) (by first|exact P3 om pa q16|exact O4 om pa)) Z
theorem a7v {D_f:IL→Prop} {f:IL→Bool} (hD_f:∀x∈s,D_f x):TB Tryz.prog 91 [.slice a_s m_s c_s,.func (.func f_g) #[] f_c.toArray] (λw L=>Ro w L v8 [.slice a_s m_s c_s] s∧FnP Tryz.prog w L f_g f_c W5 a1U D_f f) (s.any f):=by
 refine Ti2 Tryz.func91 9 Z λw L hR=>?_
 obtain ⟨hs,hf⟩:=hR
 obtain ⟨rfl,ls⟩:=hs.slen
 refine Ew Z1<|Ei Z<|Ev Z5<|Em Z<|Em Z<|E0 Z (a9Z (f:=f) (D_f:=D_f) hD_f) Z (λhA=>⟨hA.ro hs,hA.fn hf⟩)<|Ey Z ((Y.geq Z Z).yd)<|Ei Z<|Eu<|E.ret<|Fb Z Z (by exact W1)
theorem a9e {s:List (List Int×List IL)} {D_f:(List Int×List IL)→Prop} {f:(List Int×List IL)→Bool} (hD_f:∀x∈s,D_f x):Tr Tryz.prog 248 [.slice a_s m_s c_s,.func (.func f_g) #[] f_c.toArray] (λw L=>Ro w L y7 [.slice a_s m_s c_s] s∧FnP Tryz.prog w L f_g f_c O6 a1U D_f f) [] (κ:=Unit) (λk=>True) (λk=>.int .i64 (J0 f s)) (λk=>[]):=by
 refine Ti2 Tryz.func248 19 Z λw L hR=>?_
 obtain ⟨hs,hf⟩:=hR
 obtain ⟨rfl,ls⟩:=hs.slen
 refine Ew Z1<|Ei Z<|Eu<|Eq_<|Ew Z3<|Em Z<|Yln us_Querys Z<|Em Z<|Eu<|E.block<|Lo (κ:=Nat) (λg=>g≤s.length∧∀x∈s.take g,f x=false) (λg=>[(0,.slice a_s s.length c_s),(1,.func (.func f_g) #[] f_c.toArray),(7,.int .i64 (↑s.length:Int)),(8,.int .i64 (g:Int))]) (λg=>[]) (λg=>s.length-g) 0 ⟨by omega,by simp⟩<|λg pg=>?_
 obtain ⟨pk,pa⟩:=pg
 refine Ew Z1<|Ylt Z<|l3 (λq9=>?_)<|λq9=>?_
 ·refine Eu<|Eq_<|Ct<|Eq_<|E.block<|Ew Z2<|Em Z<|Ei Z<|Ev Z6<|Em Z<|Em Z<|Em Z ?_
  obtain ⟨eb14,eo14,ec14,ea14,er14,el14,eh14⟩:=hs.elem g om
  obtain ⟨xa14_0,xc14_0,xa14_1,xc14_1,rfl,xh14_0,xh14_1⟩:=P7 er14
  have:=xh14_0.slen.2
  have:=xh14_1.slen.2
  refine Ix us_Querys ty_Query Z ea14 g Z om<|Ey Z (l4 (cs:=[_,_]) ty_Query Z (eh14 _) Z)<|Est Z (N.fn (cs:=[_,_]) hf Z Z Z dc (λw Lp hA=>b7M (x:=s[g]) (hA.ro xh14_0)<|hA.ro xh14_1)<|hD_f _<|List.getElem_mem om)<|λ_ _=>Ent.b (λq16=>?_)<|λq16=>?_
  ·refine Eu<|r9 Z<|Ew Z2<|Em Z<|Ei Z<|Eu<|E.ret<|v7<|a5h<|a5h<|v7<|a5h<|Fg Z Z () (congrArg (Value.int .i64) (by first|exact P3 om pa q16|exact O4 om pa)) Z
  ·refine Eu<|r8 Z<|v6<|o6<|Et<|Ez Z2<|Yad Z om om<|Em Z ?_
   exact Eu<|u7 br (g+1) rs (.refl _) ⟨by omega,X3 om pa q16⟩ om
 ·refine Eu<|Eq_<|r8 Z<|E.exit<|l2<|l2<|u4<|Et<|Ew Z1<|Ei Z<|Eu<|E.ret<|Fg Z Z () (congrArg (Value.int .i64) (by first|exact P3 om pa q16|exact O4 om pa)) Z
theorem a0D {s:List (List Int×List IL)} {D_f:(List Int×List IL)→Prop} {f:(List Int×List IL)→Bool} (hD_f:∀x∈s,D_f x):TB Tryz.prog 143 [.slice a_s m_s c_s,.func (.func f_g) #[] f_c.toArray] (λw L=>Ro w L y7 [.slice a_s m_s c_s] s∧FnP Tryz.prog w L f_g f_c O6 a1U D_f f) (s.any f):=by
 refine Ti2 Tryz.func143 9 Z λw L hR=>?_
 obtain ⟨hs,hf⟩:=hR
 obtain ⟨rfl,ls⟩:=hs.slen
 refine Ew Z1<|Ei Z<|Ev Z5<|Em Z<|Em Z<|E0 Z (a9e (f:=f) (D_f:=D_f) hD_f) Z (λhA=>⟨hA.ro hs,hA.fn hf⟩)<|Ey Z ((Y.geq Z Z).yd)<|Ei Z<|Eu<|E.ret<|Fb Z Z (by exact W1)
theorem a9k:TB Tryz.prog 291 [.int .i64 n] (λw L=>(I64 n)∧True) (!inR n 1 3):=by
 refine Ti1 Tryz.func291 6 Z λw L hR=>?_
 obtain ⟨i6n,_⟩:=hR
 refine Ew Z1<|Ei Z<|Ev Z4<|Em Z<|E0 Z L8 Z (λ_=>trivial)<|Ey Z ((Y.not Z).yd)<|Ei Z<|Eu<|E.ret<|Fb Z Z (by simp_all)
theorem a2n {s:List Int}:TB Tryz.prog 188 [.slice a_s m_s c_s] (λw L=>Ro w L eIs [.slice a_s m_s c_s] s) (Q4 s):=by
 refine Ti1 Tryz.func188 11 Z λw L hR=>?_
 have hs:=hR
 obtain ⟨rfl,ls⟩:=hs.slen
 refine Ew Z1<|Ei Z<|Ev Z9<|Em Z<|Yln us_Is Z<|E0 Z L8 Z (λ_=>trivial)<|Ent.b (λq5=>?_)<|λq5=>?_
 ·refine Em Z<|Em Z<|E0 Z (a0c (f:=(λn=> !inR n 1 3)) (D_f:=(λ_=>True)) (by intros;exact trivial)) Z (λhA=>⟨hA.ro hs,a3p (D:=(λ_=>True)) (λhd=>a9k)<|λw' hk=>trivial⟩)<|Ey Z ((Y.not Z).yd)<|Ypt Z<|Ei Z<|Eu<|E.ret<|Fb Z Z (by simp_all [Q4])
 ·refine Em Z<|Es Z<|Es Z<|Es Z<|Ypf Z<|Ei Z<|Eu<|E.ret<|Fb Z Z (by simp_all [Q4])
theorem M7 {s:List Int}:TB Tryz.prog 103 [.slice a_s m_s c_s] (λw L=>Ro w L eIs [.slice a_s m_s c_s] s) (Q4 s):=by
 refine Ti1 Tryz.func103 19 Z λw L hR=>?_
 have hs:=hR
 obtain ⟨rfl,ls⟩:=hs.slen
 refine Ew Z1<|Ei Z<|Eu<|Eq_<|Ew Z1<|Ei Z<|Eu<|E.block<|Lo (κ:=Nat) (λg=>g≤s.length∧∀x∈s.take g,(!inR x 1 3)=false) (λg=>[(0,.slice a_s s.length c_s),(3,.int .i64 (g:Int))]) (λg=>[]) (λg=>s.length-g) 0 ⟨by omega,by simp⟩<|λg pg=>?_
 obtain ⟨pk,pa⟩:=pg
 refine Eq_<|Ew Z4<|Em Z<|Em Z<|Yln us_Is Z<|Ylt Z<|l3 (λq7=>?_)<|λq7=>?_
 ·refine Eu<|Ct<|Eq_<|E.block<|Ew Z6<|Em Z<|Em Z ?_
  obtain ⟨eb12,eo12,ea12,ei12,eh12⟩:=hs.elemI g om
  refine Il us_Is j8 Z ea12 g Z om Z (eh12 _)<|E0 Z H3 Z (λ_=>trivial)<|Ent.b (λq14=>?_)<|λq14=>?_
  ·refine Yno true Z<|Eu<|r8 Z<|v6<|o6<|Et<|Ez Z3<|Em Z<|Yad Z om om<|Ei Z ?_
   exact Eu<|u7 br (g+1) ⟨Z,Z,trivial⟩ (.refl _) ⟨by omega,X3 om pa (by simp[q14])⟩ om
  ·refine Yno false Z<|Eu<|r9 Z<|Ew Z1<|Ei Z ?_
   exact Eu<|E.ret<|v7<|a5h<|a5h<|v7<|a5h<|Fb Z Z (by first|(have:=b1z (k:=g) (s:=s) (p:=λx=> !inR x 1 3) om (by simpa using q14);rw[Q4,this];simp)|(have:=b0f om pa;rw[Q4,this];simp))
 ·refine Eu<|r8 Z<|E.exit<|l2<|l2<|u4<|Et<|Ew Z4<|Em Z<|Yln us_Is Z<|E0 Z H3 Z (λ_=>trivial)<|Ei Z ?_
  exact Eu<|E.ret<|Fb Z Z (by first|(have:=b1z (k:=g) (s:=s) (p:=λx=> !inR x 1 3) om (by simpa using q14);rw[Q4,this];simp)|(have:=b0f om pa;rw[Q4,this];simp))
theorem a4o {s:List Int} {rel:Int}:TB Tryz.prog 229 [.slice a_s m_s c_s,.int .i64 rel] (λw L=>Ro w L eIs [.slice a_s m_s c_s] s) (N8 s rel):=by
 refine Ti2 Tryz.func229 14 Z λw L hR=>?_
 have hs:=hR
 obtain ⟨rfl,ls⟩:=hs.slen
 refine Ew Z1<|Ei Z<|Ev Z10<|Em Z<|E0 Z a2n Z (λhA=>hA.ro hs)<|Ent.b (λq6=>?_)<|λq6=>?_
 ·refine Em Z<|Em Z<|Em Z<|Yln us_Is Z<|Ey Z ((Y.sub Z Z om om).yd)<|E0 Z L8 Z (λ_=>trivial)<|Ypt Z<|Ei Z<|Eu<|E.ret<|Fb Z Z (by simp_all [N8])
 ·refine Em Z<|Es Z<|Es Z<|Es Z<|Es Z<|Es Z<|Ypf Z<|Ei Z<|Eu<|E.ret<|Fb Z Z (by simp_all [N8])
end Go.Proofs.YthapcdhdfaibkaaGreatDoor
