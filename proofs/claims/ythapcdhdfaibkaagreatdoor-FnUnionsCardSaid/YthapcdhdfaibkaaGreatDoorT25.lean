import Derived.Test.YthapcdhdfaibkaaGreatDoorT24
namespace Go.Proofs.YthapcdhdfaibkaaGreatDoor
open Go.RowKit
set_option linter.all false
set_option maxHeartbeats 2000000
attribute [local irreducible] Nop Yd Yp Ent Has Tr FnP FnP2 Src K8 Q7 R5 S1 E8
variable {c6:List IL} {u b a:List (List Int×List IL)} {s d9:List Int} {b_s m_s c_s u5 r6 s9 o0 m_u c_u m_b c_b m_a c_a:Nat} {a_s r7 o1 a_u a_b a_a:Option Addr}
theorem a6P {b5x:Option Addr} {b5y b5z:Nat} {b9n:List Int} {b3j:Option Addr} {b3k b3l:Nat} {b2l:List IL} {b_q:Nat} (hzx:D8 (λx=>x.2.length) b2l≤1048576) (hzq:D8 (λx=>x.2.length) c6≤1048576):TB Tryz.prog 147 [.agg #[.slice b5x b5y b5z,.slice b3j b3k b3l],.pointer (some ⟨b_s,0,none⟩),.pointer (some ⟨b_q,0,none⟩)] (λw L=>(Ro w L eIs [.slice b5x b5y b5z] b9n∧Ro w L v8 [.slice b3j b3k b3l] b2l)∧RoPt w L b_s [.slice a_s m_s c_s]∧Ro w L eIs [.slice a_s m_s c_s] s∧RoPt w L b_q [.slice r7 u5 r6,.slice o1 s9 o0]∧Ro w L eIs [.slice r7 u5 r6] d9∧Ro w L v8 [.slice o1 s9 o0] c6) (a1F s (d9,c6) (b9n,b2l)):=by
 refine Ti3 Tryz.func147 9 Z λw L hR=>?_
 obtain ⟨⟨b6U,b5A⟩,hb_s,hs,hb_q,s7,o2⟩:=hR
 obtain ⟨rfl,c6e⟩:=b6U.slen
 obtain ⟨rfl,c5V⟩:=b5A.slen
 obtain ⟨rfl,ls⟩:=hs.slen
 obtain ⟨rfl,I8⟩:=s7.slen
 obtain ⟨rfl,G9⟩:=o2.slen
 refine Ew Z2<|Est Z (N.box (cs:=[_,_]) Z dc Z)<|λb3 _=>Ei Z<|Ev Z5<|Ey Z (z7 ty_Is Z (hb_s.has) Z)<|Ey Z (l4 (cs:=[_,_]) ty_Query Z (hb_q.has) Z)<|Ey Z (l4 (cs:=[_,_]) ty_Query Z (Has.pt m0) Z)<|E0 Z (a7J fc fc) Z (λhA=>⟨hA.ro hs,hA.ro s7,hA.ro o2,hA.ro b6U,hA.ro b5A⟩)<|Ei Z<|Eu<|E.ret<|Fg Z Z () Z Z
theorem a1k (hzq:D8 (λx=>x.2.length) c6≤1048576) (hyu:∀q∈u,D8 (λx=>x.2.length) q.2≤1048576):TB Tryz.prog 45 [.slice a_s m_s c_s,.agg #[.slice r7 u5 r6,.slice o1 s9 o0],.slice a_u m_u c_u] (λw L=>Ro w L eIs [.slice a_s m_s c_s] s∧Ro w L eIs [.slice r7 u5 r6] d9∧Ro w L v8 [.slice o1 s9 o0] c6∧Ro w L y7 [.slice a_u m_u c_u] u) (a0s s u (d9,c6)):=by
 refine Ti3 Tryz.func45 10 Z λw L hR=>?_
 obtain ⟨hs,s7,o2,hu⟩:=hR
 obtain ⟨rfl,ls⟩:=hs.slen
 obtain ⟨rfl,I8⟩:=s7.slen
 obtain ⟨rfl,G9⟩:=o2.slen
 obtain ⟨rfl,lu⟩:=hu.slen
 refine Ew Z3<|Est Z (N.box (cs:=[_]) Z dc Z)<|λb3 _=>Est Z (N.box (cs:=[_,_]) Z dc Z)<|λb4 _=>Ei Z<|Ev Z4<|Em Z<|Ey Z ((Y.fn (vs:=[_,_]) Z).yd)<|E0 Z (a0D (f:=(λz=>a1F s (d9,c6) z)) (D_f:=(λz=>(D8 (λx=>x.2.length) z.2≤1048576)∧(D8 (λx=>x.2.length) c6≤1048576))) (by grind)) Z (λhA=>⟨hA.ro hu,a4f (D:=(λz=>(D8 (λx=>x.2.length) z.2≤1048576)∧(D8 (λx=>x.2.length) c6≤1048576))) (λhd=>a6P hd.1 hd.2)<|λw' hk=>⟨(hA.pt<|mS m0).keep hk,(hA.ro hs).keep hk,(hA.pt m0).keep hk,(hA.ro s7).keep hk,(hA.ro o2).keep hk⟩⟩)<|Ei Z<|Eu<|E.ret<|Fb Z Z (by grind[a0s,d1,d2,t1,t2])
theorem a1h (hzq:D8 (λx=>x.2.length) c6≤1048576) (hyu:∀q∈u,D8 (λx=>x.2.length) q.2≤1048576):TB Tryz.prog 46 [.slice a_s m_s c_s,.agg #[.slice r7 u5 r6,.slice o1 s9 o0],.slice a_u m_u c_u] (λw L=>Ro w L eIs [.slice a_s m_s c_s] s∧Ro w L eIs [.slice r7 u5 r6] d9∧Ro w L v8 [.slice o1 s9 o0] c6∧Ro w L y7 [.slice a_u m_u c_u] u) (a0s s u (d9,c6)):=by
 refine Ti3 Tryz.func46 21 Z λw L hR=>?_
 obtain ⟨hs,s7,o2,hu⟩:=hR
 obtain ⟨rfl,ls⟩:=hs.slen
 obtain ⟨rfl,I8⟩:=s7.slen
 obtain ⟨rfl,G9⟩:=o2.slen
 obtain ⟨rfl,lu⟩:=hu.slen
 refine Ew Z2<|Est Z (N.box (cs:=[_,_]) Z dc Z)<|λb4 _=>Ei Z<|Eu<|Eq_<|Ew Z1<|Ei Z<|Eu<|E.block<|Lo (κ:=Nat) (λg=>g≤u.length∧u.any (a1F s (d9,c6))=(u.drop g).any (a1F s (d9,c6))) (λg=>[(0,.slice a_s s.length c_s),(2,.slice a_u u.length c_u),(4,.pointer<|some ⟨b4,0,none⟩),(7,.int .i64 (g:Int))]) (λg=>[pt b4 28 [.slice r7 d9.length r6,.slice o1 c6.length o0]]) (λg=>u.length-g) 0 ⟨Nat.zero_le _,by simp⟩<|λg pg=>?_
 obtain ⟨pk,pa⟩:=pg
 refine Eq_<|Ew Z4<|Em Z<|Em Z<|Yln us_Querys Z<|Ylt Z<|l3 (λq11=>?_)<|λq11=>?_
 ·refine Eu<|Ct<|Eq_<|E.block<|Eq_<|D.region (λj=>true) mixed<|Dm 0 Z<|Dy 1 Z (l4 (cs:=[_,_]) ty_Query Z (Has.pt m0) Z)<|Dm 2 Z<|Dm 3 Z ?_
  obtain ⟨eb18,eo18,ec18,ea18,er18,el18,eh18⟩:=hu.elem g om
  obtain ⟨xa18_0,xc18_0,xa18_1,xc18_1,rfl,xh18_0,xh18_1⟩:=P7 er18
  have:=xh18_0.slen.2
  have:=xh18_1.slen.2
  refine Dyp 4 Z (y6 us_Querys ty_Query Z ea18 Z g Z om)<|Dy 5 Z (l4 (cs:=[_,_]) ty_Query Z (eh18 _) Z)<|D0 6 Z (a8q fo<|hyu _<|List.getElem_mem om) Z (λhA=>⟨hA.ro hs,hA.ro s7,hA.ro o2,hA.ro xh18_0,hA.ro xh18_1⟩)<|Ent.b (λq20=>?_)<|λq20=>?_
  ·refine o4 kr<|Et<|r9 Z<|Ew Z1<|Ei Z<|Eu<|E.ret<|v7<|a5h<|a5h<|v7<|a5h<|Fb Z Z (by grind[a0s,d1,d2,t1,t2])
  ·refine o4 kr<|Et<|r8 Z<|v6<|o6<|Et<|Ez Z3<|Em Z<|Yad Z om om<|Ei Z ?_
   exact Eu<|u7 br (g+1) rs (.refl _) ⟨by omega,by grind[d1,d2,t1,t2]⟩ om
 ·refine Eu<|r8 Z<|E.exit<|l2<|l2<|u4<|Et<|Ew Z1<|Ei Z<|Eu<|E.ret<|Fb Z Z (by grind[a0s,d1,d2,t1,t2])
theorem a7A {b_b:Nat} (hzq:D8 (λx=>x.2.length) c6≤1048576) (hyb:∀q∈b,D8 (λx=>x.2.length) q.2≤1048576):TB Tryz.prog 249 [.agg #[.slice r7 u5 r6,.slice o1 s9 o0],.pointer (some ⟨b_s,0,none⟩),.pointer (some ⟨b_b,0,none⟩)] (λw L=>(Ro w L eIs [.slice r7 u5 r6] d9∧Ro w L v8 [.slice o1 s9 o0] c6)∧RoPt w L b_s [.slice a_s m_s c_s]∧Ro w L eIs [.slice a_s m_s c_s] s∧RoPt w L b_b [.slice a_b m_b c_b]∧Ro w L y7 [.slice a_b m_b c_b] b) (a1B s b (d9,c6)):=by
 refine Ti3 Tryz.func249 10 Z λw L hR=>?_
 obtain ⟨⟨s7,o2⟩,hb_s,hs,hb_b,hb⟩:=hR
 obtain ⟨rfl,I8⟩:=s7.slen
 obtain ⟨rfl,G9⟩:=o2.slen
 obtain ⟨rfl,ls⟩:=hs.slen
 obtain ⟨rfl,lb⟩:=hb.slen
 refine Ew Z2<|Est Z (N.box (cs:=[_,_]) Z dc Z)<|λb3 _=>Ei Z<|Ev Z6<|Ey Z (z7 ty_Is Z (hb_s.has) Z)<|Ey Z (l4 (cs:=[_,_]) ty_Query Z (Has.pt m0) Z)<|Ey Z (z7 ty_Querys Z (hb_b.has) Z)<|E0 Z (a1k fo hyb) Z (λhA=>⟨hA.ro hs,hA.ro s7,hA.ro o2,hA.ro hb⟩)<|Ey Z ((Y.not Z).yd)<|Ei Z<|Eu<|E.ret<|Fb Z Z (by grind[a1B,d1,d2,t1,t2])
theorem a4S (hya:∀q∈a,D8 (λx=>x.2.length) q.2≤1048576) (hyb:∀q∈b,D8 (λx=>x.2.length) q.2≤1048576):TB Tryz.prog 146 [.slice a_s m_s c_s,.slice a_a m_a c_a,.slice a_b m_b c_b] (λw L=>Ro w L eIs [.slice a_s m_s c_s] s∧Ro w L y7 [.slice a_a m_a c_a] a∧Ro w L y7 [.slice a_b m_b c_b] b) (a4p s a b):=by
 refine Ti3 Tryz.func146 11 Z λw L hR=>?_
 obtain ⟨hs,ha,hb⟩:=hR
 obtain ⟨rfl,ls⟩:=hs.slen
 obtain ⟨rfl,la⟩:=ha.slen
 obtain ⟨rfl,lb⟩:=hb.slen
 refine Ew Z3<|Est Z (N.box (cs:=[_]) Z dc Z)<|λb3 _=>Est Z (N.box (cs:=[_]) Z dc Z)<|λb5 _=>Ei Z<|Ev Z5<|Em Z<|Ey Z ((Y.fn (vs:=[_,_]) Z).yd)<|E0 Z (a0D (f:=(λz=>a1B s b z)) (D_f:=(λz=>(D8 (λx=>x.2.length) z.2≤1048576)∧(∀q∈b,D8 (λx=>x.2.length) q.2≤1048576))) (by grind)) Z (λhA=>⟨hA.ro ha,a4f (D:=(λz=>(D8 (λx=>x.2.length) z.2≤1048576)∧(∀q∈b,D8 (λx=>x.2.length) q.2≤1048576))) (λhd=>a7A hd.1 hd.2)<|λw' hk=>⟨(hA.pt<|mS m0).keep hk,(hA.ro hs).keep hk,(hA.pt m0).keep hk,(hA.ro hb).keep hk⟩⟩)<|Ey Z ((Y.not Z).yd)<|Ei Z<|Eu<|E.ret<|Fb Z Z (by grind[a4p,d1,d2,t1,t2])
theorem a4u (hya:∀q∈a,D8 (λx=>x.2.length) q.2≤1048576) (hyb:∀q∈b,D8 (λx=>x.2.length) q.2≤1048576):TB Tryz.prog 41 [.slice a_s m_s c_s,.slice a_a m_a c_a,.slice a_b m_b c_b] (λw L=>Ro w L eIs [.slice a_s m_s c_s] s∧Ro w L y7 [.slice a_a m_a c_a] a∧Ro w L y7 [.slice a_b m_b c_b] b) (a2V s a b):=by
 refine Ti3 Tryz.func41 27 Z λw L hR=>?_
 obtain ⟨hs,ha,hb⟩:=hR
 obtain ⟨rfl,ls⟩:=hs.slen
 obtain ⟨rfl,la⟩:=ha.slen
 obtain ⟨rfl,lb⟩:=hb.slen
 refine Ew Z1<|Ei Z<|Ev Z21<|Em Z<|Em Z<|E0 Z (a0h fc) Z (λhA=>⟨hA.ro hs,hA.ro ha⟩)<|Ent.b (λq9=>?_)<|λq9=>?_
 ·refine Em Z<|Em Z<|Em Z<|E0 Z (a0h fc) Z (λhA=>⟨hA.ro hs,hA.ro hb⟩)<|Ent.b (λq13=>?_)<|λq13=>?_
  ·refine Ypt Z<|Em Z<|Em Z<|Em Z<|Em Z<|E0 Z (a4S fc fc) Z (λhA=>⟨hA.ro hs,hA.ro ha,hA.ro hb⟩)<|Ent.b (λq19=>?_)<|λq19=>?_
   ·refine Ypt Z<|Em Z<|Em Z<|Em Z<|Em Z<|E0 Z (a4S fc fc) Z (λhA=>⟨hA.ro hs,hA.ro hb,hA.ro ha⟩)<|Ypt Z<|Ei Z<|Eu<|E.ret<|Fb Z Z (by grind[a2V,d1,d2,t1,t2])
   ·refine Ypt Z<|Em Z<|Es Z<|Es Z<|Es Z<|Es Z<|Ypf Z<|Ei Z<|Eu<|E.ret<|Fb Z Z (by grind[a2V,d1,d2,t1,t2])
  ·refine Ypt Z<|Em Z<|Es Z<|Es Z<|Es Z<|Es Z<|Ypf Z<|Em Z<|Es Z<|Es Z<|Es Z<|Es Z<|Ypf Z<|Ei Z<|Eu<|E.ret<|Fb Z Z (by grind[a2V,d1,d2,t1,t2])
 ·refine Em Z<|Es Z<|Es Z<|Es Z<|Ypf Z<|Em Z<|Es Z<|Es Z<|Es Z<|Es Z<|Ypf Z<|Em Z<|Es Z<|Es Z<|Es Z<|Es Z<|Ypf Z<|Ei Z<|Eu<|E.ret<|Fb Z Z (by grind[a2V,d1,d2,t1,t2])
theorem a9j (hya:∀q∈a,D8 (λx=>x.2.length) q.2≤1048576) (hyb:∀q∈b,D8 (λx=>x.2.length) q.2≤1048576):TB Tryz.prog 47 [.slice a_s m_s c_s,.slice a_a m_a c_a,.slice a_b m_b c_b] (λw L=>Ro w L eIs [.slice a_s m_s c_s] s∧Ro w L y7 [.slice a_a m_a c_a] a∧Ro w L y7 [.slice a_b m_b c_b] b) (a2V s a b):=by
 refine Ti3 Tryz.func47 45 Z λw L hR=>?_
 obtain ⟨hs,ha,hb⟩:=hR
 obtain ⟨rfl,ls⟩:=hs.slen
 obtain ⟨rfl,la⟩:=ha.slen
 obtain ⟨rfl,lb⟩:=hb.slen
 refine Ew Z1<|Ei Z<|Eu<|Eq_<|Ew Z1<|Ei Z<|Eu<|E.block<|Lo (κ:=Nat) (λg=>g≤a.length∧a.any (a1B s b)=(a.drop g).any (a1B s b)) (λg=>[(0,.slice a_s s.length c_s),(1,.slice a_a a.length c_a),(2,.slice a_b b.length c_b),(7,.int .i64 (g:Int))]) (λg=>[]) (λg=>a.length-g) 0 ⟨Nat.zero_le _,by simp⟩<|λg pg=>?_
 obtain ⟨pk,pa⟩:=pg
 refine Eq_<|Ew Z4<|Em Z<|Em Z<|Yln us_Querys Z<|Ylt Z<|l3 (λq12=>?_)<|λq12=>?_
 ·refine Eu<|Ct<|Eq_<|E.block<|Ew Z8<|Em Z<|Em Z<|Em Z ?_
  obtain ⟨eb18,eo18,ec18,ea18,er18,el18,eh18⟩:=ha.elem g om
  obtain ⟨xa18_0,xc18_0,xa18_1,xc18_1,rfl,xh18_0,xh18_1⟩:=P7 er18
  have:=xh18_0.slen.2
  have:=xh18_1.slen.2
  refine Ix us_Querys ty_Query Z ea18 g Z om<|Ey Z (l4 (cs:=[_,_]) ty_Query Z (eh18 _) Z)<|Em Z<|E0 Z (a1h (hya _<|List.getElem_mem om) hyb) Z (λhA=>⟨hA.ro hs,hA.ro xh18_0,hA.ro xh18_1,hA.ro hb⟩)<|Ent.b (λq21=>?_)<|λq21=>?_
  ·refine Yno true Z<|Eu<|r8 Z<|v6<|o6<|Et<|Ez Z3<|Em Z<|Yad Z om om<|Ei Z ?_
   exact Eu<|u7 br (g+1) rs (.refl _) ⟨by omega,by grind[a1B,d1,d2,t1,t2]⟩ om
  ·refine Yno false Z<|Eu<|r9 Z<|Ew Z1<|Ei Z<|Eu<|E.ret<|v7<|a5h<|a5h<|v7<|a5h<|Fb Z Z (by grind[a2V,a4p,a1B,d1,d2,t1,t2])
 ·refine Eu<|r8 Z<|E.exit<|l2<|l2<|u4<|Et<|Eq_<|Ew Z1<|Ei Z<|Eu<|E.block<|Lo (κ:=Nat) (λr=>r≤b.length∧b.any (a1B s a)=(b.drop r).any (a1B s a)) (λr=>[(0,.slice a_s s.length c_s),(1,.slice a_a a.length c_a),(2,.slice a_b b.length c_b),(8,.int .i64 (r:Int))]) (λr=>[]) (λr=>b.length-r) 0 ⟨Nat.zero_le _,by simp⟩<|λr pr=>?_
  obtain ⟨pk,pa⟩:=pr
  refine Eq_<|Ew Z4<|Em Z<|Em Z<|Yln us_Querys Z<|Ylt Z<|l3 (λq26=>?_)<|λq26=>?_
  ·refine Eu<|Ct<|Eq_<|E.block<|Ew Z8<|Em Z<|Em Z<|Em Z ?_
   obtain ⟨eb32,eo32,ec32,ea32,er32,el32,eh32⟩:=hb.elem r om
   obtain ⟨xa32_0,xc32_0,xa32_1,xc32_1,rfl,xh32_0,xh32_1⟩:=P7 er32
   have:=xh32_0.slen.2
   have:=xh32_1.slen.2
   refine Ix us_Querys ty_Query Z ea32 r Z om<|Ey Z (l4 (cs:=[_,_]) ty_Query Z (eh32 _) Z)<|Em Z<|E0 Z (a1h (hyb _<|List.getElem_mem om) hya) Z (λhA=>⟨hA.ro hs,hA.ro xh32_0,hA.ro xh32_1,hA.ro ha⟩)<|Ent.b (λq35=>?_)<|λq35=>?_
   ·refine Yno true Z<|Eu<|r8 Z<|v6<|o6<|Et<|Ez Z3<|Em Z<|Yad Z om om<|Ei Z ?_
    exact Eu<|u7 br (r+1) rs (.refl _) ⟨by omega,by grind[a1B,d1,d2,t1,t2]⟩ om
   ·refine Yno false Z<|Eu<|r9 Z<|Ew Z1<|Ei Z<|Eu<|E.ret<|v7<|a5h<|a5h<|v7<|a5h<|Fb Z Z (by grind[a2V,a4p,a1B,d1,d2,t1,t2])
  ·refine Eu<|r8 Z<|E.exit<|l2<|l2<|u4<|Et<|Ew Z9<|Em Z<|Em Z<|E0 Z (a0K fo) Z (λhA=>⟨hA.ro hs,hA.ro ha⟩)<|Ent.b (λq39=>?_)<|λq39=>?_
   ·refine Em Z<|Em Z<|Em Z<|E0 Z (a0K fo) Z (λhA=>⟨hA.ro hs,hA.ro hb⟩)<|Ypt Z<|Ei Z<|Eu<|E.ret<|Fb Z Z (by grind[a2V,a4p,a1B,d1,d2,t1,t2])
   ·refine Em Z<|Es Z<|Es Z<|Es Z<|Ypf Z<|Ei Z<|Eu<|E.ret<|Fb Z Z (by grind[a2V,a4p,a1B,d1,d2,t1,t2])
end Go.Proofs.YthapcdhdfaibkaaGreatDoor
