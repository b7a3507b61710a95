import Derived.Test.YthapcdhdfaibkaaGreatDoorT19
namespace Go.Proofs.YthapcdhdfaibkaaGreatDoor
open Go.RowKit
set_option linter.all false
set_option maxHeartbeats 2000000
attribute [local irreducible] Nop Yd Yp Ent Has Tr FnP FnP2 Src K8 Q7 R5 S1 E8
variable {d6:List IL} {u:List (List Int×List IL)} {s:List Int} {m_s c_s m_u c_u m_facts c_facts:Nat} {a_s a_u a_facts:Option Addr}
theorem a4m {a_l:Option Addr} {m_l c_l:Nat} {l:List (List Int)} {a_more:Option Addr} {m_more c_more:Nat} {more:List (List Int)} (hz:l.length+more.length≤100000000) (hym:∀t∈more,t.length≤1048576):Tr Tryz.prog 130 [.slice a_l m_l c_l,.slice a_more m_more c_more] (λw L=>Ro w L D5 [.slice a_more m_more c_more] more) [ow D5 [.slice a_l m_l c_l] l] (κ:=SL) (λk=>True) (λk=>.slice k.1 k.2.1 k.2.2) (λk=>[ow D5 [.slice k.1 k.2.1 k.2.2] (more.foldl K6 l)]):=by
 refine Ti2 Tryz.func130 18 Z λw L hR=>?_
 have hmore:=hR
 obtain ⟨rfl,lmore⟩:=hmore.slen
 refine f0 m0 ?_
 rintro rfl ll
 refine Ew Z1<|Ei Z<|Eu<|Eq_<|Ew Z3<|Em Z<|Yln us_Iss Z<|Em Z<|Eu<|E.block<|g9 (congrArg (ow D5 [_]) (show _=(more.take 0).foldl K6 l from by first|rfl|(simp;done)|grind[d1,d2,t1,t2]))<|Lo (κ:=Nat×SL) (λg=>g.1≤more.length∧True) (λg=>[(0,.slice g.2.1 g.2.2.1 g.2.2.2),(7,.slice a_more more.length c_more),(8,.int .i64 (↑more.length:Int)),(9,.int .i64 (↑g.1:Int))]) (λg=>[ow D5 [.slice g.2.1 g.2.2.1 g.2.2.2]<|(more.take g.1).foldl K6 l]) (λg=>more.length-g.1) (0,a_l,l.length,c_l) ⟨Nat.zero_le _,by simp⟩<|λg pg=>?_
 obtain ⟨g,aA0_0,mA0_0,cA0_0⟩:=g
 try dsimp only at pg
 try dsimp only
 obtain ⟨pk,pa⟩:=pg
 have jn:=(a3h (n:=0) (m:=more.take g) (out:=l)).1
 have jp:=List.length_take_le g more
 refine f0 m0 ?_
 rintro rfl laA0_0
 refine Ew Z1<|Ylt Z<|l3 (λq10=>?_)<|λq10=>?_
 ·obtain ⟨eb11,eo11,ec11,ea11,er11,el11,eh11⟩:=hmore.elem g om
  obtain ⟨xa11,xc11,rfl⟩:=er11.sl
  have:=er11.slen.2
  refine Eu<|Eq_<|Ct<|Eq_<|E.block<|Ew Z3<|Il us_Iss ty_Is Z ea11 g Z om Z (eh11 _)<|Ei Z<|Eu<|Ez Z4<|Em Z<|Em Z<|Est Z (N.call (pre:=[_]) (a4v fo<|hym _<|List.getElem_mem om) Z Z Z dc Z<|λw Lp hA=>hA.ro er11)<|λk15 _=>?_
  obtain ⟨a15,m15,c15⟩:=k15
  refine f0 m0 ?_
  rintro rfl l15
  refine Ei Z<|En<|o6<|Et<|Ez Z2<|Yad Z om om<|Em Z<|Eu<|g9 (congrArg (ow D5 [_]) (show _=(more.take<|g+1).foldl K6 l from by grind[d1,d2,t1,t2])) ?_
  exact Ea (g+1,a15,_,c15) ⟨oz,trivial⟩
 ·refine Eu<|Eq_<|r8 Z<|E.exit<|l2<|l2<|u4<|Et<|Ew Z2<|Em Z<|Ei Z<|Eu<|E.ret<|g9 (congrArg (ow D5 [_]) (show _=more.foldl K6 l by grind[d1,d2,t1,t2]))<|Fg Z Z (_,_,_) Z Z
theorem c7b (hyu:∀q∈u,D8 (λx=>x.2.length) q.2≤1048576):TL Tryz.prog 35 [.slice a_s m_s c_s,.slice a_u m_u c_u,.slice a_facts m_facts c_facts] (λw L=>Ro w L eIs [.slice a_s m_s c_s] s∧Ro w L y7 [.slice a_u m_u c_u] u∧Ro w L t7 [.slice a_facts m_facts c_facts] d6) D5 (a1x s u d6):=by
 refine Ti3 Tryz.func35 43 Z λw L hR=>?_
 obtain ⟨hs,hu,hfacts⟩:=hR
 obtain ⟨rfl,ls⟩:=hs.slen
 obtain ⟨rfl,lu⟩:=hu.slen
 obtain ⟨rfl,lfacts⟩:=hfacts.slen
 refine Ew Z1<|Ei Z<|Ev Z2<|Est Z (Nb [] [] us_Iss ty_Is Z Z)<|λb11 _=>Ent.drop<|Ei Z<|Eu<|Eq_<|Ew Z1<|Ei Z<|Eu<|E.block<|m8 (A:=[]) (Own.nil (E:=eIs) (e:=tIs) (a:=(some ⟨b11,0,none⟩))) Z<|g9 (congrArg (ow D5 [_]) (show _=(u.take 0).foldl (a1H s d6) [] from by first|rfl|(simp;done)|grind[a1x,a1H,d1,d2,t1,t2]))<|Lo (κ:=Nat×SL) (λg=>g.1≤u.length∧(g.1=0∨F9 s u=true)) (λg=>[(0,.slice a_s s.length c_s),(1,.slice a_u u.length c_u),(2,.slice a_facts d6.length c_facts),(7,.slice g.2.1 g.2.2.1 g.2.2.2),(8,.int .i64 (↑g.1:Int))]) (λg=>[ow D5 [.slice g.2.1 g.2.2.1 g.2.2.2]<|(u.take g.1).foldl (a1H s d6) []]) (λg=>u.length-g.1) (0,(some ⟨b11,0,none⟩),0,0) ⟨Nat.zero_le _,by simp⟩<|λg pg=>?_
 obtain ⟨g,aA0_0,mA0_0,cA0_0⟩:=g
 try dsimp only at pg
 try dsimp only
 obtain ⟨pk,pa⟩:=pg
 refine f0 m0 ?_
 rintro rfl laA0_0
 refine Eq_<|Ew Z9<|Em Z<|Em Z<|Yln us_Querys Z<|Ylt Z<|l3 (λq15=>?_)<|λq15=>?_
 ·refine Em Z<|Em Z<|Em Z<|E0 Z (a0K hyu) Z (λhA=>⟨hA.ro hs,hA.ro hu⟩)<|Ent.b (λq19=>?_)<|λq19=>?_
  ·have ju:=b2I (s:=s) (u:=u) (by assumption)
   refine Ypt Z<|Eu<|Ct<|Eq_<|E.block<|Ew Z8<|Em Z<|Em Z<|Em Z ?_
   obtain ⟨eb26,eo26,ec26,ea26,er26,el26,eh26⟩:=hu.elem g om
   obtain ⟨xa26_0,xc26_0,xa26_1,xc26_1,rfl,xh26_0,xh26_1⟩:=P7 er26
   have:=xh26_0.slen.2
   have:=xh26_1.slen.2
   refine Ix us_Querys ty_Query Z ea26 g Z om<|Ey Z (l4 (cs:=[_,_]) ty_Query Z (eh26 _) Z)<|Em Z<|El Z (b9R<|hyu _<|List.getElem_mem om) Z (λhA=>⟨hA.ro hs,hA.ro xh26_0,hA.ro xh26_1,hA.ro hfacts⟩)<|λa29 c29 l29=>a0n (A:=[_]) Z λwb1 Lb1 hB1 hA1=>?_
   have hs:=hA1.ro hs
   have hu:=hA1.ro hu
   have hfacts:=hA1.ro hfacts
   have xh26_0:=hA1.ro xh26_0
   have xh26_1:=hA1.ro xh26_1
   have eh26:=hB1.has eh26
   have rb1:Ro wb1 Lb1 D5 [.slice a29 (U8 s u[g] d6).length c29] (U8 s u[g] d6):=hA1.ow m0
   refine Ei Z<|Ev Z1<|Ei Z<|Eu<|E.block<|g9 (congrArg (ow D5 [_]) (show _=((U8 s u[g] d6).take 0).foldl K6 ((u.take g).foldl (a1H s d6) []) from by first|rfl|(simp;done)|grind[a1x,a1H,d1,d2,t1,t2]))<|Lo (κ:=Nat×SL) (λh=>h.1≤(U8 s u[g] d6).length∧True) (λh=>[(0,.slice a_s s.length c_s),(1,.slice a_u u.length c_u),(2,.slice a_facts d6.length c_facts),(7,.slice h.2.1 h.2.2.1 h.2.2.2),(8,.int .i64 (g:Int)),(9,.slice a29 (U8 s u[g] d6).length c29),(10,.int .i64 (↑h.1:Int))]) (λh=>[ow D5 [.slice h.2.1 h.2.2.1 h.2.2.2]<|((U8 s u[g] d6).take h.1).foldl K6 ((u.take g).foldl (a1H s d6) [])]) (λh=>(U8 s u[g] d6).length-h.1) (0,aA0_0,((u.take g).foldl (a1H s d6) []).length,cA0_0) ⟨Nat.zero_le _,by simp⟩<|λh ph=>?_
   obtain ⟨h,aA1_0,mA1_0,cA1_0⟩:=h
   try dsimp only at ph
   try dsimp only
   obtain ⟨pk,pa⟩:=ph
   have jr:=b5o (s:=s) (q:=u[g]) (d6:=d6)
   have jt:=c0l (s:=s) (d6:=d6) (u:=u) (g:=g) (h:=h) (m:=U8 s u[g] d6) om jr.1 jr.2
   refine f0 m0 ?_
   rintro rfl laA1_0
   refine Eq_<|Ew Z4<|Em Z<|Em Z<|Yln us_Iss Z<|Ylt Z<|l3 (λq33=>?_)<|λq33=>?_
   ·refine Eu<|Ct<|Eq_<|E.block<|Ez Z7<|Em Z<|Em Z<|Em Z ?_
    obtain ⟨eb39,eo39,ec39,ea39,er39,el39,eh39⟩:=rb1.elem h om
    obtain ⟨xa39,xc39,rfl⟩:=er39.sl
    have:=er39.slen.2
    refine Il us_Iss ty_Is Z ea39 h Z om Z (eh39 _)<|El Z (a5p (Nat.le_trans jt.1 dc) jt.2<|Nat.le_trans (jr.2 _<|List.getElem_mem om) dc) Z (λhA=>⟨hA.ow m0,hA.ro er39⟩)<|λa41 c41 l41=>Ei Z<|En<|o6<|Et<|Ez Z3<|Em Z<|Yad Z om om<|Ei Z<|Eu<|d8<|Ent.drop<|g9 (congrArg (ow D5 [_]) (show _=((U8 s u[g] d6).take (h+1)).foldl K6 ((u.take g).foldl (a1H s d6) []) from by grind[a1x,a1H,d1,d2,t1,t2])) ?_
    exact Ea (h+1,a41,_,c41) ⟨oz,trivial⟩
   ·refine Eu<|r8 Z<|E.exit<|l2<|l2<|u4<|o6<|Et<|Ez Z3<|Em Z<|Yad Z om om<|Ei Z<|Eu<|g9 (congrArg (ow D5 [_]) (show _=(u.take<|g+1).foldl (a1H s d6) [] from by grind[a1x,a1H,d1,d2,t1,t2])) ?_
    exact u7 hB1 (g+1,aA1_0,(((U8 s u[g] d6).take h).foldl K6 ((u.take g).foldl (a1H s d6) [])).length,cA1_0) rs (.refl _) ⟨oz,(show ((g+1)=0∨F9 s u=true) from by exact .inr (by assumption))⟩ oz
  ·refine Ypt Z<|Eu<|r8 Z<|E.exit<|l2<|l2<|u4<|Et<|Ew Z2<|Em Z<|Ei Z<|Eu<|E.ret<|g9 (congrArg (ow D5 [_]) (show _=a1x s u d6 by grind[a1x,a1H,d1,d2,t1,t2]))<|Fg Z Z (_,_,_) Z Z
 ·refine Em Z<|Es Z<|Es Z<|Es Z<|Ypf Z<|Eu<|r8 Z<|E.exit<|l2<|l2<|u4<|Et<|Ew Z2<|Em Z<|Ei Z<|Eu<|E.ret<|g9 (congrArg (ow D5 [_]) (show _=a1x s u d6 by grind[a1x,a1H,d1,d2,t1,t2]))<|Fg Z Z (_,_,_) Z Z
theorem a3J (hyu:∀q∈u,D8 (λx=>x.2.length) q.2≤1048576):TL Tryz.prog 31 [.slice a_s m_s c_s,.slice a_u m_u c_u,.slice a_facts m_facts c_facts] (λw L=>Ro w L eIs [.slice a_s m_s c_s] s∧Ro w L y7 [.slice a_u m_u c_u] u∧Ro w L t7 [.slice a_facts m_facts c_facts] d6) D5 (a1x s u d6):=by
 refine Ti3 Tryz.func31 34 Z λw L hR=>?_
 obtain ⟨hs,hu,hfacts⟩:=hR
 obtain ⟨rfl,ls⟩:=hs.slen
 obtain ⟨rfl,lu⟩:=hu.slen
 obtain ⟨rfl,lfacts⟩:=hfacts.slen
 refine Ew Z1<|Ei Z<|Eu<|Eq_<|Ew Z10<|Em Z<|Em Z<|E0 Z (a0h hyu) Z (λhA=>⟨hA.ro hs,hA.ro hu⟩)<|Ent.b (λq12=>?_)<|λq12=>?_
 ·refine Yno true Z<|Em Z<|Em Z<|Em Z<|E0 Z a5q Z (λhA=>⟨hA.ro hs,hA.ro hfacts⟩)<|Ent.b (λq17=>?_)<|λq17=>?_
  ·refine Yno true Z<|Ypf Z<|Eu<|Cf<|Ew Z2<|Est Z (Nb [] [] us_Iss ty_Is Z Z)<|λb20 _=>Ent.drop<|Ei Z<|Eu<|Eq_<|Ew Z3<|Em Z<|Yln us_Querys Z<|Em Z<|Eu<|E.block<|m8 (A:=[]) (Own.nil (E:=eIs) (e:=tIs) (a:=(some ⟨b20,0,none⟩))) Z<|g9 (congrArg (ow D5 [_]) (show _=(u.take 0).foldl (a1H s d6) [] from by first|rfl|(simp;done)|grind[a1x,a1H,a6d,d1,d2,t1,t2]))<|Lo (κ:=Nat×SL) (λg=>g.1≤u.length∧True) (λg=>[(2,.slice a_facts d6.length c_facts),(7,.slice g.2.1 g.2.2.1 g.2.2.2),(21,.slice a_u u.length c_u),(22,.int .i64 (↑u.length:Int)),(23,.int .i64 (↑g.1:Int))]) (λg=>[ow D5 [.slice g.2.1 g.2.2.1 g.2.2.2]<|(u.take g.1).foldl (a1H s d6) []]) (λg=>u.length-g.1) (0,(some ⟨b20,0,none⟩),0,0) ⟨Nat.zero_le _,by simp⟩<|λg pg=>?_
   obtain ⟨g,aA0_0,mA0_0,cA0_0⟩:=g
   try dsimp only at pg
   try dsimp only
   obtain ⟨pk,pa⟩:=pg
   have ju:=b2I (s:=s) (u:=u) (by assumption)
   have jf:=N4 (s:=s) (l:=d6) (by assumption)
   have jt:=c0l (s:=s) (d6:=d6) (u:=u) (g:=g) (h:=0) (m:=[]) om (by simp) (by simp)
   rw[List.take_nil,List.foldl_nil] at jt
   refine f0 m0 ?_
   rintro rfl laA0_0
   refine Ew Z1<|Ylt Z<|l3 (λq24=>?_)<|λq24=>?_
   ·have jq:=D1 (ju.2 u[g] (List.getElem_mem om))
    have jx:=b9T (d6:=d6) (ju.2 u[g] (List.getElem_mem om)) (by assumption)
    have jr:=b5o (s:=s) (q:=u[g]) (d6:=d6)
    rw[jx] at jr
    obtain ⟨eb25,eo25,ec25,ea25,er25,el25,eh25⟩:=hu.elem g om
    obtain ⟨xa25_0,xc25_0,xa25_1,xc25_1,rfl,xh25_0,xh25_1⟩:=P7 er25
    have:=xh25_0.slen.2
    have:=xh25_1.slen.2
    refine Eu<|Eq_<|Ct<|Eq_<|E.block<|Ew Z4<|Ix us_Querys ty_Query Z ea25 g Z om<|Ey Z (l4 (cs:=[_,_]) ty_Query Z (eh25 _) Z)<|Est Z (N.alloc ty_Query dc)<|λb9 _=>Est Z (Ns [_,_] ty_Query Z)<|λ_ _=>Eu<|Ez Z6<|Em Z<|Ey Z (l4 (cs:=[_,_]) ty_Query Z (Has.pt m0) Z)<|Em Z<|El Z (b1U jq.1 jq.2.2 (λa _=>a5r jf.1) jq.2.1) Z (λhA=>⟨hA.ro xh25_0,hA.ro xh25_1,hA.ro hfacts⟩)<|λa30 c30 l30=>i9<|Est Z (N.call (pre:=[_]) (a4m om<|λt ht=>Nat.le_trans (jr.2 t ht) dc) Z Z Z dc Z<|λw Lp hA=>hA.ow m0)<|λk31 _=>?_
    obtain ⟨a31,m31,c31⟩:=k31
    refine f0 m0 ?_
    rintro rfl l31
    refine Ei Z<|En<|o6<|Et<|Ez Z2<|Yad Z om om<|Em Z<|Eu<|d8<|Ent.drop<|d8<|Ent.drop<|g9 (congrArg (ow D5 [_]) (show _=(u.take<|g+1).foldl (a1H s d6) [] from by grind[a1x,a1H,a6d,d1,d2,t1,t2])) ?_
    exact Ea (g+1,a31,_,c31) ⟨oz,trivial⟩
   ·refine Eu<|Eq_<|r8 Z<|E.exit<|l2<|l2<|u4<|Et<|Ew Z2<|Em Z<|Ei Z<|Eu<|E.ret<|g9 (congrArg (ow D5 [_]) (show _=a1x s u d6 by grind[a1x,a1H,a6d,d1,d2,t1,t2]))<|Fg Z Z (_,_,_) Z Z
  ·refine Yno false Z<|Ypf Z<|Eu<|r9 Z<|Ew Z1<|Ei Z<|Eu<|E.ret<|a5h<|m8 (A:=[]) (Own.nil (E:=eIs) (e:=tIs) (a:=none)) Z<|g9 (congrArg (ow D5 [_]) (show _=a1x s u d6 by grind[a1x,a1H,a6d,d1,d2,t1,t2]))<|Fg Z Z (none,0,0) Z Z
 ·refine Yno false Z<|Em Z<|Es Z<|Es Z<|Es Z<|Es Z<|Ypt Z<|Eu<|r9 Z<|Ew Z1<|Ei Z<|Eu<|E.ret<|a5h<|m8 (A:=[]) (Own.nil (E:=eIs) (e:=tIs) (a:=none)) Z<|g9 (congrArg (ow D5 [_]) (show _=a1x s u d6 by grind[a1x,a1H,a6d,d1,d2,t1,t2]))<|Fg Z Z (none,0,0) Z Z
end Go.Proofs.YthapcdhdfaibkaaGreatDoor
