import Derived.Test.YthapcdhdfaibkaaGreatDoorBl
import Derived.Test.YthapcdhdfaibkaaGreatDoorChecked
import Derived.Shelf.Lays
import Derived.Shelf.Strings.OnBuilder
import Derived.KernelRfl
import Derived.Test.YthapcdhdfaibkaaGreatDoorEi
import Derived.Laws.Concat
import Derived.Laws.IdiomStrings
import Derived.Laws.DeepStrings4
section
namespace Go.Proofs.YthapcdhdfaibkaaGreatDoor
open Go.RowKit
set_option linter.all false
def hpx {κ:Type} (F:κ→List HP):HP where
 holds w L:=∃k,Sep (F k) w L
 stable:=λ⟨k,h⟩ hb=>⟨k,h.stable hb⟩
 inh:=λ⟨k,h⟩=>h.inh
def c6O (RR:World→List Nat→Prop):Prop:=∀(w0:World) (L0:List Nat) (pre rest:List HP) (w:World) (Lp:List Nat),At w0 L0 pre rest w Lp→RR w0 L0→RR w Lp
def FnS {α σ:Type} (P:Program) (g:FuncId) (caps:List Value) (RR:World→List Nat→Prop) (E:Enc α) (val:List Value→Value) (D:σ→α→Prop) (p:α→Bool) (S:σ→HP) (st:σ→α→σ):Prop:=
 ∀cs x s,D s x→Tr P g (val cs::caps) (λw L=>Ro w L E cs x∧RR w L) [S s] (κ:=Unit) (λ_=>True) (λ_=>.bool (p x)) (λ_=>[S (st s x)])
section
variable {P:Program} {Q:Exit→Act→World→Prop} {n:Nat} {w0:World} {L0:List Nat} {fr:Fr} {H R A:List HP} {G:Act→World→Prop} {d:Nat} {ty:TypeId} {pos:String} {af:Array Edge} {g:Option (Nat×Bool)} {κ σ α:Type} {F F':κ→List HP} {RR:World→List Nat→Prop}
theorem c2E (k:κ) (hH:H=F k++R) (h:Ent n w0 L0 fr (hpx F::R) G):Ent n w0 L0 fr H G:=λa w h1 h2=>by
 subst hH
 obtain ⟨L,hs,hn,hst⟩:=h2
 obtain ⟨L1,L2,rfl,g1,g2⟩:=Sep.append.1 hs
 exact h a w h1 ⟨L1++L2,⟨L1,L2,Z,⟨k,g1⟩,g2⟩,hn,hst⟩
theorem c0K (h:∀k,Ent n w0 L0 fr (F k++R) G):Ent n w0 L0 fr (hpx F::R) G:=λa w h1 h2=>by
 obtain ⟨L,⟨L1,L2,rfl,⟨k,g1⟩,g2⟩,hn,hst⟩:=h2
 exact h k a w h1 ⟨L1++L2,Sep.append.2 ⟨L1,L2,Z,g1,g2⟩,hn,hst⟩
end
section
variable {α σ:Type} {s:List α} {st:σ→α→σ} {s0:σ} {p:α→Bool} {k:Nat}
def c6G (p:α→Bool) (s:List α):Nat:=if J0 p s<0 then s.length else (J0 p s).toNat+1
end
end Go.Proofs.YthapcdhdfaibkaaGreatDoor
end
section
namespace Go.Proofs.YthapcdhdfaibkaaGreatDoor
open Go.RowKit
set_option linter.all false
section
variable {P:Program} {n:Nat} {fr:Fr}
theorem b5g (m:Int):I64 (IntKind.i64.wrap m):=by
 unfold I64
 simp only[IntKind.wrap,IntKind.bits,IntKind.signed]
 simp
 split<;>omega
theorem c3Z {x y:Operand} {T U:TypeId} {a b:Int} (hx:ev fr x=some (.int .i64 a)) (hy:ev fr y=some (.int .i64 b)):Yp P n fr (.binOp .add T x y U) (.int .i64 (IntKind.i64.wrap (a+b))):=λac h w' d t p af g=>by
 simp[execOp,h.ev hx,h.ev hy,eqGuard_add,binOp_add,Op.intArith]
theorem b9q {x y:Operand} {T U:TypeId} {a b:Int} (hx:ev fr x=some (.int .i64 a)) (hy:ev fr y=some (.int .i64 b)):Yp P n fr (.binOp .mul T x y U) (.int .i64 (IntKind.i64.wrap (a*b))):=λac h w' d t p af g=>by
 simp[execOp,h.ev hx,h.ev hy,eqGuard_mul,binOp_mul,Op.intArith]
def a5R (a b:Int):Int:=IntKind.i64.wrap ((BitVec.ofInt 64 a^^^BitVec.ofInt 64 b).toNat:Int)
theorem Y.xor {x y:Operand} {T U:TypeId} {a b:Int} (hx:ev fr x=some (.int .i64 a)) (hy:ev fr y=some (.int .i64 b)):Yp P n fr (.binOp .xor T x y U) (.int .i64 (a5R a b)):=λac h w' d t p af g=>by
 simp[execOp,h.ev hx,h.ev hy,eqGuard_xor,binOp_xor,Op.intBits,a5R]
 rfl
theorem b5n {a:Int}:0≤a0P a 255∧a0P a 255≤255:=by
 have h:(BitVec.ofInt 64 a&&&BitVec.ofInt 64 255).toNat≤255:=by
  rw[BitVec.toNat_and]
  exact Nat.le_trans Nat.and_le_right (by decide)
 unfold a0P
 have e:IntKind.i64.wrap ((BitVec.ofInt 64 a&&&BitVec.ofInt 64 255).toNat:Int)=((BitVec.ofInt 64 a&&&BitVec.ofInt 64 255).toNat:Int):=IntWalk.i64_in _ ⟨by omega,by omega⟩
 rw[e];omega
theorem c1l {x:Operand} {S D:TypeId} {a:Int} (hS:P.underlying S=some (.int .u8)) (hD:P.underlying D=some (.int .i64)) (hx:ev fr x=some (.int .u8 a)) (h:0≤a∧a≤255):Yp P n fr (.convert S D x) (.int .i64 a):=λac hF w' d t p af g=>by
 have h1:IntKind.i64.wrap a=a:=IntWalk.i64_in _ ⟨by omega,by omega⟩
 simp[execOp,convert,hF.ev hx,run_underlying hS,run_underlying hD,Conv.intToInt,h1]
end
end Go.Proofs.YthapcdhdfaibkaaGreatDoor
end
section
namespace Go.Proofs.YthapcdhdfaibkaaGreatDoor
open Go.RowKit
set_option linter.all false
abbrev tU8:TypeId:= 5
theorem b0T:TyOk Tryz.prog 5 false 1 [.int .u8 0] 1:=O1 (z:=.int .u8 0) (by kernel_rfl) (by kernel_rfl) Z Z
theorem us_U8s: Tryz.prog.underlying 22 =some (.slice 5):=by kernel_rfl
theorem ty_U8s:TyOk Tryz.prog 22 false 1 [.slice none 0 0] 24:=O1 (z:=.slice none 0 0) (by kernel_rfl) (by kernel_rfl) Z Z
theorem b7a: Tryz.prog.underlying 3 =some (.int .i64):=by kernel_rfl
theorem a8M: Tryz.prog.underlying 5 =some (.int .u8):=by kernel_rfl
theorem ub8 {c:UInt8}:0≤(↑c.toNat:Int)∧(↑c.toNat:Int)≤255:=by
 have:=c.toNat_lt
 omega
def Enc.u8:Enc UInt8 where
 k:=1
 pos:=by decide
 rep _ cs x L _:=cs=[.int .u8 (↑x.toNat:Int)]∧L=[]
 len h:=by rw[h.1];rfl
 one h:=by rw[h.1];simp[Value.oneCell']
 stable h _:=h
 inh h:=by rw[h.2];simp
 ro h:=⟨[],by simp,h.1,Z⟩
abbrev a0f:Enc (List UInt8):=Enc.sl tU8 Enc.u8
section
variable {w0:World} {L0:List Nat} {cs:List Value} {e:TypeId} {xs:List UInt8} {a:Option Addr} {m c:Nat}
theorem Ro.u8 {x:UInt8} (h:Ro w0 L0 Enc.u8 cs x):cs=[.int .u8 (↑x.toNat:Int)]:=let ⟨_,h1,_⟩:=h;h1.1
theorem Ro.elemU (h:Ro w0 L0 (Enc.sl e Enc.u8) [.slice a m c] xs) (i:Nat) (hi:i<xs.length):
  ∃b off,a=some ⟨b,off,none⟩∧∀H,Has w0 L0 H b (off+i*1) [.int .u8 (↑xs[i].toNat:Int)]:=by
 obtain ⟨b,off,ci,h1,h2,h3,h4⟩:=h.elem i hi
 obtain rfl:=h2.u8
 exact ⟨b,off,h1,h4⟩
end
abbrev tl1Cur:TypeId:= 204
theorem ty_l1Cur:TyOk Tryz.prog tl1Cur true 3 [.slice none 0 0,.int .i64 0,.int .i64 0] 40:=O1 (z:=.agg #[.slice none 0 0,.int .i64 0,.int .i64 0]) (by kernel_rfl) (by kernel_rfl) Z Z
theorem fo_l1Cur_0:V0 Tryz.prog tl1Cur 0=some (0, 22):=by kernel_rfl
theorem fo_l1Cur_1:V0 Tryz.prog tl1Cur 1=some (1,tI):=by kernel_rfl
theorem fo_l1Cur_2:V0 Tryz.prog tl1Cur 2=some (2,tI):=by kernel_rfl
theorem pl_l1Cur:a1G Tryz.prog tl1Cur=some [(0,1),(1,1),(2,1)]:=by kernel_rfl
abbrev c5A (m:Nat):Type:={ k:Int×Int//(0≤k.1∧k.1≤(m:Int))∧I64 k.2 }
def curF (b:Nat) (a:Option Addr) (m c:Nat) (k:c5A m):List HP:=[pt b tl1Cur [.slice a m c,.int .i64 k.1.1,.int .i64 k.1.2]]
def cur (b:Nat) (a:Option Addr) (m c:Nat):HP:=hpx (curF b a m c)
section
variable {n:Nat} {w0:World} {L0:List Nat} {fr:Fr} {R:List HP} {G:Act→World→Prop} {b:Nat} {a:Option Addr} {m c:Nat}
theorem Ent.curO (h:∀i h:Int,0≤i∧i≤(m:Int)→I64 h→Ent n w0 L0 fr (pt b tl1Cur [.slice a m c,.int .i64 i,.int .i64 h]::R) G):Ent n w0 L0 fr (cur b a m c::R) G:=c0K λk=>h k.1.1 k.1.2 k.2.1 k.2.2
theorem Ent.curC {i h:Int} (hi:0≤i∧i≤(m:Int)) (hh:I64 h) (k:Ent n w0 L0 fr (cur b a m c::R) G):Ent n w0 L0 fr (pt b tl1Cur [.slice a m c,.int .i64 i,.int .i64 h]::R) G:=c2E (F:=curF b a m c) ⟨(i,h),hi,hh⟩ Z k
end
section
variable {P:Program} {n:Nat} {fr:Fr}
theorem b1p {x y:Operand} {T U:TypeId} {a b:Int} (hx:ev fr x=some (.int .i64 a)) (hy:ev fr y=some (.int .i64 b)) (h: -9223372036854775808≤a*b∧a*b≤9223372036854775807):Yp P n fr (.binOp .mul T x y U) (.int .i64 (a*b)):=by
 have:=b9q (P:=P) (n:=n) (T:=T) (U:=U) hx hy
 rwa [IntWalk.i64_in _ h] at this
theorem b9p {x y:Operand} {T U:TypeId} {a b:Int} (hx:ev fr x=some (.int .i64 a)) (hy:ev fr y=some (.int .u64 b)) (h0:0≤b) (h1:b≤64):Yp P n fr (.binOp .shr T x y U) (.int .i64 (a/2^b.toNat)):=λac h w' d t p af g=>by
 have e:min b.toNat 64=b.toNat:=by omega
 simp[execOp,h.ev hx,h.ev hy,eqGuard_shr,binOp_shr,e]
end
theorem c1g {a:Int}:0≤a0P a 1073741823∧a0P a 1073741823≤1073741823:=by
 have h:(BitVec.ofInt 64 a&&&BitVec.ofInt 64 1073741823).toNat≤1073741823:=by
  rw[BitVec.toNat_and]
  exact Nat.le_trans Nat.and_le_right (by decide)
 unfold a0P
 have e:IntKind.i64.wrap ((BitVec.ofInt 64 a&&&BitVec.ofInt 64 1073741823).toNat:Int)=((BitVec.ofInt 64 a&&&BitVec.ofInt 64 1073741823).toNat:Int):=IntWalk.i64_in _ ⟨by omega,by omega⟩
 rw[e];omega
theorem b1w {x n:Int} (hn:0<n):0≤x % n∧(n≤0→x % n=0)∧(0<n→x % n<n):=⟨Int.emod_nonneg _ (by omega),λh=>by omega,λ_=>Int.emod_lt_of_pos _ hn⟩
theorem b4U {ys:List Int} {g:Nat} {a:Int} (h:ys.length=g∧∀z∈ys,1≤z∧z≤3) (ha:1≤a∧a≤3):(ys++[a]).length=g+1∧∀z∈ys++[a],1≤z∧z≤3:=by
 refine ⟨by simp[h.1],λz hz=>?_⟩
 rcases List.mem_append.1 hz with hz|hz
 ·exact h.2 z hz
 ·rw[List.mem_singleton] at hz;omega
theorem c1w {ys:List Int} {g:Nat} (h:ys.length=g∧∀z∈ys,1≤z∧z≤3) (h1:1≤g) (h2:g≤3):1≤ys.length∧ys.length≤3∧∀z∈ys,1≤z∧z≤3:=⟨by omega,by omega,h.2⟩
end Go.Proofs.YthapcdhdfaibkaaGreatDoor
end
section
namespace Go.Proofs.YthapcdhdfaibkaaGreatDoor
open Go.Shelf
def b2D:Ren:=⟨fun|156=> 153 |165=> 255 |166=> 256 |169=> 257 |240=> 323 |241=> 324 |276=> 366 |277=> 367 |n=>n,fun|31=> 171 |9=> 9 |3=> 3 |4=> 4 |0=> 0 |20=> 20 |72=> 251 |76=> 255 |70=> 249 |37=> 22 |75=> 254 |127=> 300 |164=> 328 |5=> 5 |80=> 257 |n=>n,λn=>n⟩
theorem b7G:Lays.n156 Tryz.prog b2D:={ mixed:=by kernel_rfl,f156:=Eq.trans Tryz.func153 (congrArg some (by kernel_rfl)),f165:=Eq.trans Tryz.func255 (congrArg some (by kernel_rfl)),f166:=Eq.trans Tryz.func256 (congrArg some (by kernel_rfl)),f169:=Eq.trans Tryz.func257 (congrArg some (by kernel_rfl)),f240:=Eq.trans Tryz.func323 (congrArg some (by kernel_rfl)),f241:=Eq.trans Tryz.func324 (congrArg some (by kernel_rfl)),f276:=Eq.trans Tryz.func366 (congrArg some (by kernel_rfl)),f277:=Eq.trans Tryz.func367 (congrArg some (by kernel_rfl)),t0:= Tryz.underlying0,a0:= Tryz.isAgg0,z0:= Tryz.sizeOf0,v0:= Tryz.zeroValue0,t3:= Tryz.underlying3,a3:= Tryz.isAgg3,z3:= Tryz.sizeOf3,v3:= Tryz.zeroValue3,t4:= Tryz.underlying4,a4:= Tryz.isAgg4,z4:= Tryz.sizeOf4,v4:= Tryz.zeroValue4,t9:= Tryz.underlying9,a9:= Tryz.isAgg9,z9:= Tryz.sizeOf9,v9:= Tryz.zeroValue9,t20:= Tryz.underlying20,a20:= Tryz.isAgg20,z20:= Tryz.sizeOf20,v20:= Tryz.zeroValue20,t31:= Tryz.underlying171,a31:= Tryz.isAgg171,z31:= Tryz.sizeOf171,v31:= Tryz.zeroValue171,t37:= Tryz.underlying22,a37:= Tryz.isAgg22,z37:= Tryz.sizeOf22,v37:= Tryz.zeroValue22,t70:= Tryz.underlying249,a70:= Tryz.isAgg249,z70:= Tryz.sizeOf249,v70:= Tryz.zeroValue249,t72:= Tryz.underlying251,a72:= Tryz.isAgg251,z72:= Tryz.sizeOf251,v72:= Tryz.zeroValue251,t75:= Tryz.underlying254,a75:= Tryz.isAgg254,z75:= Tryz.sizeOf254,v75:= Tryz.zeroValue254,t76:= Tryz.underlying255,a76:= Tryz.isAgg255,z76:= Tryz.sizeOf255,v76:= Tryz.zeroValue255,t127:= Tryz.underlying300,a127:= Tryz.isAgg300,z127:= Tryz.sizeOf300,v127:= Tryz.zeroValue300,t164:= Tryz.underlying328,a164:= Tryz.isAgg328,z164:= Tryz.sizeOf328,v164:= Tryz.zeroValue328 }
theorem c0Y:Builder.Extra Tryz.prog b2D where
 sizeBuilder:=by kernel_rfl
 liesBuilder:=by kernel_rfl
 t5:= Tryz.underlying5
 a5:= Tryz.isAgg5
 z5:= Tryz.sizeOf5
 v5:= Tryz.zeroValue5
 infoByte:=by kernel_rfl
 cellsByte:=by kernel_rfl
 sizeByte:=by kernel_rfl
 neB5:=by decide
end Go.Proofs.YthapcdhdfaibkaaGreatDoor
end
section
namespace Go.Proofs.YthapcdhdfaibkaaGreatDoor
open Go.RowKit Go.Shelf
set_option linter.all false
abbrev tS:TypeId:= 9
abbrev O8 (x:List UInt8):Value:=.string ⟨x.toArray⟩
def Enc.str:Enc (List UInt8) where
 k:=1
 pos:=by decide
 rep _ cs x L _:=cs=[O8 x]∧L=[]
 len h:=by rw[h.1];rfl
 one h:=by rw[h.1];simp[Value.oneCell']
 stable h _:=h
 inh h:=by rw[h.2];simp
 ro h:=⟨[],by simp,h.1,Z⟩
abbrev eSs:Enc (List (List UInt8)):=Enc.sl tS Enc.str
theorem frS {a b:List UInt8} (h:a=b):some (O8 a)=some (O8 b):=by rw[h]
section
variable {w0:World} {L0:List Nat} {cs:List Value} {x:List UInt8}
theorem Ro.str (h:Ro w0 L0 Enc.str cs x):cs=[O8 x]:=let ⟨_,h1,_⟩:=h;h1.1
theorem Own.str:Own [] Enc.str [O8 x] x:=λw L hL=>⟨Z,hL⟩
theorem Plain.str:Plain Enc.str:=λw cs x L h=>⟨h.1,Z⟩
theorem Ro.elemS {e:TypeId} {xs:List (List UInt8)} {a:Option Addr} {m c:Nat} (h:Ro w0 L0 (Enc.sl e Enc.str) [.slice a m c] xs) (i:Nat) (hi:i<xs.length):
  ∃b off,a=some ⟨b,off,none⟩∧∀H,Has w0 L0 H b (off+i*1) [O8 xs[i]]:=by
 obtain ⟨b,off,ci,h1,h2,h3,h4⟩:=h.elem i hi
 obtain rfl:=h2.str
 exact ⟨b,off,h1,h4⟩
end
section
variable {P:Program} {n:Nat} {fr:Fr}
theorem O2 {x y:Operand} {T U:TypeId} {a b:List UInt8} (hx:ev fr x=some (O8 a)) (hy:ev fr y=some (O8 b)) (h:a.length+b.length≤9223372036854775807):
  Yp P n fr (.binOp .add T x y U) (O8 (a++b)):=λac hF w' d t p af g=>by
 have h1:=run_string_add_sum (P:=P) w' ⟨a.toArray⟩ ⟨b.toArray⟩ (by simpa[ByteArray.size] using h)
 rw[ByteArray.mk_append_mk] at h1
 simp[execOp,hF.ev hx,hF.ev hy,eqGuard_add,O8,binOp_string_add,h1]
theorem a8z {x y:Operand} {T U:TypeId} {a b:List UInt8} (hx:ev fr x=some (O8 a)) (hy:ev fr y=some (O8 b)):Yp P n fr (.binOp .eql T x y U) (.bool (decide (a=b))):=λac hF w' d t p af g=>by
 have:(ByteArray.toList ⟨a.toArray⟩==ByteArray.toList ⟨b.toArray⟩)=decide (a=b):=by rw[ByteArray.toList_eq,ByteArray.toList_eq];rw[Bool.eq_iff_iff];simp
 simp only[execOp,hF.ev hx,hF.ev hy,Sem.run_bind,eqGuard_at_string,Sem.run_pure,Result.andThen_ok,binOp_string_eql,this]
end
section
variable {P:Program} {n:Nat} {w0:World} {L0:List Nat} {fr:Fr} {H:List HP}
theorem b9W: Tryz.prog.underlying 9 =some .string:=by kernel_rfl
theorem c4R {x y u:Operand} {T:TypeId} {s:List UInt8} {i j:Int} (hT:P.underlying T=some .string) (hx:ev fr x=some (O8 s)) (hy:ev fr y=some (.int .i64 i)) (hu:ev fr u=some (.int .i64 j)) (h0:0≤i∧i≤j) (h1:j≤(s.length:Int)):
  Yp P n fr (.slice T x (some y) (some u) none) (O8 ((s.drop i.toNat).take (j.toNat-i.toNat))):=λac hF w' d t p af g=>by
 have h2:=run_slice_string_if (P:=P) (w:=w') T ⟨s.toArray⟩ .i64 .i64 i j hT
 rw[if_pos ⟨by omega,by simpa[ByteArray.size] using h1⟩,if_pos h0] at h2
 have h3:ByteArray.extract ⟨s.toArray⟩ i.toNat j.toNat=⟨((s.drop i.toNat).take (j.toNat-i.toNat)).toArray⟩:=by
  apply ByteArray.ext
  simp[ByteArray.data_extract,List.extract_toArray,List.extract]
 rw[h3] at h2
 simp[execOp,hF.ev hx,hF.ev hy,hF.ev hu,Instr.sliceAt,run_underlying hT,O8,h2]
theorem Y.quo {x y:Operand} {T U:TypeId} {a b:Int} (hx:ev fr x=some (.int .i64 a)) (hy:ev fr y=some (.int .i64 b)) (ha:I64 a) (hb:1≤b):Yp P n fr (.binOp .quo T x y U) (.int .i64 (a.tdiv b)):=λac hF w' d t p af g=>by
 have h1:IntKind.i64.wrap (a.tdiv b)=a.tdiv b:=IntWalk.i64_quo' _ _ ⟨ha.1,ha.2,hb⟩
 have h2:¬b=0:=by omega
 simp[execOp,hF.ev hx,hF.ev hy,eqGuard_quo,binOp_quo,Op.intDiv,h1,h2]
theorem Y.rem {x y:Operand} {T U:TypeId} {a b:Int} (hx:ev fr x=some (.int .i64 a)) (hy:ev fr y=some (.int .i64 b)) (ha:I64 a) (hb:1≤b):Yp P n fr (.binOp .rem T x y U) (.int .i64 (a.tmod b)):=λac hF w' d t p af g=>by
 have h2:¬b=0:=by omega
 simp[execOp,hF.ev hx,hF.ev hy,eqGuard_rem,binOp_rem,Op.intDiv,h2]
theorem Y.neg {x:Operand} {T:TypeId} {a:Int} (hx:ev fr x=some (.int .i64 a)) (h: -9223372036854775807≤a∧a≤9223372036854775807):Yp P n fr (.unOp .neg T x) (.int .i64 (-a)):=λac hF w' d t p af g=>by
 have h1:IntKind.i64.wrap (0-a)= -a:=by rw[Int.zero_sub];exact IntWalk.i64_in _ ⟨by omega,by omega⟩
 simp only[execOp,hF.ev hx,Op.unary,Op.intArith,h1];simp
theorem b9w {x:Operand} {S D:TypeId} {a:Int} (hS:P.underlying S=some (.int .i64)) (hD:P.underlying D=some (.int .u8)) (hx:ev fr x=some (.int .i64 a)) (h:0≤a∧a≤255):Yp P n fr (.convert S D x) (.int .u8 a):=λac hF w' d t p af g=>by
 have h1:IntKind.u8.wrap a=a:=IntWalk.u8_in _ h
 simp[execOp,convert,hF.ev hx,run_underlying hS,run_underlying hD,Conv.intToInt,h1]
theorem c1o {x:Operand} {S D e:TypeId} {b c:Nat} {v:Int} (hS:P.underlying S=some (.slice e)) (he:P.underlying e=some (.int .u8)) (hD:P.underlying D=some .string) (hx:ev fr x=some (.slice (some ⟨b,0,none⟩) 1 c))
  (hm:row e 1 (some ⟨b,0,none⟩) 1 c [.int .u8 v]∈H) (hv:0≤v∧v≤255):Yd P n w0 L0 fr H (.convert S D x) (O8 [UInt8.ofNat v.toNat]):=λa w ha hw w' hE d t p af g=>by
 have h0:=(Has.row (w0:=w0) (L0:=L0) Z hm) w hw
 have h1:w'.cell? ⟨b,0,none⟩=some (.int .u8 v):=(h0.ext hE) 0 _ Z
 have h2:=run_convert_bytes_back (P:=P) w' S D e ⟨b,0,none⟩ c [UInt8.ofNat v.toNat] hS he hD (λj hj=>by
  have:j=0:=by simpa using hj
  subst this
  rw[show (⟨b,0,none⟩:Addr).add 0=⟨b,0,none⟩ from Z,h1]
  congr 2
  simp;omega)
 simp only[execOp,ha.ev hx]
 rw[show ([UInt8.ofNat v.toNat]:List UInt8).length=1 from Z] at h2
 simp[h2]
end
theorem c0O {P:Program} {f:FuncId} {args:List Value} {R:World→List Nat→Prop} {v:Value} (he:a5y P f) (h:∀w L,R w L→Calls P f args.toArray w λe w'=>e= .returned v∧Below w.heap.size w w'):
  Tr P f args R [] (κ:=Unit) (λ_=>True) (λ_=>v) (λ_=>[]):=by
 refine ⟨he,λw L hR hs hn=>?_⟩
 rw[Sep] at hs;subst hs
 refine (h w [] hR).mono ?_
 rintro e w' ⟨rfl,hb⟩
 exact ⟨(),trivial,Z,[],Z,List.nodup_nil,hb.os,hb.tape,hb.output,hb.size,λb hb' _=>hb.block b hb',by simp⟩
theorem a8U {a_elems:Option Addr} {m_elems c_elems:Nat} {elems:List (List UInt8)} {sep:List UInt8} (hn:elems.length≤140737488355328) (hz:(Lib.join elems sep).length≤140737488355328):
  Tr Tryz.prog 153 [.slice a_elems m_elems c_elems,O8 sep] (λw L=>Ro w L eSs [.slice a_elems m_elems c_elems] elems) [] (κ:=Unit) (λ_=>True) (λ_=>O8 (Lib.join elems sep)) (λ_=>[]):=by
 refine c0O ⟨_,b7G.f156,Z,by decide+kernel⟩ λw L h=>?_
 obtain ⟨rfl,_⟩:=h.slen
 have hcap:=h.cap
 by_cases h0:elems.length=0
 ·have:=List.eq_nil_of_length_eq_zero h0
  subst this
  refine (Any.strings_Join_none b7G c0Y a_elems c_elems ⟨sep.toArray⟩ w).mono ?_
  rintro e w' ⟨rfl,rfl⟩
  exact ⟨Z,Below.refl _ _⟩
 ·have hw:Hp w L [] w:=⟨[],Z,List.nodup_nil,⟨Z,Z,Z,Nat.le_refl _,λ_ _ _=>rfl,by simp⟩⟩
  obtain ⟨b,off,rfl,h2⟩:=h.elemS 0 (by omega)
  have hcell:∀(j:Nat) (hj:j<elems.length),w.cell? ⟨b,off+j,none⟩=some (O8 elems[j]):=λj hj=>by
   obtain ⟨b',off',e,h3⟩:=h.elemS j hj
   simp only[Option.some.injEq,Addr.mk.injEq,and_true] at e
   obtain ⟨rfl,rfl⟩:=e
   have:=h3 [] w hw 0 _ Z
   simpa using this
  have hb:b<w.heap.size:=by
   have h4:=hcell 0 (by omega)
   rcases Nat.lt_or_ge b w.heap.size with h5|h5
   ·exact h5
   ·simp[World.cell?,Array.getElem?_eq_none h5] at h4
  have hj:(elems.map λs=>ByteArray.mk s.toArray).map (·.data.toList)=elems:=by simp[List.map_map,Function.comp_def]
  have h6:=Any.strings_Join b7G c0Y b off c_elems (elems.map λs=>ByteArray.mk s.toArray) ⟨sep.toArray⟩ w (λj x hx=>by
   rw[List.getElem?_map] at hx
   obtain ⟨s,hs,rfl⟩:=Option.map_eq_some_iff.1 hx
   obtain ⟨h7,h8⟩:=List.getElem?_eq_some_iff.1 hs
   rw[hcell j h7,h8]) hb (by simpa using hn) (by simpa using hcap.1) (by rw[hj];exact hz)
  rw[hj,List.length_map] at h6
  exact h6
end Go.Proofs.YthapcdhdfaibkaaGreatDoor
end
