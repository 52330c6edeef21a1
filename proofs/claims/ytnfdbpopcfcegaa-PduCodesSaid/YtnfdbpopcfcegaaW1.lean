/- Part 1 of the walk and of the plain law of PduCuts. -/
import Derived.Test.YtnfdbpopcfcegaaFw5
import Derived.Test.YtnfdbpopcfcegaaChecked
import Derived.KernelRfl
import Derived.IntWalk
import Derived.Lib.BytesEntry
import Derived.Lib.Bytealg
import Derived.Laws.Externs
set_option maxRecDepth 100000
set_option maxHeartbeats 0
set_option linter.unusedVariables false
set_option linter.unusedSimpArgs false
open Go Go.Abs
namespace Gp
def nS :IVal:=.v (.slice none 0 0)
structure Addr where
 hi:Int
 lo:Int
 deriving DecidableEq,Inhabited
theorem Addr.ext_iff {a b:Addr}:a=b↔a.hi=b.hi∧a.lo=b.lo:=by
 cases a;cases b;simp
structure Pfx where
 fam:Int
 addr:Addr
 len:Int
 deriving DecidableEq,Inhabited
structure Origin where
 asn:Int
 pfx:Pfx
 max:Int
 deriving DecidableEq,Inhabited
structure Attest where
 cust:Int
 provs:List Int
 deriving DecidableEq,Inhabited
def u8 (n:Int):IVal:=.v (.int .u8 n)
def u16 (n:Int):IVal:=.v (.int .u16 n)
def u32 (n:Int):IVal:=.v (.int .u32 n)
def u64 (n:Int):IVal:=.v (.int .u64 n)
def i64 (n:Int):IVal:=.v (.int .i64 n)
def bo (b:Bool):IVal:=.v (.bool b)
def encA (a:Addr):IVal:=.agg [u64 a.hi,u64 a.lo]
def encP (p:Pfx):IVal:=.agg [u8 p.fam,u64 p.addr.hi,u64 p.addr.lo,i64 p.len]
def encO (o:Origin):IVal:=.agg [u32 o.asn,u8 o.pfx.fam,u64 o.pfx.addr.hi,u64 o.pfx.addr.lo,i64 o.pfx.len,i64 o.max]
noncomputable abbrev prog :=Proofs.Try.prog
def sl1 (l:List IVal):IVal:=.sl false false 1 l
theorem getD_map {α:Type}(f:α→IVal)(l:List α)(i:Nat)(d:α)(h:i<l.length):(l.map f)[i]?=some (f (l.getD i d)):=by
 simp[List.getElem?_eq_getElem h,List.getD_eq_getElem?_getD]
theorem i64_small {n:Nat}{l:Nat}(h:n<l)(hl:l≤2^62):IntKind.i64.wrap ((n:Int)+1)=((n+1:Nat):Int):=by
 rw[IntWalk.i64_in _ (by omega)];omega
def width (f:Int):Int:=if f=4 then 32 else if f=6 then 128 else 0
theorem t94 (f:Int):levF prog Proofs.Try.f94 [u8 f] {}=
 Tree.br (decide (f=4)) (.done Exit.ret (lret (i64 32))) (.br (decide (f=6)) (.done Exit.ret (lret (i64 128))) (.done Exit.ret (lret (i64 0)))):=by kernel_rfl
theorem c94 (f:Int):ASpec prog 94 [u8 f] (i64 (width f)):=by
 refine ASpec.tree Proofs.Try.f94 {} (by kernel_rfl) (by kernel_rfl) (t94 f) ?_
 simp only[Tree.sat,i64,width];grind
def andA (a b:Addr):Addr:=⟨ibits .u64 (· &&& ·) a.hi b.hi,ibits .u64 (· &&& ·) a.lo b.lo⟩
theorem t96 (a b:Addr):levF prog Proofs.Try.f96 [encA a,encA b] {}=
 Tree.done Exit.ret (lret (.agg [u64 (ibits IntKind.u64 (fun x1 x2=>x1&&& x2) a.hi b.hi),u64 (ibits IntKind.u64 (fun x1 x2=>x1&&& x2) a.lo b.lo)])):=by kernel_rfl
theorem c96 (a b:Addr):ASpec prog 96 [encA a,encA b] (encA (andA a b)):=by
 refine ASpec.tree Proofs.Try.f96 {} (by kernel_rfl) (by kernel_rfl) (t96 a b) ?_
 rfl
def ckA (f:Int)(a:Addr):Bool:=decide (f=6)||(decide (f=4)&&decide (a.hi=0)&&decide (a.lo<4294967296))
theorem t95 (f:Int)(a:Addr):levF prog Proofs.Try.f95 [u8 f,encA a] {}=
 Tree.br (decide (f=6)) (.done Exit.ret (lret (bo true))) (.br (decide (f=4)) (.br (decide (a.hi=0)) (.done Exit.ret (lret (bo (decide (a.lo<4294967296))))) (.done Exit.ret (lret (bo false)))) (.done Exit.ret (lret (bo false)))):=by kernel_rfl
theorem c95 (f:Int)(a:Addr):ASpec prog 95 [u8 f,encA a] (bo (ckA f a)):=by
 refine ASpec.tree Proofs.Try.f95 {} (by kernel_rfl) (by kernel_rfl) (t95 f a) ?_
 simp only[Tree.sat,bo,ckA];grind
def ones :Int:=18446744073709551615
def shl64 (a n:Int):Int:=IntKind.u64.wrap (a*2^(min n.toNat 64))
def maskM (f m:Int):Addr:=
 if 64≤m then(if f=4 then⟨0,ibits .u64 (· &&& ·) 0 4294967295⟩else⟨shl64 ones (m-64),0⟩)else if f=4 then⟨0,ibits .u64 (· &&& ·) (shl64 ones m) 4294967295⟩else⟨ones,shl64 ones m⟩
def mask (f n:Int):Addr:=maskM f (width f-n)
def T97 (f:Int):Tell:={O:=fun r i=>match r,i with|1,1=>.call [u8 f] (i64 (width f))|_,_=>.no}
theorem t97 (f n:Int):levF prog Proofs.Try.f97 [u8 f,i64 n] (T97 f)=
 (let q0:=IntKind.wrap IntKind.u64 ((18446744073709551615:Int)*(2:Int)^min (Int.toNat (IntKind.wrap IntKind.i64 (width f-n))) 64);let q1:=IntKind.wrap IntKind.i64 (width f-n)-64;
 Tree.need (ILeL [u8 f] [u8 f]∧ASpec prog 94 [u8 f] (i64 (width f))) (.br (decide (64≤IntKind.wrap IntKind.i64 (width f-n))) (.need (0≤IntKind.wrap IntKind.i64 q1) (.br (decide (f=4)) (.done Exit.ret (lret (.agg [u64 0,u64 (ibits IntKind.u64 (fun x1 x2=>x1&&& x2) 0 4294967295)]))) (.done Exit.ret (lret (.agg [u64 (IntKind.wrap IntKind.u64 ((18446744073709551615:Int)*(2:Int)^min (Int.toNat (IntKind.wrap IntKind.i64 q1)) 64)),u64 0]))))) (.need (0≤IntKind.wrap IntKind.i64 (width f-n)) (.br (decide (f=4)) (.done Exit.ret (lret (.agg [u64 0,u64 (ibits IntKind.u64 (fun x1
 x2=>x1&&& x2) q0 4294967295)]))) (.done Exit.ret (lret (.agg [u64 18446744073709551615,u64 q0]))))))):=by kernel_rfl
theorem width_le (f:Int):width f≤128:=by
 unfold width
 by_cases h:f=4
 ·simp[h]
 ·by_cases h6:f=6<;>simp[h,h6]
theorem c97 (f n:Int)(h:0≤n)(h':n≤width f):ASpec prog 97 [u8 f,i64 n] (encA (mask f n)):=by
 refine ASpec.tree Proofs.Try.f97 (T97 f) (by kernel_rfl) (by kernel_rfl) (t97 f n) ?_
 have hw:width f≤128:=width_le f
 have e1:IntKind.i64.wrap (width f-n)=width f-n:=IntWalk.i64_in _ (by omega)
 refine⟨⟨ILeL.refl _,c94 f⟩,fun _=>?_⟩
 rw[e1]
 refine⟨fun hb=>?_,fun hb=>?_⟩
 ·have hb:64≤width f-n:=by simpa using hb
  have e2:IntKind.i64.wrap (width f-n-64)=width f-n-64:=IntWalk.i64_in _ (by omega)
  rw[e2]
  refine⟨by omega,fun _=>⟨fun h4=>?_,fun h4=>?_⟩⟩
  ·have hm:mask f n=⟨0,ibits .u64 (· &&& ·) 0 4294967295⟩:=by unfold mask maskM;rw[if_pos hb,if_pos (by simpa using h4)]
   rw[hm];rfl
  ·have hm:mask f n=⟨shl64 ones (width f-n-64),0⟩:=by unfold mask maskM;rw[if_pos hb,if_neg (by simpa using h4)]
   rw[hm];rfl
 ·have hb:¬64≤width f-n:=by simpa using hb
  refine⟨by omega,fun _=>⟨fun h4=>?_,fun h4=>?_⟩⟩
  ·have hm:mask f n=⟨0,ibits .u64 (· &&& ·) (shl64 ones (width f-n)) 4294967295⟩:=by unfold mask maskM;rw[if_neg hb,if_pos (by simpa using h4)]
   rw[hm];rfl
  ·have hm:mask f n=⟨ones,shl64 ones (width f-n)⟩:=by unfold mask maskM;rw[if_neg hb,if_neg (by simpa using h4)]
   rw[hm];rfl
def ckP (p:Pfx):Int:=
 if width p.fam=0 then 2 else if ckA p.fam p.addr=true∧0≤p.len∧p.len≤width p.fam∧andA p.addr (mask p.fam p.len)=p.addr then 0 else 8
def T86 (p:Pfx):Tell:={O:=fun r i=>match r,i with
 |1,2=>.call [u8 p.fam] (i64 (width p.fam))|3,4=>.call [u8 p.fam,encA p.addr] (bo (ckA p.fam p.addr))|3,16=>.call [u8 p.fam] (i64 (width p.fam))|3,26=>.call [u8 p.fam,i64 p.len] (encA (mask p.fam p.len))
 |3,27=>.call [encA p.addr,encA (mask p.fam p.len)] (encA (andA p.addr (mask p.fam p.len)))|_,_=>.no}
theorem t86 (p:Pfx):levF prog Proofs.Try.f86 [encP p] (T86 p)=
 (let q0:=mask p.fam p.len;let q1:=andA p.addr q0;
 Tree.need (ILeL [u8 p.fam] [u8 p.fam]∧ASpec prog 94 [u8 p.fam] (i64 (width p.fam))) (.br (decide (width p.fam=0)) (.done Exit.ret (lret (i64 2))) (.need (ILeL [u8 p.fam,.agg [u64 p.addr.hi,u64 p.addr.lo]] [u8 p.fam,encA p.addr]∧ASpec prog 95 [u8 p.fam,encA p.addr] (bo (ckA p.fam p.addr))) (.br (!ckA p.fam p.addr) (.done Exit.ret (lret (i64 8))) (.br (decide (p.len<0)) (.done Exit.ret (lret (i64 8))) (.need (ILeL [u8 p.fam] [u8 p.fam]∧ASpec prog 94 [u8 p.fam] (i64 (width p.fam))) (.br (decide (width p.fam<p.len)) (.done Exit.ret (lret (i64 8))) (.need (ILeL [u8 p.fam,i64 p.len] [u8
 p.fam,i64 p.len]∧ASpec prog 97 [u8 p.fam,i64 p.len] (encA q0)) (.need (ILeL [.agg [u64 p.addr.hi,u64 p.addr.lo],encA q0] [encA p.addr,encA q0]∧ASpec prog 96 [encA p.addr,encA q0] (encA q1)) (.br (if BinOp.neq=BinOp.neq then !(decide (q1.hi=p.addr.hi)&&(decide (q1.lo=p.addr.lo)&&true))else decide (q1.hi=p.addr.hi)&&(decide (q1.lo=p.addr.lo)&&true)) (.done Exit.ret (lret (i64 8))) (.done Exit.ret (lret (i64 0))))))))))))):=by kernel_rfl
theorem c86 (p:Pfx):ASpec prog 86 [encP p] (i64 (ckP p)):=by
 refine ASpec.tree Proofs.Try.f86 (T86 p) (by kernel_rfl) (by kernel_rfl) (t86 p) ?_
 refine⟨⟨ILeL.refl _,c94 _⟩,fun _=>⟨fun h1=>?_,fun h1=>⟨⟨ILeL.refl _,c95 _ _⟩,fun _=>⟨fun h2=>?_,fun h2=>⟨fun h3=>?_,fun h3=>⟨⟨ILeL.refl _,c94 _⟩,fun _=>⟨fun h4=>?_,fun h4=>?_⟩⟩⟩⟩⟩⟩⟩
 ·simp at h1;simp[Tree.sat,ckP,h1,i64]
 ·simp at h1 h2;simp[Tree.sat,ckP,h1,h2,i64]
 ·simp at h1 h2 h3;simp[Tree.sat,ckP,h1,i64];grind
 ·simp at h1 h2 h3 h4;simp[Tree.sat,ckP,h1,i64];grind
 ·simp at h1 h2 h3 h4
  refine⟨⟨ILeL.refl _,c97 _ _ h3 h4⟩,fun _=>⟨⟨ILeL.refl _,c96 _ _⟩,fun _=>?_⟩⟩
  have:∀a b:Addr,a=b↔a.hi=b.hi∧a.lo=b.lo:=by intro a b;cases a;cases b;simp
  simp[Tree.sat,ckP,h1,h2,h3,h4,i64,this]
  grind
def lu32 (l:List Int):IVal:=sl1 (l.map u32)
def encT (a:Attest):IVal:=.agg [u32 a.cust,lu32 a.provs]
def isAt (l:List Int)(x:Int)(i:Nat):Bool:=decide (x=l.getD i 0)
def I101 (l:List Int)(x:Int)(i:Nat):LState:={t:=[(8,.imm (i64 i)),(7,.imm (i64 l.length)),(0,.imm (lu32 l)),(1,.imm (u32 x))],s:=[],m:=19,n:=0}
def R101 (i:Nat):LState:={t:=[(4,.imm (i64 i))],s:=[],m:=19,n:=0}
def E101 :LState:={t:=[],s:=[],m:=19,n:=0}
def T101 (l:List Int)(x:Int):Tell:={Lp:=fun _=>Lfirst (isAt l x) l.length 0 R101 E101,lv:=fun _=>([8,7,0,1],[])}
def T101r (l:List Int)(i:Nat):Tell:={O:=fun r j=>match r,j with|4,3=>.elem (u32 (l.getD i 0))|_,_=>.no}
def fin101 :Exit→Fin
 |.normal=>⟨[],[8,7,0,1],[]⟩
 |.ret=>⟨[],[4],[]⟩
 |_=>⟨[],[],[]⟩
theorem t101r (l:List Int)(x:Int)(i:Nat):levL prog Proofs.Try.f101 2 (I101 l x i) (T101r l i) fin101=
 Tree.br (decide ((↑i:Int)<(↑(List.length l):Int))) (.need (0≤(↑i:Int)∧(List.map u32 l)[Int.toNat (↑i:Int)]?=some (u32 (List.getD l i 0))) (.br (decide (x=List.getD l i 0)) (.done Exit.ret (LState.mk [(4,.imm (i64 (↑i:Int)))] [] 19 11 [])) (.done Exit.normal (LState.mk [(8,.imm (i64 (IntKind.wrap IntKind.i64 ((↑i:Int)+1)))),(7,.imm (i64 (↑(List.length l):Int))),(0,.imm (lu32 l)),(1,.imm (u32 x))] [] 19 11 [])))) (.done (Exit.exit 0) (LState.mk [] [] 19 1 [])):=by kernel_rfl
theorem t101 (l:List Int)(x:Int):levF prog Proofs.Try.f101 [lu32 l,u32 x] (T101 l x)=
 (let q0:=List.length l;
 Tree.loop 2 (LState.mk [(8,.imm (i64 0)),(7,.imm (i64 (↑(List.length (List.map u32 l)):Int))),(0,.imm (lu32 l)),(1,.imm (u32 x))] [] 19 4 []) (.br (anyI (isAt l x) 0 q0) (.done Exit.ret (R101 (firstI (isAt l x) 0 q0))) (.done (Exit.exit 0) E101)) (.br (anyI (isAt l x) 0 q0) (.done Exit.ret (lret (i64 (↑(firstI (isAt l x) 0 q0):Int)))) (.done Exit.ret (lret (i64 (-1:Int)))))):=by kernel_rfl
def indexI (l:List Int)(x:Int):Int:=if anyI (isAt l x) 0 l.length=true then firstI (isAt l x) 0 l.length else-1
theorem l101 (l:List Int)(x:Int)(hl:l.length≤2^62)(σ:LState)(h:LSub σ (I101 l x 0)):LoopOk prog [] (bodyOf Proofs.Try.f101) 2 σ (Lfirst (isAt l x) l.length 0 R101 E101):=by
 refine LoopOk.first (isAt l x) l.length 0 (I101 l x) R101 E101 (T101r l) fin101 (by kernel_rfl) h fun i hi hz=>?_
 rw[t101r]
 refine⟨fun hb=>?_,fun hb=>?_⟩
 ·have hlt:i<l.length:=by simpa using hb
  refine⟨⟨by omega,by rw[Int.toNat_natCast];exact getD_map _ _ _ _ hlt⟩,fun _=>⟨fun hb2=>?_,fun hb2=>?_⟩⟩
  ·exact⟨hlt,hb2,by simp[R101,LSub,tsub,ssub,tl,linT,linS,ainB]⟩
  ·exact⟨hlt,hb2,by simp[I101,LSub,tsub,ssub,tl,linT,linS,ainB,i64,i64_small hlt hl]⟩
 ·have hge:l.length≤i:=by simpa using hb
  exact⟨rfl,hge,by simp[E101,LSub,tsub,ssub,linT,linS]⟩
theorem c101 (l:List Int)(x:Int)(hl:l.length≤2^62):ASpec prog 101 [lu32 l,u32 x] (i64 (indexI l x)):=by
 refine ASpec.tree Proofs.Try.f101 (T101 l x) (by kernel_rfl) (by kernel_rfl) (t101 l x) ?_
 refine⟨l101 l x hl _ ?_,?_⟩
 ·simp[I101,LSub,tsub,ssub,tl,linT,linS,ainB,i64,lu32]
 ·simp only[Tree.sat,indexI]
  grind [i64]
theorem index_iff (l:List Int)(x:Int):(0≤indexI l x)↔x∈l:=by
 unfold indexI
 split
 ·rename_i h
  refine⟨fun _=>?_,fun _=>by omega⟩
  obtain⟨i,hi,hp⟩:=anyI_iff.1 h
  simp only[isAt,decide_eq_true_eq,List.getD_eq_getElem?_getD,List.getElem?_eq_getElem hi,Option.getD_some]at hp
  rw[hp];exact List.getElem_mem hi
 ·rename_i h
  refine⟨fun h=>by omega,fun hm=>?_⟩
  obtain⟨i,hi,hx⟩:=List.mem_iff_getElem.1 hm
  exact absurd (anyI_iff.2 ⟨i,hi,by simp[isAt,List.getD_eq_getElem?_getD,List.getElem?_eq_getElem hi,hx]⟩) h
def T98 (l:List Int)(x:Int):Tell:={O:=fun r j=>match r,j with|1,2=>.call [lu32 l,u32 x] (i64 (indexI l x))|_,_=>.no}
theorem t98 (l:List Int)(x:Int):levF prog Proofs.Try.f98 [lu32 l,u32 x] (T98 l x)=
 Tree.need (ILeL [lu32 l,u32 x] [lu32 l,u32 x]∧ASpec prog 101 [lu32 l,u32 x] (i64 (indexI l x))) (.done Exit.ret (lret (bo (decide (0≤indexI l x))))):=by kernel_rfl
theorem c98 (l:List Int)(x:Int)(hl:l.length≤2^62):ASpec prog 98 [lu32 l,u32 x] (bo (decide (x∈l))):=by
 refine ASpec.tree Proofs.Try.f98 (T98 l x) (by kernel_rfl) (by kernel_rfl) (t98 l x) ?_
 refine⟨⟨ILeL.refl _,c101 l x hl⟩,fun _=>?_⟩
 simp only[Tree.sat,bo]
 refine lret_inj ?_
 simp[index_iff]
def strict (l:List Int):Nat→Bool
 |0=>true
 |i+1=>strict l i&&decide (l.getD i 0<l.getD (i+1) 0)
def b89 (a:Attest):Bool:=decide (0<a.cust)&&decide (0<(a.provs.length:Int))&&!decide (a.cust∈a.provs)
def d89 (a:Attest):Bool:=b89 a&&(decide ((a.provs.length:Int)=1)||decide (0<a.provs.getD 0 0))
def I89 (a:Attest)(i:Nat):LState:={t:=[(4,.imm (i64 (i+1:Nat))),(3,.imm (bo (d89 a&&strict a.provs i))),(1,.ptr 0 0)],s:=[(0,.box 112 (.imm (encT a)))],m:=64,n:=1}
def E89 (a:Attest):LState:={t:=[(3,.imm (bo (d89 a&&strict a.provs (a.provs.length-1))))],s:=[],m:=64,n:=1}
def T89 (a:Attest):Tell:={O:=fun r j=>match r,j with|3,14=>.call [lu32 a.provs,u32 a.cust] (bo (decide (a.cust∈a.provs)))|4,9=>.elem (u32 (a.provs.getD 0 0))|_,_=>.no,Lp:=fun _=>.done (.exit 0) (E89 a),lv:=fun _=>([4,3,1],[0])}
def T89r (a:Attest)(i:Nat):Tell:={O:=fun r j=>match r,j with|8,6=>.elem (u32 (a.provs.getD i 0))|8,11=>.elem (u32 (a.provs.getD (i+1) 0))|_,_=>.no}
def fin89 :Exit→Fin
 |.normal=>⟨[],[4,3,1],[0]⟩
 |_=>⟨[],[3],[]⟩
theorem t89r (a:Attest)(i:Nat):levL prog Proofs.Try.f89 6 (I89 a i) (T89r a i) fin89=
 (let q0:=i64 (IntKind.wrap IntKind.i64 ((↑(i+1):Int)+1));let q1:=List.map u32 a.provs;
 Tree.br (decide ((↑(i+1):Int)<(↑(List.length q1):Int))) (.br (d89 a&&strict a.provs i) (.need (0≤IntKind.wrap IntKind.i64 ((↑(i+1):Int)-1)∧q1[Int.toNat (IntKind.wrap IntKind.i64 ((↑(i+1):Int)-1))]?=some (u32 (List.getD a.provs i 0))) (.need (0≤(↑(i+1):Int)∧q1[Int.toNat (↑(i+1):Int)]?=some (u32 (List.getD a.provs (i+1) 0))) (.done Exit.normal (LState.mk [(4,.imm q0),(3,.imm (bo (decide (List.getD a.provs i 0<List.getD a.provs (i+1) 0)))),(1,.ptr 0 0)] [(0,Entry.box 112 (.imm (encT a)))] 64 25 [])))) (.done Exit.normal (LState.mk [(4,.imm
 q0),(3,.imm (bo false)),(1,.ptr 0 0)] [(0,Entry.box 112 (.imm (encT a)))] 64 25 []))) (.done (Exit.exit 0) (LState.mk [(3,.imm (bo (d89 a&&strict a.provs i)))] [] 64 6 []))):=by kernel_rfl
theorem t89 (a:Attest):levF prog Proofs.Try.f89 [encT a] (T89 a)=
 (let q0:=d89 a&&strict a.provs (List.length a.provs-1);let q1:=List.length (List.map u32 a.provs);
 Tree.br (decide (50<(↑q1:Int))) (.done Exit.ret (lret (i64 4))) (.br (decide (0<a.cust)) (.br (decide (0<(↑q1:Int))) (.need (ILeL [lu32 a.provs,u32 a.cust] [lu32 a.provs,u32 a.cust]∧ASpec prog 98 [lu32 a.provs,u32 a.cust] (bo (decide (a.cust∈a.provs)))) (.br (!decide (a.cust∈a.provs)) (.br (decide ((↑q1:Int)=1)) (.loop 6 (LState.mk [(4,.imm (i64 1)),(3,.imm (bo true)),(1,.ptr 0 0)] [(0,Entry.box 112 (.imm (encT a)))] 64 40 []) (.done (Exit.exit 0) (E89 a)) (.br (!q0) (.done Exit.ret (lret (i64 8))) (.done Exit.ret (lret (i64 0))))) (.need ((0:Int)≤(0:Int)∧(List.map
 u32 a.provs)[0]?=some (u32 (List.getD a.provs 0 0))) (.loop 6 (LState.mk [(4,.imm (i64 1)),(3,.imm (bo (decide (0<List.getD a.provs 0 0)))),(1,.ptr 0 0)] [(0,Entry.box 112 (.imm (encT a)))] 64 40 []) (.done (Exit.exit 0) (E89 a)) (.br (!q0) (.done Exit.ret (lret (i64 8))) (.done Exit.ret (lret (i64 0))))))) (.loop 6 (LState.mk [(4,.imm (i64 1)),(3,.imm (bo false)),(1,.ptr 0 0)] [(0,Entry.box 112 (.imm (encT a)))] 64 40 []) (.done (Exit.exit 0) (E89 a)) (.br (!q0) (.done Exit.ret (lret (i64 8))) (.done Exit.ret (lret (i64 0))))))) (.loop 6 (LState.mk [(4,.imm (i64 1)),(3,.imm (bo
 false)),(1,.ptr 0 0)] [(0,Entry.box 112 (.imm (encT a)))] 64 40 []) (.done (Exit.exit 0) (E89 a)) (.br (!q0) (.done Exit.ret (lret (i64 8))) (.done Exit.ret (lret (i64 0)))))) (.loop 6 (LState.mk [(4,.imm (i64 1)),(3,.imm (bo false)),(1,.ptr 0 0)] [(0,Entry.box 112 (.imm (encT a)))] 64 40 []) (.done (Exit.exit 0) (E89 a)) (.br (!q0) (.done Exit.ret (lret (i64 8))) (.done Exit.ret (lret (i64 0))))))):=by kernel_rfl
theorem l89 (a:Attest)(hl:a.provs.length≤2^62)(σ:LState)(h:LSub σ (I89 a 0)):LoopOk prog [] (bodyOf Proofs.Try.f89) 6 σ (.done (.exit 0) (E89 a)):=by
 refine LoopOk.of_levL (γ:={i:Nat//i≤a.provs.length-1}) (fun g=>T89r a g.1) fin89 (fun g=>I89 a g.1) (fun g=>a.provs.length-g.1) ⟨0,by omega⟩ (by kernel_rfl) h ?_
 rintro⟨i,hi⟩
 rw[t89r]
 refine⟨fun hb=>?_,fun hb=>?_⟩
 ·have hlt:i+1<a.provs.length:=by simp at hb;omega
  have e2:IntKind.i64.wrap ((i:Int)+1+1)=(i:Int)+1+1:=IntWalk.i64_in _ (by omega)
  have e1:IntKind.i64.wrap (((i+1:Nat):Int)-1)=(i:Int):=by rw[IntWalk.i64_in _ (by omega)];omega
  refine⟨fun hc=>⟨⟨?_,?_⟩,fun _=>⟨⟨by omega,?_⟩,fun _=>?_⟩⟩,fun hc=>?_⟩
  ·simp only[e1];omega
  ·simp only[e1,Int.toNat_natCast];exact getD_map _ _ _ _ (by omega)
  ·rw[Int.toNat_natCast];exact getD_map _ _ _ _ hlt
  ·refine⟨⟨i+1,by omega⟩,by simp only;omega,?_⟩
   simp only at hc
   simp[I89,LSub,tsub,ssub,tl,sl,linT,linS,ainB,i64,bo,e2,strict,-List.getD_eq_getElem?_getD]
   simp at hc
   simp[hc]
  ·refine⟨⟨i+1,by omega⟩,by simp only;omega,?_⟩
   simp only at hc
   simp[I89,LSub,tsub,ssub,tl,sl,linT,linS,ainB,i64,bo,e2,strict,-List.getD_eq_getElem?_getD]
   cases hd:d89 a<;>simp_all
 ·have hge:i=a.provs.length-1:=by simp at hb;omega
  subst hge
  exact⟨rfl,by simp[E89,LSub,tsub,ssub,tl,linT,linS,ainB]⟩
def ckPr (a:Attest):Int:=if 50<a.provs.length then 4 else if(d89 a&&strict a.provs (a.provs.length-1))=true then 0 else 8
theorem c89 (a:Attest):ASpec prog 89 [encT a] (i64 (ckPr a)):=by
 refine ASpec.tree Proofs.Try.f89 (T89 a) (by kernel_rfl) (by kernel_rfl) (t89 a) ?_
 refine⟨fun h=>?_,fun h=>?_⟩
 ·have:50<a.provs.length:=by simp at h;omega
  simp[Tree.sat,ckPr,this,i64]
 ·have hle:a.provs.length≤50:=by simp at h;omega
  have hl:a.provs.length≤2^62:=by omega
  have fin:∀s:LState,s.t=[(4,.imm (i64 1)),(3,.imm (bo (d89 a))),(1,.ptr 0 0)]→s.s=[(0,.box 112 (.imm (encT a)))]→s.m=64→LoopOk prog [] (bodyOf Proofs.Try.f89) 6 s (.done (.exit 0) (E89 a)):=by
   intro s h1 h2 h3
   refine l89 a hl s ?_
   simp[I89,LSub,tsub,ssub,tl,sl,linT,linS,ainB,h1,h2,h3,strict]
  have last:(Tree.br (!(d89 a&&strict a.provs (a.provs.length-1))) (Tree.done Exit.ret (lret (IVal.v (Value.int IntKind.i64 8)))) (Tree.done Exit.ret (lret (IVal.v (Value.int IntKind.i64 0))))).sat (LoopOk prog [] (bodyOf Proofs.Try.f89)) (fun _ s=>s=lret (i64 (ckPr a))):=by
   have hn:¬50<a.provs.length:=by omega
   cases hh:(d89 a&&strict a.provs (a.provs.length-1))with
   |false=>exact⟨fun _=>(by simp only[Tree.sat,ckPr,if_neg hn,hh];rfl),fun hx=>by cases hx⟩
   |true=>exact⟨fun hx=>(by cases hx),fun _=>by simp only[Tree.sat,ckPr,if_neg hn,hh];rfl⟩
  refine⟨fun h1=>⟨fun h2=>⟨⟨ILeL.refl _,c98 _ _ hl⟩,fun _=>⟨fun h3=>⟨fun h4=>⟨fin _ ?_ rfl rfl,last⟩,fun h4=>⟨⟨by decide,?_⟩,fun _=>⟨fin _ ?_ rfl rfl,last⟩⟩⟩,fun h3=>⟨fin _ ?_ rfl rfl,last⟩⟩⟩,fun h2=>⟨fin _ ?_ rfl rfl,last⟩⟩,fun h1=>⟨fin _ ?_ rfl rfl,last⟩⟩
  ·have:d89 a=true:=by simp[d89,b89]at*;grind
   rw[this]<;>rfl
  ·exact getD_map _ _ _ _ (by simp at h2;omega)
  ·have:d89 a=decide (0<a.provs.getD 0 0):=by simp[d89,b89]at*;grind
   rw[this]<;>rfl
  ·have:d89 a=false:=by simp[d89,b89]at*;grind
   rw[this]<;>rfl
  ·have:d89 a=false:=by simp[d89,b89]at*;grind
   rw[this]<;>rfl
  ·have:d89 a=false:=by simp[d89,b89]at*;grind
   rw[this]<;>rfl
end Gp
namespace Gp
structure RKey where
 asn:Int
 root:Vector Int 16
 height:Int
 deriving DecidableEq,Inhabited
def rootL (k:RKey):List Int:=[k.root[0],k.root[1],k.root[2],k.root[3],k.root[4],k.root[5],k.root[6],k.root[7],k.root[8],k.root[9],k.root[10],k.root[11],k.root[12],k.root[13],k.root[14],k.root[15]]
variable {α:Type}
def fnV (f:Nat):IVal:=.v (.func (.func f) #[] #[])
def slE (k:Nat)(e:α→IVal)(l:List α):IVal:=.sl false false k (l.map e)
end Gp
namespace Gp
variable {α:Type}
def diffAt (ne:α→α→Bool)(d:α)(l r:List α)(i:Nat):Bool:=ne (l.getD i d) (r.getD i d)
def IQ (k:Nat)(e:α→IVal)(l r:List α)(i:Nat):LState:={t:=[(13,.imm (i64 i)),(12,.imm (i64 l.length)),(0,.imm (slE k e l)),(1,.imm (slE k e r))],s:=[],m:=26,n:=0}
def RQ (_:Nat):LState:={t:=[(4,.imm (bo false))],s:=[],m:=26,n:=0}
def EQ :LState:={t:=[],s:=[],m:=26,n:=0}
def TQ (ne:α→α→Bool)(d:α)(l r:List α):Tell:={Lp:=fun _=>Lfirst (diffAt ne d l r) l.length 0 RQ EQ,lv:=fun _=>([13,12,0,1],[])}
def TQr (e:α→IVal)(d:α)(l r:List α)(i:Nat):Tell:={O:=fun r' j=>match r',j with
 |6,2=>.elem (e (l.getD i d))|6,6=>.elem (e (r.getD i d))|_,_=>.no}
def finQ :Exit→Fin
 |.normal=>⟨[],[13,12,0,1],[]⟩
 |.ret=>⟨[],[4],[]⟩
 |_=>⟨[],[],[]⟩
def QT (k:Nat)(e:α→IVal)(ne:α→α→Bool)(d:α)(l r:List α)(i:Nat):Tree:=
 .br (decide ((i:Int)<(l.length:Int)))
  (.need (0≤(i:Int)∧(l.map e)[Int.toNat (i:Int)]?=some (e (l.getD i d)))
   (.need (0≤(i:Int)∧(r.map e)[Int.toNat (i:Int)]?=some (e (r.getD i d)))
    (.br (ne (l.getD i d) (r.getD i d)) (.done .ret ⟨[(4,.imm (.v (.bool false)))],[],26,13,[]⟩)
     (.done .normal ⟨[(13,.imm (.v (.int .i64 (IntKind.i64.wrap ((i:Int)+1))))),(12,.imm (i64 l.length)),(0,.imm (slE k e l)),(1,.imm (slE k e r))],[],26,14,[]⟩))))
  (.done (.exit 0) ⟨[],[],26,1,[]⟩)
def QF (k:Nat)(e:α→IVal)(ne:α→α→Bool)(d:α)(l r:List α):Tree:=
 .br (!decide (((l.map e).length:Int)=((r.map e).length:Int))) (.done .ret (lret (.v (.bool false))))
  (.loop 4 ⟨[(13,.imm (.v (.int .i64 0))),(12,.imm (.v (.int .i64 ((l.map e).length:Int)))),(0,.imm (slE k e l)),(1,.imm (slE k e r))],[],26,9,[]⟩ (Lfirst (diffAt ne d l r) l.length 0 RQ EQ)
   (.br (anyI (diffAt ne d l r) 0 l.length) (.done .ret (lret (bo false))) (.done .ret (lret (.v (.bool true))))))
theorem equal_loop {fn:Func}{k:Nat}{e:α→IVal}{ne:α→α→Bool}{d:α}{l r:List α}(hlr:l.length=r.length)(ht:∀i,levL prog fn 4 (IQ k e l r i) (TQr e d l r i) finQ=QT k e ne d l r i)
  (h1:loopOne (bodyOf fn) 4=true)(hl:l.length≤2^62)(σ:LState)(h:LSub σ (IQ k e l r 0)):LoopOk prog [] (bodyOf fn) 4 σ (Lfirst (diffAt ne d l r) l.length 0 RQ EQ):=by
 refine LoopOk.first (diffAt ne d l r) l.length 0 (IQ k e l r) RQ EQ (TQr e d l r) finQ h1 h fun i hi hz=>?_
 rw[ht]
 refine⟨fun hb=>?_,fun hb=>?_⟩
 ·have hlt:i<l.length:=by simpa using hb
  refine⟨⟨by omega,by rw[Int.toNat_natCast];exact getD_map _ _ _ _ hlt⟩,fun _=>⟨⟨by omega,by rw[Int.toNat_natCast];exact getD_map _ _ _ _ (by omega)⟩,fun _=>⟨fun h2=>⟨hlt,h2,?_⟩,fun h2=>⟨hlt,h2,?_⟩⟩⟩⟩
  ·simp[RQ,LSub,tsub,ssub,tl,linT,linS,ainB,bo]
  ·simp[IQ,LSub,tsub,ssub,tl,linT,linS,ainB,i64,i64_small hlt hl]
 ·have hge:l.length≤i:=by simpa using hb
  exact⟨rfl,hge,by simp[EQ,LSub,tsub,ssub,linT,linS]⟩
def sameL (ne:α→α→Bool)(d:α)(l r:List α):Bool:=decide (l.length=r.length)&&!anyI (diffAt ne d l r) 0 l.length
theorem equal_spec {f:Nat}{fn:Func}{k:Nat}{e:α→IVal}{ne:α→α→Bool}{d:α}{l r:List α}(hf:prog.funcs[f]?=some fn)(hk:okF fn 2=true)
  (ht:∀i,levL prog fn 4 (IQ k e l r i) (TQr e d l r i) finQ=QT k e ne d l r i)(h1:loopOne (bodyOf fn) 4=true)(h2:levF prog fn [slE k e l,slE k e r] (TQ ne d l r)=QF k e ne d l r)(hl:l.length≤2^62):
  ASpec prog f [slE k e l,slE k e r] (bo (sameL ne d l r)):=by
 refine ASpec.tree fn (TQ ne d l r) hf hk h2 ⟨fun hx=>?_,fun hx=>?_⟩
 ·have:¬l.length=r.length:=by simp at hx;omega
  simp[Tree.sat,sameL,this,bo]
 ·have hlr:l.length=r.length:=by simp at hx;omega
  refine⟨equal_loop hlr ht h1 hl _ ?_,fun hy=>?_,fun hy=>?_⟩
  ·simp[IQ,LSub,tsub,ssub,tl,linT,linS,ainB,i64]
  ·rw[show sameL ne d l r=false from by unfold sameL;rw[hy];simp];rfl
  ·rw[show sameL ne d l r=true from by unfold sameL;rw[hy];simp[hlr]];rfl
theorem sameL_iff {ne:α→α→Bool}{d:α}{l r:List α}(hne:∀a b,ne a b=false↔a=b):sameL ne d l r=true↔l=r:=by
 unfold sameL
 simp only[Bool.and_eq_true,decide_eq_true_eq,Bool.not_eq_true']
 constructor
 ·rintro⟨h1,h2⟩
  refine List.ext_getElem h1 fun i h3 h4=>?_
  have:diffAt ne d l r i=false:=by
   cases hd:diffAt ne d l r i with
   |false=>rfl
   |true=>rw[anyI_iff.2 ⟨i,h3,hd⟩]at h2;cases h2
  have:=(hne _ _).1 this
  simpa[List.getD_eq_getElem?_getD,List.getElem?_eq_getElem h3,List.getElem?_eq_getElem h4]using this
 ·rintro rfl
  refine⟨rfl,?_⟩
  cases ha:anyI (diffAt ne d l l) 0 l.length with
  |false=>rfl
  |true=>obtain⟨i,_,hp⟩:=anyI_iff.1 ha;rw[diffAt,(hne _ _).2 rfl]at hp;cases hp
def neO (a b:Origin):Bool:=!(decide (a.asn=b.asn)&&(decide (a.pfx.fam=b.pfx.fam)&&(decide (a.pfx.addr.hi=b.pfx.addr.hi)&&(decide (a.pfx.addr.lo=b.pfx.addr.lo)&&(decide (a.pfx.len=b.pfx.len)&&(decide (a.max=b.max)&&true))))))
def neI (a b:Int):Bool:=!decide (a=b)
theorem neO_iff (a b:Origin):neO a b=false↔a=b:=by
 obtain⟨_,⟨_,⟨_,_⟩,_⟩,_⟩:=a;obtain⟨_,⟨_,⟨_,_⟩,_⟩,_⟩:=b
 simp[neO,and_assoc]
theorem t39 (l r:List Int):levF prog Proofs.Try.f39 [slE 1 u32 l,slE 1 u32 r] (TQ neI 0 l r)=QF 1 u32 neI 0 l r:=by kernel_rfl
theorem t39r (l r:List Int)(i:Nat):levL prog Proofs.Try.f39 4 (IQ 1 u32 l r i) (TQr u32 0 l r i) finQ=QT 1 u32 neI 0 l r i:=by kernel_rfl
theorem c39 (l r:List Int)(hl:l.length≤2^62):ASpec prog 39 [slE 1 u32 l,slE 1 u32 r] (bo (decide (l=r))):=by
 have:=equal_spec (f:=39) (by kernel_rfl) (by kernel_rfl) (t39r l r) (by kernel_rfl) (t39 l r) hl
 rwa[show sameL neI 0 l r=decide (l=r)from by rw[Bool.eq_iff_iff,sameL_iff (fun a b=>by simp[neI])];simp]at this
def neK (a b:RKey):Bool:=!(decide (a.asn=b.asn)&&(decide (a.root[0]=b.root[0])&&(decide (a.root[1]=b.root[1])&&(decide (a.root[2]=b.root[2])&&(decide (a.root[3]=b.root[3])&&(decide (a.root[4]=b.root[4])&&(decide (a.root[5]=b.root[5])&&(decide (a.root[6]=b.root[6])&&(decide (a.root[7]=b.root[7])&&(decide (a.root[8]=b.root[8])&&(decide (a.root[9]=b.root[9])&&(decide (a.root[10]=b.root[10])&&(decide (a.root[11]=b.root[11])&&(decide (a.root[12]=b.root[12])&&(decide (a.root[13]=b.root[13])&&(decide (a.root[14]=b.root[14])&&(decide (a.root[15]=b.root[15])&&(decide (a.height=b.height)&&true))))))))))))))))))
theorem neK_iff (a b:RKey):neK a b=false↔a=b:=by
 obtain⟨x,v,y⟩:=a;obtain⟨x',v',y'⟩:=b
 simp only[neK,Bool.not_eq_false',Bool.and_eq_true,decide_eq_true_eq,and_true,RKey.mk.injEq]
 constructor
 ·rintro⟨h,h0,h1,h2,h3,h4,h5,h6,h7,h8,h9,h10,h11,h12,h13,h14,h15,hh⟩
  refine⟨h,Vector.ext fun i hi=>?_,hh⟩
  match i,hi with
  |0,_=>exact h0
  |1,_=>exact h1
  |2,_=>exact h2
  |3,_=>exact h3
  |4,_=>exact h4
  |5,_=>exact h5
  |6,_=>exact h6
  |7,_=>exact h7
  |8,_=>exact h8
  |9,_=>exact h9
  |10,_=>exact h10
  |11,_=>exact h11
  |12,_=>exact h12
  |13,_=>exact h13
  |14,_=>exact h14
  |15,_=>exact h15
  |n+16,hn=>omega
 ·rintro⟨rfl,rfl,rfl⟩;simp
end Gp
namespace Gp
variable {α:Type}
def slF (k:Nat)(e:α→IVal)(l:List α):IVal:=.sl true false k (l.map e)
def CT (k:Nat)(e:α→IVal)(l:List α):Tree:=
 .alt (l.map e).isEmpty (.done .ret (lret (.v (.slice none 0 0)))) (.need (cellsOk []=true∧cellsOk (l.map e)=true∧([]:List IVal).length+(l.map e).length≤lim) (.done .ret (lret (.sl true false k ([]++l.map e)))))
def TC :Tell:={fz:=fun _ _=>true}
theorem clone_spec {f:Nat}{fn:Func}{k:Nat}{e:α→IVal}{l:List α}(hf:prog.funcs[f]?=some fn)(hk:okF fn 1=true)(ht:levF prog fn [slE k e l] TC=CT k e l)(he:∀x,(icells (e x)).isSome=true)(hl:l.length≤1000000):
  ASpec prog f [slE k e l] (slF k e l):=by
 refine ASpec.treeW fn TC hf hk ht ⟨fun h=>?_,⟨rfl,cellsOk_map e he l,by simp[lim];exact hl⟩,fun _=>⟨_,rfl,ILe.refl _⟩⟩
 have:l=[]:=by simpa using h
 subst this
 exact⟨_,rfl,ILe.nil _ _ _⟩
def okT (a:Attest):Prop:=a.provs.length≤1000000
structure Payload where
 origins:List Origin
 paths:List Attest
 keys:List RKey
 deriving DecidableEq,Inhabited
structure Payload.ok (p:Payload):Prop where
 o:p.origins.length≤100000
 t:p.paths.length≤100000
 k:p.keys.length≤100000
 p:∀a∈p.paths,okT a
end Gp
namespace Gp
structure Timers where
 refresh:Int
 retry:Int
 expire:Int
 deriving DecidableEq,Inhabited
end Gp
namespace Gp
open Go Go.Abs Go.RowKit
def lu8 (l:List Int):IVal:=sl1 (l.map u8)
end Gp
namespace Gp
end Gp
namespace Gp
theorem t91 (f:Int):levF prog Proofs.Try.f91 [u8 f] {}=
 Tree.br (decide (f=4)) (.done Exit.ret (lret (i64 32))) (.br (decide (f=6)) (.done Exit.ret (lret (i64 128))) (.done Exit.ret (lret (i64 0)))):=by kernel_rfl
theorem c91 (f:Int):ASpec prog 91 [u8 f] (i64 (width f)):=by
 refine ASpec.tree Proofs.Try.f91 {} (by kernel_rfl) (by kernel_rfl) (t91 f) ?_
 simp only[Tree.sat,i64,width];grind
def ckA' (f:Int)(a:Addr):Bool:=if f=4 then decide (a.hi=0)&&decide (a.lo≤4294967295)else decide (f=6)
theorem t99 (f:Int)(a:Addr):levF prog Proofs.Try.f99 [u8 f,encA a] {}=
 Tree.br (decide (f=4)) (.br (decide (a.hi=0)) (.done Exit.ret (lret (bo (decide (a.lo≤4294967295))))) (.done Exit.ret (lret (bo false)))) (.done Exit.ret (lret (bo (decide (f=6))))):=by kernel_rfl
theorem ckA_eq (f:Int)(a:Addr):ckA' f a=ckA f a:=by
 unfold ckA' ckA;grind
theorem c99 (f:Int)(a:Addr):ASpec prog 99 [u8 f,encA a] (bo (ckA f a)):=by
 rw[←ckA_eq]
 refine ASpec.tree Proofs.Try.f99 {} (by kernel_rfl) (by kernel_rfl) (t99 f a) ?_
 simp only[Tree.sat,bo,ckA'];grind
end Gp
namespace Gp
theorem ile_eq {d r:IVal}(h:d=r):ILe d r:=h ▸ ILe.refl _
theorem ile_i64 {a b:Int}(h:a=b):ILe (.v (.int .i64 a)) (i64 b):=h ▸ ILe.refl _
theorem ile_bo {a b:Bool}(h:a=b):ILe (.v (.bool a)) (bo b):=h ▸ ILe.refl _
end Gp
namespace Gp
def I102 (k:Nat)(i:Nat):LState:={t:=[(4,.imm (i64 i)),(3,.imm (u64 (2^i))),(0,.imm (i64 k))],s:=[],m:=14,n:=0}
def E102 (k:Nat):LState:={t:=[(3,.imm (u64 (2^k)))],s:=[],m:=14,n:=0}
def fin102 :Exit→Fin
 |.normal=>⟨[],[4,3,0],[]⟩
 |.ret=>⟨[],[],[]⟩
 |_=>⟨[],[3],[]⟩
def L102 (k:Nat):Tree:=.done (.exit 0) (E102 k)
def T102r (k:Nat)(i:Nat):Tell:=
 Tell.mk (fun x x_1=>false) (fun x x_1=>Orc.no) (fun x=>Tree.fail 1000003 0) (fun x=>0) (fun x=>([],[])) (fun x x_1 x_2=>Orc.no) fun x x_1=>Tree.fail 1000003 0
theorem t102r (k:Nat)(i:Nat):levL prog Proofs.Try.f102 3 (I102 k i) (T102r k i) fin102=
 Tree.br (decide ((↑i:Int)<(↑k:Int))) (.done Exit.normal (LState.mk [(4,.imm (i64 (IntKind.wrap IntKind.i64 ((↑i:Int)+1)))),(3,.imm (u64 (IntKind.wrap IntKind.u64 ((2:Int)^i+(2:Int)^i)))),(0,.imm (i64 (↑k:Int)))] [] 14 10 [])) (.done (Exit.exit 0) (LState.mk [(3,.imm (u64 ((2:Int)^i)))] [] 14 3 [])):=by kernel_rfl
def T102 (k:Nat):Tell:=
 Tell.mk (fun x x_1=>false) (fun x x_1=>Orc.no) (fun x=>L102 k) (fun x=>0) (fun x=>([4,3,0],[])) (fun x x_1 x_2=>Orc.no) fun x x_1=>L102 k
theorem t102 (k:Nat):levF prog Proofs.Try.f102 [i64 k] (T102 k)=
 Tree.loop 3 (LState.mk [(4,.imm (i64 0)),(3,.imm (u64 1)),(0,.imm (i64 (↑k:Int)))] [] 14 3 []) (.done (Exit.exit 0) (E102 k)) (.done Exit.ret (lret (u64 ((2:Int)^k)))):=by kernel_rfl
theorem l102 (k:Nat)(hk:k≤63)(σ:LState)(h:LSub σ (I102 k 0)):LoopOk prog [] (bodyOf Proofs.Try.f102) 3 σ (L102 k):=by
 refine LoopOk.count k 0 (I102 k) (E102 k) (T102r k) fin102 (by kernel_rfl) h fun i hi=>?_
 rw[t102r]
 refine⟨fun h1=>?_,fun h1=>?_⟩
 ·have hlt:i<k:=by(simp only[List.length_map,decide_eq_true_eq,decide_eq_false_iff_not,Int.toNat_natCast]at*<;>omega)
  have e:IntKind.u64.wrap (2^i+2^i)=2^(i+1):=by
   have:(2:Int)^(i+1)≤2^63:=by exact_mod_cast Nat.pow_le_pow_right (by decide) (by omega)
   rw[Int.pow_succ]at*
   rw[IntWalk.u64_in _ ⟨by have:=Int.pow_pos (m:=i) (show (0:Int)<2 by decide);omega,by omega⟩];omega
  exact⟨hlt,by simp[I102,i64,u64,i64_small (n:=i) hlt (by omega),e,LSub,tsub,ssub,tl,sl,linT,linS,ainB,ainBL]⟩
 ·have:i=k:=by(simp only[List.length_map,decide_eq_true_eq,decide_eq_false_iff_not,Int.toNat_natCast]at*<;>omega)
  exact⟨rfl,by omega,by simp[E102,this,LSub,tsub,ssub,tl,sl,linT,linS,ainB,ainBL]⟩
theorem c102n (k:Nat)(hk:k≤63):ASpec prog 102 [i64 k] (u64 (2^k)):=by
 refine ASpec.treeW Proofs.Try.f102 (T102 k) (by kernel_rfl) (by kernel_rfl) (t102 k) ?_
 refine⟨?_,⟨_,rfl,?_⟩⟩
 ·exact l102 k hk _ (by simp[I102,i64,u64,LSub,tsub,ssub,tl,sl,linT,linS,ainB,ainBL])
 ·exact .refl _
theorem c102 (k:Int)(h0:0≤k)(hk:k≤63):ASpec prog 102 [i64 k] (u64 (2^k.toNat)):=by
 have:=c102n k.toNat (by omega)
 rwa[show ((k.toNat:Nat):Int)=k from by omega]at this
def bitV (x k:Int):Int:=IntKind.i64.wrap ((IntKind.u64.wrap (x.tdiv (2^k.toNat))).tmod 2)
def bitF (f:Int)(a:Addr)(i:Nat):Int:=if 63<width f-1-i then bitV a.hi (width f-1-i-64)else bitV a.lo (width f-1-i)
def I100 (f:Int)(a:Addr)(i:Nat):LState:={t:=[(7,.imm (i64 i)),(6,.imm (i64 (width f))),(5,.own 50 i),(3,.ptr 0 0)],s:=[(0,.box 26 (.imm (encA a))),(50,.row 3 1 ((List.range i).map fun j=>i64 (bitF f a j)))],m:=39,n:=60}
def E100 (f:Int)(a:Addr):LState:={t:=[(5,.own 50 (width f).toNat)],s:=[(50,.row 3 1 ((List.range (width f).toNat).map fun j=>i64 (bitF f a j)))],m:=39,n:=60}
def fin100 :Exit→Nat→Fin
 |.normal,n=>⟨[(50,59),(n-5,50)],[7,6,5,3],[0,50]⟩
 |_,_=>⟨[],[5],[50]⟩
def T100r (f:Int)(a:Addr)(i:Nat):Tell:=
 (let q0:=IntKind.wrap IntKind.i64 (width f-1)-(↑i:Int);let q1:=IntKind.wrap IntKind.i64 (IntKind.wrap IntKind.i64 q0-64);
 Tell.mk (fun x x_1=>false) (fun x x_1=>Orc.no) (fun x=>Tree.fail 1000003 0) (fun x=>0) (fun x=>([],[])) (oget [(79,11,3,Orc.call [i64 q1] (u64 ((2:Int)^Int.toNat q1))),(73,11,3,Orc.call [i64 (IntKind.wrap IntKind.i64 q0)] (u64 ((2:Int)^Int.toNat (IntKind.wrap IntKind.i64 q0))))]) fun x x_1=>Tree.fail 1000003 0)
theorem t100r (f:Int)(a:Addr)(i:Nat):levLN prog Proofs.Try.f100 4 (I100 f a i) (T100r f a i) fin100=
 (let q0:=IntKind.wrap IntKind.i64 (width f-1)-(↑i:Int);let q1:=IntKind.wrap IntKind.i64 (IntKind.wrap IntKind.i64 q0-64);let q2:=IntKind.wrap IntKind.i64 q0;let q3:=List.range i;let q4:=i64 (IntKind.wrap IntKind.i64 ((↑i:Int)+1));
 Tree.br (decide ((↑i:Int)<width f)) (.br (decide (63<IntKind.wrap IntKind.i64 q0)) (.need (ILeL [i64 q1] [i64 q1]∧ASpec prog 102 [i64 q1] (u64 ((2:Int)^Int.toNat q1))) (.need ((2:Int)^Int.toNat q1≠0) (.need ((2:Int)≠(0:Int)) (.need (askA (some (1=1)) (List.length (List.map (fun j=>i64 (bitF f a j)) q3)=i∧cellsOk (List.map (fun j=>i64 (bitF f a j)) q3)=true∧true=true∧i+1≤1000000)) (.done Exit.normal (LState.mk [(7,.imm q4),(6,.imm (i64 (width f))),(5,.own 50 (i+1)),(3,.ptr 0 0)] [(0,Entry.box 26 (.imm (encA a))),(50,Entry.row 3 1 (List.map (fun j
 =>i64 (bitF f a j)) q3++[i64 (IntKind.wrap IntKind.i64 (Int.tmod (IntKind.wrap IntKind.u64 (Int.tdiv a.hi ((2:Int)^Int.toNat q1))) 2))]))] 39 92 [])))))) (.need (ILeL [i64 q2] [i64 q2]∧ASpec prog 102 [i64 q2] (u64 ((2:Int)^Int.toNat q2))) (.need ((2:Int)^Int.toNat q2≠0) (.need ((2:Int)≠(0:Int)) (.need (askA (some (1=1)) (List.length (List.map (fun j=>i64 (bitF f a j)) q3)=i∧cellsOk (List.map (fun j=>i64 (bitF f a j)) q3)=true∧true=true∧i+1≤1000000)) (.done Exit.normal (LState.mk [(7,.imm q4),(6,.imm (i64 (width f))),(5,.own 50 (i+1)),(3,.ptr 0
 0)] [(0,Entry.box 26 (.imm (encA a))),(50,Entry.row 3 1 (List.map (fun j=>i64 (bitF f a j)) q3++[i64 (IntKind.wrap IntKind.i64 (Int.tmod (IntKind.wrap IntKind.u64 (Int.tdiv a.lo ((2:Int)^Int.toNat q2))) 2))]))] 39 86 []))))))) (.done (Exit.exit 0) (LState.mk [(5,.own 50 i)] [(50,Entry.row 3 1 (List.map (fun j=>i64 (bitF f a j)) q3))] 39 63 []))):=by kernel_rfl
def T100 (f:Int)(a:Addr):Tell:=
 Tell.mk (fun x x_1=>false) (fun x x_1=>Orc.no) (fun x=>Tree.done (Exit.exit 0) (E100 f a)) (fun x=>0) (fun x=>([7,6,5,3],[0])) (oget [(3,2,1,Orc.call [u8 f] (i64 (width f)))]) fun x x_1=>Tree.done (Exit.exit 0) (E100 f a)
theorem t100 (f:Int)(a:Addr):levF prog Proofs.Try.f100 [u8 f,encA a] (T100 f a)=
 Tree.need (ILeL [u8 f] [u8 f]∧ASpec prog 91 [u8 f] (i64 (width f))) (.loop 4 (LState.mk [(7,.imm (i64 0)),(6,.imm (i64 (width f))),(5,.imm nS),(3,.ptr 0 0)] [(0,Entry.box 26 (.imm (encA a)))] 39 7 []) (.done (Exit.exit 0) (E100 f a)) (.need (eqs [(Int.toNat (width f),List.length (List.map (fun j=>i64 (bitF f a j)) (List.range (Int.toNat (width f)))))]) (.done Exit.ret (lret (.sl true false 1 (List.map (fun j=>i64 (bitF f a j)) (List.range (Int.toNat (width f))))))))):=by kernel_rfl
theorem width_cases (f:Int):width f=0∨width f=32∨width f=128:=by unfold width;split;exact .inr (.inl rfl);split;exact .inr (.inr rfl);exact .inl rfl
theorem range_succ_map {g:Nat→IVal}(i:Nat):(List.range i).map g++[g i]=(List.range (i+1)).map g:=by rw[List.range_succ,List.map_append];rfl
theorem l100 (f:Int)(a:Addr)(σ:LState)(h:LSub σ (I100 f a 0)):LoopOk prog [] (bodyOf Proofs.Try.f100) 4 σ (.done (.exit 0) (E100 f a)):=by
 have hw:=width_le f
 have hw0:=width_cases f
 refine LoopOk.countN (width f).toNat 0 (I100 f a) (E100 f a) (T100r f a) fin100 (by kernel_rfl) h fun i hi=>?_
 rw[t100r]
 have e1:IntKind.i64.wrap (width f-1)=width f-1:=IntWalk.i64_in _ (by omega)
 have e2:IntKind.i64.wrap (width f-1-(i:Int))=width f-1-(i:Int):=IntWalk.i64_in _ (by omega)
 have e3:IntKind.i64.wrap (width f-1-(i:Int)-64)=width f-1-(i:Int)-64:=IntWalk.i64_in _ (by omega)
 simp only[e1,e2,e3]
 have hp:∀k:Nat,(2:Int)^k≠0:=fun k=>by have:=Int.pow_pos (m:=k) (show (0:Int)<2 by decide);omega
 have row:∀v:Int,v=bitF f a i→some (Entry.row 3 1 ((List.range i).map (fun j=>i64 (bitF f a j))++[i64 v]))=some (Entry.row 3 1 ((List.range (i+1)).map fun j=>i64 (bitF f a j))):=by
  rintro v rfl;rw[←range_succ_map]
 refine⟨fun h1=>⟨fun h2=>⟨⟨ILeL.refl _,c102 _ ?_ ?_⟩,fun _=>⟨hp _,fun _=>⟨by decide,fun _=>⟨?_,fun _=>?_⟩⟩⟩⟩,fun h2=>⟨⟨ILeL.refl _,c102 _ ?_ ?_⟩,fun _=>⟨hp _,fun _=>⟨by decide,fun _=>⟨?_,fun _=>?_⟩⟩⟩⟩⟩,fun h1=>?_⟩
 ·(simp only[List.length_map,decide_eq_true_eq,decide_eq_false_iff_not,Int.toNat_natCast]at*<;>omega)
 ·(simp only[List.length_map,decide_eq_true_eq,decide_eq_false_iff_not,Int.toNat_natCast]at*<;>omega)
 ·exact⟨⟨by simp,cellsOk_map _ (fun _=>rfl) _,trivial,by omega⟩,trivial⟩
 ·have hlt:i<(width f).toNat:=by(simp only[List.length_map,decide_eq_true_eq,decide_eq_false_iff_not,Int.toNat_natCast]at*<;>omega)
  refine⟨hlt,⟨?_,rfl,rfl,rfl,trivial⟩,⟨rfl,row _ ?_,trivial⟩,rfl,rfl,rfl⟩
  ·exact congrArg (fun n=>AVal.imm (i64 n)) (i64_small hlt (by omega))
  ·simp only[decide_eq_true_eq]at h2
   rw[bitF,if_pos h2];rfl
 ·(simp only[List.length_map,decide_eq_true_eq,decide_eq_false_iff_not,Int.toNat_natCast]at*<;>omega)
 ·(simp only[List.length_map,decide_eq_true_eq,decide_eq_false_iff_not,Int.toNat_natCast]at*<;>omega)
 ·exact⟨⟨by simp,cellsOk_map _ (fun _=>rfl) _,trivial,by omega⟩,trivial⟩
 ·have hlt:i<(width f).toNat:=by(simp only[List.length_map,decide_eq_true_eq,decide_eq_false_iff_not,Int.toNat_natCast]at*<;>omega)
  refine⟨hlt,⟨?_,rfl,rfl,rfl,trivial⟩,⟨rfl,row _ ?_,trivial⟩,rfl,rfl,rfl⟩
  ·exact congrArg (fun n=>AVal.imm (i64 n)) (i64_small hlt (by omega))
  ·simp only[decide_eq_false_iff_not]at h2
   rw[bitF,if_neg h2];rfl
 ·have:i=(width f).toNat:=by(simp only[List.length_map,decide_eq_true_eq,decide_eq_false_iff_not,Int.toNat_natCast]at*<;>omega)
  subst this
  exact⟨rfl,by omega,⟨rfl,trivial⟩,⟨rfl,trivial⟩,rfl,rfl,rfl⟩
def bitsL (f:Int)(a:Addr):List Int:=(List.range (width f).toNat).map (bitF f a)
theorem c100 (f:Int)(a:Addr):ASpec prog 100 [u8 f,encA a] (slE 1 i64 (bitsL f a)):=by
 refine ASpec.treeW Proofs.Try.f100 (T100 f a) (by kernel_rfl) (by kernel_rfl) (t100 f a) ?_
 refine need_sat ⟨ILeL.refl _,c91 _⟩ ⟨?_,need_sat ?_ ⟨_,rfl,?_⟩⟩
 ·refine .nam (τ:=I100 f a 0) (.temp 5 50 3 1 (show 7≤50 by decide) (.sub ?_)) (l100 f a _ ?_)
  all_goals exact⟨⟨rfl,rfl,rfl,rfl,trivial⟩,⟨rfl,rfl,trivial⟩,rfl,rfl,rfl⟩
 ·exact⟨by simp,trivial⟩
 ·rw[slE,bitsL,List.map_map];exact .sl (fun h=>by cases h) (fun h=>h) (.refl _)
def P90 (p:Pfx)(i:Nat):Bool:=!decide ((bitsL p.fam p.addr).getD (p.len+(i:Int)).toNat 0=0)
def I90 (p:Pfx)(i:Nat):LState:={t:=[(5,.imm (i64 (p.len+(i:Int)))),(4,.imm (slE 1 i64 (bitsL p.fam p.addr))),(3,.imm (i64 (width p.fam)))],s:=[],m:=45,n:=0}
def R90 (p:Pfx)(i:Nat):LState:={t:=[(2,.imm (i64 8))],s:=[],m:=45,n:=0}
def E90 (p:Pfx):LState:={t:=[],s:=[],m:=45,n:=0}
def fin90 :Exit→Fin
 |.normal=>⟨[],[5,4,3],[]⟩
 |.ret=>⟨[],[2],[]⟩
 |_=>⟨[],[],[]⟩
def L90 (p:Pfx):Tree:=Lfirst (P90 p) ((width p.fam-p.len).toNat) 0 (R90 p) (E90 p)
def T90r (p:Pfx)(i:Nat):Tell:=
 Tell.mk (fun x x_1=>false) (fun x x_1=>Orc.no) (fun x=>Tree.fail 1000003 0) (fun x=>0) (fun x=>([],[])) (oget [(3,10,2,Orc.elem (i64 (List.getD (bitsL p.fam p.addr) (Int.toNat (p.len+(↑i:Int))) default)))]) fun x x_1=>Tree.fail 1000003 0
theorem t90r (p:Pfx)(i:Nat):levL prog Proofs.Try.f90 8 (I90 p i) (T90r p i) fin90=
 (let q0:=bitsL p.fam p.addr;let q1:=p.len+(↑i:Int);
 Tree.br (decide (p.len+(↑i:Int)<width p.fam)) (.need (0≤p.len+(↑i:Int)∧(List.map i64 q0)[Int.toNat q1]?=some (i64 (List.getD q0 (Int.toNat q1) 0))) (.br (!decide (List.getD q0 (Int.toNat q1) (0:Int)=(0:Int))) (.done Exit.ret (LState.mk [(2,.imm (i64 8))] [] 45 9 [])) (.done Exit.normal (LState.mk [(5,.imm (i64 (IntKind.wrap IntKind.i64 (p.len+(↑i:Int)+1)))),(4,.imm (slE 1 i64 q0)),(3,.imm (i64 (width p.fam)))] [] 45 11 [])))) (.done (Exit.exit 0) (LState.mk [] [] 45 3 []))):=by kernel_rfl
def T90 (p:Pfx):Tell:=
 Tell.mk (fun x x_1=>false) (fun x x_1=>Orc.no) (fun x=>L90 p) (fun x=>0) (fun x=>([5,4,3],[])) (oget [(2,1,2,Orc.call [u8 p.fam] (i64 (width p.fam))),(8,4,4,Orc.call [u8 p.fam,encA p.addr] (bo (ckA p.fam p.addr))),(25,6,4,Orc.call [u8 p.fam,encA p.addr] (slE 1 i64 (bitsL p.fam p.addr)))]) fun x x_1=>L90 p
theorem t90 (p:Pfx):levF prog Proofs.Try.f90 [encP p] (T90 p)=
 (let q0:=Int.toNat (width p.fam-p.len);
 Tree.need (ILeL [u8 p.fam] [u8 p.fam]∧ASpec prog 91 [u8 p.fam] (i64 (width p.fam))) (.br (decide (width p.fam=0)) (.done Exit.ret (lret (i64 2))) (.need (ILeL [u8 p.fam,.agg [u64 p.addr.hi,u64 p.addr.lo]] [u8 p.fam,encA p.addr]∧ASpec prog 99 [u8 p.fam,encA p.addr] (bo (ckA p.fam p.addr))) (.br (!ckA p.fam p.addr) (.done Exit.ret (lret (i64 8))) (.br (decide (p.len<0)) (.done Exit.ret (lret (i64 8))) (.br (decide (width p.fam<p.len)) (.done Exit.ret (lret (i64 8))) (.need (ILeL [u8 p.fam,.agg [u64 p.addr.hi,u64 p.addr.lo]] [u8 p.fam,encA p.addr]∧ASpec prog 100 [u8 p.fam,encA p.addr]
 (slE 1 i64 (bitsL p.fam p.addr))) (.loop 8 (LState.mk [(5,.imm (i64 p.len)),(4,.imm (slE 1 i64 (bitsL p.fam p.addr))),(3,.imm (i64 (width p.fam)))] [] 45 34 []) (.br (anyI (P90 p) 0 q0) (.done Exit.ret (R90 p (firstI (P90 p) 0 q0))) (.done (Exit.exit 0) (E90 p))) (.br (anyI (P90 p) 0 q0) (.done Exit.ret (lret (i64 8))) (.done Exit.ret (lret (i64 0)))))))))))):=by kernel_rfl
theorem l90 (p:Pfx)(h0:0≤p.len)(hw:p.len≤width p.fam)(σ:LState)(h:LSub σ (I90 p 0)):LoopOk prog [] (bodyOf Proofs.Try.f90) 8 σ (L90 p):=by
 refine LoopOk.first (P90 p) ((width p.fam-p.len).toNat) 0 (I90 p) (R90 p) (E90 p) (T90r p) fin90 (by kernel_rfl) h fun i hi hz=>?_
 rw[t90r]
 refine⟨fun h1=>need_sat (elem_need ?_) ⟨fun h2=>?_,fun h2=>?_⟩,fun h1=>?_⟩
 ·have:=width_le p.fam
  have e:(bitsL p.fam p.addr).length=(width p.fam).toNat:=by simp[bitsL]
  exact⟨by omega,by rw[e];(simp only[List.length_map,decide_eq_true_eq,decide_eq_false_iff_not,Int.toNat_natCast]at*<;>omega),rfl⟩
 ·exact⟨by(simp only[List.length_map,decide_eq_true_eq,decide_eq_false_iff_not,Int.toNat_natCast]at*<;>omega),h2,by simp[R90,i64,LSub,tsub,ssub,tl,sl,linT,linS,ainB,ainBL]⟩
 ·have:=width_le p.fam
  have e:IntKind.i64.wrap (p.len+(i:Int)+1)=p.len+((i+1:Nat):Int):=by rw[IntWalk.i64_in _ (by(simp only[List.length_map,decide_eq_true_eq,decide_eq_false_iff_not,Int.toNat_natCast]at*<;>omega))];omega
  refine⟨by(simp only[List.length_map,decide_eq_true_eq,decide_eq_false_iff_not,Int.toNat_natCast]at*<;>omega),h2,⟨?_,rfl,rfl,trivial⟩,trivial,rfl,rfl,rfl⟩
  exact congrArg (fun n=>AVal.imm (i64 n)) e
 ·exact⟨rfl,by(simp only[List.length_map,decide_eq_true_eq,decide_eq_false_iff_not,Int.toNat_natCast]at*<;>omega),by simp[E90,LSub,tsub,ssub,tl,sl,linT,linS,ainB,ainBL]⟩
def ckP' (p:Pfx):Int:=
 if width p.fam=0 then 2 else if(ckA p.fam p.addr&&decide (0≤p.len)&&decide (p.len≤width p.fam)&&!anyI (P90 p) 0 (width p.fam-p.len).toNat)=true then 0 else 8
theorem c90 (p:Pfx):ASpec prog 90 [encP p] (i64 (ckP' p)):=by
 refine ASpec.treeW Proofs.Try.f90 (T90 p) (by kernel_rfl) (by kernel_rfl) (t90 p) ?_
 refine need_sat ⟨ILeL.refl _,c91 _⟩ ⟨fun h1=>⟨_,rfl,?_⟩,fun h1=>need_sat ⟨ILeL.refl _,c99 _ _⟩ ⟨fun h2=>⟨_,rfl,?_⟩,fun h2=>⟨fun h3=>⟨_,rfl,?_⟩,fun h3=>⟨fun h4=>⟨_,rfl,?_⟩,fun h4=>need_sat ⟨ILeL.refl _,c100 _ _⟩ ⟨?_,⟨fun h5=>⟨_,rfl,?_⟩,fun h5=>⟨_,rfl,?_⟩⟩⟩⟩⟩⟩⟩
 all_goals simp only[decide_eq_true_eq,decide_eq_false_iff_not,Bool.not_eq_true',Bool.not_eq_false']at*
 ·exact ile_i64 (by simp[ckP', *])
 ·exact ile_i64 (by simp[ckP', *])
 ·exact ile_i64 (by simp[ckP', *];omega)
 ·exact ile_i64 (by simp[ckP', *];omega)
 ·exact l90 p (by omega) (by omega) _ ⟨⟨by simp[tl,i64],rfl,rfl,trivial⟩,trivial,rfl,rfl,rfl⟩
 ·exact ile_i64 (by simp[ckP', *])
 ·exact ile_i64 (by
   have g3:0≤p.len:=by omega
   have g4:p.len≤width p.fam:=by omega
   simp[ckP', *])
end Gp
namespace Gp
def P92 (a:Attest)(i:Nat):Bool:=decide (a.provs.getD i 0=a.cust)||(decide (0<i)&&decide (a.provs.getD i 0≤a.provs.getD (i-1) 0))
def I92 (a:Attest)(i:Nat):LState:={t:=[(4,.imm (i64 i)),(3,.imm (i64 a.provs.length)),(1,.ptr 0 0)],s:=[(0,.box 112 (.imm (encT a)))],m:=59,n:=1}
def R92 (a:Attest)(i:Nat):LState:={t:=[(2,.imm (i64 8))],s:=[],m:=59,n:=1}
def E92 (a:Attest):LState:={t:=[],s:=[],m:=59,n:=1}
def fin92 :Exit→Fin
 |.normal=>⟨[],[4,3,1],[0]⟩
 |.ret=>⟨[],[2],[]⟩
 |_=>⟨[],[],[]⟩
def L92 (a:Attest):Tree:=Lfirst (P92 a) a.provs.length 0 (R92 a) (E92 a)
def T92r (a:Attest)(i:Nat):Tell:=
 Tell.mk (fun x x_1=>false) (fun x x_1=>Orc.no) (fun x=>Tree.fail 1000003 0) (fun x=>0) (fun x=>([],[])) (oget [(4,9,3,Orc.elem (u32 (List.getD a.provs i default))),(4,9,15,Orc.elem (u32 (List.getD a.provs i default))),(4,9,21,Orc.elem (u32 (List.getD a.provs (Int.toNat (IntKind.wrap IntKind.i64 ((↑i:Int)-1))) default)))]) fun x x_1=>Tree.fail 1000003 0
theorem t92r (a:Attest)(i:Nat):levL prog Proofs.Try.f92 7 (I92 a i) (T92r a i) fin92=
 (let q0:=IntKind.wrap IntKind.i64 ((↑i:Int)-1);let q1:=i64 (IntKind.wrap IntKind.i64 ((↑i:Int)+1));let q2:=List.map u32 a.provs;let q3:=List.length a.provs;
 Tree.br (decide ((↑i:Int)<(↑q3:Int))) (.need (0≤(↑i:Int)∧q2[i]?=some (u32 (List.getD a.provs i 0))) (.br (decide (List.getD a.provs i 0=a.cust)) (.done Exit.ret (LState.mk [(2,.imm (i64 8))] [] 59 31 [])) (.br (decide (0<(↑i:Int))) (.need (0≤(↑i:Int)∧q2[i]?=some (u32 (List.getD a.provs i 0))) (.need (0≤IntKind.wrap IntKind.i64 ((↑i:Int)-1)∧q2[Int.toNat q0]?=some (u32 (List.getD a.provs (Int.toNat q0) 0))) (.br (decide (List.getD a.provs i 0≤List.getD a.provs (Int.toNat q0) 0)) (.done Exit.ret (LState.mk [(2,.imm (i64 8))] [] 59 31 [])) (.done Exit.normal
 (LState.mk [(4,.imm q1),(3,.imm (i64 (↑q3:Int))),(1,.ptr 0 0)] [(0,Entry.box 112 (.imm (encT a)))] 59 33 []))))) (.done Exit.normal (LState.mk [(4,.imm q1),(3,.imm (i64 (↑q3:Int))),(1,.ptr 0 0)] [(0,Entry.box 112 (.imm (encT a)))] 59 33 []))))) (.done (Exit.exit 0) (LState.mk [] [] 59 4 []))):=by kernel_rfl
def T92 (a:Attest):Tell:=
 Tell.mk (fun x x_1=>false) (fun x x_1=>Orc.no) (fun x=>L92 a) (fun x=>0) (fun x=>([4,3,1],[0])) (oget [(8,4,13,Orc.elem (u32 (List.getD a.provs 0 default)))]) fun x x_1=>L92 a
theorem t92 (a:Attest):levF prog Proofs.Try.f92 [encT a] (T92 a)=
 (let q0:=List.length (List.map u32 a.provs);let q1:=anyI (P92 a) 0 (List.length a.provs);let q2:=R92 a (firstI (P92 a) 0 (List.length a.provs));
 Tree.br (decide (50<(↑q0:Int))) (.done Exit.ret (lret (i64 4))) (.br (decide ((↑q0:Int)=0)) (.done Exit.ret (lret (i64 8))) (.br (decide (a.cust=0)) (.done Exit.ret (lret (i64 8))) (.br (decide (1<(↑q0:Int))) (.need ((0:Int)≤(0:Int)∧(List.map u32 a.provs)[0]?=some (u32 (List.getD a.provs 0 0))) (.br (decide (List.getD a.provs 0 (0:Int)=(0:Int))) (.done Exit.ret (lret (i64 8))) (.loop 7 (LState.mk [(4,.imm (i64 0)),(3,.imm (i64 (↑q0:Int))),(1,.ptr 0 0)] [(0,Entry.box 112 (.imm (encT a)))] 59 27 []) (.br q1 (.done Exit.ret q2) (.done (Exit.exit 0) (E92 a))) (.br q1
 (.done Exit.ret (lret (i64 8))) (.done Exit.ret (lret (i64 0))))))) (.loop 7 (LState.mk [(4,.imm (i64 0)),(3,.imm (i64 (↑q0:Int))),(1,.ptr 0 0)] [(0,Entry.box 112 (.imm (encT a)))] 59 27 []) (.br q1 (.done Exit.ret q2) (.done (Exit.exit 0) (E92 a))) (.br q1 (.done Exit.ret (lret (i64 8))) (.done Exit.ret (lret (i64 0))))))))):=by kernel_rfl
theorem l92 (a:Attest)(hl:a.provs.length≤2^62)(σ:LState)(h:LSub σ (I92 a 0)):LoopOk prog [] (bodyOf Proofs.Try.f92) 7 σ (L92 a):=by
 refine LoopOk.first (P92 a) a.provs.length 0 (I92 a) (R92 a) (E92 a) (T92r a) fin92 (by kernel_rfl) h fun i hi hz=>?_
 rw[t92r]
 refine⟨fun h1=>need_sat (elem_need ?_) ⟨fun h2=>?_,fun h2=>⟨fun h3=>need_sat (elem_need ?_) (need_sat (elem_need ?_) ⟨fun h4=>?_,fun h4=>?_⟩),fun h3=>?_⟩⟩,fun h1=>?_⟩
 ·(refine⟨by omega,?_,?_⟩<;>(simp only[List.length_map,decide_eq_true_eq,decide_eq_false_iff_not,Int.toNat_natCast]at*<;>omega))
 ·exact⟨by(simp only[List.length_map,decide_eq_true_eq,decide_eq_false_iff_not,Int.toNat_natCast]at*<;>omega),by simp only[P92,h2,Bool.true_or],by simp[R92,i64,LSub,tsub,ssub,tl,sl,linT,linS,ainB,ainBL]⟩
 ·(refine⟨by omega,?_,?_⟩<;>(simp only[List.length_map,decide_eq_true_eq,decide_eq_false_iff_not,Int.toNat_natCast]at*<;>omega))
 ·have e:IntKind.i64.wrap ((i:Int)-1)=((i-1:Nat):Int):=by rw[IntWalk.i64_in _ (by(simp only[List.length_map,decide_eq_true_eq,decide_eq_false_iff_not,Int.toNat_natCast]at*<;>omega))];(simp only[List.length_map,decide_eq_true_eq,decide_eq_false_iff_not,Int.toNat_natCast]at*<;>omega)
  exact⟨by rw[e];omega,by rw[e];(simp only[List.length_map,decide_eq_true_eq,decide_eq_false_iff_not,Int.toNat_natCast]at*<;>omega),rfl⟩
 ·have e:IntKind.i64.wrap ((i:Int)-1)=((i-1:Nat):Int):=by rw[IntWalk.i64_in _ (by(simp only[List.length_map,decide_eq_true_eq,decide_eq_false_iff_not,Int.toNat_natCast]at*<;>omega))];(simp only[List.length_map,decide_eq_true_eq,decide_eq_false_iff_not,Int.toNat_natCast]at*<;>omega)
  rw[e,Int.toNat_natCast]at h4
  have h3':0<i:=by(simp only[List.length_map,decide_eq_true_eq,decide_eq_false_iff_not,Int.toNat_natCast]at*<;>omega)
  exact⟨by(simp only[List.length_map,decide_eq_true_eq,decide_eq_false_iff_not,Int.toNat_natCast]at*<;>omega),by simp only[P92,h2,h4,decide_eq_true h3',Bool.and_self,Bool.or_true],by simp[R92,i64,LSub,tsub,ssub,tl,sl,linT,linS,ainB,ainBL]⟩
 ·have e:IntKind.i64.wrap ((i:Int)-1)=((i-1:Nat):Int):=by rw[IntWalk.i64_in _ (by(simp only[List.length_map,decide_eq_true_eq,decide_eq_false_iff_not,Int.toNat_natCast]at*<;>omega))];(simp only[List.length_map,decide_eq_true_eq,decide_eq_false_iff_not,Int.toNat_natCast]at*<;>omega)
  rw[e,Int.toNat_natCast]at h4
  exact⟨by(simp only[List.length_map,decide_eq_true_eq,decide_eq_false_iff_not,Int.toNat_natCast]at*<;>omega),by simp only[P92,h2,h4,Bool.and_false,Bool.or_self],by simp[I92,i64,i64_small (n:=i) (by(simp only[List.length_map,decide_eq_true_eq,decide_eq_false_iff_not,Int.toNat_natCast]at*<;>omega)) hl,LSub,tsub,ssub,tl,sl,linT,linS,ainB,ainBL]⟩
 ·have h3':¬0<i:=by(simp only[List.length_map,decide_eq_true_eq,decide_eq_false_iff_not,Int.toNat_natCast]at*<;>omega)
  exact⟨by(simp only[List.length_map,decide_eq_true_eq,decide_eq_false_iff_not,Int.toNat_natCast]at*<;>omega),by simp only[P92,h2,decide_eq_false h3',Bool.false_and,Bool.or_self],by simp[I92,i64,i64_small (n:=i) (by(simp only[List.length_map,decide_eq_true_eq,decide_eq_false_iff_not,Int.toNat_natCast]at*<;>omega)) hl,LSub,tsub,ssub,tl,sl,linT,linS,ainB,ainBL]⟩
 ·exact⟨rfl,by(simp only[List.length_map,decide_eq_true_eq,decide_eq_false_iff_not,Int.toNat_natCast]at*<;>omega),by simp[E92,LSub,tsub,ssub,tl,sl,linT,linS,ainB,ainBL]⟩
def ckPr' (a:Attest):Int:=
 if 50<a.provs.length then 4 else if a.provs.length=0∨a.cust=0∨(1<a.provs.length∧a.provs.getD 0 0=0)∨anyI (P92 a) 0 a.provs.length=true then 8 else 0
theorem c92 (a:Attest):ASpec prog 92 [encT a] (i64 (ckPr' a)):=by
 refine ASpec.treeW Proofs.Try.f92 (T92 a) (by kernel_rfl) (by kernel_rfl) (t92 a) ?_
 refine⟨fun h1=>⟨_,rfl,?_⟩,fun h1=>⟨fun h2=>⟨_,rfl,?_⟩,fun h2=>⟨fun h3=>⟨_,rfl,?_⟩,fun h3=>⟨fun h4=>need_sat (elem_need ?_) ⟨fun h5=>⟨_,rfl,?_⟩,fun h5=>⟨?_,⟨fun h6=>⟨_,rfl,?_⟩,fun h6=>⟨_,rfl,?_⟩⟩⟩⟩,fun h4=>⟨?_,⟨fun h5=>⟨_,rfl,?_⟩,fun h5=>⟨_,rfl,?_⟩⟩⟩⟩⟩⟩⟩
 all_goals simp only[decide_eq_true_eq,decide_eq_false_iff_not,List.length_map]at*
 ·exact ile_i64 (by unfold ckPr';rw[if_pos (by omega)])
 ·exact ile_i64 (by unfold ckPr';rw[if_neg (by omega),if_pos (.inl (by omega))])
 ·exact ile_i64 (by unfold ckPr';rw[if_neg (by omega),if_pos (.inr (.inl h3))])
 ·exact⟨by omega,by simp;omega,rfl⟩
 ·exact ile_i64 (by unfold ckPr';rw[if_neg (by omega),if_pos (.inr (.inr (.inl ⟨by omega,h5⟩)))])
 ·exact l92 a (by omega) _ ⟨⟨rfl,by simp[tl,i64],rfl,trivial⟩,⟨rfl,trivial⟩,rfl,rfl,rfl⟩
 ·exact ile_i64 (by unfold ckPr';rw[if_neg (by omega),if_pos (.inr (.inr (.inr h6)))])
 ·exact ile_i64 (by
   unfold ckPr';rw[if_neg (by omega),if_neg]
   rintro(h|h|h|h)
   ·omega
   ·exact h3 h
   ·exact h5 h.2
   ·rw[h6]at h;cases h)
 ·exact l92 a (by omega) _ ⟨⟨rfl,by simp[tl,i64],rfl,trivial⟩,⟨rfl,trivial⟩,rfl,rfl,rfl⟩
 ·exact ile_i64 (by unfold ckPr';rw[if_neg (by omega),if_pos (.inr (.inr (.inr h5)))])
 ·exact ile_i64 (by
   unfold ckPr';rw[if_neg (by omega),if_neg]
   rintro(h|h|h|h)
   ·omega
   ·exact h3 h
   ·omega
   ·rw[h5]at h;cases h)
end Gp
namespace Gp
structure Pdu where
 version:Int
 kind:Int
 session:Int
 serial:Int
 add:Bool
 origin:Origin
 path:Attest
 key:RKey
 refresh:Int
 retry:Int
 expire:Int
 code:Int
 copy:List Int
 text:ByteArray
 deriving DecidableEq
instance:Inhabited Pdu:=⟨⟨0,0,0,0,false,default,default,default,0,0,0,0,[],.empty⟩⟩
def st (s:ByteArray):IVal:=.v (.string s)
def encD (m:Pdu):IVal:=.agg [u8 m.version,u8 m.kind,u16 m.session,u32 m.serial,bo m.add,u32 m.origin.asn,u8 m.origin.pfx.fam,u64 m.origin.pfx.addr.hi,u64 m.origin.pfx.addr.lo,i64 m.origin.pfx.len,i64 m.origin.max,u32 m.path.cust,lu32 m.path.provs,
 u32 m.key.asn,u8 m.key.root[0],u8 m.key.root[1],u8 m.key.root[2],u8 m.key.root[3],u8 m.key.root[4],u8 m.key.root[5],u8 m.key.root[6],u8 m.key.root[7],u8 m.key.root[8],u8 m.key.root[9],u8 m.key.root[10],u8 m.key.root[11],u8 m.key.root[12],u8 m.key.root[13],u8 m.key.root[14],u8 m.key.root[15],i64 m.key.height,
 u32 m.refresh,u32 m.retry,u32 m.expire,u16 m.code,lu8 m.copy,st m.text]
def T47 (m:Pdu):Tell:=
 Tell.mk (fun x x_1=>false) (fun x x_1=>Orc.no) (fun x=>Tree.fail 1000003 0) (fun x=>0) (fun x=>([],[])) (fun x x_1 x_2=>Orc.no) fun x x_1=>Tree.fail 1000003 0
theorem t47 (m:Pdu):levF prog Proofs.Try.f47 [encD m] (T47 m)=
 Tree.done Exit.ret (lret (bo true)):=by kernel_rfl
def T56 (m:Pdu):Tell:=
 Tell.mk (fun x x_1=>false) (fun x x_1=>Orc.no) (fun x=>Tree.fail 1000003 0) (fun x=>0) (fun x=>([],[])) (oget [(15,5,2,Orc.call [encP m.origin.pfx] (i64 (ckP m.origin.pfx))),(13,5,2,Orc.call [encP m.origin.pfx] (i64 (ckP m.origin.pfx)))]) fun x x_1=>Tree.fail 1000003 0
theorem t56 (m:Pdu):levF prog Proofs.Try.f56 [encD m] (T56 m)=
 (let q0:=decide (m.origin.pfx.len≤m.origin.max);
 Tree.br (decide (m.kind=6)) (.need (ILeL [.agg [u8 m.origin.pfx.fam,u64 m.origin.pfx.addr.hi,u64 m.origin.pfx.addr.lo,i64 m.origin.pfx.len]] [encP m.origin.pfx]∧ASpec prog 86 [encP m.origin.pfx] (i64 (ckP m.origin.pfx))) (.br (decide (ckP m.origin.pfx=0)) (.br (decide (m.origin.pfx.fam=6)) (.br q0 (.done Exit.ret (lret (bo (decide (m.origin.max≤128))))) (.done Exit.ret (lret (bo false)))) (.done Exit.ret (lret (bo false)))) (.done Exit.ret (lret (bo false))))) (.need (ILeL [.agg [u8 m.origin.pfx.fam,u64 m.origin.pfx.addr.hi,u64 m.origin.pfx.addr.lo,i64 m.origin.pfx.len]] [encP
 m.origin.pfx]∧ASpec prog 86 [encP m.origin.pfx] (i64 (ckP m.origin.pfx))) (.br (decide (ckP m.origin.pfx=0)) (.br (decide (m.origin.pfx.fam=4)) (.br q0 (.done Exit.ret (lret (bo (decide (m.origin.max≤32))))) (.done Exit.ret (lret (bo false)))) (.done Exit.ret (lret (bo false)))) (.done Exit.ret (lret (bo false)))))):=by kernel_rfl
def T59 (m:Pdu):Tell:=
 Tell.mk (fun x x_1=>false) (fun x x_1=>Orc.no) (fun x=>Tree.fail 1000003 0) (fun x=>0) (fun x=>([],[])) (fun x x_1 x_2=>Orc.no) fun x x_1=>Tree.fail 1000003 0
theorem t59 (m:Pdu):levF prog Proofs.Try.f59 [encD m] (T59 m)=
 Tree.br (decide (m.version=0)) (.done Exit.ret (lret (bo true))) (.br (decide (1≤if m.retry<m.refresh then m.retry else m.refresh)) (.br (decide (m.expire≤1048576)) (.done Exit.ret (lret (bo (decide ((if m.retry>m.refresh then m.retry else m.refresh)≤m.expire))))) (.done Exit.ret (lret (bo false)))) (.done Exit.ret (lret (bo false)))):=by kernel_rfl
def T62 (m:Pdu):Tell:=
 Tell.mk (fun x x_1=>false) (fun x x_1=>Orc.no) (fun x=>Tree.fail 1000003 0) (fun x=>0) (fun x=>([],[])) (fun x x_1 x_2=>Orc.no) fun x x_1=>Tree.fail 1000003 0
theorem t62 (m:Pdu):levF prog Proofs.Try.f62 [encD m] (T62 m)=
 Tree.br (decide (0<m.version)) (.br (decide (0≤m.key.height)) (.done Exit.ret (lret (bo (decide (m.key.height≤4))))) (.done Exit.ret (lret (bo false)))) (.done Exit.ret (lret (bo false))):=by kernel_rfl
def T67 (m:Pdu):Tell:=
 Tell.mk (fun x x_1=>false) (fun x x_1=>Orc.no) (fun x=>Tree.fail 1000003 0) (fun x=>0) (fun x=>([],[])) (fun x x_1 x_2=>Orc.no) fun x x_1=>Tree.fail 1000003 0
theorem t67 (m:Pdu):levF prog Proofs.Try.f67 [encD m] (T67 m)=
 Tree.done Exit.ret (lret (bo (decide (m.code≤8)))):=by kernel_rfl
def T72 (m:Pdu):Tell:=
 Tell.mk (fun x x_1=>false) (fun x x_1=>Orc.no) (fun x=>Tree.fail 1000003 0) (fun x=>0) (fun x=>([],[])) (oget [(6,3,14,Orc.call [encT m.path] (i64 (ckPr m.path)))]) fun x x_1=>Tree.fail 1000003 0
theorem t72 (m:Pdu):levF prog Proofs.Try.f72 [encD m] (T72 m)=
 Tree.br (!m.add) (.br (decide (m.version=2)) (.br (decide (0<m.path.cust)) (.done Exit.ret (lret (bo (decide ((↑(List.length (List.map u32 m.path.provs)):Int)=0))))) (.done Exit.ret (lret (bo false)))) (.done Exit.ret (lret (bo false)))) (.br (decide (m.version=2)) (.need (ILeL [.agg [u32 m.path.cust,lu32 m.path.provs]] [encT m.path]∧ASpec prog 89 [encT m.path] (i64 (ckPr m.path))) (.done Exit.ret (lret (bo (decide (ckPr m.path=0)))))) (.done Exit.ret (lret (bo false)))):=by kernel_rfl
end Gp
