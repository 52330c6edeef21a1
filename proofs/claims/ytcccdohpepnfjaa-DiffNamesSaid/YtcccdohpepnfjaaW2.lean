/- Part 2 of the walk and of the plain law of DiffNames. -/
import Derived.Test.YtcccdohpepnfjaaW1
set_option maxRecDepth 100000
set_option maxHeartbeats 0
set_option linter.unusedVariables false
set_option linter.unusedSimpArgs false
open Go Go.Abs
noncomputable section
namespace Gp
def P52 (a b:Attest)(i:Nat):Bool:=neI (a.provs.getD i 0) (b.provs.getD i 0)
def I52 (a b:Attest)(i:Nat):LState:={t:=[(5,.imm (i64 i)),(3,.ptr 1 0),(2,.ptr 0 0)],s:=[(0,.box 47 (.imm (encT a))),(1,.box 47 (.imm (encT b)))],m:=38,n:=2}
def R52 (a b:Attest)(i:Nat):LState:={t:=[(4,.imm (bo false))],s:=[],m:=38,n:=2}
def E52 (a b:Attest):LState:={t:=[],s:=[],m:=38,n:=2}
def fin52 :Exit→Fin
 |.normal=>⟨[],[5,3,2],[0,1]⟩
 |.ret=>⟨[],[4],[]⟩
 |_=>⟨[],[],[]⟩
def L52 (a b:Attest):Tree:=Lfirst (P52 a b) a.provs.length 0 (R52 a b) (E52 a b)
def T52r (a b:Attest)(i:Nat):Tell:=
 Tell.mk (fun x x_1=>false) (fun x x_1=>Orc.no) (fun x=>Tree.fail 1000003 0) (fun x=>0) (fun x=>([],[])) (oget [(7,6,3,Orc.elem (u32 (List.getD a.provs i default))),(7,6,8,Orc.elem (u32 (List.getD b.provs i default)))]) fun x x_1=>Tree.fail 1000003 0
theorem t52r (a b:Attest)(i:Nat):levL prog Proofs.Try.f52 4 (I52 a b i) (T52r a b i) fin52=
 Tree.br (decide ((↑i:Int)<(↑(List.length (List.map u32 a.provs)):Int))) (.need (0≤(↑i:Int)∧(List.map u32 a.provs)[i]?=some (u32 (List.getD a.provs i 0))) (.need (0≤(↑i:Int)∧(List.map u32 b.provs)[i]?=some (u32 (List.getD b.provs i 0))) (.br (!decide (List.getD a.provs i 0=List.getD b.provs i 0)) (.done Exit.ret (LState.mk [(4,.imm (bo false))] [] 38 19 [])) (.done Exit.normal (LState.mk [(5,.imm (i64 (IntKind.wrap IntKind.i64 ((↑i:Int)+1)))),(3,.ptr 1 0),(2,.ptr 0 0)] [(0,Entry.box 47 (.imm (encT a))),(1,Entry.box 47 (.imm (encT b)))] 38 21 []))))) (.done (Exit.exit
 0) (LState.mk [] [] 38 7 [])):=by kernel_rfl
def T52 (a b:Attest):Tell:=
 Tell.mk (fun x x_1=>false) (fun x x_1=>Orc.no) (fun x=>L52 a b) (fun x=>0) (fun x=>([5,3,2],[0,1])) (fun x x_1 x_2=>Orc.no) fun x x_1=>L52 a b
theorem t52 (a b:Attest):levF prog Proofs.Try.f52 [encT a,encT b] (T52 a b)=
 Tree.br (!decide (a.cust=b.cust)) (.done Exit.ret (lret (bo false))) (.br (!decide ((↑(List.length (List.map u32 a.provs)):Int)=(↑(List.length (List.map u32 b.provs)):Int))) (.done Exit.ret (lret (bo false))) (.loop 4 (LState.mk [(5,.imm (i64 0)),(3,.ptr 1 0),(2,.ptr 0 0)] [(0,Entry.box 47 (.imm (encT a))),(1,Entry.box 47 (.imm (encT b)))] 38 18 []) (.br (anyI (P52 a b) 0 (List.length a.provs)) (.done Exit.ret (R52 a b (firstI (P52 a b) 0 (List.length a.provs)))) (.done (Exit.exit 0) (E52 a b))) (.br (anyI (P52 a b) 0 (List.length a.provs)) (.done Exit.ret (lret (bo false))) (.done
 Exit.ret (lret (bo true)))))):=by kernel_rfl
theorem l52 (a b:Attest)(hl:a.provs.length≤2^62)(hlr:a.provs.length=b.provs.length)(σ:LState)(h:LSub σ (I52 a b 0)):LoopOk prog [] (bodyOf Proofs.Try.f52) 4 σ (L52 a b):=by
 refine LoopOk.first (P52 a b) a.provs.length 0 (I52 a b) (R52 a b) (E52 a b) (T52r a b) fin52 (by kernel_rfl) h fun i hi hz=>?_
 rw[t52r]
 refine⟨fun h1=>need_sat (elem_need ?_) (need_sat (elem_need ?_) ⟨fun h2=>?_,fun h2=>?_⟩),fun h1=>?_⟩
 ·(refine⟨by omega,?_,?_⟩<;>(simp only[List.length_map,decide_eq_true_eq,decide_eq_false_iff_not,Int.toNat_natCast]at*<;>omega))
 ·(refine⟨by omega,?_,?_⟩<;>(simp only[List.length_map,decide_eq_true_eq,decide_eq_false_iff_not,Int.toNat_natCast]at*<;>omega))
 ·exact⟨by(simp only[List.length_map,decide_eq_true_eq,decide_eq_false_iff_not,Int.toNat_natCast]at*<;>omega),h2,by simp[R52,bo,LSub,tsub,ssub,tl,sl,linT,linS,ainB,ainBL]⟩
 ·exact⟨by(simp only[List.length_map,decide_eq_true_eq,decide_eq_false_iff_not,Int.toNat_natCast]at*<;>omega),h2,by simp[I52,i64,i64_small (n:=i) (by(simp only[List.length_map,decide_eq_true_eq,decide_eq_false_iff_not,Int.toNat_natCast]at*<;>omega)) hl,LSub,tsub,ssub,tl,sl,linT,linS,ainB,ainBL]⟩
 ·exact⟨rfl,by(simp only[List.length_map,decide_eq_true_eq,decide_eq_false_iff_not,Int.toNat_natCast]at*<;>omega),by simp[E52,LSub,tsub,ssub,tl,sl,linT,linS,ainB,ainBL]⟩
theorem c52 (a b:Attest)(hl:a.provs.length≤2^62):ASpec prog 52 [encT a,encT b] (bo (decide (a=b))):=by
 have he:sameL neI 0 a.provs b.provs=decide (a.provs=b.provs):=by rw[Bool.eq_iff_iff,sameL_iff (fun a b=>by simp[neI])];simp
 have hab:decide (a=b)=(decide (a.cust=b.cust)&&decide (a.provs=b.provs)):=by rw[Bool.eq_iff_iff];cases a;cases b;simp
 rw[hab,←he]
 refine ASpec.treeW Proofs.Try.f52 (T52 a b) (by kernel_rfl) (by kernel_rfl) (t52 a b) ?_
 refine⟨fun h1=>⟨_,rfl,?_⟩,fun h1=>⟨fun h2=>⟨_,rfl,?_⟩,fun h2=>⟨?_,⟨fun h3=>⟨_,rfl,?_⟩,fun h3=>⟨_,rfl,?_⟩⟩⟩⟩⟩
 ·have:¬a.cust=b.cust:=by simpa using h1
  exact ile_bo (by simp[this])
 ·have:¬a.provs.length=b.provs.length:=by simp at h2;omega
  exact ile_bo (by simp[sameL,this])
 ·exact l52 a b hl (by simp at h2;omega) _ (by simp[I52,i64,LSub,tsub,ssub,tl,sl,linT,linS,ainB,ainBL])
 ·refine ile_bo ?_
  simp only[sameL,show diffAt neI 0 a.provs b.provs=P52 a b from rfl,h3];simp
 ·have h2:a.provs.length=b.provs.length:=by simp at h2;omega
  have h1:a.cust=b.cust:=by simpa using h1
  refine ile_bo ?_
  simp only[sameL,show diffAt neI 0 a.provs b.provs=P52 a b from rfl,h3];simp[h1,h2]
def P16a (p q:Payload)(i:Nat):Bool:=neO (p.origins.getD i default) (q.origins.getD i default)
def I16a (p q:Payload)(i:Nat):LState:={t:=[(5,.imm (i64 i)),(3,.ptr 1 0),(2,.ptr 0 0)],s:=[(0,.box 26 (.imm (encL p))),(1,.box 26 (.imm (encL q)))],m:=88,n:=2}
def R16a (p q:Payload)(i:Nat):LState:={t:=[(4,.imm (bo false))],s:=[],m:=88,n:=2}
def E16a (p q:Payload):LState:={t:=[(3,.ptr 1 0),(2,.ptr 0 0)],s:=[(0,.box 26 (.imm (encL p))),(1,.box 26 (.imm (encL q)))],m:=88,n:=2}
def fin16a :Exit→Fin
 |.normal=>⟨[],[5,3,2],[0,1]⟩
 |.ret=>⟨[],[4],[]⟩
 |_=>⟨[],[3,2],[0,1]⟩
def L16a (p q:Payload):Tree:=Lfirst (P16a p q) p.origins.length 0 (R16a p q) (E16a p q)
def T16ar (p q:Payload)(i:Nat):Tell:=
 Tell.mk (fun x x_1=>false) (fun x x_1=>Orc.no) (fun x=>Tree.fail 1000003 0) (fun x=>0) (fun x=>([],[])) (oget [(7,6,3,Orc.elem (encO (List.getD p.origins i default))),(7,6,8,Orc.elem (encO (List.getD q.origins i default)))]) fun x x_1=>Tree.fail 1000003 0
theorem t16ar (p q:Payload)(i:Nat):levL prog Proofs.Try.f16 4 (I16a p q i) (T16ar p q i) fin16a=
 Tree.br (decide ((↑i:Int)<(↑(List.length (List.map encO p.origins)):Int))) (.need (0≤(↑i:Int)∧(List.map encO p.origins)[i]?=some (encO (List.getD p.origins i default))) (.need (0≤(↑i:Int)∧(List.map encO q.origins)[i]?=some (encO (List.getD q.origins i default))) (.br (if BinOp.neq=BinOp.neq then !(decide ((List.getD p.origins i default).asn=(List.getD q.origins i default).asn)&&(decide ((List.getD p.origins i default).pfx.fam=(List.getD q.origins i default).pfx.fam)&&(decide ((List.getD p.origins i default).pfx.addr.hi=(List.getD q.origins i
 default).pfx.addr.hi)&&(decide ((List.getD p.origins i default).pfx.addr.lo=(List.getD q.origins i default).pfx.addr.lo)&&(decide ((List.getD p.origins i default).pfx.len=(List.getD q.origins i default).pfx.len)&&(decide ((List.getD p.origins i default).max=(List.getD q.origins i default).max)&&true))))))else decide ((List.getD p.origins i default).asn=(List.getD q.origins i default).asn)&&(decide ((List.getD p.origins i default).pfx.fam=(List.getD q.origins i default).pfx.fam)&&(decide ((List.getD p.origins i default).pfx.addr.hi=(List.getD q.origins i
 default).pfx.addr.hi)&&(decide ((List.getD p.origins i default).pfx.addr.lo=(List.getD q.origins i default).pfx.addr.lo)&&(decide ((List.getD p.origins i default).pfx.len=(List.getD q.origins i default).pfx.len)&&(decide ((List.getD p.origins i default).max=(List.getD q.origins i default).max)&&true)))))) (.done Exit.ret (LState.mk [(4,.imm (bo false))] [] 88 19 [])) (.done Exit.normal (LState.mk [(5,.imm (i64 (IntKind.wrap IntKind.i64 ((↑i:Int)+1)))),(3,.ptr 1 0),(2,.ptr 0 0)] [(0,Entry.box 26 (.imm (encL p))),(1,Entry.box 26 (.imm (encL q)))] 88 21 []))))) (.done (Exit.exit
 0) (LState.mk [(3,.ptr 1 0),(2,.ptr 0 0)] [(0,Entry.box 26 (.imm (encL p))),(1,Entry.box 26 (.imm (encL q)))] 88 7 [])):=by kernel_rfl
theorem l16a (p q:Payload)(hl:p.origins.length≤2^62)(hlr:p.origins.length=q.origins.length)(σ:LState)(h:LSub σ (I16a p q 0)):LoopOk prog [] (bodyOf Proofs.Try.f16) 4 σ (L16a p q):=by
 refine LoopOk.first (P16a p q) p.origins.length 0 (I16a p q) (R16a p q) (E16a p q) (T16ar p q) fin16a (by kernel_rfl) h fun i hi hz=>?_
 rw[t16ar]
 refine⟨fun h1=>need_sat (elem_need ?_) (need_sat (elem_need ?_) ⟨fun h2=>?_,fun h2=>?_⟩),fun h1=>?_⟩
 ·(refine⟨by omega,?_,?_⟩<;>(simp only[List.length_map,decide_eq_true_eq,decide_eq_false_iff_not,Int.toNat_natCast]at*<;>omega))
 ·(refine⟨by omega,?_,?_⟩<;>(simp only[List.length_map,decide_eq_true_eq,decide_eq_false_iff_not,Int.toNat_natCast]at*<;>omega))
 ·exact⟨by(simp only[List.length_map,decide_eq_true_eq,decide_eq_false_iff_not,Int.toNat_natCast]at*<;>omega),h2,by simp[R16a,bo,LSub,tsub,ssub,tl,sl,linT,linS,ainB,ainBL]⟩
 ·exact⟨by(simp only[List.length_map,decide_eq_true_eq,decide_eq_false_iff_not,Int.toNat_natCast]at*<;>omega),h2,by simp[I16a,i64,i64_small (n:=i) (by(simp only[List.length_map,decide_eq_true_eq,decide_eq_false_iff_not,Int.toNat_natCast]at*<;>omega)) hl,LSub,tsub,ssub,tl,sl,linT,linS,ainB,ainBL]⟩
 ·exact⟨rfl,by(simp only[List.length_map,decide_eq_true_eq,decide_eq_false_iff_not,Int.toNat_natCast]at*<;>omega),by simp[E16a,LSub,tsub,ssub,tl,sl,linT,linS,ainB,ainBL]⟩
def P16b (p q:Payload)(i:Nat):Bool:=!decide (p.paths.getD i default=q.paths.getD i default)
def I16b (p q:Payload)(i:Nat):LState:={t:=[(6,.imm (i64 i)),(3,.ptr 1 0),(2,.ptr 0 0)],s:=[(0,.box 26 (.imm (encL p))),(1,.box 26 (.imm (encL q)))],m:=88,n:=2}
def R16b (p q:Payload)(i:Nat):LState:={t:=[(4,.imm (bo false))],s:=[],m:=88,n:=2}
def E16b (p q:Payload):LState:={t:=[(3,.ptr 1 0),(2,.ptr 0 0)],s:=[(0,.box 26 (.imm (encL p))),(1,.box 26 (.imm (encL q)))],m:=88,n:=2}
def fin16b :Exit→Fin
 |.normal=>⟨[],[6,3,2],[0,1]⟩
 |.ret=>⟨[],[4],[]⟩
 |_=>⟨[],[3,2],[0,1]⟩
def L16b (p q:Payload):Tree:=Lfirst (P16b p q) p.paths.length 2 (R16b p q) (E16b p q)
def T16br (p q:Payload)(i:Nat):Tell:=
 Tell.mk (fun x x_1=>false) (fun x x_1=>Orc.no) (fun x=>Tree.fail 1000003 0) (fun x=>0) (fun x=>([],[])) (oget [(7,11,3,Orc.elem (encT (List.getD p.paths i default))),(7,11,8,Orc.elem (encT (List.getD q.paths i default))),(7,11,10,Orc.call [encT (List.getD p.paths i default),encT (List.getD q.paths i default)] (bo (decide (List.getD p.paths i default=List.getD q.paths i default))))]) fun x x_1=>Tree.fail 1000003 0
theorem t16br (p q:Payload)(i:Nat):levL prog Proofs.Try.f16 9 (I16b p q i) (T16br p q i) fin16b=
 Tree.br (decide ((↑i:Int)<(↑(List.length (List.map encT p.paths)):Int))) (.need (0≤(↑i:Int)∧(List.map encT p.paths)[i]?=some (encT (List.getD p.paths i default))) (.need (0≤(↑i:Int)∧(List.map encT q.paths)[i]?=some (encT (List.getD q.paths i default))) (.need (ILeL [encT (List.getD p.paths i default),encT (List.getD q.paths i default)] [encT (List.getD p.paths i default),encT (List.getD q.paths i default)]∧ASpec prog 52 [encT (List.getD p.paths i default),encT (List.getD q.paths i default)] (bo (decide (List.getD p.paths i default=List.getD q.paths i default)))) (.br
 (!decide (List.getD p.paths i default=List.getD q.paths i default)) (.done Exit.ret (LState.mk [(4,.imm (bo false))] [] 88 20 [])) (.done Exit.normal (LState.mk [(6,.imm (i64 (IntKind.wrap IntKind.i64 ((↑i:Int)+1)))),(3,.ptr 1 0),(2,.ptr 0 0)] [(0,Entry.box 26 (.imm (encL p))),(1,Entry.box 26 (.imm (encL q)))] 88 22 [])))))) (.done (Exit.exit 2) (LState.mk [(3,.ptr 1 0),(2,.ptr 0 0)] [(0,Entry.box 26 (.imm (encL p))),(1,Entry.box 26 (.imm (encL q)))] 88 7 [])):=by kernel_rfl
theorem l16b (p q:Payload)(hT:∀a∈p.paths,okT a)(hl:p.paths.length≤2^62)(hlr:p.paths.length=q.paths.length)(σ:LState)(h:LSub σ (I16b p q 0)):LoopOk prog [] (bodyOf Proofs.Try.f16) 9 σ (L16b p q):=by
 refine LoopOk.first (P16b p q) p.paths.length 2 (I16b p q) (R16b p q) (E16b p q) (T16br p q) fin16b (by kernel_rfl) h fun i hi hz=>?_
 rw[t16br]
 refine⟨fun h1=>need_sat (elem_need ?_) (need_sat (elem_need ?_) (need_sat ⟨ILeL.refl _,c52 _ _ ?_⟩ ⟨fun h2=>?_,fun h2=>?_⟩)),fun h1=>?_⟩
 ·(refine⟨by omega,?_,?_⟩<;>(simp only[List.length_map,decide_eq_true_eq,decide_eq_false_iff_not,Int.toNat_natCast]at*<;>omega))
 ·(refine⟨by omega,?_,?_⟩<;>(simp only[List.length_map,decide_eq_true_eq,decide_eq_false_iff_not,Int.toNat_natCast]at*<;>omega))
 ·have:=hT _ (getD_mem p.paths i (by(simp only[List.length_map,decide_eq_true_eq,decide_eq_false_iff_not,Int.toNat_natCast]at*<;>omega)));unfold okT at this;omega
 ·exact⟨by(simp only[List.length_map,decide_eq_true_eq,decide_eq_false_iff_not,Int.toNat_natCast]at*<;>omega),h2,by simp[R16b,bo,LSub,tsub,ssub,tl,sl,linT,linS,ainB,ainBL]⟩
 ·exact⟨by(simp only[List.length_map,decide_eq_true_eq,decide_eq_false_iff_not,Int.toNat_natCast]at*<;>omega),h2,by simp[I16b,i64,i64_small (n:=i) (by(simp only[List.length_map,decide_eq_true_eq,decide_eq_false_iff_not,Int.toNat_natCast]at*<;>omega)) hl,LSub,tsub,ssub,tl,sl,linT,linS,ainB,ainBL]⟩
 ·exact⟨rfl,by(simp only[List.length_map,decide_eq_true_eq,decide_eq_false_iff_not,Int.toNat_natCast]at*<;>omega),by simp[E16b,LSub,tsub,ssub,tl,sl,linT,linS,ainB,ainBL]⟩
def P16c (p q:Payload)(i:Nat):Bool:=neK (p.keys.getD i default) (q.keys.getD i default)
def I16c (p q:Payload)(i:Nat):LState:={t:=[(7,.imm (i64 i)),(3,.ptr 1 0),(2,.ptr 0 0)],s:=[(0,.box 26 (.imm (encL p))),(1,.box 26 (.imm (encL q)))],m:=88,n:=2}
def R16c (p q:Payload)(i:Nat):LState:={t:=[(4,.imm (bo false))],s:=[],m:=88,n:=2}
def E16c (p q:Payload):LState:={t:=[(3,.ptr 1 0),(2,.ptr 0 0)],s:=[(0,.box 26 (.imm (encL p))),(1,.box 26 (.imm (encL q)))],m:=88,n:=2}
def fin16c :Exit→Fin
 |.normal=>⟨[],[7,3,2],[0,1]⟩
 |.ret=>⟨[],[4],[]⟩
 |_=>⟨[],[3,2],[0,1]⟩
def L16c (p q:Payload):Tree:=Lfirst (P16c p q) p.keys.length 4 (R16c p q) (E16c p q)
def T16cr (p q:Payload)(i:Nat):Tell:=
 Tell.mk (fun x x_1=>false) (fun x x_1=>Orc.no) (fun x=>Tree.fail 1000003 0) (fun x=>0) (fun x=>([],[])) (oget [(7,16,3,Orc.elem (encK (List.getD p.keys i default))),(7,16,8,Orc.elem (encK (List.getD q.keys i default)))]) fun x x_1=>Tree.fail 1000003 0
theorem t16cr (p q:Payload)(i:Nat):levL prog Proofs.Try.f16 14 (I16c p q i) (T16cr p q i) fin16c=
 Tree.br (decide ((↑i:Int)<(↑(List.length (List.map encK p.keys)):Int))) (.need (0≤(↑i:Int)∧(List.map encK p.keys)[i]?=some (encK (List.getD p.keys i default))) (.need (0≤(↑i:Int)∧(List.map encK q.keys)[i]?=some (encK (List.getD q.keys i default))) (.br (if BinOp.neq=BinOp.neq then !(decide ((List.getD p.keys i default).asn=(List.getD q.keys i default).asn)&&(decide ((List.getD p.keys i default).root[0]=(List.getD q.keys i default).root[0])&&(decide ((List.getD p.keys i default).root[1]=(List.getD q.keys i default).root[1])&&(decide ((List.getD p.keys i
 default).root[2]=(List.getD q.keys i default).root[2])&&(decide ((List.getD p.keys i default).root[3]=(List.getD q.keys i default).root[3])&&(decide ((List.getD p.keys i default).root[4]=(List.getD q.keys i default).root[4])&&(decide ((List.getD p.keys i default).root[5]=(List.getD q.keys i default).root[5])&&(decide ((List.getD p.keys i default).root[6]=(List.getD q.keys i default).root[6])&&(decide ((List.getD p.keys i default).root[7]=(List.getD q.keys i default).root[7])&&(decide ((List.getD p.keys i default).root[8]=(List.getD q.keys i default).root[8])&&(decide
 ((List.getD p.keys i default).root[9]=(List.getD q.keys i default).root[9])&&(decide ((List.getD p.keys i default).root[10]=(List.getD q.keys i default).root[10])&&(decide ((List.getD p.keys i default).root[11]=(List.getD q.keys i default).root[11])&&(decide ((List.getD p.keys i default).root[12]=(List.getD q.keys i default).root[12])&&(decide ((List.getD p.keys i default).root[13]=(List.getD q.keys i default).root[13])&&(decide ((List.getD p.keys i default).root[14]=(List.getD q.keys i default).root[14])&&(decide ((List.getD p.keys i default).root[15]=(List.getD
 q.keys i default).root[15])&&(decide ((List.getD p.keys i default).height=(List.getD q.keys i default).height)&&true))))))))))))))))))else decide ((List.getD p.keys i default).asn=(List.getD q.keys i default).asn)&&(decide ((List.getD p.keys i default).root[0]=(List.getD q.keys i default).root[0])&&(decide ((List.getD p.keys i default).root[1]=(List.getD q.keys i default).root[1])&&(decide ((List.getD p.keys i default).root[2]=(List.getD q.keys i default).root[2])&&(decide ((List.getD p.keys i default).root[3]=(List.getD q.keys i default).root[3])&&(decide ((List.getD
 p.keys i default).root[4]=(List.getD q.keys i default).root[4])&&(decide ((List.getD p.keys i default).root[5]=(List.getD q.keys i default).root[5])&&(decide ((List.getD p.keys i default).root[6]=(List.getD q.keys i default).root[6])&&(decide ((List.getD p.keys i default).root[7]=(List.getD q.keys i default).root[7])&&(decide ((List.getD p.keys i default).root[8]=(List.getD q.keys i default).root[8])&&(decide ((List.getD p.keys i default).root[9]=(List.getD q.keys i default).root[9])&&(decide ((List.getD p.keys i default).root[10]=(List.getD q.keys i default).root[10])
 &&(decide ((List.getD p.keys i default).root[11]=(List.getD q.keys i default).root[11])&&(decide ((List.getD p.keys i default).root[12]=(List.getD q.keys i default).root[12])&&(decide ((List.getD p.keys i default).root[13]=(List.getD q.keys i default).root[13])&&(decide ((List.getD p.keys i default).root[14]=(List.getD q.keys i default).root[14])&&(decide ((List.getD p.keys i default).root[15]=(List.getD q.keys i default).root[15])&&(decide ((List.getD p.keys i default).height=(List.getD q.keys i default).height)&&true)))))))))))))))))) (.done Exit.ret (LState.mk
 [(4,.imm (bo false))] [] 88 19 [])) (.done Exit.normal (LState.mk [(7,.imm (i64 (IntKind.wrap IntKind.i64 ((↑i:Int)+1)))),(3,.ptr 1 0),(2,.ptr 0 0)] [(0,Entry.box 26 (.imm (encL p))),(1,Entry.box 26 (.imm (encL q)))] 88 21 []))))) (.done (Exit.exit 4) (LState.mk [(3,.ptr 1 0),(2,.ptr 0 0)] [(0,Entry.box 26 (.imm (encL p))),(1,Entry.box 26 (.imm (encL q)))] 88 7 [])):=by kernel_rfl
theorem l16c (p q:Payload)(hl:p.keys.length≤2^62)(hlr:p.keys.length=q.keys.length)(σ:LState)(h:LSub σ (I16c p q 0)):LoopOk prog [] (bodyOf Proofs.Try.f16) 14 σ (L16c p q):=by
 refine LoopOk.first (P16c p q) p.keys.length 4 (I16c p q) (R16c p q) (E16c p q) (T16cr p q) fin16c (by kernel_rfl) h fun i hi hz=>?_
 rw[t16cr]
 refine⟨fun h1=>need_sat (elem_need ?_) (need_sat (elem_need ?_) ⟨fun h2=>?_,fun h2=>?_⟩),fun h1=>?_⟩
 ·(refine⟨by omega,?_,?_⟩<;>(simp only[List.length_map,decide_eq_true_eq,decide_eq_false_iff_not,Int.toNat_natCast]at*<;>omega))
 ·(refine⟨by omega,?_,?_⟩<;>(simp only[List.length_map,decide_eq_true_eq,decide_eq_false_iff_not,Int.toNat_natCast]at*<;>omega))
 ·exact⟨by(simp only[List.length_map,decide_eq_true_eq,decide_eq_false_iff_not,Int.toNat_natCast]at*<;>omega),h2,by simp[R16c,bo,LSub,tsub,ssub,tl,sl,linT,linS,ainB,ainBL]⟩
 ·exact⟨by(simp only[List.length_map,decide_eq_true_eq,decide_eq_false_iff_not,Int.toNat_natCast]at*<;>omega),h2,by simp[I16c,i64,i64_small (n:=i) (by(simp only[List.length_map,decide_eq_true_eq,decide_eq_false_iff_not,Int.toNat_natCast]at*<;>omega)) hl,LSub,tsub,ssub,tl,sl,linT,linS,ainB,ainBL]⟩
 ·exact⟨rfl,by(simp only[List.length_map,decide_eq_true_eq,decide_eq_false_iff_not,Int.toNat_natCast]at*<;>omega),by simp[E16c,LSub,tsub,ssub,tl,sl,linT,linS,ainB,ainBL]⟩
def T16 (p q:Payload):Tell:=
 Tell.mk (fun x x_1=>false) (fun x x_1=>Orc.no) (fun k=>match k with|4=>L16a p q|9=>L16b p q|x=>L16c p q) (fun x=>0) (fun k=>match k with|4=>([5,3,2],[0,1])|9=>([6,3,2],[0,1])|x=>([7,3,2],[0,1])) (fun x x_1 x_2=>Orc.no) fun x k=>match k with|4=>L16a p q|9=>L16b p q|x=>L16c p q
theorem t16 (p q:Payload):levF prog Proofs.Try.f16 [encL p,encL q] (T16 p q)=
 Tree.br (!decide ((↑(List.length (List.map encO p.origins)):Int)=(↑(List.length (List.map encO q.origins)):Int))) (.done Exit.ret (lret (bo false))) (.br (!decide ((↑(List.length (List.map encT p.paths)):Int)=(↑(List.length (List.map encT q.paths)):Int))) (.done Exit.ret (lret (bo false))) (.br (!decide ((↑(List.length (List.map encK p.keys)):Int)=(↑(List.length (List.map encK q.keys)):Int))) (.done Exit.ret (lret (bo false))) (.loop 4 (LState.mk [(5,.imm (i64 0)),(3,.ptr 1 0),(2,.ptr 0 0)] [(0,Entry.box 26 (.imm (encL p))),(1,Entry.box 26 (.imm (encL q)))] 88 29 []) (.br
 (anyI (P16a p q) 0 (List.length p.origins)) (.done Exit.ret (R16a p q (firstI (P16a p q) 0 (List.length p.origins)))) (.done (Exit.exit 0) (E16a p q))) (.br (anyI (P16a p q) 0 (List.length p.origins)) (.done Exit.ret (lret (bo false))) (.loop 9 (LState.mk [(6,.imm (i64 0)),(3,.ptr 1 0),(2,.ptr 0 0)] [(0,Entry.box 26 (.imm (encL p))),(1,Entry.box 26 (.imm (encL q)))] 88 3 []) (.br (anyI (P16b p q) 0 (List.length p.paths)) (.done Exit.ret (R16b p q (firstI (P16b p q) 0 (List.length p.paths)))) (.done (Exit.exit 2) (E16b p q))) (.br (anyI (P16b p q) 0 (List.length p.paths)) (.done Exit.ret (lret
 (bo false))) (.loop 14 (LState.mk [(7,.imm (i64 0)),(3,.ptr 1 0),(2,.ptr 0 0)] [(0,Entry.box 26 (.imm (encL p))),(1,Entry.box 26 (.imm (encL q)))] 88 3 []) (.br (anyI (P16c p q) 0 (List.length p.keys)) (.done Exit.ret (R16c p q (firstI (P16c p q) 0 (List.length p.keys)))) (.done (Exit.exit 4) (E16c p q))) (.br (anyI (P16c p q) 0 (List.length p.keys)) (.done Exit.ret (lret (bo false))) (.done Exit.ret (lret (bo true))))))))))):=by kernel_rfl
theorem c16 (p q:Payload)(hp:p.ok):ASpec prog 16 [encL p,encL q] (bo (decide (p=q))):=by
 have h1:=hp.o;have h2:=hp.t;have h3:=hp.k
 have hab:decide (p=q)=(sameL neO default p.origins q.origins&&(sameL (fun a b=>!decide (a=b)) default p.paths q.paths&&sameL neK default p.keys q.keys)):=by
  rw[Bool.eq_iff_iff,Bool.and_eq_true,Bool.and_eq_true,sameL_iff neO_iff,sameL_iff (fun a b=>by simp),sameL_iff neK_iff]
  cases p;cases q;simp
 rw[hab]
 have d1:diffAt neO default p.origins q.origins=P16a p q:=rfl
 have d2:diffAt (fun a b=>!decide (a=b)) default p.paths q.paths=P16b p q:=rfl
 have d9003:diffAt neK default p.keys q.keys=P16c p q:=rfl
 refine ASpec.treeW Proofs.Try.f16 (T16 p q) (by kernel_rfl) (by kernel_rfl) (t16 p q) ?_
 refine⟨fun h1=>⟨_,rfl,?_⟩,fun h1=>⟨fun h2=>⟨_,rfl,?_⟩,fun h2=>⟨fun h3=>⟨_,rfl,?_⟩,fun h3=>⟨?_,⟨fun h4=>⟨_,rfl,?_⟩,fun h4=>⟨?_,⟨fun h5=>⟨_,rfl,?_⟩,fun h5=>⟨?_,⟨fun h6=>⟨_,rfl,?_⟩,fun h6=>⟨_,rfl,?_⟩⟩⟩⟩⟩⟩⟩⟩⟩⟩
 ·have:¬p.origins.length=q.origins.length:=by simp at h1;omega
  exact ile_bo (by simp[sameL,this])
 ·have:¬p.paths.length=q.paths.length:=by simp at h2;omega
  exact ile_bo (by simp[sameL,this])
 ·have:¬p.keys.length=q.keys.length:=by simp at h3;omega
  exact ile_bo (by simp[sameL,this])
 ·exact l16a p q (by omega) (by simp at h1;omega) _ (by simp[I16a,i64,LSub,tsub,ssub,tl,sl,linT,linS,ainB,ainBL])
 ·exact ile_bo (by simp[sameL,d1,h4])
 ·exact l16b p q hp.p (by omega) (by simp at h2;omega) _ (by simp[I16b,i64,LSub,tsub,ssub,tl,sl,linT,linS,ainB,ainBL])
 ·exact ile_bo (by simp[sameL,d2,h5])
 ·exact l16c p q (by omega) (by simp at h3;omega) _ (by simp[I16c,i64,LSub,tsub,ssub,tl,sl,linT,linS,ainB,ainBL])
 ·exact ile_bo (by simp[sameL,d9003,h6])
 ·have e1:p.origins.length=q.origins.length:=by simp at h1;omega
  have e2:p.paths.length=q.paths.length:=by simp at h2;omega
  have e3:p.keys.length=q.keys.length:=by simp at h3;omega
  have a1:anyI (P16a p q) 0 q.origins.length=false:=by rw[←e1];exact h4
  have a2:anyI (P16b p q) 0 q.paths.length=false:=by rw[←e2];exact h5
  have a3:anyI (P16c p q) 0 q.keys.length=false:=by rw[←e3];exact h6
  exact ile_bo (by simp[sameL,d1,d2,d9003,a1,a2,a3,e1,e2,e3])
end Gp
namespace Gp
theorem ile_sl {f:Bool}{k:Nat}{l l':List IVal}(h:ILeL l l'):ILe (.sl true f k l) (.sl false f k l'):=.sl (fun h=>by cases h) (fun h=>h) h
def encTF (a:Attest):IVal:=.agg [u32 a.cust,slF 1 u32 a.provs]
def B9 (p:Payload)(c:AVal):Entry:=.box 26 (.agg [.imm (slF 6 encO p.origins),c,.imm (slF 18 encK p.keys)])
def E9 (p:Payload):LState:={t:=[(3,.ptr 11 0),(2,.ptr 1 0)],s:=[(1,Z10),(11,B9 p (.own 50 p.paths.length)),(50,.row 47 2 (p.paths.map encTF))],m:=42,n:=60}
def B9t (p:Payload):Tell:={Lp:=fun _=>.done (.exit 0) (E9 p),lv:=fun _=>([4,3,2,1],[0,1,11])}
def T9 (p:Payload):Tell:=
 Tell.mk (fun r i=>(B9t p).fz r i||fget [(1,7),(1,3),(1,0),(1,4)] r i) (fun x x_1=>Orc.no) (fun x=>Tree.done (Exit.exit 0) (E9 p)) (fun x=>0) (fun x=>([4,3,2,1],[0,1,11])) (fun x x_1 x_2=>Orc.no) fun x x_1=>Tree.done (Exit.exit 0) (E9 p)
theorem t9 (p:Payload):levF prog Proofs.Try.f9 [encL p] (T9 p)=
 Tree.need (askA none (true=true∧cellsOk (List.map encO p.origins)=true∧0+List.length (List.map encO p.origins)≤1000000)) (.need (askA none (true=true∧cellsOk (List.map encK p.keys)=true∧0+List.length (List.map encK p.keys)≤1000000)) (.loop 3 (LState.mk [(4,.imm (i64 0)),(3,.ptr 11 0),(2,.ptr 1 0),(1,.ptr 0 0)] [(0,Entry.box 26 (.imm (encL p))),(1,Entry.box 26 (.imm (.agg [nS,nS,nS]))),(11,Entry.box 26 (.agg [.imm (.sl true false 6 ([]++List.map encO p.origins)),.imm nS,.imm (.sl true false 18 ([]++List.map encK p.keys))]))] 42 14 []) (.done (Exit.exit 0) (E9 p))
 (.need (eqs [(List.length p.paths,List.length (List.map encTF p.paths))]) (.done Exit.ret (lret (.agg [slF 6 encO p.origins,.sl true false 2 (List.map encTF p.paths),slF 18 encK p.keys])))))):=by kernel_rfl
end Gp
namespace Gp
end Gp
namespace Gp
def byteI (n:Int):Prop:=0≤n∧n≤255
def RKey.rng (k:RKey):Prop:=∀n∈rootL k,byteI n
def Addr.rng (a:Addr):Prop:=(0≤a.hi∧a.hi<2^64)∧(0≤a.lo∧a.lo<2^64)
def Attest.rng (a:Attest):Prop:=0≤a.cust∧∀n∈a.provs,0≤n
structure Payload.rng (p:Payload):Prop where
 o:∀x∈p.origins,x.pfx.addr.rng
 t:∀x∈p.paths,x.rng
 k:∀x∈p.keys,x.rng
end Gp
namespace Gp
end Gp
namespace Gp
end Gp
namespace Gp
end Gp
