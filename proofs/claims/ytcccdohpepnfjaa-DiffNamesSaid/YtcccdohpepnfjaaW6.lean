/- Part 6 of the walk and of the plain law of DiffNames. -/
import Derived.Test.YtcccdohpepnfjaaW5
set_option maxRecDepth 100000
set_option maxHeartbeats 0
set_option linter.unusedVariables false
set_option linter.unusedSimpArgs false
open Go Go.Abs
noncomputable section
namespace Gp
def P79 (S:List Origin)(i:Nat):Bool:=decide (cmpO (S.getD i default) (S.getD (i+1) default)=0)
def I79 (S:List Origin)(i:Nat):LState:={t:=[(9,.imm (i64 (i+1:Nat))),(8,.own 5 S.length),(2,.imm (fnV 35))],s:=[(5,.row 44 6 (S.map encO))],m:=37,n:=6}
def R79 (S:List Origin)(i:Nat):LState:={t:=[(6,.own 5 S.length),(7,.imm (bo true))],s:=[(5,.row 44 6 (S.map encO))],m:=37,n:=6}
def E79 (S:List Origin):LState:={t:=[(8,.own 5 S.length)],s:=[(5,.row 44 6 (S.map encO))],m:=37,n:=6}
def fin79 :Exit→Fin
 |.normal=>⟨[],[9,8,2],[5]⟩
 |.ret=>⟨[],[6,7],[5]⟩
 |_=>⟨[],[8],[5]⟩
def L79 (S:List Origin):Tree:=Lfirst (P79 S) (S.length-1) 0 (R79 S) (E79 S)
def T79r (S:List Origin)(i:Nat):Tell:=
 Tell.mk (fun x x_1=>false) (fun x x_1=>Orc.no) (fun x=>Tree.fail 1000003 0) (fun x=>0) (fun x=>([],[])) (oget [(10,6,5,Orc.elem (encO (List.getD S (Int.toNat (IntKind.wrap IntKind.i64 ((↑(i+1):Int)-1))) default))),(10,6,9,Orc.elem (encO (List.getD S (i+1) default))),(10,6,10,Orc.call [encO (List.getD S (Int.toNat (IntKind.wrap IntKind.i64 ((↑(i+1):Int)-1))) default),encO (List.getD S (i+1) default)] (i64 (cmpO (List.getD S (Int.toNat (IntKind.wrap IntKind.i64 ((↑(i+1):Int)-1))) default) (List.getD S (i+1) default))))]) fun x x_1=>Tree.fail 1000003 0
theorem t79r (S:List Origin)(i:Nat):levL prog Proofs.Try.f79 4 (I79 S i) (T79r S i) fin79=
 Tree.br (decide ((↑(i+1):Int)<(↑(List.length S):Int))) (.need (0≤IntKind.wrap IntKind.i64 ((↑(i+1):Int)-1)∧Int.toNat (IntKind.wrap IntKind.i64 ((↑(i+1):Int)-1))<List.length S) (.need ((List.map encO S)[Int.toNat (IntKind.wrap IntKind.i64 ((↑(i+1):Int)-1))]?=some (encO (List.getD S (Int.toNat (IntKind.wrap IntKind.i64 ((↑(i+1):Int)-1))) default))) (.need (0≤(↑(i+1):Int)∧i+1<List.length S) (.need ((List.map encO S)[i+1]?=some (encO (List.getD S (i+1) default))) (.need (ILeL [encO (List.getD S (Int.toNat (IntKind.wrap IntKind.i64 ((↑(i+1)
 :Int)-1))) default),encO (List.getD S (i+1) default)] [encO (List.getD S (Int.toNat (IntKind.wrap IntKind.i64 ((↑(i+1):Int)-1))) default),encO (List.getD S (i+1) default)]∧ASpec prog 35 [encO (List.getD S (Int.toNat (IntKind.wrap IntKind.i64 ((↑(i+1):Int)-1))) default),encO (List.getD S (i+1) default)] (i64 (cmpO (List.getD S (Int.toNat (IntKind.wrap IntKind.i64 ((↑(i+1):Int)-1))) default) (List.getD S (i+1) default)))) (.br (decide (cmpO (List.getD S (Int.toNat (IntKind.wrap IntKind.i64 ((↑(i+1):Int)-1))) default) (List.getD S (i+1) default)=0)) (.done
 Exit.ret (LState.mk [(6,.own 5 (List.length S)),(7,.imm (bo true))] [(5,Entry.row 44 6 (List.map encO S))] 37 25 [])) (.done Exit.normal (LState.mk [(9,.imm (i64 (IntKind.wrap IntKind.i64 ((↑(i+1):Int)+1)))),(8,.own 5 (List.length S)),(2,.imm (fnV 35))] [(5,Entry.row 44 6 (List.map encO S))] 37 25 [])))))))) (.done (Exit.exit 0) (LState.mk [(8,.own 5 (List.length S))] [(5,Entry.row 44 6 (List.map encO S))] 37 10 [])):=by kernel_rfl
theorem l79 (S:List Origin)(hl:S.length≤2^60)(σ:LState)(h:LSub σ (I79 S 0)):LoopOk prog [] (bodyOf Proofs.Try.f79) 4 σ (L79 S):=by
 refine LoopOk.first (P79 S) (S.length-1) 0 (I79 S) (R79 S) (E79 S) (T79r S) fin79 (by kernel_rfl) h fun i hi hz=>?_
 rw[t79r]
 refine⟨fun h1=>need_sat ?_ (need_sat (elem_need' ?_) (need_sat ?_ (need_sat (elem_need' ?_) (need_sat ⟨ILeL.refl _,c35 _ _⟩ ⟨fun h2=>?_,fun h2=>?_⟩)))),fun h1=>?_⟩
 all_goals have e1:IntKind.i64.wrap (((i+1:Nat):Int)-1)=(i:Int):=by rw[IntWalk.i64_in _ (by omega)];omega
 ·have hlt:i+1<S.length:=by simp at h1;omega
  rw[e1];omega
 ·have hlt:i+1<S.length:=by simp at h1;omega
  exact⟨by rw[e1];omega,rfl⟩
 ·have hlt:i+1<S.length:=by simp at h1;omega
  omega
 ·have hlt:i+1<S.length:=by simp at h1;omega
  exact⟨hlt,rfl⟩
 ·have hlt:i+1<S.length:=by simp at h1;omega
  rw[e1,Int.toNat_natCast]at h2
  exact⟨by omega,h2,⟨⟨rfl,rfl,trivial⟩,⟨rfl,trivial⟩,rfl,rfl,rfl⟩⟩
 ·have hlt:i+1<S.length:=by simp at h1;omega
  rw[e1,Int.toNat_natCast]at h2
  exact⟨by omega,h2,⟨⟨congrArg (fun n=>AVal.imm (i64 n)) (i64_succ (by omega)),rfl,rfl,trivial⟩,⟨rfl,trivial⟩,rfl,rfl,rfl⟩⟩
 ·have hlt:S.length≤i+1:=by simp at h1;omega
  exact⟨rfl,by omega,⟨⟨rfl,trivial⟩,⟨rfl,trivial⟩,rfl,rfl,rfl⟩⟩
def T79 (A B:List Origin):Tell:=
 Tell.mk (fun r i=>r==1&&i==2) (fun x x_1=>Orc.no) (fun x=>L79 (sorted ltO (A++B))) (fun x=>0) (fun x=>([9,8,2],[5])) (oget [(2,1,3,Orc.callo [.sl false false 1 [slE 6 encO A,slE 6 encO B]] 44 6 (List.map encO (A++B))),(7,2,2,Orc.callw [fnV 35] (.tup []) (List.map encO (sorted ltO (A++B))))]) fun x x_1=>L79 (sorted ltO (A++B))
theorem t79 (A B:List Origin):levF prog Proofs.Try.f79 [slE 6 encO A,slE 6 encO B,fnV 35] (T79 A B)=
 Tree.need (ILeL [.sl true true 1 [slE 6 encO A,slE 6 encO B]] [.sl false false 1 [slE 6 encO A,slE 6 encO B]]∧OSpec prog 97 [.sl false false 1 [slE 6 encO A,slE 6 encO B]] 44 6 (List.map encO (A++B))) (.need (List.length (List.map encO (A++B))=List.length (List.map encO (A++B))∧ILeL [fnV 35] [fnV 35]∧WSpec prog 98 44 6 (List.map encO (A++B)) [fnV 35] (.tup []) (List.map encO (sorted ltO (A++B)))) (.loop 4 (LState.mk [(9,.imm (i64 1)),(8,.own 5 (List.length (List.map encO (A++B)))),(2,.imm (fnV 35))] [(5,Entry.row 44 6 (List.map encO (sorted ltO (A++B))))] 37 11 []) (.br
 (anyI (P79 (sorted ltO (A++B))) 0 (List.length (sorted ltO (A++B))-1)) (.done Exit.ret (R79 (sorted ltO (A++B)) (firstI (P79 (sorted ltO (A++B))) 0 (List.length (sorted ltO (A++B))-1)))) (.done (Exit.exit 0) (E79 (sorted ltO (A++B))))) (.br (anyI (P79 (sorted ltO (A++B))) 0 (List.length (sorted ltO (A++B))-1)) (.need (eqs [(List.length (sorted ltO (A++B)),List.length (List.map encO (sorted ltO (A++B))))]) (.done Exit.ret (lret (.tup [.sl true false 6 (List.map encO (sorted ltO (A++B))),bo true])))) (.need (eqs [(List.length (sorted ltO (A++B)),List.length (List.map
 encO (sorted ltO (A++B))))]) (.done Exit.ret (lret (.tup [.sl true false 6 (List.map encO (sorted ltO (A++B))),bo false]))))))):=by kernel_rfl
def dupO (S:List Origin):Bool:=anyI (P79 S) 0 (S.length-1)
theorem c79 (A B:List Origin)(hA:A.length≤400000)(hB:B.length≤400000):ASpec prog 79 [slE 6 encO A,slE 6 encO B,fnV 35] (.tup [slE 6 encO (sorted ltO (A++B)),bo (dupO (sorted ltO (A++B)))]):=by
 have hlen:(sorted ltO (A++B)).length=A.length+B.length:=by rw[sorted_length,List.length_append]
 refine ASpec.treeW Proofs.Try.f79 (T79 A B) (by kernel_rfl) (by kernel_rfl) (t79 A B) ?_
 refine need_sat ⟨(by repeat' first|exact ILeL.refl _|exact ILe.refl _|exact ILe.nil _ _ _|exact ILe.sl (fun h=>by cases h) (fun h=>by first|exact h|cases h) (ILeL.refl _)|apply ILeL.cons|apply ILe.agg|apply ILe.tup),o97 _ _ ?_ ?_⟩ (need_sat ⟨(by simp),ILeL.refl _,w98 _ ?_⟩ ⟨?_,⟨fun h1=>need_sat ?_ ⟨_,rfl,?_⟩,fun h1=>need_sat ?_ ⟨_,rfl,?_⟩⟩⟩)
 ·exact hA
 ·exact hB
 ·rw[List.length_append];omega
 ·exact l79 _ (by omega) _ ⟨⟨rfl,congrArg (AVal.own 5) (by rw[List.length_map,sorted_length]),rfl,trivial⟩,⟨rfl,trivial⟩,rfl,rfl,rfl⟩
 ·exact⟨by simp,trivial⟩
 ·refine .tup (.cons (ile_sl (.refl _)) (.cons ?_ (.refl _)))
  rw[show dupO (sorted ltO (A++B))=true from h1];exact .refl _
 ·exact⟨by simp,trivial⟩
 ·refine .tup (.cons (ile_sl (.refl _)) (.cons ?_ (.refl _)))
  rw[show dupO (sorted ltO (A++B))=false from h1];exact .refl _
def P80 (S:List Attest)(i:Nat):Bool:=decide (cmpT (S.getD i default) (S.getD (i+1) default)=0)
def I80 (S:List Attest)(i:Nat):LState:={t:=[(9,.imm (i64 (i+1:Nat))),(8,.own 5 S.length),(2,.imm (fnV 38))],s:=[(5,.row 47 2 (S.map encT))],m:=37,n:=6}
def R80 (S:List Attest)(i:Nat):LState:={t:=[(6,.own 5 S.length),(7,.imm (bo true))],s:=[(5,.row 47 2 (S.map encT))],m:=37,n:=6}
def E80 (S:List Attest):LState:={t:=[(8,.own 5 S.length)],s:=[(5,.row 47 2 (S.map encT))],m:=37,n:=6}
def fin80 :Exit→Fin
 |.normal=>⟨[],[9,8,2],[5]⟩
 |.ret=>⟨[],[6,7],[5]⟩
 |_=>⟨[],[8],[5]⟩
def L80 (S:List Attest):Tree:=Lfirst (P80 S) (S.length-1) 0 (R80 S) (E80 S)
def T80r (S:List Attest)(i:Nat):Tell:=
 Tell.mk (fun x x_1=>false) (fun x x_1=>Orc.no) (fun x=>Tree.fail 1000003 0) (fun x=>0) (fun x=>([],[])) (oget [(10,6,5,Orc.elem (encT (List.getD S (Int.toNat (IntKind.wrap IntKind.i64 ((↑(i+1):Int)-1))) default))),(10,6,9,Orc.elem (encT (List.getD S (i+1) default))),(10,6,10,Orc.call [encT (List.getD S (Int.toNat (IntKind.wrap IntKind.i64 ((↑(i+1):Int)-1))) default),encT (List.getD S (i+1) default)] (i64 (cmpI (List.getD S (Int.toNat (IntKind.wrap IntKind.i64 ((↑(i+1):Int)-1))) default).cust (List.getD S (i+1) default).cust)))]) fun x x_1=>Tree.fail 1000003 0
theorem t80r (S:List Attest)(i:Nat):levL prog Proofs.Try.f80 4 (I80 S i) (T80r S i) fin80=
 Tree.br (decide ((↑(i+1):Int)<(↑(List.length S):Int))) (.need (0≤IntKind.wrap IntKind.i64 ((↑(i+1):Int)-1)∧Int.toNat (IntKind.wrap IntKind.i64 ((↑(i+1):Int)-1))<List.length S) (.need ((List.map encT S)[Int.toNat (IntKind.wrap IntKind.i64 ((↑(i+1):Int)-1))]?=some (encT (List.getD S (Int.toNat (IntKind.wrap IntKind.i64 ((↑(i+1):Int)-1))) default))) (.need (0≤(↑(i+1):Int)∧i+1<List.length S) (.need ((List.map encT S)[i+1]?=some (encT (List.getD S (i+1) default))) (.need (ILeL [encT (List.getD S (Int.toNat (IntKind.wrap IntKind.i64 ((↑(i+1)
 :Int)-1))) default),encT (List.getD S (i+1) default)] [encT (List.getD S (Int.toNat (IntKind.wrap IntKind.i64 ((↑(i+1):Int)-1))) default),encT (List.getD S (i+1) default)]∧ASpec prog 38 [encT (List.getD S (Int.toNat (IntKind.wrap IntKind.i64 ((↑(i+1):Int)-1))) default),encT (List.getD S (i+1) default)] (i64 (cmpI (List.getD S (Int.toNat (IntKind.wrap IntKind.i64 ((↑(i+1):Int)-1))) default).cust (List.getD S (i+1) default).cust))) (.br (decide (cmpI (List.getD S (Int.toNat (IntKind.wrap IntKind.i64 ((↑(i+1):Int)-1))) default).cust (List.getD S (i+1)
 default).cust=0)) (.done Exit.ret (LState.mk [(6,.own 5 (List.length S)),(7,.imm (bo true))] [(5,Entry.row 47 2 (List.map encT S))] 37 25 [])) (.done Exit.normal (LState.mk [(9,.imm (i64 (IntKind.wrap IntKind.i64 ((↑(i+1):Int)+1)))),(8,.own 5 (List.length S)),(2,.imm (fnV 38))] [(5,Entry.row 47 2 (List.map encT S))] 37 25 [])))))))) (.done (Exit.exit 0) (LState.mk [(8,.own 5 (List.length S))] [(5,Entry.row 47 2 (List.map encT S))] 37 10 [])):=by kernel_rfl
theorem l80 (S:List Attest)(hl:S.length≤2^60)(σ:LState)(h:LSub σ (I80 S 0)):LoopOk prog [] (bodyOf Proofs.Try.f80) 4 σ (L80 S):=by
 refine LoopOk.first (P80 S) (S.length-1) 0 (I80 S) (R80 S) (E80 S) (T80r S) fin80 (by kernel_rfl) h fun i hi hz=>?_
 rw[t80r]
 refine⟨fun h1=>need_sat ?_ (need_sat (elem_need' ?_) (need_sat ?_ (need_sat (elem_need' ?_) (need_sat ⟨ILeL.refl _,c38 _ _⟩ ⟨fun h2=>?_,fun h2=>?_⟩)))),fun h1=>?_⟩
 all_goals have e1:IntKind.i64.wrap (((i+1:Nat):Int)-1)=(i:Int):=by rw[IntWalk.i64_in _ (by omega)];omega
 ·have hlt:i+1<S.length:=by simp at h1;omega
  rw[e1];omega
 ·have hlt:i+1<S.length:=by simp at h1;omega
  exact⟨by rw[e1];omega,rfl⟩
 ·have hlt:i+1<S.length:=by simp at h1;omega
  omega
 ·have hlt:i+1<S.length:=by simp at h1;omega
  exact⟨hlt,rfl⟩
 ·have hlt:i+1<S.length:=by simp at h1;omega
  rw[e1,Int.toNat_natCast]at h2
  exact⟨by omega,h2,⟨⟨rfl,rfl,trivial⟩,⟨rfl,trivial⟩,rfl,rfl,rfl⟩⟩
 ·have hlt:i+1<S.length:=by simp at h1;omega
  rw[e1,Int.toNat_natCast]at h2
  exact⟨by omega,h2,⟨⟨congrArg (fun n=>AVal.imm (i64 n)) (i64_succ (by omega)),rfl,rfl,trivial⟩,⟨rfl,trivial⟩,rfl,rfl,rfl⟩⟩
 ·have hlt:S.length≤i+1:=by simp at h1;omega
  exact⟨rfl,by omega,⟨⟨rfl,trivial⟩,⟨rfl,trivial⟩,rfl,rfl,rfl⟩⟩
def T80 (A B:List Attest):Tell:=
 Tell.mk (fun r i=>r==1&&i==2) (fun x x_1=>Orc.no) (fun x=>L80 (sorted ltT (A++B))) (fun x=>0) (fun x=>([9,8,2],[5])) (oget [(2,1,3,Orc.callo [.sl false false 1 [slE 2 encT A,slE 2 encT B]] 47 2 (List.map encT (A++B))),(7,2,2,Orc.callw [fnV 38] (.tup []) (List.map encT (sorted ltT (A++B))))]) fun x x_1=>L80 (sorted ltT (A++B))
theorem t80 (A B:List Attest):levF prog Proofs.Try.f80 [slE 2 encT A,slE 2 encT B,fnV 38] (T80 A B)=
 Tree.need (ILeL [.sl true true 1 [slE 2 encT A,slE 2 encT B]] [.sl false false 1 [slE 2 encT A,slE 2 encT B]]∧OSpec prog 99 [.sl false false 1 [slE 2 encT A,slE 2 encT B]] 47 2 (List.map encT (A++B))) (.need (List.length (List.map encT (A++B))=List.length (List.map encT (A++B))∧ILeL [fnV 38] [fnV 38]∧WSpec prog 100 47 2 (List.map encT (A++B)) [fnV 38] (.tup []) (List.map encT (sorted ltT (A++B)))) (.loop 4 (LState.mk [(9,.imm (i64 1)),(8,.own 5 (List.length (List.map encT (A++B)))),(2,.imm (fnV 38))] [(5,Entry.row 47 2 (List.map encT (sorted ltT (A++B))))] 37 11 []) (.br
 (anyI (P80 (sorted ltT (A++B))) 0 (List.length (sorted ltT (A++B))-1)) (.done Exit.ret (R80 (sorted ltT (A++B)) (firstI (P80 (sorted ltT (A++B))) 0 (List.length (sorted ltT (A++B))-1)))) (.done (Exit.exit 0) (E80 (sorted ltT (A++B))))) (.br (anyI (P80 (sorted ltT (A++B))) 0 (List.length (sorted ltT (A++B))-1)) (.need (eqs [(List.length (sorted ltT (A++B)),List.length (List.map encT (sorted ltT (A++B))))]) (.done Exit.ret (lret (.tup [.sl true false 2 (List.map encT (sorted ltT (A++B))),bo true])))) (.need (eqs [(List.length (sorted ltT (A++B)),List.length (List.map
 encT (sorted ltT (A++B))))]) (.done Exit.ret (lret (.tup [.sl true false 2 (List.map encT (sorted ltT (A++B))),bo false]))))))):=by kernel_rfl
def dupT (S:List Attest):Bool:=anyI (P80 S) 0 (S.length-1)
theorem c80 (A B:List Attest)(hA:A.length≤400000)(hB:B.length≤400000):ASpec prog 80 [slE 2 encT A,slE 2 encT B,fnV 38] (.tup [slE 2 encT (sorted ltT (A++B)),bo (dupT (sorted ltT (A++B)))]):=by
 have hlen:(sorted ltT (A++B)).length=A.length+B.length:=by rw[sorted_length,List.length_append]
 refine ASpec.treeW Proofs.Try.f80 (T80 A B) (by kernel_rfl) (by kernel_rfl) (t80 A B) ?_
 refine need_sat ⟨(by repeat' first|exact ILeL.refl _|exact ILe.refl _|exact ILe.nil _ _ _|exact ILe.sl (fun h=>by cases h) (fun h=>by first|exact h|cases h) (ILeL.refl _)|apply ILeL.cons|apply ILe.agg|apply ILe.tup),o99 _ _ ?_ ?_⟩ (need_sat ⟨(by simp),ILeL.refl _,w100 _ ?_⟩ ⟨?_,⟨fun h1=>need_sat ?_ ⟨_,rfl,?_⟩,fun h1=>need_sat ?_ ⟨_,rfl,?_⟩⟩⟩)
 ·exact hA
 ·exact hB
 ·rw[List.length_append];omega
 ·exact l80 _ (by omega) _ ⟨⟨rfl,congrArg (AVal.own 5) (by rw[List.length_map,sorted_length]),rfl,trivial⟩,⟨rfl,trivial⟩,rfl,rfl,rfl⟩
 ·exact⟨by simp,trivial⟩
 ·refine .tup (.cons (ile_sl (.refl _)) (.cons ?_ (.refl _)))
  rw[show dupT (sorted ltT (A++B))=true from h1];exact .refl _
 ·exact⟨by simp,trivial⟩
 ·refine .tup (.cons (ile_sl (.refl _)) (.cons ?_ (.refl _)))
  rw[show dupT (sorted ltT (A++B))=false from h1];exact .refl _
def P81 (S:List RKey)(i:Nat):Bool:=decide (cmpK (S.getD i default) (S.getD (i+1) default)=0)
def I81 (S:List RKey)(i:Nat):LState:={t:=[(9,.imm (i64 (i+1:Nat))),(8,.own 5 S.length),(2,.imm (fnV 41))],s:=[(5,.row 53 18 (S.map encK))],m:=37,n:=6}
def R81 (S:List RKey)(i:Nat):LState:={t:=[(6,.own 5 S.length),(7,.imm (bo true))],s:=[(5,.row 53 18 (S.map encK))],m:=37,n:=6}
def E81 (S:List RKey):LState:={t:=[(8,.own 5 S.length)],s:=[(5,.row 53 18 (S.map encK))],m:=37,n:=6}
def fin81 :Exit→Fin
 |.normal=>⟨[],[9,8,2],[5]⟩
 |.ret=>⟨[],[6,7],[5]⟩
 |_=>⟨[],[8],[5]⟩
def L81 (S:List RKey):Tree:=Lfirst (P81 S) (S.length-1) 0 (R81 S) (E81 S)
def T81r (S:List RKey)(i:Nat):Tell:=
 Tell.mk (fun x x_1=>false) (fun x x_1=>Orc.no) (fun x=>Tree.fail 1000003 0) (fun x=>0) (fun x=>([],[])) (oget [(10,6,5,Orc.elem (encK (List.getD S (Int.toNat (IntKind.wrap IntKind.i64 ((↑(i+1):Int)-1))) default))),(10,6,9,Orc.elem (encK (List.getD S (i+1) default))),(10,6,10,Orc.call [encK (List.getD S (Int.toNat (IntKind.wrap IntKind.i64 ((↑(i+1):Int)-1))) default),encK (List.getD S (i+1) default)] (i64 (cmpK (List.getD S (Int.toNat (IntKind.wrap IntKind.i64 ((↑(i+1):Int)-1))) default) (List.getD S (i+1) default))))]) fun x x_1=>Tree.fail 1000003 0
theorem t81r (S:List RKey)(i:Nat):levL prog Proofs.Try.f81 4 (I81 S i) (T81r S i) fin81=
 Tree.br (decide ((↑(i+1):Int)<(↑(List.length S):Int))) (.need (0≤IntKind.wrap IntKind.i64 ((↑(i+1):Int)-1)∧Int.toNat (IntKind.wrap IntKind.i64 ((↑(i+1):Int)-1))<List.length S) (.need ((List.map encK S)[Int.toNat (IntKind.wrap IntKind.i64 ((↑(i+1):Int)-1))]?=some (encK (List.getD S (Int.toNat (IntKind.wrap IntKind.i64 ((↑(i+1):Int)-1))) default))) (.need (0≤(↑(i+1):Int)∧i+1<List.length S) (.need ((List.map encK S)[i+1]?=some (encK (List.getD S (i+1) default))) (.need (ILeL [encK (List.getD S (Int.toNat (IntKind.wrap IntKind.i64 ((↑(i+1)
 :Int)-1))) default),encK (List.getD S (i+1) default)] [encK (List.getD S (Int.toNat (IntKind.wrap IntKind.i64 ((↑(i+1):Int)-1))) default),encK (List.getD S (i+1) default)]∧ASpec prog 41 [encK (List.getD S (Int.toNat (IntKind.wrap IntKind.i64 ((↑(i+1):Int)-1))) default),encK (List.getD S (i+1) default)] (i64 (cmpK (List.getD S (Int.toNat (IntKind.wrap IntKind.i64 ((↑(i+1):Int)-1))) default) (List.getD S (i+1) default)))) (.br (decide (cmpK (List.getD S (Int.toNat (IntKind.wrap IntKind.i64 ((↑(i+1):Int)-1))) default) (List.getD S (i+1) default)=0)) (.done
 Exit.ret (LState.mk [(6,.own 5 (List.length S)),(7,.imm (bo true))] [(5,Entry.row 53 18 (List.map encK S))] 37 25 [])) (.done Exit.normal (LState.mk [(9,.imm (i64 (IntKind.wrap IntKind.i64 ((↑(i+1):Int)+1)))),(8,.own 5 (List.length S)),(2,.imm (fnV 41))] [(5,Entry.row 53 18 (List.map encK S))] 37 25 [])))))))) (.done (Exit.exit 0) (LState.mk [(8,.own 5 (List.length S))] [(5,Entry.row 53 18 (List.map encK S))] 37 10 [])):=by kernel_rfl
theorem l81 (S:List RKey)(hl:S.length≤2^60)(σ:LState)(h:LSub σ (I81 S 0)):LoopOk prog [] (bodyOf Proofs.Try.f81) 4 σ (L81 S):=by
 refine LoopOk.first (P81 S) (S.length-1) 0 (I81 S) (R81 S) (E81 S) (T81r S) fin81 (by kernel_rfl) h fun i hi hz=>?_
 rw[t81r]
 refine⟨fun h1=>need_sat ?_ (need_sat (elem_need' ?_) (need_sat ?_ (need_sat (elem_need' ?_) (need_sat ⟨ILeL.refl _,c41 _ _⟩ ⟨fun h2=>?_,fun h2=>?_⟩)))),fun h1=>?_⟩
 all_goals have e1:IntKind.i64.wrap (((i+1:Nat):Int)-1)=(i:Int):=by rw[IntWalk.i64_in _ (by omega)];omega
 ·have hlt:i+1<S.length:=by simp at h1;omega
  rw[e1];omega
 ·have hlt:i+1<S.length:=by simp at h1;omega
  exact⟨by rw[e1];omega,rfl⟩
 ·have hlt:i+1<S.length:=by simp at h1;omega
  omega
 ·have hlt:i+1<S.length:=by simp at h1;omega
  exact⟨hlt,rfl⟩
 ·have hlt:i+1<S.length:=by simp at h1;omega
  rw[e1,Int.toNat_natCast]at h2
  exact⟨by omega,h2,⟨⟨rfl,rfl,trivial⟩,⟨rfl,trivial⟩,rfl,rfl,rfl⟩⟩
 ·have hlt:i+1<S.length:=by simp at h1;omega
  rw[e1,Int.toNat_natCast]at h2
  exact⟨by omega,h2,⟨⟨congrArg (fun n=>AVal.imm (i64 n)) (i64_succ (by omega)),rfl,rfl,trivial⟩,⟨rfl,trivial⟩,rfl,rfl,rfl⟩⟩
 ·have hlt:S.length≤i+1:=by simp at h1;omega
  exact⟨rfl,by omega,⟨⟨rfl,trivial⟩,⟨rfl,trivial⟩,rfl,rfl,rfl⟩⟩
def T81 (A B:List RKey):Tell:=
 Tell.mk (fun r i=>r==1&&i==2) (fun x x_1=>Orc.no) (fun x=>L81 (sorted ltK (A++B))) (fun x=>0) (fun x=>([9,8,2],[5])) (oget [(2,1,3,Orc.callo [.sl false false 1 [slE 18 encK A,slE 18 encK B]] 53 18 (List.map encK (A++B))),(7,2,2,Orc.callw [fnV 41] (.tup []) (List.map encK (sorted ltK (A++B))))]) fun x x_1=>L81 (sorted ltK (A++B))
theorem t81 (A B:List RKey):levF prog Proofs.Try.f81 [slE 18 encK A,slE 18 encK B,fnV 41] (T81 A B)=
 Tree.need (ILeL [.sl true true 1 [slE 18 encK A,slE 18 encK B]] [.sl false false 1 [slE 18 encK A,slE 18 encK B]]∧OSpec prog 101 [.sl false false 1 [slE 18 encK A,slE 18 encK B]] 53 18 (List.map encK (A++B))) (.need (List.length (List.map encK (A++B))=List.length (List.map encK (A++B))∧ILeL [fnV 41] [fnV 41]∧WSpec prog 102 53 18 (List.map encK (A++B)) [fnV 41] (.tup []) (List.map encK (sorted ltK (A++B)))) (.loop 4 (LState.mk [(9,.imm (i64 1)),(8,.own 5 (List.length (List.map encK (A++B)))),(2,.imm (fnV 41))] [(5,Entry.row 53 18 (List.map encK (sorted ltK (A++B))))] 37 11
 []) (.br (anyI (P81 (sorted ltK (A++B))) 0 (List.length (sorted ltK (A++B))-1)) (.done Exit.ret (R81 (sorted ltK (A++B)) (firstI (P81 (sorted ltK (A++B))) 0 (List.length (sorted ltK (A++B))-1)))) (.done (Exit.exit 0) (E81 (sorted ltK (A++B))))) (.br (anyI (P81 (sorted ltK (A++B))) 0 (List.length (sorted ltK (A++B))-1)) (.need (eqs [(List.length (sorted ltK (A++B)),List.length (List.map encK (sorted ltK (A++B))))]) (.done Exit.ret (lret (.tup [.sl true false 18 (List.map encK (sorted ltK (A++B))),bo true])))) (.need (eqs [(List.length (sorted ltK (A++B)),List.length
 (List.map encK (sorted ltK (A++B))))]) (.done Exit.ret (lret (.tup [.sl true false 18 (List.map encK (sorted ltK (A++B))),bo false]))))))):=by kernel_rfl
def dupK (S:List RKey):Bool:=anyI (P81 S) 0 (S.length-1)
theorem c81 (A B:List RKey)(hA:A.length≤400000)(hB:B.length≤400000):ASpec prog 81 [slE 18 encK A,slE 18 encK B,fnV 41] (.tup [slE 18 encK (sorted ltK (A++B)),bo (dupK (sorted ltK (A++B)))]):=by
 have hlen:(sorted ltK (A++B)).length=A.length+B.length:=by rw[sorted_length,List.length_append]
 refine ASpec.treeW Proofs.Try.f81 (T81 A B) (by kernel_rfl) (by kernel_rfl) (t81 A B) ?_
 refine need_sat ⟨(by repeat' first|exact ILeL.refl _|exact ILe.refl _|exact ILe.nil _ _ _|exact ILe.sl (fun h=>by cases h) (fun h=>by first|exact h|cases h) (ILeL.refl _)|apply ILeL.cons|apply ILe.agg|apply ILe.tup),o101 _ _ ?_ ?_⟩ (need_sat ⟨(by simp),ILeL.refl _,w102 _ ?_⟩ ⟨?_,⟨fun h1=>need_sat ?_ ⟨_,rfl,?_⟩,fun h1=>need_sat ?_ ⟨_,rfl,?_⟩⟩⟩)
 ·exact hA
 ·exact hB
 ·rw[List.length_append];omega
 ·exact l81 _ (by omega) _ ⟨⟨rfl,congrArg (AVal.own 5) (by rw[List.length_map,sorted_length]),rfl,trivial⟩,⟨rfl,trivial⟩,rfl,rfl,rfl⟩
 ·exact⟨by simp,trivial⟩
 ·refine .tup (.cons (ile_sl (.refl _)) (.cons ?_ (.refl _)))
  rw[show dupK (sorted ltK (A++B))=true from h1];exact .refl _
 ·exact⟨by simp,trivial⟩
 ·refine .tup (.cons (ile_sl (.refl _)) (.cons ?_ (.refl _)))
  rw[show dupK (sorted ltK (A++B))=false from h1];exact .refl _
end Gp
namespace Gp
def posO (l:List Origin)(x:Origin):Nat:=bs (fun h=>ltO (l.getD h default) x) l.length 0 l.length
def foundO (l:List Origin)(x:Origin):Bool:=decide (posO l x<l.length)&&decide (cmpO (l.getD (posO l x) default) x=0)
def I94 (l:List Origin)(x:Origin)(i j:Nat):LState:={t:=[(10,.imm (i64 j)),(9,.imm (i64 i)),(8,.imm (i64 l.length)),(4,.ptr 0 0),(2,.imm (fnV 35)),(0,.imm (slE 6 encO l))],s:=[(0,.box 44 (.imm (encO x)))],m:=49,n:=1}
def E94 (l:List Origin)(x:Origin)(i:Nat):LState:={t:=[(9,.imm (i64 i)),(8,.imm (i64 l.length)),(4,.ptr 0 0),(2,.imm (fnV 35)),(0,.imm (slE 6 encO l))],s:=[(0,.box 44 (.imm (encO x)))],m:=49,n:=1}
def fin94 :Exit→Fin
 |.normal=>⟨[],[10,9,8,4,2,0],[0]⟩
 |_=>⟨[],[9,8,4,2,0],[0]⟩
def T94r (l:List Origin)(x:Origin)(i j:Nat):Tell:=
 Tell.mk (fun x x_1=>false) (fun x x_1=>Orc.no) (fun x=>Tree.fail 1000003 0) (fun x=>0) (fun x=>([],[])) (oget [(11,5,3,Orc.elem (encO (List.getD l (Int.toNat (IntKind.wrap IntKind.i64 (Int.fdiv (IntKind.wrap IntKind.u64 (IntKind.wrap IntKind.i64 ((↑i:Int)+(↑j:Int)))) 2))) default))),(11,5,6,Orc.call [encO (List.getD l (Int.toNat (IntKind.wrap IntKind.i64 (Int.fdiv (IntKind.wrap IntKind.u64 (IntKind.wrap IntKind.i64 ((↑i:Int)+(↑j:Int)))) 2))) default),encO x] (i64 (cmpO (List.getD l (Int.toNat (IntKind.wrap IntKind.i64 (Int.fdiv (IntKind.wrap IntKind.u64 (IntKind.wrap
 IntKind.i64 ((↑i:Int)+(↑j:Int)))) 2))) default) x)))]) fun x x_1=>Tree.fail 1000003 0
theorem t94r (l:List Origin)(x:Origin)(i j:Nat):levL prog Proofs.Try.f94 3 (I94 l x i j) (T94r l x i j) fin94=
 Tree.br (decide ((↑i:Int)<(↑j:Int))) (.need ((0:Int)≤(1:Int)) (.need (0≤IntKind.wrap IntKind.i64 (Int.fdiv (IntKind.wrap IntKind.u64 (IntKind.wrap IntKind.i64 ((↑i:Int)+(↑j:Int)))) 2)∧(List.map encO l)[Int.toNat (IntKind.wrap IntKind.i64 (Int.fdiv (IntKind.wrap IntKind.u64 (IntKind.wrap IntKind.i64 ((↑i:Int)+(↑j:Int)))) 2))]?=some (encO (List.getD l (Int.toNat (IntKind.wrap IntKind.i64 (Int.fdiv (IntKind.wrap IntKind.u64 (IntKind.wrap IntKind.i64 ((↑i:Int)+(↑j:Int)))) 2))) default))) (.need (ILeL [encO (List.getD l (Int.toNat (IntKind.wrap IntKind.i64
 (Int.fdiv (IntKind.wrap IntKind.u64 (IntKind.wrap IntKind.i64 ((↑i:Int)+(↑j:Int)))) 2))) default),encO x] [encO (List.getD l (Int.toNat (IntKind.wrap IntKind.i64 (Int.fdiv (IntKind.wrap IntKind.u64 (IntKind.wrap IntKind.i64 ((↑i:Int)+(↑j:Int)))) 2))) default),encO x]∧ASpec prog 35 [encO (List.getD l (Int.toNat (IntKind.wrap IntKind.i64 (Int.fdiv (IntKind.wrap IntKind.u64 (IntKind.wrap IntKind.i64 ((↑i:Int)+(↑j:Int)))) 2))) default),encO x] (i64 (cmpO (List.getD l (Int.toNat (IntKind.wrap IntKind.i64 (Int.fdiv (IntKind.wrap IntKind.u64 (IntKind.wrap IntKind.i64 ((↑i:Int)+
 (↑j:Int)))) 2))) default) x))) (.br (decide (cmpO (List.getD l (Int.toNat (IntKind.wrap IntKind.i64 (Int.fdiv (IntKind.wrap IntKind.u64 (IntKind.wrap IntKind.i64 ((↑i:Int)+(↑j:Int)))) 2))) default) x<0)) (.done Exit.normal (LState.mk [(10,.imm (i64 (↑j:Int))),(9,.imm (i64 (IntKind.wrap IntKind.i64 (IntKind.wrap IntKind.i64 (Int.fdiv (IntKind.wrap IntKind.u64 (IntKind.wrap IntKind.i64 ((↑i:Int)+(↑j:Int)))) 2)+1)))),(8,.imm (i64 (↑(List.length l):Int))),(4,.ptr 0 0),(2,.imm (fnV 35)),(0,.imm (slE 6 encO l))] [(0,Entry.box 44 (.imm (encO x)))] 49 22 [])) (.done Exit.normal
 (LState.mk [(10,.imm (i64 (IntKind.wrap IntKind.i64 (Int.fdiv (IntKind.wrap IntKind.u64 (IntKind.wrap IntKind.i64 ((↑i:Int)+(↑j:Int)))) 2)))),(9,.imm (i64 (↑i:Int))),(8,.imm (i64 (↑(List.length l):Int))),(4,.ptr 0 0),(2,.imm (fnV 35)),(0,.imm (slE 6 encO l))] [(0,Entry.box 44 (.imm (encO x)))] 49 21 [])))))) (.done (Exit.exit 0) (LState.mk [(9,.imm (i64 (↑i:Int))),(8,.imm (i64 (↑(List.length l):Int))),(4,.ptr 0 0),(2,.imm (fnV 35)),(0,.imm (slE 6 encO l))] [(0,Entry.box 44 (.imm (encO x)))] 49 4 [])):=by kernel_rfl
theorem l94 (l:List Origin)(x:Origin)(hl:l.length≤2^61)(σ:LState)(h:LSub σ (I94 l x 0 l.length)):LoopOk prog [] (bodyOf Proofs.Try.f94) 3 σ (.done (.exit 0) (E94 l x (posO l x))):=by
 refine LoopOk.of_levL (γ:={g:Nat×Nat×Nat//g.1≤g.2.1∧g.2.1≤l.length∧g.2.1-g.1≤g.2.2∧bs (fun h=>ltO (l.getD h default) x) g.2.2 g.1 g.2.1=posO l x})
  (fun g=>T94r l x g.1.1 g.1.2.1) fin94 (fun g=>I94 l x g.1.1 g.1.2.1) (fun g=>g.1.2.1-g.1.1) ⟨(0,l.length,l.length),by simp,by simp,by simp,rfl⟩ (by kernel_rfl) h ?_
 rintro⟨⟨i,j,f'⟩,q1,q2,q3,q4⟩
 simp only at q1 q2 q3 q4
 simp only[]
 have e1:=i64_half (i:=i) (j:=j) (by omega)
 rw[t94r]
 simp only[e1,Int.toNat_natCast]
 refine⟨fun h1=>?_,fun h1=>?_⟩
 ·have hlt:i<j:=by simp at h1;omega
  cases f' with
  |zero=>omega
  |succ f'=>
   rw[bs,if_pos hlt]at q4
   refine⟨by omega,fun _=>⟨⟨by omega,getD_map _ _ _ _ (by omega)⟩,fun _=>⟨⟨ILeL.refl _,c35 _ _⟩,fun _=>⟨fun h2=>?_,fun h2=>?_⟩⟩⟩⟩
   ·rw[if_pos (show ltO _ _=true from h2)]at q4
    refine⟨⟨((i+j)/2+1,j,f'),by simp only;omega,q2,by simp only;omega,q4⟩,by simp only;omega,⟨rfl,?_,rfl,rfl,rfl,rfl,trivial⟩,⟨rfl,trivial⟩,rfl,rfl,rfl⟩
    exact congrArg (fun n=>AVal.imm (i64 n)) (i64_succ (by omega))
   ·rw[if_neg (fun hc=>by rw[show ltO _ _=false from h2]at hc;cases hc)]at q4
    exact⟨⟨(i,(i+j)/2,f'),by simp only;omega,by simp only;omega,by simp only;omega,q4⟩,by simp only;omega,⟨rfl,rfl,rfl,rfl,rfl,rfl,trivial⟩,⟨rfl,trivial⟩,rfl,rfl,rfl⟩
 ·have hge:¬i<j:=by simp at h1;omega
  have:bs (fun h=>ltO (l.getD h default) x) f' i j=i:=by
   cases f' with
   |zero=>rfl
   |succ f'=>rw[bs,if_neg hge]
  rw[this]at q4
  rw[←q4]
  exact⟨rfl,⟨rfl,rfl,rfl,rfl,rfl,trivial⟩,⟨rfl,trivial⟩,rfl,rfl,rfl⟩
def T94 (l:List Origin)(x:Origin):Tell:=
 Tell.mk (fun x x_1=>false) (fun x x_1=>Orc.no) (fun x_1=>Tree.done (Exit.exit 0) (E94 l x (posO l x))) (fun x=>0) (fun x=>([10,9,8,4,2,0],[0])) (oget [(1,8,8,Orc.elem (encO (List.getD l (posO l x) default))),(1,8,11,Orc.call [encO (List.getD l (posO l x) default),encO x] (i64 (cmpO (List.getD l (posO l x) default) x)))]) fun x_1 x_2=>Tree.done (Exit.exit 0) (E94 l x (posO l x))
theorem t94 (l:List Origin)(x:Origin):levF prog Proofs.Try.f94 [slE 6 encO l,encO x,fnV 35] (T94 l x)=
 Tree.loop 3 (LState.mk [(10,.imm (i64 (↑(List.length (List.map encO l)):Int))),(9,.imm (i64 0)),(8,.imm (i64 (↑(List.length (List.map encO l)):Int))),(4,.ptr 0 0),(2,.imm (fnV 35)),(0,.imm (slE 6 encO l))] [(0,Entry.box 44 (.imm (encO x)))] 49 9 []) (.done (Exit.exit 0) (E94 l x (posO l x))) (.br (decide ((↑(posO l x):Int)<(↑(List.length l):Int))) (.need (0≤(↑(posO l x):Int)∧(List.map encO l)[posO l x]?=some (encO (List.getD l (posO l x) default))) (.need (ILeL [encO (List.getD l (posO l x) default),encO x] [encO (List.getD l (posO l x) default),encO x]∧ASpec prog 35 [encO
 (List.getD l (posO l x) default),encO x] (i64 (cmpO (List.getD l (posO l x) default) x))) (.done Exit.ret (lret (.tup [i64 (↑(posO l x):Int),bo (decide (cmpO (List.getD l (posO l x) default) x=0))]))))) (.done Exit.ret (lret (.tup [i64 (↑(posO l x):Int),bo false])))):=by kernel_rfl
theorem posO_le (l:List Origin)(x:Origin):posO l x≤l.length:=(bs_bnd _ _ _ _ (Nat.zero_le _)).2
theorem c94 (l:List Origin)(x:Origin)(hl:l.length≤2^61):ASpec prog 94 [slE 6 encO l,encO x,fnV 35] (.tup [i64 (posO l x),bo (foundO l x)]):=by
 refine ASpec.treeW Proofs.Try.f94 (T94 l x) (by kernel_rfl) (by kernel_rfl) (t94 l x) ?_
 refine⟨?_,⟨fun h1=>need_sat (elem_need ?_) (need_sat ⟨ILeL.refl _,c35 _ _⟩ ⟨_,rfl,?_⟩),fun h1=>⟨_,rfl,?_⟩⟩⟩
 ·exact l94 l x hl _ ⟨⟨congrArg (fun n=>AVal.imm (i64 n)) (by simp),rfl,congrArg (fun n=>AVal.imm (i64 n)) (by simp),rfl,rfl,rfl,trivial⟩,⟨rfl,trivial⟩,rfl,rfl,rfl⟩
 ·have:posO l x<l.length:=by simp at h1;omega
  exact⟨by omega,by omega,rfl⟩
 ·have:posO l x<l.length:=by simp at h1;omega
  refine .tup (.cons (.refl _) (.cons ?_ (.refl _)))
  rw[foundO,decide_eq_true this];exact .refl _
 ·have:¬posO l x<l.length:=by simp at h1;omega
  refine .tup (.cons (.refl _) (.cons ?_ (.refl _)))
  rw[foundO,decide_eq_false this];exact .refl _
def posT (l:List Attest)(x:Attest):Nat:=bs (fun h=>ltT (l.getD h default) x) l.length 0 l.length
def foundT (l:List Attest)(x:Attest):Bool:=decide (posT l x<l.length)&&decide (cmpT (l.getD (posT l x) default) x=0)
def I95 (l:List Attest)(x:Attest)(i j:Nat):LState:={t:=[(10,.imm (i64 j)),(9,.imm (i64 i)),(8,.imm (i64 l.length)),(4,.ptr 0 0),(2,.imm (fnV 38)),(0,.imm (slE 2 encT l))],s:=[(0,.box 47 (.imm (encT x)))],m:=49,n:=1}
def E95 (l:List Attest)(x:Attest)(i:Nat):LState:={t:=[(9,.imm (i64 i)),(8,.imm (i64 l.length)),(4,.ptr 0 0),(2,.imm (fnV 38)),(0,.imm (slE 2 encT l))],s:=[(0,.box 47 (.imm (encT x)))],m:=49,n:=1}
def fin95 :Exit→Fin
 |.normal=>⟨[],[10,9,8,4,2,0],[0]⟩
 |_=>⟨[],[9,8,4,2,0],[0]⟩
def T95r (l:List Attest)(x:Attest)(i j:Nat):Tell:=
 Tell.mk (fun x x_1=>false) (fun x x_1=>Orc.no) (fun x=>Tree.fail 1000003 0) (fun x=>0) (fun x=>([],[])) (oget [(11,5,3,Orc.elem (encT (List.getD l (Int.toNat (IntKind.wrap IntKind.i64 (Int.fdiv (IntKind.wrap IntKind.u64 (IntKind.wrap IntKind.i64 ((↑i:Int)+(↑j:Int)))) 2))) default))),(11,5,6,Orc.call [encT (List.getD l (Int.toNat (IntKind.wrap IntKind.i64 (Int.fdiv (IntKind.wrap IntKind.u64 (IntKind.wrap IntKind.i64 ((↑i:Int)+(↑j:Int)))) 2))) default),encT x] (i64 (cmpI (List.getD l (Int.toNat (IntKind.wrap IntKind.i64 (Int.fdiv (IntKind.wrap IntKind.u64 (IntKind.wrap
 IntKind.i64 ((↑i:Int)+(↑j:Int)))) 2))) default).cust x.cust)))]) fun x x_1=>Tree.fail 1000003 0
theorem t95r (l:List Attest)(x:Attest)(i j:Nat):levL prog Proofs.Try.f95 3 (I95 l x i j) (T95r l x i j) fin95=
 Tree.br (decide ((↑i:Int)<(↑j:Int))) (.need ((0:Int)≤(1:Int)) (.need (0≤IntKind.wrap IntKind.i64 (Int.fdiv (IntKind.wrap IntKind.u64 (IntKind.wrap IntKind.i64 ((↑i:Int)+(↑j:Int)))) 2)∧(List.map encT l)[Int.toNat (IntKind.wrap IntKind.i64 (Int.fdiv (IntKind.wrap IntKind.u64 (IntKind.wrap IntKind.i64 ((↑i:Int)+(↑j:Int)))) 2))]?=some (encT (List.getD l (Int.toNat (IntKind.wrap IntKind.i64 (Int.fdiv (IntKind.wrap IntKind.u64 (IntKind.wrap IntKind.i64 ((↑i:Int)+(↑j:Int)))) 2))) default))) (.need (ILeL [encT (List.getD l (Int.toNat (IntKind.wrap IntKind.i64
 (Int.fdiv (IntKind.wrap IntKind.u64 (IntKind.wrap IntKind.i64 ((↑i:Int)+(↑j:Int)))) 2))) default),encT x] [encT (List.getD l (Int.toNat (IntKind.wrap IntKind.i64 (Int.fdiv (IntKind.wrap IntKind.u64 (IntKind.wrap IntKind.i64 ((↑i:Int)+(↑j:Int)))) 2))) default),encT x]∧ASpec prog 38 [encT (List.getD l (Int.toNat (IntKind.wrap IntKind.i64 (Int.fdiv (IntKind.wrap IntKind.u64 (IntKind.wrap IntKind.i64 ((↑i:Int)+(↑j:Int)))) 2))) default),encT x] (i64 (cmpI (List.getD l (Int.toNat (IntKind.wrap IntKind.i64 (Int.fdiv (IntKind.wrap IntKind.u64 (IntKind.wrap IntKind.i64 ((↑i:Int)+
 (↑j:Int)))) 2))) default).cust x.cust))) (.br (decide (cmpI (List.getD l (Int.toNat (IntKind.wrap IntKind.i64 (Int.fdiv (IntKind.wrap IntKind.u64 (IntKind.wrap IntKind.i64 ((↑i:Int)+(↑j:Int)))) 2))) default).cust x.cust<0)) (.done Exit.normal (LState.mk [(10,.imm (i64 (↑j:Int))),(9,.imm (i64 (IntKind.wrap IntKind.i64 (IntKind.wrap IntKind.i64 (Int.fdiv (IntKind.wrap IntKind.u64 (IntKind.wrap IntKind.i64 ((↑i:Int)+(↑j:Int)))) 2)+1)))),(8,.imm (i64 (↑(List.length l):Int))),(4,.ptr 0 0),(2,.imm (fnV 38)),(0,.imm (slE 2 encT l))] [(0,Entry.box 47 (.imm (encT x)))] 49 22 []))
 (.done Exit.normal (LState.mk [(10,.imm (i64 (IntKind.wrap IntKind.i64 (Int.fdiv (IntKind.wrap IntKind.u64 (IntKind.wrap IntKind.i64 ((↑i:Int)+(↑j:Int)))) 2)))),(9,.imm (i64 (↑i:Int))),(8,.imm (i64 (↑(List.length l):Int))),(4,.ptr 0 0),(2,.imm (fnV 38)),(0,.imm (slE 2 encT l))] [(0,Entry.box 47 (.imm (encT x)))] 49 21 [])))))) (.done (Exit.exit 0) (LState.mk [(9,.imm (i64 (↑i:Int))),(8,.imm (i64 (↑(List.length l):Int))),(4,.ptr 0 0),(2,.imm (fnV 38)),(0,.imm (slE 2 encT l))] [(0,Entry.box 47 (.imm (encT x)))] 49 4 [])):=by kernel_rfl
theorem l95 (l:List Attest)(x:Attest)(hl:l.length≤2^61)(σ:LState)(h:LSub σ (I95 l x 0 l.length)):LoopOk prog [] (bodyOf Proofs.Try.f95) 3 σ (.done (.exit 0) (E95 l x (posT l x))):=by
 refine LoopOk.of_levL (γ:={g:Nat×Nat×Nat//g.1≤g.2.1∧g.2.1≤l.length∧g.2.1-g.1≤g.2.2∧bs (fun h=>ltT (l.getD h default) x) g.2.2 g.1 g.2.1=posT l x})
  (fun g=>T95r l x g.1.1 g.1.2.1) fin95 (fun g=>I95 l x g.1.1 g.1.2.1) (fun g=>g.1.2.1-g.1.1) ⟨(0,l.length,l.length),by simp,by simp,by simp,rfl⟩ (by kernel_rfl) h ?_
 rintro⟨⟨i,j,f'⟩,q1,q2,q3,q4⟩
 simp only at q1 q2 q3 q4
 simp only[]
 have e1:=i64_half (i:=i) (j:=j) (by omega)
 rw[t95r]
 simp only[e1,Int.toNat_natCast]
 refine⟨fun h1=>?_,fun h1=>?_⟩
 ·have hlt:i<j:=by simp at h1;omega
  cases f' with
  |zero=>omega
  |succ f'=>
   rw[bs,if_pos hlt]at q4
   refine⟨by omega,fun _=>⟨⟨by omega,getD_map _ _ _ _ (by omega)⟩,fun _=>⟨⟨ILeL.refl _,c38 _ _⟩,fun _=>⟨fun h2=>?_,fun h2=>?_⟩⟩⟩⟩
   ·rw[if_pos (show ltT _ _=true from h2)]at q4
    refine⟨⟨((i+j)/2+1,j,f'),by simp only;omega,q2,by simp only;omega,q4⟩,by simp only;omega,⟨rfl,?_,rfl,rfl,rfl,rfl,trivial⟩,⟨rfl,trivial⟩,rfl,rfl,rfl⟩
    exact congrArg (fun n=>AVal.imm (i64 n)) (i64_succ (by omega))
   ·rw[if_neg (fun hc=>by rw[show ltT _ _=false from h2]at hc;cases hc)]at q4
    exact⟨⟨(i,(i+j)/2,f'),by simp only;omega,by simp only;omega,by simp only;omega,q4⟩,by simp only;omega,⟨rfl,rfl,rfl,rfl,rfl,rfl,trivial⟩,⟨rfl,trivial⟩,rfl,rfl,rfl⟩
 ·have hge:¬i<j:=by simp at h1;omega
  have:bs (fun h=>ltT (l.getD h default) x) f' i j=i:=by
   cases f' with
   |zero=>rfl
   |succ f'=>rw[bs,if_neg hge]
  rw[this]at q4
  rw[←q4]
  exact⟨rfl,⟨rfl,rfl,rfl,rfl,rfl,trivial⟩,⟨rfl,trivial⟩,rfl,rfl,rfl⟩
def T95 (l:List Attest)(x:Attest):Tell:=
 Tell.mk (fun x x_1=>false) (fun x x_1=>Orc.no) (fun x_1=>Tree.done (Exit.exit 0) (E95 l x (posT l x))) (fun x=>0) (fun x=>([10,9,8,4,2,0],[0])) (oget [(1,8,8,Orc.elem (encT (List.getD l (posT l x) default))),(1,8,11,Orc.call [encT (List.getD l (posT l x) default),encT x] (i64 (cmpI (List.getD l (posT l x) default).cust x.cust)))]) fun x_1 x_2=>Tree.done (Exit.exit 0) (E95 l x (posT l x))
theorem t95 (l:List Attest)(x:Attest):levF prog Proofs.Try.f95 [slE 2 encT l,encT x,fnV 38] (T95 l x)=
 Tree.loop 3 (LState.mk [(10,.imm (i64 (↑(List.length (List.map encT l)):Int))),(9,.imm (i64 0)),(8,.imm (i64 (↑(List.length (List.map encT l)):Int))),(4,.ptr 0 0),(2,.imm (fnV 38)),(0,.imm (slE 2 encT l))] [(0,Entry.box 47 (.imm (encT x)))] 49 9 []) (.done (Exit.exit 0) (E95 l x (posT l x))) (.br (decide ((↑(posT l x):Int)<(↑(List.length l):Int))) (.need (0≤(↑(posT l x):Int)∧(List.map encT l)[posT l x]?=some (encT (List.getD l (posT l x) default))) (.need (ILeL [encT (List.getD l (posT l x) default),encT x] [encT (List.getD l (posT l x) default),encT x]∧ASpec prog 38 [encT
 (List.getD l (posT l x) default),encT x] (i64 (cmpI (List.getD l (posT l x) default).cust x.cust))) (.done Exit.ret (lret (.tup [i64 (↑(posT l x):Int),bo (decide (cmpI (List.getD l (posT l x) default).cust x.cust=0))]))))) (.done Exit.ret (lret (.tup [i64 (↑(posT l x):Int),bo false])))):=by kernel_rfl
theorem posT_le (l:List Attest)(x:Attest):posT l x≤l.length:=(bs_bnd _ _ _ _ (Nat.zero_le _)).2
theorem c95 (l:List Attest)(x:Attest)(hl:l.length≤2^61):ASpec prog 95 [slE 2 encT l,encT x,fnV 38] (.tup [i64 (posT l x),bo (foundT l x)]):=by
 refine ASpec.treeW Proofs.Try.f95 (T95 l x) (by kernel_rfl) (by kernel_rfl) (t95 l x) ?_
 refine⟨?_,⟨fun h1=>need_sat (elem_need ?_) (need_sat ⟨ILeL.refl _,c38 _ _⟩ ⟨_,rfl,?_⟩),fun h1=>⟨_,rfl,?_⟩⟩⟩
 ·exact l95 l x hl _ ⟨⟨congrArg (fun n=>AVal.imm (i64 n)) (by simp),rfl,congrArg (fun n=>AVal.imm (i64 n)) (by simp),rfl,rfl,rfl,trivial⟩,⟨rfl,trivial⟩,rfl,rfl,rfl⟩
 ·have:posT l x<l.length:=by simp at h1;omega
  exact⟨by omega,by omega,rfl⟩
 ·have:posT l x<l.length:=by simp at h1;omega
  refine .tup (.cons (.refl _) (.cons ?_ (.refl _)))
  rw[foundT,decide_eq_true this];exact .refl _
 ·have:¬posT l x<l.length:=by simp at h1;omega
  refine .tup (.cons (.refl _) (.cons ?_ (.refl _)))
  rw[foundT,decide_eq_false this];exact .refl _
def posK (l:List RKey)(x:RKey):Nat:=bs (fun h=>ltK (l.getD h default) x) l.length 0 l.length
def foundK (l:List RKey)(x:RKey):Bool:=decide (posK l x<l.length)&&decide (cmpK (l.getD (posK l x) default) x=0)
def I96 (l:List RKey)(x:RKey)(i j:Nat):LState:={t:=[(10,.imm (i64 j)),(9,.imm (i64 i)),(8,.imm (i64 l.length)),(4,.ptr 0 0),(2,.imm (fnV 41)),(0,.imm (slE 18 encK l))],s:=[(0,.box 53 (.imm (encK x)))],m:=49,n:=1}
def E96 (l:List RKey)(x:RKey)(i:Nat):LState:={t:=[(9,.imm (i64 i)),(8,.imm (i64 l.length)),(4,.ptr 0 0),(2,.imm (fnV 41)),(0,.imm (slE 18 encK l))],s:=[(0,.box 53 (.imm (encK x)))],m:=49,n:=1}
def fin96 :Exit→Fin
 |.normal=>⟨[],[10,9,8,4,2,0],[0]⟩
 |_=>⟨[],[9,8,4,2,0],[0]⟩
def T96r (l:List RKey)(x:RKey)(i j:Nat):Tell:=
 Tell.mk (fun x x_1=>false) (fun x x_1=>Orc.no) (fun x=>Tree.fail 1000003 0) (fun x=>0) (fun x=>([],[])) (oget [(11,5,3,Orc.elem (encK (List.getD l (Int.toNat (IntKind.wrap IntKind.i64 (Int.fdiv (IntKind.wrap IntKind.u64 (IntKind.wrap IntKind.i64 ((↑i:Int)+(↑j:Int)))) 2))) default))),(11,5,6,Orc.call [encK (List.getD l (Int.toNat (IntKind.wrap IntKind.i64 (Int.fdiv (IntKind.wrap IntKind.u64 (IntKind.wrap IntKind.i64 ((↑i:Int)+(↑j:Int)))) 2))) default),encK x] (i64 (cmpK (List.getD l (Int.toNat (IntKind.wrap IntKind.i64 (Int.fdiv (IntKind.wrap IntKind.u64 (IntKind.wrap
 IntKind.i64 ((↑i:Int)+(↑j:Int)))) 2))) default) x)))]) fun x x_1=>Tree.fail 1000003 0
theorem t96r (l:List RKey)(x:RKey)(i j:Nat):levL prog Proofs.Try.f96 3 (I96 l x i j) (T96r l x i j) fin96=
 Tree.br (decide ((↑i:Int)<(↑j:Int))) (.need ((0:Int)≤(1:Int)) (.need (0≤IntKind.wrap IntKind.i64 (Int.fdiv (IntKind.wrap IntKind.u64 (IntKind.wrap IntKind.i64 ((↑i:Int)+(↑j:Int)))) 2)∧(List.map encK l)[Int.toNat (IntKind.wrap IntKind.i64 (Int.fdiv (IntKind.wrap IntKind.u64 (IntKind.wrap IntKind.i64 ((↑i:Int)+(↑j:Int)))) 2))]?=some (encK (List.getD l (Int.toNat (IntKind.wrap IntKind.i64 (Int.fdiv (IntKind.wrap IntKind.u64 (IntKind.wrap IntKind.i64 ((↑i:Int)+(↑j:Int)))) 2))) default))) (.need (ILeL [encK (List.getD l (Int.toNat (IntKind.wrap IntKind.i64
 (Int.fdiv (IntKind.wrap IntKind.u64 (IntKind.wrap IntKind.i64 ((↑i:Int)+(↑j:Int)))) 2))) default),encK x] [encK (List.getD l (Int.toNat (IntKind.wrap IntKind.i64 (Int.fdiv (IntKind.wrap IntKind.u64 (IntKind.wrap IntKind.i64 ((↑i:Int)+(↑j:Int)))) 2))) default),encK x]∧ASpec prog 41 [encK (List.getD l (Int.toNat (IntKind.wrap IntKind.i64 (Int.fdiv (IntKind.wrap IntKind.u64 (IntKind.wrap IntKind.i64 ((↑i:Int)+(↑j:Int)))) 2))) default),encK x] (i64 (cmpK (List.getD l (Int.toNat (IntKind.wrap IntKind.i64 (Int.fdiv (IntKind.wrap IntKind.u64 (IntKind.wrap IntKind.i64 ((↑i:Int)+
 (↑j:Int)))) 2))) default) x))) (.br (decide (cmpK (List.getD l (Int.toNat (IntKind.wrap IntKind.i64 (Int.fdiv (IntKind.wrap IntKind.u64 (IntKind.wrap IntKind.i64 ((↑i:Int)+(↑j:Int)))) 2))) default) x<0)) (.done Exit.normal (LState.mk [(10,.imm (i64 (↑j:Int))),(9,.imm (i64 (IntKind.wrap IntKind.i64 (IntKind.wrap IntKind.i64 (Int.fdiv (IntKind.wrap IntKind.u64 (IntKind.wrap IntKind.i64 ((↑i:Int)+(↑j:Int)))) 2)+1)))),(8,.imm (i64 (↑(List.length l):Int))),(4,.ptr 0 0),(2,.imm (fnV 41)),(0,.imm (slE 18 encK l))] [(0,Entry.box 53 (.imm (encK x)))] 49 22 [])) (.done Exit.normal
 (LState.mk [(10,.imm (i64 (IntKind.wrap IntKind.i64 (Int.fdiv (IntKind.wrap IntKind.u64 (IntKind.wrap IntKind.i64 ((↑i:Int)+(↑j:Int)))) 2)))),(9,.imm (i64 (↑i:Int))),(8,.imm (i64 (↑(List.length l):Int))),(4,.ptr 0 0),(2,.imm (fnV 41)),(0,.imm (slE 18 encK l))] [(0,Entry.box 53 (.imm (encK x)))] 49 21 [])))))) (.done (Exit.exit 0) (LState.mk [(9,.imm (i64 (↑i:Int))),(8,.imm (i64 (↑(List.length l):Int))),(4,.ptr 0 0),(2,.imm (fnV 41)),(0,.imm (slE 18 encK l))] [(0,Entry.box 53 (.imm (encK x)))] 49 4 [])):=by kernel_rfl
theorem l96 (l:List RKey)(x:RKey)(hl:l.length≤2^61)(σ:LState)(h:LSub σ (I96 l x 0 l.length)):LoopOk prog [] (bodyOf Proofs.Try.f96) 3 σ (.done (.exit 0) (E96 l x (posK l x))):=by
 refine LoopOk.of_levL (γ:={g:Nat×Nat×Nat//g.1≤g.2.1∧g.2.1≤l.length∧g.2.1-g.1≤g.2.2∧bs (fun h=>ltK (l.getD h default) x) g.2.2 g.1 g.2.1=posK l x})
  (fun g=>T96r l x g.1.1 g.1.2.1) fin96 (fun g=>I96 l x g.1.1 g.1.2.1) (fun g=>g.1.2.1-g.1.1) ⟨(0,l.length,l.length),by simp,by simp,by simp,rfl⟩ (by kernel_rfl) h ?_
 rintro⟨⟨i,j,f'⟩,q1,q2,q3,q4⟩
 simp only at q1 q2 q3 q4
 simp only[]
 have e1:=i64_half (i:=i) (j:=j) (by omega)
 rw[t96r]
 simp only[e1,Int.toNat_natCast]
 refine⟨fun h1=>?_,fun h1=>?_⟩
 ·have hlt:i<j:=by simp at h1;omega
  cases f' with
  |zero=>omega
  |succ f'=>
   rw[bs,if_pos hlt]at q4
   refine⟨by omega,fun _=>⟨⟨by omega,getD_map _ _ _ _ (by omega)⟩,fun _=>⟨⟨ILeL.refl _,c41 _ _⟩,fun _=>⟨fun h2=>?_,fun h2=>?_⟩⟩⟩⟩
   ·rw[if_pos (show ltK _ _=true from h2)]at q4
    refine⟨⟨((i+j)/2+1,j,f'),by simp only;omega,q2,by simp only;omega,q4⟩,by simp only;omega,⟨rfl,?_,rfl,rfl,rfl,rfl,trivial⟩,⟨rfl,trivial⟩,rfl,rfl,rfl⟩
    exact congrArg (fun n=>AVal.imm (i64 n)) (i64_succ (by omega))
   ·rw[if_neg (fun hc=>by rw[show ltK _ _=false from h2]at hc;cases hc)]at q4
    exact⟨⟨(i,(i+j)/2,f'),by simp only;omega,by simp only;omega,by simp only;omega,q4⟩,by simp only;omega,⟨rfl,rfl,rfl,rfl,rfl,rfl,trivial⟩,⟨rfl,trivial⟩,rfl,rfl,rfl⟩
 ·have hge:¬i<j:=by simp at h1;omega
  have:bs (fun h=>ltK (l.getD h default) x) f' i j=i:=by
   cases f' with
   |zero=>rfl
   |succ f'=>rw[bs,if_neg hge]
  rw[this]at q4
  rw[←q4]
  exact⟨rfl,⟨rfl,rfl,rfl,rfl,rfl,trivial⟩,⟨rfl,trivial⟩,rfl,rfl,rfl⟩
def T96 (l:List RKey)(x:RKey):Tell:=
 Tell.mk (fun x x_1=>false) (fun x x_1=>Orc.no) (fun x_1=>Tree.done (Exit.exit 0) (E96 l x (posK l x))) (fun x=>0) (fun x=>([10,9,8,4,2,0],[0])) (oget [(1,8,8,Orc.elem (encK (List.getD l (posK l x) default))),(1,8,11,Orc.call [encK (List.getD l (posK l x) default),encK x] (i64 (cmpK (List.getD l (posK l x) default) x)))]) fun x_1 x_2=>Tree.done (Exit.exit 0) (E96 l x (posK l x))
theorem t96 (l:List RKey)(x:RKey):levF prog Proofs.Try.f96 [slE 18 encK l,encK x,fnV 41] (T96 l x)=
 Tree.loop 3 (LState.mk [(10,.imm (i64 (↑(List.length (List.map encK l)):Int))),(9,.imm (i64 0)),(8,.imm (i64 (↑(List.length (List.map encK l)):Int))),(4,.ptr 0 0),(2,.imm (fnV 41)),(0,.imm (slE 18 encK l))] [(0,Entry.box 53 (.imm (encK x)))] 49 9 []) (.done (Exit.exit 0) (E96 l x (posK l x))) (.br (decide ((↑(posK l x):Int)<(↑(List.length l):Int))) (.need (0≤(↑(posK l x):Int)∧(List.map encK l)[posK l x]?=some (encK (List.getD l (posK l x) default))) (.need (ILeL [encK (List.getD l (posK l x) default),encK x] [encK (List.getD l (posK l x) default),encK x]∧ASpec prog 41 [encK
 (List.getD l (posK l x) default),encK x] (i64 (cmpK (List.getD l (posK l x) default) x))) (.done Exit.ret (lret (.tup [i64 (↑(posK l x):Int),bo (decide (cmpK (List.getD l (posK l x) default) x=0))]))))) (.done Exit.ret (lret (.tup [i64 (↑(posK l x):Int),bo false])))):=by kernel_rfl
theorem posK_le (l:List RKey)(x:RKey):posK l x≤l.length:=(bs_bnd _ _ _ _ (Nat.zero_le _)).2
theorem c96 (l:List RKey)(x:RKey)(hl:l.length≤2^61):ASpec prog 96 [slE 18 encK l,encK x,fnV 41] (.tup [i64 (posK l x),bo (foundK l x)]):=by
 refine ASpec.treeW Proofs.Try.f96 (T96 l x) (by kernel_rfl) (by kernel_rfl) (t96 l x) ?_
 refine⟨?_,⟨fun h1=>need_sat (elem_need ?_) (need_sat ⟨ILeL.refl _,c41 _ _⟩ ⟨_,rfl,?_⟩),fun h1=>⟨_,rfl,?_⟩⟩⟩
 ·exact l96 l x hl _ ⟨⟨congrArg (fun n=>AVal.imm (i64 n)) (by simp),rfl,congrArg (fun n=>AVal.imm (i64 n)) (by simp),rfl,rfl,rfl,trivial⟩,⟨rfl,trivial⟩,rfl,rfl,rfl⟩
 ·have:posK l x<l.length:=by simp at h1;omega
  exact⟨by omega,by omega,rfl⟩
 ·have:posK l x<l.length:=by simp at h1;omega
  refine .tup (.cons (.refl _) (.cons ?_ (.refl _)))
  rw[foundK,decide_eq_true this];exact .refl _
 ·have:¬posK l x<l.length:=by simp at h1;omega
  refine .tup (.cons (.refl _) (.cons ?_ (.refl _)))
  rw[foundK,decide_eq_false this];exact .refl _
end Gp
namespace Gp
def T75 (a b:Origin):Tell:=
 Tell.mk (fun x x_1=>false) (fun x x_1=>Orc.no) (fun x=>Tree.fail 1000003 0) (fun x=>0) (fun x=>([],[])) (fun x x_1 x_2=>Orc.no) fun x x_1=>Tree.fail 1000003 0
theorem t75 (a b:Origin):levF prog Proofs.Try.f75 [encO a,encO b] (T75 a b)=
 Tree.done Exit.ret (lret (bo (if BinOp.eql=BinOp.neq then !(decide (a.asn=b.asn)&&(decide (a.pfx.fam=b.pfx.fam)&&(decide (a.pfx.addr.hi=b.pfx.addr.hi)&&(decide (a.pfx.addr.lo=b.pfx.addr.lo)&&(decide (a.pfx.len=b.pfx.len)&&(decide (a.max=b.max)&&true))))))else decide (a.asn=b.asn)&&(decide (a.pfx.fam=b.pfx.fam)&&(decide (a.pfx.addr.hi=b.pfx.addr.hi)&&(decide (a.pfx.addr.lo=b.pfx.addr.lo)&&(decide (a.pfx.len=b.pfx.len)&&(decide (a.max=b.max)&&true)))))))):=by kernel_rfl
def T78 (a b:RKey):Tell:=
 Tell.mk (fun x x_1=>false) (fun x x_1=>Orc.no) (fun x=>Tree.fail 1000003 0) (fun x=>0) (fun x=>([],[])) (fun x x_1 x_2=>Orc.no) fun x x_1=>Tree.fail 1000003 0
theorem t78 (a b:RKey):levF prog Proofs.Try.f78 [encK a,encK b] (T78 a b)=
 Tree.done Exit.ret (lret (bo (if BinOp.eql=BinOp.neq then !(decide (a.asn=b.asn)&&(decide (a.root[0]=b.root[0])&&(decide (a.root[1]=b.root[1])&&(decide (a.root[2]=b.root[2])&&(decide (a.root[3]=b.root[3])&&(decide (a.root[4]=b.root[4])&&(decide (a.root[5]=b.root[5])&&(decide (a.root[6]=b.root[6])&&(decide (a.root[7]=b.root[7])&&(decide (a.root[8]=b.root[8])&&(decide (a.root[9]=b.root[9])&&(decide (a.root[10]=b.root[10])&&(decide (a.root[11]=b.root[11])&&(decide (a.root[12]=b.root[12])&&(decide (a.root[13]=b.root[13])&&(decide
 (a.root[14]=b.root[14])&&(decide (a.root[15]=b.root[15])&&(decide (a.height=b.height)&&true))))))))))))))))))else decide (a.asn=b.asn)&&(decide (a.root[0]=b.root[0])&&(decide (a.root[1]=b.root[1])&&(decide (a.root[2]=b.root[2])&&(decide (a.root[3]=b.root[3])&&(decide (a.root[4]=b.root[4])&&(decide (a.root[5]=b.root[5])&&(decide (a.root[6]=b.root[6])&&(decide (a.root[7]=b.root[7])&&(decide (a.root[8]=b.root[8])&&(decide (a.root[9]=b.root[9])&&(decide (a.root[10]=b.root[10])&&(decide (a.root[11]=b.root[11])&&(decide (a.root[12]=
 b.root[12])&&(decide (a.root[13]=b.root[13])&&(decide (a.root[14]=b.root[14])&&(decide (a.root[15]=b.root[15])&&(decide (a.height=b.height)&&true)))))))))))))))))))):=by kernel_rfl
theorem c75 (a b:Origin):ASpec prog 75 [encO a,encO b] (bo (decide (a=b))):=by
 have he:decide (a=b)=!neO a b:=by
  rw[Bool.eq_iff_iff,Bool.not_eq_true',neO_iff,decide_eq_true_eq]
 rw[he]
 refine ASpec.treeW Proofs.Try.f75 (T75 a b) (by kernel_rfl) (by kernel_rfl) (t75 a b) ⟨_,rfl,ile_bo ?_⟩
 rw[if_neg (by decide),neO,Bool.not_not]
theorem c78 (a b:RKey):ASpec prog 78 [encK a,encK b] (bo (decide (a=b))):=by
 have he:decide (a=b)=!neK a b:=by
  rw[Bool.eq_iff_iff,Bool.not_eq_true',neK_iff,decide_eq_true_eq]
 rw[he]
 refine ASpec.treeW Proofs.Try.f78 (T78 a b) (by kernel_rfl) (by kernel_rfl) (t78 a b) ⟨_,rfl,ile_bo ?_⟩
 rw[if_neg (by decide),neK,Bool.not_not]
def missO (b:List Origin)(x:Origin):Bool:=decide (posO b x=b.length)||!decide (b.getD (posO b x) default=x)
def I74 (a b:List Origin)(i:Nat):LState:={t:=[(16,.imm (i64 i)),(15,.imm (i64 a.length)),(14,.imm (slE 6 encO a)),(9,.own 50 ((a.take i).filter (missO b)).length),(3,.imm (fnV 75)),(2,.imm (fnV 35)),(1,.imm (slE 6 encO b))],s:=[(50,.row 44 6 (((a.take i).filter (missO b)).map encO))],m:=47,n:=60}
def E74 (a b:List Origin):LState:={t:=[(9,.own 50 (a.filter (missO b)).length)],s:=[(50,.row 44 6 ((a.filter (missO b)).map encO))],m:=47,n:=60}
def fin74 :Exit→Nat→Fin
 |.normal,95=>⟨[(50,59),(91,50)],[16,15,14,9,3,2,1],[50]⟩
 |.normal,_=>⟨[],[16,15,14,9,3,2,1],[50]⟩
 |_,_=>⟨[],[9],[50]⟩
def T74r (a b:List Origin)(i:Nat):Tell:=
 Tell.mk (fun x x_1=>false) (fun x x_1=>Orc.no) (fun x=>Tree.fail 1000003 0) (fun x=>0) (fun x=>([],[])) (oget [(61,4,0,Orc.elem (encO (List.getD a i default))),(65,5,3,Orc.call [slE 6 encO b,encO (List.getD a i default),fnV 35] (.tup [i64 (↑(posO b (List.getD a i default)):Int),bo (foundO b (List.getD a i default))])),(74,6,8,Orc.elem (encO (List.getD b (posO b (List.getD a i default)) default))),(74,6,11,Orc.call [encO (List.getD b (posO b (List.getD a i default)) default),encO (List.getD a i default)] (bo (decide (List.getD b (posO b (List.getD a i default)) default=List.getD a
 i default))))]) fun x x_1=>Tree.fail 1000003 0
theorem t74r (a b:List Origin)(i:Nat):levLN prog Proofs.Try.f74 3 (I74 a b i) (T74r a b i) fin74=
 Tree.br (decide ((↑i:Int)<(↑(List.length a):Int))) (.need (0≤(↑i:Int)∧(List.map encO a)[i]?=some (encO (List.getD a i default))) (.need (ILeL [slE 6 encO b,encO (List.getD a i default),fnV 35] [slE 6 encO b,encO (List.getD a i default),fnV 35]∧ASpec prog 94 [slE 6 encO b,encO (List.getD a i default),fnV 35] (.tup [i64 (↑(posO b (List.getD a i default)):Int),bo (foundO b (List.getD a i default))])) (.br (decide ((↑(posO b (List.getD a i default)):Int)=(↑(List.length (List.map encO b)):Int))) (.need (askA (some (1=1)) (List.length (List.map encO (List.filter (missO b)
 (List.take i a)))=List.length (List.filter (missO b) (List.take i a))∧cellsOk (List.map encO (List.filter (missO b) (List.take i a)))=true∧true=true∧List.length (List.filter (missO b) (List.take i a))+1≤1000000)) (.done Exit.normal (LState.mk [(16,.imm (i64 (IntKind.wrap IntKind.i64 ((↑i:Int)+1)))),(15,.imm (i64 (↑(List.length a):Int))),(14,.imm (slE 6 encO a)),(9,.own 50 (List.length (List.filter (missO b) (List.take i a))+1)),(3,.imm (fnV 75)),(2,.imm (fnV 35)),(1,.imm (slE 6 encO b))] [(50,Entry.row 44 6 (List.map encO (List.filter (missO b) (List.take i a))++[encO
 (List.getD a i default)]))] 47 95 []))) (.need (0≤(↑(posO b (List.getD a i default)):Int)∧(List.map encO b)[posO b (List.getD a i default)]?=some (encO (List.getD b (posO b (List.getD a i default)) default))) (.need (ILeL [encO (List.getD b (posO b (List.getD a i default)) default),encO (List.getD a i default)] [encO (List.getD b (posO b (List.getD a i default)) default),encO (List.getD a i default)]∧ASpec prog 75 [encO (List.getD b (posO b (List.getD a i default)) default),encO (List.getD a i default)] (bo (decide (List.getD b (posO b (List.getD a i default)) default=List.getD a i
 default)))) (.br (!decide (List.getD b (posO b (List.getD a i default)) default=List.getD a i default)) (.need (askA (some (1=1)) (List.length (List.map encO (List.filter (missO b) (List.take i a)))=List.length (List.filter (missO b) (List.take i a))∧cellsOk (List.map encO (List.filter (missO b) (List.take i a)))=true∧true=true∧List.length (List.filter (missO b) (List.take i a))+1≤1000000)) (.done Exit.normal (LState.mk [(16,.imm (i64 (IntKind.wrap IntKind.i64 ((↑i:Int)+1)))),(15,.imm (i64 (↑(List.length a):Int))),(14,.imm (slE 6 encO a)),(9,.own 50 (List.length
 (List.filter (missO b) (List.take i a))+1)),(3,.imm (fnV 75)),(2,.imm (fnV 35)),(1,.imm (slE 6 encO b))] [(50,Entry.row 44 6 (List.map encO (List.filter (missO b) (List.take i a))++[encO (List.getD a i default)]))] 47 95 []))) (.done Exit.normal (LState.mk [(16,.imm (i64 (IntKind.wrap IntKind.i64 ((↑i:Int)+1)))),(15,.imm (i64 (↑(List.length a):Int))),(14,.imm (slE 6 encO a)),(9,.own 50 (List.length (List.filter (missO b) (List.take i a)))),(3,.imm (fnV 75)),(2,.imm (fnV 35)),(1,.imm (slE 6 encO b))] [(50,Entry.row 44 6 (List.map encO (List.filter (missO b) (List.take i a))))] 47 90
 [])))))))) (.done (Exit.exit 0) (LState.mk [(9,.own 50 (List.length (List.filter (missO b) (List.take i a))))] [(50,Entry.row 44 6 (List.map encO (List.filter (missO b) (List.take i a))))] 47 61 [])):=by kernel_rfl
theorem fltO_succ (a b:List Origin)(i:Nat)(h:i<a.length):(a.take (i+1)).filter (missO b)=(a.take i).filter (missO b)++(if missO b (a.getD i default)=true then[a.getD i default]else[]):=by
 rw[List.take_add_one,List.filter_append]
 simp only[List.getD_eq_getElem?_getD,List.getElem?_eq_getElem h,Option.toList_some,Option.getD_some,List.filter_cons,List.filter_nil]
theorem l74 (a b:List Origin)(ha:a.length≤400000)(hb:b.length≤400000)(σ:LState)(h:LSub σ (I74 a b 0)):LoopOk prog [] (bodyOf Proofs.Try.f74) 3 σ (.done (.exit 0) (E74 a b)):=by
 refine LoopOk.countN a.length 0 (I74 a b) (E74 a b) (T74r a b) fin74 (by kernel_rfl) h fun i hi=>?_
 have hlen:((a.take i).filter (missO b)).length≤i:=Nat.le_trans (List.length_filter_le _ _) (by simp;omega)
 have hpos:=posO_le b (a.getD i default)
 have yes:i<a.length→missO b (a.getD i default)=true→LSub ⟨[(16,.imm (.v (.int .i64 (IntKind.i64.wrap ((i:Int)+1))))),(15,.imm (i64 a.length)),(14,.imm (slE 6 encO a)),(9,.own 50 (((a.take i).filter (missO b)).length+1)),(3,.imm (fnV 75)),(2,.imm (fnV 35)),(1,.imm (slE 6 encO b))],
   [(50,.row 44 6 (((a.take i).filter (missO b)).map encO++[encO (a.getD i default)]))],47,95,[]⟩ (I74 a b (i+1)):=by
  intro hlt hm
  have hs:=fltO_succ a b i hlt
  rw[if_pos hm]at hs
  exact⟨⟨congrArg (fun n=>AVal.imm (i64 n)) (i64_succ (by omega)),rfl,rfl,congrArg (AVal.own 50) (by rw[hs,List.length_append];rfl),rfl,rfl,rfl,trivial⟩,⟨congrArg (fun l=>some (Entry.row 44 6 l)) (by rw[hs,List.map_append];rfl),trivial⟩,rfl,rfl,rfl⟩
 rw[t74r]
 refine⟨fun h1=>need_sat (elem_need ?_) (need_sat ⟨ILeL.refl _,c94 _ _ ?_⟩ ⟨fun h2=>need_sat ?_ ?_,fun h2=>need_sat (elem_need ?_) (need_sat ⟨ILeL.refl _,c75 _ _⟩ ⟨fun h3=>need_sat ?_ ?_,fun h3=>?_⟩)⟩),fun h1=>?_⟩
 ·(refine⟨by omega,?_,?_⟩<;>(simp only[List.length_map,decide_eq_true_eq,decide_eq_false_iff_not,Int.toNat_natCast]at*<;>omega))
 ·omega
 ·exact⟨⟨by simp,cellsOk_map encO (fun _=>rfl) _,rfl,by omega⟩,rfl⟩
 ·have hlt:i<a.length:=by(simp only[List.length_map,decide_eq_true_eq,decide_eq_false_iff_not,Int.toNat_natCast]at*<;>omega)
  have hm:missO b (a.getD i default)=true:=by simp only[List.length_map,decide_eq_true_eq,decide_eq_false_iff_not]at h2;rw[missO,decide_eq_true (show posO b (a.getD i default)=b.length by omega)];rfl
  exact⟨hlt,yes hlt hm⟩
 ·have hp:posO b (a.getD i default)<b.length:=by simp only[List.length_map,decide_eq_true_eq,decide_eq_false_iff_not]at h2;omega
  exact⟨by omega,hp,rfl⟩
 ·exact⟨⟨by simp,cellsOk_map encO (fun _=>rfl) _,rfl,by omega⟩,rfl⟩
 ·have hlt:i<a.length:=by(simp only[List.length_map,decide_eq_true_eq,decide_eq_false_iff_not,Int.toNat_natCast]at*<;>omega)
  exact⟨hlt,yes hlt (by rw[missO,h3,Bool.or_true])⟩
 ·have hlt:i<a.length:=by(simp only[List.length_map,decide_eq_true_eq,decide_eq_false_iff_not,Int.toNat_natCast]at*<;>omega)
  have hp:¬posO b (a.getD i default)=b.length:=by simp only[List.length_map,decide_eq_true_eq,decide_eq_false_iff_not]at h2;omega
  have hs:=fltO_succ a b i hlt
  rw[if_neg (by rw[missO,h3,decide_eq_false hp];decide),List.append_nil]at hs
  exact⟨hlt,⟨⟨congrArg (fun n=>AVal.imm (i64 n)) (i64_succ (by omega)),rfl,rfl,congrArg (AVal.own 50) (by rw[hs]),rfl,rfl,rfl,trivial⟩,⟨congrArg (fun l=>some (Entry.row 44 6 l)) (by rw[hs]),trivial⟩,rfl,rfl,rfl⟩⟩
 ·have:i=a.length:=by(simp only[List.length_map,decide_eq_true_eq,decide_eq_false_iff_not,Int.toNat_natCast]at*<;>omega)
  subst this
  refine⟨rfl,by omega,⟨⟨congrArg (AVal.own 50) (by rw[List.take_length]),trivial⟩,⟨congrArg (fun l=>some (Entry.row 44 6 l)) (by rw[List.take_length]),trivial⟩,rfl,rfl,rfl⟩⟩
def T74 (a b:List Origin):Tell:=
 Tell.mk (fun x x_1=>false) (fun x x_1=>Orc.no) (fun x=>Tree.done (Exit.exit 0) (E74 a b)) (fun x=>0) (fun x=>([16,15,14,9,3,2,1],[])) (fun x x_1 x_2=>Orc.no) fun x x_1=>Tree.done (Exit.exit 0) (E74 a b)
theorem t74 (a b:List Origin):levF prog Proofs.Try.f74 [slE 6 encO a,slE 6 encO b,fnV 35,fnV 75] (T74 a b)=
 Tree.loop 3 (LState.mk [(16,.imm (i64 0)),(15,.imm (i64 (↑(List.length (List.map encO a)):Int))),(14,.imm (slE 6 encO a)),(9,.imm nS),(3,.imm (fnV 75)),(2,.imm (fnV 35)),(1,.imm (slE 6 encO b))] [] 47 5 []) (.done (Exit.exit 0) (E74 a b)) (.need (eqs [(List.length (List.filter (missO b) a),List.length (List.map encO (List.filter (missO b) a)))]) (.done Exit.ret (lret (.sl true false 6 (List.map encO (List.filter (missO b) a)))))):=by kernel_rfl
theorem c74 (a b:List Origin)(ha:a.length≤400000)(hb:b.length≤400000):ASpec prog 74 [slE 6 encO a,slE 6 encO b,fnV 35,fnV 75] (slE 6 encO (a.filter (missO b))):=by
 refine ASpec.treeW Proofs.Try.f74 (T74 a b) (by kernel_rfl) (by kernel_rfl) (t74 a b) ?_
 refine⟨?_,need_sat ?_ ⟨_,rfl,?_⟩⟩
 ·refine .nam (τ:=I74 a b 0) (.temp 9 50 44 6 (show 5≤50 by decide) (.sub ?_)) (l74 a b ha hb _ ?_)
  all_goals exact⟨⟨rfl,congrArg (fun n=>AVal.imm (i64 n)) (by simp),rfl,rfl,rfl,rfl,rfl,trivial⟩,⟨rfl,trivial⟩,rfl,rfl,rfl⟩
 ·exact⟨by simp,trivial⟩
 ·exact ile_sl (.refl _)
def missT (b:List Attest)(x:Attest):Bool:=decide (posT b x=b.length)||!decide (b.getD (posT b x) default=x)
def I76 (a b:List Attest)(i:Nat):LState:={t:=[(16,.imm (i64 i)),(15,.imm (i64 a.length)),(14,.imm (slE 2 encT a)),(9,.own 50 ((a.take i).filter (missT b)).length),(3,.imm (fnV 50)),(2,.imm (fnV 38)),(1,.imm (slE 2 encT b))],s:=[(50,.row 47 2 (((a.take i).filter (missT b)).map encT))],m:=47,n:=60}
def E76 (a b:List Attest):LState:={t:=[(9,.own 50 (a.filter (missT b)).length)],s:=[(50,.row 47 2 ((a.filter (missT b)).map encT))],m:=47,n:=60}
def fin76 :Exit→Nat→Fin
 |.normal,95=>⟨[(50,59),(91,50)],[16,15,14,9,3,2,1],[50]⟩
 |.normal,_=>⟨[],[16,15,14,9,3,2,1],[50]⟩
 |_,_=>⟨[],[9],[50]⟩
def T76r (a b:List Attest)(i:Nat):Tell:=
 Tell.mk (fun x x_1=>false) (fun x x_1=>Orc.no) (fun x=>Tree.fail 1000003 0) (fun x=>0) (fun x=>([],[])) (oget [(61,4,0,Orc.elem (encT (List.getD a i default))),(65,5,3,Orc.call [slE 2 encT b,encT (List.getD a i default),fnV 38] (.tup [i64 (↑(posT b (List.getD a i default)):Int),bo (foundT b (List.getD a i default))])),(74,6,8,Orc.elem (encT (List.getD b (posT b (List.getD a i default)) default))),(74,6,11,Orc.call [encT (List.getD b (posT b (List.getD a i default)) default),encT (List.getD a i default)] (bo (decide (List.getD b (posT b (List.getD a i default)) default=List.getD a
 i default))))]) fun x x_1=>Tree.fail 1000003 0
theorem t76r (a b:List Attest)(i:Nat):levLN prog Proofs.Try.f76 3 (I76 a b i) (T76r a b i) fin76=
 Tree.br (decide ((↑i:Int)<(↑(List.length a):Int))) (.need (0≤(↑i:Int)∧(List.map encT a)[i]?=some (encT (List.getD a i default))) (.need (ILeL [slE 2 encT b,encT (List.getD a i default),fnV 38] [slE 2 encT b,encT (List.getD a i default),fnV 38]∧ASpec prog 95 [slE 2 encT b,encT (List.getD a i default),fnV 38] (.tup [i64 (↑(posT b (List.getD a i default)):Int),bo (foundT b (List.getD a i default))])) (.br (decide ((↑(posT b (List.getD a i default)):Int)=(↑(List.length (List.map encT b)):Int))) (.need (askA (some (1=1)) (List.length (List.map encT (List.filter (missT b)
 (List.take i a)))=List.length (List.filter (missT b) (List.take i a))∧cellsOk (List.map encT (List.filter (missT b) (List.take i a)))=true∧true=true∧List.length (List.filter (missT b) (List.take i a))+1≤1000000)) (.done Exit.normal (LState.mk [(16,.imm (i64 (IntKind.wrap IntKind.i64 ((↑i:Int)+1)))),(15,.imm (i64 (↑(List.length a):Int))),(14,.imm (slE 2 encT a)),(9,.own 50 (List.length (List.filter (missT b) (List.take i a))+1)),(3,.imm (fnV 50)),(2,.imm (fnV 38)),(1,.imm (slE 2 encT b))] [(50,Entry.row 47 2 (List.map encT (List.filter (missT b) (List.take i a))++[encT
 (List.getD a i default)]))] 47 95 []))) (.need (0≤(↑(posT b (List.getD a i default)):Int)∧(List.map encT b)[posT b (List.getD a i default)]?=some (encT (List.getD b (posT b (List.getD a i default)) default))) (.need (ILeL [encT (List.getD b (posT b (List.getD a i default)) default),encT (List.getD a i default)] [encT (List.getD b (posT b (List.getD a i default)) default),encT (List.getD a i default)]∧ASpec prog 50 [encT (List.getD b (posT b (List.getD a i default)) default),encT (List.getD a i default)] (bo (decide (List.getD b (posT b (List.getD a i default)) default=List.getD a i
 default)))) (.br (!decide (List.getD b (posT b (List.getD a i default)) default=List.getD a i default)) (.need (askA (some (1=1)) (List.length (List.map encT (List.filter (missT b) (List.take i a)))=List.length (List.filter (missT b) (List.take i a))∧cellsOk (List.map encT (List.filter (missT b) (List.take i a)))=true∧true=true∧List.length (List.filter (missT b) (List.take i a))+1≤1000000)) (.done Exit.normal (LState.mk [(16,.imm (i64 (IntKind.wrap IntKind.i64 ((↑i:Int)+1)))),(15,.imm (i64 (↑(List.length a):Int))),(14,.imm (slE 2 encT a)),(9,.own 50 (List.length
 (List.filter (missT b) (List.take i a))+1)),(3,.imm (fnV 50)),(2,.imm (fnV 38)),(1,.imm (slE 2 encT b))] [(50,Entry.row 47 2 (List.map encT (List.filter (missT b) (List.take i a))++[encT (List.getD a i default)]))] 47 95 []))) (.done Exit.normal (LState.mk [(16,.imm (i64 (IntKind.wrap IntKind.i64 ((↑i:Int)+1)))),(15,.imm (i64 (↑(List.length a):Int))),(14,.imm (slE 2 encT a)),(9,.own 50 (List.length (List.filter (missT b) (List.take i a)))),(3,.imm (fnV 50)),(2,.imm (fnV 38)),(1,.imm (slE 2 encT b))] [(50,Entry.row 47 2 (List.map encT (List.filter (missT b) (List.take i a))))] 47 90
 [])))))))) (.done (Exit.exit 0) (LState.mk [(9,.own 50 (List.length (List.filter (missT b) (List.take i a))))] [(50,Entry.row 47 2 (List.map encT (List.filter (missT b) (List.take i a))))] 47 61 [])):=by kernel_rfl
theorem fltT_succ (a b:List Attest)(i:Nat)(h:i<a.length):(a.take (i+1)).filter (missT b)=(a.take i).filter (missT b)++(if missT b (a.getD i default)=true then[a.getD i default]else[]):=by
 rw[List.take_add_one,List.filter_append]
 simp only[List.getD_eq_getElem?_getD,List.getElem?_eq_getElem h,Option.toList_some,Option.getD_some,List.filter_cons,List.filter_nil]
theorem l76 (a b:List Attest)(ha:a.length≤400000)(hb:b.length≤400000)(hT:∀x∈b,okT x)(σ:LState)(h:LSub σ (I76 a b 0)):LoopOk prog [] (bodyOf Proofs.Try.f76) 3 σ (.done (.exit 0) (E76 a b)):=by
 refine LoopOk.countN a.length 0 (I76 a b) (E76 a b) (T76r a b) fin76 (by kernel_rfl) h fun i hi=>?_
 have hlen:((a.take i).filter (missT b)).length≤i:=Nat.le_trans (List.length_filter_le _ _) (by simp;omega)
 have hpos:=posT_le b (a.getD i default)
 have yes:i<a.length→missT b (a.getD i default)=true→LSub ⟨[(16,.imm (.v (.int .i64 (IntKind.i64.wrap ((i:Int)+1))))),(15,.imm (i64 a.length)),(14,.imm (slE 2 encT a)),(9,.own 50 (((a.take i).filter (missT b)).length+1)),(3,.imm (fnV 50)),(2,.imm (fnV 38)),(1,.imm (slE 2 encT b))],
   [(50,.row 47 2 (((a.take i).filter (missT b)).map encT++[encT (a.getD i default)]))],47,95,[]⟩ (I76 a b (i+1)):=by
  intro hlt hm
  have hs:=fltT_succ a b i hlt
  rw[if_pos hm]at hs
  exact⟨⟨congrArg (fun n=>AVal.imm (i64 n)) (i64_succ (by omega)),rfl,rfl,congrArg (AVal.own 50) (by rw[hs,List.length_append];rfl),rfl,rfl,rfl,trivial⟩,⟨congrArg (fun l=>some (Entry.row 47 2 l)) (by rw[hs,List.map_append];rfl),trivial⟩,rfl,rfl,rfl⟩
 rw[t76r]
 refine⟨fun h1=>need_sat (elem_need ?_) (need_sat ⟨ILeL.refl _,c95 _ _ ?_⟩ ⟨fun h2=>need_sat ?_ ?_,fun h2=>need_sat (elem_need ?_) (need_sat ⟨ILeL.refl _,c50 _ _ ?_⟩ ⟨fun h3=>need_sat ?_ ?_,fun h3=>?_⟩)⟩),fun h1=>?_⟩
 ·(refine⟨by omega,?_,?_⟩<;>(simp only[List.length_map,decide_eq_true_eq,decide_eq_false_iff_not,Int.toNat_natCast]at*<;>omega))
 ·omega
 ·exact⟨⟨by simp,cellsOk_map encT (fun _=>rfl) _,rfl,by omega⟩,rfl⟩
 ·have hlt:i<a.length:=by(simp only[List.length_map,decide_eq_true_eq,decide_eq_false_iff_not,Int.toNat_natCast]at*<;>omega)
  have hm:missT b (a.getD i default)=true:=by simp only[List.length_map,decide_eq_true_eq,decide_eq_false_iff_not]at h2;rw[missT,decide_eq_true (show posT b (a.getD i default)=b.length by omega)];rfl
  exact⟨hlt,yes hlt hm⟩
 ·have hp:posT b (a.getD i default)<b.length:=by simp only[List.length_map,decide_eq_true_eq,decide_eq_false_iff_not]at h2;omega
  exact⟨by omega,hp,rfl⟩
 ·have hp:posT b (a.getD i default)<b.length:=by simp only[List.length_map,decide_eq_true_eq,decide_eq_false_iff_not]at h2;omega
  have:=hT _ (getD_mem b _ hp);unfold okT at this;omega
 ·exact⟨⟨by simp,cellsOk_map encT (fun _=>rfl) _,rfl,by omega⟩,rfl⟩
 ·have hlt:i<a.length:=by(simp only[List.length_map,decide_eq_true_eq,decide_eq_false_iff_not,Int.toNat_natCast]at*<;>omega)
  exact⟨hlt,yes hlt (by rw[missT,h3,Bool.or_true])⟩
 ·have hlt:i<a.length:=by(simp only[List.length_map,decide_eq_true_eq,decide_eq_false_iff_not,Int.toNat_natCast]at*<;>omega)
  have hp:¬posT b (a.getD i default)=b.length:=by simp only[List.length_map,decide_eq_true_eq,decide_eq_false_iff_not]at h2;omega
  have hs:=fltT_succ a b i hlt
  rw[if_neg (by rw[missT,h3,decide_eq_false hp];decide),List.append_nil]at hs
  exact⟨hlt,⟨⟨congrArg (fun n=>AVal.imm (i64 n)) (i64_succ (by omega)),rfl,rfl,congrArg (AVal.own 50) (by rw[hs]),rfl,rfl,rfl,trivial⟩,⟨congrArg (fun l=>some (Entry.row 47 2 l)) (by rw[hs]),trivial⟩,rfl,rfl,rfl⟩⟩
 ·have:i=a.length:=by(simp only[List.length_map,decide_eq_true_eq,decide_eq_false_iff_not,Int.toNat_natCast]at*<;>omega)
  subst this
  refine⟨rfl,by omega,⟨⟨congrArg (AVal.own 50) (by rw[List.take_length]),trivial⟩,⟨congrArg (fun l=>some (Entry.row 47 2 l)) (by rw[List.take_length]),trivial⟩,rfl,rfl,rfl⟩⟩
def T76 (a b:List Attest):Tell:=
 Tell.mk (fun x x_1=>false) (fun x x_1=>Orc.no) (fun x=>Tree.done (Exit.exit 0) (E76 a b)) (fun x=>0) (fun x=>([16,15,14,9,3,2,1],[])) (fun x x_1 x_2=>Orc.no) fun x x_1=>Tree.done (Exit.exit 0) (E76 a b)
theorem t76 (a b:List Attest):levF prog Proofs.Try.f76 [slE 2 encT a,slE 2 encT b,fnV 38,fnV 50] (T76 a b)=
 Tree.loop 3 (LState.mk [(16,.imm (i64 0)),(15,.imm (i64 (↑(List.length (List.map encT a)):Int))),(14,.imm (slE 2 encT a)),(9,.imm nS),(3,.imm (fnV 50)),(2,.imm (fnV 38)),(1,.imm (slE 2 encT b))] [] 47 5 []) (.done (Exit.exit 0) (E76 a b)) (.need (eqs [(List.length (List.filter (missT b) a),List.length (List.map encT (List.filter (missT b) a)))]) (.done Exit.ret (lret (.sl true false 2 (List.map encT (List.filter (missT b) a)))))):=by kernel_rfl
theorem c76 (a b:List Attest)(ha:a.length≤400000)(hb:b.length≤400000)(hT:∀x∈b,okT x):ASpec prog 76 [slE 2 encT a,slE 2 encT b,fnV 38,fnV 50] (slE 2 encT (a.filter (missT b))):=by
 refine ASpec.treeW Proofs.Try.f76 (T76 a b) (by kernel_rfl) (by kernel_rfl) (t76 a b) ?_
 refine⟨?_,need_sat ?_ ⟨_,rfl,?_⟩⟩
 ·refine .nam (τ:=I76 a b 0) (.temp 9 50 47 2 (show 5≤50 by decide) (.sub ?_)) (l76 a b ha hb hT _ ?_)
  all_goals exact⟨⟨rfl,congrArg (fun n=>AVal.imm (i64 n)) (by simp),rfl,rfl,rfl,rfl,rfl,trivial⟩,⟨rfl,trivial⟩,rfl,rfl,rfl⟩
 ·exact⟨by simp,trivial⟩
 ·exact ile_sl (.refl _)
def missK (b:List RKey)(x:RKey):Bool:=decide (posK b x=b.length)||!decide (b.getD (posK b x) default=x)
def I77 (a b:List RKey)(i:Nat):LState:={t:=[(16,.imm (i64 i)),(15,.imm (i64 a.length)),(14,.imm (slE 18 encK a)),(9,.own 50 ((a.take i).filter (missK b)).length),(3,.imm (fnV 78)),(2,.imm (fnV 41)),(1,.imm (slE 18 encK b))],s:=[(50,.row 53 18 (((a.take i).filter (missK b)).map encK))],m:=47,n:=60}
def E77 (a b:List RKey):LState:={t:=[(9,.own 50 (a.filter (missK b)).length)],s:=[(50,.row 53 18 ((a.filter (missK b)).map encK))],m:=47,n:=60}
def fin77 :Exit→Nat→Fin
 |.normal,95=>⟨[(50,59),(91,50)],[16,15,14,9,3,2,1],[50]⟩
 |.normal,_=>⟨[],[16,15,14,9,3,2,1],[50]⟩
 |_,_=>⟨[],[9],[50]⟩
def T77r (a b:List RKey)(i:Nat):Tell:=
 Tell.mk (fun x x_1=>false) (fun x x_1=>Orc.no) (fun x=>Tree.fail 1000003 0) (fun x=>0) (fun x=>([],[])) (oget [(61,4,0,Orc.elem (encK (List.getD a i default))),(65,5,3,Orc.call [slE 18 encK b,encK (List.getD a i default),fnV 41] (.tup [i64 (↑(posK b (List.getD a i default)):Int),bo (foundK b (List.getD a i default))])),(74,6,8,Orc.elem (encK (List.getD b (posK b (List.getD a i default)) default))),(74,6,11,Orc.call [encK (List.getD b (posK b (List.getD a i default)) default),encK (List.getD a i default)] (bo (decide (List.getD b (posK b (List.getD a i default)) default=List.getD a
 i default))))]) fun x x_1=>Tree.fail 1000003 0
theorem t77r (a b:List RKey)(i:Nat):levLN prog Proofs.Try.f77 3 (I77 a b i) (T77r a b i) fin77=
 Tree.br (decide ((↑i:Int)<(↑(List.length a):Int))) (.need (0≤(↑i:Int)∧(List.map encK a)[i]?=some (encK (List.getD a i default))) (.need (ILeL [slE 18 encK b,encK (List.getD a i default),fnV 41] [slE 18 encK b,encK (List.getD a i default),fnV 41]∧ASpec prog 96 [slE 18 encK b,encK (List.getD a i default),fnV 41] (.tup [i64 (↑(posK b (List.getD a i default)):Int),bo (foundK b (List.getD a i default))])) (.br (decide ((↑(posK b (List.getD a i default)):Int)=(↑(List.length (List.map encK b)):Int))) (.need (askA (some (1=1)) (List.length (List.map encK (List.filter (missK b)
 (List.take i a)))=List.length (List.filter (missK b) (List.take i a))∧cellsOk (List.map encK (List.filter (missK b) (List.take i a)))=true∧true=true∧List.length (List.filter (missK b) (List.take i a))+1≤1000000)) (.done Exit.normal (LState.mk [(16,.imm (i64 (IntKind.wrap IntKind.i64 ((↑i:Int)+1)))),(15,.imm (i64 (↑(List.length a):Int))),(14,.imm (slE 18 encK a)),(9,.own 50 (List.length (List.filter (missK b) (List.take i a))+1)),(3,.imm (fnV 78)),(2,.imm (fnV 41)),(1,.imm (slE 18 encK b))] [(50,Entry.row 53 18 (List.map encK (List.filter (missK b) (List.take i a))++
 [encK (List.getD a i default)]))] 47 95 []))) (.need (0≤(↑(posK b (List.getD a i default)):Int)∧(List.map encK b)[posK b (List.getD a i default)]?=some (encK (List.getD b (posK b (List.getD a i default)) default))) (.need (ILeL [encK (List.getD b (posK b (List.getD a i default)) default),encK (List.getD a i default)] [encK (List.getD b (posK b (List.getD a i default)) default),encK (List.getD a i default)]∧ASpec prog 78 [encK (List.getD b (posK b (List.getD a i default)) default),encK (List.getD a i default)] (bo (decide (List.getD b (posK b (List.getD a i default)) default=
 List.getD a i default)))) (.br (!decide (List.getD b (posK b (List.getD a i default)) default=List.getD a i default)) (.need (askA (some (1=1)) (List.length (List.map encK (List.filter (missK b) (List.take i a)))=List.length (List.filter (missK b) (List.take i a))∧cellsOk (List.map encK (List.filter (missK b) (List.take i a)))=true∧true=true∧List.length (List.filter (missK b) (List.take i a))+1≤1000000)) (.done Exit.normal (LState.mk [(16,.imm (i64 (IntKind.wrap IntKind.i64 ((↑i:Int)+1)))),(15,.imm (i64 (↑(List.length a):Int))),(14,.imm (slE 18 encK a)),(9,.own 50
 (List.length (List.filter (missK b) (List.take i a))+1)),(3,.imm (fnV 78)),(2,.imm (fnV 41)),(1,.imm (slE 18 encK b))] [(50,Entry.row 53 18 (List.map encK (List.filter (missK b) (List.take i a))++[encK (List.getD a i default)]))] 47 95 []))) (.done Exit.normal (LState.mk [(16,.imm (i64 (IntKind.wrap IntKind.i64 ((↑i:Int)+1)))),(15,.imm (i64 (↑(List.length a):Int))),(14,.imm (slE 18 encK a)),(9,.own 50 (List.length (List.filter (missK b) (List.take i a)))),(3,.imm (fnV 78)),(2,.imm (fnV 41)),(1,.imm (slE 18 encK b))] [(50,Entry.row 53 18 (List.map encK (List.filter (missK b) (List.take
 i a))))] 47 90 [])))))))) (.done (Exit.exit 0) (LState.mk [(9,.own 50 (List.length (List.filter (missK b) (List.take i a))))] [(50,Entry.row 53 18 (List.map encK (List.filter (missK b) (List.take i a))))] 47 61 [])):=by kernel_rfl
theorem fltK_succ (a b:List RKey)(i:Nat)(h:i<a.length):(a.take (i+1)).filter (missK b)=(a.take i).filter (missK b)++(if missK b (a.getD i default)=true then[a.getD i default]else[]):=by
 rw[List.take_add_one,List.filter_append]
 simp only[List.getD_eq_getElem?_getD,List.getElem?_eq_getElem h,Option.toList_some,Option.getD_some,List.filter_cons,List.filter_nil]
theorem l77 (a b:List RKey)(ha:a.length≤400000)(hb:b.length≤400000)(σ:LState)(h:LSub σ (I77 a b 0)):LoopOk prog [] (bodyOf Proofs.Try.f77) 3 σ (.done (.exit 0) (E77 a b)):=by
 refine LoopOk.countN a.length 0 (I77 a b) (E77 a b) (T77r a b) fin77 (by kernel_rfl) h fun i hi=>?_
 have hlen:((a.take i).filter (missK b)).length≤i:=Nat.le_trans (List.length_filter_le _ _) (by simp;omega)
 have hpos:=posK_le b (a.getD i default)
 have yes:i<a.length→missK b (a.getD i default)=true→LSub ⟨[(16,.imm (.v (.int .i64 (IntKind.i64.wrap ((i:Int)+1))))),(15,.imm (i64 a.length)),(14,.imm (slE 18 encK a)),(9,.own 50 (((a.take i).filter (missK b)).length+1)),(3,.imm (fnV 78)),(2,.imm (fnV 41)),(1,.imm (slE 18 encK b))],
   [(50,.row 53 18 (((a.take i).filter (missK b)).map encK++[encK (a.getD i default)]))],47,95,[]⟩ (I77 a b (i+1)):=by
  intro hlt hm
  have hs:=fltK_succ a b i hlt
  rw[if_pos hm]at hs
  exact⟨⟨congrArg (fun n=>AVal.imm (i64 n)) (i64_succ (by omega)),rfl,rfl,congrArg (AVal.own 50) (by rw[hs,List.length_append];rfl),rfl,rfl,rfl,trivial⟩,⟨congrArg (fun l=>some (Entry.row 53 18 l)) (by rw[hs,List.map_append];rfl),trivial⟩,rfl,rfl,rfl⟩
 rw[t77r]
 refine⟨fun h1=>need_sat (elem_need ?_) (need_sat ⟨ILeL.refl _,c96 _ _ ?_⟩ ⟨fun h2=>need_sat ?_ ?_,fun h2=>need_sat (elem_need ?_) (need_sat ⟨ILeL.refl _,c78 _ _⟩ ⟨fun h3=>need_sat ?_ ?_,fun h3=>?_⟩)⟩),fun h1=>?_⟩
 ·(refine⟨by omega,?_,?_⟩<;>(simp only[List.length_map,decide_eq_true_eq,decide_eq_false_iff_not,Int.toNat_natCast]at*<;>omega))
 ·omega
 ·exact⟨⟨by simp,cellsOk_map encK (fun _=>rfl) _,rfl,by omega⟩,rfl⟩
 ·have hlt:i<a.length:=by(simp only[List.length_map,decide_eq_true_eq,decide_eq_false_iff_not,Int.toNat_natCast]at*<;>omega)
  have hm:missK b (a.getD i default)=true:=by simp only[List.length_map,decide_eq_true_eq,decide_eq_false_iff_not]at h2;rw[missK,decide_eq_true (show posK b (a.getD i default)=b.length by omega)];rfl
  exact⟨hlt,yes hlt hm⟩
 ·have hp:posK b (a.getD i default)<b.length:=by simp only[List.length_map,decide_eq_true_eq,decide_eq_false_iff_not]at h2;omega
  exact⟨by omega,hp,rfl⟩
 ·exact⟨⟨by simp,cellsOk_map encK (fun _=>rfl) _,rfl,by omega⟩,rfl⟩
 ·have hlt:i<a.length:=by(simp only[List.length_map,decide_eq_true_eq,decide_eq_false_iff_not,Int.toNat_natCast]at*<;>omega)
  exact⟨hlt,yes hlt (by rw[missK,h3,Bool.or_true])⟩
 ·have hlt:i<a.length:=by(simp only[List.length_map,decide_eq_true_eq,decide_eq_false_iff_not,Int.toNat_natCast]at*<;>omega)
  have hp:¬posK b (a.getD i default)=b.length:=by simp only[List.length_map,decide_eq_true_eq,decide_eq_false_iff_not]at h2;omega
  have hs:=fltK_succ a b i hlt
  rw[if_neg (by rw[missK,h3,decide_eq_false hp];decide),List.append_nil]at hs
  exact⟨hlt,⟨⟨congrArg (fun n=>AVal.imm (i64 n)) (i64_succ (by omega)),rfl,rfl,congrArg (AVal.own 50) (by rw[hs]),rfl,rfl,rfl,trivial⟩,⟨congrArg (fun l=>some (Entry.row 53 18 l)) (by rw[hs]),trivial⟩,rfl,rfl,rfl⟩⟩
 ·have:i=a.length:=by(simp only[List.length_map,decide_eq_true_eq,decide_eq_false_iff_not,Int.toNat_natCast]at*<;>omega)
  subst this
  refine⟨rfl,by omega,⟨⟨congrArg (AVal.own 50) (by rw[List.take_length]),trivial⟩,⟨congrArg (fun l=>some (Entry.row 53 18 l)) (by rw[List.take_length]),trivial⟩,rfl,rfl,rfl⟩⟩
def T77 (a b:List RKey):Tell:=
 Tell.mk (fun x x_1=>false) (fun x x_1=>Orc.no) (fun x=>Tree.done (Exit.exit 0) (E77 a b)) (fun x=>0) (fun x=>([16,15,14,9,3,2,1],[])) (fun x x_1 x_2=>Orc.no) fun x x_1=>Tree.done (Exit.exit 0) (E77 a b)
theorem t77 (a b:List RKey):levF prog Proofs.Try.f77 [slE 18 encK a,slE 18 encK b,fnV 41,fnV 78] (T77 a b)=
 Tree.loop 3 (LState.mk [(16,.imm (i64 0)),(15,.imm (i64 (↑(List.length (List.map encK a)):Int))),(14,.imm (slE 18 encK a)),(9,.imm nS),(3,.imm (fnV 78)),(2,.imm (fnV 41)),(1,.imm (slE 18 encK b))] [] 47 5 []) (.done (Exit.exit 0) (E77 a b)) (.need (eqs [(List.length (List.filter (missK b) a),List.length (List.map encK (List.filter (missK b) a)))]) (.done Exit.ret (lret (.sl true false 18 (List.map encK (List.filter (missK b) a)))))):=by kernel_rfl
theorem c77 (a b:List RKey)(ha:a.length≤400000)(hb:b.length≤400000):ASpec prog 77 [slE 18 encK a,slE 18 encK b,fnV 41,fnV 78] (slE 18 encK (a.filter (missK b))):=by
 refine ASpec.treeW Proofs.Try.f77 (T77 a b) (by kernel_rfl) (by kernel_rfl) (t77 a b) ?_
 refine⟨?_,need_sat ?_ ⟨_,rfl,?_⟩⟩
 ·refine .nam (τ:=I77 a b 0) (.temp 9 50 53 18 (show 5≤50 by decide) (.sub ?_)) (l77 a b ha hb _ ?_)
  all_goals exact⟨⟨rfl,congrArg (fun n=>AVal.imm (i64 n)) (by simp),rfl,rfl,rfl,rfl,rfl,trivial⟩,⟨rfl,trivial⟩,rfl,rfl,rfl⟩
 ·exact⟨by simp,trivial⟩
 ·exact ile_sl (.refl _)
end Gp
namespace Gp
structure TW {α:Type}(c:α→α→Int):Prop where
 asy:∀a b,c a b<0↔0<c b a
 tr:∀a b d,c a b≤0→c b d≤0→c a d≤0
theorem TW.zero {α:Type}{c:α→α→Int}(h:TW c){a b:α}(hz:c a b=0):c b a=0:=by
 have:=h.asy a b;have:=h.asy b a;omega
theorem TW.tot {α:Type}{c:α→α→Int}(h:TW c):Tot (fun a b=>decide (c a b<0)):=
 ⟨fun x y h1=>by simp only[decide_eq_true_eq,decide_eq_false_iff_not]at*;have:=(h.asy x y).1 h1;omega,fun x y z h1 h2=>by
  simp only[decide_eq_false_iff_not]at*
  have a1:c x y≤0:=by have:=h.asy y x;omega
  have a2:c y z≤0:=by have:=h.asy z y;omega
  have a3:=h.tr x y z a1 a2
  have:=(h.asy z x);omega⟩
theorem TW.map {α β:Type}{c:β→β→Int}(h:TW c)(f:α→β):TW (fun a b=>c (f a) (f b)):=⟨fun a b=>h.asy _ _,fun a b d=>h.tr _ _ _⟩
theorem TW.const {α:Type}:TW (fun _ _:α=>(0:Int)):=⟨fun _ _=>by simp,fun _ _ _ _ h=>h⟩
theorem tw_cmpI :TW cmpI:=⟨fun a b=>by unfold cmpI;(repeat' split)<;>omega,fun a b d=>by unfold cmpI;(repeat' split)<;>omega⟩
theorem tw_cmpT :TW cmpT:=tw_cmpI.map Attest.cust
end Gp
