/- Part 3 of the walk and of the plain law of DiffNames. -/
import Derived.Test.YtcccdohpepnfjaaW2
set_option maxRecDepth 100000
set_option maxHeartbeats 0
set_option linter.unusedVariables false
set_option linter.unusedSimpArgs false
open Go Go.Abs
noncomputable section
namespace Gp
theorem i64_add {a b:Nat}(h:a+b≤2^62):IntKind.i64.wrap ((a:Int)+(b:Int))=((a+b:Nat):Int):=by
 rw[IntWalk.i64_in _ (by omega)];omega
theorem i64_sub {a b:Nat}(h:b≤a)(h':a≤2^62):IntKind.i64.wrap ((a:Int)-(b:Int))=((a-b:Nat):Int):=by
 rw[IntWalk.i64_in _ (by omega)];omega
def I121 (l0:Abs.Loc)(l:List Origin)(a b n:Nat)(i:Nat):LState:={t:=[(10,.imm (i64 i)),(3,.imm (i64 n)),(2,.imm (i64 b)),(1,.imm (i64 a)),(0,.own 0 l.length)],s:=[(0,.brow l0 44 6 ((swR l a b i).map encO))],m:=38,n:=1}
def fin121 :Exit→Fin
 |.normal=>⟨[],[10,3,2,1,0],[0]⟩
 |_=>⟨[],[],[0]⟩
def T121r (l0:Abs.Loc)(l:List Origin)(a b n i:Nat):Tell:=
 Tell.mk (fun x x_1=>false) (fun x x_1=>Orc.no) (fun x=>Tree.fail 1000003 0) (fun x=>0) (fun x=>([],[])) (oget [(4,3,13,Orc.elem (encO (List.getD (swR l a b i) (Int.toNat (IntKind.wrap IntKind.i64 ((↑b:Int)+(↑i:Int)))) default))),(4,3,19,Orc.elem (encO (List.getD (swR l a b i) (Int.toNat (IntKind.wrap IntKind.i64 ((↑a:Int)+(↑i:Int)))) default))),(4,3,21,Orc.elem (.tup [])),(4,3,23,Orc.elem (.tup []))]) fun x x_1=>Tree.fail 1000003 0
theorem t121r (l0:Abs.Loc)(l:List Origin)(a b n i:Nat):levL prog Proofs.Try.f121 1 (I121 l0 l a b n i) (T121r l0 l a b n i) fin121=
 Tree.br (decide ((↑i:Int)<(↑n:Int))) (.need (0≤IntKind.wrap IntKind.i64 ((↑b:Int)+(↑i:Int))∧Int.toNat (IntKind.wrap IntKind.i64 ((↑b:Int)+(↑i:Int)))<List.length l) (.need ((List.map encO (swR l a b i))[Int.toNat (IntKind.wrap IntKind.i64 ((↑b:Int)+(↑i:Int)))]?=some (encO (List.getD (swR l a b i) (Int.toNat (IntKind.wrap IntKind.i64 ((↑b:Int)+(↑i:Int)))) default))) (.need (0≤IntKind.wrap IntKind.i64 ((↑a:Int)+(↑i:Int))∧Int.toNat (IntKind.wrap IntKind.i64 ((↑a:Int)+(↑i:Int)))<List.length l) (.need ((List.map encO (swR l a b i))[Int.toNat
 (IntKind.wrap IntKind.i64 ((↑a:Int)+(↑i:Int)))]?=some (encO (List.getD (swR l a b i) (Int.toNat (IntKind.wrap IntKind.i64 ((↑a:Int)+(↑i:Int)))) default))) (.need (0≤IntKind.wrap IntKind.i64 ((↑a:Int)+(↑i:Int))∧Int.toNat (IntKind.wrap IntKind.i64 ((↑a:Int)+(↑i:Int)))<List.length l) (.need (Int.toNat (IntKind.wrap IntKind.i64 ((↑a:Int)+(↑i:Int)))<List.length (List.map encO (swR l a b i))) (.need (0≤IntKind.wrap IntKind.i64 ((↑b:Int)+(↑i:Int))∧Int.toNat (IntKind.wrap IntKind.i64 ((↑b:Int)+(↑i:Int)))<List.length l) (.need (Int.toNat
 (IntKind.wrap IntKind.i64 ((↑b:Int)+(↑i:Int)))<List.length (List.set (List.map encO (swR l a b i)) (Int.toNat (IntKind.wrap IntKind.i64 ((↑a:Int)+(↑i:Int)))) (encO (List.getD (swR l a b i) (Int.toNat (IntKind.wrap IntKind.i64 ((↑b:Int)+(↑i:Int)))) default)))) (.done Exit.normal (LState.mk [(10,.imm (i64 (IntKind.wrap IntKind.i64 ((↑i:Int)+1)))),(3,.imm (i64 (↑n:Int))),(2,.imm (i64 (↑b:Int))),(1,.imm (i64 (↑a:Int))),(0,.own 0 (List.length l))] [(0,Entry.brow l0 44 6 (List.set (List.set (List.map encO (swR l a b i)) (Int.toNat (IntKind.wrap IntKind.i64 ((↑a:Int)+
 (↑i:Int)))) (encO (List.getD (swR l a b i) (Int.toNat (IntKind.wrap IntKind.i64 ((↑b:Int)+(↑i:Int)))) default))) (Int.toNat (IntKind.wrap IntKind.i64 ((↑b:Int)+(↑i:Int)))) (encO (List.getD (swR l a b i) (Int.toNat (IntKind.wrap IntKind.i64 ((↑a:Int)+(↑i:Int)))) default))))] 38 31 [])))))))))) (.done (Exit.exit 0) (LState.mk [] [(0,Entry.brow l0 44 6 (List.map encO (swR l a b i)))] 38 4 [])):=by kernel_rfl
def E121 (l0:Abs.Loc)(l:List Origin)(a b n:Nat):LState:={t:=[],s:=[(0,.brow l0 44 6 ((swR l a b n).map encO))],m:=38,n:=1}
theorem l121 (l0:Abs.Loc)(l:List Origin)(a b n:Nat)(ha:a+n≤l.length)(hb:b+n≤l.length)(hl:l.length≤2^62)(σ:LState)(h:LSub σ (I121 l0 l a b n 0)):LoopOk prog [] (bodyOf Proofs.Try.f121) 1 σ (.done (.exit 0) (E121 l0 l a b n)):=by
 refine LoopOk.count n 0 (I121 l0 l a b n) (E121 l0 l a b n) (T121r l0 l a b n) fin121 (by kernel_rfl) h fun i hi=>?_
 have e1:IntKind.i64.wrap ((a:Int)+(i:Int))=((a+i:Nat):Int):=i64_add (by omega)
 have e2:IntKind.i64.wrap ((b:Int)+(i:Int))=((b+i:Nat):Int):=i64_add (by omega)
 rw[t121r]
 simp only[e1,e2,Int.toNat_natCast]
 refine⟨fun h1=>?_,fun h1=>?_⟩
 ·have hlt:i<n:=by(simp only[List.length_map,decide_eq_true_eq,decide_eq_false_iff_not,Int.toNat_natCast]at*<;>omega)
  have g1:a+i<(swR l a b i).length:=by rw[swR_length];omega
  have g2:b+i<(swR l a b i).length:=by rw[swR_length];omega
  refine⟨⟨by omega,by omega⟩,fun _=>⟨getD_map _ _ _ _ g2,fun _=>⟨⟨by omega,by omega⟩,fun _=>⟨getD_map _ _ _ _ g1,fun _=>⟨⟨by omega,by omega⟩,fun _=>⟨by simpa using g1,fun _=>⟨⟨by omega,by omega⟩,fun _=>⟨by simpa using g2,fun _=>?_⟩⟩⟩⟩⟩⟩⟩⟩
  refine⟨hlt,⟨?_,rfl,rfl,rfl,rfl,trivial⟩,⟨?_,trivial⟩,rfl,rfl,rfl⟩
  ·exact congrArg (fun n=>AVal.imm (i64 n)) (i64_small hlt (by omega))
  ·refine congrArg (fun l=>some (Entry.brow l0 44 6 l)) ?_
   simp only[swR,swp,List.map_set]
 ·have:i=n:=by(simp only[List.length_map,decide_eq_true_eq,decide_eq_false_iff_not,Int.toNat_natCast]at*<;>omega)
  subst this
  exact⟨rfl,by omega,by simp[E121,LSub,tsub,ssub,tl,sl,linT,linS,ainB,ainBL]⟩
def T121 (l0:Abs.Loc)(l:List Origin)(a b n:Nat):Tell:=
 Tell.mk (fun x x_1=>false) (fun x x_1=>Orc.no) (fun x=>Tree.done (Exit.exit 0) (E121 l0 l a b n)) (fun x=>0) (fun x=>([10,3,2,1,0],[0])) (fun x x_1 x_2=>Orc.no) fun x x_1=>Tree.done (Exit.exit 0) (E121 l0 l a b n)
theorem t121 (l0:Abs.Loc)(l:List Origin)(a b n:Nat):levW prog Proofs.Try.f121 l0 44 6 (l.map encO) [i64 a,i64 b,i64 n,fnV 35] (T121 l0 l a b n)=
 Tree.loop 1 (LState.mk [(10,.imm (i64 0)),(3,.imm (i64 (↑n:Int))),(2,.imm (i64 (↑b:Int))),(1,.imm (i64 (↑a:Int))),(0,.own 0 (List.length (List.map encO l)))] [(0,Entry.brow l0 44 6 (List.map encO l))] 38 2 []) (.done (Exit.exit 0) (E121 l0 l a b n)) (.need (eqs []) (.done Exit.ret (lretW l0 44 6 (.tup []) (List.map encO (swR l a b n))))):=by kernel_rfl
theorem w121 (l:List Origin)(a b n:Nat)(ha:a+n≤l.length)(hb:b+n≤l.length)(hl:l.length≤2^62):WSpec prog 121 44 6 (l.map encO) [i64 a,i64 b,i64 n,fnV 35] (.tup []) ((swR l a b n).map encO):=by
 refine WSpec.tree Proofs.Try.f121 (fun l0=>T121 l0 l a b n) (by kernel_rfl) (by kernel_rfl) (by kernel_rfl) fun l0=>?_
 rw[t121]
 refine⟨?_,need_sat ?_ (lretW_ex ?_ ?_)⟩
 ·exact l121 l0 l a b n ha hb hl _ (by simp[I121,i64,swR,LSub,tsub,ssub,tl,sl,linT,linS,ainB,ainBL])
 ·exact trivial
 ·rfl
 ·exact .refl _
theorem w121' (l:List Origin)(a b n:Int)(h0:0≤a)(h1:0≤b)(h2:0≤n)(ha:a+n≤l.length)(hb:b+n≤l.length)(hl:l.length≤2^62):WSpec prog 121 44 6 (l.map encO) [i64 a,i64 b,i64 n,fnV 35] (.tup []) ((swR l a.toNat b.toNat n.toNat).map encO):=by
 obtain⟨a,rfl⟩:=Int.eq_ofNat_of_zero_le h0
 obtain⟨b,rfl⟩:=Int.eq_ofNat_of_zero_le h1
 obtain⟨n,rfl⟩:=Int.eq_ofNat_of_zero_le h2
 exact w121 l a b n (by omega) (by omega) hl
def I122 (l0:Abs.Loc)(l:List Attest)(a b n:Nat)(i:Nat):LState:={t:=[(10,.imm (i64 i)),(3,.imm (i64 n)),(2,.imm (i64 b)),(1,.imm (i64 a)),(0,.own 0 l.length)],s:=[(0,.brow l0 47 2 ((swR l a b i).map encT))],m:=38,n:=1}
def fin122 :Exit→Fin
 |.normal=>⟨[],[10,3,2,1,0],[0]⟩
 |_=>⟨[],[],[0]⟩
def T122r (l0:Abs.Loc)(l:List Attest)(a b n i:Nat):Tell:=
 Tell.mk (fun x x_1=>false) (fun x x_1=>Orc.no) (fun x=>Tree.fail 1000003 0) (fun x=>0) (fun x=>([],[])) (oget [(4,3,13,Orc.elem (encT (List.getD (swR l a b i) (Int.toNat (IntKind.wrap IntKind.i64 ((↑b:Int)+(↑i:Int)))) default))),(4,3,19,Orc.elem (encT (List.getD (swR l a b i) (Int.toNat (IntKind.wrap IntKind.i64 ((↑a:Int)+(↑i:Int)))) default))),(4,3,21,Orc.elem (.tup [])),(4,3,23,Orc.elem (.tup []))]) fun x x_1=>Tree.fail 1000003 0
theorem t122r (l0:Abs.Loc)(l:List Attest)(a b n i:Nat):levL prog Proofs.Try.f122 1 (I122 l0 l a b n i) (T122r l0 l a b n i) fin122=
 Tree.br (decide ((↑i:Int)<(↑n:Int))) (.need (0≤IntKind.wrap IntKind.i64 ((↑b:Int)+(↑i:Int))∧Int.toNat (IntKind.wrap IntKind.i64 ((↑b:Int)+(↑i:Int)))<List.length l) (.need ((List.map encT (swR l a b i))[Int.toNat (IntKind.wrap IntKind.i64 ((↑b:Int)+(↑i:Int)))]?=some (encT (List.getD (swR l a b i) (Int.toNat (IntKind.wrap IntKind.i64 ((↑b:Int)+(↑i:Int)))) default))) (.need (0≤IntKind.wrap IntKind.i64 ((↑a:Int)+(↑i:Int))∧Int.toNat (IntKind.wrap IntKind.i64 ((↑a:Int)+(↑i:Int)))<List.length l) (.need ((List.map encT (swR l a b i))[Int.toNat
 (IntKind.wrap IntKind.i64 ((↑a:Int)+(↑i:Int)))]?=some (encT (List.getD (swR l a b i) (Int.toNat (IntKind.wrap IntKind.i64 ((↑a:Int)+(↑i:Int)))) default))) (.need (0≤IntKind.wrap IntKind.i64 ((↑a:Int)+(↑i:Int))∧Int.toNat (IntKind.wrap IntKind.i64 ((↑a:Int)+(↑i:Int)))<List.length l) (.need (Int.toNat (IntKind.wrap IntKind.i64 ((↑a:Int)+(↑i:Int)))<List.length (List.map encT (swR l a b i))) (.need (0≤IntKind.wrap IntKind.i64 ((↑b:Int)+(↑i:Int))∧Int.toNat (IntKind.wrap IntKind.i64 ((↑b:Int)+(↑i:Int)))<List.length l) (.need (Int.toNat
 (IntKind.wrap IntKind.i64 ((↑b:Int)+(↑i:Int)))<List.length (List.set (List.map encT (swR l a b i)) (Int.toNat (IntKind.wrap IntKind.i64 ((↑a:Int)+(↑i:Int)))) (encT (List.getD (swR l a b i) (Int.toNat (IntKind.wrap IntKind.i64 ((↑b:Int)+(↑i:Int)))) default)))) (.done Exit.normal (LState.mk [(10,.imm (i64 (IntKind.wrap IntKind.i64 ((↑i:Int)+1)))),(3,.imm (i64 (↑n:Int))),(2,.imm (i64 (↑b:Int))),(1,.imm (i64 (↑a:Int))),(0,.own 0 (List.length l))] [(0,Entry.brow l0 47 2 (List.set (List.set (List.map encT (swR l a b i)) (Int.toNat (IntKind.wrap IntKind.i64 ((↑a:Int)+
 (↑i:Int)))) (encT (List.getD (swR l a b i) (Int.toNat (IntKind.wrap IntKind.i64 ((↑b:Int)+(↑i:Int)))) default))) (Int.toNat (IntKind.wrap IntKind.i64 ((↑b:Int)+(↑i:Int)))) (encT (List.getD (swR l a b i) (Int.toNat (IntKind.wrap IntKind.i64 ((↑a:Int)+(↑i:Int)))) default))))] 38 31 [])))))))))) (.done (Exit.exit 0) (LState.mk [] [(0,Entry.brow l0 47 2 (List.map encT (swR l a b i)))] 38 4 [])):=by kernel_rfl
def E122 (l0:Abs.Loc)(l:List Attest)(a b n:Nat):LState:={t:=[],s:=[(0,.brow l0 47 2 ((swR l a b n).map encT))],m:=38,n:=1}
theorem l122 (l0:Abs.Loc)(l:List Attest)(a b n:Nat)(ha:a+n≤l.length)(hb:b+n≤l.length)(hl:l.length≤2^62)(σ:LState)(h:LSub σ (I122 l0 l a b n 0)):LoopOk prog [] (bodyOf Proofs.Try.f122) 1 σ (.done (.exit 0) (E122 l0 l a b n)):=by
 refine LoopOk.count n 0 (I122 l0 l a b n) (E122 l0 l a b n) (T122r l0 l a b n) fin122 (by kernel_rfl) h fun i hi=>?_
 have e1:IntKind.i64.wrap ((a:Int)+(i:Int))=((a+i:Nat):Int):=i64_add (by omega)
 have e2:IntKind.i64.wrap ((b:Int)+(i:Int))=((b+i:Nat):Int):=i64_add (by omega)
 rw[t122r]
 simp only[e1,e2,Int.toNat_natCast]
 refine⟨fun h1=>?_,fun h1=>?_⟩
 ·have hlt:i<n:=by(simp only[List.length_map,decide_eq_true_eq,decide_eq_false_iff_not,Int.toNat_natCast]at*<;>omega)
  have g1:a+i<(swR l a b i).length:=by rw[swR_length];omega
  have g2:b+i<(swR l a b i).length:=by rw[swR_length];omega
  refine⟨⟨by omega,by omega⟩,fun _=>⟨getD_map _ _ _ _ g2,fun _=>⟨⟨by omega,by omega⟩,fun _=>⟨getD_map _ _ _ _ g1,fun _=>⟨⟨by omega,by omega⟩,fun _=>⟨by simpa using g1,fun _=>⟨⟨by omega,by omega⟩,fun _=>⟨by simpa using g2,fun _=>?_⟩⟩⟩⟩⟩⟩⟩⟩
  refine⟨hlt,⟨?_,rfl,rfl,rfl,rfl,trivial⟩,⟨?_,trivial⟩,rfl,rfl,rfl⟩
  ·exact congrArg (fun n=>AVal.imm (i64 n)) (i64_small hlt (by omega))
  ·refine congrArg (fun l=>some (Entry.brow l0 47 2 l)) ?_
   simp only[swR,swp,List.map_set]
 ·have:i=n:=by(simp only[List.length_map,decide_eq_true_eq,decide_eq_false_iff_not,Int.toNat_natCast]at*<;>omega)
  subst this
  exact⟨rfl,by omega,by simp[E122,LSub,tsub,ssub,tl,sl,linT,linS,ainB,ainBL]⟩
def T122 (l0:Abs.Loc)(l:List Attest)(a b n:Nat):Tell:=
 Tell.mk (fun x x_1=>false) (fun x x_1=>Orc.no) (fun x=>Tree.done (Exit.exit 0) (E122 l0 l a b n)) (fun x=>0) (fun x=>([10,3,2,1,0],[0])) (fun x x_1 x_2=>Orc.no) fun x x_1=>Tree.done (Exit.exit 0) (E122 l0 l a b n)
theorem t122 (l0:Abs.Loc)(l:List Attest)(a b n:Nat):levW prog Proofs.Try.f122 l0 47 2 (l.map encT) [i64 a,i64 b,i64 n,fnV 38] (T122 l0 l a b n)=
 Tree.loop 1 (LState.mk [(10,.imm (i64 0)),(3,.imm (i64 (↑n:Int))),(2,.imm (i64 (↑b:Int))),(1,.imm (i64 (↑a:Int))),(0,.own 0 (List.length (List.map encT l)))] [(0,Entry.brow l0 47 2 (List.map encT l))] 38 2 []) (.done (Exit.exit 0) (E122 l0 l a b n)) (.need (eqs []) (.done Exit.ret (lretW l0 47 2 (.tup []) (List.map encT (swR l a b n))))):=by kernel_rfl
theorem w122 (l:List Attest)(a b n:Nat)(ha:a+n≤l.length)(hb:b+n≤l.length)(hl:l.length≤2^62):WSpec prog 122 47 2 (l.map encT) [i64 a,i64 b,i64 n,fnV 38] (.tup []) ((swR l a b n).map encT):=by
 refine WSpec.tree Proofs.Try.f122 (fun l0=>T122 l0 l a b n) (by kernel_rfl) (by kernel_rfl) (by kernel_rfl) fun l0=>?_
 rw[t122]
 refine⟨?_,need_sat ?_ (lretW_ex ?_ ?_)⟩
 ·exact l122 l0 l a b n ha hb hl _ (by simp[I122,i64,swR,LSub,tsub,ssub,tl,sl,linT,linS,ainB,ainBL])
 ·exact trivial
 ·rfl
 ·exact .refl _
theorem w122' (l:List Attest)(a b n:Int)(h0:0≤a)(h1:0≤b)(h2:0≤n)(ha:a+n≤l.length)(hb:b+n≤l.length)(hl:l.length≤2^62):WSpec prog 122 47 2 (l.map encT) [i64 a,i64 b,i64 n,fnV 38] (.tup []) ((swR l a.toNat b.toNat n.toNat).map encT):=by
 obtain⟨a,rfl⟩:=Int.eq_ofNat_of_zero_le h0
 obtain⟨b,rfl⟩:=Int.eq_ofNat_of_zero_le h1
 obtain⟨n,rfl⟩:=Int.eq_ofNat_of_zero_le h2
 exact w122 l a b n (by omega) (by omega) hl
def I123 (l0:Abs.Loc)(l:List RKey)(a b n:Nat)(i:Nat):LState:={t:=[(10,.imm (i64 i)),(3,.imm (i64 n)),(2,.imm (i64 b)),(1,.imm (i64 a)),(0,.own 0 l.length)],s:=[(0,.brow l0 53 18 ((swR l a b i).map encK))],m:=38,n:=1}
def fin123 :Exit→Fin
 |.normal=>⟨[],[10,3,2,1,0],[0]⟩
 |_=>⟨[],[],[0]⟩
def T123r (l0:Abs.Loc)(l:List RKey)(a b n i:Nat):Tell:=
 Tell.mk (fun x x_1=>false) (fun x x_1=>Orc.no) (fun x=>Tree.fail 1000003 0) (fun x=>0) (fun x=>([],[])) (oget [(4,3,13,Orc.elem (encK (List.getD (swR l a b i) (Int.toNat (IntKind.wrap IntKind.i64 ((↑b:Int)+(↑i:Int)))) default))),(4,3,19,Orc.elem (encK (List.getD (swR l a b i) (Int.toNat (IntKind.wrap IntKind.i64 ((↑a:Int)+(↑i:Int)))) default))),(4,3,21,Orc.elem (.tup [])),(4,3,23,Orc.elem (.tup []))]) fun x x_1=>Tree.fail 1000003 0
theorem t123r (l0:Abs.Loc)(l:List RKey)(a b n i:Nat):levL prog Proofs.Try.f123 1 (I123 l0 l a b n i) (T123r l0 l a b n i) fin123=
 Tree.br (decide ((↑i:Int)<(↑n:Int))) (.need (0≤IntKind.wrap IntKind.i64 ((↑b:Int)+(↑i:Int))∧Int.toNat (IntKind.wrap IntKind.i64 ((↑b:Int)+(↑i:Int)))<List.length l) (.need ((List.map encK (swR l a b i))[Int.toNat (IntKind.wrap IntKind.i64 ((↑b:Int)+(↑i:Int)))]?=some (encK (List.getD (swR l a b i) (Int.toNat (IntKind.wrap IntKind.i64 ((↑b:Int)+(↑i:Int)))) default))) (.need (0≤IntKind.wrap IntKind.i64 ((↑a:Int)+(↑i:Int))∧Int.toNat (IntKind.wrap IntKind.i64 ((↑a:Int)+(↑i:Int)))<List.length l) (.need ((List.map encK (swR l a b i))[Int.toNat
 (IntKind.wrap IntKind.i64 ((↑a:Int)+(↑i:Int)))]?=some (encK (List.getD (swR l a b i) (Int.toNat (IntKind.wrap IntKind.i64 ((↑a:Int)+(↑i:Int)))) default))) (.need (0≤IntKind.wrap IntKind.i64 ((↑a:Int)+(↑i:Int))∧Int.toNat (IntKind.wrap IntKind.i64 ((↑a:Int)+(↑i:Int)))<List.length l) (.need (Int.toNat (IntKind.wrap IntKind.i64 ((↑a:Int)+(↑i:Int)))<List.length (List.map encK (swR l a b i))) (.need (0≤IntKind.wrap IntKind.i64 ((↑b:Int)+(↑i:Int))∧Int.toNat (IntKind.wrap IntKind.i64 ((↑b:Int)+(↑i:Int)))<List.length l) (.need (Int.toNat
 (IntKind.wrap IntKind.i64 ((↑b:Int)+(↑i:Int)))<List.length (List.set (List.map encK (swR l a b i)) (Int.toNat (IntKind.wrap IntKind.i64 ((↑a:Int)+(↑i:Int)))) (encK (List.getD (swR l a b i) (Int.toNat (IntKind.wrap IntKind.i64 ((↑b:Int)+(↑i:Int)))) default)))) (.done Exit.normal (LState.mk [(10,.imm (i64 (IntKind.wrap IntKind.i64 ((↑i:Int)+1)))),(3,.imm (i64 (↑n:Int))),(2,.imm (i64 (↑b:Int))),(1,.imm (i64 (↑a:Int))),(0,.own 0 (List.length l))] [(0,Entry.brow l0 53 18 (List.set (List.set (List.map encK (swR l a b i)) (Int.toNat (IntKind.wrap IntKind.i64 ((↑a:Int)+
 (↑i:Int)))) (encK (List.getD (swR l a b i) (Int.toNat (IntKind.wrap IntKind.i64 ((↑b:Int)+(↑i:Int)))) default))) (Int.toNat (IntKind.wrap IntKind.i64 ((↑b:Int)+(↑i:Int)))) (encK (List.getD (swR l a b i) (Int.toNat (IntKind.wrap IntKind.i64 ((↑a:Int)+(↑i:Int)))) default))))] 38 31 [])))))))))) (.done (Exit.exit 0) (LState.mk [] [(0,Entry.brow l0 53 18 (List.map encK (swR l a b i)))] 38 4 [])):=by kernel_rfl
def E123 (l0:Abs.Loc)(l:List RKey)(a b n:Nat):LState:={t:=[],s:=[(0,.brow l0 53 18 ((swR l a b n).map encK))],m:=38,n:=1}
theorem l123 (l0:Abs.Loc)(l:List RKey)(a b n:Nat)(ha:a+n≤l.length)(hb:b+n≤l.length)(hl:l.length≤2^62)(σ:LState)(h:LSub σ (I123 l0 l a b n 0)):LoopOk prog [] (bodyOf Proofs.Try.f123) 1 σ (.done (.exit 0) (E123 l0 l a b n)):=by
 refine LoopOk.count n 0 (I123 l0 l a b n) (E123 l0 l a b n) (T123r l0 l a b n) fin123 (by kernel_rfl) h fun i hi=>?_
 have e1:IntKind.i64.wrap ((a:Int)+(i:Int))=((a+i:Nat):Int):=i64_add (by omega)
 have e2:IntKind.i64.wrap ((b:Int)+(i:Int))=((b+i:Nat):Int):=i64_add (by omega)
 rw[t123r]
 simp only[e1,e2,Int.toNat_natCast]
 refine⟨fun h1=>?_,fun h1=>?_⟩
 ·have hlt:i<n:=by(simp only[List.length_map,decide_eq_true_eq,decide_eq_false_iff_not,Int.toNat_natCast]at*<;>omega)
  have g1:a+i<(swR l a b i).length:=by rw[swR_length];omega
  have g2:b+i<(swR l a b i).length:=by rw[swR_length];omega
  refine⟨⟨by omega,by omega⟩,fun _=>⟨getD_map _ _ _ _ g2,fun _=>⟨⟨by omega,by omega⟩,fun _=>⟨getD_map _ _ _ _ g1,fun _=>⟨⟨by omega,by omega⟩,fun _=>⟨by simpa using g1,fun _=>⟨⟨by omega,by omega⟩,fun _=>⟨by simpa using g2,fun _=>?_⟩⟩⟩⟩⟩⟩⟩⟩
  refine⟨hlt,⟨?_,rfl,rfl,rfl,rfl,trivial⟩,⟨?_,trivial⟩,rfl,rfl,rfl⟩
  ·exact congrArg (fun n=>AVal.imm (i64 n)) (i64_small hlt (by omega))
  ·refine congrArg (fun l=>some (Entry.brow l0 53 18 l)) ?_
   simp only[swR,swp,List.map_set]
 ·have:i=n:=by(simp only[List.length_map,decide_eq_true_eq,decide_eq_false_iff_not,Int.toNat_natCast]at*<;>omega)
  subst this
  exact⟨rfl,by omega,by simp[E123,LSub,tsub,ssub,tl,sl,linT,linS,ainB,ainBL]⟩
def T123 (l0:Abs.Loc)(l:List RKey)(a b n:Nat):Tell:=
 Tell.mk (fun x x_1=>false) (fun x x_1=>Orc.no) (fun x=>Tree.done (Exit.exit 0) (E123 l0 l a b n)) (fun x=>0) (fun x=>([10,3,2,1,0],[0])) (fun x x_1 x_2=>Orc.no) fun x x_1=>Tree.done (Exit.exit 0) (E123 l0 l a b n)
theorem t123 (l0:Abs.Loc)(l:List RKey)(a b n:Nat):levW prog Proofs.Try.f123 l0 53 18 (l.map encK) [i64 a,i64 b,i64 n,fnV 41] (T123 l0 l a b n)=
 Tree.loop 1 (LState.mk [(10,.imm (i64 0)),(3,.imm (i64 (↑n:Int))),(2,.imm (i64 (↑b:Int))),(1,.imm (i64 (↑a:Int))),(0,.own 0 (List.length (List.map encK l)))] [(0,Entry.brow l0 53 18 (List.map encK l))] 38 2 []) (.done (Exit.exit 0) (E123 l0 l a b n)) (.need (eqs []) (.done Exit.ret (lretW l0 53 18 (.tup []) (List.map encK (swR l a b n))))):=by kernel_rfl
theorem w123 (l:List RKey)(a b n:Nat)(ha:a+n≤l.length)(hb:b+n≤l.length)(hl:l.length≤2^62):WSpec prog 123 53 18 (l.map encK) [i64 a,i64 b,i64 n,fnV 41] (.tup []) ((swR l a b n).map encK):=by
 refine WSpec.tree Proofs.Try.f123 (fun l0=>T123 l0 l a b n) (by kernel_rfl) (by kernel_rfl) (by kernel_rfl) fun l0=>?_
 rw[t123]
 refine⟨?_,need_sat ?_ (lretW_ex ?_ ?_)⟩
 ·exact l123 l0 l a b n ha hb hl _ (by simp[I123,i64,swR,LSub,tsub,ssub,tl,sl,linT,linS,ainB,ainBL])
 ·exact trivial
 ·rfl
 ·exact .refl _
theorem w123' (l:List RKey)(a b n:Int)(h0:0≤a)(h1:0≤b)(h2:0≤n)(ha:a+n≤l.length)(hb:b+n≤l.length)(hl:l.length≤2^62):WSpec prog 123 53 18 (l.map encK) [i64 a,i64 b,i64 n,fnV 41] (.tup []) ((swR l a.toNat b.toNat n.toNat).map encK):=by
 obtain⟨a,rfl⟩:=Int.eq_ofNat_of_zero_le h0
 obtain⟨b,rfl⟩:=Int.eq_ofNat_of_zero_le h1
 obtain⟨n,rfl⟩:=Int.eq_ofNat_of_zero_le h2
 exact w123 l a b n (by omega) (by omega) hl
end Gp
namespace Gp
def I118 (l0:Abs.Loc)(m i j:Nat)(x:List Origin):LState:={t:=[(11,.imm (i64 j)),(10,.imm (i64 i)),(4,.imm (fnV 35)),(2,.imm (i64 m)),(0,.own 0 x.length)],s:=[(0,.brow l0 44 6 (x.map encO))],m:=58,n:=1}
def E118 (l0:Abs.Loc)(m:Nat)(r:Nat×List Origin):LState:={t:=[(10,.imm (i64 r.1)),(4,.imm (fnV 35)),(2,.imm (i64 m)),(0,.own 0 r.2.length)],s:=[(0,.brow l0 44 6 (r.2.map encO))],m:=58,n:=1}
def fin118 :Exit→Fin
 |.normal=>⟨[],[11,10,4,2,0],[0]⟩
 |_=>⟨[],[10,4,2,0],[0]⟩
def T118r (l0:Abs.Loc)(m i j:Nat)(x:List Origin):Tell:=
 Tell.mk (fun x x_1=>false) (fun x x_1=>Orc.no) (fun x=>Tree.fail 1000003 0) (fun x=>0) (fun x=>([],[])) (oget [(7,4,7,Orc.callw [i64 (IntKind.wrap IntKind.i64 ((↑m:Int)-(↑i:Int))),i64 (↑m:Int),i64 (↑j:Int),fnV 35] (.tup []) (List.map encO (swR x (Int.toNat (IntKind.wrap IntKind.i64 ((↑m:Int)-(↑i:Int)))) (Int.toNat (↑m:Int)) (Int.toNat (↑j:Int))))),(7,6,11,Orc.callw [i64 (IntKind.wrap IntKind.i64 ((↑m:Int)-(↑i:Int))),i64 (IntKind.wrap IntKind.i64 (IntKind.wrap IntKind.i64 ((↑m:Int)+(↑j:Int))-(↑i:Int))),i64 (↑i:Int),fnV 35] (.tup []) (List.map encO
 (swR x (Int.toNat (IntKind.wrap IntKind.i64 ((↑m:Int)-(↑i:Int)))) (Int.toNat (IntKind.wrap IntKind.i64 (IntKind.wrap IntKind.i64 ((↑m:Int)+(↑j:Int))-(↑i:Int)))) (Int.toNat (↑i:Int)))))]) fun x x_1=>Tree.fail 1000003 0
theorem t118r (l0:Abs.Loc)(m i j:Nat)(x:List Origin):levL prog Proofs.Try.f118 2 (I118 l0 m i j x) (T118r l0 m i j x) fin118=
 Tree.br (!decide ((↑i:Int)=(↑j:Int))) (.br (decide ((↑j:Int)<(↑i:Int))) (.need (List.length (List.map encO x)=List.length x∧ILeL [i64 (IntKind.wrap IntKind.i64 ((↑m:Int)-(↑i:Int))),i64 (↑m:Int),i64 (↑j:Int),fnV 35] [i64 (IntKind.wrap IntKind.i64 ((↑m:Int)-(↑i:Int))),i64 (↑m:Int),i64 (↑j:Int),fnV 35]∧WSpec prog 121 44 6 (List.map encO x) [i64 (IntKind.wrap IntKind.i64 ((↑m:Int)-(↑i:Int))),i64 (↑m:Int),i64 (↑j:Int),fnV 35] (.tup []) (List.map encO (swR x (Int.toNat (IntKind.wrap IntKind.i64 ((↑m:Int)-(↑i:Int)))) m j))) (.done Exit.normal
 (LState.mk [(11,.imm (i64 (↑j:Int))),(10,.imm (i64 (IntKind.wrap IntKind.i64 ((↑i:Int)-(↑j:Int))))),(4,.imm (fnV 35)),(2,.imm (i64 (↑m:Int))),(0,.own 0 (List.length x))] [(0,Entry.brow l0 44 6 (List.map encO (swR x (Int.toNat (IntKind.wrap IntKind.i64 ((↑m:Int)-(↑i:Int)))) m j)))] 58 19 []))) (.need (List.length (List.map encO x)=List.length x∧ILeL [i64 (IntKind.wrap IntKind.i64 ((↑m:Int)-(↑i:Int))),i64 (IntKind.wrap IntKind.i64 (IntKind.wrap IntKind.i64 ((↑m:Int)+(↑j:Int))-(↑i:Int))),i64 (↑i:Int),fnV 35] [i64 (IntKind.wrap IntKind.i64 ((↑m:Int)-(↑i:
 Int))),i64 (IntKind.wrap IntKind.i64 (IntKind.wrap IntKind.i64 ((↑m:Int)+(↑j:Int))-(↑i:Int))),i64 (↑i:Int),fnV 35]∧WSpec prog 121 44 6 (List.map encO x) [i64 (IntKind.wrap IntKind.i64 ((↑m:Int)-(↑i:Int))),i64 (IntKind.wrap IntKind.i64 (IntKind.wrap IntKind.i64 ((↑m:Int)+(↑j:Int))-(↑i:Int))),i64 (↑i:Int),fnV 35] (.tup []) (List.map encO (swR x (Int.toNat (IntKind.wrap IntKind.i64 ((↑m:Int)-(↑i:Int)))) (Int.toNat (IntKind.wrap IntKind.i64 (IntKind.wrap IntKind.i64 ((↑m:Int)+(↑j:Int))-(↑i:Int)))) i))) (.done Exit.normal (LState.mk [(11,.imm (i64
 (IntKind.wrap IntKind.i64 ((↑j:Int)-(↑i:Int))))),(10,.imm (i64 (↑i:Int))),(4,.imm (fnV 35)),(2,.imm (i64 (↑m:Int))),(0,.own 0 (List.length x))] [(0,Entry.brow l0 44 6 (List.map encO (swR x (Int.toNat (IntKind.wrap IntKind.i64 ((↑m:Int)-(↑i:Int)))) (Int.toNat (IntKind.wrap IntKind.i64 (IntKind.wrap IntKind.i64 ((↑m:Int)+(↑j:Int))-(↑i:Int)))) i)))] 58 23 [])))) (.done (Exit.exit 0) (LState.mk [(10,.imm (i64 (↑i:Int))),(4,.imm (fnV 35)),(2,.imm (i64 (↑m:Int))),(0,.own 0 (List.length x))] [(0,Entry.brow l0 44 6 (List.map encO x))] 58 4 [])):=by kernel_rfl
def T118 (l0:Abs.Loc)(l:List Origin)(a m b:Nat)(r:Nat×List Origin):Tell:=
 Tell.mk (fun x x_1=>false) (fun x x_1=>Orc.no) (fun x=>Tree.done (Exit.exit 0) (E118 l0 m r)) (fun x=>0) (fun x=>([11,10,4,2,0],[0])) (oget [(1,8,7,Orc.callw [i64 (IntKind.wrap IntKind.i64 ((↑m:Int)-(↑r.fst:Int))),i64 (↑m:Int),i64 (↑r.fst:Int),fnV 35] (.tup []) (List.map encO (swR r.snd (Int.toNat (IntKind.wrap IntKind.i64 ((↑m:Int)-(↑r.fst:Int)))) (Int.toNat (↑m:Int)) (Int.toNat (↑r.fst:Int)))))]) fun x x_1=>Tree.done (Exit.exit 0) (E118 l0 m r)
theorem t118 (l0:Abs.Loc)(l:List Origin)(a m b:Nat)(r:Nat×List Origin):levW prog Proofs.Try.f118 l0 44 6 (l.map encO) [i64 a,i64 m,i64 b,fnV 35] (T118 l0 l a m b r)=
 Tree.loop 2 (LState.mk [(11,.imm (i64 (IntKind.wrap IntKind.i64 ((↑b:Int)-(↑m:Int))))),(10,.imm (i64 (IntKind.wrap IntKind.i64 ((↑m:Int)-(↑a:Int))))),(4,.imm (fnV 35)),(2,.imm (i64 (↑m:Int))),(0,.own 0 (List.length (List.map encO l)))] [(0,Entry.brow l0 44 6 (List.map encO l))] 58 9 []) (.done (Exit.exit 0) (E118 l0 m r)) (.need (List.length (List.map encO r.snd)=List.length r.snd∧ILeL [i64 (IntKind.wrap IntKind.i64 ((↑m:Int)-(↑r.fst:Int))),i64 (↑m:Int),i64 (↑r.fst:Int),fnV 35] [i64 (IntKind.wrap IntKind.i64 ((↑m:Int)-(↑r.fst:Int))),i64 (↑m:Int),i64 (↑r.fst:
 Int),fnV 35]∧WSpec prog 121 44 6 (List.map encO r.snd) [i64 (IntKind.wrap IntKind.i64 ((↑m:Int)-(↑r.fst:Int))),i64 (↑m:Int),i64 (↑r.fst:Int),fnV 35] (.tup []) (List.map encO (swR r.snd (Int.toNat (IntKind.wrap IntKind.i64 ((↑m:Int)-(↑r.fst:Int)))) m r.fst))) (.need (eqs []) (.done Exit.ret (lretW l0 44 6 (.tup []) (List.map encO (swR r.snd (Int.toNat (IntKind.wrap IntKind.i64 ((↑m:Int)-(↑r.fst:Int)))) m r.fst)))))):=by kernel_rfl
theorem l118 (l0:Abs.Loc)(m i j f:Nat)(l:List Origin)(hi:0<i)(hj:0<j)(hf:i+j≤f)(hm:i≤m)(hb:m+j≤l.length)(hl:l.length≤2^61)(σ:LState)(h:LSub σ (I118 l0 m i j l)):LoopOk prog [] (bodyOf Proofs.Try.f118) 2 σ (.done (.exit 0) (E118 l0 m (rotE m f i j l))):=by
 refine LoopOk.of_levL (γ:={g:Nat×Nat×Nat×List Origin//0<g.1∧0<g.2.1∧g.1+g.2.1≤g.2.2.1∧g.1≤m∧m+g.2.1≤g.2.2.2.length∧g.2.2.2.length=l.length∧rotE m g.2.2.1 g.1 g.2.1 g.2.2.2=rotE m f i j l})
  (fun g=>T118r l0 m g.1.1 g.1.2.1 g.1.2.2.2) fin118 (fun g=>I118 l0 m g.1.1 g.1.2.1 g.1.2.2.2) (fun g=>g.1.1+g.1.2.1) ⟨(i,j,f,l),hi,hj,hf,hm,hb,rfl,rfl⟩ (by kernel_rfl) h ?_
 rintro⟨⟨i,j,f',x⟩,q1,q2,q3,q4,q5,q6,q7⟩
 simp only at q1 q2 q3 q4 q5 q6 q7
 have e1:IntKind.i64.wrap ((m:Int)-(i:Int))=((m-i:Nat):Int):=i64_sub (by omega) (by omega)
 have e2:IntKind.i64.wrap (IntKind.i64.wrap ((m:Int)+(j:Int))-(i:Int))=((m+j-i:Nat):Int):=by rw[i64_add (by omega),i64_sub (by omega) (by omega)]
 have e3:j≤i→IntKind.i64.wrap ((i:Int)-(j:Int))=((i-j:Nat):Int):=fun h=>i64_sub h (by omega)
 have e4:i≤j→IntKind.i64.wrap ((j:Int)-(i:Int))=((j-i:Nat):Int):=fun h=>i64_sub h (by omega)
 cases f' with
 |zero=>omega
 |succ f'=>
  rw[rotE]at q7
  simp only[]
  rw[t118r]
  refine⟨fun h1=>⟨fun h2=>need_sat ⟨(by simp),ILeL.refl _,w121' _ _ _ _ ?_ ?_ ?_ ?_ ?_ ?_⟩ ?_,fun h2=>need_sat ⟨(by simp),ILeL.refl _,w121' _ _ _ _ ?_ ?_ ?_ ?_ ?_ ?_⟩ ?_⟩,fun h1=>?_⟩
  ·rw[e1];omega
  ·omega
  ·omega
  ·rw[e1];omega
  ·omega
  ·omega
  ·have g1:¬i=j:=by simp at h1;omega
   have g2:j<i:=by simp at h2;omega
   rw[if_neg g1,if_pos g2]at q7
   refine⟨⟨(i-j,j,f',swR x (m-i) m j),by simp only;omega,q2,by simp only;omega,by simp only;omega,by simp only[swR_length];omega,by simp only[swR_length];omega,q7⟩,by simp only;omega,?_⟩
   simp only[e1,e3 (by omega),Int.toNat_natCast]
   exact⟨⟨rfl,rfl,rfl,rfl,congrArg (AVal.own 0) (swR_length _ _ _ _).symm,trivial⟩,⟨rfl,trivial⟩,rfl,rfl,rfl⟩
  ·rw[e1];omega
  ·rw[e2];omega
  ·omega
  ·rw[e1];omega
  ·have g1:¬i=j:=by simp at h1;omega
   have g2:¬j<i:=by simp at h2;omega
   rw[e2];omega
  ·omega
  ·have g1:¬i=j:=by simp at h1;omega
   have g2:¬j<i:=by simp at h2;omega
   rw[if_neg g1,if_neg g2]at q7
   refine⟨⟨(i,j-i,f',swR x (m-i) (m+j-i) i),q1,by simp only;omega,by simp only;omega,q4,by simp only[swR_length];omega,by simp only[swR_length];omega,q7⟩,by simp only;omega,?_⟩
   simp only[e1,e2,e4 (by omega),Int.toNat_natCast]
   exact⟨⟨rfl,rfl,rfl,rfl,congrArg (AVal.own 0) (swR_length _ _ _ _).symm,trivial⟩,⟨rfl,trivial⟩,rfl,rfl,rfl⟩
  ·have g1:i=j:=by simp at h1;omega
   rw[if_pos g1]at q7
   rw[←q7]
   exact⟨rfl,⟨rfl,rfl,rfl,rfl,trivial⟩,⟨rfl,trivial⟩,rfl,rfl,rfl⟩
theorem w118 (l:List Origin)(a m b:Nat)(ha:a<m)(hb:m<b)(hbl:b≤l.length)(hl:l.length≤2^61):WSpec prog 118 44 6 (l.map encO) [i64 a,i64 m,i64 b,fnV 35] (.tup []) ((rot m (b-a) (m-a) (b-m) l).map encO):=by
 have hr:=rotE_spec m (b-a) (m-a) (b-m) l (by omega) (by omega) (by omega) (by omega) (by omega)
 refine WSpec.tree Proofs.Try.f118 (fun l0=>T118 l0 l a m b (rotE m (b-a) (m-a) (b-m) l)) (by kernel_rfl) (by kernel_rfl) (by kernel_rfl) fun l0=>?_
 have hh:=l118 l0 m (m-a) (b-m) (b-a) l (by omega) (by omega) (by omega) (by omega) (by omega) hl
 generalize rotE m (b-a) (m-a) (b-m) l=r at*
 obtain⟨r1,r2,r3,r4,r5⟩:=hr
 have e1:IntKind.i64.wrap ((m:Int)-(r.1:Int))=((m-r.1:Nat):Int):=i64_sub (by omega) (by omega)
 have e2:IntKind.i64.wrap ((m:Int)-(a:Int))=((m-a:Nat):Int):=i64_sub (by omega) (by omega)
 have e3:IntKind.i64.wrap ((b:Int)-(m:Int))=((b-m:Nat):Int):=i64_sub (by omega) (by omega)
 rw[t118]
 refine⟨?_,need_sat ⟨(by simp),ILeL.refl _,w121' _ _ _ _ ?_ ?_ ?_ ?_ ?_ ?_⟩ (need_sat ?_ (lretW_ex ?_ ?_))⟩
 ·refine hh _ ?_
  simp only[e2,e3]
  exact⟨⟨rfl,rfl,rfl,rfl,by simp[tl],trivial⟩,⟨rfl,trivial⟩,rfl,rfl,rfl⟩
 ·rw[e1];omega
 ·omega
 ·omega
 ·rw[e1];omega
 ·omega
 ·omega
 ·exact trivial
 ·rw[e1,Int.toNat_natCast,r5]
 ·exact .refl _
def I119 (l0:Abs.Loc)(m i j:Nat)(x:List Attest):LState:={t:=[(11,.imm (i64 j)),(10,.imm (i64 i)),(4,.imm (fnV 38)),(2,.imm (i64 m)),(0,.own 0 x.length)],s:=[(0,.brow l0 47 2 (x.map encT))],m:=58,n:=1}
def E119 (l0:Abs.Loc)(m:Nat)(r:Nat×List Attest):LState:={t:=[(10,.imm (i64 r.1)),(4,.imm (fnV 38)),(2,.imm (i64 m)),(0,.own 0 r.2.length)],s:=[(0,.brow l0 47 2 (r.2.map encT))],m:=58,n:=1}
def fin119 :Exit→Fin
 |.normal=>⟨[],[11,10,4,2,0],[0]⟩
 |_=>⟨[],[10,4,2,0],[0]⟩
def T119r (l0:Abs.Loc)(m i j:Nat)(x:List Attest):Tell:=
 Tell.mk (fun x x_1=>false) (fun x x_1=>Orc.no) (fun x=>Tree.fail 1000003 0) (fun x=>0) (fun x=>([],[])) (oget [(7,4,7,Orc.callw [i64 (IntKind.wrap IntKind.i64 ((↑m:Int)-(↑i:Int))),i64 (↑m:Int),i64 (↑j:Int),fnV 38] (.tup []) (List.map encT (swR x (Int.toNat (IntKind.wrap IntKind.i64 ((↑m:Int)-(↑i:Int)))) (Int.toNat (↑m:Int)) (Int.toNat (↑j:Int))))),(7,6,11,Orc.callw [i64 (IntKind.wrap IntKind.i64 ((↑m:Int)-(↑i:Int))),i64 (IntKind.wrap IntKind.i64 (IntKind.wrap IntKind.i64 ((↑m:Int)+(↑j:Int))-(↑i:Int))),i64 (↑i:Int),fnV 38] (.tup []) (List.map encT
 (swR x (Int.toNat (IntKind.wrap IntKind.i64 ((↑m:Int)-(↑i:Int)))) (Int.toNat (IntKind.wrap IntKind.i64 (IntKind.wrap IntKind.i64 ((↑m:Int)+(↑j:Int))-(↑i:Int)))) (Int.toNat (↑i:Int)))))]) fun x x_1=>Tree.fail 1000003 0
theorem t119r (l0:Abs.Loc)(m i j:Nat)(x:List Attest):levL prog Proofs.Try.f119 2 (I119 l0 m i j x) (T119r l0 m i j x) fin119=
 Tree.br (!decide ((↑i:Int)=(↑j:Int))) (.br (decide ((↑j:Int)<(↑i:Int))) (.need (List.length (List.map encT x)=List.length x∧ILeL [i64 (IntKind.wrap IntKind.i64 ((↑m:Int)-(↑i:Int))),i64 (↑m:Int),i64 (↑j:Int),fnV 38] [i64 (IntKind.wrap IntKind.i64 ((↑m:Int)-(↑i:Int))),i64 (↑m:Int),i64 (↑j:Int),fnV 38]∧WSpec prog 122 47 2 (List.map encT x) [i64 (IntKind.wrap IntKind.i64 ((↑m:Int)-(↑i:Int))),i64 (↑m:Int),i64 (↑j:Int),fnV 38] (.tup []) (List.map encT (swR x (Int.toNat (IntKind.wrap IntKind.i64 ((↑m:Int)-(↑i:Int)))) m j))) (.done Exit.normal
 (LState.mk [(11,.imm (i64 (↑j:Int))),(10,.imm (i64 (IntKind.wrap IntKind.i64 ((↑i:Int)-(↑j:Int))))),(4,.imm (fnV 38)),(2,.imm (i64 (↑m:Int))),(0,.own 0 (List.length x))] [(0,Entry.brow l0 47 2 (List.map encT (swR x (Int.toNat (IntKind.wrap IntKind.i64 ((↑m:Int)-(↑i:Int)))) m j)))] 58 19 []))) (.need (List.length (List.map encT x)=List.length x∧ILeL [i64 (IntKind.wrap IntKind.i64 ((↑m:Int)-(↑i:Int))),i64 (IntKind.wrap IntKind.i64 (IntKind.wrap IntKind.i64 ((↑m:Int)+(↑j:Int))-(↑i:Int))),i64 (↑i:Int),fnV 38] [i64 (IntKind.wrap IntKind.i64 ((↑m:Int)-(↑i:
 Int))),i64 (IntKind.wrap IntKind.i64 (IntKind.wrap IntKind.i64 ((↑m:Int)+(↑j:Int))-(↑i:Int))),i64 (↑i:Int),fnV 38]∧WSpec prog 122 47 2 (List.map encT x) [i64 (IntKind.wrap IntKind.i64 ((↑m:Int)-(↑i:Int))),i64 (IntKind.wrap IntKind.i64 (IntKind.wrap IntKind.i64 ((↑m:Int)+(↑j:Int))-(↑i:Int))),i64 (↑i:Int),fnV 38] (.tup []) (List.map encT (swR x (Int.toNat (IntKind.wrap IntKind.i64 ((↑m:Int)-(↑i:Int)))) (Int.toNat (IntKind.wrap IntKind.i64 (IntKind.wrap IntKind.i64 ((↑m:Int)+(↑j:Int))-(↑i:Int)))) i))) (.done Exit.normal (LState.mk [(11,.imm (i64
 (IntKind.wrap IntKind.i64 ((↑j:Int)-(↑i:Int))))),(10,.imm (i64 (↑i:Int))),(4,.imm (fnV 38)),(2,.imm (i64 (↑m:Int))),(0,.own 0 (List.length x))] [(0,Entry.brow l0 47 2 (List.map encT (swR x (Int.toNat (IntKind.wrap IntKind.i64 ((↑m:Int)-(↑i:Int)))) (Int.toNat (IntKind.wrap IntKind.i64 (IntKind.wrap IntKind.i64 ((↑m:Int)+(↑j:Int))-(↑i:Int)))) i)))] 58 23 [])))) (.done (Exit.exit 0) (LState.mk [(10,.imm (i64 (↑i:Int))),(4,.imm (fnV 38)),(2,.imm (i64 (↑m:Int))),(0,.own 0 (List.length x))] [(0,Entry.brow l0 47 2 (List.map encT x))] 58 4 [])):=by kernel_rfl
def T119 (l0:Abs.Loc)(l:List Attest)(a m b:Nat)(r:Nat×List Attest):Tell:=
 Tell.mk (fun x x_1=>false) (fun x x_1=>Orc.no) (fun x=>Tree.done (Exit.exit 0) (E119 l0 m r)) (fun x=>0) (fun x=>([11,10,4,2,0],[0])) (oget [(1,8,7,Orc.callw [i64 (IntKind.wrap IntKind.i64 ((↑m:Int)-(↑r.fst:Int))),i64 (↑m:Int),i64 (↑r.fst:Int),fnV 38] (.tup []) (List.map encT (swR r.snd (Int.toNat (IntKind.wrap IntKind.i64 ((↑m:Int)-(↑r.fst:Int)))) (Int.toNat (↑m:Int)) (Int.toNat (↑r.fst:Int)))))]) fun x x_1=>Tree.done (Exit.exit 0) (E119 l0 m r)
theorem t119 (l0:Abs.Loc)(l:List Attest)(a m b:Nat)(r:Nat×List Attest):levW prog Proofs.Try.f119 l0 47 2 (l.map encT) [i64 a,i64 m,i64 b,fnV 38] (T119 l0 l a m b r)=
 Tree.loop 2 (LState.mk [(11,.imm (i64 (IntKind.wrap IntKind.i64 ((↑b:Int)-(↑m:Int))))),(10,.imm (i64 (IntKind.wrap IntKind.i64 ((↑m:Int)-(↑a:Int))))),(4,.imm (fnV 38)),(2,.imm (i64 (↑m:Int))),(0,.own 0 (List.length (List.map encT l)))] [(0,Entry.brow l0 47 2 (List.map encT l))] 58 9 []) (.done (Exit.exit 0) (E119 l0 m r)) (.need (List.length (List.map encT r.snd)=List.length r.snd∧ILeL [i64 (IntKind.wrap IntKind.i64 ((↑m:Int)-(↑r.fst:Int))),i64 (↑m:Int),i64 (↑r.fst:Int),fnV 38] [i64 (IntKind.wrap IntKind.i64 ((↑m:Int)-(↑r.fst:Int))),i64 (↑m:Int),i64 (↑r.fst:
 Int),fnV 38]∧WSpec prog 122 47 2 (List.map encT r.snd) [i64 (IntKind.wrap IntKind.i64 ((↑m:Int)-(↑r.fst:Int))),i64 (↑m:Int),i64 (↑r.fst:Int),fnV 38] (.tup []) (List.map encT (swR r.snd (Int.toNat (IntKind.wrap IntKind.i64 ((↑m:Int)-(↑r.fst:Int)))) m r.fst))) (.need (eqs []) (.done Exit.ret (lretW l0 47 2 (.tup []) (List.map encT (swR r.snd (Int.toNat (IntKind.wrap IntKind.i64 ((↑m:Int)-(↑r.fst:Int)))) m r.fst)))))):=by kernel_rfl
theorem l119 (l0:Abs.Loc)(m i j f:Nat)(l:List Attest)(hi:0<i)(hj:0<j)(hf:i+j≤f)(hm:i≤m)(hb:m+j≤l.length)(hl:l.length≤2^61)(σ:LState)(h:LSub σ (I119 l0 m i j l)):LoopOk prog [] (bodyOf Proofs.Try.f119) 2 σ (.done (.exit 0) (E119 l0 m (rotE m f i j l))):=by
 refine LoopOk.of_levL (γ:={g:Nat×Nat×Nat×List Attest//0<g.1∧0<g.2.1∧g.1+g.2.1≤g.2.2.1∧g.1≤m∧m+g.2.1≤g.2.2.2.length∧g.2.2.2.length=l.length∧rotE m g.2.2.1 g.1 g.2.1 g.2.2.2=rotE m f i j l})
  (fun g=>T119r l0 m g.1.1 g.1.2.1 g.1.2.2.2) fin119 (fun g=>I119 l0 m g.1.1 g.1.2.1 g.1.2.2.2) (fun g=>g.1.1+g.1.2.1) ⟨(i,j,f,l),hi,hj,hf,hm,hb,rfl,rfl⟩ (by kernel_rfl) h ?_
 rintro⟨⟨i,j,f',x⟩,q1,q2,q3,q4,q5,q6,q7⟩
 simp only at q1 q2 q3 q4 q5 q6 q7
 have e1:IntKind.i64.wrap ((m:Int)-(i:Int))=((m-i:Nat):Int):=i64_sub (by omega) (by omega)
 have e2:IntKind.i64.wrap (IntKind.i64.wrap ((m:Int)+(j:Int))-(i:Int))=((m+j-i:Nat):Int):=by rw[i64_add (by omega),i64_sub (by omega) (by omega)]
 have e3:j≤i→IntKind.i64.wrap ((i:Int)-(j:Int))=((i-j:Nat):Int):=fun h=>i64_sub h (by omega)
 have e4:i≤j→IntKind.i64.wrap ((j:Int)-(i:Int))=((j-i:Nat):Int):=fun h=>i64_sub h (by omega)
 cases f' with
 |zero=>omega
 |succ f'=>
  rw[rotE]at q7
  simp only[]
  rw[t119r]
  refine⟨fun h1=>⟨fun h2=>need_sat ⟨(by simp),ILeL.refl _,w122' _ _ _ _ ?_ ?_ ?_ ?_ ?_ ?_⟩ ?_,fun h2=>need_sat ⟨(by simp),ILeL.refl _,w122' _ _ _ _ ?_ ?_ ?_ ?_ ?_ ?_⟩ ?_⟩,fun h1=>?_⟩
  ·rw[e1];omega
  ·omega
  ·omega
  ·rw[e1];omega
  ·omega
  ·omega
  ·have g1:¬i=j:=by simp at h1;omega
   have g2:j<i:=by simp at h2;omega
   rw[if_neg g1,if_pos g2]at q7
   refine⟨⟨(i-j,j,f',swR x (m-i) m j),by simp only;omega,q2,by simp only;omega,by simp only;omega,by simp only[swR_length];omega,by simp only[swR_length];omega,q7⟩,by simp only;omega,?_⟩
   simp only[e1,e3 (by omega),Int.toNat_natCast]
   exact⟨⟨rfl,rfl,rfl,rfl,congrArg (AVal.own 0) (swR_length _ _ _ _).symm,trivial⟩,⟨rfl,trivial⟩,rfl,rfl,rfl⟩
  ·rw[e1];omega
  ·rw[e2];omega
  ·omega
  ·rw[e1];omega
  ·have g1:¬i=j:=by simp at h1;omega
   have g2:¬j<i:=by simp at h2;omega
   rw[e2];omega
  ·omega
  ·have g1:¬i=j:=by simp at h1;omega
   have g2:¬j<i:=by simp at h2;omega
   rw[if_neg g1,if_neg g2]at q7
   refine⟨⟨(i,j-i,f',swR x (m-i) (m+j-i) i),q1,by simp only;omega,by simp only;omega,q4,by simp only[swR_length];omega,by simp only[swR_length];omega,q7⟩,by simp only;omega,?_⟩
   simp only[e1,e2,e4 (by omega),Int.toNat_natCast]
   exact⟨⟨rfl,rfl,rfl,rfl,congrArg (AVal.own 0) (swR_length _ _ _ _).symm,trivial⟩,⟨rfl,trivial⟩,rfl,rfl,rfl⟩
  ·have g1:i=j:=by simp at h1;omega
   rw[if_pos g1]at q7
   rw[←q7]
   exact⟨rfl,⟨rfl,rfl,rfl,rfl,trivial⟩,⟨rfl,trivial⟩,rfl,rfl,rfl⟩
theorem w119 (l:List Attest)(a m b:Nat)(ha:a<m)(hb:m<b)(hbl:b≤l.length)(hl:l.length≤2^61):WSpec prog 119 47 2 (l.map encT) [i64 a,i64 m,i64 b,fnV 38] (.tup []) ((rot m (b-a) (m-a) (b-m) l).map encT):=by
 have hr:=rotE_spec m (b-a) (m-a) (b-m) l (by omega) (by omega) (by omega) (by omega) (by omega)
 refine WSpec.tree Proofs.Try.f119 (fun l0=>T119 l0 l a m b (rotE m (b-a) (m-a) (b-m) l)) (by kernel_rfl) (by kernel_rfl) (by kernel_rfl) fun l0=>?_
 have hh:=l119 l0 m (m-a) (b-m) (b-a) l (by omega) (by omega) (by omega) (by omega) (by omega) hl
 generalize rotE m (b-a) (m-a) (b-m) l=r at*
 obtain⟨r1,r2,r3,r4,r5⟩:=hr
 have e1:IntKind.i64.wrap ((m:Int)-(r.1:Int))=((m-r.1:Nat):Int):=i64_sub (by omega) (by omega)
 have e2:IntKind.i64.wrap ((m:Int)-(a:Int))=((m-a:Nat):Int):=i64_sub (by omega) (by omega)
 have e3:IntKind.i64.wrap ((b:Int)-(m:Int))=((b-m:Nat):Int):=i64_sub (by omega) (by omega)
 rw[t119]
 refine⟨?_,need_sat ⟨(by simp),ILeL.refl _,w122' _ _ _ _ ?_ ?_ ?_ ?_ ?_ ?_⟩ (need_sat ?_ (lretW_ex ?_ ?_))⟩
 ·refine hh _ ?_
  simp only[e2,e3]
  exact⟨⟨rfl,rfl,rfl,rfl,by simp[tl],trivial⟩,⟨rfl,trivial⟩,rfl,rfl,rfl⟩
 ·rw[e1];omega
 ·omega
 ·omega
 ·rw[e1];omega
 ·omega
 ·omega
 ·exact trivial
 ·rw[e1,Int.toNat_natCast,r5]
 ·exact .refl _
def I120 (l0:Abs.Loc)(m i j:Nat)(x:List RKey):LState:={t:=[(11,.imm (i64 j)),(10,.imm (i64 i)),(4,.imm (fnV 41)),(2,.imm (i64 m)),(0,.own 0 x.length)],s:=[(0,.brow l0 53 18 (x.map encK))],m:=58,n:=1}
def E120 (l0:Abs.Loc)(m:Nat)(r:Nat×List RKey):LState:={t:=[(10,.imm (i64 r.1)),(4,.imm (fnV 41)),(2,.imm (i64 m)),(0,.own 0 r.2.length)],s:=[(0,.brow l0 53 18 (r.2.map encK))],m:=58,n:=1}
def fin120 :Exit→Fin
 |.normal=>⟨[],[11,10,4,2,0],[0]⟩
 |_=>⟨[],[10,4,2,0],[0]⟩
def T120r (l0:Abs.Loc)(m i j:Nat)(x:List RKey):Tell:=
 Tell.mk (fun x x_1=>false) (fun x x_1=>Orc.no) (fun x=>Tree.fail 1000003 0) (fun x=>0) (fun x=>([],[])) (oget [(7,4,7,Orc.callw [i64 (IntKind.wrap IntKind.i64 ((↑m:Int)-(↑i:Int))),i64 (↑m:Int),i64 (↑j:Int),fnV 41] (.tup []) (List.map encK (swR x (Int.toNat (IntKind.wrap IntKind.i64 ((↑m:Int)-(↑i:Int)))) (Int.toNat (↑m:Int)) (Int.toNat (↑j:Int))))),(7,6,11,Orc.callw [i64 (IntKind.wrap IntKind.i64 ((↑m:Int)-(↑i:Int))),i64 (IntKind.wrap IntKind.i64 (IntKind.wrap IntKind.i64 ((↑m:Int)+(↑j:Int))-(↑i:Int))),i64 (↑i:Int),fnV 41] (.tup []) (List.map encK
 (swR x (Int.toNat (IntKind.wrap IntKind.i64 ((↑m:Int)-(↑i:Int)))) (Int.toNat (IntKind.wrap IntKind.i64 (IntKind.wrap IntKind.i64 ((↑m:Int)+(↑j:Int))-(↑i:Int)))) (Int.toNat (↑i:Int)))))]) fun x x_1=>Tree.fail 1000003 0
theorem t120r (l0:Abs.Loc)(m i j:Nat)(x:List RKey):levL prog Proofs.Try.f120 2 (I120 l0 m i j x) (T120r l0 m i j x) fin120=
 Tree.br (!decide ((↑i:Int)=(↑j:Int))) (.br (decide ((↑j:Int)<(↑i:Int))) (.need (List.length (List.map encK x)=List.length x∧ILeL [i64 (IntKind.wrap IntKind.i64 ((↑m:Int)-(↑i:Int))),i64 (↑m:Int),i64 (↑j:Int),fnV 41] [i64 (IntKind.wrap IntKind.i64 ((↑m:Int)-(↑i:Int))),i64 (↑m:Int),i64 (↑j:Int),fnV 41]∧WSpec prog 123 53 18 (List.map encK x) [i64 (IntKind.wrap IntKind.i64 ((↑m:Int)-(↑i:Int))),i64 (↑m:Int),i64 (↑j:Int),fnV 41] (.tup []) (List.map encK (swR x (Int.toNat (IntKind.wrap IntKind.i64 ((↑m:Int)-(↑i:Int)))) m j))) (.done Exit.normal
 (LState.mk [(11,.imm (i64 (↑j:Int))),(10,.imm (i64 (IntKind.wrap IntKind.i64 ((↑i:Int)-(↑j:Int))))),(4,.imm (fnV 41)),(2,.imm (i64 (↑m:Int))),(0,.own 0 (List.length x))] [(0,Entry.brow l0 53 18 (List.map encK (swR x (Int.toNat (IntKind.wrap IntKind.i64 ((↑m:Int)-(↑i:Int)))) m j)))] 58 19 []))) (.need (List.length (List.map encK x)=List.length x∧ILeL [i64 (IntKind.wrap IntKind.i64 ((↑m:Int)-(↑i:Int))),i64 (IntKind.wrap IntKind.i64 (IntKind.wrap IntKind.i64 ((↑m:Int)+(↑j:Int))-(↑i:Int))),i64 (↑i:Int),fnV 41] [i64 (IntKind.wrap IntKind.i64 ((↑m:Int)-(↑i:
 Int))),i64 (IntKind.wrap IntKind.i64 (IntKind.wrap IntKind.i64 ((↑m:Int)+(↑j:Int))-(↑i:Int))),i64 (↑i:Int),fnV 41]∧WSpec prog 123 53 18 (List.map encK x) [i64 (IntKind.wrap IntKind.i64 ((↑m:Int)-(↑i:Int))),i64 (IntKind.wrap IntKind.i64 (IntKind.wrap IntKind.i64 ((↑m:Int)+(↑j:Int))-(↑i:Int))),i64 (↑i:Int),fnV 41] (.tup []) (List.map encK (swR x (Int.toNat (IntKind.wrap IntKind.i64 ((↑m:Int)-(↑i:Int)))) (Int.toNat (IntKind.wrap IntKind.i64 (IntKind.wrap IntKind.i64 ((↑m:Int)+(↑j:Int))-(↑i:Int)))) i))) (.done Exit.normal (LState.mk [(11,.imm (i64
 (IntKind.wrap IntKind.i64 ((↑j:Int)-(↑i:Int))))),(10,.imm (i64 (↑i:Int))),(4,.imm (fnV 41)),(2,.imm (i64 (↑m:Int))),(0,.own 0 (List.length x))] [(0,Entry.brow l0 53 18 (List.map encK (swR x (Int.toNat (IntKind.wrap IntKind.i64 ((↑m:Int)-(↑i:Int)))) (Int.toNat (IntKind.wrap IntKind.i64 (IntKind.wrap IntKind.i64 ((↑m:Int)+(↑j:Int))-(↑i:Int)))) i)))] 58 23 [])))) (.done (Exit.exit 0) (LState.mk [(10,.imm (i64 (↑i:Int))),(4,.imm (fnV 41)),(2,.imm (i64 (↑m:Int))),(0,.own 0 (List.length x))] [(0,Entry.brow l0 53 18 (List.map encK x))] 58 4 [])):=by kernel_rfl
def T120 (l0:Abs.Loc)(l:List RKey)(a m b:Nat)(r:Nat×List RKey):Tell:=
 Tell.mk (fun x x_1=>false) (fun x x_1=>Orc.no) (fun x=>Tree.done (Exit.exit 0) (E120 l0 m r)) (fun x=>0) (fun x=>([11,10,4,2,0],[0])) (oget [(1,8,7,Orc.callw [i64 (IntKind.wrap IntKind.i64 ((↑m:Int)-(↑r.fst:Int))),i64 (↑m:Int),i64 (↑r.fst:Int),fnV 41] (.tup []) (List.map encK (swR r.snd (Int.toNat (IntKind.wrap IntKind.i64 ((↑m:Int)-(↑r.fst:Int)))) (Int.toNat (↑m:Int)) (Int.toNat (↑r.fst:Int)))))]) fun x x_1=>Tree.done (Exit.exit 0) (E120 l0 m r)
theorem t120 (l0:Abs.Loc)(l:List RKey)(a m b:Nat)(r:Nat×List RKey):levW prog Proofs.Try.f120 l0 53 18 (l.map encK) [i64 a,i64 m,i64 b,fnV 41] (T120 l0 l a m b r)=
 Tree.loop 2 (LState.mk [(11,.imm (i64 (IntKind.wrap IntKind.i64 ((↑b:Int)-(↑m:Int))))),(10,.imm (i64 (IntKind.wrap IntKind.i64 ((↑m:Int)-(↑a:Int))))),(4,.imm (fnV 41)),(2,.imm (i64 (↑m:Int))),(0,.own 0 (List.length (List.map encK l)))] [(0,Entry.brow l0 53 18 (List.map encK l))] 58 9 []) (.done (Exit.exit 0) (E120 l0 m r)) (.need (List.length (List.map encK r.snd)=List.length r.snd∧ILeL [i64 (IntKind.wrap IntKind.i64 ((↑m:Int)-(↑r.fst:Int))),i64 (↑m:Int),i64 (↑r.fst:Int),fnV 41] [i64 (IntKind.wrap IntKind.i64 ((↑m:Int)-(↑r.fst:Int))),i64 (↑m:Int),i64 (↑r.fst
 :Int),fnV 41]∧WSpec prog 123 53 18 (List.map encK r.snd) [i64 (IntKind.wrap IntKind.i64 ((↑m:Int)-(↑r.fst:Int))),i64 (↑m:Int),i64 (↑r.fst:Int),fnV 41] (.tup []) (List.map encK (swR r.snd (Int.toNat (IntKind.wrap IntKind.i64 ((↑m:Int)-(↑r.fst:Int)))) m r.fst))) (.need (eqs []) (.done Exit.ret (lretW l0 53 18 (.tup []) (List.map encK (swR r.snd (Int.toNat (IntKind.wrap IntKind.i64 ((↑m:Int)-(↑r.fst:Int)))) m r.fst)))))):=by kernel_rfl
theorem l120 (l0:Abs.Loc)(m i j f:Nat)(l:List RKey)(hi:0<i)(hj:0<j)(hf:i+j≤f)(hm:i≤m)(hb:m+j≤l.length)(hl:l.length≤2^61)(σ:LState)(h:LSub σ (I120 l0 m i j l)):LoopOk prog [] (bodyOf Proofs.Try.f120) 2 σ (.done (.exit 0) (E120 l0 m (rotE m f i j l))):=by
 refine LoopOk.of_levL (γ:={g:Nat×Nat×Nat×List RKey//0<g.1∧0<g.2.1∧g.1+g.2.1≤g.2.2.1∧g.1≤m∧m+g.2.1≤g.2.2.2.length∧g.2.2.2.length=l.length∧rotE m g.2.2.1 g.1 g.2.1 g.2.2.2=rotE m f i j l})
  (fun g=>T120r l0 m g.1.1 g.1.2.1 g.1.2.2.2) fin120 (fun g=>I120 l0 m g.1.1 g.1.2.1 g.1.2.2.2) (fun g=>g.1.1+g.1.2.1) ⟨(i,j,f,l),hi,hj,hf,hm,hb,rfl,rfl⟩ (by kernel_rfl) h ?_
 rintro⟨⟨i,j,f',x⟩,q1,q2,q3,q4,q5,q6,q7⟩
 simp only at q1 q2 q3 q4 q5 q6 q7
 have e1:IntKind.i64.wrap ((m:Int)-(i:Int))=((m-i:Nat):Int):=i64_sub (by omega) (by omega)
 have e2:IntKind.i64.wrap (IntKind.i64.wrap ((m:Int)+(j:Int))-(i:Int))=((m+j-i:Nat):Int):=by rw[i64_add (by omega),i64_sub (by omega) (by omega)]
 have e3:j≤i→IntKind.i64.wrap ((i:Int)-(j:Int))=((i-j:Nat):Int):=fun h=>i64_sub h (by omega)
 have e4:i≤j→IntKind.i64.wrap ((j:Int)-(i:Int))=((j-i:Nat):Int):=fun h=>i64_sub h (by omega)
 cases f' with
 |zero=>omega
 |succ f'=>
  rw[rotE]at q7
  simp only[]
  rw[t120r]
  refine⟨fun h1=>⟨fun h2=>need_sat ⟨(by simp),ILeL.refl _,w123' _ _ _ _ ?_ ?_ ?_ ?_ ?_ ?_⟩ ?_,fun h2=>need_sat ⟨(by simp),ILeL.refl _,w123' _ _ _ _ ?_ ?_ ?_ ?_ ?_ ?_⟩ ?_⟩,fun h1=>?_⟩
  ·rw[e1];omega
  ·omega
  ·omega
  ·rw[e1];omega
  ·omega
  ·omega
  ·have g1:¬i=j:=by simp at h1;omega
   have g2:j<i:=by simp at h2;omega
   rw[if_neg g1,if_pos g2]at q7
   refine⟨⟨(i-j,j,f',swR x (m-i) m j),by simp only;omega,q2,by simp only;omega,by simp only;omega,by simp only[swR_length];omega,by simp only[swR_length];omega,q7⟩,by simp only;omega,?_⟩
   simp only[e1,e3 (by omega),Int.toNat_natCast]
   exact⟨⟨rfl,rfl,rfl,rfl,congrArg (AVal.own 0) (swR_length _ _ _ _).symm,trivial⟩,⟨rfl,trivial⟩,rfl,rfl,rfl⟩
  ·rw[e1];omega
  ·rw[e2];omega
  ·omega
  ·rw[e1];omega
  ·have g1:¬i=j:=by simp at h1;omega
   have g2:¬j<i:=by simp at h2;omega
   rw[e2];omega
  ·omega
  ·have g1:¬i=j:=by simp at h1;omega
   have g2:¬j<i:=by simp at h2;omega
   rw[if_neg g1,if_neg g2]at q7
   refine⟨⟨(i,j-i,f',swR x (m-i) (m+j-i) i),q1,by simp only;omega,by simp only;omega,q4,by simp only[swR_length];omega,by simp only[swR_length];omega,q7⟩,by simp only;omega,?_⟩
   simp only[e1,e2,e4 (by omega),Int.toNat_natCast]
   exact⟨⟨rfl,rfl,rfl,rfl,congrArg (AVal.own 0) (swR_length _ _ _ _).symm,trivial⟩,⟨rfl,trivial⟩,rfl,rfl,rfl⟩
  ·have g1:i=j:=by simp at h1;omega
   rw[if_pos g1]at q7
   rw[←q7]
   exact⟨rfl,⟨rfl,rfl,rfl,rfl,trivial⟩,⟨rfl,trivial⟩,rfl,rfl,rfl⟩
theorem w120 (l:List RKey)(a m b:Nat)(ha:a<m)(hb:m<b)(hbl:b≤l.length)(hl:l.length≤2^61):WSpec prog 120 53 18 (l.map encK) [i64 a,i64 m,i64 b,fnV 41] (.tup []) ((rot m (b-a) (m-a) (b-m) l).map encK):=by
 have hr:=rotE_spec m (b-a) (m-a) (b-m) l (by omega) (by omega) (by omega) (by omega) (by omega)
 refine WSpec.tree Proofs.Try.f120 (fun l0=>T120 l0 l a m b (rotE m (b-a) (m-a) (b-m) l)) (by kernel_rfl) (by kernel_rfl) (by kernel_rfl) fun l0=>?_
 have hh:=l120 l0 m (m-a) (b-m) (b-a) l (by omega) (by omega) (by omega) (by omega) (by omega) hl
 generalize rotE m (b-a) (m-a) (b-m) l=r at*
 obtain⟨r1,r2,r3,r4,r5⟩:=hr
 have e1:IntKind.i64.wrap ((m:Int)-(r.1:Int))=((m-r.1:Nat):Int):=i64_sub (by omega) (by omega)
 have e2:IntKind.i64.wrap ((m:Int)-(a:Int))=((m-a:Nat):Int):=i64_sub (by omega) (by omega)
 have e3:IntKind.i64.wrap ((b:Int)-(m:Int))=((b-m:Nat):Int):=i64_sub (by omega) (by omega)
 rw[t120]
 refine⟨?_,need_sat ⟨(by simp),ILeL.refl _,w123' _ _ _ _ ?_ ?_ ?_ ?_ ?_ ?_⟩ (need_sat ?_ (lretW_ex ?_ ?_))⟩
 ·refine hh _ ?_
  simp only[e2,e3]
  exact⟨⟨rfl,rfl,rfl,rfl,by simp[tl],trivial⟩,⟨rfl,trivial⟩,rfl,rfl,rfl⟩
 ·rw[e1];omega
 ·omega
 ·omega
 ·rw[e1];omega
 ·omega
 ·omega
 ·exact trivial
 ·rw[e1,Int.toNat_natCast,r5]
 ·exact .refl _
end Gp
namespace Gp
def ltO (a b:Origin):Bool:=decide (cmpO a b<0)
def J112 (l0:Abs.Loc)(a b i j:Nat)(x:List Origin):LState:={t:=[(9,.imm (i64 j)),(8,.imm (i64 i)),(3,.imm (fnV 35)),(2,.imm (i64 b)),(1,.imm (i64 a)),(0,.own 0 x.length)],s:=[(0,.brow l0 44 6 (x.map encO))],m:=53,n:=1}
def I112 (l0:Abs.Loc)(a b i:Nat)(x:List Origin):LState:={t:=[(8,.imm (i64 i)),(3,.imm (fnV 35)),(2,.imm (i64 b)),(1,.imm (i64 a)),(0,.own 0 x.length)],s:=[(0,.brow l0 44 6 (x.map encO))],m:=53,n:=1}
def finJ112 :Exit→Fin
 |.normal=>⟨[],[9,8,3,2,1,0],[0]⟩
 |_=>⟨[],[8,3,2,1,0],[0]⟩
def TJ112r (l0:Abs.Loc)(a b i j:Nat)(x:List Origin):Tell:=
 Tell.mk (fun x x_1=>false) (fun x x_1=>Orc.no) (fun x=>Tree.fail 1000003 0) (fun x=>0) (fun x=>([],[])) (oget [(1,4,8,Orc.elem (encO (List.getD x j default))),(1,4,13,Orc.elem (encO (List.getD x (Int.toNat (IntKind.wrap IntKind.i64 ((↑j:Int)-1))) default))),(1,4,14,Orc.call [encO (List.getD x j default),encO (List.getD x (Int.toNat (IntKind.wrap IntKind.i64 ((↑j:Int)-1))) default)] (i64 (cmpO (List.getD x j default) (List.getD x (Int.toNat (IntKind.wrap IntKind.i64 ((↑j:Int)-1))) default)))),(18,6,9,Orc.elem (encO (List.getD x (Int.toNat (IntKind.wrap IntKind.i64 ((↑j:
 Int)-1))) default))),(18,6,13,Orc.elem (encO (List.getD x j default))),(18,6,15,Orc.elem (.tup [])),(18,6,17,Orc.elem (.tup []))]) fun x x_1=>Tree.fail 1000003 0
theorem tJ112r (l0:Abs.Loc)(a b i j:Nat)(x:List Origin):levL prog Proofs.Try.f112 4 (J112 l0 a b i j x) (TJ112r l0 a b i j x) finJ112=
 Tree.br (decide ((↑a:Int)<(↑j:Int))) (.need (0≤(↑j:Int)∧j<List.length x) (.need ((List.map encO x)[j]?=some (encO (List.getD x j default))) (.need (0≤IntKind.wrap IntKind.i64 ((↑j:Int)-1)∧Int.toNat (IntKind.wrap IntKind.i64 ((↑j:Int)-1))<List.length x) (.need ((List.map encO x)[Int.toNat (IntKind.wrap IntKind.i64 ((↑j:Int)-1))]?=some (encO (List.getD x (Int.toNat (IntKind.wrap IntKind.i64 ((↑j:Int)-1))) default))) (.need (ILeL [encO (List.getD x j default),encO (List.getD x (Int.toNat (IntKind.wrap IntKind.i64 ((↑j:Int)-1))) default)] [encO (List.getD
 x j default),encO (List.getD x (Int.toNat (IntKind.wrap IntKind.i64 ((↑j:Int)-1))) default)]∧ASpec prog 35 [encO (List.getD x j default),encO (List.getD x (Int.toNat (IntKind.wrap IntKind.i64 ((↑j:Int)-1))) default)] (i64 (cmpO (List.getD x j default) (List.getD x (Int.toNat (IntKind.wrap IntKind.i64 ((↑j:Int)-1))) default)))) (.br (decide (cmpO (List.getD x j default) (List.getD x (Int.toNat (IntKind.wrap IntKind.i64 ((↑j:Int)-1))) default)<0)) (.need (0≤IntKind.wrap IntKind.i64 ((↑j:Int)-1)∧Int.toNat (IntKind.wrap IntKind.i64 ((↑j:Int)-1))<List.length x)
 (.need ((List.map encO x)[Int.toNat (IntKind.wrap IntKind.i64 ((↑j:Int)-1))]?=some (encO (List.getD x (Int.toNat (IntKind.wrap IntKind.i64 ((↑j:Int)-1))) default))) (.need (0≤(↑j:Int)∧j<List.length x) (.need ((List.map encO x)[j]?=some (encO (List.getD x j default))) (.need (0≤(↑j:Int)∧j<List.length x) (.need (j<List.length (List.map encO x)) (.need (0≤IntKind.wrap IntKind.i64 ((↑j:Int)-1)∧Int.toNat (IntKind.wrap IntKind.i64 ((↑j:Int)-1))<List.length x) (.need (Int.toNat (IntKind.wrap IntKind.i64 ((↑j:Int)-1))<List.length (List.set (List.map
 encO x) j (encO (List.getD x (Int.toNat (IntKind.wrap IntKind.i64 ((↑j:Int)-1))) default)))) (.done Exit.normal (LState.mk [(9,.imm (i64 (IntKind.wrap IntKind.i64 ((↑j:Int)-1)))),(8,.imm (i64 (↑i:Int))),(3,.imm (fnV 35)),(2,.imm (i64 (↑b:Int))),(1,.imm (i64 (↑a:Int))),(0,.own 0 (List.length x))] [(0,Entry.brow l0 44 6 (List.set (List.set (List.map encO x) j (encO (List.getD x (Int.toNat (IntKind.wrap IntKind.i64 ((↑j:Int)-1))) default))) (Int.toNat (IntKind.wrap IntKind.i64 ((↑j:Int)-1))) (encO (List.getD x j default))))] 53 39 [])))))))))) (.done (Exit.exit 2) (LState.mk
 [(8,.imm (i64 (↑i:Int))),(3,.imm (fnV 35)),(2,.imm (i64 (↑b:Int))),(1,.imm (i64 (↑a:Int))),(0,.own 0 (List.length x))] [(0,Entry.brow l0 44 6 (List.map encO x))] 53 18 [])))))))) (.done (Exit.exit 2) (LState.mk [(8,.imm (i64 (↑i:Int))),(3,.imm (fnV 35)),(2,.imm (i64 (↑b:Int))),(1,.imm (i64 (↑a:Int))),(0,.own 0 (List.length x))] [(0,Entry.brow l0 44 6 (List.map encO x))] 53 18 [])):=by kernel_rfl
theorem lJ112 (l0:Abs.Loc)(a b i j:Nat)(x:List Origin)(hj:j<x.length)(hl:x.length≤2^61)(σ:LState)(h:LSub σ (J112 l0 a b i j x)):LoopOk prog [] (bodyOf Proofs.Try.f112) 4 σ (.done (.exit 2) (I112 l0 a b i (insJ ltO a j x))):=by
 refine LoopOk.of_levL (γ:={g:Nat×List Origin//g.1<g.2.length∧g.2.length=x.length∧insJ ltO a g.1 g.2=insJ ltO a j x}) (fun g=>TJ112r l0 a b i g.1.1 g.1.2) finJ112 (fun g=>J112 l0 a b i g.1.1 g.1.2) (fun g=>g.1.1) ⟨(j,x),hj,rfl,rfl⟩ (by kernel_rfl) h ?_
 rintro⟨⟨j,y⟩,q1,q2,q3⟩
 simp only at q1 q2 q3
 simp only[]
 have e1:0<j→IntKind.i64.wrap ((j:Int)-1)=((j-1:Nat):Int):=fun h=>by rw[IntWalk.i64_in _ (by omega)];omega
 rw[tJ112r]
 refine⟨fun h1=>need_sat ?_ (need_sat (elem_need' ?_) (need_sat ?_ (need_sat (elem_need' ?_) (need_sat ⟨ILeL.refl _,c35 _ _⟩ ⟨fun h2=>need_sat ?_ (need_sat (elem_need' ?_) (need_sat ?_ (need_sat (elem_need' ?_) (need_sat ?_ (need_sat ?_ (need_sat ?_ (need_sat ?_ ?_))))))),fun h2=>?_⟩)))),fun h1=>?_⟩
 ·omega
 ·omega
 ·rw[e1 (by simp at h1;omega)];omega
 ·rw[e1 (by simp at h1;omega)];omega
 ·rw[e1 (by simp at h1;omega)];omega
 ·rw[e1 (by simp at h1;omega)];omega
 ·omega
 ·omega
 ·omega
 ·simpa using q1
 ·rw[e1 (by simp at h1;omega)];omega
 ·rw[e1 (by simp at h1;omega)];simp;omega
 ·have hj:0<j:=by simp at h1;omega
  have haj:a<j:=by simp at h1;omega
  rw[e1 hj,Int.toNat_natCast]at h2⊢
  obtain⟨k,rfl⟩:∃k,j=k+1:=⟨j-1,by omega⟩
  rw[insJ,if_pos ⟨haj,h2⟩]at q3
  refine⟨⟨(k,swp y (k+1) k),by simp only[swp_length];omega,by simp only[swp_length];omega,q3⟩,by simp only;omega,?_⟩
  refine⟨⟨rfl,rfl,rfl,rfl,rfl,congrArg (AVal.own 0) (swp_length _ _ _).symm,trivial⟩,⟨?_,trivial⟩,rfl,rfl,rfl⟩
  refine congrArg (fun l=>some (Entry.brow l0 44 6 l)) ?_
  simp only[swp,List.map_set,Nat.add_sub_cancel]
 ·have hj:0<j:=by simp at h1;omega
  rw[e1 hj,Int.toNat_natCast]at h2
  obtain⟨k,rfl⟩:∃k,j=k+1:=⟨j-1,by omega⟩
  rw[insJ,if_neg (fun hc=>by have hc2:=hc.2;rw[show ltO (y.getD (k+1) default) (y.getD k default)=false from h2]at hc2;cases hc2)]at q3
  rw[←q3]
  exact⟨rfl,⟨rfl,rfl,rfl,rfl,rfl,trivial⟩,⟨rfl,trivial⟩,rfl,rfl,rfl⟩
 ·have q4:insJ ltO a j y=y:=by
   cases j with
   |zero=>rfl
   |succ k=>rw[insJ,if_neg (fun hc=>by have:=hc.1;simp at h1;omega)]
  rw[q4]at q3
  rw[←q3]
  exact⟨rfl,⟨rfl,rfl,rfl,rfl,rfl,trivial⟩,⟨rfl,trivial⟩,rfl,rfl,rfl⟩
def E112 (l0:Abs.Loc)(x:List Origin):LState:={t:=[],s:=[(0,.brow l0 44 6 (x.map encO))],m:=53,n:=1}
def fin112 :Exit→Fin
 |.normal=>⟨[],[8,3,2,1,0],[0]⟩
 |_=>⟨[],[],[0]⟩
def T112r (l0:Abs.Loc)(a b i:Nat)(x y:List Origin):Tell:=
 Tell.mk (fun x x_1=>false) (fun x x_1=>Orc.no) (fun x=>Tree.done (Exit.exit 2) (I112 l0 a b i y)) (fun x=>0) (fun x=>([9,8,3,2,1,0],[0])) (fun x x_1 x_2=>Orc.no) fun x x_1=>Tree.done (Exit.exit 2) (I112 l0 a b i y)
theorem t112r (l0:Abs.Loc)(a b i:Nat)(x y:List Origin):levL prog Proofs.Try.f112 1 (I112 l0 a b i x) (T112r l0 a b i x y) fin112=
 Tree.br (decide ((↑i:Int)<(↑b:Int))) (.loop 4 (LState.mk [(9,.imm (i64 (↑i:Int))),(8,.imm (i64 (↑i:Int))),(3,.imm (fnV 35)),(2,.imm (i64 (↑b:Int))),(1,.imm (i64 (↑a:Int))),(0,.own 0 (List.length x))] [(0,Entry.brow l0 44 6 (List.map encO x))] 53 6 []) (.done (Exit.exit 2) (I112 l0 a b i y)) (.done Exit.normal (LState.mk [(8,.imm (i64 (IntKind.wrap IntKind.i64 ((↑i:Int)+1)))),(3,.imm (fnV 35)),(2,.imm (i64 (↑b:Int))),(1,.imm (i64 (↑a:Int))),(0,.own 0 (List.length y))] [(0,Entry.brow l0 44 6 (List.map encO y))] 53 4 []))) (.done (Exit.exit 0) (LState.mk [] [(0,Entry.brow l0
 44 6 (List.map encO x))] 53 4 [])):=by kernel_rfl
def T112 (l0:Abs.Loc)(l y:List Origin)(a b:Nat):Tell:=
 Tell.mk (fun x x_1=>false) (fun x x_1=>Orc.no) (fun x=>Tree.done (Exit.exit 0) (E112 l0 y)) (fun x=>0) (fun x=>([8,3,2,1,0],[0])) (fun x x_1 x_2=>Orc.no) fun x x_1=>Tree.done (Exit.exit 0) (E112 l0 y)
theorem t112 (l0:Abs.Loc)(l y:List Origin)(a b:Nat):levW prog Proofs.Try.f112 l0 44 6 (l.map encO) [i64 a,i64 b,fnV 35] (T112 l0 l y a b)=
 Tree.loop 1 (LState.mk [(8,.imm (i64 (IntKind.wrap IntKind.i64 ((↑a:Int)+1)))),(3,.imm (fnV 35)),(2,.imm (i64 (↑b:Int))),(1,.imm (i64 (↑a:Int))),(0,.own 0 (List.length (List.map encO l)))] [(0,Entry.brow l0 44 6 (List.map encO l))] 53 4 []) (.done (Exit.exit 0) (E112 l0 y)) (.need (eqs []) (.done Exit.ret (lretW l0 44 6 (.tup []) (List.map encO y)))):=by kernel_rfl
theorem l112 (l0:Abs.Loc)(a b:Nat)(l:List Origin)(hb:b≤l.length)(hl:l.length≤2^61)(ha:a≤2^61)(σ:LState)(h:LSub σ (I112 l0 a b (a+1) l)):LoopOk prog [] (bodyOf Proofs.Try.f112) 1 σ (.done (.exit 0) (E112 l0 (ins ltO a b l))):=by
 refine LoopOk.count (b-(a+1)) 0 (fun n=>I112 l0 a b (a+1+n) (insR ltO a l n)) (E112 l0 (ins ltO a b l)) (fun n=>T112r l0 a b (a+1+n) (insR ltO a l n) (insR ltO a l (n+1))) fin112 (by kernel_rfl) h fun n hn=>?_
 rw[t112r]
 refine⟨fun h1=>⟨?_,?_⟩,fun h1=>?_⟩
 ·have hlt:a+1+n<b:=by simp at h1;omega
  have hlen:=insR_length ltO a l n (by omega)
  exact lJ112 l0 a b (a+1+n) (a+1+n) _ (by omega) (by omega) _ ⟨⟨rfl,rfl,rfl,rfl,rfl,rfl,trivial⟩,⟨rfl,trivial⟩,rfl,rfl,rfl⟩
 ·have hlt:a+1+n<b:=by simp at h1;omega
  refine⟨by omega,⟨?_,rfl,rfl,rfl,rfl,trivial⟩,⟨rfl,trivial⟩,rfl,rfl,rfl⟩
  exact congrArg (fun n=>AVal.imm (i64 n)) (by rw[IntWalk.i64_in _ (by omega)];omega)
 ·have hge:b≤a+1+n:=by simp at h1;omega
  have:n=b-(a+1):=by omega
  subst this
  exact⟨rfl,by omega,⟨trivial,⟨rfl,trivial⟩,rfl,rfl,rfl⟩⟩
theorem w112 (l:List Origin)(a b:Nat)(hb:b≤l.length)(hl:l.length≤2^61)(ha:a≤2^61):WSpec prog 112 44 6 (l.map encO) [i64 a,i64 b,fnV 35] (.tup []) ((ins ltO a b l).map encO):=by
 refine WSpec.tree Proofs.Try.f112 (fun l0=>T112 l0 l (ins ltO a b l) a b) (by kernel_rfl) (by kernel_rfl) (by kernel_rfl) fun l0=>?_
 rw[t112]
 refine⟨?_,need_sat ?_ (lretW_ex ?_ ?_)⟩
 ·refine l112 l0 a b l hb hl ha _ ⟨⟨congrArg (fun n=>AVal.imm (i64 n)) (by rw[IntWalk.i64_in _ (by omega)];omega),rfl,rfl,rfl,by simp[tl],trivial⟩,⟨rfl,trivial⟩,rfl,rfl,rfl⟩
 ·exact trivial
 ·rfl
 ·exact .refl _
def ltT (a b:Attest):Bool:=decide (cmpT a b<0)
def J114 (l0:Abs.Loc)(a b i j:Nat)(x:List Attest):LState:={t:=[(9,.imm (i64 j)),(8,.imm (i64 i)),(3,.imm (fnV 38)),(2,.imm (i64 b)),(1,.imm (i64 a)),(0,.own 0 x.length)],s:=[(0,.brow l0 47 2 (x.map encT))],m:=53,n:=1}
def I114 (l0:Abs.Loc)(a b i:Nat)(x:List Attest):LState:={t:=[(8,.imm (i64 i)),(3,.imm (fnV 38)),(2,.imm (i64 b)),(1,.imm (i64 a)),(0,.own 0 x.length)],s:=[(0,.brow l0 47 2 (x.map encT))],m:=53,n:=1}
def finJ114 :Exit→Fin
 |.normal=>⟨[],[9,8,3,2,1,0],[0]⟩
 |_=>⟨[],[8,3,2,1,0],[0]⟩
def TJ114r (l0:Abs.Loc)(a b i j:Nat)(x:List Attest):Tell:=
 Tell.mk (fun x x_1=>false) (fun x x_1=>Orc.no) (fun x=>Tree.fail 1000003 0) (fun x=>0) (fun x=>([],[])) (oget [(1,4,8,Orc.elem (encT (List.getD x j default))),(1,4,13,Orc.elem (encT (List.getD x (Int.toNat (IntKind.wrap IntKind.i64 ((↑j:Int)-1))) default))),(1,4,14,Orc.call [encT (List.getD x j default),encT (List.getD x (Int.toNat (IntKind.wrap IntKind.i64 ((↑j:Int)-1))) default)] (i64 (cmpI (List.getD x j default).cust (List.getD x (Int.toNat (IntKind.wrap IntKind.i64 ((↑j:Int)-1))) default).cust))),(18,6,9,Orc.elem (encT (List.getD x (Int.toNat (IntKind.wrap IntKind.i64
 ((↑j:Int)-1))) default))),(18,6,13,Orc.elem (encT (List.getD x j default))),(18,6,15,Orc.elem (.tup [])),(18,6,17,Orc.elem (.tup []))]) fun x x_1=>Tree.fail 1000003 0
theorem tJ114r (l0:Abs.Loc)(a b i j:Nat)(x:List Attest):levL prog Proofs.Try.f114 4 (J114 l0 a b i j x) (TJ114r l0 a b i j x) finJ114=
 Tree.br (decide ((↑a:Int)<(↑j:Int))) (.need (0≤(↑j:Int)∧j<List.length x) (.need ((List.map encT x)[j]?=some (encT (List.getD x j default))) (.need (0≤IntKind.wrap IntKind.i64 ((↑j:Int)-1)∧Int.toNat (IntKind.wrap IntKind.i64 ((↑j:Int)-1))<List.length x) (.need ((List.map encT x)[Int.toNat (IntKind.wrap IntKind.i64 ((↑j:Int)-1))]?=some (encT (List.getD x (Int.toNat (IntKind.wrap IntKind.i64 ((↑j:Int)-1))) default))) (.need (ILeL [encT (List.getD x j default),encT (List.getD x (Int.toNat (IntKind.wrap IntKind.i64 ((↑j:Int)-1))) default)] [encT (List.getD
 x j default),encT (List.getD x (Int.toNat (IntKind.wrap IntKind.i64 ((↑j:Int)-1))) default)]∧ASpec prog 38 [encT (List.getD x j default),encT (List.getD x (Int.toNat (IntKind.wrap IntKind.i64 ((↑j:Int)-1))) default)] (i64 (cmpI (List.getD x j default).cust (List.getD x (Int.toNat (IntKind.wrap IntKind.i64 ((↑j:Int)-1))) default).cust))) (.br (decide (cmpI (List.getD x j default).cust (List.getD x (Int.toNat (IntKind.wrap IntKind.i64 ((↑j:Int)-1))) default).cust<0)) (.need (0≤IntKind.wrap IntKind.i64 ((↑j:Int)-1)∧Int.toNat (IntKind.wrap IntKind.i64 ((↑j:Int)-1))<
 List.length x) (.need ((List.map encT x)[Int.toNat (IntKind.wrap IntKind.i64 ((↑j:Int)-1))]?=some (encT (List.getD x (Int.toNat (IntKind.wrap IntKind.i64 ((↑j:Int)-1))) default))) (.need (0≤(↑j:Int)∧j<List.length x) (.need ((List.map encT x)[j]?=some (encT (List.getD x j default))) (.need (0≤(↑j:Int)∧j<List.length x) (.need (j<List.length (List.map encT x)) (.need (0≤IntKind.wrap IntKind.i64 ((↑j:Int)-1)∧Int.toNat (IntKind.wrap IntKind.i64 ((↑j:Int)-1))<List.length x) (.need (Int.toNat (IntKind.wrap IntKind.i64 ((↑j:Int)-1))<List.length
 (List.set (List.map encT x) j (encT (List.getD x (Int.toNat (IntKind.wrap IntKind.i64 ((↑j:Int)-1))) default)))) (.done Exit.normal (LState.mk [(9,.imm (i64 (IntKind.wrap IntKind.i64 ((↑j:Int)-1)))),(8,.imm (i64 (↑i:Int))),(3,.imm (fnV 38)),(2,.imm (i64 (↑b:Int))),(1,.imm (i64 (↑a:Int))),(0,.own 0 (List.length x))] [(0,Entry.brow l0 47 2 (List.set (List.set (List.map encT x) j (encT (List.getD x (Int.toNat (IntKind.wrap IntKind.i64 ((↑j:Int)-1))) default))) (Int.toNat (IntKind.wrap IntKind.i64 ((↑j:Int)-1))) (encT (List.getD x j default))))] 53 39 [])))))))))) (.done
 (Exit.exit 2) (LState.mk [(8,.imm (i64 (↑i:Int))),(3,.imm (fnV 38)),(2,.imm (i64 (↑b:Int))),(1,.imm (i64 (↑a:Int))),(0,.own 0 (List.length x))] [(0,Entry.brow l0 47 2 (List.map encT x))] 53 18 [])))))))) (.done (Exit.exit 2) (LState.mk [(8,.imm (i64 (↑i:Int))),(3,.imm (fnV 38)),(2,.imm (i64 (↑b:Int))),(1,.imm (i64 (↑a:Int))),(0,.own 0 (List.length x))] [(0,Entry.brow l0 47 2 (List.map encT x))] 53 18 [])):=by kernel_rfl
theorem lJ114 (l0:Abs.Loc)(a b i j:Nat)(x:List Attest)(hj:j<x.length)(hl:x.length≤2^61)(σ:LState)(h:LSub σ (J114 l0 a b i j x)):LoopOk prog [] (bodyOf Proofs.Try.f114) 4 σ (.done (.exit 2) (I114 l0 a b i (insJ ltT a j x))):=by
 refine LoopOk.of_levL (γ:={g:Nat×List Attest//g.1<g.2.length∧g.2.length=x.length∧insJ ltT a g.1 g.2=insJ ltT a j x}) (fun g=>TJ114r l0 a b i g.1.1 g.1.2) finJ114 (fun g=>J114 l0 a b i g.1.1 g.1.2) (fun g=>g.1.1) ⟨(j,x),hj,rfl,rfl⟩ (by kernel_rfl) h ?_
 rintro⟨⟨j,y⟩,q1,q2,q3⟩
 simp only at q1 q2 q3
 simp only[]
 have e1:0<j→IntKind.i64.wrap ((j:Int)-1)=((j-1:Nat):Int):=fun h=>by rw[IntWalk.i64_in _ (by omega)];omega
 rw[tJ114r]
 refine⟨fun h1=>need_sat ?_ (need_sat (elem_need' ?_) (need_sat ?_ (need_sat (elem_need' ?_) (need_sat ⟨ILeL.refl _,c38 _ _⟩ ⟨fun h2=>need_sat ?_ (need_sat (elem_need' ?_) (need_sat ?_ (need_sat (elem_need' ?_) (need_sat ?_ (need_sat ?_ (need_sat ?_ (need_sat ?_ ?_))))))),fun h2=>?_⟩)))),fun h1=>?_⟩
 ·omega
 ·omega
 ·rw[e1 (by simp at h1;omega)];omega
 ·rw[e1 (by simp at h1;omega)];omega
 ·rw[e1 (by simp at h1;omega)];omega
 ·rw[e1 (by simp at h1;omega)];omega
 ·omega
 ·omega
 ·omega
 ·simpa using q1
 ·rw[e1 (by simp at h1;omega)];omega
 ·rw[e1 (by simp at h1;omega)];simp;omega
 ·have hj:0<j:=by simp at h1;omega
  have haj:a<j:=by simp at h1;omega
  rw[e1 hj,Int.toNat_natCast]at h2⊢
  obtain⟨k,rfl⟩:∃k,j=k+1:=⟨j-1,by omega⟩
  rw[insJ,if_pos ⟨haj,h2⟩]at q3
  refine⟨⟨(k,swp y (k+1) k),by simp only[swp_length];omega,by simp only[swp_length];omega,q3⟩,by simp only;omega,?_⟩
  refine⟨⟨rfl,rfl,rfl,rfl,rfl,congrArg (AVal.own 0) (swp_length _ _ _).symm,trivial⟩,⟨?_,trivial⟩,rfl,rfl,rfl⟩
  refine congrArg (fun l=>some (Entry.brow l0 47 2 l)) ?_
  simp only[swp,List.map_set,Nat.add_sub_cancel]
 ·have hj:0<j:=by simp at h1;omega
  rw[e1 hj,Int.toNat_natCast]at h2
  obtain⟨k,rfl⟩:∃k,j=k+1:=⟨j-1,by omega⟩
  rw[insJ,if_neg (fun hc=>by have hc2:=hc.2;rw[show ltT (y.getD (k+1) default) (y.getD k default)=false from h2]at hc2;cases hc2)]at q3
  rw[←q3]
  exact⟨rfl,⟨rfl,rfl,rfl,rfl,rfl,trivial⟩,⟨rfl,trivial⟩,rfl,rfl,rfl⟩
 ·have q4:insJ ltT a j y=y:=by
   cases j with
   |zero=>rfl
   |succ k=>rw[insJ,if_neg (fun hc=>by have:=hc.1;simp at h1;omega)]
  rw[q4]at q3
  rw[←q3]
  exact⟨rfl,⟨rfl,rfl,rfl,rfl,rfl,trivial⟩,⟨rfl,trivial⟩,rfl,rfl,rfl⟩
def E114 (l0:Abs.Loc)(x:List Attest):LState:={t:=[],s:=[(0,.brow l0 47 2 (x.map encT))],m:=53,n:=1}
def fin114 :Exit→Fin
 |.normal=>⟨[],[8,3,2,1,0],[0]⟩
 |_=>⟨[],[],[0]⟩
def T114r (l0:Abs.Loc)(a b i:Nat)(x y:List Attest):Tell:=
 Tell.mk (fun x x_1=>false) (fun x x_1=>Orc.no) (fun x=>Tree.done (Exit.exit 2) (I114 l0 a b i y)) (fun x=>0) (fun x=>([9,8,3,2,1,0],[0])) (fun x x_1 x_2=>Orc.no) fun x x_1=>Tree.done (Exit.exit 2) (I114 l0 a b i y)
theorem t114r (l0:Abs.Loc)(a b i:Nat)(x y:List Attest):levL prog Proofs.Try.f114 1 (I114 l0 a b i x) (T114r l0 a b i x y) fin114=
 Tree.br (decide ((↑i:Int)<(↑b:Int))) (.loop 4 (LState.mk [(9,.imm (i64 (↑i:Int))),(8,.imm (i64 (↑i:Int))),(3,.imm (fnV 38)),(2,.imm (i64 (↑b:Int))),(1,.imm (i64 (↑a:Int))),(0,.own 0 (List.length x))] [(0,Entry.brow l0 47 2 (List.map encT x))] 53 6 []) (.done (Exit.exit 2) (I114 l0 a b i y)) (.done Exit.normal (LState.mk [(8,.imm (i64 (IntKind.wrap IntKind.i64 ((↑i:Int)+1)))),(3,.imm (fnV 38)),(2,.imm (i64 (↑b:Int))),(1,.imm (i64 (↑a:Int))),(0,.own 0 (List.length y))] [(0,Entry.brow l0 47 2 (List.map encT y))] 53 4 []))) (.done (Exit.exit 0) (LState.mk [] [(0,Entry.brow l0
 47 2 (List.map encT x))] 53 4 [])):=by kernel_rfl
def T114 (l0:Abs.Loc)(l y:List Attest)(a b:Nat):Tell:=
 Tell.mk (fun x x_1=>false) (fun x x_1=>Orc.no) (fun x=>Tree.done (Exit.exit 0) (E114 l0 y)) (fun x=>0) (fun x=>([8,3,2,1,0],[0])) (fun x x_1 x_2=>Orc.no) fun x x_1=>Tree.done (Exit.exit 0) (E114 l0 y)
theorem t114 (l0:Abs.Loc)(l y:List Attest)(a b:Nat):levW prog Proofs.Try.f114 l0 47 2 (l.map encT) [i64 a,i64 b,fnV 38] (T114 l0 l y a b)=
 Tree.loop 1 (LState.mk [(8,.imm (i64 (IntKind.wrap IntKind.i64 ((↑a:Int)+1)))),(3,.imm (fnV 38)),(2,.imm (i64 (↑b:Int))),(1,.imm (i64 (↑a:Int))),(0,.own 0 (List.length (List.map encT l)))] [(0,Entry.brow l0 47 2 (List.map encT l))] 53 4 []) (.done (Exit.exit 0) (E114 l0 y)) (.need (eqs []) (.done Exit.ret (lretW l0 47 2 (.tup []) (List.map encT y)))):=by kernel_rfl
theorem l114 (l0:Abs.Loc)(a b:Nat)(l:List Attest)(hb:b≤l.length)(hl:l.length≤2^61)(ha:a≤2^61)(σ:LState)(h:LSub σ (I114 l0 a b (a+1) l)):LoopOk prog [] (bodyOf Proofs.Try.f114) 1 σ (.done (.exit 0) (E114 l0 (ins ltT a b l))):=by
 refine LoopOk.count (b-(a+1)) 0 (fun n=>I114 l0 a b (a+1+n) (insR ltT a l n)) (E114 l0 (ins ltT a b l)) (fun n=>T114r l0 a b (a+1+n) (insR ltT a l n) (insR ltT a l (n+1))) fin114 (by kernel_rfl) h fun n hn=>?_
 rw[t114r]
 refine⟨fun h1=>⟨?_,?_⟩,fun h1=>?_⟩
 ·have hlt:a+1+n<b:=by simp at h1;omega
  have hlen:=insR_length ltT a l n (by omega)
  exact lJ114 l0 a b (a+1+n) (a+1+n) _ (by omega) (by omega) _ ⟨⟨rfl,rfl,rfl,rfl,rfl,rfl,trivial⟩,⟨rfl,trivial⟩,rfl,rfl,rfl⟩
 ·have hlt:a+1+n<b:=by simp at h1;omega
  refine⟨by omega,⟨?_,rfl,rfl,rfl,rfl,trivial⟩,⟨rfl,trivial⟩,rfl,rfl,rfl⟩
  exact congrArg (fun n=>AVal.imm (i64 n)) (by rw[IntWalk.i64_in _ (by omega)];omega)
 ·have hge:b≤a+1+n:=by simp at h1;omega
  have:n=b-(a+1):=by omega
  subst this
  exact⟨rfl,by omega,⟨trivial,⟨rfl,trivial⟩,rfl,rfl,rfl⟩⟩
theorem w114 (l:List Attest)(a b:Nat)(hb:b≤l.length)(hl:l.length≤2^61)(ha:a≤2^61):WSpec prog 114 47 2 (l.map encT) [i64 a,i64 b,fnV 38] (.tup []) ((ins ltT a b l).map encT):=by
 refine WSpec.tree Proofs.Try.f114 (fun l0=>T114 l0 l (ins ltT a b l) a b) (by kernel_rfl) (by kernel_rfl) (by kernel_rfl) fun l0=>?_
 rw[t114]
 refine⟨?_,need_sat ?_ (lretW_ex ?_ ?_)⟩
 ·refine l114 l0 a b l hb hl ha _ ⟨⟨congrArg (fun n=>AVal.imm (i64 n)) (by rw[IntWalk.i64_in _ (by omega)];omega),rfl,rfl,rfl,by simp[tl],trivial⟩,⟨rfl,trivial⟩,rfl,rfl,rfl⟩
 ·exact trivial
 ·rfl
 ·exact .refl _
def ltK (a b:RKey):Bool:=decide (cmpK a b<0)
def J116 (l0:Abs.Loc)(a b i j:Nat)(x:List RKey):LState:={t:=[(9,.imm (i64 j)),(8,.imm (i64 i)),(3,.imm (fnV 41)),(2,.imm (i64 b)),(1,.imm (i64 a)),(0,.own 0 x.length)],s:=[(0,.brow l0 53 18 (x.map encK))],m:=53,n:=1}
def I116 (l0:Abs.Loc)(a b i:Nat)(x:List RKey):LState:={t:=[(8,.imm (i64 i)),(3,.imm (fnV 41)),(2,.imm (i64 b)),(1,.imm (i64 a)),(0,.own 0 x.length)],s:=[(0,.brow l0 53 18 (x.map encK))],m:=53,n:=1}
def finJ116 :Exit→Fin
 |.normal=>⟨[],[9,8,3,2,1,0],[0]⟩
 |_=>⟨[],[8,3,2,1,0],[0]⟩
def TJ116r (l0:Abs.Loc)(a b i j:Nat)(x:List RKey):Tell:=
 Tell.mk (fun x x_1=>false) (fun x x_1=>Orc.no) (fun x=>Tree.fail 1000003 0) (fun x=>0) (fun x=>([],[])) (oget [(1,4,8,Orc.elem (encK (List.getD x j default))),(1,4,13,Orc.elem (encK (List.getD x (Int.toNat (IntKind.wrap IntKind.i64 ((↑j:Int)-1))) default))),(1,4,14,Orc.call [encK (List.getD x j default),encK (List.getD x (Int.toNat (IntKind.wrap IntKind.i64 ((↑j:Int)-1))) default)] (i64 (cmpK (List.getD x j default) (List.getD x (Int.toNat (IntKind.wrap IntKind.i64 ((↑j:Int)-1))) default)))),(18,6,9,Orc.elem (encK (List.getD x (Int.toNat (IntKind.wrap IntKind.i64 ((↑j:
 Int)-1))) default))),(18,6,13,Orc.elem (encK (List.getD x j default))),(18,6,15,Orc.elem (.tup [])),(18,6,17,Orc.elem (.tup []))]) fun x x_1=>Tree.fail 1000003 0
theorem tJ116r (l0:Abs.Loc)(a b i j:Nat)(x:List RKey):levL prog Proofs.Try.f116 4 (J116 l0 a b i j x) (TJ116r l0 a b i j x) finJ116=
 Tree.br (decide ((↑a:Int)<(↑j:Int))) (.need (0≤(↑j:Int)∧j<List.length x) (.need ((List.map encK x)[j]?=some (encK (List.getD x j default))) (.need (0≤IntKind.wrap IntKind.i64 ((↑j:Int)-1)∧Int.toNat (IntKind.wrap IntKind.i64 ((↑j:Int)-1))<List.length x) (.need ((List.map encK x)[Int.toNat (IntKind.wrap IntKind.i64 ((↑j:Int)-1))]?=some (encK (List.getD x (Int.toNat (IntKind.wrap IntKind.i64 ((↑j:Int)-1))) default))) (.need (ILeL [encK (List.getD x j default),encK (List.getD x (Int.toNat (IntKind.wrap IntKind.i64 ((↑j:Int)-1))) default)] [encK (List.getD
 x j default),encK (List.getD x (Int.toNat (IntKind.wrap IntKind.i64 ((↑j:Int)-1))) default)]∧ASpec prog 41 [encK (List.getD x j default),encK (List.getD x (Int.toNat (IntKind.wrap IntKind.i64 ((↑j:Int)-1))) default)] (i64 (cmpK (List.getD x j default) (List.getD x (Int.toNat (IntKind.wrap IntKind.i64 ((↑j:Int)-1))) default)))) (.br (decide (cmpK (List.getD x j default) (List.getD x (Int.toNat (IntKind.wrap IntKind.i64 ((↑j:Int)-1))) default)<0)) (.need (0≤IntKind.wrap IntKind.i64 ((↑j:Int)-1)∧Int.toNat (IntKind.wrap IntKind.i64 ((↑j:Int)-1))<List.length x)
 (.need ((List.map encK x)[Int.toNat (IntKind.wrap IntKind.i64 ((↑j:Int)-1))]?=some (encK (List.getD x (Int.toNat (IntKind.wrap IntKind.i64 ((↑j:Int)-1))) default))) (.need (0≤(↑j:Int)∧j<List.length x) (.need ((List.map encK x)[j]?=some (encK (List.getD x j default))) (.need (0≤(↑j:Int)∧j<List.length x) (.need (j<List.length (List.map encK x)) (.need (0≤IntKind.wrap IntKind.i64 ((↑j:Int)-1)∧Int.toNat (IntKind.wrap IntKind.i64 ((↑j:Int)-1))<List.length x) (.need (Int.toNat (IntKind.wrap IntKind.i64 ((↑j:Int)-1))<List.length (List.set (List.map
 encK x) j (encK (List.getD x (Int.toNat (IntKind.wrap IntKind.i64 ((↑j:Int)-1))) default)))) (.done Exit.normal (LState.mk [(9,.imm (i64 (IntKind.wrap IntKind.i64 ((↑j:Int)-1)))),(8,.imm (i64 (↑i:Int))),(3,.imm (fnV 41)),(2,.imm (i64 (↑b:Int))),(1,.imm (i64 (↑a:Int))),(0,.own 0 (List.length x))] [(0,Entry.brow l0 53 18 (List.set (List.set (List.map encK x) j (encK (List.getD x (Int.toNat (IntKind.wrap IntKind.i64 ((↑j:Int)-1))) default))) (Int.toNat (IntKind.wrap IntKind.i64 ((↑j:Int)-1))) (encK (List.getD x j default))))] 53 39 [])))))))))) (.done (Exit.exit 2) (LState.mk
 [(8,.imm (i64 (↑i:Int))),(3,.imm (fnV 41)),(2,.imm (i64 (↑b:Int))),(1,.imm (i64 (↑a:Int))),(0,.own 0 (List.length x))] [(0,Entry.brow l0 53 18 (List.map encK x))] 53 18 [])))))))) (.done (Exit.exit 2) (LState.mk [(8,.imm (i64 (↑i:Int))),(3,.imm (fnV 41)),(2,.imm (i64 (↑b:Int))),(1,.imm (i64 (↑a:Int))),(0,.own 0 (List.length x))] [(0,Entry.brow l0 53 18 (List.map encK x))] 53 18 [])):=by kernel_rfl
theorem lJ116 (l0:Abs.Loc)(a b i j:Nat)(x:List RKey)(hj:j<x.length)(hl:x.length≤2^61)(σ:LState)(h:LSub σ (J116 l0 a b i j x)):LoopOk prog [] (bodyOf Proofs.Try.f116) 4 σ (.done (.exit 2) (I116 l0 a b i (insJ ltK a j x))):=by
 refine LoopOk.of_levL (γ:={g:Nat×List RKey//g.1<g.2.length∧g.2.length=x.length∧insJ ltK a g.1 g.2=insJ ltK a j x}) (fun g=>TJ116r l0 a b i g.1.1 g.1.2) finJ116 (fun g=>J116 l0 a b i g.1.1 g.1.2) (fun g=>g.1.1) ⟨(j,x),hj,rfl,rfl⟩ (by kernel_rfl) h ?_
 rintro⟨⟨j,y⟩,q1,q2,q3⟩
 simp only at q1 q2 q3
 simp only[]
 have e1:0<j→IntKind.i64.wrap ((j:Int)-1)=((j-1:Nat):Int):=fun h=>by rw[IntWalk.i64_in _ (by omega)];omega
 rw[tJ116r]
 refine⟨fun h1=>need_sat ?_ (need_sat (elem_need' ?_) (need_sat ?_ (need_sat (elem_need' ?_) (need_sat ⟨ILeL.refl _,c41 _ _⟩ ⟨fun h2=>need_sat ?_ (need_sat (elem_need' ?_) (need_sat ?_ (need_sat (elem_need' ?_) (need_sat ?_ (need_sat ?_ (need_sat ?_ (need_sat ?_ ?_))))))),fun h2=>?_⟩)))),fun h1=>?_⟩
 ·omega
 ·omega
 ·rw[e1 (by simp at h1;omega)];omega
 ·rw[e1 (by simp at h1;omega)];omega
 ·rw[e1 (by simp at h1;omega)];omega
 ·rw[e1 (by simp at h1;omega)];omega
 ·omega
 ·omega
 ·omega
 ·simpa using q1
 ·rw[e1 (by simp at h1;omega)];omega
 ·rw[e1 (by simp at h1;omega)];simp;omega
 ·have hj:0<j:=by simp at h1;omega
  have haj:a<j:=by simp at h1;omega
  rw[e1 hj,Int.toNat_natCast]at h2⊢
  obtain⟨k,rfl⟩:∃k,j=k+1:=⟨j-1,by omega⟩
  rw[insJ,if_pos ⟨haj,h2⟩]at q3
  refine⟨⟨(k,swp y (k+1) k),by simp only[swp_length];omega,by simp only[swp_length];omega,q3⟩,by simp only;omega,?_⟩
  refine⟨⟨rfl,rfl,rfl,rfl,rfl,congrArg (AVal.own 0) (swp_length _ _ _).symm,trivial⟩,⟨?_,trivial⟩,rfl,rfl,rfl⟩
  refine congrArg (fun l=>some (Entry.brow l0 53 18 l)) ?_
  simp only[swp,List.map_set,Nat.add_sub_cancel]
 ·have hj:0<j:=by simp at h1;omega
  rw[e1 hj,Int.toNat_natCast]at h2
  obtain⟨k,rfl⟩:∃k,j=k+1:=⟨j-1,by omega⟩
  rw[insJ,if_neg (fun hc=>by have hc2:=hc.2;rw[show ltK (y.getD (k+1) default) (y.getD k default)=false from h2]at hc2;cases hc2)]at q3
  rw[←q3]
  exact⟨rfl,⟨rfl,rfl,rfl,rfl,rfl,trivial⟩,⟨rfl,trivial⟩,rfl,rfl,rfl⟩
 ·have q4:insJ ltK a j y=y:=by
   cases j with
   |zero=>rfl
   |succ k=>rw[insJ,if_neg (fun hc=>by have:=hc.1;simp at h1;omega)]
  rw[q4]at q3
  rw[←q3]
  exact⟨rfl,⟨rfl,rfl,rfl,rfl,rfl,trivial⟩,⟨rfl,trivial⟩,rfl,rfl,rfl⟩
def E116 (l0:Abs.Loc)(x:List RKey):LState:={t:=[],s:=[(0,.brow l0 53 18 (x.map encK))],m:=53,n:=1}
def fin116 :Exit→Fin
 |.normal=>⟨[],[8,3,2,1,0],[0]⟩
 |_=>⟨[],[],[0]⟩
def T116r (l0:Abs.Loc)(a b i:Nat)(x y:List RKey):Tell:=
 Tell.mk (fun x x_1=>false) (fun x x_1=>Orc.no) (fun x=>Tree.done (Exit.exit 2) (I116 l0 a b i y)) (fun x=>0) (fun x=>([9,8,3,2,1,0],[0])) (fun x x_1 x_2=>Orc.no) fun x x_1=>Tree.done (Exit.exit 2) (I116 l0 a b i y)
theorem t116r (l0:Abs.Loc)(a b i:Nat)(x y:List RKey):levL prog Proofs.Try.f116 1 (I116 l0 a b i x) (T116r l0 a b i x y) fin116=
 Tree.br (decide ((↑i:Int)<(↑b:Int))) (.loop 4 (LState.mk [(9,.imm (i64 (↑i:Int))),(8,.imm (i64 (↑i:Int))),(3,.imm (fnV 41)),(2,.imm (i64 (↑b:Int))),(1,.imm (i64 (↑a:Int))),(0,.own 0 (List.length x))] [(0,Entry.brow l0 53 18 (List.map encK x))] 53 6 []) (.done (Exit.exit 2) (I116 l0 a b i y)) (.done Exit.normal (LState.mk [(8,.imm (i64 (IntKind.wrap IntKind.i64 ((↑i:Int)+1)))),(3,.imm (fnV 41)),(2,.imm (i64 (↑b:Int))),(1,.imm (i64 (↑a:Int))),(0,.own 0 (List.length y))] [(0,Entry.brow l0 53 18 (List.map encK y))] 53 4 []))) (.done (Exit.exit 0) (LState.mk [] [(0,Entry.brow
 l0 53 18 (List.map encK x))] 53 4 [])):=by kernel_rfl
def T116 (l0:Abs.Loc)(l y:List RKey)(a b:Nat):Tell:=
 Tell.mk (fun x x_1=>false) (fun x x_1=>Orc.no) (fun x=>Tree.done (Exit.exit 0) (E116 l0 y)) (fun x=>0) (fun x=>([8,3,2,1,0],[0])) (fun x x_1 x_2=>Orc.no) fun x x_1=>Tree.done (Exit.exit 0) (E116 l0 y)
theorem t116 (l0:Abs.Loc)(l y:List RKey)(a b:Nat):levW prog Proofs.Try.f116 l0 53 18 (l.map encK) [i64 a,i64 b,fnV 41] (T116 l0 l y a b)=
 Tree.loop 1 (LState.mk [(8,.imm (i64 (IntKind.wrap IntKind.i64 ((↑a:Int)+1)))),(3,.imm (fnV 41)),(2,.imm (i64 (↑b:Int))),(1,.imm (i64 (↑a:Int))),(0,.own 0 (List.length (List.map encK l)))] [(0,Entry.brow l0 53 18 (List.map encK l))] 53 4 []) (.done (Exit.exit 0) (E116 l0 y)) (.need (eqs []) (.done Exit.ret (lretW l0 53 18 (.tup []) (List.map encK y)))):=by kernel_rfl
theorem l116 (l0:Abs.Loc)(a b:Nat)(l:List RKey)(hb:b≤l.length)(hl:l.length≤2^61)(ha:a≤2^61)(σ:LState)(h:LSub σ (I116 l0 a b (a+1) l)):LoopOk prog [] (bodyOf Proofs.Try.f116) 1 σ (.done (.exit 0) (E116 l0 (ins ltK a b l))):=by
 refine LoopOk.count (b-(a+1)) 0 (fun n=>I116 l0 a b (a+1+n) (insR ltK a l n)) (E116 l0 (ins ltK a b l)) (fun n=>T116r l0 a b (a+1+n) (insR ltK a l n) (insR ltK a l (n+1))) fin116 (by kernel_rfl) h fun n hn=>?_
 rw[t116r]
 refine⟨fun h1=>⟨?_,?_⟩,fun h1=>?_⟩
 ·have hlt:a+1+n<b:=by simp at h1;omega
  have hlen:=insR_length ltK a l n (by omega)
  exact lJ116 l0 a b (a+1+n) (a+1+n) _ (by omega) (by omega) _ ⟨⟨rfl,rfl,rfl,rfl,rfl,rfl,trivial⟩,⟨rfl,trivial⟩,rfl,rfl,rfl⟩
 ·have hlt:a+1+n<b:=by simp at h1;omega
  refine⟨by omega,⟨?_,rfl,rfl,rfl,rfl,trivial⟩,⟨rfl,trivial⟩,rfl,rfl,rfl⟩
  exact congrArg (fun n=>AVal.imm (i64 n)) (by rw[IntWalk.i64_in _ (by omega)];omega)
 ·have hge:b≤a+1+n:=by simp at h1;omega
  have:n=b-(a+1):=by omega
  subst this
  exact⟨rfl,by omega,⟨trivial,⟨rfl,trivial⟩,rfl,rfl,rfl⟩⟩
theorem w116 (l:List RKey)(a b:Nat)(hb:b≤l.length)(hl:l.length≤2^61)(ha:a≤2^61):WSpec prog 116 53 18 (l.map encK) [i64 a,i64 b,fnV 41] (.tup []) ((ins ltK a b l).map encK):=by
 refine WSpec.tree Proofs.Try.f116 (fun l0=>T116 l0 l (ins ltK a b l) a b) (by kernel_rfl) (by kernel_rfl) (by kernel_rfl) fun l0=>?_
 rw[t116]
 refine⟨?_,need_sat ?_ (lretW_ex ?_ ?_)⟩
 ·refine l116 l0 a b l hb hl ha _ ⟨⟨congrArg (fun n=>AVal.imm (i64 n)) (by rw[IntWalk.i64_in _ (by omega)];omega),rfl,rfl,rfl,by simp[tl],trivial⟩,⟨rfl,trivial⟩,rfl,rfl,rfl⟩
 ·exact trivial
 ·rfl
 ·exact .refl _
end Gp
