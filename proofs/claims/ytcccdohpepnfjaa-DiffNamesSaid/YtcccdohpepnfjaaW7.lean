/- Part 7 of the walk and of the plain law of DiffNames. -/
import Derived.Test.YtcccdohpepnfjaaW6
import Derived.Test.YtcccdohpepnfjaaRows
import Derived.WalkKit
import Derived.ProofKit
import Derived.OpenShut
import Derived.ShutString
import Derived.ChangeOld
import Derived.Below
import Derived.Carry
set_option maxRecDepth 100000
set_option maxHeartbeats 0
set_option linter.unusedVariables false
set_option linter.unusedSimpArgs false
open Go Go.Abs
noncomputable section
namespace Gp
structure Payload.sm (p:Payload):Prop where
 o:p.origins.length≤3000
 t:p.paths.length≤3000
 k:p.keys.length≤3000
 p:∀a∈p.paths,okT a
theorem Payload.sm.ok {p:Payload}(h:p.sm):p.ok:=⟨by have:=h.o;omega,by have:=h.t;omega,by have:=h.k;omega,h.p⟩
def minusP (p q:Payload):Payload:=⟨p.origins.filter (missO q.origins),p.paths.filter (missT q.paths),p.keys.filter (missK q.keys)⟩
theorem minusP_sm {p:Payload}(h:p.sm)(q:Payload):(minusP p q).sm:=
 ⟨Nat.le_trans (List.length_filter_le _ _) h.o,Nat.le_trans (List.length_filter_le _ _) h.t,Nat.le_trans (List.length_filter_le _ _) h.k,fun a ha=>h.p a (List.mem_filter.1 ha).1⟩
def plusP (p q:Payload):Payload:=⟨sorted ltO (p.origins++q.origins),sorted ltT (p.paths++q.paths),sorted ltK (p.keys++q.keys)⟩
def dupP (p:Payload):Bool:=dupO p.origins||(dupT p.paths||dupK p.keys)
theorem totT :Tot ltT:=tw_cmpT.tot
theorem mem_sorted {α:Type}[Inhabited α]{od:α→α→Bool}(h:Tot od){l:List α}{x:α}:x∈sorted od l↔x∈l:=(sorted_spec h l).1.mem_iff
theorem plusP_ok {p q:Payload}(hp:p.sm)(hq:q.sm):(plusP p q).ok:=by
 have h1:=hp.o;have h2:=hp.t;have h3:=hp.k;have g1:=hq.o;have g2:=hq.t;have g3:=hq.k
 refine⟨?_,?_,?_,fun a ha=>?_⟩
 ·simp only[plusP,sorted_length,List.length_append];omega
 ·simp only[plusP,sorted_length,List.length_append];omega
 ·simp only[plusP,sorted_length,List.length_append];omega
 ·rcases List.mem_append.1 ((mem_sorted totT).1 ha)with h|h
  ·exact hp.p a h
  ·exact hq.p a h
def T54 (p q:Payload):Tell:=
 Tell.mk (fun x x_1=>false) (fun x x_1=>Orc.no) (fun x=>Tree.fail 1000003 0) (fun x=>0) (fun x=>([],[])) (oget [(3,1,4,Orc.call [slE 6 encO p.origins,slE 6 encO q.origins,fnV 35,fnV 75] (slE 6 encO (List.filter (missO q.origins) p.origins))),(3,1,9,Orc.call [slE 2 encT p.paths,slE 2 encT q.paths,fnV 38,fnV 50] (slE 2 encT (List.filter (missT q.paths) p.paths))),(3,1,14,Orc.call [slE 18 encK p.keys,slE 18 encK q.keys,fnV 41,fnV 78] (slE 18 encK (List.filter (missK q.keys) p.keys))),(3,1,16,Orc.call [encL (Payload.mk (List.filter (missO q.origins) p.origins) (List.filter (missT q.paths)
 p.paths) (List.filter (missK q.keys) p.keys))] (encL (Payload.mk (List.filter (missO q.origins) p.origins) (List.filter (missT q.paths) p.paths) (List.filter (missK q.keys) p.keys))))]) fun x x_1=>Tree.fail 1000003 0
theorem t54 (p q:Payload):levF prog Proofs.Try.f54 [encL p,encL q] (T54 p q)=
 Tree.need (ILeL [slE 6 encO p.origins,slE 6 encO q.origins,.v (Value.func (Fn.func 35) (Array.mk []) (Array.mk [])),.v (Value.func (Fn.func 75) (Array.mk []) (Array.mk []))] [slE 6 encO p.origins,slE 6 encO q.origins,fnV 35,fnV 75]∧ASpec prog 74 [slE 6 encO p.origins,slE 6 encO q.origins,fnV 35,fnV 75] (slE 6 encO (List.filter (missO q.origins) p.origins))) (.need (ILeL [slE 2 encT p.paths,slE 2 encT q.paths,.v (Value.func (Fn.func 38) (Array.mk []) (Array.mk [])),.v (Value.func (Fn.func 50) (Array.mk []) (Array.mk []))] [slE 2 encT p.paths,slE 2 encT q.paths,fnV 38,fnV 50]∧ASpec prog 76
 [slE 2 encT p.paths,slE 2 encT q.paths,fnV 38,fnV 50] (slE 2 encT (List.filter (missT q.paths) p.paths))) (.need (ILeL [slE 18 encK p.keys,slE 18 encK q.keys,.v (Value.func (Fn.func 41) (Array.mk []) (Array.mk [])),.v (Value.func (Fn.func 78) (Array.mk []) (Array.mk []))] [slE 18 encK p.keys,slE 18 encK q.keys,fnV 41,fnV 78]∧ASpec prog 77 [slE 18 encK p.keys,slE 18 encK q.keys,fnV 41,fnV 78] (slE 18 encK (List.filter (missK q.keys) p.keys))) (.need (ILeL [.agg [slE 6 encO (List.filter (missO q.origins) p.origins),slE 2 encT (List.filter (missT q.paths) p.paths),slE 18 encK (List.filter (missK
 q.keys) p.keys)]] [encL (Payload.mk (List.filter (missO q.origins) p.origins) (List.filter (missT q.paths) p.paths) (List.filter (missK q.keys) p.keys))]∧ASpec prog 10 [encL (Payload.mk (List.filter (missO q.origins) p.origins) (List.filter (missT q.paths) p.paths) (List.filter (missK q.keys) p.keys))] (encL (Payload.mk (List.filter (missO q.origins) p.origins) (List.filter (missT q.paths) p.paths) (List.filter (missK q.keys) p.keys)))) (.done Exit.ret (lret (.agg [slE 6 encO (Payload.mk (List.filter (missO q.origins) p.origins) (List.filter (missT q.paths) p.paths) (List.filter (missK
 q.keys) p.keys)).origins,slE 2 encT (Payload.mk (List.filter (missO q.origins) p.origins) (List.filter (missT q.paths) p.paths) (List.filter (missK q.keys) p.keys)).paths,slE 18 encK (Payload.mk (List.filter (missO q.origins) p.origins) (List.filter (missT q.paths) p.paths) (List.filter (missK q.keys) p.keys)).keys])))))):=by kernel_rfl
theorem c54 (p q:Payload)(hp:p.sm)(hq:q.sm):ASpec prog 54 [encL p,encL q] (encL (minusP p q)):=by
 have h1:=hp.o;have h2:=hp.t;have h3:=hp.k;have g1:=hq.o;have g2:=hq.t;have g3:=hq.k
 refine ASpec.treeW Proofs.Try.f54 (T54 p q) (by kernel_rfl) (by kernel_rfl) (t54 p q) ?_
 refine need_sat ⟨ILeL.refl _,c74 _ _ ?_ ?_⟩ (need_sat ⟨ILeL.refl _,c76 _ _ ?_ ?_ ?_⟩ (need_sat ⟨ILeL.refl _,c77 _ _ ?_ ?_⟩ (need_sat ⟨ILeL.refl _,c10 _ ?_⟩ ⟨_,rfl,?_⟩)))
 ·omega
 ·omega
 ·omega
 ·omega
 ·exact hq.p
 ·omega
 ·omega
 ·exact(minusP_sm hp q).ok
 ·exact .refl _
def T55 (p q:Payload):Tell:=
 Tell.mk (fun x x_1=>false) (fun x x_1=>Orc.no) (fun x=>Tree.fail 1000003 0) (fun x=>0) (fun x=>([],[])) (oget [(8,3,4,Orc.call [slE 6 encO p.origins,slE 6 encO q.origins,fnV 35] (.tup [slE 6 encO (sorted ltO (p.origins++q.origins)),bo (dupO (sorted ltO (p.origins++q.origins)))])),(19,4,4,Orc.call [slE 2 encT p.paths,slE 2 encT q.paths,fnV 38] (.tup [slE 2 encT (sorted ltT (p.paths++q.paths)),bo (dupT (sorted ltT (p.paths++q.paths)))])),(30,5,4,Orc.call [slE 18 encK p.keys,slE 18 encK q.keys,fnV 41] (.tup [slE 18 encK (sorted ltK (p.keys++q.keys)),bo (dupK (sorted ltK (p.keys
 ++q.keys)))])),(41,6,1,Orc.call [encL (Payload.mk (sorted ltO (p.origins++q.origins)) (sorted ltT (p.paths++q.paths)) (sorted ltK (p.keys++q.keys)))] (encL (Payload.mk (sorted ltO (p.origins++q.origins)) (sorted ltT (p.paths++q.paths)) (sorted ltK (p.keys++q.keys)))))]) fun x x_1=>Tree.fail 1000003 0
theorem t55 (p q:Payload):levF prog Proofs.Try.f55 [encL p,encL q] (T55 p q)=
 Tree.need (ILeL [slE 6 encO p.origins,slE 6 encO q.origins,.v (Value.func (Fn.func 35) (Array.mk []) (Array.mk []))] [slE 6 encO p.origins,slE 6 encO q.origins,fnV 35]∧ASpec prog 79 [slE 6 encO p.origins,slE 6 encO q.origins,fnV 35] (.tup [slE 6 encO (sorted ltO (p.origins++q.origins)),bo (dupO (sorted ltO (p.origins++q.origins)))])) (.need (ILeL [slE 2 encT p.paths,slE 2 encT q.paths,.v (Value.func (Fn.func 38) (Array.mk []) (Array.mk []))] [slE 2 encT p.paths,slE 2 encT q.paths,fnV 38]∧ASpec prog 80 [slE 2 encT p.paths,slE 2 encT q.paths,fnV 38] (.tup [slE 2 encT (sorted ltT (p.paths
 ++q.paths)),bo (dupT (sorted ltT (p.paths++q.paths)))])) (.need (ILeL [slE 18 encK p.keys,slE 18 encK q.keys,.v (Value.func (Fn.func 41) (Array.mk []) (Array.mk []))] [slE 18 encK p.keys,slE 18 encK q.keys,fnV 41]∧ASpec prog 81 [slE 18 encK p.keys,slE 18 encK q.keys,fnV 41] (.tup [slE 18 encK (sorted ltK (p.keys++q.keys)),bo (dupK (sorted ltK (p.keys++q.keys)))])) (.need (ILeL [.agg [slE 6 encO (sorted ltO (p.origins++q.origins)),slE 2 encT (sorted ltT (p.paths++q.paths)),slE 18 encK (sorted ltK (p.keys++q.keys))]] [encL (Payload.mk (sorted ltO (p.origins++q.origins)) (sorted
 ltT (p.paths++q.paths)) (sorted ltK (p.keys++q.keys)))]∧ASpec prog 10 [encL (Payload.mk (sorted ltO (p.origins++q.origins)) (sorted ltT (p.paths++q.paths)) (sorted ltK (p.keys++q.keys)))] (encL (Payload.mk (sorted ltO (p.origins++q.origins)) (sorted ltT (p.paths++q.paths)) (sorted ltK (p.keys++q.keys))))) (.br (dupO (sorted ltO (p.origins++q.origins))) (.done Exit.ret (lret (.tup [encL (Payload.mk (sorted ltO (p.origins++q.origins)) (sorted ltT (p.paths++q.paths)) (sorted ltK (p.keys++q.keys))),bo true]))) (.br (dupT (sorted ltT (p.paths++q.paths))) (.done Exit.ret
 (lret (.tup [encL (Payload.mk (sorted ltO (p.origins++q.origins)) (sorted ltT (p.paths++q.paths)) (sorted ltK (p.keys++q.keys))),bo true]))) (.done Exit.ret (lret (.tup [encL (Payload.mk (sorted ltO (p.origins++q.origins)) (sorted ltT (p.paths++q.paths)) (sorted ltK (p.keys++q.keys))),bo (dupK (sorted ltK (p.keys++q.keys)))])))))))):=by kernel_rfl
theorem c55 (p q:Payload)(hp:p.sm)(hq:q.sm):ASpec prog 55 [encL p,encL q] (.tup [encL (plusP p q),bo (dupP (plusP p q))]):=by
 have h1:=hp.o;have h2:=hp.t;have h3:=hp.k;have g1:=hq.o;have g2:=hq.t;have g3:=hq.k
 refine ASpec.treeW Proofs.Try.f55 (T55 p q) (by kernel_rfl) (by kernel_rfl) (t55 p q) ?_
 refine need_sat ⟨ILeL.refl _,c79 _ _ ?_ ?_⟩ (need_sat ⟨ILeL.refl _,c80 _ _ ?_ ?_⟩ (need_sat ⟨ILeL.refl _,c81 _ _ ?_ ?_⟩ (need_sat ⟨ILeL.refl _,c10 _ ?_⟩ ⟨fun h1=>⟨_,rfl,?_⟩,fun h1=>⟨fun h2=>⟨_,rfl,?_⟩,fun h2=>⟨_,rfl,?_⟩⟩⟩)))
 ·omega
 ·omega
 ·omega
 ·omega
 ·omega
 ·omega
 ·exact plusP_ok hp hq
 ·refine .tup (.cons (.refl _) (.cons (ile_bo ?_) (.refl _)))
  simp only[dupP,plusP,h1,Bool.true_or]
 ·refine .tup (.cons (.refl _) (.cons (ile_bo ?_) (.refl _)))
  simp only[dupP,plusP,h1,h2,Bool.true_or,Bool.or_true]
 ·refine .tup (.cons (.refl _) (.cons (ile_bo ?_) (.refl _)))
  simp only[dupP,plusP,h1,h2,Bool.false_or]
def T53 (p:Payload):Tell:=
 Tell.mk (fun x x_1=>false) (fun x x_1=>Orc.no) (fun x=>Tree.fail 1000003 0) (fun x=>0) (fun x=>([],[])) (fun x x_1 x_2=>Orc.no) fun x x_1=>Tree.fail 1000003 0
theorem t53 (p:Payload):levF prog Proofs.Try.f53 [encL p] (T53 p)=
 Tree.done Exit.ret (lret (i64 (IntKind.wrap IntKind.i64 (IntKind.wrap IntKind.i64 ((↑(List.length (List.map encO p.origins)):Int)+(↑(List.length (List.map encT p.paths)):Int))+(↑(List.length (List.map encK p.keys)):Int))))):=by kernel_rfl
theorem c53 (p:Payload)(hp:p.ok):ASpec prog 53 [encL p] (i64 (sizeP p)):=by
 have h1:=hp.o;have h2:=hp.t;have h3:=hp.k
 refine ASpec.treeW Proofs.Try.f53 (T53 p) (by kernel_rfl) (by kernel_rfl) (t53 p) ?_
 refine⟨_,rfl,?_⟩
 refine ile_i64 ?_
 simp only[List.length_map]
 have e1:IntKind.i64.wrap ((p.origins.length:Int)+(p.paths.length:Int))=(p.origins.length:Int)+(p.paths.length:Int):=IntWalk.i64_in _ (by omega)
 rw[e1,IntWalk.i64_in _ (by omega)];rfl
def apartP (p q:Payload):Bool:=decide (sizeP (minusP p q)=sizeP p)
def T57 (p q:Payload):Tell:=
 Tell.mk (fun x x_1=>false) (fun x x_1=>Orc.no) (fun x=>Tree.fail 1000003 0) (fun x=>0) (fun x=>([],[])) (oget [(3,1,2,Orc.call [encL p,encL q] (encL (minusP p q))),(3,1,3,Orc.call [encL (minusP p q)] (i64 (sizeP (minusP p q)))),(3,1,5,Orc.call [encL p] (i64 (sizeP p)))]) fun x x_1=>Tree.fail 1000003 0
theorem t57 (p q:Payload):levF prog Proofs.Try.f57 [encL p,encL q] (T57 p q)=
 Tree.need (ILeL [encL p,encL q] [encL p,encL q]∧ASpec prog 54 [encL p,encL q] (encL (minusP p q))) (.need (ILeL [encL (minusP p q)] [encL (minusP p q)]∧ASpec prog 53 [encL (minusP p q)] (i64 (sizeP (minusP p q)))) (.need (ILeL [encL p] [encL p]∧ASpec prog 53 [encL p] (i64 (sizeP p))) (.done Exit.ret (lret (bo (decide (sizeP (minusP p q)=sizeP p))))))):=by kernel_rfl
theorem c57 (p q:Payload)(hp:p.sm)(hq:q.sm):ASpec prog 57 [encL p,encL q] (bo (apartP p q)):=by
 refine ASpec.treeW Proofs.Try.f57 (T57 p q) (by kernel_rfl) (by kernel_rfl) (t57 p q) ?_
 refine need_sat ⟨ILeL.refl _,c54 _ _ ?_ ?_⟩ (need_sat ⟨ILeL.refl _,c53 _ ?_⟩ (need_sat ⟨ILeL.refl _,c53 _ ?_⟩ ⟨_,rfl,?_⟩))
 ·exact hp
 ·exact hq
 ·exact(minusP_sm hp q).ok
 ·exact hp.ok
 ·exact .refl _
structure Diff where
 gone:Payload
 come:Payload
 deriving DecidableEq,Inhabited
def encD (d:Diff):IVal:=.agg [slE 6 encO d.gone.origins,slE 2 encT d.gone.paths,slE 18 encK d.gone.keys,slE 6 encO d.come.origins,slE 2 encT d.come.paths,slE 18 encK d.come.keys]
structure Diff.sm (d:Diff):Prop where
 g:d.gone.sm
 c:d.come.sm
def validD (d:Diff):Int:=if ckL d.gone≠0 then ckL d.gone else if ckL d.come≠0 then ckL d.come else if apartP d.gone d.come=true then 0 else 8
def T26 (d:Diff):Tell:=
 Tell.mk (fun x x_1=>false) (fun x x_1=>Orc.no) (fun x=>Tree.fail 1000003 0) (fun x=>0) (fun x=>([],[])) (oget [(2,1,2,Orc.call [encL d.gone] (i64 (ckL d.gone))),(8,3,2,Orc.call [encL d.come] (i64 (ckL d.come))),(8,4,7,Orc.call [encL d.gone,encL d.come] (bo (apartP d.gone d.come))),(12,4,7,Orc.call [encL d.gone,encL d.come] (bo (apartP d.gone d.come)))]) fun x x_1=>Tree.fail 1000003 0
theorem t26 (d:Diff):levF prog Proofs.Try.f26 [encD d] (T26 d)=
 Tree.need (ILeL [.agg [slE 6 encO d.gone.origins,slE 2 encT d.gone.paths,slE 18 encK d.gone.keys]] [encL d.gone]∧ASpec prog 13 [encL d.gone] (i64 (ckL d.gone))) (.br (decide (ckL d.gone=0)) (.need (ILeL [.agg [slE 6 encO d.come.origins,slE 2 encT d.come.paths,slE 18 encK d.come.keys]] [encL d.come]∧ASpec prog 13 [encL d.come] (i64 (ckL d.come))) (.br (decide (ckL d.come=0)) (.need (ILeL [.agg [slE 6 encO d.gone.origins,slE 2 encT d.gone.paths,slE 18 encK d.gone.keys],.agg [slE 6 encO d.come.origins,slE 2 encT d.come.paths,slE 18 encK d.come.keys]] [encL d.gone,encL d.come]∧ASpec prog
 57 [encL d.gone,encL d.come] (bo (apartP d.gone d.come))) (.br (!apartP d.gone d.come) (.done Exit.ret (lret (i64 8))) (.done Exit.ret (lret (i64 (ckL d.come)))))) (.done Exit.ret (lret (i64 (ckL d.come)))))) (.br (decide (ckL d.gone=0)) (.need (ILeL [.agg [slE 6 encO d.gone.origins,slE 2 encT d.gone.paths,slE 18 encK d.gone.keys],.agg [slE 6 encO d.come.origins,slE 2 encT d.come.paths,slE 18 encK d.come.keys]] [encL d.gone,encL d.come]∧ASpec prog 57 [encL d.gone,encL d.come] (bo (apartP d.gone d.come))) (.br (!apartP d.gone d.come) (.done Exit.ret (lret (i64 8))) (.done Exit.ret (lret (i64
 (ckL d.gone)))))) (.done Exit.ret (lret (i64 (ckL d.gone)))))):=by kernel_rfl
theorem c26 (d:Diff)(hd:d.sm):ASpec prog 26 [encD d] (i64 (validD d)):=by
 refine ASpec.treeW Proofs.Try.f26 (T26 d) (by kernel_rfl) (by kernel_rfl) (t26 d) ?_
 refine need_sat ⟨ILeL.refl _,c13 _⟩ ⟨fun h1=>need_sat ⟨ILeL.refl _,c13 _⟩ ⟨fun h2=>need_sat ⟨ILeL.refl _,c57 _ _ ?_ ?_⟩ ⟨fun h3=>⟨_,rfl,?_⟩,fun h3=>⟨_,rfl,?_⟩⟩,fun h2=>⟨_,rfl,?_⟩⟩,fun h1=>⟨fun h2=>need_sat ⟨ILeL.refl _,c57 _ _ ?_ ?_⟩ ⟨fun h3=>⟨_,rfl,?_⟩,fun h3=>⟨_,rfl,?_⟩⟩,fun h2=>⟨_,rfl,?_⟩⟩⟩
 ·exact hd.g
 ·exact hd.c
 ·simp only[decide_eq_true_eq,Bool.not_eq_true']at h1 h2 h3;exact ile_i64 (by simp[validD,h1,h2,h3])
 ·simp only[decide_eq_true_eq,Bool.not_eq_false']at h1 h2 h3;exact ile_i64 (by simp[validD,h1,h2,h3])
 ·simp only[decide_eq_true_eq,decide_eq_false_iff_not]at h1 h2;exact ile_i64 (by simp[validD,h1,h2])
 ·exact hd.g
 ·exact hd.c
 ·simp only[decide_eq_true_eq,decide_eq_false_iff_not]at h1 h2;exact absurd h2 h1
 ·simp only[decide_eq_true_eq,decide_eq_false_iff_not]at h1 h2;exact absurd h2 h1
 ·simp only[decide_eq_true_eq,decide_eq_false_iff_not]at h1 h2;exact ile_i64 (by simp[validD,h1])
end Gp
namespace Gp
def noP :Payload:=⟨[],[],[]⟩
def noD :Diff:=⟨noP,noP⟩
def betweenS (a b:Payload):Diff×Int:=if ckL a≠0 then(noD,ckL a)else if ckL b≠0 then(noD,ckL b)else(⟨minusP a b,minusP b a⟩,0)
def applyS (p:Payload)(d:Diff):Payload×Int:=
 if ckL p≠0 then(noP,ckL p)else if validD d≠0 then(noP,validD d)else if 0<sizeP (minusP d.gone p)then(noP,6)
 else if dupP (plusP (minusP p d.gone) d.come)=true then(noP,14)else if ckL (plusP (minusP p d.gone) d.come)≠0 then(noP,ckL (plusP (minusP p d.gone) d.come))else(plusP (minusP p d.gone) d.come,0)
def inverseS (d:Diff):Diff×Int:=if validD d≠0 then(noD,validD d)else(⟨d.come,d.gone⟩,0)
def joinP (a b la lb:Payload):Payload:=plusP (minusP a la) (minusP b lb)
def joinB (a b la lb:Payload):Bool:=dupP (plusP (minusP a la) (minusP b lb))||!apartP a b
def beforeS (a b:Int):Bool×Int:=if IntKind.u32.wrap (b-a)=2147483648 then(false,2)else(decide (IntKind.u32.wrap (b-a)≠0)&&decide (IntKind.u32.wrap (b-a)<2147483648),0)
theorem no_leaf {x y:Int}(h:x=y):ILe (.tup [.agg [.v (.slice none 0 0),.v (.slice none 0 0),.v (.slice none 0 0)],.v (.int .i64 x)]) (.tup [encL noP,i64 y]):=by
 subst h;exact .tup (.cons (.agg (.cons (.nil _ _ _) (.cons (.nil _ _ _) (.cons (.nil _ _ _) (.refl _))))) (.refl _))
theorem noD_leaf {x y:Int}(h:x=y):ILe (.tup [.agg [.v (.slice none 0 0),.v (.slice none 0 0),.v (.slice none 0 0),.v (.slice none 0 0),.v (.slice none 0 0),.v (.slice none 0 0)],.v (.int .i64 x)]) (.tup [encD noD,i64 y]):=by
 subst h;exact .tup (.cons (.agg (.cons (.nil _ _ _) (.cons (.nil _ _ _) (.cons (.nil _ _ _) (.cons (.nil _ _ _) (.cons (.nil _ _ _) (.cons (.nil _ _ _) (.refl _)))))))) (.refl _))
theorem pair_leaf {a b:IVal}{x y:Int}(h:a=b)(h2:x=y):ILe (.tup [a,.v (.int .i64 x)]) (.tup [b,i64 y]):=by
 subst h h2;exact .refl _
theorem bit_t {p:Prop}[Decidable p](h:decide p=true):p:=of_decide_eq_true h
theorem bit_f {p:Prop}[Decidable p](h:decide p=false):¬p:=of_decide_eq_false h
theorem nbit_t {p:Prop}[Decidable p](h:(!decide p)=true):¬p:=by simpa using h
theorem nbit_f {p:Prop}[Decidable p](h:(!decide p)=false):p:=by simpa using h
def T24 (p q:Payload):Tell:=
 Tell.mk (fun x x_1=>false) (fun x x_1=>Orc.no) (fun x=>Tree.fail 1000003 0) (fun x=>0) (fun x=>([],[])) (oget [(4,1,1,Orc.call [encL p] (i64 (ckL p))),(9,3,1,Orc.call [encL q] (i64 (ckL q))),(11,6,2,Orc.call [encL p,encL q] (encL (minusP p q))),(14,6,2,Orc.call [encL p,encL q] (encL (minusP p q))),(11,6,5,Orc.call [encL q,encL p] (encL (minusP q p))),(14,6,5,Orc.call [encL q,encL p] (encL (minusP q p)))]) fun x x_1=>Tree.fail 1000003 0
theorem t24 (p q:Payload):levF prog Proofs.Try.f24 [encL p,encL q] (T24 p q)=
 Tree.need (ILeL [encL p] [encL p]∧ASpec prog 13 [encL p] (i64 (ckL p))) (.br (decide (ckL p=0)) (.need (ILeL [encL q] [encL q]∧ASpec prog 13 [encL q] (i64 (ckL q))) (.br (!decide (ckL q=0)) (.done Exit.ret (lret (.tup [.agg [nS,nS,nS,nS,nS,nS],i64 (ckL q)]))) (.need (ILeL [encL p,encL q] [encL p,encL q]∧ASpec prog 54 [encL p,encL q] (encL (minusP p q))) (.need (ILeL [encL q,encL p] [encL q,encL p]∧ASpec prog 54 [encL q,encL p] (encL (minusP q p))) (.done Exit.ret (lret (.tup [.agg [slE 6 encO (minusP p q).origins,slE 2 encT (minusP p q).paths,slE 18 encK (minusP p q).keys,slE 6 encO
 (minusP q p).origins,slE 2 encT (minusP q p).paths,slE 18 encK (minusP q p).keys],i64 0]))))))) (.br (!decide (ckL p=0)) (.done Exit.ret (lret (.tup [.agg [nS,nS,nS,nS,nS,nS],i64 (ckL p)]))) (.need (ILeL [encL p,encL q] [encL p,encL q]∧ASpec prog 54 [encL p,encL q] (encL (minusP p q))) (.need (ILeL [encL q,encL p] [encL q,encL p]∧ASpec prog 54 [encL q,encL p] (encL (minusP q p))) (.done Exit.ret (lret (.tup [.agg [slE 6 encO (minusP p q).origins,slE 2 encT (minusP p q).paths,slE 18 encK (minusP p q).keys,slE 6 encO (minusP q p).origins,slE 2 encT (minusP q p).paths,slE 18 encK (minusP q
 p).keys],i64 0]))))))):=by kernel_rfl
theorem c24 (p q:Payload)(hp:p.sm)(hq:q.sm):ASpec prog 24 [encL p,encL q] (.tup [encD (betweenS p q).1,i64 (betweenS p q).2]):=by
 refine ASpec.treeW Proofs.Try.f24 (T24 p q) (by kernel_rfl) (by kernel_rfl) (t24 p q) ?_
 refine need_sat ⟨ILeL.refl _,c13 _⟩ ⟨fun h1=>need_sat ⟨ILeL.refl _,c13 _⟩ ⟨fun h2=>⟨_,rfl,?_⟩,fun h2=>need_sat ⟨ILeL.refl _,c54 _ _ ?_ ?_⟩ (need_sat ⟨ILeL.refl _,c54 _ _ ?_ ?_⟩ ⟨_,rfl,?_⟩)⟩,fun h1=>⟨fun h2=>⟨_,rfl,?_⟩,fun h2=>need_sat ⟨ILeL.refl _,c54 _ _ ?_ ?_⟩ (need_sat ⟨ILeL.refl _,c54 _ _ ?_ ?_⟩ ⟨_,rfl,?_⟩)⟩⟩
 all_goals try exact absurd (nbit_f h2) (bit_f h1)
 ·rw[betweenS,if_neg (Decidable.not_not.2 (bit_t h1)),if_pos (nbit_t h2)];exact noD_leaf rfl
 ·exact hp
 ·exact hq
 ·exact hq
 ·exact hp
 ·rw[betweenS,if_neg (Decidable.not_not.2 (bit_t h1)),if_neg (Decidable.not_not.2 (nbit_f h2))];exact pair_leaf rfl rfl
 ·rw[betweenS,if_pos (bit_f h1)];exact noD_leaf rfl
def T19 (p:Payload)(d:Diff):Tell:=
 Tell.mk (fun x x_1=>false) (fun x x_1=>Orc.no) (fun x=>Tree.fail 1000003 0) (fun x=>0) (fun x=>([],[])) (oget [(4,1,1,Orc.call [encL p] (i64 (ckL p))),(9,3,1,Orc.call [encD d] (i64 (validD d))),(11,6,3,Orc.call [encL d.gone,encL p] (encL (minusP d.gone p))),(14,6,3,Orc.call [encL d.gone,encL p] (encL (minusP d.gone p))),(11,6,4,Orc.call [encL (minusP d.gone p)] (i64 (sizeP (minusP d.gone p)))),(14,6,4,Orc.call [encL (minusP d.gone p)] (i64 (sizeP (minusP d.gone p)))),(17,8,3,Orc.call [encL p,encL d.gone] (encL (minusP p d.gone))),(20,8,3,Orc.call [encL p,encL d.gone] (encL (minusP p
 d.gone))),(17,8,6,Orc.call [encL (minusP p d.gone),encL d.come] (.tup [encL (plusP (minusP p d.gone) d.come),bo (dupP (plusP (minusP p d.gone) d.come))])),(20,8,6,Orc.call [encL (minusP p d.gone),encL d.come] (.tup [encL (plusP (minusP p d.gone) d.come),bo (dupP (plusP (minusP p d.gone) d.come))])),(31,11,1,Orc.call [encL (plusP (minusP p d.gone) d.come)] (i64 (ckL (plusP (minusP p d.gone) d.come)))),(34,11,1,Orc.call [encL (plusP (minusP p d.gone) d.come)] (i64 (ckL (plusP (minusP p d.gone) d.come))))]) fun x x_1=>Tree.fail 1000003 0
theorem t19 (p:Payload)(d:Diff):levF prog Proofs.Try.f19 [encL p,encD d] (T19 p d)=
 Tree.need (ILeL [encL p] [encL p]∧ASpec prog 13 [encL p] (i64 (ckL p))) (.br (decide (ckL p=0)) (.need (ILeL [encD d] [encD d]∧ASpec prog 26 [encD d] (i64 (validD d))) (.br (!decide (validD d=0)) (.done Exit.ret (lret (.tup [.agg [nS,nS,nS],i64 (validD d)]))) (.need (ILeL [.agg [slE 6 encO d.gone.origins,slE 2 encT d.gone.paths,slE 18 encK d.gone.keys],encL p] [encL d.gone,encL p]∧ASpec prog 54 [encL d.gone,encL p] (encL (minusP d.gone p))) (.need (ILeL [encL (minusP d.gone p)] [encL (minusP d.gone p)]∧ASpec prog 53 [encL (minusP d.gone p)] (i64 (sizeP (minusP d.gone p)))) (.br
 (decide (0<sizeP (minusP d.gone p))) (.done Exit.ret (lret (.tup [.agg [nS,nS,nS],i64 6]))) (.need (ILeL [encL p,.agg [slE 6 encO d.gone.origins,slE 2 encT d.gone.paths,slE 18 encK d.gone.keys]] [encL p,encL d.gone]∧ASpec prog 54 [encL p,encL d.gone] (encL (minusP p d.gone))) (.need (ILeL [encL (minusP p d.gone),.agg [slE 6 encO d.come.origins,slE 2 encT d.come.paths,slE 18 encK d.come.keys]] [encL (minusP p d.gone),encL d.come]∧ASpec prog 55 [encL (minusP p d.gone),encL d.come] (.tup [encL (plusP (minusP p d.gone) d.come),bo (dupP (plusP (minusP p d.gone) d.come))])) (.br (dupP (plusP
 (minusP p d.gone) d.come)) (.done Exit.ret (lret (.tup [.agg [nS,nS,nS],i64 14]))) (.need (ILeL [encL (plusP (minusP p d.gone) d.come)] [encL (plusP (minusP p d.gone) d.come)]∧ASpec prog 13 [encL (plusP (minusP p d.gone) d.come)] (i64 (ckL (plusP (minusP p d.gone) d.come)))) (.br (!decide (ckL (plusP (minusP p d.gone) d.come)=0)) (.done Exit.ret (lret (.tup [.agg [nS,nS,nS],i64 (ckL (plusP (minusP p d.gone) d.come))]))) (.done Exit.ret (lret (.tup [encL (plusP (minusP p d.gone) d.come),i64 0]))))))))))))) (.br (!decide (ckL p=0)) (.done Exit.ret (lret (.tup [.agg [nS,nS,nS],i64 (ckL
 p)]))) (.need (ILeL [.agg [slE 6 encO d.gone.origins,slE 2 encT d.gone.paths,slE 18 encK d.gone.keys],encL p] [encL d.gone,encL p]∧ASpec prog 54 [encL d.gone,encL p] (encL (minusP d.gone p))) (.need (ILeL [encL (minusP d.gone p)] [encL (minusP d.gone p)]∧ASpec prog 53 [encL (minusP d.gone p)] (i64 (sizeP (minusP d.gone p)))) (.br (decide (0<sizeP (minusP d.gone p))) (.done Exit.ret (lret (.tup [.agg [nS,nS,nS],i64 6]))) (.need (ILeL [encL p,.agg [slE 6 encO d.gone.origins,slE 2 encT d.gone.paths,slE 18 encK d.gone.keys]] [encL p,encL d.gone]∧ASpec prog 54 [encL p,encL d.gone] (encL
 (minusP p d.gone))) (.need (ILeL [encL (minusP p d.gone),.agg [slE 6 encO d.come.origins,slE 2 encT d.come.paths,slE 18 encK d.come.keys]] [encL (minusP p d.gone),encL d.come]∧ASpec prog 55 [encL (minusP p d.gone),encL d.come] (.tup [encL (plusP (minusP p d.gone) d.come),bo (dupP (plusP (minusP p d.gone) d.come))])) (.br (dupP (plusP (minusP p d.gone) d.come)) (.done Exit.ret (lret (.tup [.agg [nS,nS,nS],i64 14]))) (.need (ILeL [encL (plusP (minusP p d.gone) d.come)] [encL (plusP (minusP p d.gone) d.come)]∧ASpec prog 13 [encL (plusP (minusP p d.gone) d.come)] (i64 (ckL (plusP (minusP p
 d.gone) d.come)))) (.br (!decide (ckL (plusP (minusP p d.gone) d.come)=0)) (.done Exit.ret (lret (.tup [.agg [nS,nS,nS],i64 (ckL (plusP (minusP p d.gone) d.come))]))) (.done Exit.ret (lret (.tup [encL (plusP (minusP p d.gone) d.come),i64 0]))))))))))))):=by kernel_rfl
theorem c19 (p:Payload)(d:Diff)(hp:p.sm)(hd:d.sm):ASpec prog 19 [encL p,encD d] (.tup [encL (applyS p d).1,i64 (applyS p d).2]):=by
 refine ASpec.treeW Proofs.Try.f19 (T19 p d) (by kernel_rfl) (by kernel_rfl) (t19 p d) ?_
 refine need_sat ⟨ILeL.refl _,c13 _⟩ ⟨fun h1=>need_sat ⟨ILeL.refl _,c26 _ ?_⟩ ⟨fun h2=>⟨_,rfl,?_⟩,fun h2=>need_sat ⟨ILeL.refl _,c54 _ _ ?_ ?_⟩ (need_sat ⟨ILeL.refl _,c53 _ ?_⟩ ⟨fun h3=>⟨_,rfl,?_⟩,fun h3=>need_sat ⟨ILeL.refl _,c54 _ _ ?_ ?_⟩ (need_sat ⟨ILeL.refl _,c55 _ _ ?_ ?_⟩ ⟨fun h4=>⟨_,rfl,?_⟩,fun h4=>need_sat ⟨ILeL.refl _,c13 _⟩ ⟨fun h5=>⟨_,rfl,?_⟩,fun h5=>⟨_,rfl,?_⟩⟩⟩)⟩)⟩,fun h1=>⟨fun h2=>⟨_,rfl,?_⟩,fun h2=>need_sat ⟨ILeL.refl _,c54 _ _ ?_ ?_⟩ (need_sat ⟨ILeL.refl _,c53 _ ?_⟩ ⟨fun h3=>⟨_,rfl,?_⟩,fun h3=>need_sat ⟨ILeL.refl _,c54 _ _ ?_ ?_⟩ (need_sat ⟨ILeL.refl _,c55 _ _ ?_ ?_⟩ ⟨fun h4=>⟨_,rfl,?_⟩,fun h4=>need_sat ⟨ILeL.refl _,c13 _⟩ ⟨fun h5=>⟨_,rfl,?_⟩,fun h5=>⟨_,rfl,?_⟩⟩⟩)⟩)⟩⟩
 all_goals try exact absurd (nbit_f h2) (bit_f h1)
 ·exact hd
 ·rw[applyS,if_neg (Decidable.not_not.2 (bit_t h1)),if_pos (nbit_t h2)];exact no_leaf rfl
 ·exact hd.g
 ·exact hp
 ·exact(minusP_sm hd.g p).ok
 ·rw[applyS,if_neg (Decidable.not_not.2 (bit_t h1)),if_neg (Decidable.not_not.2 (nbit_f h2)),if_pos (bit_t h3)];exact no_leaf rfl
 ·exact hp
 ·exact hd.g
 ·exact minusP_sm hp _
 ·exact hd.c
 ·rw[applyS,if_neg (Decidable.not_not.2 (bit_t h1)),if_neg (Decidable.not_not.2 (nbit_f h2)),if_neg (bit_f h3),if_pos h4];exact no_leaf rfl
 ·rw[applyS,if_neg (Decidable.not_not.2 (bit_t h1)),if_neg (Decidable.not_not.2 (nbit_f h2)),if_neg (bit_f h3),if_neg (by rw[h4];decide),if_pos (nbit_t h5)];exact no_leaf rfl
 ·rw[applyS,if_neg (Decidable.not_not.2 (bit_t h1)),if_neg (Decidable.not_not.2 (nbit_f h2)),if_neg (bit_f h3),if_neg (by rw[h4];decide),if_neg (Decidable.not_not.2 (nbit_f h5))];exact pair_leaf rfl rfl
 ·rw[applyS,if_pos (bit_f h1)];exact no_leaf rfl
def T25 (d:Diff):Tell:=
 Tell.mk (fun x x_1=>false) (fun x x_1=>Orc.no) (fun x=>Tree.fail 1000003 0) (fun x=>0) (fun x=>([],[])) (oget [(3,1,1,Orc.call [encD d] (i64 (validD d))),(8,4,2,Orc.call [encL d.come] (encL d.come)),(8,4,5,Orc.call [encL d.gone] (encL d.gone))]) fun x x_1=>Tree.fail 1000003 0
theorem t25 (d:Diff):levF prog Proofs.Try.f25 [encD d] (T25 d)=
 Tree.need (ILeL [encD d] [encD d]∧ASpec prog 26 [encD d] (i64 (validD d))) (.br (!decide (validD d=0)) (.done Exit.ret (lret (.tup [.agg [nS,nS,nS,nS,nS,nS],i64 (validD d)]))) (.need (ILeL [.agg [slE 6 encO d.come.origins,slE 2 encT d.come.paths,slE 18 encK d.come.keys]] [encL d.come]∧ASpec prog 10 [encL d.come] (encL d.come)) (.need (ILeL [.agg [slE 6 encO d.gone.origins,slE 2 encT d.gone.paths,slE 18 encK d.gone.keys]] [encL d.gone]∧ASpec prog 10 [encL d.gone] (encL d.gone)) (.done Exit.ret (lret (.tup [.agg [slE 6 encO d.come.origins,slE 2 encT d.come.paths,slE 18 encK
 d.come.keys,slE 6 encO d.gone.origins,slE 2 encT d.gone.paths,slE 18 encK d.gone.keys],i64 0])))))):=by kernel_rfl
theorem c25 (d:Diff)(hd:d.sm):ASpec prog 25 [encD d] (.tup [encD (inverseS d).1,i64 (inverseS d).2]):=by
 refine ASpec.treeW Proofs.Try.f25 (T25 d) (by kernel_rfl) (by kernel_rfl) (t25 d) ?_
 refine need_sat ⟨ILeL.refl _,c26 _ ?_⟩ ⟨fun h1=>⟨_,rfl,?_⟩,fun h1=>need_sat ⟨ILeL.refl _,c10 _ ?_⟩ (need_sat ⟨ILeL.refl _,c10 _ ?_⟩ ⟨_,rfl,?_⟩)⟩
 ·exact hd
 ·rw[inverseS,if_pos (nbit_t h1)];exact noD_leaf rfl
 ·exact hd.c.ok
 ·exact hd.g.ok
 ·rw[inverseS,if_neg (Decidable.not_not.2 (nbit_f h1))];exact pair_leaf rfl rfl
def T56 (a b c d:Payload):Tell:=
 Tell.mk (fun x x_1=>false) (fun x x_1=>Orc.no) (fun x=>Tree.fail 1000003 0) (fun x=>0) (fun x=>([],[])) (oget [(6,1,2,Orc.call [encL a,encL c] (encL (minusP a c))),(6,1,5,Orc.call [encL b,encL d] (encL (minusP b d))),(6,1,6,Orc.call [encL (minusP a c),encL (minusP b d)] (.tup [encL (plusP (minusP a c) (minusP b d)),bo (dupP (plusP (minusP a c) (minusP b d)))])),(19,2,5,Orc.call [encL a,encL b] (bo (apartP a b)))]) fun x x_1=>Tree.fail 1000003 0
theorem t56 (a b c d:Payload):levF prog Proofs.Try.f56 [encL a,encL b,encL c,encL d] (T56 a b c d)=
 Tree.need (ILeL [encL a,encL c] [encL a,encL c]∧ASpec prog 54 [encL a,encL c] (encL (minusP a c))) (.need (ILeL [encL b,encL d] [encL b,encL d]∧ASpec prog 54 [encL b,encL d] (encL (minusP b d))) (.need (ILeL [encL (minusP a c),encL (minusP b d)] [encL (minusP a c),encL (minusP b d)]∧ASpec prog 55 [encL (minusP a c),encL (minusP b d)] (.tup [encL (plusP (minusP a c) (minusP b d)),bo (dupP (plusP (minusP a c) (minusP b d)))])) (.br (dupP (plusP (minusP a c) (minusP b d))) (.done Exit.ret (lret (.tup [encL (plusP (minusP a c) (minusP b d)),bo true]))) (.need (ILeL [encL a,encL b] [encL
 a,encL b]∧ASpec prog 57 [encL a,encL b] (bo (apartP a b))) (.done Exit.ret (lret (.tup [encL (plusP (minusP a c) (minusP b d)),.v (Value.bool !apartP a b)]))))))):=by kernel_rfl
theorem c56 (a b c d:Payload)(ha:a.sm)(hb:b.sm)(hc:c.sm)(hd:d.sm):ASpec prog 56 [encL a,encL b,encL c,encL d] (.tup [encL (joinP a b c d),bo (joinB a b c d)]):=by
 refine ASpec.treeW Proofs.Try.f56 (T56 a b c d) (by kernel_rfl) (by kernel_rfl) (t56 a b c d) ?_
 refine need_sat ⟨ILeL.refl _,c54 _ _ ?_ ?_⟩ (need_sat ⟨ILeL.refl _,c54 _ _ ?_ ?_⟩ (need_sat ⟨ILeL.refl _,c55 _ _ ?_ ?_⟩ ⟨fun h1=>⟨_,rfl,?_⟩,fun h1=>need_sat ⟨ILeL.refl _,c57 _ _ ?_ ?_⟩ ⟨_,rfl,?_⟩⟩))
 ·exact ha
 ·exact hc
 ·exact hb
 ·exact hd
 ·exact minusP_sm ha _
 ·exact minusP_sm hb _
 ·exact .tup (.cons (.refl _) (.cons (ile_bo (by simp only[joinB,h1,Bool.true_or])) (.refl _)))
 ·exact ha
 ·exact hb
 ·exact .tup (.cons (.refl _) (.cons (ile_bo (by simp only[joinB,h1,Bool.false_or])) (.refl _)))
def T11 (a b:Int):Tell:=
 Tell.mk (fun x x_1=>false) (fun x x_1=>Orc.no) (fun x=>Tree.fail 1000003 0) (fun x=>0) (fun x=>([],[])) (fun x x_1 x_2=>Orc.no) fun x x_1=>Tree.fail 1000003 0
theorem t11 (a b:Int):levF prog Proofs.Try.f11 [u32 a,u32 b] (T11 a b)=
 Tree.br (decide (IntKind.wrap IntKind.u32 (b-a)=2147483648)) (.done Exit.ret (lret (.tup [bo false,i64 2]))) (.br (!decide (IntKind.wrap IntKind.u32 (b-a)=0)) (.done Exit.ret (lret (.tup [bo (decide (IntKind.wrap IntKind.u32 (b-a)<2147483648)),i64 0]))) (.done Exit.ret (lret (.tup [bo false,i64 0])))):=by kernel_rfl
theorem c11 (a b:Int):ASpec prog 11 [u32 a,u32 b] (.tup [bo (beforeS a b).1,i64 (beforeS a b).2]):=by
 refine ASpec.treeW Proofs.Try.f11 (T11 a b) (by kernel_rfl) (by kernel_rfl) (t11 a b) ?_
 refine⟨fun h1=>⟨_,rfl,?_⟩,fun h1=>⟨fun h2=>⟨_,rfl,?_⟩,fun h2=>⟨_,rfl,?_⟩⟩⟩
 ·rw[beforeS,if_pos (bit_t h1)];exact .refl _
 ·rw[beforeS,if_neg (bit_f h1)]
  exact .tup (.cons (ile_bo (by rw[decide_eq_true (nbit_t h2),Bool.true_and])) (.refl _))
 ·rw[beforeS,if_neg (bit_f h1)]
  exact .tup (.cons (ile_bo (by rw[decide_eq_false (Decidable.not_not.2 (nbit_f h2)),Bool.false_and])) (.refl _))
def T21 (d f:Diff):Tell:=
 Tell.mk (fun x x_1=>false) (fun x x_1=>Orc.no) (fun x=>Tree.fail 1000003 0) (fun x=>0) (fun x=>([],[])) (oget [(3,1,4,Orc.call [encL d.gone,encL f.gone] (bo (decide (d.gone=f.gone)))),(3,1,10,Orc.call [encL d.come,encL f.come] (bo (decide (d.come=f.come))))]) fun x x_1=>Tree.fail 1000003 0
theorem t21 (d f:Diff):levF prog Proofs.Try.f21 [encD d,encD f] (T21 d f)=
 Tree.need (ILeL [.agg [slE 6 encO d.gone.origins,slE 2 encT d.gone.paths,slE 18 encK d.gone.keys],.agg [slE 6 encO f.gone.origins,slE 2 encT f.gone.paths,slE 18 encK f.gone.keys]] [encL d.gone,encL f.gone]∧ASpec prog 16 [encL d.gone,encL f.gone] (bo (decide (d.gone=f.gone)))) (.br (decide (d.gone=f.gone)) (.need (ILeL [.agg [slE 6 encO d.come.origins,slE 2 encT d.come.paths,slE 18 encK d.come.keys],.agg [slE 6 encO f.come.origins,slE 2 encT f.come.paths,slE 18 encK f.come.keys]] [encL d.come,encL f.come]∧ASpec prog 16 [encL d.come,encL f.come] (bo (decide (d.come=f.come)))) (.done
 Exit.ret (lret (bo (decide (d.come=f.come)))))) (.done Exit.ret (lret (bo false)))):=by kernel_rfl
theorem c21 (d f:Diff)(hd:d.sm):ASpec prog 21 [encD d,encD f] (bo (decide (d=f))):=by
 refine ASpec.treeW Proofs.Try.f21 (T21 d f) (by kernel_rfl) (by kernel_rfl) (t21 d f) ?_
 have hab:decide (d=f)=(decide (d.gone=f.gone)&&decide (d.come=f.come)):=by
  rw[Bool.eq_iff_iff];cases d;cases f;simp
 rw[hab]
 refine need_sat ⟨ILeL.refl _,c16 _ _ ?_⟩ ⟨fun h1=>need_sat ⟨ILeL.refl _,c16 _ _ ?_⟩ ⟨_,rfl,?_⟩,fun h1=>⟨_,rfl,?_⟩⟩
 ·exact hd.g.ok
 ·exact hd.c.ok
 ·exact ile_bo (by rw[h1,Bool.true_and])
 ·exact ile_bo (by rw[h1,Bool.false_and])
def composeS (d f:Diff):Diff×Int:=
 if validD d≠0 then(noD,validD d)else if validD f≠0 then(noD,validD f)
 else if joinB d.gone f.gone f.come d.come=true then(noD,6)else if joinB d.come f.come f.gone d.gone=true then(noD,14)
 else if ckL (joinP d.gone f.gone f.come d.come)≠0∨ckL (joinP d.come f.come f.gone d.gone)≠0 then(noD,4)
 else(⟨joinP d.gone f.gone f.come d.come,joinP d.come f.come f.gone d.gone⟩,0)
def T20 (d f:Diff):Tell:=
 Tell.mk (fun x x_1=>false) (fun x x_1=>Orc.no) (fun x=>Tree.fail 1000003 0) (fun x=>0) (fun x=>([],[])) (oget [(4,1,1,Orc.call [encD d] (i64 (validD d))),(9,3,1,Orc.call [encD f] (i64 (validD f))),(12,7,9,Orc.call [encL d.gone,encL f.gone,encL f.come,encL d.come] (.tup [encL (joinP d.gone f.gone f.come d.come),bo (joinB d.gone f.gone f.come d.come)])),(15,7,9,Orc.call [encL d.gone,encL f.gone,encL f.come,encL d.come] (.tup [encL (joinP d.gone f.gone f.come d.come),bo (joinB d.gone f.gone f.come d.come)])),(29,10,9,Orc.call [encL d.come,encL f.come,encL f.gone,encL d.gone] (.tup [encL
 (joinP d.come f.come f.gone d.gone),bo (joinB d.come f.come f.gone d.gone)])),(32,10,9,Orc.call [encL d.come,encL f.come,encL f.gone,encL d.gone] (.tup [encL (joinP d.come f.come f.gone d.gone),bo (joinB d.come f.come f.gone d.gone)])),(46,13,1,Orc.call [encL (joinP d.gone f.gone f.come d.come)] (i64 (ckL (joinP d.gone f.gone f.come d.come)))),(49,13,1,Orc.call [encL (joinP d.gone f.gone f.come d.come)] (i64 (ckL (joinP d.gone f.gone f.come d.come)))),(46,13,5,Orc.call [encL (joinP d.come f.come f.gone d.gone)] (i64 (ckL (joinP d.come f.come f.gone d.gone)))),(49,13,5,Orc.call [encL (joinP
 d.come f.come f.gone d.gone)] (i64 (ckL (joinP d.come f.come f.gone d.gone))))]) fun x x_1=>Tree.fail 1000003 0
theorem t20 (d f:Diff):levF prog Proofs.Try.f20 [encD d,encD f] (T20 d f)=
 Tree.need (ILeL [encD d] [encD d]∧ASpec prog 26 [encD d] (i64 (validD d))) (.br (decide (validD d=0)) (.need (ILeL [encD f] [encD f]∧ASpec prog 26 [encD f] (i64 (validD f))) (.br (!decide (validD f=0)) (.done Exit.ret (lret (.tup [.agg [nS,nS,nS,nS,nS,nS],i64 (validD f)]))) (.need (ILeL [.agg [slE 6 encO d.gone.origins,slE 2 encT d.gone.paths,slE 18 encK d.gone.keys],.agg [slE 6 encO f.gone.origins,slE 2 encT f.gone.paths,slE 18 encK f.gone.keys],.agg [slE 6 encO f.come.origins,slE 2 encT f.come.paths,slE 18 encK f.come.keys],.agg [slE 6 encO d.come.origins,slE 2 encT d.come.paths,slE
 18 encK d.come.keys]] [encL d.gone,encL f.gone,encL f.come,encL d.come]∧ASpec prog 56 [encL d.gone,encL f.gone,encL f.come,encL d.come] (.tup [encL (joinP d.gone f.gone f.come d.come),bo (joinB d.gone f.gone f.come d.come)])) (.br (joinB d.gone f.gone f.come d.come) (.done Exit.ret (lret (.tup [.agg [nS,nS,nS,nS,nS,nS],i64 6]))) (.need (ILeL [.agg [slE 6 encO d.come.origins,slE 2 encT d.come.paths,slE 18 encK d.come.keys],.agg [slE 6 encO f.come.origins,slE 2 encT f.come.paths,slE 18 encK f.come.keys],.agg [slE 6 encO f.gone.origins,slE 2 encT f.gone.paths,slE 18 encK f.gone.keys],.agg [slE 6
 encO d.gone.origins,slE 2 encT d.gone.paths,slE 18 encK d.gone.keys]] [encL d.come,encL f.come,encL f.gone,encL d.gone]∧ASpec prog 56 [encL d.come,encL f.come,encL f.gone,encL d.gone] (.tup [encL (joinP d.come f.come f.gone d.gone),bo (joinB d.come f.come f.gone d.gone)])) (.br (joinB d.come f.come f.gone d.gone) (.done Exit.ret (lret (.tup [.agg [nS,nS,nS,nS,nS,nS],i64 14]))) (.need (ILeL [encL (joinP d.gone f.gone f.come d.come)] [encL (joinP d.gone f.gone f.come d.come)]∧ASpec prog 13 [encL (joinP d.gone f.gone f.come d.come)] (i64 (ckL (joinP d.gone f.gone f.come d.come)))) (.br
 (!decide (ckL (joinP d.gone f.gone f.come d.come)=0)) (.done Exit.ret (lret (.tup [.agg [nS,nS,nS,nS,nS,nS],i64 4]))) (.need (ILeL [encL (joinP d.come f.come f.gone d.gone)] [encL (joinP d.come f.come f.gone d.gone)]∧ASpec prog 13 [encL (joinP d.come f.come f.gone d.gone)] (i64 (ckL (joinP d.come f.come f.gone d.gone)))) (.br (!decide (ckL (joinP d.come f.come f.gone d.gone)=0)) (.done Exit.ret (lret (.tup [.agg [nS,nS,nS,nS,nS,nS],i64 4]))) (.done Exit.ret (lret (.tup [.agg [slE 6 encO (joinP d.gone f.gone f.come d.come).origins,slE 2 encT (joinP d.gone f.gone f.come d.come).paths,slE 18
 encK (joinP d.gone f.gone f.come d.come).keys,slE 6 encO (joinP d.come f.come f.gone d.gone).origins,slE 2 encT (joinP d.come f.come f.gone d.gone).paths,slE 18 encK (joinP d.come f.come f.gone d.gone).keys],i64 0]))))))))))))) (.br (!decide (validD d=0)) (.done Exit.ret (lret (.tup [.agg [nS,nS,nS,nS,nS,nS],i64 (validD d)]))) (.need (ILeL [.agg [slE 6 encO d.gone.origins,slE 2 encT d.gone.paths,slE 18 encK d.gone.keys],.agg [slE 6 encO f.gone.origins,slE 2 encT f.gone.paths,slE 18 encK f.gone.keys],.agg [slE 6 encO f.come.origins,slE 2 encT f.come.paths,slE 18 encK f.come.keys],.agg [slE 6
 encO d.come.origins,slE 2 encT d.come.paths,slE 18 encK d.come.keys]] [encL d.gone,encL f.gone,encL f.come,encL d.come]∧ASpec prog 56 [encL d.gone,encL f.gone,encL f.come,encL d.come] (.tup [encL (joinP d.gone f.gone f.come d.come),bo (joinB d.gone f.gone f.come d.come)])) (.br (joinB d.gone f.gone f.come d.come) (.done Exit.ret (lret (.tup [.agg [nS,nS,nS,nS,nS,nS],i64 6]))) (.need (ILeL [.agg [slE 6 encO d.come.origins,slE 2 encT d.come.paths,slE 18 encK d.come.keys],.agg [slE 6 encO f.come.origins,slE 2 encT f.come.paths,slE 18 encK f.come.keys],.agg [slE 6 encO f.gone.origins,slE 2 encT
 f.gone.paths,slE 18 encK f.gone.keys],.agg [slE 6 encO d.gone.origins,slE 2 encT d.gone.paths,slE 18 encK d.gone.keys]] [encL d.come,encL f.come,encL f.gone,encL d.gone]∧ASpec prog 56 [encL d.come,encL f.come,encL f.gone,encL d.gone] (.tup [encL (joinP d.come f.come f.gone d.gone),bo (joinB d.come f.come f.gone d.gone)])) (.br (joinB d.come f.come f.gone d.gone) (.done Exit.ret (lret (.tup [.agg [nS,nS,nS,nS,nS,nS],i64 14]))) (.need (ILeL [encL (joinP d.gone f.gone f.come d.come)] [encL (joinP d.gone f.gone f.come d.come)]∧ASpec prog 13 [encL (joinP d.gone f.gone f.come d.come)] (i64 (ckL
 (joinP d.gone f.gone f.come d.come)))) (.br (!decide (ckL (joinP d.gone f.gone f.come d.come)=0)) (.done Exit.ret (lret (.tup [.agg [nS,nS,nS,nS,nS,nS],i64 4]))) (.need (ILeL [encL (joinP d.come f.come f.gone d.gone)] [encL (joinP d.come f.come f.gone d.gone)]∧ASpec prog 13 [encL (joinP d.come f.come f.gone d.gone)] (i64 (ckL (joinP d.come f.come f.gone d.gone)))) (.br (!decide (ckL (joinP d.come f.come f.gone d.gone)=0)) (.done Exit.ret (lret (.tup [.agg [nS,nS,nS,nS,nS,nS],i64 4]))) (.done Exit.ret (lret (.tup [.agg [slE 6 encO (joinP d.gone f.gone f.come d.come).origins,slE 2 encT
 (joinP d.gone f.gone f.come d.come).paths,slE 18 encK (joinP d.gone f.gone f.come d.come).keys,slE 6 encO (joinP d.come f.come f.gone d.gone).origins,slE 2 encT (joinP d.come f.come f.gone d.gone).paths,slE 18 encK (joinP d.come f.come f.gone d.gone).keys],i64 0]))))))))))))):=by kernel_rfl
theorem c20 (d f:Diff)(hd:d.sm)(hf:f.sm):ASpec prog 20 [encD d,encD f] (.tup [encD (composeS d f).1,i64 (composeS d f).2]):=by
 refine ASpec.treeW Proofs.Try.f20 (T20 d f) (by kernel_rfl) (by kernel_rfl) (t20 d f) ?_
 refine need_sat ⟨ILeL.refl _,c26 _ ?_⟩ ⟨fun h1=>need_sat ⟨ILeL.refl _,c26 _ ?_⟩ ⟨fun h2=>⟨_,rfl,?_⟩,fun h2=>need_sat ⟨ILeL.refl _,c56 _ _ _ _ ?_ ?_ ?_ ?_⟩ ⟨fun h3=>⟨_,rfl,?_⟩,fun h3=>need_sat ⟨ILeL.refl _,c56 _ _ _ _ ?_ ?_ ?_ ?_⟩ ⟨fun h4=>⟨_,rfl,?_⟩,fun h4=>need_sat ⟨ILeL.refl _,c13 _⟩ ⟨fun h5=>⟨_,rfl,?_⟩,fun h5=>need_sat ⟨ILeL.refl _,c13 _⟩ ⟨fun h6=>⟨_,rfl,?_⟩,fun h6=>⟨_,rfl,?_⟩⟩⟩⟩⟩⟩,fun h1=>⟨fun h2=>⟨_,rfl,?_⟩,fun h2=>need_sat ⟨ILeL.refl _,c56 _ _ _ _ ?_ ?_ ?_ ?_⟩ ⟨fun h3=>⟨_,rfl,?_⟩,fun h3=>need_sat ⟨ILeL.refl _,c56 _ _ _ _ ?_ ?_ ?_ ?_⟩ ⟨fun h4=>⟨_,rfl,?_⟩,fun h4=>need_sat ⟨ILeL.refl _,c13 _⟩ ⟨fun h5=>⟨_,rfl,?_⟩,fun h5=>need_sat ⟨ILeL.refl _,c13 _⟩ ⟨fun h6=>⟨_,rfl,?_⟩,fun h6=>⟨_,rfl,?_⟩⟩⟩⟩⟩⟩⟩
 all_goals try exact absurd (nbit_f h2) (bit_f h1)
 ·exact hd
 ·exact hf
 ·rw[composeS,if_neg (Decidable.not_not.2 (bit_t h1)),if_pos (nbit_t h2)];exact noD_leaf rfl
 ·exact hd.g
 ·exact hf.g
 ·exact hf.c
 ·exact hd.c
 ·rw[composeS,if_neg (Decidable.not_not.2 (bit_t h1)),if_neg (Decidable.not_not.2 (nbit_f h2)),if_pos h3];exact noD_leaf rfl
 ·exact hd.c
 ·exact hf.c
 ·exact hf.g
 ·exact hd.g
 ·rw[composeS,if_neg (Decidable.not_not.2 (bit_t h1)),if_neg (Decidable.not_not.2 (nbit_f h2)),if_neg (by rw[h3];decide),if_pos h4];exact noD_leaf rfl
 ·rw[composeS,if_neg (Decidable.not_not.2 (bit_t h1)),if_neg (Decidable.not_not.2 (nbit_f h2)),if_neg (by rw[h3];decide),if_neg (by rw[h4];decide),if_pos (.inl (nbit_t h5))];exact noD_leaf rfl
 ·rw[composeS,if_neg (Decidable.not_not.2 (bit_t h1)),if_neg (Decidable.not_not.2 (nbit_f h2)),if_neg (by rw[h3];decide),if_neg (by rw[h4];decide),if_pos (.inr (nbit_t h6))];exact noD_leaf rfl
 ·rw[composeS,if_neg (Decidable.not_not.2 (bit_t h1)),if_neg (Decidable.not_not.2 (nbit_f h2)),if_neg (by rw[h3];decide),if_neg (by rw[h4];decide),if_neg (by rintro(h|h);exact h (nbit_f h5);exact h (nbit_f h6))];exact pair_leaf rfl rfl
 ·rw[composeS,if_pos (bit_f h1)];exact noD_leaf rfl
end Gp
namespace Gp
def netP (a n:Int):Pfx:=⟨4,⟨0,IntKind.u64.wrap (a*16777216)⟩,n⟩
def T58 (a n:Int):Tell:=
 Tell.mk (fun x x_1=>false) (fun x x_1=>Orc.no) (fun x=>Tree.fail 1000003 0) (fun x=>0) (fun x=>([],[])) (fun x x_1 x_2=>Orc.no) fun x x_1=>Tree.fail 1000003 0
theorem t58 (a n:Int):levF prog Proofs.Try.f58 [u64 a,i64 n] (T58 a n)=
 Tree.need ((0:Int)≤(24:Int)) (.done Exit.ret (lret (.agg [u8 4,u64 0,u64 (IntKind.wrap IntKind.u64 (a*16777216)),i64 n]))):=by kernel_rfl
theorem c58 (a n:Int):ASpec prog 58 [u64 a,i64 n] (encP (netP a n)):=by
 refine ASpec.treeW Proofs.Try.f58 (T58 a n) (by kernel_rfl) (by kernel_rfl) (t58 a n) ?_
 refine need_sat ?_ ⟨_,rfl,?_⟩
 ·decide
 ·exact .refl _
def oneP (l:List Int):Payload:=⟨[⟨10,netP 10 8,8⟩],[⟨1,l⟩],[]⟩
def T23 (l:List Int):Tell:=
 Tell.mk (fun x x_1=>false) (fun x x_1=>Orc.no) (fun x=>Tree.fail 1000003 0) (fun x=>0) (fun x=>([],[])) (oget [(1,1,0,Orc.call [u64 10,i64 8] (encP (netP 10 8)))]) fun x x_1=>Tree.fail 1000003 0
theorem t23 (l:List Int):levF prog Proofs.Try.f23 [lu32 l] (T23 l)=
 Tree.need (ILeL [u64 10,i64 8] [u64 10,i64 8]∧ASpec prog 58 [u64 10,i64 8] (encP (netP 10 8))) (.need (eqs [(1,1),(1,1)]) (.done Exit.ret (lret (.agg [.sl true false 6 [.agg [u32 10,u8 (netP 10 8).fam,u64 (netP 10 8).addr.hi,u64 (netP 10 8).addr.lo,i64 (netP 10 8).len,i64 8]],.sl true false 2 [.agg [u32 1,lu32 l]],nS])))):=by kernel_rfl
theorem c23 (l:List Int):ASpec prog 23 [lu32 l] (encL (oneP l)):=by
 refine ASpec.treeW Proofs.Try.f23 (T23 l) (by kernel_rfl) (by kernel_rfl) (t23 l) ?_
 refine need_sat ⟨ILeL.refl _,c58 _ _⟩ (need_sat ?_ ⟨_,rfl,?_⟩)
 ·exact⟨rfl,rfl,trivial⟩
 ·exact .agg (.cons (ile_sl (.refl _)) (.cons (ile_sl (.refl _)) (.cons (.nil _ _ _) (.refl _))))
def T17 :Tell:=
 Tell.mk (fun r i=>r==1&&i==0||r==1&&i==2||r==2&&i==0||r==2&&i==4||r==3&&i==0||r==6&&i==13) (fun x x_1=>Orc.no) (fun x=>Tree.fail 1000003 0) (fun x=>0) (fun x=>([],[])) (oget [(1,1,1,Orc.call [lu32 [2]] (encL (oneP [2]))),(1,1,3,Orc.call [lu32 [2,3]] (encL (oneP [2,3]))),(1,1,4,Orc.call [encL (oneP [2]),encL (oneP [2,3])] (.tup [encD (betweenS (oneP [2]) (oneP [2,3])).fst,i64 (betweenS (oneP [2]) (oneP [2,3])).snd])),(12,2,1,Orc.call [lu32 [2]] (encL (oneP [2]))),(12,2,5,Orc.call [lu32 [2,3]] (encL (oneP [2,3]))),(23,3,1,Orc.call [lu32 [2]]
 (encL (oneP [2]))),(23,3,3,Orc.call [encL (oneP [2]),encD (betweenS (oneP [2]) (oneP [2,3])).fst] (.tup [encL (applyS (oneP [2]) (betweenS (oneP [2]) (oneP [2,3])).fst).fst,i64 (applyS (oneP [2]) (betweenS (oneP [2]) (oneP [2,3])).fst).snd])),(33,4,0,Orc.call [u32 4294967295,u32 0] (.tup [bo (beforeS 4294967295 0).fst,i64 (beforeS 4294967295 0).snd])),(39,5,0,Orc.call [u32 0,u32 2147483648] (.tup [bo (beforeS 0 2147483648).fst,i64 (beforeS 0 2147483648).snd])),(45,6,5,Orc.call [encD (betweenS (oneP [2]) (oneP [2,3])).fst,encD (Diff.mk (Payload.mk [] (oneP [2]).paths []) (Payload.mk [] (oneP
 [2,3]).paths []))] (bo (decide ((betweenS (oneP [2]) (oneP [2,3])).fst=Diff.mk (Payload.mk [] (oneP [2]).paths []) (Payload.mk [] (oneP [2,3]).paths []))))),(45,6,14,Orc.call [lu32 [2,3]] (encL (oneP [2,3]))),(45,6,15,Orc.call [encL (applyS (oneP [2]) (betweenS (oneP [2]) (oneP [2,3])).fst).fst,encL (oneP [2,3])] (bo (decide ((applyS (oneP [2]) (betweenS (oneP [2]) (oneP [2,3])).fst).fst=oneP [2,3]))))]) fun x x_1=>Tree.fail 1000003 0
theorem t17 :levF prog Proofs.Try.f17 [] T17=
 Tree.need (ILeL [.sl true true 1 [u32 2]] [lu32 [2]]∧ASpec prog 23 [lu32 [2]] (encL (oneP [2]))) (.need (ILeL [.sl true true 1 [u32 2,u32 3]] [lu32 [2,3]]∧ASpec prog 23 [lu32 [2,3]] (encL (oneP [2,3]))) (.need (ILeL [encL (oneP [2]),encL (oneP [2,3])] [encL (oneP [2]),encL (oneP [2,3])]∧ASpec prog 24 [encL (oneP [2]),encL (oneP [2,3])] (.tup [encD (betweenS (oneP [2]) (oneP [2,3])).fst,i64 0])) (.need (ILeL [.sl true true 1 [u32 2]] [lu32 [2]]∧ASpec prog 23 [lu32 [2]] (encL (oneP [2]))) (.need (ILeL [.sl true true 1 [u32 2,u32 3]] [lu32 [2,3]]∧ASpec prog 23 [lu32 [2,3]] (encL (oneP
 [2,3]))) (.need (ILeL [.sl true true 1 [u32 2]] [lu32 [2]]∧ASpec prog 23 [lu32 [2]] (encL (oneP [2]))) (.need (ILeL [encL (oneP [2]),encD (betweenS (oneP [2]) (oneP [2,3])).fst] [encL (oneP [2]),encD (betweenS (oneP [2]) (oneP [2,3])).fst]∧ASpec prog 19 [encL (oneP [2]),encD (betweenS (oneP [2]) (oneP [2,3])).fst] (.tup [encL (applyS (oneP [2]) (betweenS (oneP [2]) (oneP [2,3])).fst).fst,i64 0])) (.need (ILeL [u32 4294967295,u32 0] [u32 4294967295,u32 0]∧ASpec prog 11 [u32 4294967295,u32 0] (.tup [bo true,i64 0])) (.need (ILeL [u32 0,u32 2147483648] [u32 0,u32 2147483648]∧ASpec prog 11
 [u32 0,u32 2147483648] (.tup [bo false,i64 2])) (.br true (.need (ILeL [encD (betweenS (oneP [2]) (oneP [2,3])).fst,.agg [nS,slE 2 encT (oneP [2]).paths,nS,nS,slE 2 encT (oneP [2,3]).paths,nS]] [encD (betweenS (oneP [2]) (oneP [2,3])).fst,encD (Diff.mk (Payload.mk [] (oneP [2]).paths []) (Payload.mk [] (oneP [2,3]).paths []))]∧ASpec prog 21 [encD (betweenS (oneP [2]) (oneP [2,3])).fst,encD (Diff.mk (Payload.mk [] (oneP [2]).paths []) (Payload.mk [] (oneP [2,3]).paths []))] (bo true)) (.br true (.br true (.need (ILeL [.sl true true 1 [u32 2,u32 3]] [lu32 [2,3]]∧ASpec prog 23 [lu32 [2,3]]
 (encL (oneP [2,3]))) (.need (ILeL [encL (applyS (oneP [2]) (betweenS (oneP [2]) (oneP [2,3])).fst).fst,encL (oneP [2,3])] [encL (applyS (oneP [2]) (betweenS (oneP [2]) (oneP [2,3])).fst).fst,encL (oneP [2,3])]∧ASpec prog 16 [encL (applyS (oneP [2]) (betweenS (oneP [2]) (oneP [2,3])).fst).fst,encL (oneP [2,3])] (bo true)) (.br true (.br true (.br true (.done Exit.ret (lret (bo true))) (.done Exit.ret (lret (bo false)))) (.done Exit.ret (lret (bo false)))) (.done Exit.ret (lret (bo false)))))) (.done Exit.ret (lret (bo false)))) (.done Exit.ret (lret (bo false))))) (.done Exit.ret (lret (bo
 false)))))))))))):=by kernel_rfl
theorem sm_of {p:Payload}(h:(decide (p.origins.length≤3000)&&decide (p.paths.length≤3000)&&decide (p.keys.length≤3000)&&p.paths.all fun a=>decide (a.provs.length≤1000000))=true):p.sm:=by
 simp only[Bool.and_eq_true,decide_eq_true_eq,List.all_eq_true]at h
 exact⟨h.1.1.1,h.1.1.2,h.1.2,h.2⟩
theorem c17 :ASpec prog 17 [] (bo true):=by
 refine ASpec.treeW Proofs.Try.f17 T17 (by kernel_rfl) (by kernel_rfl) t17 ?_
 refine need_sat ⟨(by repeat' first|exact ILeL.refl _|exact ILe.refl _|exact ILe.nil _ _ _|exact ILe.sl (fun h=>by cases h) (fun h=>by first|exact h|cases h) (ILeL.refl _)|apply ILeL.cons|apply ILe.agg|apply ILe.tup),c23 _⟩ (need_sat ⟨(by repeat' first|exact ILeL.refl _|exact ILe.refl _|exact ILe.nil _ _ _|exact ILe.sl (fun h=>by cases h) (fun h=>by first|exact h|cases h) (ILeL.refl _)|apply ILeL.cons|apply ILe.agg|apply ILe.tup),c23 _⟩ (need_sat ⟨ILeL.refl _,c24 _ _ ?_ ?_⟩ (need_sat ⟨(by repeat' first|exact ILeL.refl _|exact ILe.refl _|exact ILe.nil _ _ _|exact ILe.sl (fun h=>by cases h) (fun h=>by first|exact h|cases h) (ILeL.refl _)|apply ILeL.cons|apply ILe.agg|apply ILe.tup),c23 _⟩ (need_sat ⟨(by repeat' first|exact ILeL.refl _|exact ILe.refl _|exact ILe.nil _ _ _|exact ILe.sl (fun h=>by cases h) (fun h=>by first|exact h|cases h) (ILeL.refl _)|apply ILeL.cons|apply ILe.agg|apply ILe.tup),c23 _⟩ (need_sat ⟨(by repeat' first|exact ILeL.refl _|exact ILe.refl _|exact ILe.nil _ _ _|exact ILe.sl (fun h=>by cases h) (fun h=>by first|exact h|cases h) (ILeL.refl _)|apply ILeL.cons|apply ILe.agg|apply ILe.tup),c23 _⟩ (need_sat ⟨ILeL.refl _,c19 _ _ ?_ ?_⟩ (need_sat ⟨ILeL.refl _,c11 _ _⟩ (need_sat ⟨ILeL.refl _,c11 _ _⟩ ⟨fun _=>need_sat ⟨(by repeat' first|exact ILeL.refl _|exact ILe.refl _|exact ILe.nil _ _ _|exact ILe.sl (fun h=>by cases h) (fun h=>by first|exact h|cases h) (ILeL.refl _)|apply ILeL.cons|apply ILe.agg|apply ILe.tup),c21 _ _ ?_⟩ ⟨fun _=>⟨fun _=>need_sat ⟨(by repeat' first|exact ILeL.refl _|exact ILe.refl _|exact ILe.nil _ _ _|exact ILe.sl (fun h=>by cases h) (fun h=>by first|exact h|cases h) (ILeL.refl _)|apply ILeL.cons|apply ILe.agg|apply ILe.tup),c23 _⟩ (need_sat ⟨ILeL.refl _,c16 _ _ ?_⟩ ⟨fun _=>⟨fun _=>⟨fun _=>⟨_,rfl,?_⟩,fun h=>(by cases h)⟩,fun h=>(by cases h)⟩,fun h=>(by cases h)⟩),fun h=>(by cases h)⟩,fun h=>(by cases h)⟩,fun h=>(by cases h)⟩))))))))
 all_goals first
  |exact .refl _
  |exact sm_of (by kernel_rfl)
  |exact⟨sm_of (by kernel_rfl),sm_of (by kernel_rfl)⟩
  |exact(sm_of (by kernel_rfl)).ok
def T4 (a b c:Int):Tell:=
 Tell.mk (fun x x_1=>false) (fun x x_1=>Orc.no) (fun x=>Tree.fail 1000003 0) (fun x=>0) (fun x=>([],[])) (oget [(1,1,0,Orc.call [] (bo true)),(3,2,2,Orc.call [u32 a,u32 b] (.tup [bo (beforeS a b).fst,i64 (beforeS a b).snd])),(11,3,2,Orc.call [u32 b,u32 a] (.tup [bo (beforeS b a).fst,i64 (beforeS b a).snd])),(19,4,6,Orc.call [u32 (IntKind.wrap IntKind.u32 (a+c)),u32 (IntKind.wrap IntKind.u32 (b+c))] (.tup [bo (beforeS (IntKind.wrap IntKind.u32 (a+c)) (IntKind.wrap IntKind.u32 (b+c))).fst,i64 (beforeS (IntKind.wrap IntKind.u32 (a+c)) (IntKind.wrap IntKind.u32 (b+
 c))).snd])),(74,12,4,Orc.call [u32 a,u32 (IntKind.wrap IntKind.u32 (a+Int.tmod c 2147483648))] (.tup [bo (beforeS a (IntKind.wrap IntKind.u32 (a+Int.tmod c 2147483648))).fst,i64 (beforeS a (IntKind.wrap IntKind.u32 (a+Int.tmod c 2147483648))).snd]))]) fun x x_1=>Tree.fail 1000003 0
theorem t4 (a b c:Int):levF prog Proofs.Try.f4 [u32 a,u32 b,u32 c] (T4 a b c)=
 Tree.need (ILeL [] []∧ASpec prog 17 [] (bo true)) (.need (ILeL [u32 a,u32 b] [u32 a,u32 b]∧ASpec prog 11 [u32 a,u32 b] (.tup [bo (beforeS a b).fst,i64 (beforeS a b).snd])) (.need (ILeL [u32 b,u32 a] [u32 b,u32 a]∧ASpec prog 11 [u32 b,u32 a] (.tup [bo (beforeS b a).fst,i64 (beforeS b a).snd])) (.need (ILeL [u32 (IntKind.wrap IntKind.u32 (a+c)),u32 (IntKind.wrap IntKind.u32 (b+c))] [u32 (IntKind.wrap IntKind.u32 (a+c)),u32 (IntKind.wrap IntKind.u32 (b+c))]∧ASpec prog 11 [u32 (IntKind.wrap IntKind.u32 (a+c)),u32 (IntKind.wrap IntKind.u32 (b+c))] (.tup [bo (beforeS (IntKind.wrap
 IntKind.u32 (a+c)) (IntKind.wrap IntKind.u32 (b+c))).fst,i64 (beforeS (IntKind.wrap IntKind.u32 (a+c)) (IntKind.wrap IntKind.u32 (b+c))).snd])) (.br (!decide ((beforeS a b).snd=(beforeS b a).snd)) (.done Exit.ret (lret (bo false))) (.br (!decide ((beforeS a b).snd=(beforeS (IntKind.wrap IntKind.u32 (a+c)) (IntKind.wrap IntKind.u32 (b+c))).snd)) (.done Exit.ret (lret (bo false))) (.br (!(beforeS a b).fst==(beforeS (IntKind.wrap IntKind.u32 (a+c)) (IntKind.wrap IntKind.u32 (b+c))).fst) (.done Exit.ret (lret (bo false))) (.br (decide (IntKind.wrap IntKind.u32 (a-b)=
 2147483648)) (.br true (.br (decide ((beforeS a b).snd=2)) (.br (!(beforeS a b).fst) (.done Exit.ret (lret (.v (Value.bool !(beforeS b a).fst)))) (.done Exit.ret (lret (bo false)))) (.done Exit.ret (lret (bo false)))) (.done Exit.ret (lret (bo false)))) (.br (!decide ((beforeS a b).snd=0)) (.done Exit.ret (lret (bo false))) (.br (decide (a=b)) (.br (beforeS a b).fst (.done Exit.ret (lret (bo false))) (.br (beforeS b a).fst (.done Exit.ret (lret (bo false))) (.br (!decide (a=b)) (.br ((beforeS a b).fst==(beforeS b a).fst) (.done Exit.ret (lret (bo false))) (.need ((2147483648:Int)≠
 (0:Int)) (.need (ILeL [u32 a,u32 (IntKind.wrap IntKind.u32 (a+Int.tmod c 2147483648))] [u32 a,u32 (IntKind.wrap IntKind.u32 (a+Int.tmod c 2147483648))]∧ASpec prog 11 [u32 a,u32 (IntKind.wrap IntKind.u32 (a+Int.tmod c 2147483648))] (.tup [bo (beforeS a (IntKind.wrap IntKind.u32 (a+Int.tmod c 2147483648))).fst,i64 (beforeS a (IntKind.wrap IntKind.u32 (a+Int.tmod c 2147483648))).snd])) (.br true (.br (decide ((beforeS a (IntKind.wrap IntKind.u32 (a+Int.tmod c 2147483648))).snd=0)) (.done Exit.ret (lret (bo ((beforeS a (IntKind.wrap IntKind.u32 (a+Int.tmod c 2147483648))).fst==
 decide (0<Int.tmod c 2147483648))))) (.done Exit.ret (lret (bo false)))) (.done Exit.ret (lret (bo false))))))) (.need ((2147483648:Int)≠(0:Int)) (.need (ILeL [u32 a,u32 (IntKind.wrap IntKind.u32 (a+Int.tmod c 2147483648))] [u32 a,u32 (IntKind.wrap IntKind.u32 (a+Int.tmod c 2147483648))]∧ASpec prog 11 [u32 a,u32 (IntKind.wrap IntKind.u32 (a+Int.tmod c 2147483648))] (.tup [bo (beforeS a (IntKind.wrap IntKind.u32 (a+Int.tmod c 2147483648))).fst,i64 (beforeS a (IntKind.wrap IntKind.u32 (a+Int.tmod c 2147483648))).snd])) (.br true (.br (decide ((beforeS a (IntKind.wrap
 IntKind.u32 (a+Int.tmod c 2147483648))).snd=0)) (.done Exit.ret (lret (bo ((beforeS a (IntKind.wrap IntKind.u32 (a+Int.tmod c 2147483648))).fst==decide (0<Int.tmod c 2147483648))))) (.done Exit.ret (lret (bo false)))) (.done Exit.ret (lret (bo false))))))))) (.br (!decide (a=b)) (.br ((beforeS a b).fst==(beforeS b a).fst) (.done Exit.ret (lret (bo false))) (.need ((2147483648:Int)≠(0:Int)) (.need (ILeL [u32 a,u32 (IntKind.wrap IntKind.u32 (a+Int.tmod c 2147483648))] [u32 a,u32 (IntKind.wrap IntKind.u32 (a+Int.tmod c 2147483648))]∧ASpec prog 11 [u32 a,u32 (IntKind.wrap
 IntKind.u32 (a+Int.tmod c 2147483648))] (.tup [bo (beforeS a (IntKind.wrap IntKind.u32 (a+Int.tmod c 2147483648))).fst,i64 (beforeS a (IntKind.wrap IntKind.u32 (a+Int.tmod c 2147483648))).snd])) (.br true (.br (decide ((beforeS a (IntKind.wrap IntKind.u32 (a+Int.tmod c 2147483648))).snd=0)) (.done Exit.ret (lret (bo ((beforeS a (IntKind.wrap IntKind.u32 (a+Int.tmod c 2147483648))).fst==decide (0<Int.tmod c 2147483648))))) (.done Exit.ret (lret (bo false)))) (.done Exit.ret (lret (bo false))))))) (.need ((2147483648:Int)≠(0:Int)) (.need (ILeL [u32 a,u32 (IntKind.wrap
 IntKind.u32 (a+Int.tmod c 2147483648))] [u32 a,u32 (IntKind.wrap IntKind.u32 (a+Int.tmod c 2147483648))]∧ASpec prog 11 [u32 a,u32 (IntKind.wrap IntKind.u32 (a+Int.tmod c 2147483648))] (.tup [bo (beforeS a (IntKind.wrap IntKind.u32 (a+Int.tmod c 2147483648))).fst,i64 (beforeS a (IntKind.wrap IntKind.u32 (a+Int.tmod c 2147483648))).snd])) (.br true (.br (decide ((beforeS a (IntKind.wrap IntKind.u32 (a+Int.tmod c 2147483648))).snd=0)) (.done Exit.ret (lret (bo ((beforeS a (IntKind.wrap IntKind.u32 (a+Int.tmod c 2147483648))).fst==decide (0<Int.tmod c 2147483648))))) (.done
 Exit.ret (lret (bo false)))) (.done Exit.ret (lret (bo false)))))))))))))))):=by kernel_rfl
theorem w32 (n:Int):IntKind.u32.wrap n=n % 4294967296:=rfl
theorem bef_no {a b:Int}(h:(b-a) % 4294967296=2147483648):beforeS a b=(false,2):=by rw[beforeS,w32,if_pos h]
theorem bef_yes {a b:Int}(h:(b-a) % 4294967296≠2147483648):beforeS a b=(decide (0<(b-a) % 4294967296∧(b-a) % 4294967296<2147483648),0):=by
 rw[beforeS,w32,if_neg h]
 congr 1
 rw[Bool.eq_iff_iff];simp only[Bool.and_eq_true,decide_eq_true_eq];omega
theorem c4 (a b c:Int)(ha:0≤a∧a≤4294967295)(hb:0≤b∧b≤4294967295)(hc:0≤c∧c≤4294967295):ASpec prog 4 [u32 a,u32 b,u32 c] (bo true):=by
 have hs:beforeS (IntKind.u32.wrap (a+c)) (IntKind.u32.wrap (b+c))=beforeS a b:=by
  rw[beforeS,beforeS]
  have:IntKind.u32.wrap (IntKind.u32.wrap (b+c)-IntKind.u32.wrap (a+c))=IntKind.u32.wrap (b-a):=by simp only[w32];omega
  rw[this]
 have hn:Int.tmod c 2147483648=c % 2147483648:=Int.tmod_eq_emod_of_nonneg hc.1
 have hk:beforeS a (IntKind.u32.wrap (a+Int.tmod c 2147483648))=(decide (0<Int.tmod c 2147483648),0):=by
  rw[hn,w32,bef_yes (by omega)]
  congr 1
  rw[Bool.eq_iff_iff];simp only[decide_eq_true_eq];omega
 have hab:(IntKind.u32.wrap (a-b)=2147483648∧beforeS a b=(false,2)∧beforeS b a=(false,2))∨(IntKind.u32.wrap (a-b)≠2147483648∧a=b∧beforeS a b=(false,0)∧beforeS b a=(false,0))∨
   (IntKind.u32.wrap (a-b)≠2147483648∧a≠b∧∃v,beforeS a b=(v,0)∧beforeS b a=(!v,0)):=by
  by_cases h1:(a-b) % 4294967296=2147483648
  ·exact .inl ⟨h1,bef_no (by omega),bef_no h1⟩
  ·by_cases h2:a=b
   ·subst h2
    refine .inr (.inl ⟨h1,rfl,?_,?_⟩)<;>(rw[bef_yes (by omega),decide_eq_false (by omega)])
   ·refine .inr (.inr ⟨h1,h2,_,bef_yes (by omega),?_⟩)
    rw[bef_yes h1]
    congr 1
    rw[Bool.eq_iff_iff];simp only[decide_eq_true_eq,Bool.not_eq_true',decide_eq_false_iff_not];omega
 refine ASpec.treeW Proofs.Try.f4 (T4 a b c) (by kernel_rfl) (by kernel_rfl) (t4 a b c) ?_
 refine need_sat ⟨ILeL.refl _,c17⟩ (need_sat ⟨ILeL.refl _,c11 _ _⟩ (need_sat ⟨ILeL.refl _,c11 _ _⟩ (need_sat ⟨ILeL.refl _,c11 _ _⟩ ⟨fun h1=>⟨_,rfl,?_⟩,fun h1=>⟨fun h2=>⟨_,rfl,?_⟩,fun h2=>⟨fun h3=>⟨_,rfl,?_⟩,fun h3=>⟨fun h4=>⟨fun _=>⟨fun h5=>⟨fun h6=>⟨_,rfl,?_⟩,fun h6=>⟨_,rfl,?_⟩⟩,fun h5=>⟨_,rfl,?_⟩⟩,fun h=>(by cases h)⟩,fun h4=>⟨fun h5=>⟨_,rfl,?_⟩,fun h5=>⟨fun h6=>⟨fun h7=>⟨_,rfl,?_⟩,fun h7=>⟨fun h8=>⟨_,rfl,?_⟩,fun h8=>⟨fun h9=>⟨fun h10=>⟨_,rfl,?_⟩,fun h10=>need_sat ?_ (need_sat ⟨ILeL.refl _,c11 _ _⟩ ⟨fun _=>⟨fun h11=>⟨_,rfl,?_⟩,fun h11=>⟨_,rfl,?_⟩⟩,fun h=>(by cases h)⟩)⟩,fun h9=>need_sat ?_ (need_sat ⟨ILeL.refl _,c11 _ _⟩ ⟨fun _=>⟨fun h10=>⟨_,rfl,?_⟩,fun h10=>⟨_,rfl,?_⟩⟩,fun h=>(by cases h)⟩)⟩⟩⟩,fun h6=>⟨fun h7=>⟨fun h8=>⟨_,rfl,?_⟩,fun h8=>need_sat ?_ (need_sat ⟨ILeL.refl _,c11 _ _⟩ ⟨fun _=>⟨fun h9=>⟨_,rfl,?_⟩,fun h9=>⟨_,rfl,?_⟩⟩,fun h=>(by cases h)⟩)⟩,fun h7=>need_sat ?_ (need_sat ⟨ILeL.refl _,c11 _ _⟩ ⟨fun _=>⟨fun h8=>⟨_,rfl,?_⟩,fun h8=>⟨_,rfl,?_⟩⟩,fun h=>(by cases h)⟩)⟩⟩⟩⟩⟩⟩⟩)))
 all_goals try decide
 all_goals refine ile_bo ?_
 all_goals rcases hab with⟨g1,g2,g3⟩|⟨g1,g2,g3,g4⟩|⟨g1,g2,v,g3,g4⟩
 all_goals simp_all
end Gp
namespace Gp
section
variable {H:Type} {enc:TypeId×Value→H} {w:World} {base:Nat} {spare:Nat→Bool} {held:Bool}
theorem in0 :IRepL w (allF w) [] []:=by rw[IRepL]
end
end Gp
