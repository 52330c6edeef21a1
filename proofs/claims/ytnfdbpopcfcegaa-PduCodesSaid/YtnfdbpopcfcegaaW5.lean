/- Part 5 of the walk and of the plain law of PduCuts. -/
import Derived.Test.YtnfdbpopcfcegaaW4
import Derived.Tactics
import Derived.Tactics2
set_option maxRecDepth 100000
set_option maxHeartbeats 0
set_option linter.unusedVariables false
set_option linter.unusedSimpArgs false
open Go Go.Abs
noncomputable section
namespace Gp
def k66 (l:List Int):Bool:=decide (21≤l.length)
def k74 (l:List Int):Bool:=decide (l.length=4+4*pN l)
def TP66 (ls:Nat→Abs.Loc)(v k s:Int)(a:Bool)(c:Int)(l:List Int):Tell:=
 (let q0:=List.drop 4 l;
 Tell.mk (fun r i=>(Tell.mk (fun r i=>r==2&&(i==6||i==8)) (fun r i=>if(r==2&&i==9)=true then Orc.cpy [0,0,0,0,0,0,0,0,0,0,0,0,0,0,0,0]else Orc.no) (fun x=>Tree.fail 1000003 0) (fun x=>0) (fun x=>([],[])) (fun x r i=>if(r==2&&i==9)=true then Orc.cpy [0,0,0,0,0,0,0,0,0,0,0,0,0,0,0,0]else Orc.no) fun x x_1=>Tree.fail 1000003 0).fz r i||fget [(2,8)] r i) (fun r i=>if(r==2&&i==9)=true then Orc.cpy [0,0,0,0,0,0,0,0,0,0,0,0,0,0,0,0]else Orc.no) (fun x=>Tree.fail 1000003 0) (fun x=>0) (fun x=>([],[])) (ogetO (fun r i=>if(r==2&&i==
 9)=true then Orc.cpy [0,0,0,0,0,0,0,0,0,0,0,0,0,0,0,0]else Orc.no) [(2,0,2,Orc.may (k76 l 4) [1] 1 [.ptr 0 0,.imm (i64 4)] errE (Orc.callg [1] 1 [.ptr 0 0,.imm (i64 4)] [(92,.agg [.imm (slE 1 u8 (List.drop (Int.toNat 4) l))])] [] (.imm (u64 (getV l 4))))),(11,1,2,Orc.may (k76 q0 1) [1] 1 [.ptr 0 0,.imm (i64 1)] errE (Orc.callg [1] 1 [.ptr 0 0,.imm (i64 1)] [(92,.agg [.imm (slE 1 u8 (List.drop (Int.toNat 1) q0))])] [] (.imm (u64 (getV q0 1))))),(21,2,8,Orc.may (k76 (List.drop 1 q0) 16) [1] 1 [.ptr 0 0,.imm (i64 16)] errE (Orc.callb 1 [.ptr 0 0,.imm (i64 16)] 92 (.agg [.imm (slE 1 u8
 (List.drop (Int.toNat 16) (List.drop 1 q0)))]) (slE 1 u8 (List.take (Int.toNat 16) (List.drop 1 q0)))))]) fun x x_1=>Tree.fail 1000003 0)
theorem tp66 (ls:Nat→Abs.Loc)(v k s:Int)(a:Bool)(c:Int)(l:List Int):levP prog Proofs.Try.f66 ls (two (z1 v k s a c) l) [] [.ptr 0 0,.ptr 1 0] errE (TP66 ls v k s a c l)=
 (let q1:=List.drop 4 l;let q0:=List.drop 1 q1;
 Tree.br (k76 l 4) (.need (ALeL [.ptr 0 0,.imm (i64 4)] [.ptr 0 0,.imm (i64 4)]∧GSpec prog 42 [(92,.agg [.imm (slE 1 u8 l)])] [] [.ptr 0 0,.imm (i64 4)] [(92,.agg [.imm (slE 1 u8 q1)])] [] (.imm (u64 (getV l 4)))) (.br (k76 q1 1) (.need (ALeL [.ptr 0 0,.imm (i64 1)] [.ptr 0 0,.imm (i64 1)]∧GSpec prog 42 [(92,.agg [.imm (slE 1 u8 q1)])] [] [.ptr 0 0,.imm (i64 1)] [(92,.agg [.imm (slE 1 u8 q0)])] [] (.imm (u64 (getV q1 1)))) (.br (k76 q0 16) (.need (ALeL [.ptr 0 0,.imm (i64 16)] [.ptr 0 0,.imm (i64 16)]∧GSpec prog 76 [(92,.agg [.imm (slE 1 u8 q0)])] [] [.ptr 0 0,.imm (i64 16)] [(92,.agg
 [.imm (slE 1 u8 (List.drop 16 q0))])] [] (.imm (slE 1 u8 (List.take 16 q0)))) (.need (List.map u8 (List.take 16 q0)=[u8 0,u8 0,u8 0,u8 0,u8 0,u8 0,u8 0,u8 0,u8 0,u8 0,u8 0,u8 0,u8 0,u8 0,u8 0,u8 0]∧16=16) (.fail 1000006 0))) (.need (ALeL [.ptr 0 0,.imm (i64 16)] [.ptr 0 0,.imm (i64 16)]∧PSpec prog 76 [(92,.agg [.imm (slE 1 u8 q0)])] [] [.ptr 0 0,.imm (i64 16)] errE) (.need (errE=errE) (.done Exit.ret lnil))))) (.need (ALeL [.ptr 0 0,.imm (i64 1)] [.ptr 0 0,.imm (i64 1)]∧PSpec prog 42 [(92,.agg [.imm (slE 1 u8 q1)])] [] [.ptr 0 0,.imm (i64 1)] errE) (.need (errE=errE) (.done
 Exit.ret lnil))))) (.need (ALeL [.ptr 0 0,.imm (i64 4)] [.ptr 0 0,.imm (i64 4)]∧PSpec prog 42 [(92,.agg [.imm (slE 1 u8 l)])] [] [.ptr 0 0,.imm (i64 4)] errE) (.need (errE=errE) (.done Exit.ret lnil)))):=by kernel_rfl
theorem p66 (v k s:Int)(a:Bool)(c:Int)(l:List Int)(h:k66 l=false):PSpec prog 66 (two (z1 v k s a c) l) [] [.ptr 0 0,.ptr 1 0] errE:=by
 refine PSpec.tree Proofs.Try.f66 (fun ls=>TP66 ls v k s a c l) (by kernel_rfl) (by kernel_rfl) fun ls=>?_
 rw[tp66]
 refine⟨fun h1=>need_sat ⟨ALeL.refl _,g42 _ _ ?_ ?_ ?_⟩ ⟨fun h2=>need_sat ⟨ALeL.refl _,g42 _ _ ?_ ?_ ?_⟩ ⟨fun h3=>need_sat ⟨ALeL.refl _,g76 _ _ ?_ ?_⟩ (need_sat ?_ ?_),fun h3=>need_sat ⟨ALeL.refl _,p76 _ _ ?_⟩ (need_sat ?_ (trivial))⟩,fun h2=>need_sat ⟨ALeL.refl _,p42 _ _ ?_⟩ (need_sat ?_ (trivial))⟩,fun h1=>need_sat ⟨ALeL.refl _,p42 _ _ ?_⟩ (need_sat ?_ (trivial))⟩
 all_goals first
  |assumption
  |rfl
  |(simp only[k76,k66,decide_eq_true_eq,decide_eq_false_iff_not,Bool.not_eq_true',Bool.not_eq_false',List.length_drop,List.drop_drop,Nat.reduceAdd]at*;omega)
  |(exfalso;simp only[k76,k66,decide_eq_true_eq,decide_eq_false_iff_not,Bool.not_eq_true',Bool.not_eq_false',List.length_drop,List.drop_drop,Nat.reduceAdd]at*;omega)
def TP74r (ls:Nat→Abs.Loc)(m:Pdu)(l:List Int)(i:Nat):Tell:=
 Tell.mk (fun r i=>(Tell.mk (fun r i=>r==2&&i==8) (fun x x_1=>Orc.no) (fun x=>Tree.fail 1000003 0) (fun x=>0) (fun x=>([],[])) (fun x x_1 x_2=>Orc.no) fun x x_1=>Tree.fail 1000003 0).fz r i||fget [(2,8)] r i) (fun x x_1=>Orc.no) (fun x=>Tree.fail 1000003 0) (fun x=>0) (fun x=>([],[])) (oget [(66,2,8,Orc.may (k76 (List.drop (4*i) l) 4) [1] 1 [.ptr 0 0,.imm (i64 4)] errE (Orc.callb 1 [.ptr 0 0,.imm (i64 4)] 92 (.agg [.imm (slE 1 u8 (List.drop (Int.toNat 4) (List.drop (4*i) l)))]) (u64 (getV (List.drop (4*i) l) 4))))]) fun x x_1=>Tree.fail 1000003 0
theorem tp74r (ls:Nat→Abs.Loc)(m:Pdu)(l:List Int)(i:Nat):levLN prog Proofs.Try.f74 1 (I74 ls m l i) (TP74r ls m l i) fin74=
 (let q0:=List.drop (4*i) l;let q1:=List.map u32 (pvR l i);
 Tree.br (decide (0<(↑(List.length (List.map u8 q0)):Int))) (.br (k76 q0 4) (.need (ALeL [.ptr 0 0,.imm (i64 4)] [.ptr 0 0,.imm (i64 4)]∧GSpec prog 42 [(92,.agg [.imm (slE 1 u8 q0)])] [] [.ptr 0 0,.imm (i64 4)] [(92,.agg [.imm (slE 1 u8 (List.drop 4 q0))])] [] (.imm (u64 (getV q0 4)))) (.need (askA (some (1=1)) (List.length q1=i∧cellsOk q1=true∧true=true∧i+1≤1000000)) (.done Exit.normal (LState.mk [(1,.ptr 1 0),(0,.ptr 0 0)] [(0,Entry.bbox (ls 0) 85 (.agg [.imm (u8 m.version),.imm (u8 m.kind),.imm (u16 m.session),.imm (u32 m.serial),.imm (bo m.add),.imm (u32
 m.origin.asn),.imm (u8 m.origin.pfx.fam),.imm (u64 m.origin.pfx.addr.hi),.imm (u64 m.origin.pfx.addr.lo),.imm (i64 m.origin.pfx.len),.imm (i64 m.origin.max),.imm (u32 m.path.cust),.own 50 (i+1),.imm (u32 m.key.asn),.imm (u8 m.key.root[0]),.imm (u8 m.key.root[1]),.imm (u8 m.key.root[2]),.imm (u8 m.key.root[3]),.imm (u8 m.key.root[4]),.imm (u8 m.key.root[5]),.imm (u8 m.key.root[6]),.imm (u8 m.key.root[7]),.imm (u8 m.key.root[8]),.imm (u8 m.key.root[9]),.imm (u8 m.key.root[10]),.imm (u8 m.key.root[11]),.imm (u8 m.key.root[12]),.imm (u8 m.key.root[13]),.imm (u8 m.key.root[14]),.imm (u8
 m.key.root[15]),.imm (i64 m.key.height),.imm (u32 m.refresh),.imm (u32 m.retry),.imm (u32 m.expire),.imm (u16 m.code),.imm nS,.imm (st m.text)])),(1,Entry.bbox (ls 1) 92 (.agg [.imm (slE 1 u8 (List.drop 4 q0))])),(50,Entry.row 23 1 (List.map u32 (pvR l i)++[u32 (IntKind.wrap IntKind.u32 (getV q0 4))]))] 34 83 [])))) (.need (ALeL [.ptr 0 0,.imm (i64 4)] [.ptr 0 0,.imm (i64 4)]∧PSpec prog 42 [(92,.agg [.imm (slE 1 u8 q0)])] [] [.ptr 0 0,.imm (i64 4)] errE) (.done (Exit.panic [PanicEntry.mk errE false false]) (LState.mk [] [(0,Entry.bbox (ls 0) 85 (mP m (.own 50 i))),(50,Entry.row 23 1 q1)] 34
 83 [])))) (.done (Exit.exit 0) (LState.mk [] [(0,Entry.bbox (ls 0) 85 (mP m (.own 50 i))),(1,Entry.bbox (ls 1) 92 (sR q0)),(50,Entry.row 23 1 q1)] 34 66 []))):=by kernel_rfl
def E74p :LState:={t:=[],s:=[],m:=34,n:=90}
theorem lp74 (ls:Nat→Abs.Loc)(m:Pdu)(l:List Int)(q:Nat)(h1':4*q<l.length)(h2':l.length<4*q+4)(hl:q≤100000)(σ:LState)(h:LSub σ (I74 ls m l 0)):LoopOk prog [] (bodyOf Proofs.Try.f74) 1 σ (.done (.panic [⟨errE,false,false⟩]) E74p):=by
 refine LoopOk.ofN (γ:={i:Nat//i≤q}) (fun g=>TP74r ls m l g.1) (fun g=>I74 ls m l g.1) (fun g=>q+1-g.1) ⟨0,by omega⟩ fin74 (by kernel_rfl) h ?_
 rintro⟨i,hi⟩
 show (levLN prog Proofs.Try.f74 1 (I74 ls m l i) (TP74r ls m l i) fin74).sat _ _
 rw[tp74r]
 have hd:(l.drop (4*i)).length=l.length-4*i:=List.length_drop
 refine⟨fun h1=>⟨fun h2=>need_sat ⟨ALeL.refl _,g42 _ _ ?_ ?_ ?_⟩ (need_sat ?_ ?_),fun h2=>need_sat ⟨ALeL.refl _,p42 _ _ ?_⟩ ?_⟩,fun h1=>?_⟩
 ·omega
 ·exact(k76_t h2).2
 ·omega
 ·exact⟨⟨by simp[pvR_len],cellsOk_map u32 (fun _=>rfl) _,rfl,by omega⟩,rfl⟩
 ·have hlt:i<q:=by have:=(k76_t h2).2;omega
  refine⟨⟨i+1,by omega⟩,by simp only;omega,⟨rfl,rfl,trivial⟩,⟨rfl,?_,?_,trivial⟩,rfl,rfl,rfl⟩
  ·rw[List.drop_drop,show 4*i+4=4*(i+1) by omega];rfl
  ·rw[pvR_succ,List.map_append];rfl
 ·assumption
 ·exact⟨rfl,trivial,trivial,rfl,rfl,rfl⟩
 ·exfalso
  rw[decide_eq_false_iff_not,List.length_map,hd]at h1;omega
def TP74 (ls:Nat→Abs.Loc)(v k s:Int)(a:Bool)(c:Int)(l:List Int):Tell:=
 Tell.mk (fun x x_1=>false) (fun x x_1=>Orc.no) (fun x=>Tree.done (Exit.panic [PanicEntry.mk errE false false]) E74p) (fun x=>0) (fun x=>([1,0],[0,1])) (oget [(2,0,2,Orc.may (k76 l 4) [1] 1 [.ptr 0 0,.imm (i64 4)] errE (Orc.callg [1] 1 [.ptr 0 0,.imm (i64 4)] [(92,.agg [.imm (slE 1 u8 (List.drop (Int.toNat 4) l))])] [] (.imm (u64 (getV l 4)))))]) fun x x_1=>Tree.done (Exit.panic [PanicEntry.mk errE false false]) E74p
theorem tp74 (ls:Nat→Abs.Loc)(v k s:Int)(a:Bool)(c:Int)(l:List Int):levP prog Proofs.Try.f74 ls (two (z1 v k s a c) l) [] [.ptr 0 0,.ptr 1 0] errE (TP74 ls v k s a c l)=
 (let q0:=z1 v k s a c;
 Tree.br (k76 l 4) (.need (ALeL [.ptr 0 0,.imm (i64 4)] [.ptr 0 0,.imm (i64 4)]∧GSpec prog 42 [(92,.agg [.imm (slE 1 u8 l)])] [] [.ptr 0 0,.imm (i64 4)] [(92,.agg [.imm (slE 1 u8 (List.drop 4 l))])] [] (.imm (u64 (getV l 4)))) (.loop 1 (LState.mk [(1,.ptr 1 0),(0,.ptr 0 0)] [(0,Entry.bbox (ls 0) 85 (.agg [.imm (u8 q0.version),.imm (u8 q0.kind),.imm (u16 q0.session),.imm (u32 q0.serial),.imm (bo q0.add),.imm (u32 q0.origin.asn),.imm (u8 q0.origin.pfx.fam),.imm (u64 q0.origin.pfx.addr.hi),.imm (u64 q0.origin.pfx.addr.lo),.imm (i64 q0.origin.pfx.len),.imm (i64 q0.origin.max),.imm (u32
 (IntKind.wrap IntKind.u32 (getV l 4))),.imm nS,.imm (u32 q0.key.asn),.imm (u8 0),.imm (u8 0),.imm (u8 0),.imm (u8 0),.imm (u8 0),.imm (u8 0),.imm (u8 0),.imm (u8 0),.imm (u8 0),.imm (u8 0),.imm (u8 0),.imm (u8 0),.imm (u8 0),.imm (u8 0),.imm (u8 0),.imm (u8 0),.imm (i64 q0.key.height),.imm (u32 q0.refresh),.imm (u32 q0.retry),.imm (u32 q0.expire),.imm (u16 q0.code),.imm nS,.imm (st q0.text)])),(1,Entry.bbox (ls 1) 92 (.agg [.imm (slE 1 u8 (List.drop 4 l))]))] 34 11 []) (.done (Exit.panic [PanicEntry.mk errE false false]) E74p) (.need (errE=errE) (.done Exit.ret lnil)))) (.need (ALeL [.ptr 0
 0,.imm (i64 4)] [.ptr 0 0,.imm (i64 4)]∧PSpec prog 42 [(92,.agg [.imm (slE 1 u8 l)])] [] [.ptr 0 0,.imm (i64 4)] errE) (.need (errE=errE) (.done Exit.ret lnil)))):=by kernel_rfl
theorem p74 (v k s:Int)(a:Bool)(c:Int)(l:List Int)(hl:l.length≤100000)(h:k74 l=false):PSpec prog 74 (two (z1 v k s a c) l) [] [.ptr 0 0,.ptr 1 0] errE:=by
 refine PSpec.tree Proofs.Try.f74 (fun ls=>TP74 ls v k s a c l) (by kernel_rfl) (by kernel_rfl) fun ls=>?_
 rw[tp74]
 have hk:=of_decide_eq_false h
 unfold pN at hk
 refine⟨fun h1=>need_sat ⟨ALeL.refl _,g42 _ _ ?_ ?_ ?_⟩ ⟨?_,need_sat ?_ (trivial)⟩,fun h1=>need_sat ⟨ALeL.refl _,p42 _ _ ?_⟩ (need_sat ?_ (trivial))⟩
 ·omega
 ·exact(k76_t h1).2
 ·omega
 ·have h4:=(k76_t h1).2
  refine .nam (τ:=I74 ls (zP v k s a c (gu32 l)) (l.drop 4) 0) (.cell 0 12 50 23 1 (show 11≤50 by decide) (.more 60 (show 51≤60 by decide) (.sub ?_))) (lp74 ls (zP v k s a c (gu32 l)) (l.drop 4) ((l.length-4)/4) (by simp;omega) (by simp;omega) (by omega) _ ?_)
  ·exact⟨⟨rfl,rfl,trivial⟩,⟨rfl,rfl,rfl,trivial⟩,rfl,rfl,rfl⟩
  ·exact⟨⟨rfl,rfl,trivial⟩,⟨rfl,rfl,rfl,trivial⟩,rfl,rfl,rfl⟩
 all_goals first
  |assumption
  |rfl
end Gp
namespace Gp
def kF (k:Int)(l:List Int):Bool:=if k=9∨k=11 then k65 l else if k=2∨k=8∨k=4∨k=6 then k54 l else k50 l
theorem pfirstN (v k:Int)(l:List Int)(hk:isK k)(h:kF k l=false):PSpec prog (firstN k) (two (z1 v k 0 false 0) l) [] [.ptr 0 0,.ptr 1 0] errE:=by
 unfold isK at hk
 unfold kF at h
 unfold firstN
 rcases hk with rfl|rfl|rfl|rfl|rfl|rfl|rfl|rfl|rfl|rfl|rfl<;>simp at h⊢
 ·exact p50 v _ 0 false 0 l h
 ·exact p50 v _ 0 false 0 l h
 ·exact p54 v _ 0 false 0 l h
 ·exact p54 v _ 0 false 0 l h
 ·exact p54 v _ 0 false 0 l h
 ·exact p54 v _ 0 false 0 l h
 ·exact p50 v _ 0 false 0 l h
 ·exact p50 v _ 0 false 0 l h
 ·exact p65 v _ 0 false 0 l h
 ·exact p70 v _ 0 false 0 l h
 ·exact p65 v _ 0 false 0 l h
theorem kF_t {k:Int}{l:List Int}(h:kF k l=true):okF1 k l:=by
 unfold kF at h
 unfold okF1
 split at h
 ·have:=of_decide_eq_true h
  exact⟨this.1,fun _=>this.2,fun h2=>by omega⟩
 split at h
 ·have:=of_decide_eq_true h
  exact⟨this.1,fun h2=>by omega,fun _=>this.2⟩
 ·have:=of_decide_eq_true h
  exact⟨this,fun h2=>by omega,fun h2=>by omega⟩
def kT (v k:Int)(l:List Int):Bool:=if k=4∨k=6 then k58 k l else if k=7 then k61 v l else if k=0∨k=1 then k51 l else true
theorem pthenN (v k s:Int)(a:Bool)(c:Int)(l:List Int)(hk:isS k)(h:kT v k l=false):PSpec prog (thenN k) (two (z1 v k s a c) l) [] [.ptr 0 0,.ptr 1 0] errE:=by
 unfold isS at hk
 unfold kT at h
 unfold thenN
 rcases hk with rfl|rfl|rfl|rfl|rfl|rfl|rfl|rfl<;>simp at h⊢
 ·exact p51 v _ s a c l h
 ·exact p51 v _ s a c l h
 ·exact p58 v _ s a c l h
 ·exact p58 v _ s a c l h
 ·exact p61 v _ s a c l h
theorem kT_t {v k:Int}{l:List Int}(h:kT v k l=true):tN v k≤l.length∧(k=4∨k=6→getV l 1≤1∧getV (l.drop 3) 1=0):=by
 unfold kT at h
 unfold tN
 split at h
 ·rename_i hk
  have:=of_decide_eq_true h
  rw[if_pos hk];exact⟨this.1,fun _=>this.2⟩
 rename_i hk
 rw[if_neg hk]
 split at h
 ·rename_i h7
  have:=of_decide_eq_true h
  rw[if_pos h7];exact⟨this,fun h2=>by omega⟩
 rename_i h7
 rw[if_neg h7]
 split at h
 ·rename_i h0
  have:=of_decide_eq_true h
  rw[if_pos h0];exact⟨this,fun h2=>by omega⟩
 ·rename_i h0
  rw[if_neg h0];exact⟨Nat.zero_le _,fun h2=>by omega⟩
theorem k71_t {l:List Int}(h:k71 l=true):4≤l.length∧0≤gn l∧gn l+4≤l.length∧4≤(fL1 l).length∧0≤gn (fL1 l)∧gn (fL1 l)+4≤(fL1 l).length:=of_decide_eq_true h
theorem k66_t {l:List Int}(h:k66 l=true):21≤l.length:=of_decide_eq_true h
theorem k74_t {l:List Int}(h:k74 l=true):l.length=4+4*pN l:=of_decide_eq_true h
theorem k50_t {l:List Int}(h:k50 l=true):2≤l.length:=of_decide_eq_true h
theorem k65_t {l:List Int}(h:k65 l=true):2≤l.length∧getV l 1≤1∧getV (l.drop 1) 1=0:=of_decide_eq_true h
end Gp
namespace Gp
theorem run_neq_nil {P:Program}(w:World){t:TypeId}{ms:Array (String×TypeId)}(ht:P.underlying t=some (.interface ms)):
  (binOp .neq t .nilIface .nilIface).run P w=.ok (.bool false) w:=by
 have h:∀d:Nat,(Op.equalIn (d+1) t .nilIface .nilIface).run P w=.ok true w:=fun d=>by
  simp[Op.equalIn,run_underlying ht]
 simp only[binOp]
 simp[Op.equal,Op.maxDepth,h 9999]
theorem run_neq_some {P:Program}(w:World){t s:TypeId}{v:Value}{ms:Array (String×TypeId)}(ht:P.underlying t=some (.interface ms)):
  (binOp .neq t (.iface s v) .nilIface).run P w=.ok (.bool true) w:=by
 have h:∀d:Nat,(Op.equalIn (d+1) t (.iface s v) .nilIface).run P w=.ok false w:=fun d=>by
  simp[Op.equalIn,run_underlying ht]
 simp only[binOp]
 simp[Op.equal,Op.maxDepth,h 9999]
theorem f75_at :prog.funcs[75]?=some Proofs.Try.f75:=by kernel_rfl
theorem t20_at :prog.underlying 20=some (.interface #[]):=by kernel_rfl
theorem nop75 :DNop prog 75 2:=by
 intro vs w hv
 obtain⟨x,y,rfl⟩:∃x y,vs=#[x,y]:=by
  obtain⟨l⟩:=vs
  match l,hv with
  |[x,y],_=>exact⟨x,y,rfl⟩
 refine⟨?_,?_⟩
 ·simp[callFunc,Proofs.Try.f75]
 ·have hnn:∀w,(binOp .neq 20 .nilIface .nilIface).run prog w=.ok (.bool false) w:=fun w=>run_neq_nil w t20_at
  refine callsD_of_wpS (fn:=Proofs.Try.f75) f75_at rfl fun c₀ cs hu=>?_
  apply wpS_seq
  apply wpS_region
  simp only[List.size_toArray,List.length_cons,List.length_nil]
  rw[show List.range (0+1+1)=[0,1]from rfl]
  simp[wpOpsS,go_sem,recoverD,hu,Exit.thenS]
  apply wpS_seq
  apply wpS_region
  simp only[List.size_toArray,List.length_cons,List.length_nil]
  rw[show List.range (0+1+1)=[0,1]from rfl]
  simp[wpOpsS,go_sem,hnn,Exit.thenS,Proofs.Try.f75,hv]
  refine wpS_cond (t:=false) (by simp[Act.eval,Array.replicate]) ?_
  simp only[Bool.false_eq_true,if_false]
  refine wpS_of_wp (wp_skip ?_)
  cases c₀
  simp_all[bodyPostS,results,Proofs.Try.f75]
def z42 :IVal:=.agg [u8 0,u8 0,u16 0,u32 0,bo false,u32 0,u8 0,u64 0,u64 0,i64 0,i64 0,u32 0,.v (.slice none 0 0),u32 0,u8 0,u8 0,u8 0,u8 0,u8 0,u8 0,u8 0,u8 0,u8 0,u8 0,u8 0,u8 0,u8 0,u8 0,u8 0,u8 0,i64 0,u32 0,u32 0,u32 0,u16 0,.v (.slice none 0 0),.v (.string .empty)]
def cells35 :List (Nat×IVal):=[(42,z42),(4,bo false)]
def X75 (ls:Nat→Abs.Loc):LState:={t:=[(2,.imm (.v errE)),(0,.ptr 0 0),(1,.ptr 1 0)],s:=[(0,.bbox (ls 0) 42 (.imm z42)),(1,.bbox (ls 1) 4 (.imm (bo false)))],m:=17,n:=2}
def kX :Exit→LState→Tree
 |.normal,s=>.done .normal s
 |_,_=>.fail 0 0
def TX75 (ls:Nat→Abs.Loc):Tell:=
 Tell.mk (fun x x_1=>false) (fun x x_1=>Orc.no) (fun x=>Tree.fail 1000003 0) (fun x=>0) (fun x=>([],[])) (fun x x_1 x_2=>Orc.no) fun x x_1=>Tree.fail 1000003 0
theorem tx75 (ls:Nat→Abs.Loc):levX prog Proofs.Try.f75 (X75 ls) (TX75 ls) kX=
 Tree.br false (.fail 0 0) (.done Exit.normal (LState.mk [(16,.agg [.imm (u8 0),.imm (u8 0),.imm (u16 0),.imm (u32 0),.imm (bo false),.imm (u32 0),.imm (u8 0),.imm (u64 0),.imm (u64 0),.imm (i64 0),.imm (i64 0),.imm (u32 0),.imm nS,.imm (u32 0),.imm (u8 0),.imm (u8 0),.imm (u8 0),.imm (u8 0),.imm (u8 0),.imm (u8 0),.imm (u8 0),.imm (u8 0),.imm (u8 0),.imm (u8 0),.imm (u8 0),.imm (u8 0),.imm (u8 0),.imm (u8 0),.imm (u8 0),.imm (u8 0),.imm (i64 0),.imm (u32 0),.imm (u32 0),.imm (u32 0),.imm (u16 0),.imm nS,.imm (st .empty)]),(14,.imm (bo false)),(13,.imm (bo true)),(4,.imm (bo true)),(3,.ptr 7
 0),(12,.imm (bo true)),(11,.imm (.agg [])),(8,.tup [.imm (.agg []),.imm (bo true)]),(10,.tup [.imm (.agg []),.imm (bo true)]),(9,.imm (.v errE)),(2,.imm (.v errE)),(0,.ptr 0 0),(1,.ptr 1 0)] [(1,Entry.bbox (ls 1) 4 (.imm (bo false))),(0,Entry.bbox (ls 0) 42 (.agg [.imm (u8 0),.imm (u8 0),.imm (u16 0),.imm (u32 0),.imm (bo false),.imm (u32 0),.imm (u8 0),.imm (u64 0),.imm (u64 0),.imm (i64 0),.imm (i64 0),.imm (u32 0),.imm nS,.imm (u32 0),.imm (u8 0),.imm (u8 0),.imm (u8 0),.imm (u8 0),.imm (u8 0),.imm (u8 0),.imm (u8 0),.imm (u8 0),.imm (u8 0),.imm (u8 0),.imm (u8 0),.imm (u8 0),.imm (u8
 0),.imm (u8 0),.imm (u8 0),.imm (u8 0),.imm (i64 0),.imm (u32 0),.imm (u32 0),.imm (u32 0),.imm (u16 0),.imm nS,.imm (st .empty)])),(7,Entry.box 100 (.imm (.agg [])))] 17 15 [])):=by kernel_rfl
theorem catch75 :DCatch prog 75 (immB cells35) cells35 errE:=by
 intro w F ι a hR
 obtain⟨tm,df⟩:=a
 have hsz:tm.size=2:=hR.size
 obtain⟨x,y,rfl⟩:∃x y,tm=#[x,y]:=by
  obtain⟨l⟩:=tm
  match l,hsz with
  |[x,y],_=>exact⟨x,y,rfl⟩
 have hx:=(hR.tmp 0).2
 have hy:=(hR.tmp 1).2
 have hnn:∀w,(binOp .neq 20 errE .nilIface).run prog w=.ok (.bool true) w:=fun w=>run_neq_some w t20_at
 have hs:=lev_sound (P:=prog) (D:=[]) (Λ:=fun _ _ _=>True) (Q:=fun e s=>e=.normal∧∃x y,s.toA.s 0=some (.bbox (ι 0) 42 x)∧s.toA.s 1=some (.bbox (ι 1) 4 y)∧aimm x=some z42∧aimm y=some (bo false)) (catchX (bodyOf Proofs.Try.f75)) (X75 ι) kX (fun p hp=>by cases hp) (by
  have:=tx75 ι
  unfold levX at this
  rw[this]
  exact⟨fun h=>(by cases h),fun _=>⟨rfl,_,_,rfl,rfl,rfl,rfl⟩⟩)
 refine callsD_of_wpS (fn:=Proofs.Try.f75) f75_at rfl fun c₀ cs hu=>?_
 apply wpS_seq
 apply wpS_region
 simp only[List.size_toArray,List.length_cons,List.length_nil]
 rw[show List.range (0+1+1)=[0,1]from rfl]
 simp[wpOpsS,go_sem,recoverD,hu,Exit.thenS]
 apply wpS_seq
 apply wpS_region
 simp only[List.size_toArray,List.length_cons,List.length_nil]
 rw[show List.range (0+1+1)=[0,1]from rfl]
 simp[wpOpsS,go_sem,hnn,Exit.thenS,Proofs.Try.f75]
 refine wpS_cond (t:=true) (by simp[Act.eval,Act.put]) ?_
 simp only[if_true]
 refine wpS_of_wp ?_
 have hss:(X75 ι).toA.s=(gstate ι (immB cells35) (rows []) (ptrsN 2) 2).s:=by
  funext i
  match i with
  |0=>rfl
  |1=>rfl
  |n+2=>simp[X75,LState.toA,sl,gstate,gentry,immB,cells35,rows]
 have own1:∀b,Owned ι (X75 ι).toA b→Owned ι (gstate ι (immB cells35) (rows []) (ptrsN 2) 2) b:=by
  rintro b ⟨id,e,h1,h2⟩
  rw[hss]at h1
  exact⟨id,e,h1,h2⟩
 refine wp_mono (hs ι F _ w ⟨by simp[Act.put,X75,LState.toA],fun i=>?_,fun id e he=>?_,fun b hb=>hR.off b (own1 b hb),fun i j ei ej hi hj=>?_,hR.foot,hR.col⟩ rfl) ?_
 ·match i with
  |0=>refine⟨(hR.tmp 0).1,?_⟩;simp[Act.put]at hx⊢;exact hx
  |1=>refine⟨(hR.tmp 1).1,?_⟩;simp[Act.put]at hy⊢;exact hy
  |2=>exact⟨by show AIn _ (.imm (.v errE));rw[AIn];trivial,by simp[Act.put];show ARep w F ι (.imm (.v errE)) errE;rw[ARep,IRep];exact⟨rfl,rfl⟩⟩
  |n+3=>
   have:(X75 ι).toA.t (n+3)=.any:=by simp[X75,LState.toA,tl]
   rw[this];exact⟨by rw[AIn];trivial,by rw[ARep];trivial⟩
 ·rw[hss]at he;exact hR.ent id e he
 ·rw[hss]at hi hj;exact hR.sep i j ei ej hi hj
 ·rintro e a' w' ⟨ι',F',σ',⟨s,h1,rfl⟩,h2,h3,h4⟩
  cases e with
  |normal=>
   obtain⟨_,x,y,g1,g2,g3,g4⟩:=h1
   have hP:Pass ι F (gstate ι (immB cells35) (rows []) (ptrsN 2) 2) w ι' F' s.toA w':=
    ⟨h4.os,h4.tape,h4.output,h4.size,fun b hb hn=>h4.frame b hb (fun ho=>hn (own1 b ho)),fun b hb=>(h4.own b hb).imp (own1 b) id,h4.mono,fun c b hb=>(h4.src c b hb).imp id (Or.imp id (own1 b))⟩
   obtain⟨a'',r1,r2⟩:=catch_end (bx':=cells35) h2 hP (fun i p hp=>by
    match i with
    |0=>cases hp;exact⟨x,g1,g3⟩
    |1=>cases hp;exact⟨y,g2,g4⟩
    |n+2=>simp[cells35]at hp)
   refine⟨h3,_,rfl,.tuple #[],?_,⟨_,rfl⟩,rfl,ι',F',⟨a'',r1⟩,r2⟩
   simp[results]
  |_=>exact h1.elim
end Gp
