/- PROVED HERE: the statement PduCodesSaid: whatever comes in, the law returns true and each argument reads as before. No condition. -/
import Derived.Test.YtnfdbpopcfcegaaW9
set_option maxRecDepth 100000
set_option maxHeartbeats 0
set_option linter.unusedVariables false
set_option linter.unusedSimpArgs false
open Go Go.Abs
noncomputable section
namespace Gp
def T32o (l:List Int):Tell:=
 Tell.mk (fun x x_1=>false) (fun x x_1=>Orc.no) (fun x=>Tree.fail 1000003 0) (fun x=>0) (fun x=>([],[])) (fun x x_1 x_2=>Orc.no) fun x x_1=>Tree.fail 1000003 0
theorem t32o (l:List Int):levO prog Proofs.Try.f32 [slE 1 u32 l] (T32o l)=
 (let q0:=List.map u32 l;
 Tree.alt (List.isEmpty q0) (.done Exit.ret (LState.mk [] [] 1 0 [])) (.need (askA none (0=0∧true=true∧cellsOk q0=true∧0+List.length q0≤1000000)) (.need (List.length ([]++List.map u32 l)=0+List.length q0) (.done Exit.ret (lretO 23 1 ([]++List.map u32 l)))))):=by kernel_rfl
def T33o (l:List Int):Tell:=
 Tell.mk (fun x x_1=>false) (fun x x_1=>Orc.no) (fun x=>Tree.fail 1000003 0) (fun x=>0) (fun x=>([],[])) (fun x x_1 x_2=>Orc.no) fun x x_1=>Tree.fail 1000003 0
theorem t33o (l:List Int):levO prog Proofs.Try.f33 [slE 1 u8 l] (T33o l)=
 (let q0:=List.map u8 l;
 Tree.alt (List.isEmpty q0) (.done Exit.ret (LState.mk [] [] 1 0 [])) (.need (askA none (0=0∧true=true∧cellsOk q0=true∧0+List.length q0≤1000000)) (.need (List.length ([]++List.map u8 l)=0+List.length q0) (.done Exit.ret (lretO 5 1 ([]++List.map u8 l)))))):=by kernel_rfl
theorem o32 (l:List Int)(hl:l.length≤1000000):OSpec prog 32 [slE 1 u32 l] 23 1 (l.map u32):=by
 refine OSpec.tree Proofs.Try.f32 (T32o l) (by kernel_rfl) (by kernel_rfl) ?_
 rw[t32o]
 refine⟨fun h=>.inr ⟨rfl,List.isEmpty_iff.1 h⟩,need_sat ⟨rfl,rfl,cellsOk_map u32 (fun _=>rfl) _,by simp;omega⟩ (need_sat (by simp) (.inl (by rw[List.nil_append])))⟩
theorem o33 (l:List Int)(hl:l.length≤1000000):OSpec prog 33 [slE 1 u8 l] 5 1 (l.map u8):=by
 refine OSpec.tree Proofs.Try.f33 (T33o l) (by kernel_rfl) (by kernel_rfl) ?_
 rw[t33o]
 refine⟨fun h=>.inr ⟨rfl,List.isEmpty_iff.1 h⟩,need_sat ⟨rfl,rfl,cellsOk_map u8 (fun _=>rfl) _,by simp;omega⟩ (need_sat (by simp) (.inl (by rw[List.nil_append])))⟩
def mTw (p:Pdu)(x y:AVal):AVal:=.agg [.imm (u8 p.version),.imm (u8 p.kind),.imm (u16 p.session),.imm (u32 p.serial),.imm (bo p.add),.imm (u32 p.origin.asn),.imm (u8 p.origin.pfx.fam),.imm (u64 p.origin.pfx.addr.hi),.imm (u64 p.origin.pfx.addr.lo),.imm (i64 p.origin.pfx.len),.imm (i64 p.origin.max),.imm (u32 p.path.cust),x,.imm (u32 p.key.asn),.imm (u8 p.key.root[0]),.imm (u8 p.key.root[1]),.imm (u8 p.key.root[2]),.imm (u8 p.key.root[3]),.imm (u8 p.key.root[4]),.imm (u8 p.key.root[5]),.imm (u8 p.key.root[6]),.imm (u8 p.key.root[7]),.imm (u8 p.key.root[8]),.imm (u8 p.key.root[9]),.imm (u8 p.key.root[10]),.imm (u8 p.key.root[11]),.imm (u8 p.key.root[12]),.imm (u8 p.key.root[13]),.imm (u8 p.key.root[14]),.imm (u8 p.key.root[15]),.imm (i64 p.key.height),.imm (u32 p.refresh),.imm (u32 p.retry),.imm (u32 p.expire),.imm (u16 p.code),y,.imm (st p.text)]
def T13g (ls:Nat→Abs.Loc)(p:Pdu):Tell:=
 Tell.mk (fun r i=>r==1&&(i==3||i==6)) (fun r i=>if(r==1&&i==3)=true then Orc.callo [slE 1 u32 p.path.provs] 23 1 (List.map u32 p.path.provs)else if(r==1&&i==6)=true then Orc.callo [slE 1 u8 p.copy] 5 1 (List.map u8 p.copy)else Orc.no) (fun x=>Tree.fail 1000003 0) (fun x=>0) (fun x=>([],[])) (ogetO (fun r i=>if(r==1&&i==3)=true then Orc.callo [slE 1 u32 p.path.provs] 23 1 (List.map u32 p.path.provs)else if(r==1&&i==6)=true then Orc.callo [slE 1 u8 p.copy] 5 1 (List.map u8 p.copy)else Orc.no) []) fun x x_1=>Tree.fail 1000003 0
theorem t13g (ls:Nat→Abs.Loc)(p:Pdu):levG prog Proofs.Try.f13 ls [] [] [.imm (encD p)] [] [.row 23 1 (p.path.provs.map u32),.row 5 1 (p.copy.map u8)] (mTw p (.own 0 (p.path.provs.map u32).length) (.own 1 (p.copy.map u8).length)) (T13g ls p)=
 (let q0:=List.map u32 p.path.provs;let q1:=List.map u8 p.copy;
 Tree.need (ILeL [lu32 p.path.provs] [slE 1 u32 p.path.provs]∧OSpec prog 32 [slE 1 u32 p.path.provs] 23 1 q0) (.need (ILeL [lu8 p.copy] [slE 1 u8 p.copy]∧OSpec prog 33 [slE 1 u8 p.copy] 5 1 q1) (.need (([]:List (Abs.Loc×Nat×AVal))=[]∧ELeL [Entry.row 23 1 q0,Entry.row 5 1 q1] [Entry.row 23 1 q0,Entry.row 5 1 q1]∧ALe (.agg [.imm (u8 p.version),.imm (u8 p.kind),.imm (u16 p.session),.imm (u32 p.serial),.imm (bo p.add),.imm (u32 p.origin.asn),.imm (u8 p.origin.pfx.fam),.imm (u64 p.origin.pfx.addr.hi),.imm (u64 p.origin.pfx.addr.lo),.imm (i64 p.origin.pfx.len),.imm (i64
 p.origin.max),.imm (u32 p.path.cust),.own 0 (List.length q0),.imm (u32 p.key.asn),.imm (u8 p.key.root[0]),.imm (u8 p.key.root[1]),.imm (u8 p.key.root[2]),.imm (u8 p.key.root[3]),.imm (u8 p.key.root[4]),.imm (u8 p.key.root[5]),.imm (u8 p.key.root[6]),.imm (u8 p.key.root[7]),.imm (u8 p.key.root[8]),.imm (u8 p.key.root[9]),.imm (u8 p.key.root[10]),.imm (u8 p.key.root[11]),.imm (u8 p.key.root[12]),.imm (u8 p.key.root[13]),.imm (u8 p.key.root[14]),.imm (u8 p.key.root[15]),.imm (i64 p.key.height),.imm (u32 p.refresh),.imm (u32 p.retry),.imm (u32 p.expire),.imm (u16 p.code),.own 1 (List.length
 q1),.imm (st p.text)]) (mTw p (.own 0 (List.length q0)) (.own 1 (List.length q1)))) (.done Exit.ret lnil)))):=by kernel_rfl
def T12 (p:Pdu):Tell:=
 Tell.mk (fun r i=>r==1&&i==4||r==2&&i==3) (fun x x_1=>Orc.no) (fun x=>Tree.fail 1000003 0) (fun x=>0) (fun x=>([],[])) (fun x x_1 x_2=>Orc.no) fun x x_1=>Tree.fail 1000003 0
theorem t12 (p:Pdu):levF prog Proofs.Try.f12 [encD p] (T12 p)=
 Tree.need (askA none (0=0∧true=true∧cellsOk (List.map u32 p.path.provs)=true∧0+List.length (List.map u32 p.path.provs)≤1000000)) (.need (askA none (0=0∧true=true∧cellsOk (List.map u8 p.copy)=true∧0+List.length (List.map u8 p.copy)≤1000000)) (.done Exit.ret (lret (.agg [u8 p.version,u8 p.kind,u16 p.session,u32 p.serial,bo p.add,u32 p.origin.asn,u8 p.origin.pfx.fam,u64 p.origin.pfx.addr.hi,u64 p.origin.pfx.addr.lo,i64 p.origin.pfx.len,i64 p.origin.max,u32 p.path.cust,.sl true false 1 ([]++List.map u32 p.path.provs),u32 p.key.asn,u8 p.key.root[0],u8
 p.key.root[1],u8 p.key.root[2],u8 p.key.root[3],u8 p.key.root[4],u8 p.key.root[5],u8 p.key.root[6],u8 p.key.root[7],u8 p.key.root[8],u8 p.key.root[9],u8 p.key.root[10],u8 p.key.root[11],u8 p.key.root[12],u8 p.key.root[13],u8 p.key.root[14],u8 p.key.root[15],i64 p.key.height,u32 p.refresh,u32 p.retry,u32 p.expire,u16 p.code,.sl true false 1 ([]++List.map u8 p.copy),st p.text])))):=by kernel_rfl
theorem g13 (p:Pdu)(h1:p.copy.length≤1000000)(h2:p.path.provs.length≤1000000):GSpec prog 13 [] [] [.imm (encD p)] [] [.row 23 1 (p.path.provs.map u32),.row 5 1 (p.copy.map u8)] (mTw p (.own 0 (p.path.provs.map u32).length) (.own 1 (p.copy.map u8).length)):=by
 refine GSpec.tree Proofs.Try.f13 (fun ls=>T13g ls p) (by kernel_rfl) (by kernel_rfl) rfl fun ls=>?_
 rw[t13g]
 exact need_sat ⟨ILeL.refl _,o32 _ h2⟩ (need_sat ⟨ILeL.refl _,o33 _ h1⟩ ⟨⟨rfl,.refl _,.refl _⟩,fun _=>trivial⟩)
theorem c12 (p:Pdu)(h1:p.copy.length≤1000000)(h2:p.path.provs.length≤1000000):ASpec prog 12 [encD p] (encD p):=by
 refine ASpec.treeW Proofs.Try.f12 (T12 p) (by kernel_rfl) (by kernel_rfl) (t12 p) ?_
 refine need_sat ⟨rfl,rfl,cellsOk_map u32 (fun _=>rfl) _,by simp;omega⟩ (need_sat ⟨rfl,rfl,cellsOk_map u8 (fun _=>rfl) _,by simp;omega⟩ ⟨_,rfl,?_⟩)
 exact ile_pdu p _ _ (.sl (fun h=>by cases h) (fun h=>by cases h) (by rw[List.nil_append];exact .refl _)) (.sl (fun h=>by cases h) (fun h=>by cases h) (by rw[List.nil_append];exact .refl _))
def I18a (p:Pdu)(n m:Nat)(ps cs:List Int)(i:Nat):LState:={t:=[(2,.imm (i64 i)),(1,.ptr 2 0)],s:=[(0,.row 23 1 (ps.map u32)),(1,.row 5 1 (cs.map u8)),(2,.box 42 (mTw p (.own 0 n) (.own 1 m)))],m:=34,n:=4}
def E18a (p:Pdu)(n m:Nat)(ps:List Int):LState:={t:=[(1,.ptr 2 0)],s:=[(0,.row 23 1 (ps.map u32)),(2,.box 42 (mTw p (.own 0 n) (.own 1 m)))],m:=34,n:=4}
def I18b (p:Pdu)(n m:Nat)(ps:List Int)(i:Nat):LState:={t:=[(3,.imm (i64 i)),(1,.ptr 2 0)],s:=[(0,.row 23 1 (ps.map u32)),(2,.box 42 (mTw p (.own 0 n) (.own 1 m)))],m:=34,n:=8}
def E18b :LState:={t:=[],s:=[],m:=34,n:=8}
def fin18a :Exit→Fin
 |.normal=>⟨[],[2,1],[0,1,2]⟩
 |_=>⟨[],[1],[0,2]⟩
def fin18b :Exit→Fin
 |.normal=>⟨[],[3,1],[0,2]⟩
 |_=>⟨[],[],[]⟩
def T18a (p:Pdu)(n m:Nat)(ps cs:List Int)(i:Nat):Tell:=
 Tell.mk (fun x x_1=>false) (fun x x_1=>Orc.no) (fun x=>Tree.fail 1000003 0) (fun x=>0) (fun x=>([],[])) (oget [(9,4,4,Orc.elem (u8 (List.getD cs i default))),(9,4,7,Orc.elem (.tup []))]) fun x x_1=>Tree.fail 1000003 0
theorem t18a (p:Pdu)(n m:Nat)(ps cs:List Int)(i:Nat):levL prog Proofs.Try.f18 2 (I18a p n m ps cs i) (T18a p n m ps cs i) fin18a=
 Tree.br (decide ((↑i:Int)<(↑m:Int))) (.need (0≤(↑i:Int)∧i<m) (.need ((List.map u8 cs)[i]?=some (u8 (List.getD cs i 0))) (.need (0≤(↑i:Int)∧i<m) (.need (i<List.length (List.map u8 cs)) (.done Exit.normal (LState.mk [(2,.imm (i64 (IntKind.wrap IntKind.i64 ((↑i:Int)+1)))),(1,.ptr 2 0)] [(0,Entry.row 23 1 (List.map u32 ps)),(1,Entry.row 5 1 (List.set (List.map u8 cs) i (u8 (IntKind.wrap IntKind.u8 (List.getD cs i (0:Int)+(1:Int)))))),(2,Entry.box 42 (mTw p (.own 0 n) (.own 1 m)))] 34 20 [])))))) (.done (Exit.exit 0) (LState.mk [(1,.ptr 2 0)] [(0,Entry.row 23 1
 (List.map u32 ps)),(2,Entry.box 42 (mTw p (.own 0 n) (.own 1 m)))] 34 9 [])):=by kernel_rfl
def T18b (p:Pdu)(n m:Nat)(ps:List Int)(i:Nat):Tell:=
 Tell.mk (fun x x_1=>false) (fun x x_1=>Orc.no) (fun x=>Tree.fail 1000003 0) (fun x=>0) (fun x=>([],[])) (oget [(14,8,5,Orc.elem (u32 (List.getD ps i default))),(14,8,8,Orc.elem (.tup []))]) fun x x_1=>Tree.fail 1000003 0
theorem t18b (p:Pdu)(n m:Nat)(ps:List Int)(i:Nat):levL prog Proofs.Try.f18 6 (I18b p n m ps i) (T18b p n m ps i) fin18b=
 Tree.br (decide ((↑i:Int)<(↑n:Int))) (.need (0≤(↑i:Int)∧i<n) (.need ((List.map u32 ps)[i]?=some (u32 (List.getD ps i 0))) (.need (0≤(↑i:Int)∧i<n) (.need (i<List.length (List.map u32 ps)) (.done Exit.normal (LState.mk [(3,.imm (i64 (IntKind.wrap IntKind.i64 ((↑i:Int)+1)))),(1,.ptr 2 0)] [(0,Entry.row 23 1 (List.set (List.map u32 ps) i (u32 (IntKind.wrap IntKind.u32 (List.getD ps i (0:Int)+(1:Int)))))),(2,Entry.box 42 (mTw p (.own 0 n) (.own 1 m)))] 34 26 [])))))) (.done (Exit.exit 2) (LState.mk [] [] 34 14 [])):=by kernel_rfl
def T18g (ls:Nat→Abs.Loc)(p:Pdu)(n m:Nat)(ps cs:List Int):Tell:=
 Tell.mk (fun x x_1=>false) (fun x x_1=>Orc.no) (fun k=>if(k==2)=true then Tree.done (Exit.exit 0) (E18a p n m ps)else Tree.done (Exit.exit 2) E18b) (fun x=>0) (fun k=>if(k==2)=true then([2,1],[0,1,2])else([3,1],[0,2])) (fun x x_1 x_2=>Orc.no) fun x k=>if(k==2)=true then Tree.done (Exit.exit 0) (E18a p n m ps)else Tree.done (Exit.exit 2) E18b
theorem t18g (ls:Nat→Abs.Loc)(p:Pdu)(n m:Nat)(ps cs:List Int):levG prog Proofs.Try.f18 ls [] [(23,1,ps.map u32),(5,1,cs.map u8)] [mTw p (.own 0 n) (.own 1 m)] [] [] (.tup []) (T18g ls p n m ps cs)=
 Tree.loop 2 (LState.mk [(2,.imm (i64 0)),(1,.ptr 2 0)] [(0,Entry.row 23 1 (List.map u32 ps)),(1,Entry.row 5 1 (List.map u8 cs)),(2,Entry.box 42 (.agg [.imm (u8 p.version),.imm (u8 p.kind),.imm (u16 p.session),.imm (u32 p.serial),.imm (bo p.add),.imm (u32 p.origin.asn),.imm (u8 p.origin.pfx.fam),.imm (u64 p.origin.pfx.addr.hi),.imm (u64 p.origin.pfx.addr.lo),.imm (i64 p.origin.pfx.len),.imm (i64 p.origin.max),.imm (u32 p.path.cust),.own 0 n,.imm (u32 p.key.asn),.imm (u8 p.key.root[0]),.imm (u8 p.key.root[1]),.imm (u8 p.key.root[2]),.imm (u8 p.key.root[3]),.imm (u8 p.key.root[4]),.imm (u8
 p.key.root[5]),.imm (u8 p.key.root[6]),.imm (u8 p.key.root[7]),.imm (u8 p.key.root[8]),.imm (u8 p.key.root[9]),.imm (u8 p.key.root[10]),.imm (u8 p.key.root[11]),.imm (u8 p.key.root[12]),.imm (u8 p.key.root[13]),.imm (u8 p.key.root[14]),.imm (u8 p.key.root[15]),.imm (i64 p.key.height),.imm (u32 p.refresh),.imm (u32 p.retry),.imm (u32 p.expire),.imm (u16 p.code),.own 1 m,.imm (st p.text)]))] 34 4 []) (.done (Exit.exit 0) (E18a p n m ps)) (.loop 6 (LState.mk [(3,.imm (i64 0)),(1,.ptr 2 0)] [(0,Entry.row 23 1 (List.map u32 ps)),(2,Entry.box 42 (mTw p (.own 0 n) (.own 1 m)))] 34 5 []) (.done
 (Exit.exit 2) E18b) (.need (([]:List (Abs.Loc×Nat×AVal))=[]∧ELeL [] []∧ALe (.tup []) (.tup [])) (.done Exit.ret lnil))):=by kernel_rfl
theorem l18a (p:Pdu)(n:Nat)(ps cs:List Int)(hl:cs.length≤1000000)(σ:LState)(h:LSub σ (I18a p n cs.length ps cs 0)):LoopOk prog [] (bodyOf Proofs.Try.f18) 2 σ (.done (.exit 0) (E18a p n cs.length ps)):=by
 refine LoopOk.of_levL (γ:={g:List Int×Nat//g.1.length=cs.length∧g.2≤cs.length}) (fun g=>T18a p n cs.length ps g.1.1 g.1.2) fin18a (fun g=>I18a p n cs.length ps g.1.1 g.1.2) (fun g=>cs.length-g.1.2) ⟨(cs,0),rfl,Nat.zero_le _⟩ (by kernel_rfl) h ?_
 rintro⟨⟨c,i⟩,h1,h2⟩
 simp only at h1 h2
 show (levL prog Proofs.Try.f18 2 (I18a p n cs.length ps c i) (T18a p n cs.length ps c i) fin18a).sat _ _
 rw[t18a]
 refine⟨fun h3=>?_,fun h3=>?_⟩
 ·have h3':i<cs.length:=Int.ofNat_lt.1 (of_decide_eq_true h3)
  have hi:i<c.length:=by omega
  refine need_sat ⟨by omega,h3'⟩ (need_sat ?_ (need_sat ⟨by omega,h3'⟩ (need_sat (by rw[List.length_map];exact hi) ?_)))
  ·simp[List.getD_eq_getElem?_getD,List.getElem?_eq_getElem hi]
  ·refine⟨⟨(c.set i (IntKind.u8.wrap (c.getD i 0+1)),i+1),by rw[List.length_set];exact h1,h3'⟩,by show cs.length-(i+1)<cs.length-i;omega,⟨?_,rfl,trivial⟩,⟨rfl,?_,rfl,trivial⟩,rfl,rfl,rfl⟩
   ·refine congrArg (fun n=>AVal.imm (i64 n)) ?_
    show IntKind.i64.wrap ((i:Int)+1)=((i+1:Nat):Int)
    rw[IntWalk.i64_in _ (by omega)];omega
   ·refine congrArg (fun l=>some (Entry.row 5 1 l)) ?_
    rw[List.map_set]<;>rfl
 ·exact⟨rfl,⟨rfl,trivial⟩,⟨rfl,rfl,trivial⟩,rfl,rfl,rfl⟩
theorem l18b (p:Pdu)(m:Nat)(ps:List Int)(hl:ps.length≤1000000)(σ:LState)(h:LSub σ (I18b p ps.length m ps 0)):LoopOk prog [] (bodyOf Proofs.Try.f18) 6 σ (.done (.exit 2) E18b):=by
 refine LoopOk.of_levL (γ:={g:List Int×Nat//g.1.length=ps.length∧g.2≤ps.length}) (fun g=>T18b p ps.length m g.1.1 g.1.2) fin18b (fun g=>I18b p ps.length m g.1.1 g.1.2) (fun g=>ps.length-g.1.2) ⟨(ps,0),rfl,Nat.zero_le _⟩ (by kernel_rfl) h ?_
 rintro⟨⟨c,i⟩,h1,h2⟩
 simp only at h1 h2
 show (levL prog Proofs.Try.f18 6 (I18b p ps.length m c i) (T18b p ps.length m c i) fin18b).sat _ _
 rw[t18b]
 refine⟨fun h3=>?_,fun h3=>?_⟩
 ·have h3':i<ps.length:=Int.ofNat_lt.1 (of_decide_eq_true h3)
  have hi:i<c.length:=by omega
  refine need_sat ⟨by omega,h3'⟩ (need_sat ?_ (need_sat ⟨by omega,h3'⟩ (need_sat (by rw[List.length_map];exact hi) ?_)))
  ·simp[List.getD_eq_getElem?_getD,List.getElem?_eq_getElem hi]
  ·refine⟨⟨(c.set i (IntKind.u32.wrap (c.getD i 0+1)),i+1),by rw[List.length_set];exact h1,h3'⟩,by show ps.length-(i+1)<ps.length-i;omega,⟨?_,rfl,trivial⟩,⟨?_,rfl,trivial⟩,rfl,rfl,rfl⟩
   ·refine congrArg (fun n=>AVal.imm (i64 n)) ?_
    show IntKind.i64.wrap ((i:Int)+1)=((i+1:Nat):Int)
    rw[IntWalk.i64_in _ (by omega)];omega
   ·refine congrArg (fun l=>some (Entry.row 23 1 l)) ?_
    rw[List.map_set]<;>rfl
 ·exact⟨rfl,trivial,trivial,rfl,rfl,rfl⟩
theorem g18 (p:Pdu)(n m:Nat)(ps cs:List Int)(hn:n=ps.length)(hm:m=cs.length)(h1:ps.length≤1000000)(h2:cs.length≤1000000):GSpec prog 18 [] [(23,1,ps.map u32),(5,1,cs.map u8)] [mTw p (.own 0 n) (.own 1 m)] [] [] (.tup []):=by
 subst hn hm
 refine GSpec.tree Proofs.Try.f18 (fun ls=>T18g ls p ps.length cs.length ps cs) (by kernel_rfl) (by kernel_rfl) rfl fun ls=>?_
 rw[t18g]
 refine⟨l18a p _ ps cs h2 _ ⟨⟨rfl,rfl,trivial⟩,⟨rfl,rfl,rfl,trivial⟩,rfl,rfl,rfl⟩,⟨l18b p _ ps h1 _ ⟨⟨rfl,rfl,trivial⟩,⟨rfl,rfl,trivial⟩,rfl,rfl,rfl⟩,need_sat ⟨rfl,.refl _,.refl _⟩ trivial⟩⟩
end Gp
namespace Gp
def T3 (a b:Pdu):Tell:=
 (let q0:=List.map u32 a.path.provs;let q1:=decide (a=a);let q2:=List.map u8 a.copy;
 Tell.mk (fun x x_1=>false) (fun r i=>if(r==5&&i==22)=true then Orc.calle [encD a,encD a] (bo q1)else Orc.no) (fun x=>Tree.fail 1000003 0) (fun x=>0) (fun x=>([],[])) (ogetO (fun r i=>if(r==5&&i==22)=true then Orc.calle [encD a,encD a] (bo q1)else Orc.no) [(3,1,1,Orc.call [encD a] (bo (great a))),(3,1,4,Orc.call [encD b] (bo (great b))),(9,3,1,Orc.call [encD a] (encD a)),(13,4,1,Orc.callg [] 0 [.imm (encD a)] [] [Entry.row 23 1 q0,Entry.row 5 1 q2] (mTw a (.own 0 (List.length q0)) (.own 1 (List.length q2)))),(19,5,1,Orc.call [encD a] (i64 (chk
 a))),(19,5,3,Orc.call [encD a] (i64 (refC a))),(19,5,8,Orc.call [encD a,encD b] (bo (decide (a=b)))),(44,6,1,Orc.callg [14,15] 0 [mTw a (.own 0 (List.length q0)) (.own 1 (List.length q2))] [] [] (.tup [])),(19,5,11,Orc.call [encD a,encD b] (bo (decide (a=b)))),(19,5,17,Orc.call [encD a,encD a] (bo q1)),(46,7,4,Orc.call [encD a,encD a] (bo q1))]) fun x x_1=>Tree.fail 1000003 0)
theorem t3 (a b:Pdu):levF prog Proofs.Try.f3 [encD a,encD b] (T3 a b)=
 (let q2:=List.map u32 a.path.provs;let q0:=List.length q2;let q8:=List.map u8 a.copy;let q1:=List.length q8;let q3:=u64 a.origin.pfx.addr.hi;let q4:=u64 a.origin.pfx.addr.lo;let q5:=decide (a=a);let q6:=i64 a.origin.pfx.len;let q7:=u8 a.origin.pfx.fam;let q9:=u32 a.origin.asn;let q10:=i64 a.origin.max;let q11:=i64 a.key.height;let q12:=u32 a.path.cust;let q13:=u16 a.session;let q14:=u32 a.key.asn;let q15:=u32 a.refresh;
 Tree.need (ILeL [encD a] [encD a]∧ASpec prog 11 [encD a] (bo (great a))) (.br (great a) (.done Exit.ret (lret (bo true))) (.need (ILeL [encD b] [encD b]∧ASpec prog 11 [encD b] (bo (great b))) (.br (great b) (.done Exit.ret (lret (bo true))) (.need (ILeL [encD a] [encD a]∧ASpec prog 12 [encD a] (encD a)) (.need (ALeL [.imm (encD a)] [.imm (encD a)]∧GSpec prog 13 [] [] [.imm (encD a)] [] [Entry.row 23 1 q2,Entry.row 5 1 q8] (mTw a (.own 0 q0) (.own 1 q1))) (.need (ILeL [encD a] [encD a]∧ASpec prog 14 [encD a] (i64 (chk a))) (.need (ILeL [encD a] [encD a]∧ASpec prog 15 [encD a] (i64
 (refC a))) (.br (decide (chk a=refC a)) (.need (ILeL [encD a,encD b] [encD a,encD b]∧ASpec prog 16 [encD a,encD b] (bo (decide (a=b)))) (.need (ILeL [encD a,encD b] [encD a,encD b]∧ASpec prog 17 [encD a,encD b] (bo (decide (a=b)))) (.br (decide (a=b)==decide (a=b)) (.need (ILeL [encD a,encD a] [encD a,encD a]∧ASpec prog 16 [encD a,encD a] (bo q5)) (.br q5 (.need (eqs [(List.length q2,List.length q2),(List.length q8,List.length q8)]∧ILeL [encD a,.agg [u8 a.version,u8 a.kind,u16 a.session,u32 a.serial,bo a.add,u32 a.origin.asn,u8 a.origin.pfx.fam,u64 a.origin.pfx.addr.hi,u64
 a.origin.pfx.addr.lo,i64 a.origin.pfx.len,i64 a.origin.max,u32 a.path.cust,.sl false false 1 q2,u32 a.key.asn,u8 a.key.root[0],u8 a.key.root[1],u8 a.key.root[2],u8 a.key.root[3],u8 a.key.root[4],u8 a.key.root[5],u8 a.key.root[6],u8 a.key.root[7],u8 a.key.root[8],u8 a.key.root[9],u8 a.key.root[10],u8 a.key.root[11],u8 a.key.root[12],u8 a.key.root[13],u8 a.key.root[14],u8 a.key.root[15],i64 a.key.height,u32 a.refresh,u32 a.retry,u32 a.expire,u16 a.code,.sl false false 1 q8,st a.text]] [encD a,encD a]∧ASpec prog 17 [encD a,encD a] (bo q5)∧true=true) (.need (ALeL [.agg [.imm (u8
 a.version),.imm (u8 a.kind),.imm q13,.imm (u32 a.serial),.imm (bo a.add),.imm q9,.imm q7,.imm q3,.imm q4,.imm q6,.imm q10,.imm q12,.own 0 q0,.imm q14,.imm (u8 a.key.root[0]),.imm (u8 a.key.root[1]),.imm (u8 a.key.root[2]),.imm (u8 a.key.root[3]),.imm (u8 a.key.root[4]),.imm (u8 a.key.root[5]),.imm (u8 a.key.root[6]),.imm (u8 a.key.root[7]),.imm (u8 a.key.root[8]),.imm (u8 a.key.root[9]),.imm (u8 a.key.root[10]),.imm (u8 a.key.root[11]),.imm (u8 a.key.root[12]),.imm (u8 a.key.root[13]),.imm (u8 a.key.root[14]),.imm (u8 a.key.root[15]),.imm q11,.imm q15,.imm (u32 a.retry),.imm (u32 a.expire),.imm
 (u16 a.code),.own 1 q1,.imm (st a.text)]] [mTw a (.own 0 q0) (.own 1 q1)]∧GSpec prog 18 [] [(23,1,List.map u32 a.path.provs),(5,1,List.map u8 a.copy)] [mTw a (.own 0 q0) (.own 1 q1)] [] [] (.tup [])) (.br q5 (.need (ILeL [encD a,encD a] [encD a,encD a]∧ASpec prog 17 [encD a,encD a] (bo q5)) (.done Exit.ret (lret (bo q5)))) (.done Exit.ret (lret (bo false)))))) (.need (ALeL [.agg [.imm (u8 a.version),.imm (u8 a.kind),.imm q13,.imm (u32 a.serial),.imm (bo a.add),.imm q9,.imm q7,.imm q3,.imm q4,.imm q6,.imm q10,.imm q12,.own 0 q0,.imm q14,.imm (u8 a.key.root[0]),.imm (u8 a.key.root[1]),.imm
 (u8 a.key.root[2]),.imm (u8 a.key.root[3]),.imm (u8 a.key.root[4]),.imm (u8 a.key.root[5]),.imm (u8 a.key.root[6]),.imm (u8 a.key.root[7]),.imm (u8 a.key.root[8]),.imm (u8 a.key.root[9]),.imm (u8 a.key.root[10]),.imm (u8 a.key.root[11]),.imm (u8 a.key.root[12]),.imm (u8 a.key.root[13]),.imm (u8 a.key.root[14]),.imm (u8 a.key.root[15]),.imm q11,.imm q15,.imm (u32 a.retry),.imm (u32 a.expire),.imm (u16 a.code),.own 1 q1,.imm (st a.text)]] [mTw a (.own 0 q0) (.own 1 q1)]∧GSpec prog 18 [] [(23,1,List.map u32 a.path.provs),(5,1,List.map u8 a.copy)] [mTw a (.own 0 q0) (.own 1 q1)] [] [] (.tup []))
 (.done Exit.ret (lret (bo false)))))) (.need (ALeL [.agg [.imm (u8 a.version),.imm (u8 a.kind),.imm q13,.imm (u32 a.serial),.imm (bo a.add),.imm q9,.imm q7,.imm q3,.imm q4,.imm q6,.imm q10,.imm q12,.own 0 q0,.imm q14,.imm (u8 a.key.root[0]),.imm (u8 a.key.root[1]),.imm (u8 a.key.root[2]),.imm (u8 a.key.root[3]),.imm (u8 a.key.root[4]),.imm (u8 a.key.root[5]),.imm (u8 a.key.root[6]),.imm (u8 a.key.root[7]),.imm (u8 a.key.root[8]),.imm (u8 a.key.root[9]),.imm (u8 a.key.root[10]),.imm (u8 a.key.root[11]),.imm (u8 a.key.root[12]),.imm (u8 a.key.root[13]),.imm (u8 a.key.root[14]),.imm (u8
 a.key.root[15]),.imm q11,.imm q15,.imm (u32 a.retry),.imm (u32 a.expire),.imm (u16 a.code),.own 1 q1,.imm (st a.text)]] [mTw a (.own 0 q0) (.own 1 q1)]∧GSpec prog 18 [] [(23,1,List.map u32 a.path.provs),(5,1,List.map u8 a.copy)] [mTw a (.own 0 q0) (.own 1 q1)] [] [] (.tup [])) (.done Exit.ret (lret (bo false))))))) (.need (ALeL [.agg [.imm (u8 a.version),.imm (u8 a.kind),.imm q13,.imm (u32 a.serial),.imm (bo a.add),.imm q9,.imm q7,.imm q3,.imm q4,.imm q6,.imm q10,.imm q12,.own 0 q0,.imm q14,.imm (u8 a.key.root[0]),.imm (u8 a.key.root[1]),.imm (u8 a.key.root[2]),.imm (u8 a.key.root[3]),.imm
 (u8 a.key.root[4]),.imm (u8 a.key.root[5]),.imm (u8 a.key.root[6]),.imm (u8 a.key.root[7]),.imm (u8 a.key.root[8]),.imm (u8 a.key.root[9]),.imm (u8 a.key.root[10]),.imm (u8 a.key.root[11]),.imm (u8 a.key.root[12]),.imm (u8 a.key.root[13]),.imm (u8 a.key.root[14]),.imm (u8 a.key.root[15]),.imm q11,.imm q15,.imm (u32 a.retry),.imm (u32 a.expire),.imm (u16 a.code),.own 1 q1,.imm (st a.text)]] [mTw a (.own 0 q0) (.own 1 q1)]∧GSpec prog 18 [] [(23,1,List.map u32 a.path.provs),(5,1,List.map u8 a.copy)] [mTw a (.own 0 q0) (.own 1 q1)] [] [] (.tup [])) (.done Exit.ret (lret (bo false))))))))))))):=by kernel_rfl
theorem great_le {p:Pdu}(h:great p=false):p.copy.length≤5000∧p.path.provs.length≤80:=by
 unfold great at h
 simp only[Bool.or_eq_false_iff,decide_eq_false_iff_not]at h
 omega
theorem c3 (a b:Pdu)(ha:wfB a)(hb:wfB b)(hr:a.rng):ASpec prog 3 [encD a,encD b] (bo true):=by
 refine ASpec.treeW Proofs.Try.f3 (T3 a b) (by kernel_rfl) (by kernel_rfl) (t3 a b) ?_
 have hc:chk a=refC a:=chk_ref a hr
 refine need_sat ⟨ILeL.refl _,c11 _⟩ ⟨fun h1=>⟨_,rfl,?_⟩,fun h1=>need_sat ⟨ILeL.refl _,c11 _⟩ ⟨fun h2=>⟨_,rfl,?_⟩,fun h2=>need_sat ⟨ILeL.refl _,c12 _ ?_ ?_⟩ (need_sat ⟨ALeL.refl _,g13 _ ?_ ?_⟩ (need_sat ⟨ILeL.refl _,c14 _ ?_⟩ (need_sat ⟨ILeL.refl _,c15 _ ?_ ?_⟩ ⟨fun h3=>need_sat ⟨ILeL.refl _,c16 _ _ ?_ ?_⟩ (need_sat ⟨ILeL.refl _,c17 _ _ ?_ ?_⟩ ⟨fun h4=>need_sat ⟨ILeL.refl _,c16 _ _ ?_ ?_⟩ ⟨fun h5=>need_sat ⟨?_,ILeL.refl _,?_⟩ (need_sat ⟨ALeL.refl _,g18 _ _ _ _ _ ?_ ?_ ?_ ?_⟩ ⟨fun h6=>need_sat ⟨ILeL.refl _,c17 _ _ ?_ ?_⟩ ⟨_,rfl,?_⟩,fun h6=>⟨_,rfl,?_⟩⟩),fun h5=>need_sat ⟨ALeL.refl _,g18 _ _ _ _ _ ?_ ?_ ?_ ?_⟩ ⟨_,rfl,?_⟩⟩,fun h4=>need_sat ⟨ALeL.refl _,g18 _ _ _ _ _ ?_ ?_ ?_ ?_⟩ ⟨_,rfl,?_⟩⟩),fun h3=>need_sat ⟨ALeL.refl _,g18 _ _ _ _ _ ?_ ?_ ?_ ?_⟩ ⟨_,rfl,?_⟩⟩)))⟩⟩
 all_goals try have g1:=great_le h1
 all_goals first
  |exact .refl _
  |exact absurd hc (of_decide_eq_false h3)
  |(exfalso;simp at h4;done)
  |exact absurd rfl (of_decide_eq_false h5)
  |exact absurd rfl (of_decide_eq_false h6)
  |exact ha
  |omega
  |exact bstr_inj ha.1 hb.1
  |exact bstr_inj ha.1 ha.1
  |exact⟨rfl,rfl,trivial⟩
  |exact⟨c17 _ _ (by omega) (by omega),rfl⟩
  |exact List.length_map ..
  |exact ile_bo (decide_eq_true rfl)
end Gp
namespace Gp
def T36o (p:Pdu):Tell:=
 (let q0:=IntKind.wrap IntKind.u64 p.version;let q1:=IntKind.wrap IntKind.u64 p.kind;let q2:=IntKind.wrap IntKind.u64 (IntKind.wrap IntKind.i64 (8+(↑(List.length (rsL p)):Int)));let q3:=num q0 1++num q1 1++hdL p++num q2 4;
 Tell.mk (fun x x_1=>false) (fun x x_1=>Orc.no) (fun x=>Tree.fail 1000003 0) (fun x=>0) (fun x=>([],[])) (oget [(13,2,4,Orc.callg [6] 1 [.ptr 0 0,.imm (u64 q0),.imm (i64 1)] [(92,.agg [.own 1 (List.length (num q0 1))])] [Entry.row 5 1 (List.map u8 (num q0 1))] (.tup [])),(19,3,4,Orc.callg [6,17] 1 [.ptr 0 0,.imm (u64 q1),.imm (i64 1)] [(92,.agg [.own 1 (List.length (num q0 1++num q1 1))])] [Entry.row 5 1 (List.map u8 (num q0 1++num q1 1))] (.tup [])),(25,4,4,Orc.callg [6,23] 1 [.imm (encD p),.ptr 0 0] [(92,.agg [.own 1 (List.length (num q0 1++num q1 1++hdL p))])] [Entry.row 5 1
 (List.map u8 (num q0 1++num q1 1++hdL p))] (.tup [])),(31,5,4,Orc.callg [8] 1 [.imm (encD p),.ptr 0 0] [(92,.agg [.own 1 (List.length (rsL p))])] [Entry.row 5 1 (List.map u8 (rsL p))] (.tup [])),(37,6,8,Orc.callg [6,29] 1 [.ptr 0 0,.imm (u64 q2),.imm (i64 4)] [(92,.agg [.own 1 (List.length q3)])] [Entry.row 5 1 (List.map u8 q3)] (.tup []))]) fun x x_1=>Tree.fail 1000003 0)
theorem t36o (p:Pdu):levO prog Proofs.Try.f36 [encD p,formI p.kind] (T36o p)=
 (let q1:=IntKind.wrap IntKind.u64 p.version;let q2:=IntKind.wrap IntKind.u64 p.kind;let q0:=num q1 1++num q2 1++hdL p++num (IntKind.wrap IntKind.u64 (IntKind.wrap IntKind.i64 (8+(↑(List.length (rsL p)):Int)))) 4;let q3:=u64 (IntKind.wrap IntKind.u64 (IntKind.wrap IntKind.i64 (8+(↑(List.length (rsL p)):Int))));let q4:=num q1 1++num q2 1++hdL p;let q5:=List.map u8 (rsL p);let q6:=num q1 1++num q2 1;let q7:=List.map u8 q0++List.map u8 (rsL p);
 Tree.need (ALeL [.ptr 0 0,.imm (u64 q1),.imm (i64 1)] [.ptr 0 0,.imm (u64 q1),.imm (i64 1)]∧GSpec prog 77 [(92,.agg [.imm nS])] [] [.ptr 0 0,.imm (u64 q1),.imm (i64 1)] [(92,.agg [.own 1 (List.length (num q1 1))])] [Entry.row 5 1 (List.map u8 (num q1 1))] (.tup [])) (.need (ALeL [.ptr 0 0,.imm (u64 q2),.imm (i64 1)] [.ptr 0 0,.imm (u64 q2),.imm (i64 1)]∧GSpec prog 77 [(92,.agg [.own 1 (List.length (num q1 1))])] [(5,1,List.map u8 (num q1 1))] [.ptr 0 0,.imm (u64 q2),.imm (i64 1)] [(92,.agg [.own 1 (List.length q6)])] [Entry.row 5 1 (List.map u8 q6)] (.tup [])) (.need (ALeL [.agg [.imm (u8
 p.version),.imm (u8 p.kind),.imm (u16 p.session),.imm (u32 p.serial),.imm (bo p.add),.imm (u32 p.origin.asn),.imm (u8 p.origin.pfx.fam),.imm (u64 p.origin.pfx.addr.hi),.imm (u64 p.origin.pfx.addr.lo),.imm (i64 p.origin.pfx.len),.imm (i64 p.origin.max),.imm (u32 p.path.cust),.imm (lu32 p.path.provs),.imm (u32 p.key.asn),.imm (u8 p.key.root[0]),.imm (u8 p.key.root[1]),.imm (u8 p.key.root[2]),.imm (u8 p.key.root[3]),.imm (u8 p.key.root[4]),.imm (u8 p.key.root[5]),.imm (u8 p.key.root[6]),.imm (u8 p.key.root[7]),.imm (u8 p.key.root[8]),.imm (u8 p.key.root[9]),.imm (u8 p.key.root[10]),.imm (u8
 p.key.root[11]),.imm (u8 p.key.root[12]),.imm (u8 p.key.root[13]),.imm (u8 p.key.root[14]),.imm (u8 p.key.root[15]),.imm (i64 p.key.height),.imm (u32 p.refresh),.imm (u32 p.retry),.imm (u32 p.expire),.imm (u16 p.code),.imm (lu8 p.copy),.imm (st p.text)],.ptr 0 0] [.imm (encD p),.ptr 0 0]∧GSpec prog (headN p.kind) [(92,.agg [.own 1 (List.length q6)])] [(5,1,List.map u8 q6)] [.imm (encD p),.ptr 0 0] [(92,.agg [.own 1 (List.length q4)])] [Entry.row 5 1 (List.map u8 q4)] (.tup [])) (.need (ALeL [.agg [.imm (u8 p.version),.imm (u8 p.kind),.imm (u16 p.session),.imm (u32 p.serial),.imm (bo
 p.add),.imm (u32 p.origin.asn),.imm (u8 p.origin.pfx.fam),.imm (u64 p.origin.pfx.addr.hi),.imm (u64 p.origin.pfx.addr.lo),.imm (i64 p.origin.pfx.len),.imm (i64 p.origin.max),.imm (u32 p.path.cust),.imm (lu32 p.path.provs),.imm (u32 p.key.asn),.imm (u8 p.key.root[0]),.imm (u8 p.key.root[1]),.imm (u8 p.key.root[2]),.imm (u8 p.key.root[3]),.imm (u8 p.key.root[4]),.imm (u8 p.key.root[5]),.imm (u8 p.key.root[6]),.imm (u8 p.key.root[7]),.imm (u8 p.key.root[8]),.imm (u8 p.key.root[9]),.imm (u8 p.key.root[10]),.imm (u8 p.key.root[11]),.imm (u8 p.key.root[12]),.imm (u8 p.key.root[13]),.imm (u8
 p.key.root[14]),.imm (u8 p.key.root[15]),.imm (i64 p.key.height),.imm (u32 p.refresh),.imm (u32 p.retry),.imm (u32 p.expire),.imm (u16 p.code),.imm (lu8 p.copy),.imm (st p.text)],.ptr 0 0] [.imm (encD p),.ptr 0 0]∧GSpec prog (restN p.kind) [(92,.agg [.imm nS])] [] [.imm (encD p),.ptr 0 0] [(92,.agg [.own 1 (List.length (rsL p))])] [Entry.row 5 1 q5] (.tup [])) (.need (ALeL [.ptr 0 0,.imm q3,.imm (i64 4)] [.ptr 0 0,.imm q3,.imm (i64 4)]∧GSpec prog 77 [(92,.agg [.own 1 (List.length q4)])] [(5,1,List.map u8 q4)] [.ptr 0 0,.imm q3,.imm (i64 4)] [(92,.agg [.own 1 (List.length q0)])] [Entry.row 5
 1 (List.map u8 q0)] (.tup [])) (.need (askA (some (List.length q5=List.length (rsL p))) (List.length (List.map u8 q0)=List.length q0∧cellsOk (List.map u8 q0)=true∧cellsOk q5=true∧List.length q0+List.length q5≤1000000)) (.need (List.length q7=List.length q0+List.length q5) (.done Exit.ret (lretO 5 1 q7))))))))):=by kernel_rfl
def T36z (p:Pdu):Tell:=
 (let q0:=IntKind.wrap IntKind.u64 p.version;let q1:=IntKind.wrap IntKind.u64 p.kind;let q2:=num q0 1++num q1 1++hdL p++num 8 4;
 Tell.mk (fun x x_1=>false) (fun x x_1=>Orc.no) (fun x=>Tree.fail 1000003 0) (fun x=>0) (fun x=>([],[])) (oget [(13,2,4,Orc.callg [6] 1 [.ptr 0 0,.imm (u64 q0),.imm (i64 1)] [(92,.agg [.own 1 (List.length (num q0 1))])] [Entry.row 5 1 (List.map u8 (num q0 1))] (.tup [])),(19,3,4,Orc.callg [6,17] 1 [.ptr 0 0,.imm (u64 q1),.imm (i64 1)] [(92,.agg [.own 1 (List.length (num q0 1++num q1 1))])] [Entry.row 5 1 (List.map u8 (num q0 1++num q1 1))] (.tup [])),(25,4,4,Orc.callg [6,23] 1 [.imm (encD p),.ptr 0 0] [(92,.agg [.own 1 (List.length (num q0 1++num q1 1++hdL p))])] [Entry.row 5 1
 (List.map u8 (num q0 1++num q1 1++hdL p))] (.tup [])),(31,5,4,Orc.callg [8] 1 [.imm (encD p),.ptr 0 0] [(92,.agg [.imm nS])] [] (.tup [])),(36,6,8,Orc.callg [6,29] 1 [.ptr 0 0,.imm (u64 8),.imm (i64 4)] [(92,.agg [.own 1 (List.length q2)])] [Entry.row 5 1 (List.map u8 q2)] (.tup []))]) fun x x_1=>Tree.fail 1000003 0)
theorem t36z (p:Pdu):levO prog Proofs.Try.f36 [encD p,formZ p.kind] (T36z p)=
 (let q1:=IntKind.wrap IntKind.u64 p.version;let q2:=IntKind.wrap IntKind.u64 p.kind;let q0:=num q1 1++num q2 1++hdL p++num 8 4;let q3:=num q1 1++num q2 1++hdL p;let q4:=num q1 1++num q2 1;
 Tree.need (ALeL [.ptr 0 0,.imm (u64 q1),.imm (i64 1)] [.ptr 0 0,.imm (u64 q1),.imm (i64 1)]∧GSpec prog 77 [(92,.agg [.imm nS])] [] [.ptr 0 0,.imm (u64 q1),.imm (i64 1)] [(92,.agg [.own 1 (List.length (num q1 1))])] [Entry.row 5 1 (List.map u8 (num q1 1))] (.tup [])) (.need (ALeL [.ptr 0 0,.imm (u64 q2),.imm (i64 1)] [.ptr 0 0,.imm (u64 q2),.imm (i64 1)]∧GSpec prog 77 [(92,.agg [.own 1 (List.length (num q1 1))])] [(5,1,List.map u8 (num q1 1))] [.ptr 0 0,.imm (u64 q2),.imm (i64 1)] [(92,.agg [.own 1 (List.length q4)])] [Entry.row 5 1 (List.map u8 q4)] (.tup [])) (.need (ALeL [.agg [.imm (u8
 p.version),.imm (u8 p.kind),.imm (u16 p.session),.imm (u32 p.serial),.imm (bo p.add),.imm (u32 p.origin.asn),.imm (u8 p.origin.pfx.fam),.imm (u64 p.origin.pfx.addr.hi),.imm (u64 p.origin.pfx.addr.lo),.imm (i64 p.origin.pfx.len),.imm (i64 p.origin.max),.imm (u32 p.path.cust),.imm (lu32 p.path.provs),.imm (u32 p.key.asn),.imm (u8 p.key.root[0]),.imm (u8 p.key.root[1]),.imm (u8 p.key.root[2]),.imm (u8 p.key.root[3]),.imm (u8 p.key.root[4]),.imm (u8 p.key.root[5]),.imm (u8 p.key.root[6]),.imm (u8 p.key.root[7]),.imm (u8 p.key.root[8]),.imm (u8 p.key.root[9]),.imm (u8 p.key.root[10]),.imm (u8
 p.key.root[11]),.imm (u8 p.key.root[12]),.imm (u8 p.key.root[13]),.imm (u8 p.key.root[14]),.imm (u8 p.key.root[15]),.imm (i64 p.key.height),.imm (u32 p.refresh),.imm (u32 p.retry),.imm (u32 p.expire),.imm (u16 p.code),.imm (lu8 p.copy),.imm (st p.text)],.ptr 0 0] [.imm (encD p),.ptr 0 0]∧GSpec prog (headN p.kind) [(92,.agg [.own 1 (List.length q4)])] [(5,1,List.map u8 q4)] [.imm (encD p),.ptr 0 0] [(92,.agg [.own 1 (List.length q3)])] [Entry.row 5 1 (List.map u8 q3)] (.tup [])) (.need (ALeL [.agg [.imm (u8 p.version),.imm (u8 p.kind),.imm (u16 p.session),.imm (u32 p.serial),.imm (bo
 p.add),.imm (u32 p.origin.asn),.imm (u8 p.origin.pfx.fam),.imm (u64 p.origin.pfx.addr.hi),.imm (u64 p.origin.pfx.addr.lo),.imm (i64 p.origin.pfx.len),.imm (i64 p.origin.max),.imm (u32 p.path.cust),.imm (lu32 p.path.provs),.imm (u32 p.key.asn),.imm (u8 p.key.root[0]),.imm (u8 p.key.root[1]),.imm (u8 p.key.root[2]),.imm (u8 p.key.root[3]),.imm (u8 p.key.root[4]),.imm (u8 p.key.root[5]),.imm (u8 p.key.root[6]),.imm (u8 p.key.root[7]),.imm (u8 p.key.root[8]),.imm (u8 p.key.root[9]),.imm (u8 p.key.root[10]),.imm (u8 p.key.root[11]),.imm (u8 p.key.root[12]),.imm (u8 p.key.root[13]),.imm (u8
 p.key.root[14]),.imm (u8 p.key.root[15]),.imm (i64 p.key.height),.imm (u32 p.refresh),.imm (u32 p.retry),.imm (u32 p.expire),.imm (u16 p.code),.imm (lu8 p.copy),.imm (st p.text)],.ptr 0 0] [.imm (encD p),.ptr 0 0]∧GSpec prog 53 [(92,.agg [.imm nS])] [] [.imm (encD p),.ptr 0 0] [(92,.agg [.imm nS])] [] (.tup [])) (.need (ALeL [.ptr 0 0,.imm (u64 8),.imm (i64 4)] [.ptr 0 0,.imm (u64 8),.imm (i64 4)]∧GSpec prog 77 [(92,.agg [.own 1 (List.length q3)])] [(5,1,List.map u8 q3)] [.ptr 0 0,.imm (u64 8),.imm (i64 4)] [(92,.agg [.own 1 (List.length q0)])] [Entry.row 5 1 (List.map u8 q0)] (.tup []))
 (.need (askA none (List.length (List.map u8 q0)=List.length q0∧cellsOk (List.map u8 q0)=true∧true=true∧List.length q0+0≤1000000)) (.need (List.length (List.map u8 q0++[])=List.length q0+0) (.done Exit.ret (lretO 5 1 (List.map u8 q0++[])))))))))):=by kernel_rfl
theorem o36r (p:Pdu)(hk:isK p.kind)(hz:¬isZ p.kind)(hp:p.ok):OSpec prog 36 [encD p,formI p.kind] 5 1 ((encB p).map u8):=by
 have hl:=rsL_len p hp
 have hh:=hdL_len p
 refine OSpec.tree Proofs.Try.f36 (T36o p) (by kernel_rfl) (by kernel_rfl) ?_
 rw[t36o]
 refine need_sat ⟨ALeL.refl _,g77' _ _ ?_ ?_⟩ (need_sat ⟨ALeL.refl _,g77 _ _ _ _ ?_ ?_ ?_ ?_⟩ (need_sat ⟨(by repeat' first|exact trivial|exact ALe.refl _|exact ALe.imm (ILe.refl _)|exact ALe.data rfl (ILe.refl _)|refine And.intro ?_ ?_|refine ALe.imm ?_|refine ALe.data rfl ?_|exact ILeL.refl _|exact ILe.refl _|exact ILe.nil _ _ _|exact ILe.sl (fun h=>by cases h) (fun h=>h) (ILeL.refl _)|apply ILeL.cons|apply ILe.agg|apply ILe.tup),gheadN _ _ _ ?_ ?_⟩ (need_sat ⟨(by repeat' first|exact trivial|exact ALe.refl _|exact ALe.imm (ILe.refl _)|exact ALe.data rfl (ILe.refl _)|refine And.intro ?_ ?_|refine ALe.imm ?_|refine ALe.data rfl ?_|exact ILeL.refl _|exact ILe.refl _|exact ILe.nil _ _ _|exact ILe.sl (fun h=>by cases h) (fun h=>h) (ILeL.refl _)|apply ILeL.cons|apply ILe.agg|apply ILe.tup),grestN _ ?_ ?_ ?_⟩ (need_sat ⟨ALeL.refl _,g77 _ _ _ _ ?_ ?_ ?_ ?_⟩ (need_sat ?_ (need_sat ?_ (.inl (lretO_ex ?_))))))))
 all_goals try first
  |assumption
  |omega
  |rfl
  |(simp[num_len];done)
  |(simp[num_len,hh];done)
  |(simp[num_len,hh];omega)
 ·exact⟨⟨by simp,cellsOk_map u8 (fun _=>rfl) _,cellsOk_map u8 (fun _=>rfl) _,by simp[num_len,hh];omega⟩,by simp⟩
 ·simp[encB]
theorem o36z (p:Pdu)(hz:isZ p.kind)(hp:p.ok):OSpec prog 36 [encD p,formZ p.kind] 5 1 ((encB p).map u8):=by
 have hl:=rsL_len p hp
 have hh:=hdL_len p
 have hr:=rsL_z p hz
 refine OSpec.tree Proofs.Try.f36 (T36z p) (by kernel_rfl) (by kernel_rfl) ?_
 rw[t36z]
 refine need_sat ⟨ALeL.refl _,g77' _ _ ?_ ?_⟩ (need_sat ⟨ALeL.refl _,g77 _ _ _ _ ?_ ?_ ?_ ?_⟩ (need_sat ⟨(by repeat' first|exact trivial|exact ALe.refl _|exact ALe.imm (ILe.refl _)|exact ALe.data rfl (ILe.refl _)|refine And.intro ?_ ?_|refine ALe.imm ?_|refine ALe.data rfl ?_|exact ILeL.refl _|exact ILe.refl _|exact ILe.nil _ _ _|exact ILe.sl (fun h=>by cases h) (fun h=>h) (ILeL.refl _)|apply ILeL.cons|apply ILe.agg|apply ILe.tup),gheadN _ _ _ ?_ ?_⟩ (need_sat ⟨(by repeat' first|exact trivial|exact ALe.refl _|exact ALe.imm (ILe.refl _)|exact ALe.data rfl (ILe.refl _)|refine And.intro ?_ ?_|refine ALe.imm ?_|refine ALe.data rfl ?_|exact ILeL.refl _|exact ILe.refl _|exact ILe.nil _ _ _|exact ILe.sl (fun h=>by cases h) (fun h=>h) (ILeL.refl _)|apply ILeL.cons|apply ILe.agg|apply ILe.tup),g53 _⟩ (need_sat ⟨ALeL.refl _,g77 _ _ _ _ ?_ ?_ ?_ ?_⟩ (need_sat ?_ (need_sat ?_ (.inl (lretO_ex ?_))))))))
 all_goals try first
  |assumption
  |omega
  |rfl
  |(simp[num_len];done)
  |(simp[num_len,hh];done)
  |(simp[num_len,hh];omega)
 ·exact⟨by simp,cellsOk_map u8 (fun _=>rfl) _,rfl,by simp[num_len,hh]⟩
 ·have e:w64 (IntKind.i64.wrap (8+((rsL p).length:Int)))=8:=by rw[hr];rfl
  rw[encB,e,hr];simp
theorem o36 (p:Pdu)(hk:isK p.kind)(hp:p.ok):OSpec prog 36 [encD p,formI p.kind] 5 1 ((encB p).map u8):=by
 by_cases hz:isZ p.kind
 ·rw[formZ_eq hz];exact o36z p hz hp
 ·exact o36r p hk hz hp
def T21g (ls:Nat→Abs.Loc)(p:Pdu):Tell:=
 Tell.mk (fun r i=>r==4&&i==5) (fun r i=>if(r==1&&i==1)=true then Orc.call [encD p] (i64 0)else if(r==2&&i==1)=true then Orc.look AVal.any false else if(r==4&&i==4)=true then Orc.look (AVal.imm (formI p.kind)) true else if(r==4&&i==5)=true then Orc.callo [encD p,formI p.kind] 5 1 (List.map u8 (encB p))else Orc.no) (fun x=>Tree.fail 1000003 0) (fun x=>0) (fun x=>([],[])) (ogetO (fun r i=>if(r==1&&i==1)=true then Orc.call [encD p] (i64 0)else if(r==2&&i==1)=true then Orc.look AVal.any false else if(r==4&&i==4)=true
 then Orc.look (AVal.imm (formI p.kind)) true else if(r==4&&i==5)=true then Orc.callo [encD p,formI p.kind] 5 1 (List.map u8 (encB p))else Orc.no) [(8,4,1,Orc.call [] (.map ksF dsF))]) fun x x_1=>Tree.fail 1000003 0
theorem t21g (ls:Nat→Abs.Loc)(p:Pdu):levG prog Proofs.Try.f21 ls [] [] [.imm (encD p)] [] [.row 5 1 ((encB p).map u8)] (.tup [.own 0 ((encB p).map u8).length,.imm (i64 0)]) (T21g ls p)=
 (let q0:=List.map u8 (encB p);
 Tree.need (ILeL [encD p] [encD p]∧ASpec prog 14 [encD p] (i64 0)) (.need (ILeL [] []∧ASpec prog 34 [] (.map ksF dsF)) (.need (true=true∧(if p.kind=0 then(AVal.imm (formI 0),true)else if p.kind=1 then(AVal.imm (formI 1),true)else if p.kind=2 then(AVal.imm (formI 2),true)else if p.kind=8 then(AVal.imm (formI 8),true)else if p.kind=4 then(AVal.imm (formI 4),true)else if p.kind=6 then(AVal.imm (formI 6),true)else if p.kind=3 then(AVal.imm (formI 3),true)else if p.kind=7 then(AVal.imm (formI 7),true)else if p.kind=9 then(AVal.imm (formI 9),true)else if
 p.kind=10 then(AVal.imm (formI 10),true)else if p.kind=11 then(AVal.imm (formI 11),true)else(AVal.imm (IVal.agg [IVal.v Value.nilFunc,IVal.v Value.nilFunc,IVal.v Value.nilFunc,IVal.v Value.nilFunc,IVal.v Value.nilFunc]),false))=(AVal.imm (formI p.kind),true)) (.need (ILeL [encD p,formI p.kind] [encD p,formI p.kind]∧OSpec prog 36 [encD p,formI p.kind] 5 1 q0) (.need (([]:List (Abs.Loc×Nat×AVal))=[]∧ELeL [Entry.row 5 1 q0] [Entry.row 5 1 q0]∧ALe (.tup [.own 0 (List.length q0),.imm (i64 0)]) (.tup [.own 0 (List.length q0),.imm (i64 0)])) (.done Exit.ret lnil)))))):=by kernel_rfl
theorem g21 (p:Pdu)(hw:wfB p)(h:chk p=0):GSpec prog 21 [] [] [.imm (encD p)] [] [.row 5 1 ((encB p).map u8)] (.tup [.own 0 ((encB p).map u8).length,.imm (i64 0)]):=by
 obtain⟨k1,k2,k3,k4⟩:=chk_0 h
 unfold small at k1
 have q:=c14 p hw
 rw[h]at q
 refine GSpec.tree Proofs.Try.f21 (fun ls=>T21g ls p) (by kernel_rfl) (by kernel_rfl) rfl fun ls=>?_
 rw[t21g]
 exact need_sat ⟨ILeL.refl _,q⟩ (need_sat ⟨ILeL.refl _,c34⟩ (need_sat ⟨rfl,look_y k2⟩ (need_sat ⟨ILeL.refl _,o36 p k2 (by unfold Pdu.ok;omega)⟩ ⟨⟨rfl,.refl _,.refl _⟩,fun _=>trivial⟩)))
end Gp
namespace Gp
def T25 (p:Pdu):Tell:=
 Tell.mk (fun x x_1=>false) (fun x x_1=>Orc.no) (fun x=>Tree.fail 1000003 0) (fun x=>0) (fun x=>([],[])) (oget [(3,1,1,Orc.call [encD p] (i64 (refC p))),(8,4,1,Orc.call [encD p] (slE 1 u8 (rfB p)))]) fun x x_1=>Tree.fail 1000003 0
theorem t25 (p:Pdu):levF prog Proofs.Try.f25 [encD p] (T25 p)=
 Tree.need (ILeL [encD p] [encD p]∧ASpec prog 15 [encD p] (i64 (refC p))) (.br (!decide (refC p=0)) (.done Exit.ret (lret (.tup [nS,i64 (refC p)]))) (.need (ILeL [encD p] [encD p]∧ASpec prog 44 [encD p] (slE 1 u8 (rfB p))) (.done Exit.ret (lret (.tup [slE 1 u8 (rfB p),i64 0]))))):=by kernel_rfl
theorem c25 (p:Pdu)(hr:p.rng)(h1c:p.copy.length≤2^62)(h2c:p.path.provs.length≤2^62):ASpec prog 25 [encD p] (.tup [slE 1 u8 (eO p),i64 (chk p)]):=by
 have hc:=chk_ref p hr
 refine ASpec.treeW Proofs.Try.f25 (T25 p) (by kernel_rfl) (by kernel_rfl) (t25 p) ?_
 refine need_sat ⟨ILeL.refl _,c15 p h1c h2c⟩ ⟨fun h1=>⟨_,rfl,?_⟩,fun h1=>?_⟩
 ·have hn:¬chk p=0:=by rw[hc];simpa using h1
  have:eO p=[]:=if_neg hn
  rw[this,hc];exact .tup (.cons (.nil _ _ _) (.refl _))
 ·have h0:refC p=0:=by simpa using h1
  have hn:chk p=0:=hc.trans h0
  obtain⟨s1,_,s3,_⟩:=refC_0 h0
  have hk:=fld_k s3
  unfold small at s1
  have e:eO p=rfB p:=(if_pos hn).trans (put_eq hr hk).symm
  refine need_sat ⟨ILeL.refl _,c44 p hk (by omega) (by omega) (by omega)⟩ ⟨_,rfl,?_⟩
  rw[e,hn];exact .refl _
end Gp
namespace Gp
def T71o (ls:Nat→Abs.Loc)(v k s:Int)(a:Bool)(c:Int)(l:List Int):Tell:=
 (let q2:=IntKind.wrap IntKind.i64 (getV l 4);let q0:=List.drop (Int.toNat q2) (List.drop 4 l);let q1:=IntKind.wrap IntKind.i64 (getV q0 4);let q3:=List.take (Int.toNat q1) (List.drop 4 q0);
 Tell.mk (fun x x_1=>false) (fun r i=>if(r==0&&i==6)=true then Orc.callo [slE 1 u8 (fCopy l)] 5 1 (List.map u8 (fCopy l))else Orc.no) (fun x=>Tree.fail 1000003 0) (fun x=>0) (fun x=>([],[])) (ogetO (fun r i=>if(r==0&&i==6)=true then Orc.callo [slE 1 u8 (fCopy l)] 5 1 (List.map u8 (fCopy l))else Orc.no) [(2,0,3,Orc.may (k76 l 4) [1] 1 [.ptr 0 0,.imm (i64 4)] errE (Orc.callg [1] 1 [.ptr 0 0,.imm (i64 4)] [(92,.agg [.imm (slE 1 u8 (List.drop (Int.toNat 4) l))])] [] (.imm (u64 (getV l 4))))),(2,0,5,Orc.may (k76 (List.drop 4 l) q2) [1] 1 [.ptr 0 0,.imm (i64 q2)] errE
 (Orc.callg [1] 1 [.ptr 0 0,.imm (i64 q2)] [(92,.agg [.imm (slE 1 u8 q0)])] [] (.imm (slE 1 u8 (List.take (Int.toNat q2) (List.drop 4 l)))))),(13,1,3,Orc.may (k76 q0 4) [1] 1 [.ptr 0 0,.imm (i64 4)] errE (Orc.callg [1] 1 [.ptr 0 0,.imm (i64 4)] [(92,.agg [.imm (slE 1 u8 (List.drop (Int.toNat 4) q0))])] [] (.imm (u64 (getV q0 4))))),(13,1,5,Orc.may (k76 (List.drop 4 q0) q1) [1] 1 [.ptr 0 0,.imm (i64 q1)] errE (Orc.callg [1] 1 [.ptr 0 0,.imm (i64 q1)] [(92,.agg [.imm (slE 1 u8 (List.drop (Int.toNat q1) (List.drop 4 q0)))])] [] (.imm (slE 1 u8 q3)))),(13,1,6,Orc.tos q3)]) fun x x_1=>Tree.fail
 1000003 0)
theorem t71o (ls:Nat→Abs.Loc)(v k s:Int)(a:Bool)(c:Int)(l:List Int):levG prog Proofs.Try.f71 ls (two (z1 v k s a c) l) [] [.ptr 0 0,.ptr 1 0] [(85,mC (zT v k s a c (bstr (fText l))) (.own 2 ((fCopy l).map u8).length)),(92,sR (fRest l))] [.row 5 1 ((fCopy l).map u8)] (.tup []) (T71o ls v k s a c l)=
 (let q8:=List.drop 4 l;let q3:=IntKind.wrap IntKind.i64 (getV l 4);let q0:=List.drop (Int.toNat q3) q8;let q1:=zT v k s a c (bstr (fText l));let q2:=IntKind.wrap IntKind.i64 (getV q0 4);let q4:=z1 v k s a c;let q7:=List.drop 4 q0;let q5:=List.take (Int.toNat q2) q7;let q6:=List.map u8 (fCopy l);let q9:=slE 1 u8 (List.drop (Int.toNat q2) q7);
 Tree.br (k76 l 4) (.need (ALeL [.ptr 0 0,.imm (i64 4)] [.ptr 0 0,.imm (i64 4)]∧GSpec prog 42 [(92,.agg [.imm (slE 1 u8 l)])] [] [.ptr 0 0,.imm (i64 4)] [(92,.agg [.imm (slE 1 u8 q8)])] [] (.imm (u64 (getV l 4)))) (.br (k76 q8 q3) (.need (ALeL [.ptr 0 0,.imm (i64 q3)] [.ptr 0 0,.imm (i64 q3)]∧GSpec prog 76 [(92,.agg [.imm (slE 1 u8 q8)])] [] [.ptr 0 0,.imm (i64 q3)] [(92,.agg [.imm (slE 1 u8 q0)])] [] (.imm (slE 1 u8 (List.take (Int.toNat q3) q8)))) (.need (ILeL [slE 1 u8 (List.take (Int.toNat q3) q8)] [slE 1 u8 (fCopy l)]∧OSpec prog 33 [slE 1 u8 (fCopy l)] 5 1 q6) (.br (k76 q0 4) (.need
 (ALeL [.ptr 0 0,.imm (i64 4)] [.ptr 0 0,.imm (i64 4)]∧GSpec prog 42 [(92,.agg [.imm (slE 1 u8 q0)])] [] [.ptr 0 0,.imm (i64 4)] [(92,.agg [.imm (slE 1 u8 q7)])] [] (.imm (u64 (getV q0 4)))) (.br (k76 q7 q2) (.need (ALeL [.ptr 0 0,.imm (i64 q2)] [.ptr 0 0,.imm (i64 q2)]∧GSpec prog 76 [(92,.agg [.imm (slE 1 u8 q7)])] [] [.ptr 0 0,.imm (i64 q2)] [(92,.agg [.imm q9])] [] (.imm (slE 1 u8 q5))) (.need (List.map u8 q5=List.map (fun n=>u8 n) q5) (.need ([(ls 0,85,AVal.agg [AVal.imm (u8 q4.version),AVal.imm (u8 q4.kind),AVal.imm (u16 q4.session),AVal.imm (u32 q4.serial),AVal.imm (bo
 q4.add),AVal.imm (u32 q4.origin.asn),AVal.imm (u8 q4.origin.pfx.fam),AVal.imm (u64 q4.origin.pfx.addr.hi),AVal.imm (u64 q4.origin.pfx.addr.lo),AVal.imm (i64 q4.origin.pfx.len),AVal.imm (i64 q4.origin.max),AVal.imm (u32 q4.path.cust),AVal.imm nS,AVal.imm (u32 q4.key.asn),AVal.imm (u8 0),AVal.imm (u8 0),AVal.imm (u8 0),AVal.imm (u8 0),AVal.imm (u8 0),AVal.imm (u8 0),AVal.imm (u8 0),AVal.imm (u8 0),AVal.imm (u8 0),AVal.imm (u8 0),AVal.imm (u8 0),AVal.imm (u8 0),AVal.imm (u8 0),AVal.imm (u8 0),AVal.imm (u8 0),AVal.imm (u8 0),AVal.imm (i64 q4.key.height),AVal.imm (u32 q4.refresh),AVal.imm (u32
 q4.retry),AVal.imm (u32 q4.expire),AVal.imm (u16 q4.code),AVal.own 2 (List.length q6),AVal.imm (IVal.v (Value.string (bstr q5)))]),(ls 1,92,AVal.agg [AVal.imm q9])]=[(ls 0,85,AVal.agg [AVal.imm (u8 q1.version),AVal.imm (u8 q1.kind),AVal.imm (u16 q1.session),AVal.imm (u32 q1.serial),AVal.imm (bo q1.add),AVal.imm (u32 q1.origin.asn),AVal.imm (u8 q1.origin.pfx.fam),AVal.imm (u64 q1.origin.pfx.addr.hi),AVal.imm (u64 q1.origin.pfx.addr.lo),AVal.imm (i64 q1.origin.pfx.len),AVal.imm (i64 q1.origin.max),AVal.imm (u32 q1.path.cust),AVal.imm nS,AVal.imm (u32 q1.key.asn),AVal.imm (u8 0),AVal.imm (u8
 0),AVal.imm (u8 0),AVal.imm (u8 0),AVal.imm (u8 0),AVal.imm (u8 0),AVal.imm (u8 0),AVal.imm (u8 0),AVal.imm (u8 0),AVal.imm (u8 0),AVal.imm (u8 0),AVal.imm (u8 0),AVal.imm (u8 0),AVal.imm (u8 0),AVal.imm (u8 0),AVal.imm (u8 0),AVal.imm (i64 q1.key.height),AVal.imm (u32 q1.refresh),AVal.imm (u32 q1.retry),AVal.imm (u32 q1.expire),AVal.imm (u16 q1.code),AVal.own 2 (List.length q6),AVal.imm (st q1.text)]),(ls 1,92,AVal.agg [AVal.imm (slE 1 u8 (fRest l))])]∧ELeL [Entry.row 5 1 q6] [Entry.row 5 1 q6]∧ALe (.tup []) (.tup [])) (.done Exit.ret lnil)))) (.need (ALeL [.ptr 0 0,.imm (i64 q2)] [.ptr 0
 0,.imm (i64 q2)]∧PSpec prog 76 [(92,.agg [.imm (slE 1 u8 q7)])] [] [.ptr 0 0,.imm (i64 q2)] errE) (.fail 1000006 1)))) (.need (ALeL [.ptr 0 0,.imm (i64 4)] [.ptr 0 0,.imm (i64 4)]∧PSpec prog 42 [(92,.agg [.imm (slE 1 u8 q0)])] [] [.ptr 0 0,.imm (i64 4)] errE) (.fail 1000006 1))))) (.need (ALeL [.ptr 0 0,.imm (i64 q3)] [.ptr 0 0,.imm (i64 q3)]∧PSpec prog 76 [(92,.agg [.imm (slE 1 u8 q8)])] [] [.ptr 0 0,.imm (i64 q3)] errE) (.fail 1000006 1)))) (.need (ALeL [.ptr 0 0,.imm (i64 4)] [.ptr 0 0,.imm (i64 4)]∧PSpec prog 42 [(92,.agg [.imm (slE 1 u8 l)])] [] [.ptr 0 0,.imm (i64 4)] errE) (.fail
 1000006 1))):=by kernel_rfl
theorem g71_2 (v k s:Int)(a:Bool)(c:Int)(l:List Int)(e1:4≤l.length)(hl:l.length≤100000)(e2:0≤gn l)(e3:gn l+4≤l.length)(e4:4≤(fL1 l).length)(e5:0≤gn (fL1 l))(e6:gn (fL1 l)+4≤(fL1 l).length):
  GSpec prog 71 (two (z1 v k s a c) l) [] [.ptr 0 0,.ptr 1 0] [(85,mC (zT v k s a c (bstr (fText l))) (.own 2 ((fCopy l).map u8).length)),(92,sR (fRest l))] [.row 5 1 ((fCopy l).map u8)] (.tup []):=by
 refine GSpec.tree Proofs.Try.f71 (fun ls=>T71o ls v k s a c l) (by kernel_rfl) (by kernel_rfl) rfl fun ls=>?_
 rw[t71o]
 have k2:gn l≤((l.drop 4).length:Int):=by rw[List.length_drop];omega
 have k3:(4:Int)≤((fL1 l).length:Int):=by omega
 have k4:gn (fL1 l)≤(((fL1 l).drop 4).length:Int):=by rw[List.length_drop];omega
 have k5:(fCopy l).length≤1000000:=by unfold fCopy;rw[List.length_take,List.length_drop];omega
 refine⟨fun h1=>need_sat ⟨ALeL.refl _,g42 _ _ ?_ ?_ ?_⟩ ⟨fun h2=>need_sat ⟨ALeL.refl _,g76 _ _ ?_ ?_⟩ (need_sat ⟨ILeL.refl _,o33 _ ?_⟩ ⟨fun h3=>need_sat ⟨ALeL.refl _,g42 _ _ ?_ ?_ ?_⟩ ⟨fun h4=>need_sat ⟨ALeL.refl _,g76 _ _ ?_ ?_⟩ (need_sat ?_ (need_sat ?_ (trivial))),fun h4=>need_sat ⟨ALeL.refl _,p76 _ _ ?_⟩ ?_⟩,fun h3=>need_sat ⟨ALeL.refl _,p42 _ _ ?_⟩ ?_⟩),fun h2=>need_sat ⟨ALeL.refl _,p76 _ _ ?_⟩ ?_⟩,fun h1=>need_sat ⟨ALeL.refl _,p42 _ _ ?_⟩ ?_⟩
 all_goals first
  |exact k2
  |exact k3
  |exact k4
  |exact k5
  |exact(k76_f h1 ⟨by decide,by omega⟩).elim
  |exact(k76_f h2 ⟨e2,k2⟩).elim
  |exact(k76_f h3 ⟨by decide,k3⟩).elim
  |exact(k76_f h4 ⟨e5,k4⟩).elim
  |assumption
  |omega
  |rfl
  |exact⟨rfl,.refl _,.refl _⟩
  |(simp only[List.length_drop,List.length_take];omega)
end Gp
namespace Gp
def σ35g (l:List Int):LState:={t:=[(3,.ptr 1 0),(2,.ptr 0 0),(0,.imm (slE 1 u8 l))],s:=[(1,.box 4 (.imm (bo false))),(0,.box 42 (.imm z42))],m:=56,n:=4}
def cE (l:List Int):List Int:=fCopy (d8 l)
def rE (l:List Int):AVal:=.tup [mC (zT (gu8 l) (kR1 l) 0 false (gu16 (d2 l)) (bstr (fText (d8 l)))) (.own 0 ((cE l).map u8).length),.imm (bo (decide (((fRest (d8 l)).length:Int)=0)))]
def T35eg (ls:Nat→Abs.Loc)(l:List Int):Tell:=
 (let q1:=List.drop 1 l;let q0:=List.drop 2 (List.drop 1 q1);let q2:=List.drop 4 q0;
 Tell.mk (fun x x_1=>false) (fun r i=>if(r==4&&i==6)=true then Orc.look (.imm form10) true else Orc.no) (fun x=>Tree.fail 1000003 0) (fun x=>0) (fun x=>([],[])) (ogetO (fun r i=>if(r==4&&i==6)=true then Orc.look (.imm form10) true else Orc.no) [(8,3,1,Orc.may (k76 l 1) [6] 1 [.ptr 0 0,.imm (i64 1)] errE (Orc.callg [6] 1 [.ptr 0 0,.imm (i64 1)] [(92,.agg [.imm (slE 1 u8 (List.drop (Int.toNat 1) l))])] [] (.imm (u64 (getV l 1))))),(8,3,4,Orc.may (k76 q1 1) [6] 1 [.ptr 0 0,.imm (i64 1)] errE (Orc.callg [6] 1 [.ptr 0 0,.imm (i64 1)] [(92,.agg [.imm (slE 1 u8 (List.drop
 (Int.toNat 1) q1))])] [] (.imm (u64 (getV q1 1))))),(18,4,0,Orc.call [] (.map ksF dsF)),(33,7,4,Orc.may (k50 (List.drop 1 q1)) [16,6] 2 [.ptr 0 0,.ptr 1 0] errE (Orc.callg [16,6] 2 [.ptr 0 0,.ptr 1 0] (two (z1 (getV l 1 % (2:Int)^IntKind.bits IntKind.u8) (getV q1 1 % (2:Int)^IntKind.bits IntKind.u8) 0 false (gu16 (List.drop 1 q1))) q0) [] (.tup []))),(38,8,1,Orc.may (k76 q0 4) [6] 1 [.ptr 0 0,.imm (i64 4)] errE (Orc.callg [6] 1 [.ptr 0 0,.imm (i64 4)] [(92,.agg [.imm (slE 1 u8 (List.drop (Int.toNat 4) q0))])] [] (.imm (slE 1 u8 (List.take (Int.toNat 4) q0))))),(40,9,4,Orc.may (k71 q2)
 [16,6] 2 [.ptr 0 0,.ptr 1 0] errE (Orc.callg [16,6] 2 [.ptr 0 0,.ptr 1 0] [(85,mC (zT (getV l 1 % 256) (getV q1 1 % 256) 0 false (gu16 (List.drop 1 q1)) (bstr (fText q2))) (.own 2 (List.length (List.map u8 (fCopy q2))))),(92,sR (fRest q2))] [Entry.row 5 1 (List.map u8 (fCopy q2))] (.tup [])))]) fun x x_1=>Tree.fail 1000003 0)
theorem t35eg (ls:Nat→Abs.Loc)(l:List Int):levGD prog Proofs.Try.f35 (σ35g l) (T35eg ls l) ls [.row 5 1 ((cE l).map u8)] (rE l)=
 (let q5:=List.drop 1 l;let q0:=z1 (getV l 1 % 256) (getV q5 1 % 256) 0 false (gu16 (List.drop 1 q5));let q2:=List.drop 2 (List.drop 1 q5);let q4:=List.drop 4 q2;let q1:=zT (getV l 1 % 256) (getV q5 1 % 256) 0 false (gu16 (List.drop 1 q5)) (bstr (fText q4));let q3:=getV q5 1;let q6:=List.map u8 (fCopy q4);let q7:=slE 1 u8 (List.drop 1 q5);let q8:=u8 (IntKind.wrap IntKind.u8 (getV l 1));
 Tree.br (k76 l 1) (.need (ALeL [.ptr 0 0,.imm (i64 1)] [.ptr 0 0,.imm (i64 1)]∧GSpec prog 42 [(92,.agg [.imm (slE 1 u8 l)])] [] [.ptr 0 0,.imm (i64 1)] [(92,.agg [.imm (slE 1 u8 q5)])] [] (.imm (u64 (getV l 1)))) (.br (k76 q5 1) (.need (ALeL [.ptr 0 0,.imm (i64 1)] [.ptr 0 0,.imm (i64 1)]∧GSpec prog 42 [(92,.agg [.imm (slE 1 u8 q5)])] [] [.ptr 0 0,.imm (i64 1)] [(92,.agg [.imm q7])] [] (.imm (u64 q3))) (.need (ILeL [] []∧ASpec prog 34 [] (.map ksF dsF)) (.need (true=true∧(if IntKind.wrap IntKind.u8 q3=0 then(AVal.imm (formI 0),true)else if IntKind.wrap IntKind.u8 q3=1 then
 (AVal.imm (formI 1),true)else if IntKind.wrap IntKind.u8 q3=2 then(AVal.imm (formI 2),true)else if IntKind.wrap IntKind.u8 q3=8 then(AVal.imm (formI 8),true)else if IntKind.wrap IntKind.u8 q3=4 then(AVal.imm (formI 4),true)else if IntKind.wrap IntKind.u8 q3=6 then(AVal.imm (formI 6),true)else if IntKind.wrap IntKind.u8 q3=3 then(AVal.imm (formI 3),true)else if IntKind.wrap IntKind.u8 q3=7 then(AVal.imm (formI 7),true)else if IntKind.wrap IntKind.u8 q3=9 then(AVal.imm (formI 9),true)else if IntKind.wrap IntKind.u8 q3=10 then(AVal.imm (formI 10),true)else if
 IntKind.wrap IntKind.u8 q3=11 then(AVal.imm (formI 11),true)else(AVal.imm (IVal.agg [IVal.v Value.nilFunc,IVal.v Value.nilFunc,IVal.v Value.nilFunc,IVal.v Value.nilFunc,IVal.v Value.nilFunc]),false))=(.imm form10,true)) (.br false (.need (([]:List (Abs.Loc×Nat×AVal))=[]∧ELeL [] [Entry.row 5 1 (List.map u8 (cE l))]∧ALe (.tup [.agg [.imm (u8 0),.imm (u8 0),.imm (u16 0),.imm (u32 0),.imm (bo false),.imm (u32 0),.imm (u8 0),.imm (u64 0),.imm (u64 0),.imm (i64 0),.imm (i64 0),.imm (u32 0),.imm nS,.imm (u32 0),.imm (u8 0),.imm (u8 0),.imm (u8 0),.imm (u8 0),.imm (u8 0),.imm (u8
 0),.imm (u8 0),.imm (u8 0),.imm (u8 0),.imm (u8 0),.imm (u8 0),.imm (u8 0),.imm (u8 0),.imm (u8 0),.imm (u8 0),.imm (u8 0),.imm (i64 0),.imm (u32 0),.imm (u32 0),.imm (u32 0),.imm (u16 0),.imm nS,.imm (st .empty)],.imm (bo false)]) (rE l)) (.done Exit.ret lnil)) (.br (k50 (List.drop 1 q5)) (.need (ALeL [.ptr 0 0,.ptr 1 0] [.ptr 0 0,.ptr 1 0]∧GSpec prog 70 [(85,.agg [.imm q8,.imm (u8 (IntKind.wrap IntKind.u8 q3)),.imm (u16 0),.imm (u32 0),.imm (bo false),.imm (u32 0),.imm (u8 0),.imm (u64 0),.imm (u64 0),.imm (i64 0),.imm (i64 0),.imm (u32 0),.imm nS,.imm (u32 0),.imm (u8 0),.imm (u8 0),.imm
 (u8 0),.imm (u8 0),.imm (u8 0),.imm (u8 0),.imm (u8 0),.imm (u8 0),.imm (u8 0),.imm (u8 0),.imm (u8 0),.imm (u8 0),.imm (u8 0),.imm (u8 0),.imm (u8 0),.imm (u8 0),.imm (i64 0),.imm (u32 0),.imm (u32 0),.imm (u32 0),.imm (u16 0),.imm nS,.imm (st .empty)]),(92,.agg [.imm q7])] [] [.ptr 0 0,.ptr 1 0] (two q0 q2) [] (.tup [])) (.br (k76 q2 4) (.need (ALeL [.ptr 0 0,.imm (i64 4)] [.ptr 0 0,.imm (i64 4)]∧GSpec prog 76 [(92,.agg [.imm (slE 1 u8 q2)])] [] [.ptr 0 0,.imm (i64 4)] [(92,.agg [.imm (slE 1 u8 q4)])] [] (.imm (slE 1 u8 (List.take 4 q2)))) (.br (k71 q4) (.need (ALeL [.ptr 0 0,.ptr 1 0]
 [.ptr 0 0,.ptr 1 0]∧GSpec prog 71 [(85,.agg [.imm (u8 q0.version),.imm (u8 q0.kind),.imm (u16 q0.session),.imm (u32 q0.serial),.imm (bo q0.add),.imm (u32 q0.origin.asn),.imm (u8 q0.origin.pfx.fam),.imm (u64 q0.origin.pfx.addr.hi),.imm (u64 q0.origin.pfx.addr.lo),.imm (i64 q0.origin.pfx.len),.imm (i64 q0.origin.max),.imm (u32 q0.path.cust),.imm nS,.imm (u32 q0.key.asn),.imm (u8 0),.imm (u8 0),.imm (u8 0),.imm (u8 0),.imm (u8 0),.imm (u8 0),.imm (u8 0),.imm (u8 0),.imm (u8 0),.imm (u8 0),.imm (u8 0),.imm (u8 0),.imm (u8 0),.imm (u8 0),.imm (u8 0),.imm (u8 0),.imm (i64 q0.key.height),.imm (u32
 q0.refresh),.imm (u32 q0.retry),.imm (u32 q0.expire),.imm (u16 q0.code),.imm nS,.imm (st q0.text)]),(92,.agg [.imm (slE 1 u8 q4)])] [] [.ptr 0 0,.ptr 1 0] [(85,mC q1 (.own 2 (List.length q6))),(92,sR (fRest q4))] [Entry.row 5 1 q6] (.tup [])) (.need (([]:List (Abs.Loc×Nat×AVal))=[]∧ELeL [Entry.row 5 1 q6] [Entry.row 5 1 (List.map u8 (cE l))]∧ALe (.tup [.agg [.imm (u8 q1.version),.imm (u8 q1.kind),.imm (u16 q1.session),.imm (u32 q1.serial),.imm (bo q1.add),.imm (u32 q1.origin.asn),.imm (u8 q1.origin.pfx.fam),.imm (u64 q1.origin.pfx.addr.hi),.imm (u64 q1.origin.pfx.addr.lo),.imm (i64
 q1.origin.pfx.len),.imm (i64 q1.origin.max),.imm (u32 q1.path.cust),.imm nS,.imm (u32 q1.key.asn),.imm (u8 0),.imm (u8 0),.imm (u8 0),.imm (u8 0),.imm (u8 0),.imm (u8 0),.imm (u8 0),.imm (u8 0),.imm (u8 0),.imm (u8 0),.imm (u8 0),.imm (u8 0),.imm (u8 0),.imm (u8 0),.imm (u8 0),.imm (u8 0),.imm (i64 q1.key.height),.imm (u32 q1.refresh),.imm (u32 q1.retry),.imm (u32 q1.expire),.imm (u16 q1.code),.own 0 (List.length q6),.imm (st q1.text)],.imm (bo (decide ((↑(List.length (List.map u8 (fRest q4))):Int)=0)))]) (rE l)) (.done Exit.ret lnil))) (.need (ALeL [.ptr 0 0,.ptr 1 0] [.ptr 0 0,.ptr 1 0]∧
 PSpec prog 71 [(85,.agg [.imm (u8 q0.version),.imm (u8 q0.kind),.imm (u16 q0.session),.imm (u32 q0.serial),.imm (bo q0.add),.imm (u32 q0.origin.asn),.imm (u8 q0.origin.pfx.fam),.imm (u64 q0.origin.pfx.addr.hi),.imm (u64 q0.origin.pfx.addr.lo),.imm (i64 q0.origin.pfx.len),.imm (i64 q0.origin.max),.imm (u32 q0.path.cust),.imm nS,.imm (u32 q0.key.asn),.imm (u8 0),.imm (u8 0),.imm (u8 0),.imm (u8 0),.imm (u8 0),.imm (u8 0),.imm (u8 0),.imm (u8 0),.imm (u8 0),.imm (u8 0),.imm (u8 0),.imm (u8 0),.imm (u8 0),.imm (u8 0),.imm (u8 0),.imm (u8 0),.imm (i64 q0.key.height),.imm (u32 q0.refresh),.imm (u32
 q0.retry),.imm (u32 q0.expire),.imm (u16 q0.code),.imm nS,.imm (st q0.text)]),(92,.agg [.imm (slE 1 u8 q4)])] [] [.ptr 0 0,.ptr 1 0] errE) (.fail 1000006 1)))) (.need (ALeL [.ptr 0 0,.imm (i64 4)] [.ptr 0 0,.imm (i64 4)]∧PSpec prog 76 [(92,.agg [.imm (slE 1 u8 q2)])] [] [.ptr 0 0,.imm (i64 4)] errE) (.fail 1000006 1)))) (.need (ALeL [.ptr 0 0,.ptr 1 0] [.ptr 0 0,.ptr 1 0]∧PSpec prog 70 [(85,.agg [.imm q8,.imm (u8 (IntKind.wrap IntKind.u8 q3)),.imm (u16 0),.imm (u32 0),.imm (bo false),.imm (u32 0),.imm (u8 0),.imm (u64 0),.imm (u64 0),.imm (i64 0),.imm (i64 0),.imm (u32 0),.imm nS,.imm (u32
 0),.imm (u8 0),.imm (u8 0),.imm (u8 0),.imm (u8 0),.imm (u8 0),.imm (u8 0),.imm (u8 0),.imm (u8 0),.imm (u8 0),.imm (u8 0),.imm (u8 0),.imm (u8 0),.imm (u8 0),.imm (u8 0),.imm (u8 0),.imm (u8 0),.imm (i64 0),.imm (u32 0),.imm (u32 0),.imm (u32 0),.imm (u16 0),.imm nS,.imm (st .empty)]),(92,.agg [.imm q7])] [] [.ptr 0 0,.ptr 1 0] errE) (.fail 1000006 1))))))) (.need (ALeL [.ptr 0 0,.imm (i64 1)] [.ptr 0 0,.imm (i64 1)]∧PSpec prog 42 [(92,.agg [.imm (slE 1 u8 q5)])] [] [.ptr 0 0,.imm (i64 1)] errE) (.fail 1000006 1)))) (.need (ALeL [.ptr 0 0,.imm (i64 1)] [.ptr 0 0,.imm (i64 1)]∧PSpec prog 42
 [(92,.agg [.imm (slE 1 u8 l)])] [] [.ptr 0 0,.imm (i64 1)] errE) (.fail 1000006 1))):=by kernel_rfl
theorem no_ok {l:List Int}(h:rdOk l=true)(h2:rdOk l=false){q:Prop}:q:=by rw[h]at h2;cases h2
theorem g35e (l:List Int)(hl:l.length≤100000)(hk:kR1 l=10)(hok:rdOk l=true):GSpec prog 35 [] [] [.imm (slE 1 u8 l)] [] [.row 5 1 ((cE l).map u8)] (rE l):=by
 have h8l:=d8_len l
 have eT:kTT (gu8 l) (kR1 l) (d8 l)=k71 (d8 l):=by unfold kTT;simp only[hk];rfl
 have eF:kF (kR1 l) (d2 l)=k50 (d2 l):=by unfold kF;simp only[hk];rfl
 refine GSpec.treeD (g:=75) (d:=8) (ts:=[2,3]) Proofs.Try.f35 (s35 l) (σ35g l) {} (T35eg (fun _=>default) l) (by kernel_rfl) (by kernel_rfl) shape35 nop75 rfl rfl (fun k=>rfl) ⟨⟨rfl,rfl,rfl,trivial⟩,⟨rfl,rfl,trivial⟩,rfl,rfl,rfl⟩ fun ls=>?_
 show (levGD prog Proofs.Try.f35 (σ35g l) (T35eg ls l) ls _ _).sat _ _
 rw[t35eg]
 refine⟨fun h1=>need_sat ⟨ALeL.refl _,g42 _ _ ?_ ?_ ?_⟩ ⟨fun h2=>need_sat ⟨ALeL.refl _,g42 _ _ ?_ ?_ ?_⟩ (need_sat ⟨ILeL.refl _,c34⟩ (need_sat ?_ ⟨fun h=>(by cases h),fun _=>⟨fun h3=>need_sat ⟨ALeL.refl _,g70 _ _ _ _ _ _ ?_⟩ ⟨fun h4=>need_sat ⟨ALeL.refl _,g76 _ _ ?_ ?_⟩ ⟨fun h5=>need_sat ⟨ALeL.refl _,g71_2 _ _ _ _ _ _ ?_ ?_ ?_ ?_ ?_ ?_ ?_⟩ (need_sat ?_ (trivial)),fun h5=>need_sat ⟨ALeL.refl _,p71 _ _ _ _ _ _ ?_ ?_⟩ ?_⟩,fun h4=>need_sat ⟨ALeL.refl _,p76 _ _ ?_⟩ ?_⟩,fun h3=>need_sat ⟨ALeL.refl _,p70 _ _ _ _ _ _ ?_⟩ ?_⟩⟩)),fun h2=>need_sat ⟨ALeL.refl _,p42 _ _ ?_⟩ ?_⟩,fun h1=>need_sat ⟨ALeL.refl _,p42 _ _ ?_⟩ ?_⟩
 all_goals try first
  |exact⟨rfl,look_10 hk⟩
  |exact(k76_t h1).2
  |exact(k76_t h2).2
  |exact(k76_t h4).2
  |exact no_ok hok (no_1 h1)
  |exact no_ok hok (no_2 h2)
  |exact no_ok hok (no_F (eF.trans h3))
  |exact no_ok hok (no_4 h4)
  |exact no_ok hok (no_T (eT.trans h5))
  |exact k50_t h3
  |exact(k71_t h5).1
  |exact(k71_t h5).2.1
  |exact(k71_t h5).2.2.1
  |exact(k71_t h5).2.2.2.1
  |exact(k71_t h5).2.2.2.2.1
  |exact(k71_t h5).2.2.2.2.2
  |(show (d8 l).length≤100000;omega)
  |assumption
  |omega
 ·refine⟨rfl,.refl _,?_⟩
  unfold rE
  simp only[List.length_map]
  exact .refl _
end Gp
namespace Gp
def cP (l:List Int):List Int:=pvR ((d8 l).drop 4) (pN (d8 l))
def rPg (l:List Int):AVal:=.tup [mP (zP (gu8 l) (kR1 l) 0 (decide (getV (d2 l) 1=1)) 0 (gu32 (d8 l))) (.own 0 (pN (d8 l))),.imm (bo true)]
def T35pg (ls:Nat→Abs.Loc)(l:List Int):Tell:=
 (let q1:=List.drop 1 l;let q0:=List.drop 2 (List.drop 1 q1);let q2:=List.drop 4 q0;let q3:=decide (getV (List.drop 1 q1) (1:Int)=(1:Int));
 Tell.mk (fun x x_1=>false) (fun r i=>if(r==4&&i==6)=true then Orc.look (.imm form11) true else Orc.no) (fun x=>Tree.fail 1000003 0) (fun x=>0) (fun x=>([],[])) (ogetO (fun r i=>if(r==4&&i==6)=true then Orc.look (.imm form11) true else Orc.no) [(8,3,1,Orc.may (k76 l 1) [6] 1 [.ptr 0 0,.imm (i64 1)] errE (Orc.callg [6] 1 [.ptr 0 0,.imm (i64 1)] [(92,.agg [.imm (slE 1 u8 (List.drop (Int.toNat 1) l))])] [] (.imm (u64 (getV l 1))))),(8,3,4,Orc.may (k76 q1 1) [6] 1 [.ptr 0 0,.imm (i64 1)] errE (Orc.callg [6] 1 [.ptr 0 0,.imm (i64 1)] [(92,.agg [.imm (slE 1 u8 (List.drop
 (Int.toNat 1) q1))])] [] (.imm (u64 (getV q1 1))))),(18,4,0,Orc.call [] (.map ksF dsF)),(33,7,4,Orc.may (k65 (List.drop 1 q1)) [16,6] 2 [.ptr 0 0,.ptr 1 0] errE (Orc.callg [16,6] 2 [.ptr 0 0,.ptr 1 0] (two (z1 (getV l 1 % (2:Int)^IntKind.bits IntKind.u8) (getV q1 1 % (2:Int)^IntKind.bits IntKind.u8) 0 q3 0) q0) [] (.tup []))),(38,8,1,Orc.may (k76 q0 4) [6] 1 [.ptr 0 0,.imm (i64 4)] errE (Orc.callg [6] 1 [.ptr 0 0,.imm (i64 4)] [(92,.agg [.imm (slE 1 u8 (List.drop (Int.toNat 4) q0))])] [] (.imm (slE 1 u8 (List.take (Int.toNat 4) q0))))),(40,9,4,Orc.may (k74 q2) [16,6] 2 [.ptr 0 0,.ptr 1
 0] errE (Orc.callg [16,6] 2 [.ptr 0 0,.ptr 1 0] [(85,mP (zP (getV l 1 % 256) (getV q1 1 % 256) 0 q3 0 (gu32 q2)) (.own 2 (pN q2))),(92,sR [])] [Entry.row 23 1 (List.map u32 (pvR (List.drop 4 q2) (pN q2)))] (.tup [])))]) fun x x_1=>Tree.fail 1000003 0)
theorem t35pg (ls:Nat→Abs.Loc)(l:List Int):levGD prog Proofs.Try.f35 (σ35g l) (T35pg ls l) ls [.row 23 1 ((cP l).map u32)] (rPg l)=
 (let q6:=List.drop 1 l;let q0:=decide (getV (List.drop 1 q6) (1:Int)=(1:Int));let q3:=List.drop 2 (List.drop 1 q6);let q5:=List.drop 4 q3;let q1:=zP (getV l 1 % 256) (getV q6 1 % 256) 0 q0 0 (gu32 q5);let q2:=z1 (getV l 1 % 256) (getV q6 1 % 256) 0 q0 0;let q4:=getV q6 1;let q7:=slE 1 u8 (List.drop 1 q6);let q8:=List.map u32 (pvR (List.drop 4 q5) (pN q5));let q9:=u8 (IntKind.wrap IntKind.u8 (getV l 1));
 Tree.br (k76 l 1) (.need (ALeL [.ptr 0 0,.imm (i64 1)] [.ptr 0 0,.imm (i64 1)]∧GSpec prog 42 [(92,.agg [.imm (slE 1 u8 l)])] [] [.ptr 0 0,.imm (i64 1)] [(92,.agg [.imm (slE 1 u8 q6)])] [] (.imm (u64 (getV l 1)))) (.br (k76 q6 1) (.need (ALeL [.ptr 0 0,.imm (i64 1)] [.ptr 0 0,.imm (i64 1)]∧GSpec prog 42 [(92,.agg [.imm (slE 1 u8 q6)])] [] [.ptr 0 0,.imm (i64 1)] [(92,.agg [.imm q7])] [] (.imm (u64 q4))) (.need (ILeL [] []∧ASpec prog 34 [] (.map ksF dsF)) (.need (true=true∧(if IntKind.wrap IntKind.u8 q4=0 then(AVal.imm (formI 0),true)else if IntKind.wrap IntKind.u8 q4=1 then
 (AVal.imm (formI 1),true)else if IntKind.wrap IntKind.u8 q4=2 then(AVal.imm (formI 2),true)else if IntKind.wrap IntKind.u8 q4=8 then(AVal.imm (formI 8),true)else if IntKind.wrap IntKind.u8 q4=4 then(AVal.imm (formI 4),true)else if IntKind.wrap IntKind.u8 q4=6 then(AVal.imm (formI 6),true)else if IntKind.wrap IntKind.u8 q4=3 then(AVal.imm (formI 3),true)else if IntKind.wrap IntKind.u8 q4=7 then(AVal.imm (formI 7),true)else if IntKind.wrap IntKind.u8 q4=9 then(AVal.imm (formI 9),true)else if IntKind.wrap IntKind.u8 q4=10 then(AVal.imm (formI 10),true)else if
 IntKind.wrap IntKind.u8 q4=11 then(AVal.imm (formI 11),true)else(AVal.imm (IVal.agg [IVal.v Value.nilFunc,IVal.v Value.nilFunc,IVal.v Value.nilFunc,IVal.v Value.nilFunc,IVal.v Value.nilFunc]),false))=(.imm form11,true)) (.br false (.need (([]:List (Abs.Loc×Nat×AVal))=[]∧ELeL [] [Entry.row 23 1 (List.map u32 (cP l))]∧ALe (.tup [.agg [.imm (u8 0),.imm (u8 0),.imm (u16 0),.imm (u32 0),.imm (bo false),.imm (u32 0),.imm (u8 0),.imm (u64 0),.imm (u64 0),.imm (i64 0),.imm (i64 0),.imm (u32 0),.imm nS,.imm (u32 0),.imm (u8 0),.imm (u8 0),.imm (u8 0),.imm (u8 0),.imm (u8 0),.imm (u8
 0),.imm (u8 0),.imm (u8 0),.imm (u8 0),.imm (u8 0),.imm (u8 0),.imm (u8 0),.imm (u8 0),.imm (u8 0),.imm (u8 0),.imm (u8 0),.imm (i64 0),.imm (u32 0),.imm (u32 0),.imm (u32 0),.imm (u16 0),.imm nS,.imm (st .empty)],.imm (bo false)]) (rPg l)) (.done Exit.ret lnil)) (.br (k65 (List.drop 1 q6)) (.need (ALeL [.ptr 0 0,.ptr 1 0] [.ptr 0 0,.ptr 1 0]∧GSpec prog 65 [(85,.agg [.imm q9,.imm (u8 (IntKind.wrap IntKind.u8 q4)),.imm (u16 0),.imm (u32 0),.imm (bo false),.imm (u32 0),.imm (u8 0),.imm (u64 0),.imm (u64 0),.imm (i64 0),.imm (i64 0),.imm (u32 0),.imm nS,.imm (u32 0),.imm (u8 0),.imm (u8 0),.imm
 (u8 0),.imm (u8 0),.imm (u8 0),.imm (u8 0),.imm (u8 0),.imm (u8 0),.imm (u8 0),.imm (u8 0),.imm (u8 0),.imm (u8 0),.imm (u8 0),.imm (u8 0),.imm (u8 0),.imm (u8 0),.imm (i64 0),.imm (u32 0),.imm (u32 0),.imm (u32 0),.imm (u16 0),.imm nS,.imm (st .empty)]),(92,.agg [.imm q7])] [] [.ptr 0 0,.ptr 1 0] (two q2 q3) [] (.tup [])) (.br (k76 q3 4) (.need (ALeL [.ptr 0 0,.imm (i64 4)] [.ptr 0 0,.imm (i64 4)]∧GSpec prog 76 [(92,.agg [.imm (slE 1 u8 q3)])] [] [.ptr 0 0,.imm (i64 4)] [(92,.agg [.imm (slE 1 u8 q5)])] [] (.imm (slE 1 u8 (List.take 4 q3)))) (.br (k74 q5) (.need (ALeL [.ptr 0 0,.ptr 1 0]
 [.ptr 0 0,.ptr 1 0]∧GSpec prog 74 [(85,.agg [.imm (u8 q2.version),.imm (u8 q2.kind),.imm (u16 q2.session),.imm (u32 q2.serial),.imm (bo q2.add),.imm (u32 q2.origin.asn),.imm (u8 q2.origin.pfx.fam),.imm (u64 q2.origin.pfx.addr.hi),.imm (u64 q2.origin.pfx.addr.lo),.imm (i64 q2.origin.pfx.len),.imm (i64 q2.origin.max),.imm (u32 q2.path.cust),.imm nS,.imm (u32 q2.key.asn),.imm (u8 0),.imm (u8 0),.imm (u8 0),.imm (u8 0),.imm (u8 0),.imm (u8 0),.imm (u8 0),.imm (u8 0),.imm (u8 0),.imm (u8 0),.imm (u8 0),.imm (u8 0),.imm (u8 0),.imm (u8 0),.imm (u8 0),.imm (u8 0),.imm (i64 q2.key.height),.imm (u32
 q2.refresh),.imm (u32 q2.retry),.imm (u32 q2.expire),.imm (u16 q2.code),.imm nS,.imm (st q2.text)]),(92,.agg [.imm (slE 1 u8 q5)])] [] [.ptr 0 0,.ptr 1 0] [(85,mP q1 (.own 2 (pN q5))),(92,sR [])] [Entry.row 23 1 q8] (.tup [])) (.need (([]:List (Abs.Loc×Nat×AVal))=[]∧ELeL [Entry.row 23 1 q8] [Entry.row 23 1 (List.map u32 (cP l))]∧ALe (.tup [.agg [.imm (u8 q1.version),.imm (u8 q1.kind),.imm (u16 q1.session),.imm (u32 q1.serial),.imm (bo q1.add),.imm (u32 q1.origin.asn),.imm (u8 q1.origin.pfx.fam),.imm (u64 q1.origin.pfx.addr.hi),.imm (u64 q1.origin.pfx.addr.lo),.imm (i64
 q1.origin.pfx.len),.imm (i64 q1.origin.max),.imm (u32 q1.path.cust),.own 0 (pN q5),.imm (u32 q1.key.asn),.imm (u8 0),.imm (u8 0),.imm (u8 0),.imm (u8 0),.imm (u8 0),.imm (u8 0),.imm (u8 0),.imm (u8 0),.imm (u8 0),.imm (u8 0),.imm (u8 0),.imm (u8 0),.imm (u8 0),.imm (u8 0),.imm (u8 0),.imm (u8 0),.imm (i64 q1.key.height),.imm (u32 q1.refresh),.imm (u32 q1.retry),.imm (u32 q1.expire),.imm (u16 q1.code),.imm nS,.imm (st q1.text)],.imm (bo true)]) (rPg l)) (.done Exit.ret lnil))) (.need (ALeL [.ptr 0 0,.ptr 1 0] [.ptr 0 0,.ptr 1 0]∧PSpec prog 74 [(85,.agg [.imm (u8 q2.version),.imm (u8
 q2.kind),.imm (u16 q2.session),.imm (u32 q2.serial),.imm (bo q2.add),.imm (u32 q2.origin.asn),.imm (u8 q2.origin.pfx.fam),.imm (u64 q2.origin.pfx.addr.hi),.imm (u64 q2.origin.pfx.addr.lo),.imm (i64 q2.origin.pfx.len),.imm (i64 q2.origin.max),.imm (u32 q2.path.cust),.imm nS,.imm (u32 q2.key.asn),.imm (u8 0),.imm (u8 0),.imm (u8 0),.imm (u8 0),.imm (u8 0),.imm (u8 0),.imm (u8 0),.imm (u8 0),.imm (u8 0),.imm (u8 0),.imm (u8 0),.imm (u8 0),.imm (u8 0),.imm (u8 0),.imm (u8 0),.imm (u8 0),.imm (i64 q2.key.height),.imm (u32 q2.refresh),.imm (u32 q2.retry),.imm (u32 q2.expire),.imm (u16 q2.code),.imm
 nS,.imm (st q2.text)]),(92,.agg [.imm (slE 1 u8 q5)])] [] [.ptr 0 0,.ptr 1 0] errE) (.fail 1000006 1)))) (.need (ALeL [.ptr 0 0,.imm (i64 4)] [.ptr 0 0,.imm (i64 4)]∧PSpec prog 76 [(92,.agg [.imm (slE 1 u8 q3)])] [] [.ptr 0 0,.imm (i64 4)] errE) (.fail 1000006 1)))) (.need (ALeL [.ptr 0 0,.ptr 1 0] [.ptr 0 0,.ptr 1 0]∧PSpec prog 65 [(85,.agg [.imm q9,.imm (u8 (IntKind.wrap IntKind.u8 q4)),.imm (u16 0),.imm (u32 0),.imm (bo false),.imm (u32 0),.imm (u8 0),.imm (u64 0),.imm (u64 0),.imm (i64 0),.imm (i64 0),.imm (u32 0),.imm nS,.imm (u32 0),.imm (u8 0),.imm (u8 0),.imm (u8 0),.imm (u8 0),.imm
 (u8 0),.imm (u8 0),.imm (u8 0),.imm (u8 0),.imm (u8 0),.imm (u8 0),.imm (u8 0),.imm (u8 0),.imm (u8 0),.imm (u8 0),.imm (u8 0),.imm (u8 0),.imm (i64 0),.imm (u32 0),.imm (u32 0),.imm (u32 0),.imm (u16 0),.imm nS,.imm (st .empty)]),(92,.agg [.imm q7])] [] [.ptr 0 0,.ptr 1 0] errE) (.fail 1000006 1))))))) (.need (ALeL [.ptr 0 0,.imm (i64 1)] [.ptr 0 0,.imm (i64 1)]∧PSpec prog 42 [(92,.agg [.imm (slE 1 u8 q6)])] [] [.ptr 0 0,.imm (i64 1)] errE) (.fail 1000006 1)))) (.need (ALeL [.ptr 0 0,.imm (i64 1)] [.ptr 0 0,.imm (i64 1)]∧PSpec prog 42 [(92,.agg [.imm (slE 1 u8 l)])] [] [.ptr 0 0,.imm (i64
 1)] errE) (.fail 1000006 1))):=by kernel_rfl
theorem g35p (l:List Int)(hl:l.length≤100000)(hk:kR1 l=11)(hok:rdOk l=true):GSpec prog 35 [] [] [.imm (slE 1 u8 l)] [] [.row 23 1 ((cP l).map u32)] (rPg l):=by
 have h8l:=d8_len l
 have eT:kTT (gu8 l) (kR1 l) (d8 l)=k74 (d8 l):=by unfold kTT;simp only[hk];rfl
 have eF:kF (kR1 l) (d2 l)=k65 (d2 l):=by unfold kF;simp only[hk];rfl
 refine GSpec.treeD (g:=75) (d:=8) (ts:=[2,3]) Proofs.Try.f35 (s35 l) (σ35g l) {} (T35pg (fun _=>default) l) (by kernel_rfl) (by kernel_rfl) shape35 nop75 rfl rfl (fun k=>rfl) ⟨⟨rfl,rfl,rfl,trivial⟩,⟨rfl,rfl,trivial⟩,rfl,rfl,rfl⟩ fun ls=>?_
 show (levGD prog Proofs.Try.f35 (σ35g l) (T35pg ls l) ls _ _).sat _ _
 rw[t35pg]
 refine⟨fun h1=>need_sat ⟨ALeL.refl _,g42 _ _ ?_ ?_ ?_⟩ ⟨fun h2=>need_sat ⟨ALeL.refl _,g42 _ _ ?_ ?_ ?_⟩ (need_sat ⟨ILeL.refl _,c34⟩ (need_sat ?_ ⟨fun h=>(by cases h),fun _=>⟨fun h3=>need_sat ⟨ALeL.refl _,g65 _ _ _ _ _ _ ?_ ?_ ?_⟩ ⟨fun h4=>need_sat ⟨ALeL.refl _,g76 _ _ ?_ ?_⟩ ⟨fun h5=>need_sat ⟨ALeL.refl _,g74 _ _ _ _ _ _ ?_ ?_⟩ (need_sat ?_ (trivial)),fun h5=>need_sat ⟨ALeL.refl _,p74 _ _ _ _ _ _ ?_ ?_⟩ ?_⟩,fun h4=>need_sat ⟨ALeL.refl _,p76 _ _ ?_⟩ ?_⟩,fun h3=>need_sat ⟨ALeL.refl _,p65 _ _ _ _ _ _ ?_⟩ ?_⟩⟩)),fun h2=>need_sat ⟨ALeL.refl _,p42 _ _ ?_⟩ ?_⟩,fun h1=>need_sat ⟨ALeL.refl _,p42 _ _ ?_⟩ ?_⟩
 all_goals try first
  |exact⟨rfl,look_11 hk⟩
  |exact(k76_t h1).2
  |exact(k76_t h2).2
  |exact(k76_t h4).2
  |exact no_ok hok (no_1 h1)
  |exact no_ok hok (no_2 h2)
  |exact no_ok hok (no_F (eF.trans h3))
  |exact no_ok hok (no_4 h4)
  |exact no_ok hok (no_T (eT.trans h5))
  |exact k74_t h5
  |exact(k65_t h3).1
  |exact(k65_t h3).2.1
  |exact(k65_t h3).2.2
  |(show (d8 l).length≤100000;omega)
  |(show pN (d8 l)≤100000;unfold pN;omega)
  |exact⟨by rw[List.length_map,pvR_len],trivial⟩
  |exact⟨rfl,.refl _,.refl _⟩
  |assumption
  |omega
end Gp
namespace Gp
def ownN (l:List Int):List Int:=l.take (dN l).toNat
def gd (l:List Int):Prop:=¬l.length<8∧¬(dN l<8∨4312<dN l)∧¬(l.length:Int)<dN l∧(rdF (ownN l)).2=true∧chk (rdF (ownN l)).1=0
theorem gd_ok {l:List Int}(h:gd l):rdOk (ownN l)=true:=by
 cases hk:rdOk (ownN l)with
 |true=>rfl
 |false=>have:=h.2.2.2.1;rw[rdF_no hk]at this;cases this
theorem gd_or (l:List Int):gd l∨(decF l).1=zeroP:=by
 by_cases h1:l.length<8
 ·exact .inr (congrArg (·.1) (dec_1 h1))
 by_cases h2:dN l<8∨4312<dN l
 ·exact .inr (congrArg (·.1) (dec_2 h1 h2))
 by_cases h3:(l.length:Int)<dN l
 ·exact .inr (congrArg (·.1) (dec_3 h1 h2 h3))
 by_cases h4:(rdF (l.take (dN l).toNat)).2=true∧chk (rdF (l.take (dN l).toNat)).1=0
 ·exact .inl ⟨h1,h2,h3,h4⟩
 ·exact .inr (congrArg (·.1) (dec_4 h1 h2 h3 h4))
theorem gd_dec {l:List Int}(h:gd l):decF l=((rdF (ownN l)).1,dN l,0):=dec_5 h.1 h.2.1 h.2.2.1 h.2.2.2
def hint22 (r i:Nat):Bool:=(r==1&&i==2)||(r==4&&(i==1||i==4))||(r==6&&i==3)||(r==9&&(i==1||i==5))
def mE (l:List Int):AVal:=mC (zT (gu8 l) (kR1 l) 0 false (gu16 (d2 l)) (bstr (fText (d8 l)))) (.own 0 ((cE l).map u8).length)
def mQ (l:List Int):AVal:=mP (zP (gu8 l) (kR1 l) 0 (decide (getV (d2 l) 1=1)) 0 (gu32 (d8 l))) (.own 0 (pN (d8 l)))
def T22e (ls:Nat→Abs.Loc)(l:List Int):Tell:=
 (let q0:=List.drop 4 (List.take 8 l);
 Tell.mk (fun x x_1=>false) (fun r i=>if(r==3&&i==1||r==8&&i==2)=true then Orc.slc else if(r==8&&i==3)=true then Orc.callg [] 0 [.imm (slE 1 u8 (ownN l))] [] [Entry.row 5 1 (List.map u8 (cE (ownN l)))] (.tup [mE (ownN l),.imm (bo true)])else if(r==9&&i==4)=true then Orc.calle [encD (rdE (ownN l))] (i64 0)else if hint22 r i=true then Orc.eff (AEff.mk (.imm (bo false)) [])else Orc.no) (fun x=>Tree.fail 1000003 0) (fun x=>0) (fun x=>([],[])) (ogetO (fun r i=>if(r==3&&i==1||r==8&&i==2)=true then Orc.slc else if(r==8&&i==3)=
 true then Orc.callg [] 0 [.imm (slE 1 u8 (ownN l))] [] [Entry.row 5 1 (List.map u8 (cE (ownN l)))] (.tup [mE (ownN l),.imm (bo true)])else if(r==9&&i==4)=true then Orc.calle [encD (rdE (ownN l))] (i64 0)else if hint22 r i=true then Orc.eff (AEff.mk (.imm (bo false)) [])else Orc.no) [(6,3,4,Orc.may (k76 q0 4) [9] 1 [.ptr 0 0,.imm (i64 4)] errE (Orc.callg [9] 1 [.ptr 0 0,.imm (i64 4)] [(92,.agg [.imm (slE 1 u8 (List.drop (Int.toNat 4) q0))])] [] (.imm (u64 (getV q0 4)))))]) fun x x_1=>Tree.fail 1000003 0)
theorem t22e (ls:Nat→Abs.Loc)(l:List Int):levG prog Proofs.Try.f22 ls [] [] [.imm (slE 1 u8 l)] [] [.row 5 1 ((cE (ownN l)).map u8)] (.tup [mE (ownN l),.imm (i64 (dN l)),.imm (i64 0)]) (T22e ls l)=
 (let q0:=zT (gu8 (ownN l)) (kR1 (ownN l)) 0 false (gu16 (d2 (ownN l))) (bstr (fText (d8 (ownN l))));let q1:=getV (List.drop 4 (List.take 8 l)) 4;let q2:=List.map u8 (cE (ownN l));let q3:=List.length (List.map u8 l);let q4:=List.drop 4 (List.take 8 (List.map u8 l));
 Tree.need (some (AEff.mk (.imm (bo (decide ((↑q3:Int)<8)))) [])=some (AEff.mk (.imm (bo false)) [])) (.need ((0:Int)≤(4:Int)∧(4:Int)≤(8:Int)∧8≤(↑q3:Int)) (.br (k76 (List.drop 4 (List.take 8 l)) 4) (.need (ALeL [.ptr 0 0,.imm (i64 4)] [.ptr 0 0,.imm (i64 4)]∧GSpec prog 42 [(92,.agg [.imm (.sl false false 1 q4)])] [] [.ptr 0 0,.imm (i64 4)] [(92,.agg [.imm (slE 1 u8 (List.drop 4 (List.drop 4 (List.take 8 l))))])] [] (.imm (u64 q1))) (.need (some (AEff.mk (.imm (bo (decide (IntKind.wrap IntKind.i64 q1<8)))) [])=some (AEff.mk (.imm (bo false)) [])) (.need (some
 (AEff.mk (.imm (bo (decide (4312<IntKind.wrap IntKind.i64 q1)))) [])=some (AEff.mk (.imm (bo false)) [])) (.need (some (AEff.mk (.imm (bo (decide ((↑q3:Int)<IntKind.wrap IntKind.i64 q1)))) [])=some (AEff.mk (.imm (bo false)) [])) (.need ((0:Int)≤(0:Int)∧0≤IntKind.wrap IntKind.i64 q1∧IntKind.wrap IntKind.i64 q1≤(↑q3:Int)) (.need (ALeL [.imm (.sl false false 1 (List.drop 0 (List.take (Int.toNat (IntKind.wrap IntKind.i64 q1)) (List.map u8 l))))] [.imm (slE 1 u8 (ownN l))]∧GSpec prog 35 [] [] [.imm (slE 1 u8 (ownN l))] [] [Entry.row 5 1 q2] (.tup [mE (ownN l),.imm (bo
 true)])) (.need (some (AEff.mk (.imm (bo false)) [])=some (AEff.mk (.imm (bo false)) [])) (.need (eqs [(List.length q2,List.length q2)]∧ILeL [.agg [u8 q0.version,u8 q0.kind,u16 q0.session,u32 q0.serial,bo q0.add,u32 q0.origin.asn,u8 q0.origin.pfx.fam,u64 q0.origin.pfx.addr.hi,u64 q0.origin.pfx.addr.lo,i64 q0.origin.pfx.len,i64 q0.origin.max,u32 q0.path.cust,nS,u32 q0.key.asn,u8 0,u8 0,u8 0,u8 0,u8 0,u8 0,u8 0,u8 0,u8 0,u8 0,u8 0,u8 0,u8 0,u8 0,u8 0,u8 0,i64 q0.key.height,u32 q0.refresh,u32 q0.retry,u32 q0.expire,u16 q0.code,.sl false false 1 q2,st q0.text]] [encD (rdE (ownN l))]∧ASpec
 prog 14 [encD (rdE (ownN l))] (i64 0)∧true=true) (.need (some (AEff.mk (.imm (bo false)) [])=some (AEff.mk (.imm (bo false)) [])) (.need (([]:List (Abs.Loc×Nat×AVal))=[]∧ELeL [Entry.row 5 1 q2] [Entry.row 5 1 q2]∧ALe (.tup [.agg [.imm (u8 q0.version),.imm (u8 q0.kind),.imm (u16 q0.session),.imm (u32 q0.serial),.imm (bo q0.add),.imm (u32 q0.origin.asn),.imm (u8 q0.origin.pfx.fam),.imm (u64 q0.origin.pfx.addr.hi),.imm (u64 q0.origin.pfx.addr.lo),.imm (i64 q0.origin.pfx.len),.imm (i64 q0.origin.max),.imm (u32 q0.path.cust),.imm nS,.imm (u32 q0.key.asn),.imm (u8 0),.imm (u8
 0),.imm (u8 0),.imm (u8 0),.imm (u8 0),.imm (u8 0),.imm (u8 0),.imm (u8 0),.imm (u8 0),.imm (u8 0),.imm (u8 0),.imm (u8 0),.imm (u8 0),.imm (u8 0),.imm (u8 0),.imm (u8 0),.imm (i64 q0.key.height),.imm (u32 q0.refresh),.imm (u32 q0.retry),.imm (u32 q0.expire),.imm (u16 q0.code),.own 0 (List.length q2),.imm (st q0.text)],.imm (i64 (IntKind.wrap IntKind.i64 q1)),.imm (i64 0)]) (.tup [mE (ownN l),.imm (i64 (dN l)),.imm (i64 0)])) (.done Exit.ret lnil))))))))))) (.need (ALeL [.ptr 0 0,.imm (i64 4)] [.ptr 0 0,.imm (i64 4)]∧PSpec prog 42 [(92,.agg [.imm (.sl false false 1 q4)])] [] [.ptr 0 0,.imm
 (i64 4)] errE) (.fail 1000006 1))))):=by kernel_rfl
def T22p (ls:Nat→Abs.Loc)(l:List Int):Tell:=
 (let q0:=List.drop 4 (List.take 8 l);
 Tell.mk (fun x x_1=>false) (fun r i=>if(r==3&&i==1||r==8&&i==2)=true then Orc.slc else if(r==8&&i==3)=true then Orc.callg [] 0 [.imm (slE 1 u8 (ownN l))] [] [Entry.row 23 1 (List.map u32 (cP (ownN l)))] (.tup [mQ (ownN l),.imm (bo true)])else if(r==9&&i==4)=true then Orc.calle [encD (rdP (ownN l))] (i64 0)else if hint22 r i=true then Orc.eff (AEff.mk (.imm (bo false)) [])else Orc.no) (fun x=>Tree.fail 1000003 0) (fun x=>0) (fun x=>([],[])) (ogetO (fun r i=>if(r==3&&i==1||r==8&&i==2)=true then Orc.slc else if(r==8&&i==3)
 =true then Orc.callg [] 0 [.imm (slE 1 u8 (ownN l))] [] [Entry.row 23 1 (List.map u32 (cP (ownN l)))] (.tup [mQ (ownN l),.imm (bo true)])else if(r==9&&i==4)=true then Orc.calle [encD (rdP (ownN l))] (i64 0)else if hint22 r i=true then Orc.eff (AEff.mk (.imm (bo false)) [])else Orc.no) [(6,3,4,Orc.may (k76 q0 4) [9] 1 [.ptr 0 0,.imm (i64 4)] errE (Orc.callg [9] 1 [.ptr 0 0,.imm (i64 4)] [(92,.agg [.imm (slE 1 u8 (List.drop (Int.toNat 4) q0))])] [] (.imm (u64 (getV q0 4)))))]) fun x x_1=>Tree.fail 1000003 0)
theorem t22p (ls:Nat→Abs.Loc)(l:List Int):levG prog Proofs.Try.f22 ls [] [] [.imm (slE 1 u8 l)] [] [.row 23 1 ((cP (ownN l)).map u32)] (.tup [mQ (ownN l),.imm (i64 (dN l)),.imm (i64 0)]) (T22p ls l)=
 (let q0:=decide (getV (d2 (ownN l)) (1:Int)=(1:Int));let q1:=zP (gu8 (ownN l)) (kR1 (ownN l)) 0 q0 0 (gu32 (d8 (ownN l)));let q2:=getV (List.drop 4 (List.take 8 l)) 4;let q3:=List.map u32 (cP (ownN l));let q4:=List.length (List.map u8 l);let q5:=List.drop 4 (List.take 8 (List.map u8 l));
 Tree.need (some (AEff.mk (.imm (bo (decide ((↑q4:Int)<8)))) [])=some (AEff.mk (.imm (bo false)) [])) (.need ((0:Int)≤(4:Int)∧(4:Int)≤(8:Int)∧8≤(↑q4:Int)) (.br (k76 (List.drop 4 (List.take 8 l)) 4) (.need (ALeL [.ptr 0 0,.imm (i64 4)] [.ptr 0 0,.imm (i64 4)]∧GSpec prog 42 [(92,.agg [.imm (.sl false false 1 q5)])] [] [.ptr 0 0,.imm (i64 4)] [(92,.agg [.imm (slE 1 u8 (List.drop 4 (List.drop 4 (List.take 8 l))))])] [] (.imm (u64 q2))) (.need (some (AEff.mk (.imm (bo (decide (IntKind.wrap IntKind.i64 q2<8)))) [])=some (AEff.mk (.imm (bo false)) [])) (.need (some
 (AEff.mk (.imm (bo (decide (4312<IntKind.wrap IntKind.i64 q2)))) [])=some (AEff.mk (.imm (bo false)) [])) (.need (some (AEff.mk (.imm (bo (decide ((↑q4:Int)<IntKind.wrap IntKind.i64 q2)))) [])=some (AEff.mk (.imm (bo false)) [])) (.need ((0:Int)≤(0:Int)∧0≤IntKind.wrap IntKind.i64 q2∧IntKind.wrap IntKind.i64 q2≤(↑q4:Int)) (.need (ALeL [.imm (.sl false false 1 (List.drop 0 (List.take (Int.toNat (IntKind.wrap IntKind.i64 q2)) (List.map u8 l))))] [.imm (slE 1 u8 (ownN l))]∧GSpec prog 35 [] [] [.imm (slE 1 u8 (ownN l))] [] [Entry.row 23 1 q3] (.tup [mQ (ownN l),.imm (bo
 true)])) (.need (some (AEff.mk (.imm (bo false)) [])=some (AEff.mk (.imm (bo false)) [])) (.need (eqs [(List.length q3,pN (d8 (ownN l)))]∧ILeL [.agg [u8 q1.version,u8 q1.kind,u16 q1.session,u32 q1.serial,bo q1.add,u32 q1.origin.asn,u8 q1.origin.pfx.fam,u64 q1.origin.pfx.addr.hi,u64 q1.origin.pfx.addr.lo,i64 q1.origin.pfx.len,i64 q1.origin.max,u32 q1.path.cust,.sl false false 1 q3,u32 q1.key.asn,u8 0,u8 0,u8 0,u8 0,u8 0,u8 0,u8 0,u8 0,u8 0,u8 0,u8 0,u8 0,u8 0,u8 0,u8 0,u8 0,i64 q1.key.height,u32 q1.refresh,u32 q1.retry,u32 q1.expire,u16 q1.code,nS,st q1.text]] [encD (rdP (ownN l))]∧ASpec
 prog 14 [encD (rdP (ownN l))] (i64 0)∧true=true) (.need (some (AEff.mk (.imm (bo false)) [])=some (AEff.mk (.imm (bo false)) [])) (.need (([]:List (Abs.Loc×Nat×AVal))=[]∧ELeL [Entry.row 23 1 q3] [Entry.row 23 1 q3]∧ALe (.tup [.agg [.imm (u8 q1.version),.imm (u8 q1.kind),.imm (u16 q1.session),.imm (u32 q1.serial),.imm (bo q1.add),.imm (u32 q1.origin.asn),.imm (u8 q1.origin.pfx.fam),.imm (u64 q1.origin.pfx.addr.hi),.imm (u64 q1.origin.pfx.addr.lo),.imm (i64 q1.origin.pfx.len),.imm (i64 q1.origin.max),.imm (u32 q1.path.cust),.own 0 (pN (d8 (ownN l))),.imm (u32 q1.key.asn),.imm
 (u8 0),.imm (u8 0),.imm (u8 0),.imm (u8 0),.imm (u8 0),.imm (u8 0),.imm (u8 0),.imm (u8 0),.imm (u8 0),.imm (u8 0),.imm (u8 0),.imm (u8 0),.imm (u8 0),.imm (u8 0),.imm (u8 0),.imm (u8 0),.imm (i64 q1.key.height),.imm (u32 q1.refresh),.imm (u32 q1.retry),.imm (u32 q1.expire),.imm (u16 q1.code),.imm nS,.imm (st q1.text)],.imm (i64 (IntKind.wrap IntKind.i64 q2)),.imm (i64 0)]) (.tup [mQ (ownN l),.imm (i64 (dN l)),.imm (i64 0)])) (.done Exit.ret lnil))))))))))) (.need (ALeL [.ptr 0 0,.imm (i64 4)] [.ptr 0 0,.imm (i64 4)]∧PSpec prog 42 [(92,.agg [.imm (.sl false false 1 q5)])] [] [.ptr 0 0,.imm
 (i64 4)] errE) (.fail 1000006 1))))):=by kernel_rfl
theorem eff_b {b c:Bool}(h:b=c):(some ⟨.imm (.v (.bool b)),[]⟩:Option AEff)=some ⟨.imm (.v (.bool c)),[]⟩:=by rw[h]
theorem gd_e {l:List Int}(h:gd l)(hk:kR1 (ownN l)=10):GSpec prog 35 [] [] [.imm (slE 1 u8 (ownN l))] [] [.row 5 1 ((cE (ownN l)).map u8)] (.tup [mE (ownN l),.imm (bo true)]):=by
 have hok:=gd_ok h
 have h4:=h.2.2.2.1
 rw[rdF_yes hok]at h4
 have h5:decide (((fRest (d8 (ownN l))).length:Int)=0)=true:=by
  have:rdR (ownN l)=true:=h4
  unfold rdR at this
  rwa[if_neg (by omega),if_pos hk]at this
 have hl:(ownN l).length≤100000:=by
  have:=h.2.1;unfold ownN;rw[List.length_take];omega
 have:=g35e (ownN l) hl hk hok
 unfold rE at this
 rwa[h5]at this
theorem gd_p {l:List Int}(h:gd l)(hk:kR1 (ownN l)=11):GSpec prog 35 [] [] [.imm (slE 1 u8 (ownN l))] [] [.row 23 1 ((cP (ownN l)).map u32)] (.tup [mQ (ownN l),.imm (bo true)]):=by
 have hl:(ownN l).length≤100000:=by
  have:=h.2.1;unfold ownN;rw[List.length_take];omega
 exact g35p (ownN l) hl hk (gd_ok h)
theorem gd_v10 {l:List Int}(h:gd l)(hk:kR1 (ownN l)=10):(rdF (ownN l)).1=rdE (ownN l):=by
 rw[rdF_yes (gd_ok h)];show rdV _=_;unfold rdV;rw[if_neg (by omega),if_pos hk]
theorem gd_v11 {l:List Int}(h:gd l)(hk:kR1 (ownN l)=11):(rdF (ownN l)).1=rdP (ownN l):=by
 rw[rdF_yes (gd_ok h)];show rdV _=_;unfold rdV;rw[if_neg (by omega),if_neg (by omega),if_pos hk]
theorem gd_len {l:List Int}(h:gd l):decide (((l.map u8).length:Int)<8)=false:=decide_eq_false (by rw[List.length_map];have:=h.1;omega)
theorem gd_4 {l:List Int}(h:gd l)(hl:l.length≤1000000)(h1:k76 ((l.take 8).drop 4) 4=true):GSpec prog 42 [(92,.agg [.imm (.sl false false 1 (((l.map u8).take 8).drop 4))])] [] [.ptr 0 0,.imm (i64 4)] [(92,.agg [.imm (slE 1 u8 (((l.take 8).drop 4).drop 4))])] [] (.imm (u64 (getV ((l.take 8).drop 4) 4))):=by
 have g:=g42 ((l.take 8).drop 4) 4 (by omega) (k76_t h1).2 (by omega)
 simp only[slE,List.map_drop,List.map_take]at g⊢
 exact g
theorem gd_sl {l:List Int}:ILe (.sl false false 1 ((((l.map u8).take (dN l).toNat)).drop 0)) (slE 1 u8 (ownN l)):=ile_eq (by rw[slE,ownN,List.map_take,List.drop_zero])
theorem gd_no {l:List Int}(h:gd l){q:Prop}(h1:k76 ((l.take 8).drop 4) 4=false):q:=by
 exfalso
 have h2:=k76_f h1
 have:=h.1
 rw[List.length_drop,List.length_take]at h2
 omega
theorem gd_3 {l:List Int}(h:gd l):¬dN l<8∧¬4312<dN l∧¬((l.map u8).length:Int)<dN l:=by
 have:=h.2.1;have:=h.2.2.1
 rw[List.length_map];omega
theorem g22e (l:List Int)(hb:byteL l)(hl:l.length≤1000000)(h:gd l)(hk:kR1 (ownN l)=10):GSpec prog 22 [] [] [.imm (slE 1 u8 l)] [] [.row 5 1 ((cE (ownN l)).map u8)] (.tup [mE (ownN l),.imm (i64 (dN l)),.imm (i64 0)]):=by
 refine GSpec.tree Proofs.Try.f22 (fun ls=>T22e ls l) (by kernel_rfl) (by kernel_rfl) rfl fun ls=>?_
 show (levG prog Proofs.Try.f22 ls [] [] _ [] _ _ (T22e ls l)).sat _ _
 rw[t22e]
 obtain⟨a1,a2,a3⟩:=gd_3 h
 have hc:=c14 (rdE (ownN l)) (by rw[←gd_v10 h hk];exact wfB_rdF _ (byteL_sub hb fun x hx=>List.mem_of_mem_take hx))
 rw[←gd_v10 h hk,h.2.2.2.2,gd_v10 h hk]at hc
 refine need_sat (eff_b (gd_len h)) (need_sat ⟨by omega,by omega,by have:=h.1;rw[List.length_map];omega⟩ ⟨fun h1=>need_sat ⟨ALeL.refl _,gd_4 h hl h1⟩ (need_sat (eff_b (decide_eq_false a1)) (need_sat (eff_b (decide_eq_false a2)) (need_sat (eff_b (decide_eq_false a3)) (need_sat ⟨by omega,by show 0≤dN l;omega,by show dN l≤_;omega⟩ (need_sat ⟨⟨.imm gd_sl,trivial⟩,gd_e h hk⟩ (need_sat rfl (need_sat ⟨⟨rfl,trivial⟩,ILeL.cons (ile_pdu (rdE (ownN l)) _ _ (.nil _ _ _) (.refl _)) (.refl _),hc,rfl⟩ (need_sat rfl (need_sat ⟨rfl,.refl _,.refl _⟩ trivial))))))))),fun h1=>gd_no h h1⟩)
theorem g22p (l:List Int)(hb:byteL l)(hl:l.length≤1000000)(h:gd l)(hk:kR1 (ownN l)=11):GSpec prog 22 [] [] [.imm (slE 1 u8 l)] [] [.row 23 1 ((cP (ownN l)).map u32)] (.tup [mQ (ownN l),.imm (i64 (dN l)),.imm (i64 0)]):=by
 refine GSpec.tree Proofs.Try.f22 (fun ls=>T22p ls l) (by kernel_rfl) (by kernel_rfl) rfl fun ls=>?_
 show (levG prog Proofs.Try.f22 ls [] [] _ [] _ _ (T22p ls l)).sat _ _
 rw[t22p]
 obtain⟨a1,a2,a3⟩:=gd_3 h
 have hc:=c14 (rdP (ownN l)) (by rw[←gd_v11 h hk];exact wfB_rdF _ (byteL_sub hb fun x hx=>List.mem_of_mem_take hx))
 rw[←gd_v11 h hk,h.2.2.2.2,gd_v11 h hk]at hc
 refine need_sat (eff_b (gd_len h)) (need_sat ⟨by omega,by omega,by have:=h.1;rw[List.length_map];omega⟩ ⟨fun h1=>need_sat ⟨ALeL.refl _,gd_4 h hl h1⟩ (need_sat (eff_b (decide_eq_false a1)) (need_sat (eff_b (decide_eq_false a2)) (need_sat (eff_b (decide_eq_false a3)) (need_sat ⟨by omega,by show 0≤dN l;omega,by show dN l≤_;omega⟩ (need_sat ⟨⟨.imm gd_sl,trivial⟩,gd_p h hk⟩ (need_sat rfl (need_sat ⟨⟨by rw[List.length_map];exact pvR_len _ _,trivial⟩,ILeL.cons (ile_pdu (rdP (ownN l)) _ _ (.refl _) (.nil _ _ _)) (.refl _),hc,rfl⟩ (need_sat rfl (need_sat ⟨rfl,.refl _,.refl _⟩ trivial))))))))),fun h1=>gd_no h h1⟩)
end Gp
namespace Gp
def nA :AVal:=.imm (.v (.slice none 0 0))
def I18c (p:Pdu)(m:Nat)(cs:List Int)(i:Nat):LState:={t:=[(2,.imm (i64 i)),(1,.ptr 1 0)],s:=[(0,.row 5 1 (cs.map u8)),(1,.box 42 (mTw p nA (.own 0 m)))],m:=34,n:=3}
def E18c (p:Pdu)(m:Nat):LState:={t:=[(1,.ptr 1 0)],s:=[(1,.box 42 (mTw p nA (.own 0 m)))],m:=34,n:=3}
def I18d (p:Pdu)(n:Nat)(ps:List Int)(i:Nat):LState:={t:=[(3,.imm (i64 i)),(1,.ptr 1 0)],s:=[(0,.row 23 1 (ps.map u32)),(1,.box 42 (mTw p (.own 0 n) nA))],m:=34,n:=9}
def E18d :LState:={t:=[],s:=[],m:=34,n:=9}
def fin18c :Exit→Fin
 |.normal=>⟨[],[2,1],[0,1]⟩
 |_=>⟨[],[1],[1]⟩
def fin18d :Exit→Fin
 |.normal=>⟨[],[3,1],[0,1]⟩
 |_=>⟨[],[],[]⟩
def T18c (p:Pdu)(n:Nat)(cs:List Int)(i:Nat):Tell:=
 Tell.mk (fun x x_1=>false) (fun x x_1=>Orc.no) (fun x=>Tree.fail 1000003 0) (fun x=>0) (fun x=>([],[])) (oget [(8,4,4,Orc.elem (u8 (List.getD cs i default))),(8,4,7,Orc.elem (.tup []))]) fun x x_1=>Tree.fail 1000003 0
theorem t18c (p:Pdu)(n:Nat)(cs:List Int)(i:Nat):levL prog Proofs.Try.f18 2 (I18c p n cs i) (T18c p n cs i) fin18c=
 Tree.br (decide ((↑i:Int)<(↑n:Int))) (.need (0≤(↑i:Int)∧i<n) (.need ((List.map u8 cs)[i]?=some (u8 (List.getD cs i 0))) (.need (0≤(↑i:Int)∧i<n) (.need (i<List.length (List.map u8 cs)) (.done Exit.normal (LState.mk [(2,.imm (i64 (IntKind.wrap IntKind.i64 ((↑i:Int)+1)))),(1,.ptr 1 0)] [(0,Entry.row 5 1 (List.set (List.map u8 cs) i (u8 (IntKind.wrap IntKind.u8 (List.getD cs i (0:Int)+(1:Int)))))),(1,Entry.box 42 (mTw p nA (.own 0 n)))] 34 19 [])))))) (.done (Exit.exit 0) (LState.mk [(1,.ptr 1 0)] [(1,Entry.box 42 (mTw p nA (.own 0 n)))] 34 8 [])):=by kernel_rfl
theorem l18c (p:Pdu)(cs:List Int)(hl:cs.length≤1000000)(σ:LState)(h:LSub σ (I18c p cs.length cs 0)):LoopOk prog [] (bodyOf Proofs.Try.f18) 2 σ (.done (.exit 0) (E18c p cs.length)):=by
 refine LoopOk.of_levL (γ:={g:List Int×Nat//g.1.length=cs.length∧g.2≤cs.length}) (fun g=>T18c p cs.length g.1.1 g.1.2) fin18c (fun g=>I18c p cs.length g.1.1 g.1.2) (fun g=>cs.length-g.1.2) ⟨(cs,0),rfl,Nat.zero_le _⟩ (by kernel_rfl) h ?_
 rintro⟨⟨c,i⟩,h1,h2⟩
 simp only at h1 h2
 show (levL prog Proofs.Try.f18 2 (I18c p cs.length c i) (T18c p cs.length c i) fin18c).sat _ _
 rw[t18c]
 refine⟨fun h3=>?_,fun h3=>?_⟩
 ·have h3':i<cs.length:=Int.ofNat_lt.1 (of_decide_eq_true h3)
  have hi:i<c.length:=by omega
  refine need_sat ⟨by omega,h3'⟩ (need_sat ?_ (need_sat ⟨by omega,h3'⟩ (need_sat (by rw[List.length_map];exact hi) ?_)))
  ·simp[List.getD_eq_getElem?_getD,List.getElem?_eq_getElem hi]
  ·refine⟨⟨(c.set i (IntKind.u8.wrap (c.getD i 0+1)),i+1),by rw[List.length_set];exact h1,h3'⟩,by show cs.length-(i+1)<cs.length-i;omega,⟨?_,rfl,trivial⟩,⟨?_,rfl,trivial⟩,rfl,rfl,rfl⟩
   ·refine congrArg (fun n=>AVal.imm (i64 n)) ?_
    show IntKind.i64.wrap ((i:Int)+1)=((i+1:Nat):Int)
    rw[IntWalk.i64_in _ (by omega)];omega
   ·refine congrArg (fun l=>some (Entry.row 5 1 l)) ?_
    rw[List.map_set]<;>rfl
 ·exact⟨rfl,⟨rfl,trivial⟩,⟨rfl,trivial⟩,rfl,rfl,rfl⟩
def T18d (p:Pdu)(n:Nat)(cs:List Int)(i:Nat):Tell:=
 Tell.mk (fun x x_1=>false) (fun x x_1=>Orc.no) (fun x=>Tree.fail 1000003 0) (fun x=>0) (fun x=>([],[])) (oget [(15,8,5,Orc.elem (u32 (List.getD cs i default))),(15,8,8,Orc.elem (.tup []))]) fun x x_1=>Tree.fail 1000003 0
theorem t18d (p:Pdu)(n:Nat)(cs:List Int)(i:Nat):levL prog Proofs.Try.f18 6 (I18d p n cs i) (T18d p n cs i) fin18d=
 Tree.br (decide ((↑i:Int)<(↑n:Int))) (.need (0≤(↑i:Int)∧i<n) (.need ((List.map u32 cs)[i]?=some (u32 (List.getD cs i 0))) (.need (0≤(↑i:Int)∧i<n) (.need (i<List.length (List.map u32 cs)) (.done Exit.normal (LState.mk [(3,.imm (i64 (IntKind.wrap IntKind.i64 ((↑i:Int)+1)))),(1,.ptr 1 0)] [(0,Entry.row 23 1 (List.set (List.map u32 cs) i (u32 (IntKind.wrap IntKind.u32 (List.getD cs i (0:Int)+(1:Int)))))),(1,Entry.box 42 (mTw p (.own 0 n) nA))] 34 27 [])))))) (.done (Exit.exit 2) (LState.mk [] [] 34 15 [])):=by kernel_rfl
theorem l18d (p:Pdu)(cs:List Int)(hl:cs.length≤1000000)(σ:LState)(h:LSub σ (I18d p cs.length cs 0)):LoopOk prog [] (bodyOf Proofs.Try.f18) 6 σ (.done (.exit 2) E18d):=by
 refine LoopOk.of_levL (γ:={g:List Int×Nat//g.1.length=cs.length∧g.2≤cs.length}) (fun g=>T18d p cs.length g.1.1 g.1.2) fin18d (fun g=>I18d p cs.length g.1.1 g.1.2) (fun g=>cs.length-g.1.2) ⟨(cs,0),rfl,Nat.zero_le _⟩ (by kernel_rfl) h ?_
 rintro⟨⟨c,i⟩,h1,h2⟩
 simp only at h1 h2
 show (levL prog Proofs.Try.f18 6 (I18d p cs.length c i) (T18d p cs.length c i) fin18d).sat _ _
 rw[t18d]
 refine⟨fun h3=>?_,fun h3=>?_⟩
 ·have h3':i<cs.length:=Int.ofNat_lt.1 (of_decide_eq_true h3)
  have hi:i<c.length:=by omega
  refine need_sat ⟨by omega,h3'⟩ (need_sat ?_ (need_sat ⟨by omega,h3'⟩ (need_sat (by rw[List.length_map];exact hi) ?_)))
  ·simp[List.getD_eq_getElem?_getD,List.getElem?_eq_getElem hi]
  ·refine⟨⟨(c.set i (IntKind.u32.wrap (c.getD i 0+1)),i+1),by rw[List.length_set];exact h1,h3'⟩,by show cs.length-(i+1)<cs.length-i;omega,⟨?_,rfl,trivial⟩,⟨?_,rfl,trivial⟩,rfl,rfl,rfl⟩
   ·refine congrArg (fun n=>AVal.imm (i64 n)) ?_
    show IntKind.i64.wrap ((i:Int)+1)=((i+1:Nat):Int)
    rw[IntWalk.i64_in _ (by omega)];omega
   ·refine congrArg (fun l=>some (Entry.row 23 1 l)) ?_
    rw[List.map_set]<;>rfl
 ·exact⟨rfl,trivial,trivial,rfl,rfl,rfl⟩
def T18x (ls:Nat→Abs.Loc)(p:Pdu)(m:Nat)(cs:List Int):Tell:=
 Tell.mk (fun x x_1=>false) (fun r i=>if(r==6&&i==5)=true then Orc.eff (AEff.mk (.imm (bo false)) [])else Orc.no) (fun x=>Tree.done (Exit.exit 0) (E18c p m)) (fun k=>if(k==6)=true then 1 else 0) (fun x=>([2,1],[0,1])) (ogetO (fun r i=>if(r==6&&i==5)=true then Orc.eff (AEff.mk (.imm (bo false)) [])else Orc.no) []) fun x x_1=>Tree.done (Exit.exit 0) (E18c p m)
theorem t18x (ls:Nat→Abs.Loc)(p:Pdu)(m:Nat)(cs:List Int):levG prog Proofs.Try.f18 ls [] [(5,1,cs.map u8)] [mTw p nA (.own 0 m)] [] [] (.tup []) (T18x ls p m cs)=
 Tree.loop 2 (LState.mk [(2,.imm (i64 0)),(1,.ptr 1 0)] [(0,Entry.row 5 1 (List.map u8 cs)),(1,Entry.box 42 (.agg [.imm (u8 p.version),.imm (u8 p.kind),.imm (u16 p.session),.imm (u32 p.serial),.imm (bo p.add),.imm (u32 p.origin.asn),.imm (u8 p.origin.pfx.fam),.imm (u64 p.origin.pfx.addr.hi),.imm (u64 p.origin.pfx.addr.lo),.imm (i64 p.origin.pfx.len),.imm (i64 p.origin.max),.imm (u32 p.path.cust),nA,.imm (u32 p.key.asn),.imm (u8 p.key.root[0]),.imm (u8 p.key.root[1]),.imm (u8 p.key.root[2]),.imm (u8 p.key.root[3]),.imm (u8 p.key.root[4]),.imm (u8 p.key.root[5]),.imm (u8 p.key.root[6]),.imm (u8
 p.key.root[7]),.imm (u8 p.key.root[8]),.imm (u8 p.key.root[9]),.imm (u8 p.key.root[10]),.imm (u8 p.key.root[11]),.imm (u8 p.key.root[12]),.imm (u8 p.key.root[13]),.imm (u8 p.key.root[14]),.imm (u8 p.key.root[15]),.imm (i64 p.key.height),.imm (u32 p.refresh),.imm (u32 p.retry),.imm (u32 p.expire),.imm (u16 p.code),.own 0 m,.imm (st p.text)]))] 34 3 []) (.done (Exit.exit 0) (E18c p m)) (.need (some (AEff.mk (.imm (bo false)) [])=some (AEff.mk (.imm (bo false)) [])) (.need (([]:List (Abs.Loc×Nat×AVal))=[]∧ELeL [] []∧ALe (.tup []) (.tup [])) (.done Exit.ret lnil))):=by kernel_rfl
def T18y (ls:Nat→Abs.Loc)(p:Pdu)(n:Nat)(ps:List Int):Tell:=
 Tell.mk (fun x x_1=>false) (fun r i=>if(r==2&&i==4)=true then Orc.eff (AEff.mk (.imm (bo false)) [])else Orc.no) (fun x=>Tree.done (Exit.exit 2) E18d) (fun k=>if(k==2)=true then 1 else 0) (fun x=>([3,1],[0,1])) (ogetO (fun r i=>if(r==2&&i==4)=true then Orc.eff (AEff.mk (.imm (bo false)) [])else Orc.no) []) fun x x_1=>Tree.done (Exit.exit 2) E18d
theorem t18y (ls:Nat→Abs.Loc)(p:Pdu)(n:Nat)(ps:List Int):levG prog Proofs.Try.f18 ls [] [(23,1,ps.map u32)] [mTw p (.own 0 n) nA] [] [] (.tup []) (T18y ls p n ps)=
 Tree.need (some (AEff.mk (.imm (bo false)) [])=some (AEff.mk (.imm (bo false)) [])) (.loop 6 (LState.mk [(3,.imm (i64 0)),(1,.ptr 1 0)] [(0,Entry.row 23 1 (List.map u32 ps)),(1,Entry.box 42 (.agg [.imm (u8 p.version),.imm (u8 p.kind),.imm (u16 p.session),.imm (u32 p.serial),.imm (bo p.add),.imm (u32 p.origin.asn),.imm (u8 p.origin.pfx.fam),.imm (u64 p.origin.pfx.addr.hi),.imm (u64 p.origin.pfx.addr.lo),.imm (i64 p.origin.pfx.len),.imm (i64 p.origin.max),.imm (u32 p.path.cust),.own 0 n,.imm (u32 p.key.asn),.imm (u8 p.key.root[0]),.imm (u8 p.key.root[1]),.imm (u8 p.key.root[2]),.imm (u8
 p.key.root[3]),.imm (u8 p.key.root[4]),.imm (u8 p.key.root[5]),.imm (u8 p.key.root[6]),.imm (u8 p.key.root[7]),.imm (u8 p.key.root[8]),.imm (u8 p.key.root[9]),.imm (u8 p.key.root[10]),.imm (u8 p.key.root[11]),.imm (u8 p.key.root[12]),.imm (u8 p.key.root[13]),.imm (u8 p.key.root[14]),.imm (u8 p.key.root[15]),.imm (i64 p.key.height),.imm (u32 p.refresh),.imm (u32 p.retry),.imm (u32 p.expire),.imm (u16 p.code),nA,.imm (st p.text)]))] 34 9 []) (.done (Exit.exit 2) E18d) (.need (([]:List (Abs.Loc×Nat×AVal))=[]∧ELeL [] []∧ALe (.tup []) (.tup [])) (.done Exit.ret lnil))):=by kernel_rfl
def T18z (p:Pdu):Tell:=
 Tell.mk (fun x x_1=>false) (fun r i=>if(r==2&&i==4||r==6&&i==5)=true then Orc.eff (AEff.mk (.imm (bo false)) [])else Orc.no) (fun x=>Tree.fail 1000003 0) (fun x=>1) (fun x=>([],[])) (ogetO (fun r i=>if(r==2&&i==4||r==6&&i==5)=true then Orc.eff (AEff.mk (.imm (bo false)) [])else Orc.no) []) fun x x_1=>Tree.fail 1000003 0
theorem t18z (p:Pdu):levF prog Proofs.Try.f18 [encD p] (T18z p)=
 Tree.need (some (AEff.mk (.imm (bo (decide (0<(↑(List.length (List.map u8 p.copy)):Int))))) [])=some (AEff.mk (.imm (bo false)) [])) (.need (some (AEff.mk (.imm (bo (decide (0<(↑(List.length (List.map u32 p.path.provs)):Int))))) [])=some (AEff.mk (.imm (bo false)) [])) (.done Exit.ret (lret (.tup [])))):=by kernel_rfl
theorem g18x (p:Pdu)(m:Nat)(cs:List Int)(hm:m=cs.length)(h2:cs.length≤1000000):GSpec prog 18 [] [(5,1,cs.map u8)] [mTw p nA (.own 0 m)] [] [] (.tup []):=by
 subst hm
 refine GSpec.tree Proofs.Try.f18 (fun ls=>T18x ls p cs.length cs) (by kernel_rfl) (by kernel_rfl) rfl fun ls=>?_
 rw[t18x]
 exact⟨l18c p cs h2 _ ⟨⟨rfl,rfl,trivial⟩,⟨rfl,rfl,trivial⟩,rfl,rfl,rfl⟩,need_sat rfl (need_sat ⟨rfl,.refl _,.refl _⟩ trivial)⟩
theorem g18y (p:Pdu)(n:Nat)(ps:List Int)(hm:n=ps.length)(h2:ps.length≤1000000):GSpec prog 18 [] [(23,1,ps.map u32)] [mTw p (.own 0 n) nA] [] [] (.tup []):=by
 subst hm
 refine GSpec.tree Proofs.Try.f18 (fun ls=>T18y ls p ps.length ps) (by kernel_rfl) (by kernel_rfl) rfl fun ls=>?_
 rw[t18y]
 exact need_sat rfl ⟨l18d p ps h2 _ ⟨⟨rfl,rfl,trivial⟩,⟨rfl,rfl,trivial⟩,rfl,rfl,rfl⟩,need_sat ⟨rfl,.refl _,.refl _⟩ trivial⟩
theorem c18 (p:Pdu)(h1:p.copy=[])(h2:p.path.provs=[]):ASpec prog 18 [encD p] (.tup []):=by
 refine ASpec.treeW Proofs.Try.f18 (T18z p) (by kernel_rfl) (by kernel_rfl) (t18z p) ?_
 exact need_sat (eff_b (by rw[h1];rfl)) (need_sat (eff_b (by rw[h2];rfl)) ⟨_,rfl,.refl _⟩)
end Gp
namespace Gp
structure K5 where
 x:Orc
 f:Orc
 s:Orc
 a:Orc
 c:Orc
def I5 (N:Nat)(p:Pdu)(b:List Int)(m:Nat)(cs:List Int)(i:Nat):LState:={t:=[(18,.imm (i64 i)),(17,.imm (bo true)),(7,.own 18 m),(6,.imm (.sl true false 1 ([]++b.map u8))),(5,.ptr 14 0),(2,.ptr 0 0),(1,.imm (slE 1 u8 b))],s:=[(0,.box 42 (.imm (encD p))),(14,.box 42 (.imm (encD p))),(18,.row 5 1 (cs.map u8))],m:=101,n:=N}
def E5 (N:Nat)(p:Pdu)(b:List Int):LState:={t:=[(17,.imm (bo true)),(6,.imm (.sl true false 1 ([]++b.map u8))),(5,.ptr 14 0),(2,.ptr 0 0),(1,.imm (slE 1 u8 b))],s:=[(0,.box 42 (.imm (encD p))),(14,.box 42 (.imm (encD p)))],m:=101,n:=N}
def fin5x :Exit→Fin
 |.normal=>⟨[],[18,17,7,6,5,2,1],[0,14,18]⟩
 |_=>⟨[],[17,6,5,2,1],[0,14]⟩
def xO (p:Pdu):Orc:=.callg [] 0 [.imm (encD p)] [] [.row 5 1 ((encB p).map u8)] (.tup [.own 0 ((encB p).map u8).length,.imm (i64 0)])
def xZ (p:Pdu):Orc:=.call [encD p] (.tup [slE 1 u8 [],i64 (chk p)])
def fE (b:List Int):Orc:=.callg [] 0 [.imm (slE 1 u8 b)] [] [.row 5 1 ((cE (ownN b)).map u8)] (.tup [mE (ownN b),.imm (i64 (dN b)),.imm (i64 0)])
def fP (b:List Int):Orc:=.callg [] 0 [.imm (slE 1 u8 b)] [] [.row 23 1 ((cP (ownN b)).map u32)] (.tup [mQ (ownN b),.imm (i64 (dN b)),.imm (i64 0)])
def fZ (b:List Int):Orc:=.call [slE 1 u8 b] (decT (decF b))
def zE (b:List Int):Pdu:=zT (gu8 (ownN b)) (kR1 (ownN b)) 0 false (gu16 (d2 (ownN b))) (bstr (fText (d8 (ownN b))))
def zQ (b:List Int):Pdu:=zP (gu8 (ownN b)) (kR1 (ownN b)) 0 (decide (getV (d2 (ownN b)) 1=1)) 0 (gu32 (d8 (ownN b)))
def sE (j:Nat)(b:List Int):Orc:=.callg [j] 0 [mTw (zE b) nA (.own 0 ((cE (ownN b)).map u8).length)] [] [] (.tup [])
def sP (j:Nat)(b:List Int):Orc:=.callg [j] 0 [mTw (zQ b) (.own 0 (pN (d8 (ownN b)))) nA] [] [] (.tup [])
def sZ (b:List Int):Orc:=.call [encD (decF b).1] (.tup [])
def aO (p:Pdu):Orc:=.calle [slE 1 u8 (encB p),slE 1 u8 (encB p)] (bo true)
def aZ :Orc:=.call [slE 1 u8 [],slE 1 u8 []] (bo true)
def dC (m:Pdu):Orc:=.calle [encD m,encD m] (bo true)
def dZ (m:Pdu):Orc:=.call [encD m,encD m] (bo true)
def kOE (p:Pdu)(b:List Int):K5:=⟨xO p,fE b,sE 33 b,aO p,dC (rdE (ownN b))⟩
def kOP (p:Pdu)(b:List Int):K5:=⟨xO p,fP b,sP 33 b,aO p,dC (rdP (ownN b))⟩
def kOZ (p:Pdu)(b:List Int):K5:=⟨xO p,fZ b,sZ b,aO p,dZ (decF b).1⟩
def kZE (p:Pdu)(b:List Int):K5:=⟨xZ p,fE b,sE 32 b,aZ,dC (rdE (ownN b))⟩
def kZP (p:Pdu)(b:List Int):K5:=⟨xZ p,fP b,sP 32 b,aZ,dC (rdP (ownN b))⟩
def kZZ (p:Pdu)(b:List Int):K5:=⟨xZ p,fZ b,sZ b,aZ,dZ (decF b).1⟩
def T5oe (p:Pdu)(b:List Int):Tell:=
 Tell.mk (fun r i=>r==3&&i==4||r==8&&(i==2||i==11)||r==14&&(i==4||i==9)) (fun r i=>if(r==4&&i==1)=true then(kOE p b).x else if(r==6&&i==1)=true then(kOE p b).f else if(r==8&&i==2)=true then(kOE p b).a else if(r==8&&i==11)=true then(kOE p b).c else if(r==9&&i==1)=true then(kOE p b).s else if(r==8&&(i==6||i==16||i==21))=true then Orc.eff (AEff.mk (.imm (bo true)) [])else if(r==11&&i==3&&false)=true then Orc.eff (AEff.mk (.imm (bo false)) [])else if(r==14&&i==4)=true then
 Orc.call [encD p,encD p] (bo true)else if(r==14&&i==9)=true then Orc.call [slE 1 u8 b,slE 1 u8 b] (bo true)else Orc.no) (fun x=>Tree.done (Exit.exit 0) (E5 80 p b)) (fun x=>if false=true then 1 else 0) (fun x=>([18,17,7,6,5,2,1],[0,14,18])) (ogetO (fun r i=>if(r==4&&i==1)=true then(kOE p b).x else if(r==6&&i==1)=true then(kOE p b).f else if(r==8&&i==2)=true then(kOE p b).a else if(r==8&&i==11)=true then(kOE p b).c else if(r==9&&i==1)=true then(kOE p b).s else if(r==8&&(i==6||i==16||i==21))=true then Orc.eff
 (AEff.mk (.imm (bo true)) [])else if(r==11&&i==3&&false)=true then Orc.eff (AEff.mk (.imm (bo false)) [])else if(r==14&&i==4)=true then Orc.call [encD p,encD p] (bo true)else if(r==14&&i==9)=true then Orc.call [slE 1 u8 b,slE 1 u8 b] (bo true)else Orc.no) [(2,1,1,Orc.call [encD p] (bo (great p))),(9,3,1,Orc.call [encD p] (encD p)),(25,5,1,Orc.call [encD p] (.tup [slE 1 u8 (eO p),i64 (chk p)])),(43,7,1,Orc.call [slE 1 u8 b] (decT (decF b)))]) fun x x_1=>Tree.done (Exit.exit 0) (E5 80 p b)
theorem t5oe (p:Pdu)(b:List Int):levF prog Proofs.Try.f5 [encD p,slE 1 u8 b] (T5oe p b)=
 (let q0:=zT (gu8 (ownN b)) (kR1 (ownN b)) 0 false (gu16 (d2 (ownN b))) (bstr (fText (d8 (ownN b))));let q1:=List.map u8 (cE (ownN b));let q2:=List.map u8 (encB p);
 Tree.need (ILeL [encD p] [encD p]∧ASpec prog 11 [encD p] (bo (great p))) (.br (great p) (.done Exit.ret (lret (bo true))) (.br (decide (10000<(↑(List.length (List.map u8 b)):Int))) (.done Exit.ret (lret (bo true))) (.need (ILeL [encD p] [encD p]∧ASpec prog 12 [encD p] (encD p)) (.need (askA none (0=0∧true=true∧cellsOk (List.map u8 b)=true∧0+List.length (List.map u8 b)≤1000000)) (.need (ALeL [.imm (encD p)] [.imm (encD p)]∧GSpec prog 21 [] [] [.imm (encD p)] [] [Entry.row 5 1 q2] (.tup [.own 0 (List.length q2),.imm (i64 0)])) (.need (ILeL [encD p] [encD p]∧ASpec prog
 25 [encD p] (.tup [slE 1 u8 (eO p),i64 (chk p)])) (.need (ALeL [.imm (slE 1 u8 b)] [.imm (slE 1 u8 b)]∧GSpec prog 22 [] [] [.imm (slE 1 u8 b)] [] [Entry.row 5 1 q1] (.tup [mE (ownN b),.imm (i64 (dN b)),.imm (i64 0)])) (.need (ILeL [slE 1 u8 b] [slE 1 u8 b]∧ASpec prog 26 [slE 1 u8 b] (decT (decF b))) (.need (eqs [(List.length q2,List.length q2)]∧ILeL [.sl false false 1 q2,slE 1 u8 (eO p)] [slE 1 u8 (encB p),slE 1 u8 (encB p)]∧ASpec prog 27 [slE 1 u8 (encB p),slE 1 u8 (encB p)] (bo true)∧true=true) (.need (some (AEff.mk (.imm (bo (decide (0=chk p)))) [])=some (AEff.mk (.imm (bo
 true)) [])) (.need (eqs [(List.length q1,List.length q1)]∧ILeL [.agg [u8 q0.version,u8 q0.kind,u16 q0.session,u32 q0.serial,bo q0.add,u32 q0.origin.asn,u8 q0.origin.pfx.fam,u64 q0.origin.pfx.addr.hi,u64 q0.origin.pfx.addr.lo,i64 q0.origin.pfx.len,i64 q0.origin.max,u32 q0.path.cust,nS,u32 q0.key.asn,u8 0,u8 0,u8 0,u8 0,u8 0,u8 0,u8 0,u8 0,u8 0,u8 0,u8 0,u8 0,u8 0,u8 0,u8 0,u8 0,i64 q0.key.height,u32 q0.refresh,u32 q0.retry,u32 q0.expire,u16 q0.code,.sl false false 1 q1,st q0.text],encD (decF b).fst] [encD (rdE (ownN b)),encD (rdE (ownN b))]∧ASpec prog 17 [encD (rdE (ownN b)),encD (rdE (ownN
 b))] (bo true)∧true=true) (.need (some (AEff.mk (.imm (bo (decide (dN b=(decF b).snd.fst)))) [])=some (AEff.mk (.imm (bo true)) [])) (.need (some (AEff.mk (.imm (bo (decide (0=(decF b).snd.snd)))) [])=some (AEff.mk (.imm (bo true)) [])) (.need (ALeL [.agg [.imm (u8 q0.version),.imm (u8 q0.kind),.imm (u16 q0.session),.imm (u32 q0.serial),.imm (bo q0.add),.imm (u32 q0.origin.asn),.imm (u8 q0.origin.pfx.fam),.imm (u64 q0.origin.pfx.addr.hi),.imm (u64 q0.origin.pfx.addr.lo),.imm (i64 q0.origin.pfx.len),.imm (i64 q0.origin.max),.imm (u32 q0.path.cust),.imm nS,.imm (u32 q0.key.asn),.imm
 (u8 0),.imm (u8 0),.imm (u8 0),.imm (u8 0),.imm (u8 0),.imm (u8 0),.imm (u8 0),.imm (u8 0),.imm (u8 0),.imm (u8 0),.imm (u8 0),.imm (u8 0),.imm (u8 0),.imm (u8 0),.imm (u8 0),.imm (u8 0),.imm (i64 q0.key.height),.imm (u32 q0.refresh),.imm (u32 q0.retry),.imm (u32 q0.expire),.imm (u16 q0.code),.own 0 (List.length q1),.imm (st q0.text)]] [mTw (zE b) nA (.own 0 (List.length q1))]∧GSpec prog 18 [] [(5,1,List.map u8 (cE (ownN b)))] [mTw (zE b) nA (.own 0 (List.length q1))] [] [] (.tup [])) (.loop 11 (LState.mk [(18,.imm (i64 0)),(17,.imm (bo true)),(7,.own 18 (List.length q2)),(6,.imm (.sl true
 false 1 ([]++List.map u8 b))),(5,.ptr 14 0),(2,.ptr 0 0),(1,.imm (slE 1 u8 b))] [(0,Entry.box 42 (.imm (encD p))),(14,Entry.box 42 (.imm (encD p))),(18,Entry.row 5 1 q2)] 101 80 []) (.done (Exit.exit 0) (E5 80 p b)) (.br true (.need (ILeL [encD p,encD p] [encD p,encD p]∧ASpec prog 17 [encD p,encD p] (bo true)) (.need (ILeL [slE 1 u8 b,.sl true false 1 ([]++List.map u8 b)] [slE 1 u8 b,slE 1 u8 b]∧ASpec prog 27 [slE 1 u8 b,slE 1 u8 b] (bo true)) (.done Exit.ret (lret (bo true))))) (.done Exit.ret (lret (bo false)))))))))))))))))))):=by kernel_rfl
def T5op (p:Pdu)(b:List Int):Tell:=
 Tell.mk (fun r i=>r==3&&i==4||r==8&&(i==2||i==11)||r==14&&(i==4||i==9)) (fun r i=>if(r==4&&i==1)=true then(kOP p b).x else if(r==6&&i==1)=true then(kOP p b).f else if(r==8&&i==2)=true then(kOP p b).a else if(r==8&&i==11)=true then(kOP p b).c else if(r==9&&i==1)=true then(kOP p b).s else if(r==8&&(i==6||i==16||i==21))=true then Orc.eff (AEff.mk (.imm (bo true)) [])else if(r==11&&i==3&&false)=true then Orc.eff (AEff.mk (.imm (bo false)) [])else if(r==14&&i==4)=true then
 Orc.call [encD p,encD p] (bo true)else if(r==14&&i==9)=true then Orc.call [slE 1 u8 b,slE 1 u8 b] (bo true)else Orc.no) (fun x=>Tree.done (Exit.exit 0) (E5 80 p b)) (fun x=>if false=true then 1 else 0) (fun x=>([18,17,7,6,5,2,1],[0,14,18])) (ogetO (fun r i=>if(r==4&&i==1)=true then(kOP p b).x else if(r==6&&i==1)=true then(kOP p b).f else if(r==8&&i==2)=true then(kOP p b).a else if(r==8&&i==11)=true then(kOP p b).c else if(r==9&&i==1)=true then(kOP p b).s else if(r==8&&(i==6||i==16||i==21))=true then Orc.eff
 (AEff.mk (.imm (bo true)) [])else if(r==11&&i==3&&false)=true then Orc.eff (AEff.mk (.imm (bo false)) [])else if(r==14&&i==4)=true then Orc.call [encD p,encD p] (bo true)else if(r==14&&i==9)=true then Orc.call [slE 1 u8 b,slE 1 u8 b] (bo true)else Orc.no) [(2,1,1,Orc.call [encD p] (bo (great p))),(9,3,1,Orc.call [encD p] (encD p)),(25,5,1,Orc.call [encD p] (.tup [slE 1 u8 (eO p),i64 (chk p)])),(43,7,1,Orc.call [slE 1 u8 b] (decT (decF b)))]) fun x x_1=>Tree.done (Exit.exit 0) (E5 80 p b)
theorem t5op (p:Pdu)(b:List Int):levF prog Proofs.Try.f5 [encD p,slE 1 u8 b] (T5op p b)=
 (let q0:=decide (getV (d2 (ownN b)) (1:Int)=(1:Int));let q1:=zP (gu8 (ownN b)) (kR1 (ownN b)) 0 q0 0 (gu32 (d8 (ownN b)));let q2:=List.map u8 (encB p);let q3:=List.map u32 (cP (ownN b));
 Tree.need (ILeL [encD p] [encD p]∧ASpec prog 11 [encD p] (bo (great p))) (.br (great p) (.done Exit.ret (lret (bo true))) (.br (decide (10000<(↑(List.length (List.map u8 b)):Int))) (.done Exit.ret (lret (bo true))) (.need (ILeL [encD p] [encD p]∧ASpec prog 12 [encD p] (encD p)) (.need (askA none (0=0∧true=true∧cellsOk (List.map u8 b)=true∧0+List.length (List.map u8 b)≤1000000)) (.need (ALeL [.imm (encD p)] [.imm (encD p)]∧GSpec prog 21 [] [] [.imm (encD p)] [] [Entry.row 5 1 q2] (.tup [.own 0 (List.length q2),.imm (i64 0)])) (.need (ILeL [encD p] [encD p]∧ASpec prog
 25 [encD p] (.tup [slE 1 u8 (eO p),i64 (chk p)])) (.need (ALeL [.imm (slE 1 u8 b)] [.imm (slE 1 u8 b)]∧GSpec prog 22 [] [] [.imm (slE 1 u8 b)] [] [Entry.row 23 1 q3] (.tup [mQ (ownN b),.imm (i64 (dN b)),.imm (i64 0)])) (.need (ILeL [slE 1 u8 b] [slE 1 u8 b]∧ASpec prog 26 [slE 1 u8 b] (decT (decF b))) (.need (eqs [(List.length q2,List.length q2)]∧ILeL [.sl false false 1 q2,slE 1 u8 (eO p)] [slE 1 u8 (encB p),slE 1 u8 (encB p)]∧ASpec prog 27 [slE 1 u8 (encB p),slE 1 u8 (encB p)] (bo true)∧true=true) (.need (some (AEff.mk (.imm (bo (decide (0=chk p)))) [])=some (AEff.mk (.imm (bo
 true)) [])) (.need (eqs [(List.length q3,pN (d8 (ownN b)))]∧ILeL [.agg [u8 q1.version,u8 q1.kind,u16 q1.session,u32 q1.serial,bo q1.add,u32 q1.origin.asn,u8 q1.origin.pfx.fam,u64 q1.origin.pfx.addr.hi,u64 q1.origin.pfx.addr.lo,i64 q1.origin.pfx.len,i64 q1.origin.max,u32 q1.path.cust,.sl false false 1 q3,u32 q1.key.asn,u8 0,u8 0,u8 0,u8 0,u8 0,u8 0,u8 0,u8 0,u8 0,u8 0,u8 0,u8 0,u8 0,u8 0,u8 0,u8 0,i64 q1.key.height,u32 q1.refresh,u32 q1.retry,u32 q1.expire,u16 q1.code,nS,st q1.text],encD (decF b).fst] [encD (rdP (ownN b)),encD (rdP (ownN b))]∧ASpec prog 17 [encD (rdP (ownN b)),encD (rdP
 (ownN b))] (bo true)∧true=true) (.need (some (AEff.mk (.imm (bo (decide (dN b=(decF b).snd.fst)))) [])=some (AEff.mk (.imm (bo true)) [])) (.need (some (AEff.mk (.imm (bo (decide (0=(decF b).snd.snd)))) [])=some (AEff.mk (.imm (bo true)) [])) (.need (ALeL [.agg [.imm (u8 q1.version),.imm (u8 q1.kind),.imm (u16 q1.session),.imm (u32 q1.serial),.imm (bo q1.add),.imm (u32 q1.origin.asn),.imm (u8 q1.origin.pfx.fam),.imm (u64 q1.origin.pfx.addr.hi),.imm (u64 q1.origin.pfx.addr.lo),.imm (i64 q1.origin.pfx.len),.imm (i64 q1.origin.max),.imm (u32 q1.path.cust),.own 0 (pN (d8 (ownN b))),.imm
 (u32 q1.key.asn),.imm (u8 0),.imm (u8 0),.imm (u8 0),.imm (u8 0),.imm (u8 0),.imm (u8 0),.imm (u8 0),.imm (u8 0),.imm (u8 0),.imm (u8 0),.imm (u8 0),.imm (u8 0),.imm (u8 0),.imm (u8 0),.imm (u8 0),.imm (u8 0),.imm (i64 q1.key.height),.imm (u32 q1.refresh),.imm (u32 q1.retry),.imm (u32 q1.expire),.imm (u16 q1.code),.imm nS,.imm (st q1.text)]] [mTw (zQ b) (.own 0 (pN (d8 (ownN b)))) nA]∧GSpec prog 18 [] [(23,1,List.map u32 (cP (ownN b)))] [mTw (zQ b) (.own 0 (pN (d8 (ownN b)))) nA] [] [] (.tup [])) (.loop 11 (LState.mk [(18,.imm (i64 0)),(17,.imm (bo true)),(7,.own 18 (List.length q2)),(6,.imm
 (.sl true false 1 ([]++List.map u8 b))),(5,.ptr 14 0),(2,.ptr 0 0),(1,.imm (slE 1 u8 b))] [(0,Entry.box 42 (.imm (encD p))),(14,Entry.box 42 (.imm (encD p))),(18,Entry.row 5 1 q2)] 101 80 []) (.done (Exit.exit 0) (E5 80 p b)) (.br true (.need (ILeL [encD p,encD p] [encD p,encD p]∧ASpec prog 17 [encD p,encD p] (bo true)) (.need (ILeL [slE 1 u8 b,.sl true false 1 ([]++List.map u8 b)] [slE 1 u8 b,slE 1 u8 b]∧ASpec prog 27 [slE 1 u8 b,slE 1 u8 b] (bo true)) (.done Exit.ret (lret (bo true))))) (.done Exit.ret (lret (bo false)))))))))))))))))))):=by kernel_rfl
def T5oz (p:Pdu)(b:List Int):Tell:=
 Tell.mk (fun r i=>r==3&&i==4||r==8&&(i==2||i==11)||r==14&&(i==4||i==9)) (fun r i=>if(r==4&&i==1)=true then(kOZ p b).x else if(r==6&&i==1)=true then(kOZ p b).f else if(r==8&&i==2)=true then(kOZ p b).a else if(r==8&&i==11)=true then(kOZ p b).c else if(r==9&&i==1)=true then(kOZ p b).s else if(r==8&&(i==6||i==16||i==21))=true then Orc.eff (AEff.mk (.imm (bo true)) [])else if(r==11&&i==3&&false)=true then Orc.eff (AEff.mk (.imm (bo false)) [])else if(r==14&&i==4)=true then
 Orc.call [encD p,encD p] (bo true)else if(r==14&&i==9)=true then Orc.call [slE 1 u8 b,slE 1 u8 b] (bo true)else Orc.no) (fun x=>Tree.done (Exit.exit 0) (E5 79 p b)) (fun x=>if false=true then 1 else 0) (fun x=>([18,17,7,6,5,2,1],[0,14,18])) (ogetO (fun r i=>if(r==4&&i==1)=true then(kOZ p b).x else if(r==6&&i==1)=true then(kOZ p b).f else if(r==8&&i==2)=true then(kOZ p b).a else if(r==8&&i==11)=true then(kOZ p b).c else if(r==9&&i==1)=true then(kOZ p b).s else if(r==8&&(i==6||i==16||i==21))=true then Orc.eff
 (AEff.mk (.imm (bo true)) [])else if(r==11&&i==3&&false)=true then Orc.eff (AEff.mk (.imm (bo false)) [])else if(r==14&&i==4)=true then Orc.call [encD p,encD p] (bo true)else if(r==14&&i==9)=true then Orc.call [slE 1 u8 b,slE 1 u8 b] (bo true)else Orc.no) [(2,1,1,Orc.call [encD p] (bo (great p))),(9,3,1,Orc.call [encD p] (encD p)),(25,5,1,Orc.call [encD p] (.tup [slE 1 u8 (eO p),i64 (chk p)])),(42,7,1,Orc.call [slE 1 u8 b] (decT (decF b)))]) fun x x_1=>Tree.done (Exit.exit 0) (E5 79 p b)
theorem t5oz (p:Pdu)(b:List Int):levF prog Proofs.Try.f5 [encD p,slE 1 u8 b] (T5oz p b)=
 (let q0:=List.map u8 (encB p);
 Tree.need (ILeL [encD p] [encD p]∧ASpec prog 11 [encD p] (bo (great p))) (.br (great p) (.done Exit.ret (lret (bo true))) (.br (decide (10000<(↑(List.length (List.map u8 b)):Int))) (.done Exit.ret (lret (bo true))) (.need (ILeL [encD p] [encD p]∧ASpec prog 12 [encD p] (encD p)) (.need (askA none (0=0∧true=true∧cellsOk (List.map u8 b)=true∧0+List.length (List.map u8 b)≤1000000)) (.need (ALeL [.imm (encD p)] [.imm (encD p)]∧GSpec prog 21 [] [] [.imm (encD p)] [] [Entry.row 5 1 q0] (.tup [.own 0 (List.length q0),.imm (i64 0)])) (.need (ILeL [encD p] [encD p]∧ASpec prog
 25 [encD p] (.tup [slE 1 u8 (eO p),i64 (chk p)])) (.need (ILeL [slE 1 u8 b] [slE 1 u8 b]∧ASpec prog 22 [slE 1 u8 b] (decT (decF b))) (.need (ILeL [slE 1 u8 b] [slE 1 u8 b]∧ASpec prog 26 [slE 1 u8 b] (decT (decF b))) (.need (eqs [(List.length q0,List.length q0)]∧ILeL [.sl false false 1 q0,slE 1 u8 (eO p)] [slE 1 u8 (encB p),slE 1 u8 (encB p)]∧ASpec prog 27 [slE 1 u8 (encB p),slE 1 u8 (encB p)] (bo true)∧true=true) (.need (some (AEff.mk (.imm (bo (decide (0=chk p)))) [])=some (AEff.mk (.imm (bo true)) [])) (.need (ILeL [encD (decF b).fst,encD (decF b).fst] [encD (decF b).fst,encD
 (decF b).fst]∧ASpec prog 17 [encD (decF b).fst,encD (decF b).fst] (bo true)) (.need (some (AEff.mk (.imm (bo (decide ((decF b).snd.fst=(decF b).snd.fst)))) [])=some (AEff.mk (.imm (bo true)) [])) (.need (some (AEff.mk (.imm (bo (decide ((decF b).snd.snd=(decF b).snd.snd)))) [])=some (AEff.mk (.imm (bo true)) [])) (.need (ILeL [encD (decF b).fst] [encD (decF b).fst]∧ASpec prog 18 [encD (decF b).fst] (.tup [])) (.loop 11 (LState.mk [(18,.imm (i64 0)),(17,.imm (bo true)),(7,.own 18 (List.length q0)),(6,.imm (.sl true false 1 ([]++List.map u8 b))),(5,.ptr 14 0),(2,.ptr 0 0),(1,.imm
 (slE 1 u8 b))] [(0,Entry.box 42 (.imm (encD p))),(14,Entry.box 42 (.imm (encD p))),(18,Entry.row 5 1 q0)] 101 79 []) (.done (Exit.exit 0) (E5 79 p b)) (.br true (.need (ILeL [encD p,encD p] [encD p,encD p]∧ASpec prog 17 [encD p,encD p] (bo true)) (.need (ILeL [slE 1 u8 b,.sl true false 1 ([]++List.map u8 b)] [slE 1 u8 b,slE 1 u8 b]∧ASpec prog 27 [slE 1 u8 b,slE 1 u8 b] (bo true)) (.done Exit.ret (lret (bo true))))) (.done Exit.ret (lret (bo false)))))))))))))))))))):=by kernel_rfl
def T5ze (p:Pdu)(b:List Int):Tell:=
 Tell.mk (fun r i=>r==3&&i==4||r==8&&(i==2||i==11)||r==14&&(i==4||i==9)) (fun r i=>if(r==4&&i==1)=true then(kZE p b).x else if(r==6&&i==1)=true then(kZE p b).f else if(r==8&&i==2)=true then(kZE p b).a else if(r==8&&i==11)=true then(kZE p b).c else if(r==9&&i==1)=true then(kZE p b).s else if(r==8&&(i==6||i==16||i==21))=true then Orc.eff (AEff.mk (.imm (bo true)) [])else if(r==11&&i==3&&true)=true then Orc.eff (AEff.mk (.imm (bo false)) [])else if(r==14&&i==4)=true then
 Orc.call [encD p,encD p] (bo true)else if(r==14&&i==9)=true then Orc.call [slE 1 u8 b,slE 1 u8 b] (bo true)else Orc.no) (fun x=>Tree.fail 0 0) (fun x=>if true=true then 1 else 0) (fun x=>([18,17,7,6,5,2,1],[0,14,18])) (ogetO (fun r i=>if(r==4&&i==1)=true then(kZE p b).x else if(r==6&&i==1)=true then(kZE p b).f else if(r==8&&i==2)=true then(kZE p b).a else if(r==8&&i==11)=true then(kZE p b).c else if(r==9&&i==1)=true then(kZE p b).s else if(r==8&&(i==6||i==16||i==21))=true then Orc.eff (AEff.mk (.imm (bo
 true)) [])else if(r==11&&i==3&&true)=true then Orc.eff (AEff.mk (.imm (bo false)) [])else if(r==14&&i==4)=true then Orc.call [encD p,encD p] (bo true)else if(r==14&&i==9)=true then Orc.call [slE 1 u8 b,slE 1 u8 b] (bo true)else Orc.no) [(2,1,1,Orc.call [encD p] (bo (great p))),(9,3,1,Orc.call [encD p] (encD p)),(24,5,1,Orc.call [encD p] (.tup [slE 1 u8 (eO p),i64 (chk p)])),(42,7,1,Orc.call [slE 1 u8 b] (decT (decF b)))]) fun x x_1=>Tree.fail 0 0
theorem t5ze (p:Pdu)(b:List Int):levF prog Proofs.Try.f5 [encD p,slE 1 u8 b] (T5ze p b)=
 (let q0:=zT (gu8 (ownN b)) (kR1 (ownN b)) 0 false (gu16 (d2 (ownN b))) (bstr (fText (d8 (ownN b))));let q1:=List.map u8 (cE (ownN b));
 Tree.need (ILeL [encD p] [encD p]∧ASpec prog 11 [encD p] (bo (great p))) (.br (great p) (.done Exit.ret (lret (bo true))) (.br (decide (10000<(↑(List.length (List.map u8 b)):Int))) (.done Exit.ret (lret (bo true))) (.need (ILeL [encD p] [encD p]∧ASpec prog 12 [encD p] (encD p)) (.need (askA none (0=0∧true=true∧cellsOk (List.map u8 b)=true∧0+List.length (List.map u8 b)≤1000000)) (.need (ILeL [encD p] [encD p]∧ASpec prog 21 [encD p] (.tup [slE 1 u8 [],i64 (chk p)])) (.need (ILeL [encD p] [encD p]∧ASpec prog 25 [encD p] (.tup [slE 1 u8 (eO p),i64 (chk p)])) (.need (ALeL
 [.imm (slE 1 u8 b)] [.imm (slE 1 u8 b)]∧GSpec prog 22 [] [] [.imm (slE 1 u8 b)] [] [Entry.row 5 1 q1] (.tup [mE (ownN b),.imm (i64 (dN b)),.imm (i64 0)])) (.need (ILeL [slE 1 u8 b] [slE 1 u8 b]∧ASpec prog 26 [slE 1 u8 b] (decT (decF b))) (.need (ILeL [slE 1 u8 [],slE 1 u8 (eO p)] [slE 1 u8 [],slE 1 u8 []]∧ASpec prog 27 [slE 1 u8 [],slE 1 u8 []] (bo true)) (.need (some (AEff.mk (.imm (bo (decide (chk p=chk p)))) [])=some (AEff.mk (.imm (bo true)) [])) (.need (eqs [(List.length q1,List.length q1)]∧ILeL [.agg [u8 q0.version,u8 q0.kind,u16 q0.session,u32 q0.serial,bo q0.add,u32
 q0.origin.asn,u8 q0.origin.pfx.fam,u64 q0.origin.pfx.addr.hi,u64 q0.origin.pfx.addr.lo,i64 q0.origin.pfx.len,i64 q0.origin.max,u32 q0.path.cust,nS,u32 q0.key.asn,u8 0,u8 0,u8 0,u8 0,u8 0,u8 0,u8 0,u8 0,u8 0,u8 0,u8 0,u8 0,u8 0,u8 0,u8 0,u8 0,i64 q0.key.height,u32 q0.refresh,u32 q0.retry,u32 q0.expire,u16 q0.code,.sl false false 1 q1,st q0.text],encD (decF b).fst] [encD (rdE (ownN b)),encD (rdE (ownN b))]∧ASpec prog 17 [encD (rdE (ownN b)),encD (rdE (ownN b))] (bo true)∧true=true) (.need (some (AEff.mk (.imm (bo (decide (dN b=(decF b).snd.fst)))) [])=some (AEff.mk (.imm (bo true)) []))
 (.need (some (AEff.mk (.imm (bo (decide (0=(decF b).snd.snd)))) [])=some (AEff.mk (.imm (bo true)) [])) (.need (ALeL [.agg [.imm (u8 q0.version),.imm (u8 q0.kind),.imm (u16 q0.session),.imm (u32 q0.serial),.imm (bo q0.add),.imm (u32 q0.origin.asn),.imm (u8 q0.origin.pfx.fam),.imm (u64 q0.origin.pfx.addr.hi),.imm (u64 q0.origin.pfx.addr.lo),.imm (i64 q0.origin.pfx.len),.imm (i64 q0.origin.max),.imm (u32 q0.path.cust),.imm nS,.imm (u32 q0.key.asn),.imm (u8 0),.imm (u8 0),.imm (u8 0),.imm (u8 0),.imm (u8 0),.imm (u8 0),.imm (u8 0),.imm (u8 0),.imm (u8 0),.imm (u8 0),.imm (u8 0),.imm (u8
 0),.imm (u8 0),.imm (u8 0),.imm (u8 0),.imm (u8 0),.imm (i64 q0.key.height),.imm (u32 q0.refresh),.imm (u32 q0.retry),.imm (u32 q0.expire),.imm (u16 q0.code),.own 0 (List.length q1),.imm (st q0.text)]] [mTw (zE b) nA (.own 0 (List.length q1))]∧GSpec prog 18 [] [(5,1,List.map u8 (cE (ownN b)))] [mTw (zE b) nA (.own 0 (List.length q1))] [] [] (.tup [])) (.need (some (AEff.mk (.imm (bo false)) [])=some (AEff.mk (.imm (bo false)) [])) (.need (ILeL [encD p,encD p] [encD p,encD p]∧ASpec prog 17 [encD p,encD p] (bo true)) (.need (ILeL [slE 1 u8 b,.sl true false 1 ([]++List.map u8 b)] [slE 1 u8
 b,slE 1 u8 b]∧ASpec prog 27 [slE 1 u8 b,slE 1 u8 b] (bo true)) (.done Exit.ret (lret (bo true))))))))))))))))))))):=by kernel_rfl
def T5zp (p:Pdu)(b:List Int):Tell:=
 Tell.mk (fun r i=>r==3&&i==4||r==8&&(i==2||i==11)||r==14&&(i==4||i==9)) (fun r i=>if(r==4&&i==1)=true then(kZP p b).x else if(r==6&&i==1)=true then(kZP p b).f else if(r==8&&i==2)=true then(kZP p b).a else if(r==8&&i==11)=true then(kZP p b).c else if(r==9&&i==1)=true then(kZP p b).s else if(r==8&&(i==6||i==16||i==21))=true then Orc.eff (AEff.mk (.imm (bo true)) [])else if(r==11&&i==3&&true)=true then Orc.eff (AEff.mk (.imm (bo false)) [])else if(r==14&&i==4)=true then
 Orc.call [encD p,encD p] (bo true)else if(r==14&&i==9)=true then Orc.call [slE 1 u8 b,slE 1 u8 b] (bo true)else Orc.no) (fun x=>Tree.fail 0 0) (fun x=>if true=true then 1 else 0) (fun x=>([18,17,7,6,5,2,1],[0,14,18])) (ogetO (fun r i=>if(r==4&&i==1)=true then(kZP p b).x else if(r==6&&i==1)=true then(kZP p b).f else if(r==8&&i==2)=true then(kZP p b).a else if(r==8&&i==11)=true then(kZP p b).c else if(r==9&&i==1)=true then(kZP p b).s else if(r==8&&(i==6||i==16||i==21))=true then Orc.eff (AEff.mk (.imm (bo
 true)) [])else if(r==11&&i==3&&true)=true then Orc.eff (AEff.mk (.imm (bo false)) [])else if(r==14&&i==4)=true then Orc.call [encD p,encD p] (bo true)else if(r==14&&i==9)=true then Orc.call [slE 1 u8 b,slE 1 u8 b] (bo true)else Orc.no) [(2,1,1,Orc.call [encD p] (bo (great p))),(9,3,1,Orc.call [encD p] (encD p)),(24,5,1,Orc.call [encD p] (.tup [slE 1 u8 (eO p),i64 (chk p)])),(42,7,1,Orc.call [slE 1 u8 b] (decT (decF b)))]) fun x x_1=>Tree.fail 0 0
theorem t5zp (p:Pdu)(b:List Int):levF prog Proofs.Try.f5 [encD p,slE 1 u8 b] (T5zp p b)=
 (let q0:=decide (getV (d2 (ownN b)) (1:Int)=(1:Int));let q1:=zP (gu8 (ownN b)) (kR1 (ownN b)) 0 q0 0 (gu32 (d8 (ownN b)));let q2:=List.map u32 (cP (ownN b));
 Tree.need (ILeL [encD p] [encD p]∧ASpec prog 11 [encD p] (bo (great p))) (.br (great p) (.done Exit.ret (lret (bo true))) (.br (decide (10000<(↑(List.length (List.map u8 b)):Int))) (.done Exit.ret (lret (bo true))) (.need (ILeL [encD p] [encD p]∧ASpec prog 12 [encD p] (encD p)) (.need (askA none (0=0∧true=true∧cellsOk (List.map u8 b)=true∧0+List.length (List.map u8 b)≤1000000)) (.need (ILeL [encD p] [encD p]∧ASpec prog 21 [encD p] (.tup [slE 1 u8 [],i64 (chk p)])) (.need (ILeL [encD p] [encD p]∧ASpec prog 25 [encD p] (.tup [slE 1 u8 (eO p),i64 (chk p)])) (.need (ALeL
 [.imm (slE 1 u8 b)] [.imm (slE 1 u8 b)]∧GSpec prog 22 [] [] [.imm (slE 1 u8 b)] [] [Entry.row 23 1 q2] (.tup [mQ (ownN b),.imm (i64 (dN b)),.imm (i64 0)])) (.need (ILeL [slE 1 u8 b] [slE 1 u8 b]∧ASpec prog 26 [slE 1 u8 b] (decT (decF b))) (.need (ILeL [slE 1 u8 [],slE 1 u8 (eO p)] [slE 1 u8 [],slE 1 u8 []]∧ASpec prog 27 [slE 1 u8 [],slE 1 u8 []] (bo true)) (.need (some (AEff.mk (.imm (bo (decide (chk p=chk p)))) [])=some (AEff.mk (.imm (bo true)) [])) (.need (eqs [(List.length q2,pN (d8 (ownN b)))]∧ILeL [.agg [u8 q1.version,u8 q1.kind,u16 q1.session,u32 q1.serial,bo q1.add,u32
 q1.origin.asn,u8 q1.origin.pfx.fam,u64 q1.origin.pfx.addr.hi,u64 q1.origin.pfx.addr.lo,i64 q1.origin.pfx.len,i64 q1.origin.max,u32 q1.path.cust,.sl false false 1 q2,u32 q1.key.asn,u8 0,u8 0,u8 0,u8 0,u8 0,u8 0,u8 0,u8 0,u8 0,u8 0,u8 0,u8 0,u8 0,u8 0,u8 0,u8 0,i64 q1.key.height,u32 q1.refresh,u32 q1.retry,u32 q1.expire,u16 q1.code,nS,st q1.text],encD (decF b).fst] [encD (rdP (ownN b)),encD (rdP (ownN b))]∧ASpec prog 17 [encD (rdP (ownN b)),encD (rdP (ownN b))] (bo true)∧true=true) (.need (some (AEff.mk (.imm (bo (decide (dN b=(decF b).snd.fst)))) [])=some (AEff.mk (.imm (bo true)) []))
 (.need (some (AEff.mk (.imm (bo (decide (0=(decF b).snd.snd)))) [])=some (AEff.mk (.imm (bo true)) [])) (.need (ALeL [.agg [.imm (u8 q1.version),.imm (u8 q1.kind),.imm (u16 q1.session),.imm (u32 q1.serial),.imm (bo q1.add),.imm (u32 q1.origin.asn),.imm (u8 q1.origin.pfx.fam),.imm (u64 q1.origin.pfx.addr.hi),.imm (u64 q1.origin.pfx.addr.lo),.imm (i64 q1.origin.pfx.len),.imm (i64 q1.origin.max),.imm (u32 q1.path.cust),.own 0 (pN (d8 (ownN b))),.imm (u32 q1.key.asn),.imm (u8 0),.imm (u8 0),.imm (u8 0),.imm (u8 0),.imm (u8 0),.imm (u8 0),.imm (u8 0),.imm (u8 0),.imm (u8 0),.imm (u8 0),.imm (u8
 0),.imm (u8 0),.imm (u8 0),.imm (u8 0),.imm (u8 0),.imm (u8 0),.imm (i64 q1.key.height),.imm (u32 q1.refresh),.imm (u32 q1.retry),.imm (u32 q1.expire),.imm (u16 q1.code),.imm nS,.imm (st q1.text)]] [mTw (zQ b) (.own 0 (pN (d8 (ownN b)))) nA]∧GSpec prog 18 [] [(23,1,List.map u32 (cP (ownN b)))] [mTw (zQ b) (.own 0 (pN (d8 (ownN b)))) nA] [] [] (.tup [])) (.need (some (AEff.mk (.imm (bo false)) [])=some (AEff.mk (.imm (bo false)) [])) (.need (ILeL [encD p,encD p] [encD p,encD p]∧ASpec prog 17 [encD p,encD p] (bo true)) (.need (ILeL [slE 1 u8 b,.sl true false 1 ([]++List.map u8 b)] [slE 1
 u8 b,slE 1 u8 b]∧ASpec prog 27 [slE 1 u8 b,slE 1 u8 b] (bo true)) (.done Exit.ret (lret (bo true))))))))))))))))))))):=by kernel_rfl
def T5zz (p:Pdu)(b:List Int):Tell:=
 Tell.mk (fun r i=>r==3&&i==4||r==8&&(i==2||i==11)||r==14&&(i==4||i==9)) (fun r i=>if(r==4&&i==1)=true then(kZZ p b).x else if(r==6&&i==1)=true then(kZZ p b).f else if(r==8&&i==2)=true then(kZZ p b).a else if(r==8&&i==11)=true then(kZZ p b).c else if(r==9&&i==1)=true then(kZZ p b).s else if(r==8&&(i==6||i==16||i==21))=true then Orc.eff (AEff.mk (.imm (bo true)) [])else if(r==11&&i==3&&true)=true then Orc.eff (AEff.mk (.imm (bo false)) [])else if(r==14&&i==4)=true then
 Orc.call [encD p,encD p] (bo true)else if(r==14&&i==9)=true then Orc.call [slE 1 u8 b,slE 1 u8 b] (bo true)else Orc.no) (fun x=>Tree.fail 0 0) (fun x=>if true=true then 1 else 0) (fun x=>([18,17,7,6,5,2,1],[0,14,18])) (ogetO (fun r i=>if(r==4&&i==1)=true then(kZZ p b).x else if(r==6&&i==1)=true then(kZZ p b).f else if(r==8&&i==2)=true then(kZZ p b).a else if(r==8&&i==11)=true then(kZZ p b).c else if(r==9&&i==1)=true then(kZZ p b).s else if(r==8&&(i==6||i==16||i==21))=true then Orc.eff (AEff.mk (.imm (bo
 true)) [])else if(r==11&&i==3&&true)=true then Orc.eff (AEff.mk (.imm (bo false)) [])else if(r==14&&i==4)=true then Orc.call [encD p,encD p] (bo true)else if(r==14&&i==9)=true then Orc.call [slE 1 u8 b,slE 1 u8 b] (bo true)else Orc.no) [(2,1,1,Orc.call [encD p] (bo (great p))),(9,3,1,Orc.call [encD p] (encD p)),(24,5,1,Orc.call [encD p] (.tup [slE 1 u8 (eO p),i64 (chk p)])),(41,7,1,Orc.call [slE 1 u8 b] (decT (decF b)))]) fun x x_1=>Tree.fail 0 0
theorem t5zz (p:Pdu)(b:List Int):levF prog Proofs.Try.f5 [encD p,slE 1 u8 b] (T5zz p b)=
 Tree.need (ILeL [encD p] [encD p]∧ASpec prog 11 [encD p] (bo (great p))) (.br (great p) (.done Exit.ret (lret (bo true))) (.br (decide (10000<(↑(List.length (List.map u8 b)):Int))) (.done Exit.ret (lret (bo true))) (.need (ILeL [encD p] [encD p]∧ASpec prog 12 [encD p] (encD p)) (.need (askA none (0=0∧true=true∧cellsOk (List.map u8 b)=true∧0+List.length (List.map u8 b)≤1000000)) (.need (ILeL [encD p] [encD p]∧ASpec prog 21 [encD p] (.tup [slE 1 u8 [],i64 (chk p)])) (.need (ILeL [encD p] [encD p]∧ASpec prog 25 [encD p] (.tup [slE 1 u8 (eO p),i64 (chk p)])) (.need (ILeL
 [slE 1 u8 b] [slE 1 u8 b]∧ASpec prog 22 [slE 1 u8 b] (decT (decF b))) (.need (ILeL [slE 1 u8 b] [slE 1 u8 b]∧ASpec prog 26 [slE 1 u8 b] (decT (decF b))) (.need (ILeL [slE 1 u8 [],slE 1 u8 (eO p)] [slE 1 u8 [],slE 1 u8 []]∧ASpec prog 27 [slE 1 u8 [],slE 1 u8 []] (bo true)) (.need (some (AEff.mk (.imm (bo (decide (chk p=chk p)))) [])=some (AEff.mk (.imm (bo true)) [])) (.need (ILeL [encD (decF b).fst,encD (decF b).fst] [encD (decF b).fst,encD (decF b).fst]∧ASpec prog 17 [encD (decF b).fst,encD (decF b).fst] (bo true)) (.need (some (AEff.mk (.imm (bo (decide ((decF b).snd.fst=(decF
 b).snd.fst)))) [])=some (AEff.mk (.imm (bo true)) [])) (.need (some (AEff.mk (.imm (bo (decide ((decF b).snd.snd=(decF b).snd.snd)))) [])=some (AEff.mk (.imm (bo true)) [])) (.need (ILeL [encD (decF b).fst] [encD (decF b).fst]∧ASpec prog 18 [encD (decF b).fst] (.tup [])) (.need (some (AEff.mk (.imm (bo false)) [])=some (AEff.mk (.imm (bo false)) [])) (.need (ILeL [encD p,encD p] [encD p,encD p]∧ASpec prog 17 [encD p,encD p] (bo true)) (.need (ILeL [slE 1 u8 b,.sl true false 1 ([]++List.map u8 b)] [slE 1 u8 b,slE 1 u8 b]∧ASpec prog 27 [slE 1 u8 b,slE 1 u8 b] (bo true)) (.done
 Exit.ret (lret (bo true)))))))))))))))))))):=by kernel_rfl
def T5r80 (p:Pdu)(b:List Int)(m:Nat)(cs:List Int)(i:Nat):Tell:=
 Tell.mk (fun x x_1=>false) (fun x x_1=>Orc.no) (fun x=>Tree.fail 1000003 0) (fun x=>0) (fun x=>([],[])) (oget [(84,13,3,Orc.elem (u8 (List.getD cs i default))),(84,13,6,Orc.elem (.tup []))]) fun x x_1=>Tree.fail 1000003 0
theorem t5r80 (p:Pdu)(b:List Int)(m:Nat)(cs:List Int)(i:Nat):levL prog Proofs.Try.f5 11 (I5 80 p b m cs i) (T5r80 p b m cs i) fin5x=
 Tree.br (decide ((↑i:Int)<(↑m:Int))) (.need (0≤(↑i:Int)∧i<m) (.need ((List.map u8 cs)[i]?=some (u8 (List.getD cs i 0))) (.need (0≤(↑i:Int)∧i<m) (.need (i<List.length (List.map u8 cs)) (.done Exit.normal (LState.mk [(18,.imm (i64 (IntKind.wrap IntKind.i64 ((↑i:Int)+1)))),(17,.imm (bo true)),(7,.own 18 m),(6,.imm (.sl true false 1 ([]++List.map u8 b))),(5,.ptr 14 0),(2,.ptr 0 0),(1,.imm (slE 1 u8 b))] [(0,Entry.box 42 (.imm (encD p))),(14,Entry.box 42 (.imm (encD p))),(18,Entry.row 5 1 (List.set (List.map u8 cs) i (u8 (IntKind.wrap IntKind.u8 (List.getD cs i (0:
 Int)+(1:Int))))))] 101 94 [])))))) (.done (Exit.exit 0) (LState.mk [(17,.imm (bo true)),(6,.imm (.sl true false 1 ([]++List.map u8 b))),(5,.ptr 14 0),(2,.ptr 0 0),(1,.imm (slE 1 u8 b))] [(0,Entry.box 42 (.imm (encD p))),(14,Entry.box 42 (.imm (encD p)))] 101 84 [])):=by kernel_rfl
def T5r79 (p:Pdu)(b:List Int)(m:Nat)(cs:List Int)(i:Nat):Tell:=
 Tell.mk (fun x x_1=>false) (fun x x_1=>Orc.no) (fun x=>Tree.fail 1000003 0) (fun x=>0) (fun x=>([],[])) (oget [(83,13,3,Orc.elem (u8 (List.getD cs i default))),(83,13,6,Orc.elem (.tup []))]) fun x x_1=>Tree.fail 1000003 0
theorem t5r79 (p:Pdu)(b:List Int)(m:Nat)(cs:List Int)(i:Nat):levL prog Proofs.Try.f5 11 (I5 79 p b m cs i) (T5r79 p b m cs i) fin5x=
 Tree.br (decide ((↑i:Int)<(↑m:Int))) (.need (0≤(↑i:Int)∧i<m) (.need ((List.map u8 cs)[i]?=some (u8 (List.getD cs i 0))) (.need (0≤(↑i:Int)∧i<m) (.need (i<List.length (List.map u8 cs)) (.done Exit.normal (LState.mk [(18,.imm (i64 (IntKind.wrap IntKind.i64 ((↑i:Int)+1)))),(17,.imm (bo true)),(7,.own 18 m),(6,.imm (.sl true false 1 ([]++List.map u8 b))),(5,.ptr 14 0),(2,.ptr 0 0),(1,.imm (slE 1 u8 b))] [(0,Entry.box 42 (.imm (encD p))),(14,Entry.box 42 (.imm (encD p))),(18,Entry.row 5 1 (List.set (List.map u8 cs) i (u8 (IntKind.wrap IntKind.u8 (List.getD cs i (0:
 Int)+(1:Int))))))] 101 93 [])))))) (.done (Exit.exit 0) (LState.mk [(17,.imm (bo true)),(6,.imm (.sl true false 1 ([]++List.map u8 b))),(5,.ptr 14 0),(2,.ptr 0 0),(1,.imm (slE 1 u8 b))] [(0,Entry.box 42 (.imm (encD p))),(14,Entry.box 42 (.imm (encD p)))] 101 83 [])):=by kernel_rfl
end Gp
namespace Gp
theorem dec_nil {b:List Int}(h:¬(gd b∧(kR1 (ownN b)=10∨kR1 (ownN b)=11))):(decF b).1.copy=[]∧(decF b).1.path.provs=[]:=by
 rcases gd_or b with hg|hz
 ·have h1:¬kR1 (ownN b)=10:=fun e=>h ⟨hg,.inl e⟩
  have h2:¬kR1 (ownN b)=11:=fun e=>h ⟨hg,.inr e⟩
  have e:(decF b).1=rdV (ownN b):=by rw[gd_dec hg];show (rdF (ownN b)).1=_;rw[rdF_yes (gd_ok hg)]
  rw[e]
  unfold rdV
  rw[if_neg h1,if_neg h2]
  split
  ·exact⟨rfl,rfl⟩
  ·obtain⟨e1,e2⟩:=tS_nil (p1 (ownN b)) (d8 (ownN b)) rfl rfl
   exact⟨e2,e1⟩
 ·rw[hz];exact⟨rfl,rfl⟩
theorem gd_1 {b:List Int}(hg:gd b):(decF b).1=(rdF (ownN b)).1∧(decF b).2.1=dN b∧(decF b).2.2=0:=by rw[gd_dec hg];exact⟨rfl,rfl,rfl⟩
theorem cE_len (b:List Int):(cE (ownN b)).length≤5000∨¬gd b:=by
 by_cases hg:gd b
 ·have:=hg.2.1
  refine .inl ?_
  unfold cE fCopy d8 ownN
  rw[List.length_take,List.length_drop]
  simp only[d2,List.length_drop,List.length_take];omega
 ·exact .inr hg
theorem l5 (N:Nat)(hN:N=80∨N=79)(p:Pdu)(b cs:List Int)(hl:cs.length≤1000000)(σ:LState)(h:LSub σ (I5 N p b cs.length cs 0)):LoopOk prog [] (bodyOf Proofs.Try.f5) 11 σ (.done (.exit 0) (E5 N p b)):=by
 refine LoopOk.of_levL (γ:={g:List Int×Nat//g.1.length=cs.length∧g.2≤cs.length}) (fun g=>if N=80 then T5r80 p b cs.length g.1.1 g.1.2 else T5r79 p b cs.length g.1.1 g.1.2) fin5x (fun g=>I5 N p b cs.length g.1.1 g.1.2) (fun g=>cs.length-g.1.2) ⟨(cs,0),rfl,Nat.zero_le _⟩ (by kernel_rfl) h ?_
 rintro⟨⟨c,i⟩,h1,h2⟩
 simp only at h1 h2
 rcases hN with rfl|rfl
 ·show (levL prog Proofs.Try.f5 11 (I5 80 p b cs.length c i) (T5r80 p b cs.length c i) fin5x).sat _ _
  rw[t5r80]
  refine⟨fun h3=>?_,fun h3=>⟨rfl,⟨rfl,rfl,rfl,rfl,rfl,trivial⟩,⟨rfl,rfl,trivial⟩,rfl,rfl,rfl⟩⟩
  have h3':i<cs.length:=Int.ofNat_lt.1 (of_decide_eq_true h3)
  have hi:i<c.length:=by omega
  refine need_sat ⟨by omega,h3'⟩ (need_sat ?_ (need_sat ⟨by omega,h3'⟩ (need_sat (by rw[List.length_map];exact hi) ?_)))
  ·simp[List.getD_eq_getElem?_getD,List.getElem?_eq_getElem hi]
  ·refine⟨⟨(c.set i (IntKind.u8.wrap (c.getD i 0+1)),i+1),by rw[List.length_set];exact h1,h3'⟩,by show cs.length-(i+1)<cs.length-i;omega,⟨?_,rfl,rfl,rfl,rfl,rfl,rfl,trivial⟩,⟨rfl,rfl,?_,trivial⟩,rfl,rfl,rfl⟩
   ·refine congrArg (fun n=>AVal.imm (i64 n)) ?_
    show IntKind.i64.wrap ((i:Int)+1)=((i+1:Nat):Int)
    rw[IntWalk.i64_in _ (by omega)];omega
   ·refine congrArg (fun l=>some (Entry.row 5 1 l)) ?_
    rw[List.map_set]<;>rfl
 ·show (levL prog Proofs.Try.f5 11 (I5 79 p b cs.length c i) (T5r79 p b cs.length c i) fin5x).sat _ _
  rw[t5r79]
  refine⟨fun h3=>?_,fun h3=>⟨rfl,⟨rfl,rfl,rfl,rfl,rfl,trivial⟩,⟨rfl,rfl,trivial⟩,rfl,rfl,rfl⟩⟩
  have h3':i<cs.length:=Int.ofNat_lt.1 (of_decide_eq_true h3)
  have hi:i<c.length:=by omega
  refine need_sat ⟨by omega,h3'⟩ (need_sat ?_ (need_sat ⟨by omega,h3'⟩ (need_sat (by rw[List.length_map];exact hi) ?_)))
  ·simp[List.getD_eq_getElem?_getD,List.getElem?_eq_getElem hi]
  ·refine⟨⟨(c.set i (IntKind.u8.wrap (c.getD i 0+1)),i+1),by rw[List.length_set];exact h1,h3'⟩,by show cs.length-(i+1)<cs.length-i;omega,⟨?_,rfl,rfl,rfl,rfl,rfl,rfl,trivial⟩,⟨rfl,rfl,?_,trivial⟩,rfl,rfl,rfl⟩
   ·refine congrArg (fun n=>AVal.imm (i64 n)) ?_
    show IntKind.i64.wrap ((i:Int)+1)=((i+1:Nat):Int)
    rw[IntWalk.i64_in _ (by omega)];omega
   ·refine congrArg (fun l=>some (Entry.row 5 1 l)) ?_
    rw[List.map_set]<;>rfl
theorem c27t (l:List Int)(hl:l.length≤1000000):ASpec prog 27 [slE 1 u8 l,slE 1 u8 l] (bo true):=by
 have:=c27 l l (by omega)
 rwa[decide_eq_true rfl]at this
theorem c17t (m:Pdu)(h1:m.copy.length≤1000000)(h2:m.path.provs.length≤1000000):ASpec prog 17 [encD m,encD m] (bo true):=by
 have:=c17 m m (by omega) (by omega)
 rwa[decide_eq_true rfl]at this
structure H5 (p:Pdu)(b:List Int):Prop where
 w:wfB p
 r:p.rng
 b:byteL b
theorem fin5z {p:Pdu}{b:List Int}{Λ:Nat→LState→Tree→Prop}{Q:Exit→LState→Prop}{t:Tree}(hg:great p=false)(hb:b.length≤10000)(ht:t.sat Λ Q):
  (Tree.need (ILeL [encD p,encD p] [encD p,encD p]∧ASpec prog 17 [encD p,encD p] (bo true)) (.need (ILeL [slE 1 u8 b,.sl true false 1 ([]++b.map u8)] [slE 1 u8 b,slE 1 u8 b]∧ASpec prog 27 [slE 1 u8 b,slE 1 u8 b] (bo true)) t)).sat Λ Q:=by
 have:=great_le hg
 exact need_sat ⟨ILeL.refl _,c17t p (by omega) (by omega)⟩ (need_sat ⟨.cons (.refl _) (.cons (sl_eq (List.nil_append _)) (.refl _)),c27t b (by omega)⟩ ht)
theorem beg5 {p:Pdu}{b:List Int}{Λ:Nat→LState→Tree→Prop}{t:Tree}{Q:Exit→LState→Prop}(ht:great p=false→b.length≤10000→t.sat Λ Q)(hz:Q .ret (lret (bo true))):
  (Tree.need (ILeL [encD p] [encD p]∧ASpec prog 11 [encD p] (bo (great p))) (.br (great p) (.done .ret (lret (.v (.bool true)))) (.br (decide ((10000:Int)<((b.map u8).length:Int))) (.done .ret (lret (.v (.bool true))))
   (.need (ILeL [encD p] [encD p]∧ASpec prog 12 [encD p] (encD p)) (.need (askA none (0=0∧true=true∧cellsOk (b.map u8)=true∧0+(b.map u8).length≤1000000)) t))))).sat Λ Q:=by
 refine need_sat ⟨ILeL.refl _,c11 p⟩ ⟨fun _=>hz,fun h1=>⟨fun _=>hz,fun h2=>?_⟩⟩
 have g1:=great_le h1
 have h2':b.length≤10000:=by have:=of_decide_eq_false h2;rw[List.length_map]at this;omega
 exact need_sat ⟨ILeL.refl _,c12 p (by omega) (by omega)⟩ (need_sat ⟨rfl,rfl,ok8 _,by rw[List.length_map];omega⟩ (ht h1 h2'))
theorem eO_y {p:Pdu}(h:chk p=0):eO p=encB p:=if_pos h
theorem eO_n {p:Pdu}(h:¬chk p=0):eO p=[]:=if_neg h
theorem xlen {p:Pdu}(h:chk p=0):(encB p).length≤10000:=by
 obtain⟨k1,_⟩:=chk_0 h
 unfold small at k1
 have:=rsL_le p
 unfold encB
 simp[num_len,hdL_len];omega
theorem c21z (p:Pdu)(hw:wfB p)(h:¬chk p=0):ASpec prog 21 [encD p] (.tup [slE 1 u8 [],i64 (chk p)]):=by
 have:=c21 p hw
 rwa[eO_n h]at this
theorem cP_len {b:List Int}(hg:gd b):(cP (ownN b)).length≤5000:=by
 have:=hg.2.1
 unfold cP pN
 rw[pvR_len]
 unfold d8 ownN
 simp only[d2,List.length_drop,List.length_take];omega
theorem q5oe (p:Pdu)(b:List Int)(h:H5 p b)(h0:chk p=0)(hg:gd b)(hk:kR1 (ownN b)=10):ASpec prog 5 [encD p,slE 1 u8 b] (bo true):=by
 refine ASpec.treeW Proofs.Try.f5 (T5oe p b) (by kernel_rfl) (by kernel_rfl) (t5oe p b) (beg5 (fun h1 h2=>?_) ⟨_,rfl,.refl _⟩)
 have g1:=great_le h1
 obtain⟨k1,k2,k3,k4⟩:=chk_0 h0
 unfold small at k1
 have hx:(encB p).length≤10000:=xlen h0
 obtain⟨e1,e2,e3⟩:=gd_1 hg
 rw[gd_v10 hg hk]at e1
 have hc:=(cE_len b).resolve_right (fun hh=>hh hg)
 refine need_sat ⟨ALeL.refl _,g21 p h.w h0⟩ (need_sat ⟨ILeL.refl _,c25 p h.r (by omega) (by omega)⟩ (need_sat ⟨ALeL.refl _,g22e b h.b (by omega) hg hk⟩ (need_sat ⟨ILeL.refl _,c26 b h.b (by omega)⟩ (need_sat ⟨⟨rfl,trivial⟩,.cons (.refl _) (.cons (ile_eq (by rw[eO_y h0])) (.refl _)),c27t _ (by omega),rfl⟩ (need_sat (eff_b (decide_eq_true h0.symm)) (need_sat ⟨⟨rfl,trivial⟩,.cons (ile_pdu (rdE (ownN b)) _ _ (.nil _ _ _) (.refl _)) (.cons (ile_eq (by rw[e1])) (.refl _)),c17t (rdE (ownN b)) (by show (cE (ownN b)).length≤_;omega) (by show 0≤_;omega),rfl⟩ (need_sat (eff_b (decide_eq_true e2.symm)) (need_sat (eff_b (decide_eq_true e3.symm)) (need_sat ⟨ALeL.refl _,g18x (zE b) _ (cE (ownN b)) (List.length_map ..) (by omega)⟩ ?_)))))))))
 refine⟨l5 80 (.inl rfl) p b (encB p) (by omega) _ ⟨⟨rfl,rfl,congrArg (AVal.own 18) (List.length_map ..),rfl,rfl,rfl,rfl,trivial⟩,⟨rfl,rfl,rfl,trivial⟩,rfl,rfl,rfl⟩,fun _=>?_,fun hh=>by cases hh⟩
 refine fin5z h1 h2 ?_
 exact⟨_,rfl,.refl _⟩
theorem q5op (p:Pdu)(b:List Int)(h:H5 p b)(h0:chk p=0)(hg:gd b)(hk:kR1 (ownN b)=11):ASpec prog 5 [encD p,slE 1 u8 b] (bo true):=by
 refine ASpec.treeW Proofs.Try.f5 (T5op p b) (by kernel_rfl) (by kernel_rfl) (t5op p b) (beg5 (fun h1 h2=>?_) ⟨_,rfl,.refl _⟩)
 have g1:=great_le h1
 obtain⟨k1,k2,k3,k4⟩:=chk_0 h0
 unfold small at k1
 have hx:(encB p).length≤10000:=xlen h0
 obtain⟨e1,e2,e3⟩:=gd_1 hg
 rw[gd_v11 hg hk]at e1
 have hc:=cP_len hg
 refine need_sat ⟨ALeL.refl _,g21 p h.w h0⟩ (need_sat ⟨ILeL.refl _,c25 p h.r (by omega) (by omega)⟩ (need_sat ⟨ALeL.refl _,g22p b h.b (by omega) hg hk⟩ (need_sat ⟨ILeL.refl _,c26 b h.b (by omega)⟩ (need_sat ⟨⟨rfl,trivial⟩,.cons (.refl _) (.cons (ile_eq (by rw[eO_y h0])) (.refl _)),c27t _ (by omega),rfl⟩ (need_sat (eff_b (decide_eq_true h0.symm)) (need_sat ⟨⟨by rw[List.length_map];exact pvR_len _ _,trivial⟩,.cons (ile_pdu (rdP (ownN b)) _ _ (.refl _) (.nil _ _ _)) (.cons (ile_eq (by rw[e1])) (.refl _)),c17t (rdP (ownN b)) (by show 0≤_;omega) (by show (cP (ownN b)).length≤_;omega),rfl⟩ (need_sat (eff_b (decide_eq_true e2.symm)) (need_sat (eff_b (decide_eq_true e3.symm)) (need_sat ⟨ALeL.refl _,g18y (zQ b) _ (cP (ownN b)) (pvR_len _ _).symm (by omega)⟩ ?_)))))))))
 refine⟨l5 80 (.inl rfl) p b (encB p) (by omega) _ ⟨⟨rfl,rfl,congrArg (AVal.own 18) (List.length_map ..),rfl,rfl,rfl,rfl,trivial⟩,⟨rfl,rfl,rfl,trivial⟩,rfl,rfl,rfl⟩,fun _=>?_,fun hh=>by cases hh⟩
 refine fin5z h1 h2 ?_
 exact⟨_,rfl,.refl _⟩
theorem q5oz (p:Pdu)(b:List Int)(h:H5 p b)(h0:chk p=0)(hz:¬(gd b∧(kR1 (ownN b)=10∨kR1 (ownN b)=11))):ASpec prog 5 [encD p,slE 1 u8 b] (bo true):=by
 refine ASpec.treeW Proofs.Try.f5 (T5oz p b) (by kernel_rfl) (by kernel_rfl) (t5oz p b) (beg5 (fun h1 h2=>?_) ⟨_,rfl,.refl _⟩)
 have g1:=great_le h1
 obtain⟨k1,k2,k3,k4⟩:=chk_0 h0
 unfold small at k1
 have hx:(encB p).length≤10000:=xlen h0
 obtain⟨n1,n2⟩:=dec_nil hz
 refine need_sat ⟨ALeL.refl _,g21 p h.w h0⟩ (need_sat ⟨ILeL.refl _,c25 p h.r (by omega) (by omega)⟩ (need_sat ⟨ILeL.refl _,c22 b h.b (by omega)⟩ (need_sat ⟨ILeL.refl _,c26 b h.b (by omega)⟩ (need_sat ⟨⟨rfl,trivial⟩,.cons (.refl _) (.cons (ile_eq (by rw[eO_y h0])) (.refl _)),c27t _ (by omega),rfl⟩ (need_sat (eff_b (decide_eq_true h0.symm)) (need_sat ⟨ILeL.refl _,c17t _ (by rw[n1];exact Nat.zero_le _) (by rw[n2];exact Nat.zero_le _)⟩ (need_sat (eff_b (decide_eq_true rfl)) (need_sat (eff_b (decide_eq_true rfl)) (need_sat ⟨ILeL.refl _,c18 _ n1 n2⟩ ?_)))))))))
 refine⟨l5 79 (.inr rfl) p b (encB p) (by omega) _ ⟨⟨rfl,rfl,congrArg (AVal.own 18) (List.length_map ..),rfl,rfl,rfl,rfl,trivial⟩,⟨rfl,rfl,rfl,trivial⟩,rfl,rfl,rfl⟩,fun _=>?_,fun hh=>by cases hh⟩
 refine fin5z h1 h2 ?_
 exact⟨_,rfl,.refl _⟩
theorem q5ze (p:Pdu)(b:List Int)(h:H5 p b)(h0:¬chk p=0)(hg:gd b)(hk:kR1 (ownN b)=10):ASpec prog 5 [encD p,slE 1 u8 b] (bo true):=by
 refine ASpec.treeW Proofs.Try.f5 (T5ze p b) (by kernel_rfl) (by kernel_rfl) (t5ze p b) (beg5 (fun h1 h2=>?_) ⟨_,rfl,.refl _⟩)
 have g1:=great_le h1
 obtain⟨e1,e2,e3⟩:=gd_1 hg
 rw[gd_v10 hg hk]at e1
 have hc:=(cE_len b).resolve_right (fun hh=>hh hg)
 exact need_sat ⟨ILeL.refl _,c21z p h.w h0⟩ (need_sat ⟨ILeL.refl _,c25 p h.r (by omega) (by omega)⟩ (need_sat ⟨ALeL.refl _,g22e b h.b (by omega) hg hk⟩ (need_sat ⟨ILeL.refl _,c26 b h.b (by omega)⟩ (need_sat ⟨.cons (.refl _) (.cons (ile_eq (by rw[eO_n h0])) (.refl _)),c27t [] (by simp)⟩ (need_sat (eff_b (decide_eq_true rfl)) (need_sat ⟨⟨rfl,trivial⟩,.cons (ile_pdu (rdE (ownN b)) _ _ (.nil _ _ _) (.refl _)) (.cons (ile_eq (by rw[e1])) (.refl _)),c17t (rdE (ownN b)) (by show (cE (ownN b)).length≤_;omega) (by show 0≤_;omega),rfl⟩ (need_sat (eff_b (decide_eq_true e2.symm)) (need_sat (eff_b (decide_eq_true e3.symm)) (need_sat ⟨ALeL.refl _,g18x (zE b) _ (cE (ownN b)) (List.length_map ..) (by omega)⟩ (need_sat rfl (fin5z h1 h2 ⟨_,rfl,.refl _⟩)))))))))))
theorem q5zp (p:Pdu)(b:List Int)(h:H5 p b)(h0:¬chk p=0)(hg:gd b)(hk:kR1 (ownN b)=11):ASpec prog 5 [encD p,slE 1 u8 b] (bo true):=by
 refine ASpec.treeW Proofs.Try.f5 (T5zp p b) (by kernel_rfl) (by kernel_rfl) (t5zp p b) (beg5 (fun h1 h2=>?_) ⟨_,rfl,.refl _⟩)
 have g1:=great_le h1
 obtain⟨e1,e2,e3⟩:=gd_1 hg
 rw[gd_v11 hg hk]at e1
 have hc:=cP_len hg
 exact need_sat ⟨ILeL.refl _,c21z p h.w h0⟩ (need_sat ⟨ILeL.refl _,c25 p h.r (by omega) (by omega)⟩ (need_sat ⟨ALeL.refl _,g22p b h.b (by omega) hg hk⟩ (need_sat ⟨ILeL.refl _,c26 b h.b (by omega)⟩ (need_sat ⟨.cons (.refl _) (.cons (ile_eq (by rw[eO_n h0])) (.refl _)),c27t [] (by simp)⟩ (need_sat (eff_b (decide_eq_true rfl)) (need_sat ⟨⟨by rw[List.length_map];exact pvR_len _ _,trivial⟩,.cons (ile_pdu (rdP (ownN b)) _ _ (.refl _) (.nil _ _ _)) (.cons (ile_eq (by rw[e1])) (.refl _)),c17t (rdP (ownN b)) (by show 0≤_;omega) (by show (cP (ownN b)).length≤_;omega),rfl⟩ (need_sat (eff_b (decide_eq_true e2.symm)) (need_sat (eff_b (decide_eq_true e3.symm)) (need_sat ⟨ALeL.refl _,g18y (zQ b) _ (cP (ownN b)) (pvR_len _ _).symm (by omega)⟩ (need_sat rfl (fin5z h1 h2 ⟨_,rfl,.refl _⟩)))))))))))
theorem q5zz (p:Pdu)(b:List Int)(h:H5 p b)(h0:¬chk p=0)(hz:¬(gd b∧(kR1 (ownN b)=10∨kR1 (ownN b)=11))):ASpec prog 5 [encD p,slE 1 u8 b] (bo true):=by
 refine ASpec.treeW Proofs.Try.f5 (T5zz p b) (by kernel_rfl) (by kernel_rfl) (t5zz p b) (beg5 (fun h1 h2=>?_) ⟨_,rfl,.refl _⟩)
 have g1:=great_le h1
 obtain⟨n1,n2⟩:=dec_nil hz
 exact need_sat ⟨ILeL.refl _,c21z p h.w h0⟩ (need_sat ⟨ILeL.refl _,c25 p h.r (by omega) (by omega)⟩ (need_sat ⟨ILeL.refl _,c22 b h.b (by omega)⟩ (need_sat ⟨ILeL.refl _,c26 b h.b (by omega)⟩ (need_sat ⟨.cons (.refl _) (.cons (ile_eq (by rw[eO_n h0])) (.refl _)),c27t [] (by simp)⟩ (need_sat (eff_b (decide_eq_true rfl)) (need_sat ⟨ILeL.refl _,c17t _ (by rw[n1];exact Nat.zero_le _) (by rw[n2];exact Nat.zero_le _)⟩ (need_sat (eff_b (decide_eq_true rfl)) (need_sat (eff_b (decide_eq_true rfl)) (need_sat ⟨ILeL.refl _,c18 _ n1 n2⟩ (need_sat rfl (fin5z h1 h2 ⟨_,rfl,.refl _⟩)))))))))))
theorem c5 (p:Pdu)(b:List Int)(hw:wfB p)(hr:p.rng)(hb:byteL b):ASpec prog 5 [encD p,slE 1 u8 b] (bo true):=by
 have h:H5 p b:=⟨hw,hr,hb⟩
 by_cases h0:chk p=0<;>by_cases hz:gd b∧(kR1 (ownN b)=10∨kR1 (ownN b)=11)
 ·obtain⟨hg,hk|hk⟩:=hz
  ·exact q5oe p b h h0 hg hk
  ·exact q5op p b h h0 hg hk
 ·exact q5oz p b h h0 hz
 ·obtain⟨hg,hk|hk⟩:=hz
  ·exact q5ze p b h h0 hg hk
  ·exact q5zp p b h h0 hg hk
 ·exact q5zz p b h h0 hz
end Gp
namespace Gp
open Go.ChangeShapes Go.WideShapes Go.ChangeAt Go.RowKit
open Go.Proofs Go.Proofs.Ytnfdbpopcfcegaa
theorem own :ownKnob prog.godebug=none:=by kernel_rfl
theorem laidOut :laidOutB prog=true:=by kernel_rfl
def isStruct :Option TypeDesc→Bool
 |some (.struct _)=>true
 |_=>false
theorem isStruct_spec {x:Option TypeDesc}(h:isStruct x=true):∃fs,x=some (.struct fs):=by
 unfold isStruct at h;split at h
 ·exact⟨_,rfl⟩
 ·cases h
theorem us42 :∃fs,prog.underlying 42=some (.struct fs):=isStruct_spec (by kernel_rfl)
theorem ul40 :∃e,prog.underlying 40=some (.slice e):=⟨_,show prog.underlying 40=some (.slice 5) by kernel_rfl⟩
theorem ubool :prog.underlying 4=some .bool:=by kernel_rfl
theorem paramsL :Proofs.Try.f5.params.toList=[42,40]:=by kernel_rfl
set_option maxRecDepth 100000 in
theorem walk (W:World){H:Type}{enc:TypeId×Value→H}{f0 f1:Nat}{v0:Array Value}{v1:Value}{x0 x1:DataW H×List MemPlace}{held:Bool}{sp:Nat→Bool}(h0:DataW.trod enc prog W 0 sp held f0 42 (Value.agg v0).cells.toList=some x0)(h1:DataW.trod enc prog W 0 sp held f1 40 [v1]=some x1):
  Calls prog 5 #[.agg v0,v1] W fun e W'=>e=.returned (.bool true)∧Below W.heap.size W W':=by
 obtain⟨y0,r0,g0⟩:=rd42 h0
 obtain⟨y1,r1,g1⟩:=rd40 h1
 have hm:maxLen=2^63-1:=rfl
 refine((c5 y0 y1 g0.1 g0.2.2.2 g1.1).2 W (allF W) #[.agg v0,v1] (fun c b h=>h.2) (fun b h=>by cases h.1) (ic r0 (ic r1 in0))).mono ?_
 rintro e W' ⟨v,F',rfl,hb,_,_,_,_,hv⟩
 rw[bo,IRep]at hv
 rw[hv.1]
 exact⟨rfl,hb⟩
set_option maxRecDepth 100000 in
theorem lifted (os:Os)(started:os.Started)(H:Type)(enc:TypeId×Value→H):
  ReturnsInHanded {} Proofs.Try.checked os 5 .any (Rows.pduCodesSpec.pre6 enc prog Proofs.Try.f5 Rows.pduCodesRow.domain false) (Rows.pduCodesSpec.post enc prog Proofs.Try.f5 false true false false):=by
 refine returnsInHanded_of_change (C:=Proofs.Try.checked) own started (by kernel_rfl) (show prog.funcs[5]?=some Proofs.Try.f5 by kernel_rfl)
  (ChangeSpec.witness6 (enc:=enc) (C:=Proofs.Try.checked) false ⟨#[],#[.agg #[.int .u8 0,.int .u8 0,.int .u16 0,.int .u32 0,.bool false,.int .u32 0,.int .u8 0,.int .u64 0,.int .u64 0,.int .i64 0,.int .i64 0,.int .u32 0,.slice none 0 0,.int .u32 0,.int .u8 0,.int .u8 0,.int .u8 0,.int .u8 0,.int .u8 0,.int .u8 0,.int .u8 0,.int .u8 0,.int .u8 0,.int .u8 0,.int .u8 0,.int .u8 0,.int .u8 0,.int .u8 0,.int .u8 0,.int .u8 0,.int .i64 0,.int .u32 0,.int .u32 0,.int .u32 0,.int .u16 0,.slice none 0 0,.string .empty],.slice none 0 0],[]⟩ 8 (by kernel_rfl) (by kernel_rfl) (by kernel_rfl) (by kernel_rfl)) ?_
 intro W base args ds gs before hval0 hW hcnd _
 have hval:∀(j:Nat) t v,Proofs.Try.f5.params[j]?=some t→args[j]?=some v→Value.okWide prog W .any base t v:=hval0
 have hW':=hW
 obtain⟨p,q,hA0,hV,rfl,hfz,hnd⟩:=hW
 have hA:DataW.TrodAll enc prog W 0 (fun _=>true) true Proofs.Try.f5.params.toList args.toList ds p:=hA0
 rw[paramsL]at hA
 have hp0:Proofs.Try.f5.params[0]?=some 42:=by kernel_rfl
 have hp1:Proofs.Try.f5.params[1]?=some 40:=by kernel_rfl
 obtain⟨u0,us0,d0,ds0,p0,q0,hargs,rfl,rfl,h0,r0⟩:=trodAll_cons hA
 obtain⟨u1,us1,d1,ds1,p1,q1,rfl,rfl,rfl,h1,r1⟩:=trodAll_cons r0
 obtain⟨rfl,rfl,rfl⟩:=trodAll_nil r1
 obtain rfl:args=#[u0,u1]:=by cases args;simp_all
 obtain⟨rfl,rfl⟩:=trodVars_none hV
 obtain⟨fs0,uu0⟩:=us42
 obtain⟨a0,rfl,_⟩:=okWide_struct uu0 (hval 0 42 u0 hp0 rfl)
 have k0:=h0
 have lt0:∀x∈p0,x.block<W.heap.size:=by obtain⟨m,hm⟩:=k0;exact DataW.trod_lt m _ _ _ hm
 obtain⟨fs1,uu1⟩:=ul40
 obtain⟨a1,ln1,cp1,rfl⟩:=okWide_slice uu1 (hval 1 40 u1 hp1 rfl)
 have k1:=h1
 have lt1:∀x∈p1,x.block<W.heap.size:=by obtain⟨m,hm⟩:=k1;exact DataW.trod_lt m _ _ _ hm
 obtain⟨ff0,e0⟩:=h0
 obtain⟨ff1,e1⟩:=h1
 clear hA0 hval0
 refine(walk W e0 e1).mono fun e W'⟨he,bel⟩=>?_
 subst he
 exact⟨_,rfl,_,_,_,[],_,[],hW',trodAll_mk1 (shut_bool ubool _),
  (trodAll_cons_mk (Below.trod laidOut (by kernel_rfl) (of_decide_eq_true (by kernel_rfl)) k0 bel lt0) (trodAll_cons_mk (Below.trod laidOut (by kernel_rfl) (of_decide_eq_true (by kernel_rfl)) k1 bel lt1) trodAll_mk0)),rfl,bel.frame _,fun h=>by cases h⟩
theorem over :Rows.pduCodesRow.holds Ytnfdbpopcfcegaa.Try.pinned (OpenSpec.ofChange Rows.pduCodesSpec):=
 OpenClaim.holds_of_wide 5 Proofs.Try.f5 rfl rfl rfl rfl rfl rfl rfl ⟨rfl,rfl,rfl,rfl,rfl⟩ rfl rfl rfl rfl rfl (by kernel_rfl) (show prog.funcs[5]?=some Proofs.Try.f5 by kernel_rfl) (by kernel_rfl)
  (of_decide_eq_true (by kernel_rfl)) (by unfold Func.isWrapper;first|(rw[if_pos (by decide+kernel)];kernel_rfl)|(rw[if_neg (by decide+kernel)];exact⟨rfl,rfl⟩))
  (fun os started H enc _=>lifted os started H enc)
theorem proved :Rows.PduCodesSaid:=over
end Gp
namespace Go.Proofs.Ytnfdbpopcfcegaa
theorem pduCodes_holds : Rows.PduCodesSaid := Gp.proved
#print axioms pduCodes_holds
end Go.Proofs.Ytnfdbpopcfcegaa
