/- Part 4 of the walk and of the plain law of PduCuts. -/
import Derived.Test.YtnfdbpopcfcegaaW3
set_option maxRecDepth 100000
set_option maxHeartbeats 0
set_option linter.unusedVariables false
set_option linter.unusedSimpArgs false
open Go Go.Abs
noncomputable section
namespace Gp
def mP (m:Pdu)(x:AVal):AVal:=.agg [.imm (u8 m.version),.imm (u8 m.kind),.imm (u16 m.session),.imm (u32 m.serial),.imm (bo m.add),.imm (u32 m.origin.asn),.imm (u8 m.origin.pfx.fam),.imm (u64 m.origin.pfx.addr.hi),.imm (u64 m.origin.pfx.addr.lo),.imm (i64 m.origin.pfx.len),.imm (i64 m.origin.max),.imm (u32 m.path.cust),x,
 .imm (u32 m.key.asn),.imm (u8 m.key.root[0]),.imm (u8 m.key.root[1]),.imm (u8 m.key.root[2]),.imm (u8 m.key.root[3]),.imm (u8 m.key.root[4]),.imm (u8 m.key.root[5]),.imm (u8 m.key.root[6]),.imm (u8 m.key.root[7]),.imm (u8 m.key.root[8]),.imm (u8 m.key.root[9]),.imm (u8 m.key.root[10]),.imm (u8 m.key.root[11]),.imm (u8 m.key.root[12]),.imm (u8 m.key.root[13]),.imm (u8 m.key.root[14]),.imm (u8 m.key.root[15]),.imm (i64 m.key.height),
 .imm (u32 m.refresh),.imm (u32 m.retry),.imm (u32 m.expire),.imm (u16 m.code),.imm (.v (.slice none 0 0)),.imm (st m.text)]
def zP (v k s:Int)(a:Bool)(c u:Int):Pdu:=⟨v,k,s,0,a,⟨0,⟨0,⟨0,0⟩,0⟩,0⟩,⟨u,[]⟩,⟨0,Vector.replicate 16 0,0⟩,0,0,0,c,[],.empty⟩
def pvR (l:List Int)(n:Nat):List Int:=(List.range n).map fun j:Nat=>gu32 (l.drop (4*j))
theorem pvR_succ (l:List Int)(n:Nat):pvR l (n+1)=pvR l n++[gu32 (l.drop (4*n))]:=by simp[pvR,List.range_succ]
theorem pvR_len (l:List Int)(n:Nat):(pvR l n).length=n:=by simp[pvR]
def I74 (ls:Nat→Abs.Loc)(m:Pdu)(l:List Int)(i:Nat):LState:={t:=[(1,.ptr 1 0),(0,.ptr 0 0)],s:=[(0,.bbox (ls 0) 85 (mP m (.own 50 i))),(1,.bbox (ls 1) 92 (sR (l.drop (4*i)))),(50,.row 23 1 ((pvR l i).map u32))],m:=34,n:=60}
def E74 (ls:Nat→Abs.Loc)(m:Pdu)(l:List Int)(n:Nat):LState:={t:=[],s:=[(0,.bbox (ls 0) 85 (mP m (.own 50 n))),(1,.bbox (ls 1) 92 (sR [])),(50,.row 23 1 ((pvR l n).map u32))],m:=34,n:=60}
def fin74 :Exit→Nat→Fin
 |.normal,n=>⟨[(50,59),(n-6,50)],[1,0],[0,1,50]⟩
 |_,_=>⟨[],[],[0,1,50]⟩
def T74r (ls:Nat→Abs.Loc)(m:Pdu)(l:List Int)(i:Nat):Tell:=
 Tell.mk (fun r i=>(Tell.mk (fun r i=>r==2&&i==8) (fun x x_1=>Orc.no) (fun x=>Tree.fail 1000003 0) (fun x=>0) (fun x=>([],[])) (fun x x_1 x_2=>Orc.no) fun x x_1=>Tree.fail 1000003 0).fz r i||fget [(2,8)] r i) (fun x x_1=>Orc.no) (fun x=>Tree.fail 1000003 0) (fun x=>0) (fun x=>([],[])) (oget [(66,2,8,Orc.callb 1 [.ptr 0 0,.imm (i64 4)] 92 (.agg [.imm (slE 1 u8 (List.drop (Int.toNat 4) (List.drop (4*i) l)))]) (u64 (getV (List.drop (4*i) l) 4)))]) fun x x_1=>Tree.fail 1000003 0
theorem t74r (ls:Nat→Abs.Loc)(m:Pdu)(l:List Int)(i:Nat):levLN prog Proofs.Try.f74 1 (I74 ls m l i) (T74r ls m l i) fin74=
 (let q0:=List.drop (4*i) l;let q1:=List.map u32 (pvR l i);
 Tree.br (decide (0<(↑(List.length (List.map u8 q0)):Int))) (.need (ALeL [.ptr 0 0,.imm (i64 4)] [.ptr 0 0,.imm (i64 4)]∧GSpec prog 42 [(92,.agg [.imm (slE 1 u8 q0)])] [] [.ptr 0 0,.imm (i64 4)] [(92,.agg [.imm (slE 1 u8 (List.drop 4 q0))])] [] (.imm (u64 (getV q0 4)))) (.need (askA (some (1=1)) (List.length q1=i∧cellsOk q1=true∧true=true∧i+1≤1000000)) (.done Exit.normal (LState.mk [(1,.ptr 1 0),(0,.ptr 0 0)] [(0,Entry.bbox (ls 0) 85 (.agg [.imm (u8 m.version),.imm (u8 m.kind),.imm (u16 m.session),.imm (u32 m.serial),.imm (bo m.add),.imm (u32 m.origin.asn),.imm (u8
 m.origin.pfx.fam),.imm (u64 m.origin.pfx.addr.hi),.imm (u64 m.origin.pfx.addr.lo),.imm (i64 m.origin.pfx.len),.imm (i64 m.origin.max),.imm (u32 m.path.cust),.own 50 (i+1),.imm (u32 m.key.asn),.imm (u8 m.key.root[0]),.imm (u8 m.key.root[1]),.imm (u8 m.key.root[2]),.imm (u8 m.key.root[3]),.imm (u8 m.key.root[4]),.imm (u8 m.key.root[5]),.imm (u8 m.key.root[6]),.imm (u8 m.key.root[7]),.imm (u8 m.key.root[8]),.imm (u8 m.key.root[9]),.imm (u8 m.key.root[10]),.imm (u8 m.key.root[11]),.imm (u8 m.key.root[12]),.imm (u8 m.key.root[13]),.imm (u8 m.key.root[14]),.imm (u8 m.key.root[15]),.imm (i64
 m.key.height),.imm (u32 m.refresh),.imm (u32 m.retry),.imm (u32 m.expire),.imm (u16 m.code),.imm nS,.imm (st m.text)])),(1,Entry.bbox (ls 1) 92 (.agg [.imm (slE 1 u8 (List.drop 4 q0))])),(50,Entry.row 23 1 (List.map u32 (pvR l i)++[u32 (IntKind.wrap IntKind.u32 (getV q0 4))]))] 34 83 [])))) (.done (Exit.exit 0) (LState.mk [] [(0,Entry.bbox (ls 0) 85 (mP m (.own 50 i))),(1,Entry.bbox (ls 1) 92 (sR q0)),(50,Entry.row 23 1 q1)] 34 66 []))):=by kernel_rfl
def T74 (ls:Nat→Abs.Loc)(v k s:Int)(a:Bool)(c:Int)(l:List Int)(n:Nat):Tell:=
 (let q0:=E74 ls (zP v k s a c (gu32 l)) (List.drop 4 l) n;
 Tell.mk (fun x x_1=>false) (fun x x_1=>Orc.no) (fun x=>Tree.done (Exit.exit 0) q0) (fun x=>0) (fun x=>([1,0],[0,1])) (oget [(2,0,2,Orc.callg [1] 1 [.ptr 0 0,.imm (i64 4)] [(92,.agg [.imm (slE 1 u8 (List.drop (Int.toNat 4) l))])] [] (.imm (u64 (getV l 4))))]) fun x x_1=>Tree.done (Exit.exit 0) q0)
theorem t74 (ls:Nat→Abs.Loc)(v k s:Int)(a:Bool)(c:Int)(l:List Int)(n:Nat):levG prog Proofs.Try.f74 ls (two (z1 v k s a c) l) [] [.ptr 0 0,.ptr 1 0] [(85,mP (zP v k s a c (gu32 l)) (.own 2 n)),(92,sR [])] [.row 23 1 ((pvR (l.drop 4) n).map u32)] (.tup []) (T74 ls v k s a c l n)=
 (let q0:=zP v k s a c (gu32 l);let q1:=z1 v k s a c;let q2:=List.drop 4 l;
 Tree.need (ALeL [.ptr 0 0,.imm (i64 4)] [.ptr 0 0,.imm (i64 4)]∧GSpec prog 42 [(92,.agg [.imm (slE 1 u8 l)])] [] [.ptr 0 0,.imm (i64 4)] [(92,.agg [.imm (slE 1 u8 q2)])] [] (.imm (u64 (getV l 4)))) (.loop 1 (LState.mk [(1,.ptr 1 0),(0,.ptr 0 0)] [(0,Entry.bbox (ls 0) 85 (.agg [.imm (u8 q1.version),.imm (u8 q1.kind),.imm (u16 q1.session),.imm (u32 q1.serial),.imm (bo q1.add),.imm (u32 q1.origin.asn),.imm (u8 q1.origin.pfx.fam),.imm (u64 q1.origin.pfx.addr.hi),.imm (u64 q1.origin.pfx.addr.lo),.imm (i64 q1.origin.pfx.len),.imm (i64 q1.origin.max),.imm (u32 (IntKind.wrap IntKind.u32 (getV l
 4))),.imm nS,.imm (u32 q1.key.asn),.imm (u8 0),.imm (u8 0),.imm (u8 0),.imm (u8 0),.imm (u8 0),.imm (u8 0),.imm (u8 0),.imm (u8 0),.imm (u8 0),.imm (u8 0),.imm (u8 0),.imm (u8 0),.imm (u8 0),.imm (u8 0),.imm (u8 0),.imm (u8 0),.imm (i64 q1.key.height),.imm (u32 q1.refresh),.imm (u32 q1.retry),.imm (u32 q1.expire),.imm (u16 q1.code),.imm nS,.imm (st q1.text)])),(1,Entry.bbox (ls 1) 92 (.agg [.imm (slE 1 u8 q2)]))] 34 11 []) (.done (Exit.exit 0) (E74 ls q0 q2 n)) (.need ([(ls 0,85,AVal.agg [AVal.imm (u8 q0.version),AVal.imm (u8 q0.kind),AVal.imm (u16 q0.session),AVal.imm (u32 q0.serial),AVal.imm
 (bo q0.add),AVal.imm (u32 q0.origin.asn),AVal.imm (u8 q0.origin.pfx.fam),AVal.imm (u64 q0.origin.pfx.addr.hi),AVal.imm (u64 q0.origin.pfx.addr.lo),AVal.imm (i64 q0.origin.pfx.len),AVal.imm (i64 q0.origin.max),AVal.imm (u32 q0.path.cust),AVal.own 2 n,AVal.imm (u32 q0.key.asn),AVal.imm (u8 0),AVal.imm (u8 0),AVal.imm (u8 0),AVal.imm (u8 0),AVal.imm (u8 0),AVal.imm (u8 0),AVal.imm (u8 0),AVal.imm (u8 0),AVal.imm (u8 0),AVal.imm (u8 0),AVal.imm (u8 0),AVal.imm (u8 0),AVal.imm (u8 0),AVal.imm (u8 0),AVal.imm (u8 0),AVal.imm (u8 0),AVal.imm (i64 q0.key.height),AVal.imm (u32 q0.refresh),AVal.imm (u32
 q0.retry),AVal.imm (u32 q0.expire),AVal.imm (u16 q0.code),AVal.imm nS,AVal.imm (st q0.text)]),(ls 1,92,AVal.agg [AVal.imm (slE 1 u8 [])])]=[(ls 0,85,AVal.agg [AVal.imm (u8 q0.version),AVal.imm (u8 q0.kind),AVal.imm (u16 q0.session),AVal.imm (u32 q0.serial),AVal.imm (bo q0.add),AVal.imm (u32 q0.origin.asn),AVal.imm (u8 q0.origin.pfx.fam),AVal.imm (u64 q0.origin.pfx.addr.hi),AVal.imm (u64 q0.origin.pfx.addr.lo),AVal.imm (i64 q0.origin.pfx.len),AVal.imm (i64 q0.origin.max),AVal.imm (u32 q0.path.cust),AVal.own 2 n,AVal.imm (u32 q0.key.asn),AVal.imm (u8 0),AVal.imm (u8 0),AVal.imm (u8 0),AVal.imm
 (u8 0),AVal.imm (u8 0),AVal.imm (u8 0),AVal.imm (u8 0),AVal.imm (u8 0),AVal.imm (u8 0),AVal.imm (u8 0),AVal.imm (u8 0),AVal.imm (u8 0),AVal.imm (u8 0),AVal.imm (u8 0),AVal.imm (u8 0),AVal.imm (u8 0),AVal.imm (i64 q0.key.height),AVal.imm (u32 q0.refresh),AVal.imm (u32 q0.retry),AVal.imm (u32 q0.expire),AVal.imm (u16 q0.code),AVal.imm nS,AVal.imm (st q0.text)]),(ls 1,92,AVal.agg [AVal.imm (slE 1 u8 [])])]∧ELeL [Entry.row 23 1 (List.map u32 (pvR q2 n))] [Entry.row 23 1 (List.map u32 (pvR q2 n))]∧ALe (.tup []) (.tup [])) (.done Exit.ret lnil)))):=by kernel_rfl
theorem l74 (ls:Nat→Abs.Loc)(m:Pdu)(l:List Int)(n:Nat)(hn:l.length=4*n)(hl:n≤100000)(σ:LState)(h:LSub σ (I74 ls m l 0)):LoopOk prog [] (bodyOf Proofs.Try.f74) 1 σ (.done (.exit 0) (E74 ls m l n)):=by
 refine LoopOk.countN n 0 (I74 ls m l) (E74 ls m l n) (T74r ls m l) fin74 (by kernel_rfl) h fun i hi=>?_
 rw[t74r]
 have hd:(l.drop (4*i)).length=4*(n-i):=by rw[List.length_drop,hn];omega
 refine⟨fun h1=>need_sat ⟨ALeL.refl _,g42 _ _ ?_ ?_ ?_⟩ (need_sat ?_ ?_),fun h1=>?_⟩
 ·omega
 ·rw[hd];simp[hd]at h1;omega
 ·omega
 ·exact⟨⟨by simp[pvR_len],cellsOk_map u32 (fun _=>rfl) _,rfl,by omega⟩,rfl⟩
 ·have hlt:i<n:=by simp[hd]at h1;omega
  refine⟨hlt,⟨rfl,rfl,trivial⟩,⟨rfl,?_,?_,trivial⟩,rfl,rfl,rfl⟩
  ·rw[List.drop_drop,show 4*i+4=4*(i+1) by omega];rfl
  ·rw[pvR_succ,List.map_append];rfl
 ·have:i=n:=by simp[hd]at h1;omega
  subst this
  rw[show l.drop (4*i)=[]from List.length_eq_zero_iff.1 (by omega)]
  exact⟨rfl,by omega,trivial,⟨rfl,rfl,rfl,trivial⟩,rfl,rfl,rfl⟩
theorem q74 (v k s:Int)(a:Bool)(c:Int)(l:List Int)(n:Nat)(hn:l.length=4+4*n)(hl:n≤100000):GSpec prog 74 (two (z1 v k s a c) l) [] [.ptr 0 0,.ptr 1 0] [(85,mP (zP v k s a c (gu32 l)) (.own 2 n)),(92,sR [])] [.row 23 1 ((pvR (l.drop 4) n).map u32)] (.tup []):=by
 refine GSpec.tree Proofs.Try.f74 (fun ls=>T74 ls v k s a c l n) (by kernel_rfl) (by kernel_rfl) rfl fun ls=>?_
 rw[t74]
 refine need_sat ⟨ALeL.refl _,g42 _ _ ?_ ?_ ?_⟩ ⟨?_,need_sat ?_ (trivial)⟩
 ·omega
 ·omega
 ·omega
 ·refine .nam (τ:=I74 ls (zP v k s a c (gu32 l)) (l.drop 4) 0) (.cell 0 12 50 23 1 (show 11≤50 by decide) (.more 60 (show 51≤60 by decide) (.sub ?_))) (l74 ls _ (l.drop 4) n (by simp;omega) hl _ ?_)
  ·exact⟨⟨rfl,rfl,trivial⟩,⟨rfl,rfl,rfl,trivial⟩,rfl,rfl,rfl⟩
  ·exact⟨⟨rfl,rfl,trivial⟩,⟨rfl,rfl,rfl,trivial⟩,rfl,rfl,rfl⟩
 ·exact⟨rfl,.refl _,.refl _⟩
def pN (l:List Int):Nat:=(l.length-4)/4
theorem g74 (v k s:Int)(a:Bool)(c:Int)(l:List Int)(hn:l.length=4+4*pN l)(hl:pN l≤100000):GSpec prog 74 (two (z1 v k s a c) l) [] [.ptr 0 0,.ptr 1 0] [(85,mP (zP v k s a c (gu32 l)) (.own 2 (pN l))),(92,sR [])] [.row 23 1 ((pvR (l.drop 4) (pN l)).map u32)] (.tup []):=q74 v k s a c l (pN l) hn hl
end Gp
namespace Gp
theorem c33 (l:List Int)(hl:l.length≤1000000):ASpec prog 33 [slE 1 u8 l] (slF 1 u8 l):=clone_spec (fn:=Proofs.Try.f33) (by kernel_rfl) (by kernel_rfl) (by kernel_rfl) (fun _=>rfl) hl
def mC (m:Pdu)(x:AVal):AVal:=.agg [.imm (u8 m.version),.imm (u8 m.kind),.imm (u16 m.session),.imm (u32 m.serial),.imm (bo m.add),.imm (u32 m.origin.asn),.imm (u8 m.origin.pfx.fam),.imm (u64 m.origin.pfx.addr.hi),.imm (u64 m.origin.pfx.addr.lo),.imm (i64 m.origin.pfx.len),.imm (i64 m.origin.max),.imm (u32 m.path.cust),.imm (.v (.slice none 0 0)),
 .imm (u32 m.key.asn),.imm (u8 m.key.root[0]),.imm (u8 m.key.root[1]),.imm (u8 m.key.root[2]),.imm (u8 m.key.root[3]),.imm (u8 m.key.root[4]),.imm (u8 m.key.root[5]),.imm (u8 m.key.root[6]),.imm (u8 m.key.root[7]),.imm (u8 m.key.root[8]),.imm (u8 m.key.root[9]),.imm (u8 m.key.root[10]),.imm (u8 m.key.root[11]),.imm (u8 m.key.root[12]),.imm (u8 m.key.root[13]),.imm (u8 m.key.root[14]),.imm (u8 m.key.root[15]),.imm (i64 m.key.height),
 .imm (u32 m.refresh),.imm (u32 m.retry),.imm (u32 m.expire),.imm (u16 m.code),x,.imm (st m.text)]
def zT (v k s:Int)(a:Bool)(c:Int)(t:ByteArray):Pdu:=⟨v,k,s,0,a,⟨0,⟨0,⟨0,0⟩,0⟩,0⟩,⟨0,[]⟩,⟨0,Vector.replicate 16 0,0⟩,0,0,0,c,[],t⟩
def gn (l:List Int):Int:=IntKind.i64.wrap (getV l 4)
def fL1 (l:List Int):List Int:=(l.drop 4).drop (gn l).toNat
def fCopy (l:List Int):List Int:=(l.drop 4).take (gn l).toNat
def fText (l:List Int):List Int:=((fL1 l).drop 4).take (gn (fL1 l)).toNat
def fRest (l:List Int):List Int:=((fL1 l).drop 4).drop (gn (fL1 l)).toNat
def T71 (ls:Nat→Abs.Loc)(v k s:Int)(a:Bool)(c:Int)(l:List Int):Tell:=
 (let q0:=List.drop (Int.toNat (IntKind.wrap IntKind.i64 (getV l 4))) (List.drop 4 l);let q1:=List.take (Int.toNat (IntKind.wrap IntKind.i64 (getV l 4))) (List.drop 4 l);let q2:=IntKind.wrap IntKind.i64 (getV q0 4);let q3:=List.take (Int.toNat q2) (List.drop 4 q0);
 Tell.mk (fun x x_1=>false) (fun x x_1=>Orc.no) (fun x=>Tree.fail 1000003 0) (fun x=>0) (fun x=>([],[])) (oget [(2,0,3,Orc.callg [1] 1 [.ptr 0 0,.imm (i64 4)] [(92,.agg [.imm (slE 1 u8 (List.drop (Int.toNat 4) l))])] [] (.imm (u64 (getV l 4)))),(2,0,5,Orc.callg [1] 1 [.ptr 0 0,.imm (i64 (IntKind.wrap IntKind.i64 (getV l 4)))] [(92,.agg [.imm (slE 1 u8 q0)])] [] (.imm (slE 1 u8 q1))),(2,0,6,Orc.call [slE 1 u8 q1] (slF 1 u8 q1)),(13,1,3,Orc.callg [1] 1 [.ptr 0 0,.imm (i64 4)] [(92,.agg [.imm (slE 1 u8 (List.drop (Int.toNat 4) q0))])] [] (.imm (u64 (getV q0 4)))),(13,1,5,Orc.callg [1] 1
 [.ptr 0 0,.imm (i64 q2)] [(92,.agg [.imm (slE 1 u8 (List.drop (Int.toNat q2) (List.drop 4 q0)))])] [] (.imm (slE 1 u8 q3))),(13,1,6,Orc.tos q3)]) fun x x_1=>Tree.fail 1000003 0)
theorem t71 (ls:Nat→Abs.Loc)(v k s:Int)(a:Bool)(c:Int)(l:List Int):levG prog Proofs.Try.f71 ls (two (z1 v k s a c) l) [] [.ptr 0 0,.ptr 1 0] [(85,mC (zT v k s a c (bstr (fText l))) (.imm (slF 1 u8 (fCopy l)))),(92,sR (fRest l))] [] (.tup []) (T71 ls v k s a c l)=
 (let q0:=List.drop (Int.toNat (IntKind.wrap IntKind.i64 (getV l 4))) (List.drop 4 l);let q1:=zT v k s a c (bstr (fText l));let q2:=List.take (Int.toNat (IntKind.wrap IntKind.i64 (getV l 4))) (List.drop 4 l);let q3:=IntKind.wrap IntKind.i64 (getV q0 4);let q4:=z1 v k s a c;let q5:=List.take (Int.toNat q3) (List.drop 4 q0);let q6:=i64 (IntKind.wrap IntKind.i64 (getV l 4));let q7:=slE 1 u8 (List.drop (Int.toNat q3) (List.drop 4 q0));
 Tree.need (ALeL [.ptr 0 0,.imm (i64 4)] [.ptr 0 0,.imm (i64 4)]∧GSpec prog 42 [(92,.agg [.imm (slE 1 u8 l)])] [] [.ptr 0 0,.imm (i64 4)] [(92,.agg [.imm (slE 1 u8 (List.drop 4 l))])] [] (.imm (u64 (getV l 4)))) (.need (ALeL [.ptr 0 0,.imm q6] [.ptr 0 0,.imm q6]∧GSpec prog 76 [(92,.agg [.imm (slE 1 u8 (List.drop 4 l))])] [] [.ptr 0 0,.imm q6] [(92,.agg [.imm (slE 1 u8 q0)])] [] (.imm (slE 1 u8 q2))) (.need (ILeL [slE 1 u8 q2] [slE 1 u8 q2]∧ASpec prog 33 [slE 1 u8 q2] (slF 1 u8 q2)) (.need (ALeL [.ptr 0 0,.imm (i64 4)] [.ptr 0 0,.imm (i64 4)]∧GSpec prog 42 [(92,.agg [.imm (slE 1 u8 q0)])]
 [] [.ptr 0 0,.imm (i64 4)] [(92,.agg [.imm (slE 1 u8 (List.drop 4 q0))])] [] (.imm (u64 (getV q0 4)))) (.need (ALeL [.ptr 0 0,.imm (i64 q3)] [.ptr 0 0,.imm (i64 q3)]∧GSpec prog 76 [(92,.agg [.imm (slE 1 u8 (List.drop 4 q0))])] [] [.ptr 0 0,.imm (i64 q3)] [(92,.agg [.imm q7])] [] (.imm (slE 1 u8 q5))) (.need (List.map u8 q5=List.map (fun n=>u8 n) q5) (.need ([(ls 0,85,AVal.agg [AVal.imm (u8 q4.version),AVal.imm (u8 q4.kind),AVal.imm (u16 q4.session),AVal.imm (u32 q4.serial),AVal.imm (bo q4.add),AVal.imm (u32 q4.origin.asn),AVal.imm (u8 q4.origin.pfx.fam),AVal.imm (u64
 q4.origin.pfx.addr.hi),AVal.imm (u64 q4.origin.pfx.addr.lo),AVal.imm (i64 q4.origin.pfx.len),AVal.imm (i64 q4.origin.max),AVal.imm (u32 q4.path.cust),AVal.imm nS,AVal.imm (u32 q4.key.asn),AVal.imm (u8 0),AVal.imm (u8 0),AVal.imm (u8 0),AVal.imm (u8 0),AVal.imm (u8 0),AVal.imm (u8 0),AVal.imm (u8 0),AVal.imm (u8 0),AVal.imm (u8 0),AVal.imm (u8 0),AVal.imm (u8 0),AVal.imm (u8 0),AVal.imm (u8 0),AVal.imm (u8 0),AVal.imm (u8 0),AVal.imm (u8 0),AVal.imm (i64 q4.key.height),AVal.imm (u32 q4.refresh),AVal.imm (u32 q4.retry),AVal.imm (u32 q4.expire),AVal.imm (u16 q4.code),AVal.imm (slF 1 u8
 q2),AVal.imm (IVal.v (Value.string (bstr q5)))]),(ls 1,92,AVal.agg [AVal.imm q7])]=[(ls 0,85,AVal.agg [AVal.imm (u8 q1.version),AVal.imm (u8 q1.kind),AVal.imm (u16 q1.session),AVal.imm (u32 q1.serial),AVal.imm (bo q1.add),AVal.imm (u32 q1.origin.asn),AVal.imm (u8 q1.origin.pfx.fam),AVal.imm (u64 q1.origin.pfx.addr.hi),AVal.imm (u64 q1.origin.pfx.addr.lo),AVal.imm (i64 q1.origin.pfx.len),AVal.imm (i64 q1.origin.max),AVal.imm (u32 q1.path.cust),AVal.imm nS,AVal.imm (u32 q1.key.asn),AVal.imm (u8 0),AVal.imm (u8 0),AVal.imm (u8 0),AVal.imm (u8 0),AVal.imm (u8 0),AVal.imm (u8 0),AVal.imm (u8
 0),AVal.imm (u8 0),AVal.imm (u8 0),AVal.imm (u8 0),AVal.imm (u8 0),AVal.imm (u8 0),AVal.imm (u8 0),AVal.imm (u8 0),AVal.imm (u8 0),AVal.imm (u8 0),AVal.imm (i64 q1.key.height),AVal.imm (u32 q1.refresh),AVal.imm (u32 q1.retry),AVal.imm (u32 q1.expire),AVal.imm (u16 q1.code),AVal.imm (slF 1 u8 (fCopy l)),AVal.imm (st q1.text)]),(ls 1,92,AVal.agg [AVal.imm (slE 1 u8 (fRest l))])]∧ELeL [] []∧ALe (.tup []) (.tup [])) (.done Exit.ret lnil)))))))):=by kernel_rfl
theorem g71 (v k s:Int)(a:Bool)(c:Int)(l:List Int)(h1:4≤l.length)(hl:l.length≤100000)(h2:0≤gn l)(h3:gn l+4≤l.length)(h4:4≤(fL1 l).length)(h5:0≤gn (fL1 l))(h6:gn (fL1 l)+4≤(fL1 l).length):
  GSpec prog 71 (two (z1 v k s a c) l) [] [.ptr 0 0,.ptr 1 0] [(85,mC (zT v k s a c (bstr (fText l))) (.imm (slF 1 u8 (fCopy l)))),(92,sR (fRest l))] [] (.tup []):=by
 refine GSpec.tree Proofs.Try.f71 (fun ls=>T71 ls v k s a c l) (by kernel_rfl) (by kernel_rfl) rfl fun ls=>?_
 rw[t71]
 refine need_sat ⟨ALeL.refl _,g42 _ _ ?_ ?_ ?_⟩ (need_sat ⟨ALeL.refl _,g76 _ _ ?_ ?_⟩ (need_sat ⟨ILeL.refl _,c33 _ ?_⟩ (need_sat ⟨ALeL.refl _,g42 _ _ ?_ ?_ ?_⟩ (need_sat ⟨ALeL.refl _,g76 _ _ ?_ ?_⟩ (need_sat ?_ (need_sat ?_ (trivial)))))))
 all_goals try first
  |assumption
  |omega
  |rfl
  |exact⟨rfl,.refl _,.refl _⟩
  |(simp only[List.length_drop,List.length_take];omega)
 ·show gn l≤_
  rw[List.length_drop];omega
 ·show (4:Int)≤((fL1 l).length:Int)
  omega
 ·show gn (fL1 l)≤(((fL1 l).drop 4).length:Int)
  rw[List.length_drop];omega
def zK (v k s:Int)(a:Bool)(c:Int)(key:RKey):Pdu:=⟨v,k,s,0,a,⟨0,⟨0,⟨0,0⟩,0⟩,0⟩,⟨0,[]⟩,key,0,0,0,c,[],.empty⟩
def T66 (ls:Nat→Abs.Loc)(v k s:Int)(a:Bool)(c:Int)(l:List Int)(r0 r1 r2 r3 r4 r5 r6 r7 r8 r9 ra rb rc rd re rf:Int)(l':List Int):Tell:=
 (let q0:=List.drop 4 l;
 Tell.mk (fun r i=>(Tell.mk (fun r i=>r==2&&(i==6||i==8)) (fun r i=>if(r==2&&i==9)=true then Orc.cpy [r0,r1,r2,r3,r4,r5,r6,r7,r8,r9,ra,rb,rc,rd,re,rf]else Orc.no) (fun x=>Tree.fail 1000003 0) (fun x=>0) (fun x=>([],[])) (fun x r i=>if(r==2&&i==9)=true then Orc.cpy [r0,r1,r2,r3,r4,r5,r6,r7,r8,r9,ra,rb,rc,rd,re,rf]else Orc.no) fun x x_1=>Tree.fail 1000003 0).fz r i||fget [(2,8)] r i) (fun r i=>if(r==2&&i==9)=true then Orc.cpy [r0,r1,r2,r3,r4,r5,r6,r7,r8,r9,ra,rb,rc,rd,re,rf]else Orc.no) (fun x=>Tree.fail 1000003 0) (fun x=>0) (fun x
 =>([],[])) (ogetO (fun r i=>if(r==2&&i==9)=true then Orc.cpy [r0,r1,r2,r3,r4,r5,r6,r7,r8,r9,ra,rb,rc,rd,re,rf]else Orc.no) [(2,0,2,Orc.callg [1] 1 [.ptr 0 0,.imm (i64 4)] [(92,.agg [.imm (slE 1 u8 (List.drop (Int.toNat 4) l))])] [] (.imm (u64 (getV l 4)))),(11,1,2,Orc.callg [1] 1 [.ptr 0 0,.imm (i64 1)] [(92,.agg [.imm (slE 1 u8 (List.drop (Int.toNat 1) q0))])] [] (.imm (u64 (getV q0 1)))),(21,2,8,Orc.callb 1 [.ptr 0 0,.imm (i64 16)] 92 (.agg [.imm (slE 1 u8 (List.drop (Int.toNat 16) (List.drop 1 q0)))]) (slE 1 u8 (List.take (Int.toNat 16) (List.drop 1 q0))))]) fun x x_1=>
 Tree.fail 1000003 0)
theorem t66 (ls:Nat→Abs.Loc)(v k s:Int)(a:Bool)(c:Int)(l:List Int)(r0 r1 r2 r3 r4 r5 r6 r7 r8 r9 ra rb rc rd re rf:Int)(l':List Int):levG prog Proofs.Try.f66 ls (two (z1 v k s a c) l) [] [.ptr 0 0,.ptr 1 0] [(85,mA (zK v k s a c ⟨gu32 l,#v[r0,r1,r2,r3,r4,r5,r6,r7,r8,r9,ra,rb,rc,rd,re,rf],gi (l.drop 4)⟩)),(92,sR l')] [] (.tup []) (T66 ls v k s a c l r0 r1 r2 r3 r4 r5 r6 r7 r8 r9 ra rb rc rd re rf l')=
 (let q3:=List.drop 4 l;let q0:=gi q3;let q1:=z1 v k s a c;let q2:=List.drop 1 q3;
 Tree.need (ALeL [.ptr 0 0,.imm (i64 4)] [.ptr 0 0,.imm (i64 4)]∧GSpec prog 42 [(92,.agg [.imm (slE 1 u8 l)])] [] [.ptr 0 0,.imm (i64 4)] [(92,.agg [.imm (slE 1 u8 q3)])] [] (.imm (u64 (getV l 4)))) (.need (ALeL [.ptr 0 0,.imm (i64 1)] [.ptr 0 0,.imm (i64 1)]∧GSpec prog 42 [(92,.agg [.imm (slE 1 u8 q3)])] [] [.ptr 0 0,.imm (i64 1)] [(92,.agg [.imm (slE 1 u8 q2)])] [] (.imm (u64 (getV q3 1)))) (.need (ALeL [.ptr 0 0,.imm (i64 16)] [.ptr 0 0,.imm (i64 16)]∧GSpec prog 76 [(92,.agg [.imm (slE 1 u8 q2)])] [] [.ptr 0 0,.imm (i64 16)] [(92,.agg [.imm (slE 1 u8 (List.drop 16 q2))])] [] (.imm (slE
 1 u8 (List.take 16 q2)))) (.need (List.map u8 (List.take 16 q2)=[u8 r0,u8 r1,u8 r2,u8 r3,u8 r4,u8 r5,u8 r6,u8 r7,u8 r8,u8 r9,u8 ra,u8 rb,u8 rc,u8 rd,u8 re,u8 rf]∧16=16) (.need ([(ls 0,85,AVal.agg [AVal.imm (u8 q1.version),AVal.imm (u8 q1.kind),AVal.imm (u16 q1.session),AVal.imm (u32 q1.serial),AVal.imm (bo q1.add),AVal.imm (u32 q1.origin.asn),AVal.imm (u8 q1.origin.pfx.fam),AVal.imm (u64 q1.origin.pfx.addr.hi),AVal.imm (u64 q1.origin.pfx.addr.lo),AVal.imm (i64 q1.origin.pfx.len),AVal.imm (i64 q1.origin.max),AVal.imm (u32 q1.path.cust),AVal.imm nS,AVal.imm (u32 (IntKind.wrap IntKind.u32
 (getV l 4))),AVal.imm (u8 r0),AVal.imm (u8 r1),AVal.imm (u8 r2),AVal.imm (u8 r3),AVal.imm (u8 r4),AVal.imm (u8 r5),AVal.imm (u8 r6),AVal.imm (u8 r7),AVal.imm (u8 r8),AVal.imm (u8 r9),AVal.imm (u8 ra),AVal.imm (u8 rb),AVal.imm (u8 rc),AVal.imm (u8 rd),AVal.imm (u8 re),AVal.imm (u8 rf),AVal.imm (i64 (IntKind.wrap IntKind.i64 (getV q3 1))),AVal.imm (u32 q1.refresh),AVal.imm (u32 q1.retry),AVal.imm (u32 q1.expire),AVal.imm (u16 q1.code),AVal.imm nS,AVal.imm (st q1.text)]),(ls 1,92,AVal.agg [AVal.imm (slE 1 u8 (List.drop 16 q2))])]=[(ls 0,85,AVal.agg [AVal.imm (u8 (zK v k s a c (RKey.mk (gu32 l)
 #v[r0,r1,r2,r3,r4,r5,r6,r7,r8,r9,ra,rb,rc,rd,re,rf] q0)).version),AVal.imm (u8 (zK v k s a c (RKey.mk (gu32 l) #v[r0,r1,r2,r3,r4,r5,r6,r7,r8,r9,ra,rb,rc,rd,re,rf] q0)).kind),AVal.imm (u16 (zK v k s a c (RKey.mk (gu32 l) #v[r0,r1,r2,r3,r4,r5,r6,r7,r8,r9,ra,rb,rc,rd,re,rf] q0)).session),AVal.imm (u32 (zK v k s a c (RKey.mk (gu32 l) #v[r0,r1,r2,r3,r4,r5,r6,r7,r8,r9,ra,rb,rc,rd,re,rf] q0)).serial),AVal.imm (bo (zK v k s a c (RKey.mk (gu32 l) #v[r0,r1,r2,r3,r4,r5,r6,r7,r8,r9,ra,rb,rc,rd,re,rf] q0)).add),AVal.imm (u32 (zK v k s a c (RKey.mk (gu32 l) #v[r0,r1,r2,r3,r4,r5,r6,r7,r8,r9,ra,rb,rc,rd,re,rf]
 q0)).origin.asn),AVal.imm (u8 (zK v k s a c (RKey.mk (gu32 l) #v[r0,r1,r2,r3,r4,r5,r6,r7,r8,r9,ra,rb,rc,rd,re,rf] q0)).origin.pfx.fam),AVal.imm (u64 (zK v k s a c (RKey.mk (gu32 l) #v[r0,r1,r2,r3,r4,r5,r6,r7,r8,r9,ra,rb,rc,rd,re,rf] q0)).origin.pfx.addr.hi),AVal.imm (u64 (zK v k s a c (RKey.mk (gu32 l) #v[r0,r1,r2,r3,r4,r5,r6,r7,r8,r9,ra,rb,rc,rd,re,rf] q0)).origin.pfx.addr.lo),AVal.imm (i64 (zK v k s a c (RKey.mk (gu32 l) #v[r0,r1,r2,r3,r4,r5,r6,r7,r8,r9,ra,rb,rc,rd,re,rf] q0)).origin.pfx.len),AVal.imm (i64 (zK v k s a c (RKey.mk (gu32 l) #v[r0,r1,r2,r3,r4,r5,r6,r7,r8,r9,ra,rb,rc,rd,re,rf]
 q0)).origin.max),AVal.imm (u32 (zK v k s a c (RKey.mk (gu32 l) #v[r0,r1,r2,r3,r4,r5,r6,r7,r8,r9,ra,rb,rc,rd,re,rf] q0)).path.cust),AVal.imm nS,AVal.imm (u32 (zK v k s a c (RKey.mk (gu32 l) #v[r0,r1,r2,r3,r4,r5,r6,r7,r8,r9,ra,rb,rc,rd,re,rf] q0)).key.asn),AVal.imm (u8 (zK v k s a c (RKey.mk (gu32 l) #v[r0,r1,r2,r3,r4,r5,r6,r7,r8,r9,ra,rb,rc,rd,re,rf] q0)).key.root[0]),AVal.imm (u8 (zK v k s a c (RKey.mk (gu32 l) #v[r0,r1,r2,r3,r4,r5,r6,r7,r8,r9,ra,rb,rc,rd,re,rf] q0)).key.root[1]),AVal.imm (u8 (zK v k s a c (RKey.mk (gu32 l) #v[r0,r1,r2,r3,r4,r5,r6,r7,r8,r9,ra,rb,rc,rd,re,rf]
 q0)).key.root[2]),AVal.imm (u8 (zK v k s a c (RKey.mk (gu32 l) #v[r0,r1,r2,r3,r4,r5,r6,r7,r8,r9,ra,rb,rc,rd,re,rf] q0)).key.root[3]),AVal.imm (u8 (zK v k s a c (RKey.mk (gu32 l) #v[r0,r1,r2,r3,r4,r5,r6,r7,r8,r9,ra,rb,rc,rd,re,rf] q0)).key.root[4]),AVal.imm (u8 (zK v k s a c (RKey.mk (gu32 l) #v[r0,r1,r2,r3,r4,r5,r6,r7,r8,r9,ra,rb,rc,rd,re,rf] q0)).key.root[5]),AVal.imm (u8 (zK v k s a c (RKey.mk (gu32 l) #v[r0,r1,r2,r3,r4,r5,r6,r7,r8,r9,ra,rb,rc,rd,re,rf] q0)).key.root[6]),AVal.imm (u8 (zK v k s a c (RKey.mk (gu32 l) #v[r0,r1,r2,r3,r4,r5,r6,r7,r8,r9,ra,rb,rc,rd,re,rf] q0)).key.root[7]),AVal.imm
 (u8 (zK v k s a c (RKey.mk (gu32 l) #v[r0,r1,r2,r3,r4,r5,r6,r7,r8,r9,ra,rb,rc,rd,re,rf] q0)).key.root[8]),AVal.imm (u8 (zK v k s a c (RKey.mk (gu32 l) #v[r0,r1,r2,r3,r4,r5,r6,r7,r8,r9,ra,rb,rc,rd,re,rf] q0)).key.root[9]),AVal.imm (u8 (zK v k s a c (RKey.mk (gu32 l) #v[r0,r1,r2,r3,r4,r5,r6,r7,r8,r9,ra,rb,rc,rd,re,rf] q0)).key.root[10]),AVal.imm (u8 (zK v k s a c (RKey.mk (gu32 l) #v[r0,r1,r2,r3,r4,r5,r6,r7,r8,r9,ra,rb,rc,rd,re,rf] q0)).key.root[11]),AVal.imm (u8 (zK v k s a c (RKey.mk (gu32 l) #v[r0,r1,r2,r3,r4,r5,r6,r7,r8,r9,ra,rb,rc,rd,re,rf] q0)).key.root[12]),AVal.imm (u8 (zK v k s a c
 (RKey.mk (gu32 l) #v[r0,r1,r2,r3,r4,r5,r6,r7,r8,r9,ra,rb,rc,rd,re,rf] q0)).key.root[13]),AVal.imm (u8 (zK v k s a c (RKey.mk (gu32 l) #v[r0,r1,r2,r3,r4,r5,r6,r7,r8,r9,ra,rb,rc,rd,re,rf] q0)).key.root[14]),AVal.imm (u8 (zK v k s a c (RKey.mk (gu32 l) #v[r0,r1,r2,r3,r4,r5,r6,r7,r8,r9,ra,rb,rc,rd,re,rf] q0)).key.root[15]),AVal.imm (i64 (zK v k s a c (RKey.mk (gu32 l) #v[r0,r1,r2,r3,r4,r5,r6,r7,r8,r9,ra,rb,rc,rd,re,rf] q0)).key.height),AVal.imm (u32 (zK v k s a c (RKey.mk (gu32 l) #v[r0,r1,r2,r3,r4,r5,r6,r7,r8,r9,ra,rb,rc,rd,re,rf] q0)).refresh),AVal.imm (u32 (zK v k s a c (RKey.mk (gu32 l)
 #v[r0,r1,r2,r3,r4,r5,r6,r7,r8,r9,ra,rb,rc,rd,re,rf] q0)).retry),AVal.imm (u32 (zK v k s a c (RKey.mk (gu32 l) #v[r0,r1,r2,r3,r4,r5,r6,r7,r8,r9,ra,rb,rc,rd,re,rf] q0)).expire),AVal.imm (u16 (zK v k s a c (RKey.mk (gu32 l) #v[r0,r1,r2,r3,r4,r5,r6,r7,r8,r9,ra,rb,rc,rd,re,rf] q0)).code),AVal.imm nS,AVal.imm (st (zK v k s a c (RKey.mk (gu32 l) #v[r0,r1,r2,r3,r4,r5,r6,r7,r8,r9,ra,rb,rc,rd,re,rf] q0)).text)]),(ls 1,92,AVal.agg [AVal.imm (slE 1 u8 l')])]∧ELeL [] []∧ALe (.tup []) (.tup [])) (.done Exit.ret lnil)))))):=by kernel_rfl
theorem take16 :∀m:List Int,16≤m.length→m.take 16=[m.getD 0 0,m.getD 1 0,m.getD 2 0,m.getD 3 0,m.getD 4 0,m.getD 5 0,m.getD 6 0,m.getD 7 0,m.getD 8 0,m.getD 9 0,m.getD 10 0,m.getD 11 0,m.getD 12 0,m.getD 13 0,m.getD 14 0,m.getD 15 0]
 |a0::a1::a2::a3::a4::a5::a6::a7::a8::a9::a10::a11::a12::a13::a14::a15::t,_=>rfl
 |[],h=>absurd h (by simp)
 |[_],h=>absurd h (by simp)
 |[_,_],h=>absurd h (by simp)
 |[_,_,_],h=>absurd h (by simp)
 |[_,_,_,_],h=>absurd h (by simp)
 |[_,_,_,_,_],h=>absurd h (by simp)
 |[_,_,_,_,_,_],h=>absurd h (by simp)
 |[_,_,_,_,_,_,_],h=>absurd h (by simp)
 |[_,_,_,_,_,_,_,_],h=>absurd h (by simp)
 |[_,_,_,_,_,_,_,_,_],h=>absurd h (by simp)
 |[_,_,_,_,_,_,_,_,_,_],h=>absurd h (by simp)
 |[_,_,_,_,_,_,_,_,_,_,_],h=>absurd h (by simp)
 |[_,_,_,_,_,_,_,_,_,_,_,_],h=>absurd h (by simp)
 |[_,_,_,_,_,_,_,_,_,_,_,_,_],h=>absurd h (by simp)
 |[_,_,_,_,_,_,_,_,_,_,_,_,_,_],h=>absurd h (by simp)
 |[_,_,_,_,_,_,_,_,_,_,_,_,_,_,_],h=>absurd h (by simp)
def kR (l:List Int):RKey:=⟨gu32 l,#v[(l.drop 5).getD 0 0,(l.drop 5).getD 1 0,(l.drop 5).getD 2 0,(l.drop 5).getD 3 0,(l.drop 5).getD 4 0,(l.drop 5).getD 5 0,(l.drop 5).getD 6 0,(l.drop 5).getD 7 0,(l.drop 5).getD 8 0,(l.drop 5).getD 9 0,(l.drop 5).getD 10 0,(l.drop 5).getD 11 0,(l.drop 5).getD 12 0,(l.drop 5).getD 13 0,(l.drop 5).getD 14 0,(l.drop 5).getD 15 0],gi (l.drop 4)⟩
theorem g66 (v k s:Int)(a:Bool)(c:Int)(l:List Int)(hl:21≤l.length):GSpec prog 66 (two (z1 v k s a c) l) [] [.ptr 0 0,.ptr 1 0] [(85,mA (zK v k s a c (kR l))),(92,sR (l.drop 21))] [] (.tup []):=by
 refine GSpec.tree Proofs.Try.f66 (fun ls=>T66 ls v k s a c l ((l.drop 5).getD 0 0) ((l.drop 5).getD 1 0) ((l.drop 5).getD 2 0) ((l.drop 5).getD 3 0) ((l.drop 5).getD 4 0) ((l.drop 5).getD 5 0) ((l.drop 5).getD 6 0) ((l.drop 5).getD 7 0) ((l.drop 5).getD 8 0) ((l.drop 5).getD 9 0) ((l.drop 5).getD 10 0) ((l.drop 5).getD 11 0) ((l.drop 5).getD 12 0) ((l.drop 5).getD 13 0) ((l.drop 5).getD 14 0) ((l.drop 5).getD 15 0) (l.drop 21)) (by kernel_rfl) (by kernel_rfl) rfl fun ls=>?_
 refine(congrArg (fun t=>Tree.sat _ _ t) (t66 ls v k s a c l ((l.drop 5).getD 0 0) ((l.drop 5).getD 1 0) ((l.drop 5).getD 2 0) ((l.drop 5).getD 3 0) ((l.drop 5).getD 4 0) ((l.drop 5).getD 5 0) ((l.drop 5).getD 6 0) ((l.drop 5).getD 7 0) ((l.drop 5).getD 8 0) ((l.drop 5).getD 9 0) ((l.drop 5).getD 10 0) ((l.drop 5).getD 11 0) ((l.drop 5).getD 12 0) ((l.drop 5).getD 13 0) ((l.drop 5).getD 14 0) ((l.drop 5).getD 15 0) (l.drop 21))).mpr ?_
 refine need_sat ⟨ALeL.refl _,g42 _ _ ?_ ?_ ?_⟩ (need_sat ⟨ALeL.refl _,g42 _ _ ?_ ?_ ?_⟩ (need_sat ⟨ALeL.refl _,g76 _ _ ?_ ?_⟩ (need_sat ?_ (need_sat ?_ (trivial)))))
 all_goals try first
  |omega
  |(simp only[List.length_drop];omega)
 ·refine⟨?_,rfl⟩
  rw[List.drop_drop,take16 (l.drop 5) (by rw[List.length_drop];omega)]
  rfl
 ·refine⟨?_,.refl _,.refl _⟩
  simp only[List.drop_drop]<;>rfl
end Gp
namespace Gp
def sF (k:Int)(l:List Int):Int:=if k=0∨k=1∨k=3∨k=7 then gu16 l else 0
def aF (k:Int)(l:List Int):Bool:=if k=9∨k=11 then decide (getV l 1=1)else false
def cF (k:Int)(l:List Int):Int:=if k=10 then gu16 l else 0
def okF1 (k:Int)(l:List Int):Prop:=2≤l.length∧(k=9∨k=11→getV l 1≤1∧getV (l.drop 1) 1=0)∧(k=2∨k=8∨k=4∨k=6→getV l 1=0∧getV (l.drop 1) 1=0)
theorem gfirstN (v k:Int)(l:List Int)(hk:isK k)(h:okF1 k l):GSpec prog (firstN k) (two (z1 v k 0 false 0) l) [] [.ptr 0 0,.ptr 1 0] (two (z1 v k (sF k l) (aF k l) (cF k l)) (l.drop 2)) [] (.tup []):=by
 obtain⟨h0,h1,h2⟩:=h
 unfold isK at hk
 unfold firstN sF aF cF
 rcases hk with rfl|rfl|rfl|rfl|rfl|rfl|rfl|rfl|rfl|rfl|rfl<;>simp[-List.drop_one]at h1 h2⊢
 ·exact g50 v _ 0 false 0 l h0
 ·exact g50 v _ 0 false 0 l h0
 ·exact g54 v _ 0 false 0 l h0 h2.1 h2.2
 ·exact g54 v _ 0 false 0 l h0 h2.1 h2.2
 ·exact g54 v _ 0 false 0 l h0 h2.1 h2.2
 ·exact g54 v _ 0 false 0 l h0 h2.1 h2.2
 ·exact g50 v _ 0 false 0 l h0
 ·exact g50 v _ 0 false 0 l h0
 ·exact g65 v _ 0 false 0 l h0 h1.1 h1.2
 ·exact g70 v _ 0 false 0 l h0
 ·exact g65 v _ 0 false 0 l h0 h1.1 h1.2
def isS (k:Int):Prop:=k=0∨k=1∨k=2∨k=8∨k=4∨k=6∨k=3∨k=7
def tS (m:Pdu)(l:List Int):Pdu:=if m.kind=4∨m.kind=6 then m.withO l else if m.kind=7 then m.withE l else if m.kind=0∨m.kind=1 then m.withSerial (gu32 l)else m
def tN (v k:Int):Nat:=if k=4∨k=6 then oN k else if k=7 then eN v else if k=0∨k=1 then 4 else 0
theorem gthenN (v k s:Int)(a:Bool)(c:Int)(l:List Int)(hk:isS k)(hl:tN v k≤l.length)(ho:k=4∨k=6→getV l 1≤1∧getV (l.drop 3) 1=0):GSpec prog (thenN k) (two (z1 v k s a c) l) [] [.ptr 0 0,.ptr 1 0] (two (tS (z1 v k s a c) l) (l.drop (tN v k))) [] (.tup []):=by
 unfold isS at hk
 have hkind:∀k,(z1 v k s a c).kind=k:=fun _=>rfl
 unfold thenN tS tN at*
 rcases hk with rfl|rfl|rfl|rfl|rfl|rfl|rfl|rfl<;>simp[hkind]at hl ho⊢
 ·exact g51 v _ s a c l hl
 ·exact g51 v _ s a c l hl
 ·exact g55 v _ s a c l (by omega)
 ·exact g55 v _ s a c l (by omega)
 ·exact g58 v _ s a c l hl ho.1 ho.2
 ·exact g58 v _ s a c l hl ho.1 ho.2
 ·exact g55 v _ s a c l (by omega)
 ·exact g61 v _ s a c l hl
end Gp
namespace Gp
def errE :Value:=.iface 100 (.agg #[])
def k76 (l:List Int)(n:Int):Bool:=decide (0≤n∧n≤l.length)
def k85 (l:List Int):Bool:=decide (1≤l.length∧getV l 1=0)
def k88 (l:List Int):Bool:=decide (1≤l.length∧getV l 1≤1)
theorem k76_t {l:List Int}{n:Int}(h:k76 l n=true):0≤n∧n≤l.length:=of_decide_eq_true h
theorem k76_f {l:List Int}{n:Int}(h:k76 l n=false):¬(0≤n∧n≤l.length):=of_decide_eq_false h
def TP76 (ls:Nat→Abs.Loc)(l:List Int)(n:Int):Tell:=
 Tell.mk (fun x x_1=>false) (fun r i=>if(r==3&&i==5||r==4&&i==6)=true then Orc.slc else Orc.no) (fun x=>Tree.fail 1000003 0) (fun x=>0) (fun x=>([],[])) (ogetO (fun r i=>if(r==3&&i==5||r==4&&i==6)=true then Orc.slc else Orc.no) []) fun x x_1=>Tree.fail 1000003 0
theorem tp76 (ls:Nat→Abs.Loc)(l:List Int)(n:Int):levP prog Proofs.Try.f76 ls [(92,.agg [.imm (slE 1 u8 l)])] [] [.ptr 0 0,.imm (i64 n)] errE (TP76 ls l n)=
 (let q0:=List.length (List.map u8 l);
 Tree.br (decide (n<0)) (.need (Value.iface 100 (Value.agg (Array.mk []))=errE) (.done Exit.ret lnil)) (.br (decide ((↑q0:Int)<n)) (.need (Value.iface 100 (Value.agg (Array.mk []))=errE) (.done Exit.ret lnil)) (.need ((0:Int)≤(0:Int)∧0≤n∧n≤(↑q0:Int)) (.need (0≤n∧n≤(↑q0:Int)∧(↑q0:Int)≤(↑q0:Int)) (.fail 1000006 0))))):=by kernel_rfl
theorem p76 (l:List Int)(n:Int)(h:k76 l n=false):PSpec prog 76 [(92,.agg [.imm (slE 1 u8 l)])] [] [.ptr 0 0,.imm (i64 n)] errE:=by
 have hh:=k76_f h
 refine PSpec.tree Proofs.Try.f76 (fun ls=>TP76 ls l n) (by kernel_rfl) (by kernel_rfl) fun ls=>?_
 rw[tp76]
 refine⟨fun h1=>need_sat ?_ (trivial),fun h1=>⟨fun h2=>need_sat ?_ (trivial),fun h2=>need_sat ?_ (need_sat ?_ ?_)⟩⟩
 all_goals try first
  |rfl
  |(simp at h1 h2;exact absurd ⟨h1,h2⟩ hh)
  |(simp at h1 h2⊢;omega)
def TP42 (ls:Nat→Abs.Loc)(l:List Int)(n:Int):Tell:=
 (let q0:=E42 ls (List.drop (Int.toNat n) l) (List.take (Int.toNat n) l);
 Tell.mk (fun x x_1=>false) (fun x x_1=>Orc.no) (fun x=>Tree.done (Exit.exit 0) q0) (fun x=>0) (fun x=>([12,11,10,5],[0])) (oget [(3,2,2,Orc.may (k76 l n) [0] 1 [.ptr 0 0,.imm (i64 n)] errE (Orc.callg [0] 1 [.ptr 0 0,.imm (i64 n)] [(92,.agg [.imm (slE 1 u8 (List.drop (Int.toNat n) l))])] [] (.imm (slE 1 u8 (List.take (Int.toNat n) l)))))]) fun x x_1=>Tree.done (Exit.exit 0) q0)
theorem tp42 (ls:Nat→Abs.Loc)(l:List Int)(n:Int):levP prog Proofs.Try.f42 ls [(92,.agg [.imm (slE 1 u8 l)])] [] [.ptr 0 0,.imm (i64 n)] errE (TP42 ls l n)=
 (let q0:=List.take (Int.toNat n) l;let q1:=List.drop (Int.toNat n) l;
 Tree.br (k76 l n) (.need (ALeL [.ptr 0 0,.imm (i64 n)] [.ptr 0 0,.imm (i64 n)]∧GSpec prog 76 [(92,.agg [.imm (slE 1 u8 l)])] [] [.ptr 0 0,.imm (i64 n)] [(92,.agg [.imm (slE 1 u8 q1)])] [] (.imm (slE 1 u8 q0))) (.loop 3 (LState.mk [(12,.imm (i64 0)),(11,.imm (i64 (↑(List.length (List.map u8 q0)):Int))),(10,.imm (slE 1 u8 q0)),(5,.imm (u64 0))] [(0,Entry.bbox (ls 0) 92 (.agg [.imm (slE 1 u8 q1)]))] 23 8 []) (.done (Exit.exit 0) (E42 ls q1 q0)) (.fail 1000006 0))) (.need (ALeL [.ptr 0 0,.imm (i64 n)] [.ptr 0 0,.imm (i64 n)]∧PSpec prog 76 [(92,.agg [.imm (slE 1 u8 l)])] [] [.ptr 0 0,.imm (i64
 n)] errE) (.need (errE=errE) (.done Exit.ret lnil)))):=by kernel_rfl
theorem p42 (l:List Int)(n:Int)(h:k76 l n=false):PSpec prog 42 [(92,.agg [.imm (slE 1 u8 l)])] [] [.ptr 0 0,.imm (i64 n)] errE:=by
 refine PSpec.tree Proofs.Try.f42 (fun ls=>TP42 ls l n) (by kernel_rfl) (by kernel_rfl) fun ls=>?_
 rw[tp42]
 refine⟨fun h1=>need_sat ⟨ALeL.refl _,g76 _ _ ?_ ?_⟩ ⟨?_,?_⟩,fun h1=>need_sat ⟨ALeL.refl _,p76 _ _ ?_⟩ (need_sat ?_ (trivial))⟩
 all_goals first
  |assumption
  |rfl
  |(rw[h]at h1;cases h1)
def TP85 (ls:Nat→Abs.Loc)(l:List Int):Tell:=
 Tell.mk (fun x x_1=>false) (fun x x_1=>Orc.no) (fun x=>Tree.fail 1000003 0) (fun x=>0) (fun x=>([],[])) (oget [(1,0,1,Orc.may (k76 l 1) [0] 1 [.ptr 0 0,.imm (i64 1)] errE (Orc.callg [0] 1 [.ptr 0 0,.imm (i64 1)] [(92,.agg [.imm (slE 1 u8 (List.drop (Int.toNat 1) l))])] [] (.imm (u64 (getV l 1)))))]) fun x x_1=>Tree.fail 1000003 0
theorem tp85 (ls:Nat→Abs.Loc)(l:List Int):levP prog Proofs.Try.f85 ls [(92,.agg [.imm (slE 1 u8 l)])] [] [.ptr 0 0] errE (TP85 ls l)=
 Tree.br (k76 l 1) (.need (ALeL [.ptr 0 0,.imm (i64 1)] [.ptr 0 0,.imm (i64 1)]∧GSpec prog 42 [(92,.agg [.imm (slE 1 u8 l)])] [] [.ptr 0 0,.imm (i64 1)] [(92,.agg [.imm (slE 1 u8 (List.drop 1 l))])] [] (.imm (u64 (getV l 1)))) (.br (!decide (getV l (1:Int)=(0:Int))) (.need (Value.iface 100 (Value.agg (Array.mk []))=errE) (.done Exit.ret lnil)) (.fail 1000006 0))) (.need (ALeL [.ptr 0 0,.imm (i64 1)] [.ptr 0 0,.imm (i64 1)]∧PSpec prog 42 [(92,.agg [.imm (slE 1 u8 l)])] [] [.ptr 0 0,.imm (i64 1)] errE) (.need (errE=errE) (.done Exit.ret lnil))):=by kernel_rfl
theorem p85 (l:List Int)(h:k85 l=false):PSpec prog 85 [(92,.agg [.imm (slE 1 u8 l)])] [] [.ptr 0 0] errE:=by
 refine PSpec.tree Proofs.Try.f85 (fun ls=>TP85 ls l) (by kernel_rfl) (by kernel_rfl) fun ls=>?_
 rw[tp85]
 refine⟨fun h1=>need_sat ⟨ALeL.refl _,g42 _ _ ?_ ?_ ?_⟩ ⟨fun h2=>need_sat ?_ (trivial),fun h2=>?_⟩,fun h1=>need_sat ⟨ALeL.refl _,p42 _ _ ?_⟩ (need_sat ?_ (trivial))⟩
 all_goals first
  |assumption
  |rfl
  |(simp only[k76,k85,decide_eq_true_eq,decide_eq_false_iff_not,Bool.not_eq_true',Bool.not_eq_false',List.length_drop,List.drop_drop]at*;omega)
  |(exfalso;simp only[k76,k85,decide_eq_true_eq,decide_eq_false_iff_not,Bool.not_eq_true',Bool.not_eq_false',List.length_drop,List.drop_drop]at*;omega)
def TP88 (ls:Nat→Abs.Loc)(l:List Int):Tell:=
 Tell.mk (fun x x_1=>false) (fun x x_1=>Orc.no) (fun x=>Tree.fail 1000003 0) (fun x=>0) (fun x=>([],[])) (oget [(2,1,1,Orc.may (k76 l 1) [0] 1 [.ptr 0 0,.imm (i64 1)] errE (Orc.callg [0] 1 [.ptr 0 0,.imm (i64 1)] [(92,.agg [.imm (slE 1 u8 (List.drop (Int.toNat 1) l))])] [] (.imm (u64 (getV l 1)))))]) fun x x_1=>Tree.fail 1000003 0
theorem tp88 (ls:Nat→Abs.Loc)(l:List Int):levP prog Proofs.Try.f88 ls [(92,.agg [.imm (slE 1 u8 l)])] [] [.ptr 0 0] errE (TP88 ls l)=
 Tree.br (k76 l 1) (.need (ALeL [.ptr 0 0,.imm (i64 1)] [.ptr 0 0,.imm (i64 1)]∧GSpec prog 42 [(92,.agg [.imm (slE 1 u8 l)])] [] [.ptr 0 0,.imm (i64 1)] [(92,.agg [.imm (slE 1 u8 (List.drop 1 l))])] [] (.imm (u64 (getV l 1)))) (.br (decide (1<getV l 1)) (.need (Value.iface 100 (Value.agg (Array.mk []))=errE) (.done Exit.ret lnil)) (.fail 1000006 0))) (.need (ALeL [.ptr 0 0,.imm (i64 1)] [.ptr 0 0,.imm (i64 1)]∧PSpec prog 42 [(92,.agg [.imm (slE 1 u8 l)])] [] [.ptr 0 0,.imm (i64 1)] errE) (.need (errE=errE) (.done Exit.ret lnil))):=by kernel_rfl
theorem p88 (l:List Int)(h:k88 l=false):PSpec prog 88 [(92,.agg [.imm (slE 1 u8 l)])] [] [.ptr 0 0] errE:=by
 refine PSpec.tree Proofs.Try.f88 (fun ls=>TP88 ls l) (by kernel_rfl) (by kernel_rfl) fun ls=>?_
 rw[tp88]
 refine⟨fun h1=>need_sat ⟨ALeL.refl _,g42 _ _ ?_ ?_ ?_⟩ ⟨fun h2=>need_sat ?_ (trivial),fun h2=>?_⟩,fun h1=>need_sat ⟨ALeL.refl _,p42 _ _ ?_⟩ (need_sat ?_ (trivial))⟩
 all_goals first
  |assumption
  |rfl
  |(simp only[k76,k88,decide_eq_true_eq,decide_eq_false_iff_not,Bool.not_eq_true',Bool.not_eq_false',List.length_drop,List.drop_drop]at*;omega)
  |(exfalso;simp only[k76,k88,decide_eq_true_eq,decide_eq_false_iff_not,Bool.not_eq_true',Bool.not_eq_false',List.length_drop,List.drop_drop]at*;omega)
end Gp
namespace Gp
def k50 (l:List Int):Bool:=decide (2≤l.length)
def k54 (l:List Int):Bool:=decide (2≤l.length∧getV l 1=0∧getV (l.drop 1) 1=0)
def k65 (l:List Int):Bool:=decide (2≤l.length∧getV l 1≤1∧getV (l.drop 1) 1=0)
def k51 (l:List Int):Bool:=decide (4≤l.length)
def k58 (k:Int)(l:List Int):Bool:=decide (oN k≤l.length∧getV l 1≤1∧getV (l.drop 3) 1=0)
def k61 (v:Int)(l:List Int):Bool:=decide (eN v≤l.length)
def k71 (l:List Int):Bool:=decide (4≤l.length∧0≤gn l∧gn l+4≤l.length∧4≤(fL1 l).length∧0≤gn (fL1 l)∧gn (fL1 l)+4≤(fL1 l).length)
def TP50 (ls:Nat→Abs.Loc)(v k s:Int)(a:Bool)(c:Int)(l:List Int):Tell:=
 Tell.mk (fun x x_1=>false) (fun x x_1=>Orc.no) (fun x=>Tree.fail 1000003 0) (fun x=>0) (fun x=>([],[])) (oget [(2,0,2,Orc.may (k76 l 2) [1] 1 [.ptr 0 0,.imm (i64 2)] errE (Orc.callg [1] 1 [.ptr 0 0,.imm (i64 2)] [(92,.agg [.imm (slE 1 u8 (List.drop (Int.toNat 2) l))])] [] (.imm (u64 (getV l 2)))))]) fun x x_1=>Tree.fail 1000003 0
theorem tp50 (ls:Nat→Abs.Loc)(v k s:Int)(a:Bool)(c:Int)(l:List Int):levP prog Proofs.Try.f50 ls (two (z1 v k s a c) l) [] [.ptr 0 0,.ptr 1 0] errE (TP50 ls v k s a c l)=
 Tree.br (k76 l 2) (.need (ALeL [.ptr 0 0,.imm (i64 2)] [.ptr 0 0,.imm (i64 2)]∧GSpec prog 42 [(92,.agg [.imm (slE 1 u8 l)])] [] [.ptr 0 0,.imm (i64 2)] [(92,.agg [.imm (slE 1 u8 (List.drop 2 l))])] [] (.imm (u64 (getV l 2)))) (.fail 1000006 0)) (.need (ALeL [.ptr 0 0,.imm (i64 2)] [.ptr 0 0,.imm (i64 2)]∧PSpec prog 42 [(92,.agg [.imm (slE 1 u8 l)])] [] [.ptr 0 0,.imm (i64 2)] errE) (.need (errE=errE) (.done Exit.ret lnil))):=by kernel_rfl
theorem p50 (v k s:Int)(a:Bool)(c:Int)(l:List Int)(h:k50 l=false):PSpec prog 50 (two (z1 v k s a c) l) [] [.ptr 0 0,.ptr 1 0] errE:=by
 refine PSpec.tree Proofs.Try.f50 (fun ls=>TP50 ls v k s a c l) (by kernel_rfl) (by kernel_rfl) fun ls=>?_
 rw[tp50]
 refine⟨fun h1=>need_sat ⟨ALeL.refl _,g42 _ _ ?_ ?_ ?_⟩ ?_,fun h1=>need_sat ⟨ALeL.refl _,p42 _ _ ?_⟩ (need_sat ?_ (trivial))⟩
 all_goals first
  |assumption
  |rfl
  |(simp only[k76,k50,decide_eq_true_eq,decide_eq_false_iff_not,Bool.not_eq_true',Bool.not_eq_false',List.length_drop,List.drop_drop]at*;omega)
  |(exfalso;simp only[k76,k50,decide_eq_true_eq,decide_eq_false_iff_not,Bool.not_eq_true',Bool.not_eq_false',List.length_drop,List.drop_drop]at*;omega)
def TP54 (ls:Nat→Abs.Loc)(v k s:Int)(a:Bool)(c:Int)(l:List Int):Tell:=
 Tell.mk (fun x x_1=>false) (fun x x_1=>Orc.no) (fun x=>Tree.fail 1000003 0) (fun x=>0) (fun x=>([],[])) (oget [(2,0,1,Orc.may (k85 l) [1] 1 [.ptr 0 0] errE (Orc.callg [1] 1 [.ptr 0 0] [(92,.agg [.imm (slE 1 u8 (List.drop 1 l))])] [] (.tup []))),(4,1,1,Orc.may (k85 (List.drop 1 l)) [1] 1 [.ptr 0 0] errE (Orc.callg [1] 1 [.ptr 0 0] [(92,.agg [.imm (slE 1 u8 (List.drop 1 (List.drop 1 l)))])] [] (.tup [])))]) fun x x_1=>Tree.fail 1000003 0
theorem tp54 (ls:Nat→Abs.Loc)(v k s:Int)(a:Bool)(c:Int)(l:List Int):levP prog Proofs.Try.f54 ls (two (z1 v k s a c) l) [] [.ptr 0 0,.ptr 1 0] errE (TP54 ls v k s a c l)=
 (let q0:=List.drop 1 l;
 Tree.br (k85 l) (.need (ALeL [.ptr 0 0] [.ptr 0 0]∧GSpec prog 85 [(92,.agg [.imm (slE 1 u8 l)])] [] [.ptr 0 0] [(92,.agg [.imm (slE 1 u8 q0)])] [] (.tup [])) (.br (k85 q0) (.need (ALeL [.ptr 0 0] [.ptr 0 0]∧GSpec prog 85 [(92,.agg [.imm (slE 1 u8 q0)])] [] [.ptr 0 0] [(92,.agg [.imm (slE 1 u8 (List.drop 1 q0))])] [] (.tup [])) (.fail 1000006 0)) (.need (ALeL [.ptr 0 0] [.ptr 0 0]∧PSpec prog 85 [(92,.agg [.imm (slE 1 u8 q0)])] [] [.ptr 0 0] errE) (.need (errE=errE) (.done Exit.ret lnil))))) (.need (ALeL [.ptr 0 0] [.ptr 0 0]∧PSpec prog 85 [(92,.agg [.imm (slE 1 u8 l)])] [] [.ptr 0 0]
 errE) (.need (errE=errE) (.done Exit.ret lnil)))):=by kernel_rfl
theorem p54 (v k s:Int)(a:Bool)(c:Int)(l:List Int)(h:k54 l=false):PSpec prog 54 (two (z1 v k s a c) l) [] [.ptr 0 0,.ptr 1 0] errE:=by
 refine PSpec.tree Proofs.Try.f54 (fun ls=>TP54 ls v k s a c l) (by kernel_rfl) (by kernel_rfl) fun ls=>?_
 rw[tp54]
 refine⟨fun h1=>need_sat ⟨ALeL.refl _,g85 _ ?_ ?_⟩ ⟨fun h2=>need_sat ⟨ALeL.refl _,g85 _ ?_ ?_⟩ ?_,fun h2=>need_sat ⟨ALeL.refl _,p85 _ ?_⟩ (need_sat ?_ (trivial))⟩,fun h1=>need_sat ⟨ALeL.refl _,p85 _ ?_⟩ (need_sat ?_ (trivial))⟩
 all_goals first
  |assumption
  |rfl
  |(simp only[k85,k54,decide_eq_true_eq,decide_eq_false_iff_not,Bool.not_eq_true',Bool.not_eq_false',List.length_drop,List.drop_drop]at*;omega)
  |(exfalso;simp only[k85,k54,decide_eq_true_eq,decide_eq_false_iff_not,Bool.not_eq_true',Bool.not_eq_false',List.length_drop,List.drop_drop]at*;omega)
def TP65 (ls:Nat→Abs.Loc)(v k s:Int)(a:Bool)(c:Int)(l:List Int):Tell:=
 Tell.mk (fun x x_1=>false) (fun x x_1=>Orc.no) (fun x=>Tree.fail 1000003 0) (fun x=>0) (fun x=>([],[])) (oget [(2,0,2,Orc.may (k88 l) [1] 1 [.ptr 0 0] errE (Orc.callg [1] 1 [.ptr 0 0] [(92,.agg [.imm (slE 1 u8 (List.drop 1 l))])] [] (.imm (bo (decide (getV l (1:Int)=(1:Int))))))),(9,1,1,Orc.may (k85 (List.drop 1 l)) [1] 1 [.ptr 0 0] errE (Orc.callg [1] 1 [.ptr 0 0] [(92,.agg [.imm (slE 1 u8 (List.drop 1 (List.drop 1 l)))])] [] (.tup [])))]) fun x x_1=>Tree.fail 1000003 0
theorem tp65 (ls:Nat→Abs.Loc)(v k s:Int)(a:Bool)(c:Int)(l:List Int):levP prog Proofs.Try.f65 ls (two (z1 v k s a c) l) [] [.ptr 0 0,.ptr 1 0] errE (TP65 ls v k s a c l)=
 (let q0:=List.drop 1 l;
 Tree.br (k88 l) (.need (ALeL [.ptr 0 0] [.ptr 0 0]∧GSpec prog 88 [(92,.agg [.imm (slE 1 u8 l)])] [] [.ptr 0 0] [(92,.agg [.imm (slE 1 u8 q0)])] [] (.imm (bo (decide (getV l (1:Int)=(1:Int)))))) (.br (k85 q0) (.need (ALeL [.ptr 0 0] [.ptr 0 0]∧GSpec prog 85 [(92,.agg [.imm (slE 1 u8 q0)])] [] [.ptr 0 0] [(92,.agg [.imm (slE 1 u8 (List.drop 1 q0))])] [] (.tup [])) (.fail 1000006 0)) (.need (ALeL [.ptr 0 0] [.ptr 0 0]∧PSpec prog 85 [(92,.agg [.imm (slE 1 u8 q0)])] [] [.ptr 0 0] errE) (.need (errE=errE) (.done Exit.ret lnil))))) (.need (ALeL [.ptr 0 0] [.ptr 0 0]∧PSpec prog 88
 [(92,.agg [.imm (slE 1 u8 l)])] [] [.ptr 0 0] errE) (.need (errE=errE) (.done Exit.ret lnil)))):=by kernel_rfl
theorem p65 (v k s:Int)(a:Bool)(c:Int)(l:List Int)(h:k65 l=false):PSpec prog 65 (two (z1 v k s a c) l) [] [.ptr 0 0,.ptr 1 0] errE:=by
 refine PSpec.tree Proofs.Try.f65 (fun ls=>TP65 ls v k s a c l) (by kernel_rfl) (by kernel_rfl) fun ls=>?_
 rw[tp65]
 refine⟨fun h1=>need_sat ⟨ALeL.refl _,g88 _ ?_ ?_⟩ ⟨fun h2=>need_sat ⟨ALeL.refl _,g85 _ ?_ ?_⟩ ?_,fun h2=>need_sat ⟨ALeL.refl _,p85 _ ?_⟩ (need_sat ?_ (trivial))⟩,fun h1=>need_sat ⟨ALeL.refl _,p88 _ ?_⟩ (need_sat ?_ (trivial))⟩
 all_goals first
  |assumption
  |rfl
  |(simp only[k88,k85,k65,decide_eq_true_eq,decide_eq_false_iff_not,Bool.not_eq_true',Bool.not_eq_false',List.length_drop,List.drop_drop]at*;omega)
  |(exfalso;simp only[k88,k85,k65,decide_eq_true_eq,decide_eq_false_iff_not,Bool.not_eq_true',Bool.not_eq_false',List.length_drop,List.drop_drop]at*;omega)
def TP70 (ls:Nat→Abs.Loc)(v k s:Int)(a:Bool)(c:Int)(l:List Int):Tell:=
 Tell.mk (fun x x_1=>false) (fun x x_1=>Orc.no) (fun x=>Tree.fail 1000003 0) (fun x=>0) (fun x=>([],[])) (oget [(2,0,2,Orc.may (k76 l 2) [1] 1 [.ptr 0 0,.imm (i64 2)] errE (Orc.callg [1] 1 [.ptr 0 0,.imm (i64 2)] [(92,.agg [.imm (slE 1 u8 (List.drop (Int.toNat 2) l))])] [] (.imm (u64 (getV l 2)))))]) fun x x_1=>Tree.fail 1000003 0
theorem tp70 (ls:Nat→Abs.Loc)(v k s:Int)(a:Bool)(c:Int)(l:List Int):levP prog Proofs.Try.f70 ls (two (z1 v k s a c) l) [] [.ptr 0 0,.ptr 1 0] errE (TP70 ls v k s a c l)=
 Tree.br (k76 l 2) (.need (ALeL [.ptr 0 0,.imm (i64 2)] [.ptr 0 0,.imm (i64 2)]∧GSpec prog 42 [(92,.agg [.imm (slE 1 u8 l)])] [] [.ptr 0 0,.imm (i64 2)] [(92,.agg [.imm (slE 1 u8 (List.drop 2 l))])] [] (.imm (u64 (getV l 2)))) (.fail 1000006 0)) (.need (ALeL [.ptr 0 0,.imm (i64 2)] [.ptr 0 0,.imm (i64 2)]∧PSpec prog 42 [(92,.agg [.imm (slE 1 u8 l)])] [] [.ptr 0 0,.imm (i64 2)] errE) (.need (errE=errE) (.done Exit.ret lnil))):=by kernel_rfl
theorem p70 (v k s:Int)(a:Bool)(c:Int)(l:List Int)(h:k50 l=false):PSpec prog 70 (two (z1 v k s a c) l) [] [.ptr 0 0,.ptr 1 0] errE:=by
 refine PSpec.tree Proofs.Try.f70 (fun ls=>TP70 ls v k s a c l) (by kernel_rfl) (by kernel_rfl) fun ls=>?_
 rw[tp70]
 refine⟨fun h1=>need_sat ⟨ALeL.refl _,g42 _ _ ?_ ?_ ?_⟩ ?_,fun h1=>need_sat ⟨ALeL.refl _,p42 _ _ ?_⟩ (need_sat ?_ (trivial))⟩
 all_goals first
  |assumption
  |rfl
  |(simp only[k76,k50,decide_eq_true_eq,decide_eq_false_iff_not,Bool.not_eq_true',Bool.not_eq_false',List.length_drop,List.drop_drop]at*;omega)
  |(exfalso;simp only[k76,k50,decide_eq_true_eq,decide_eq_false_iff_not,Bool.not_eq_true',Bool.not_eq_false',List.length_drop,List.drop_drop]at*;omega)
def TP51 (ls:Nat→Abs.Loc)(v k s:Int)(a:Bool)(c:Int)(l:List Int):Tell:=
 Tell.mk (fun x x_1=>false) (fun x x_1=>Orc.no) (fun x=>Tree.fail 1000003 0) (fun x=>0) (fun x=>([],[])) (oget [(2,0,2,Orc.may (k76 l 4) [1] 1 [.ptr 0 0,.imm (i64 4)] errE (Orc.callg [1] 1 [.ptr 0 0,.imm (i64 4)] [(92,.agg [.imm (slE 1 u8 (List.drop (Int.toNat 4) l))])] [] (.imm (u64 (getV l 4)))))]) fun x x_1=>Tree.fail 1000003 0
theorem tp51 (ls:Nat→Abs.Loc)(v k s:Int)(a:Bool)(c:Int)(l:List Int):levP prog Proofs.Try.f51 ls (two (z1 v k s a c) l) [] [.ptr 0 0,.ptr 1 0] errE (TP51 ls v k s a c l)=
 Tree.br (k76 l 4) (.need (ALeL [.ptr 0 0,.imm (i64 4)] [.ptr 0 0,.imm (i64 4)]∧GSpec prog 42 [(92,.agg [.imm (slE 1 u8 l)])] [] [.ptr 0 0,.imm (i64 4)] [(92,.agg [.imm (slE 1 u8 (List.drop 4 l))])] [] (.imm (u64 (getV l 4)))) (.fail 1000006 0)) (.need (ALeL [.ptr 0 0,.imm (i64 4)] [.ptr 0 0,.imm (i64 4)]∧PSpec prog 42 [(92,.agg [.imm (slE 1 u8 l)])] [] [.ptr 0 0,.imm (i64 4)] errE) (.need (errE=errE) (.done Exit.ret lnil))):=by kernel_rfl
theorem p51 (v k s:Int)(a:Bool)(c:Int)(l:List Int)(h:k51 l=false):PSpec prog 51 (two (z1 v k s a c) l) [] [.ptr 0 0,.ptr 1 0] errE:=by
 refine PSpec.tree Proofs.Try.f51 (fun ls=>TP51 ls v k s a c l) (by kernel_rfl) (by kernel_rfl) fun ls=>?_
 rw[tp51]
 refine⟨fun h1=>need_sat ⟨ALeL.refl _,g42 _ _ ?_ ?_ ?_⟩ ?_,fun h1=>need_sat ⟨ALeL.refl _,p42 _ _ ?_⟩ (need_sat ?_ (trivial))⟩
 all_goals first
  |assumption
  |rfl
  |(simp only[k76,k51,decide_eq_true_eq,decide_eq_false_iff_not,Bool.not_eq_true',Bool.not_eq_false',List.length_drop,List.drop_drop]at*;omega)
  |(exfalso;simp only[k76,k51,decide_eq_true_eq,decide_eq_false_iff_not,Bool.not_eq_true',Bool.not_eq_false',List.length_drop,List.drop_drop]at*;omega)
end Gp
namespace Gp
def TP58 (ls:Nat→Abs.Loc)(v k s:Int)(a:Bool)(c:Int)(l:List Int):Tell:=
 (let q1:=List.drop 1 l;let q3:=List.drop 1 q1;let q0:=List.drop 1 (List.drop 1 q3);let q2:=List.drop 8 q0;
 Tell.mk (fun x x_1=>false) (fun x x_1=>Orc.no) (fun x=>Tree.fail 1000003 0) (fun x=>0) (fun x=>([],[])) (oget [(2,0,2,Orc.may (k88 l) [1] 1 [.ptr 0 0] errE (Orc.callg [1] 1 [.ptr 0 0] [(92,.agg [.imm (slE 1 u8 q1)])] [] (.imm (bo (decide (getV l (1:Int)=(1:Int))))))),(9,1,3,Orc.may (k76 q1 1) [1] 1 [.ptr 0 0,.imm (i64 1)] errE (Orc.callg [1] 1 [.ptr 0 0,.imm (i64 1)] [(92,.agg [.imm (slE 1 u8 (List.drop (Int.toNat 1) q1))])] [] (.imm (u64 (getV q1 1))))),(9,1,6,Orc.may (k76 q3 1) [1] 1 [.ptr 0 0,.imm (i64 1)] errE (Orc.callg [1] 1 [.ptr 0 0,.imm (i64 1)] [(92,.agg [.imm (slE 1
 u8 (List.drop (Int.toNat 1) q3))])] [] (.imm (u64 (getV q3 1))))),(28,2,1,Orc.may (k85 (List.drop 1 q3)) [1] 1 [.ptr 0 0] errE (Orc.callg [1] 1 [.ptr 0 0] [(92,.agg [.imm (slE 1 u8 q0)])] [] (.tup []))),(43,5,2,Orc.may (k76 q0 8) [1] 1 [.ptr 0 0,.imm (i64 8)] errE (Orc.callg [1] 1 [.ptr 0 0,.imm (i64 8)] [(92,.agg [.imm (slE 1 u8 (List.drop (Int.toNat 8) q0))])] [] (.imm (u64 (getV q0 8))))),(43,7,2,Orc.may (k76 q0 4) [1] 1 [.ptr 0 0,.imm (i64 4)] errE (Orc.callg [1] 1 [.ptr 0 0,.imm (i64 4)] [(92,.agg [.imm (slE 1 u8 (List.drop (Int.toNat 4) q0))])] [] (.imm (u64 (getV q0
 4))))),(43,5,4,Orc.may (k76 q2 8) [1] 1 [.ptr 0 0,.imm (i64 8)] errE (Orc.callg [1] 1 [.ptr 0 0,.imm (i64 8)] [(92,.agg [.imm (slE 1 u8 (List.drop (Int.toNat 8) q2))])] [] (.imm (u64 (getV q2 8))))),(53,8,2,Orc.may (k76 (List.drop 4 q0) 4) [1] 1 [.ptr 0 0,.imm (i64 4)] errE (Orc.callg [1] 1 [.ptr 0 0,.imm (i64 4)] [(92,.agg [.imm (slE 1 u8 (List.drop (Int.toNat 4) (List.drop 4 q0)))])] [] (.imm (u64 (getV (List.drop 4 q0) 4))))),(55,8,2,Orc.may (k76 (List.drop 8 q2) 4) [1] 1 [.ptr 0 0,.imm (i64 4)] errE (Orc.callg [1] 1 [.ptr 0 0,.imm (i64 4)] [(92,.agg [.imm (slE 1 u8 (List.drop (Int.toNat 4)
 (List.drop 8 q2)))])] [] (.imm (u64 (getV (List.drop 8 q2) 4)))))]) fun x x_1=>Tree.fail 1000003 0)
theorem tp58 (ls:Nat→Abs.Loc)(v k s:Int)(a:Bool)(c:Int)(l:List Int):levP prog Proofs.Try.f58 ls (two (z1 v k s a c) l) [] [.ptr 0 0,.ptr 1 0] errE (TP58 ls v k s a c l)=
 (let q5:=List.drop 1 l;let q1:=List.drop 1 q5;let q0:=List.drop 1 (List.drop 1 q1);let q4:=List.drop 8 q0;let q2:=List.drop 8 q4;let q3:=List.drop 4 q0;let q6:=slE 1 u8 (List.drop 1 q1);let q7:=slE 1 u8 q0;
 Tree.br (k88 l) (.need (ALeL [.ptr 0 0] [.ptr 0 0]∧GSpec prog 88 [(92,.agg [.imm (slE 1 u8 l)])] [] [.ptr 0 0] [(92,.agg [.imm (slE 1 u8 q5)])] [] (.imm (bo (decide (getV l (1:Int)=(1:Int)))))) (.br (k76 q5 1) (.need (ALeL [.ptr 0 0,.imm (i64 1)] [.ptr 0 0,.imm (i64 1)]∧GSpec prog 42 [(92,.agg [.imm (slE 1 u8 q5)])] [] [.ptr 0 0,.imm (i64 1)] [(92,.agg [.imm (slE 1 u8 q1)])] [] (.imm (u64 (getV q5 1)))) (.br (k76 q1 1) (.need (ALeL [.ptr 0 0,.imm (i64 1)] [.ptr 0 0,.imm (i64 1)]∧GSpec prog 42 [(92,.agg [.imm (slE 1 u8 q1)])] [] [.ptr 0 0,.imm (i64 1)] [(92,.agg [.imm q6])] [] (.imm
 (u64 (getV q1 1)))) (.br (k85 (List.drop 1 q1)) (.need (ALeL [.ptr 0 0] [.ptr 0 0]∧GSpec prog 85 [(92,.agg [.imm q6])] [] [.ptr 0 0] [(92,.agg [.imm q7])] [] (.tup [])) (.br (decide ((z1 v k s a c).kind=6)) (.br (k76 q0 8) (.need (ALeL [.ptr 0 0,.imm (i64 8)] [.ptr 0 0,.imm (i64 8)]∧GSpec prog 42 [(92,.agg [.imm q7])] [] [.ptr 0 0,.imm (i64 8)] [(92,.agg [.imm (slE 1 u8 q4)])] [] (.imm (u64 (getV q0 8)))) (.br (k76 q4 8) (.need (ALeL [.ptr 0 0,.imm (i64 8)] [.ptr 0 0,.imm (i64 8)]∧GSpec prog 42 [(92,.agg [.imm (slE 1 u8 q4)])] [] [.ptr 0 0,.imm (i64 8)] [(92,.agg [.imm (slE 1 u8 q2)])]
 [] (.imm (u64 (getV q4 8)))) (.br (k76 q2 4) (.need (ALeL [.ptr 0 0,.imm (i64 4)] [.ptr 0 0,.imm (i64 4)]∧GSpec prog 42 [(92,.agg [.imm (slE 1 u8 q2)])] [] [.ptr 0 0,.imm (i64 4)] [(92,.agg [.imm (slE 1 u8 (List.drop 4 q2))])] [] (.imm (u64 (getV q2 4)))) (.fail 1000006 0)) (.need (ALeL [.ptr 0 0,.imm (i64 4)] [.ptr 0 0,.imm (i64 4)]∧PSpec prog 42 [(92,.agg [.imm (slE 1 u8 q2)])] [] [.ptr 0 0,.imm (i64 4)] errE) (.need (errE=errE) (.done Exit.ret lnil))))) (.need (ALeL [.ptr 0 0,.imm (i64 8)] [.ptr 0 0,.imm (i64 8)]∧PSpec prog 42 [(92,.agg [.imm (slE 1 u8 q4)])] [] [.ptr 0 0,.imm (i64
 8)] errE) (.need (errE=errE) (.done Exit.ret lnil))))) (.need (ALeL [.ptr 0 0,.imm (i64 8)] [.ptr 0 0,.imm (i64 8)]∧PSpec prog 42 [(92,.agg [.imm q7])] [] [.ptr 0 0,.imm (i64 8)] errE) (.need (errE=errE) (.done Exit.ret lnil)))) (.br (k76 q0 4) (.need (ALeL [.ptr 0 0,.imm (i64 4)] [.ptr 0 0,.imm (i64 4)]∧GSpec prog 42 [(92,.agg [.imm q7])] [] [.ptr 0 0,.imm (i64 4)] [(92,.agg [.imm (slE 1 u8 q3)])] [] (.imm (u64 (getV q0 4)))) (.br (k76 q3 4) (.need (ALeL [.ptr 0 0,.imm (i64 4)] [.ptr 0 0,.imm (i64 4)]∧GSpec prog 42 [(92,.agg [.imm (slE 1 u8 q3)])] [] [.ptr 0 0,.imm (i64 4)] [(92,.agg
 [.imm (slE 1 u8 (List.drop 4 q3))])] [] (.imm (u64 (getV q3 4)))) (.fail 1000006 0)) (.need (ALeL [.ptr 0 0,.imm (i64 4)] [.ptr 0 0,.imm (i64 4)]∧PSpec prog 42 [(92,.agg [.imm (slE 1 u8 q3)])] [] [.ptr 0 0,.imm (i64 4)] errE) (.need (errE=errE) (.done Exit.ret lnil))))) (.need (ALeL [.ptr 0 0,.imm (i64 4)] [.ptr 0 0,.imm (i64 4)]∧PSpec prog 42 [(92,.agg [.imm q7])] [] [.ptr 0 0,.imm (i64 4)] errE) (.need (errE=errE) (.done Exit.ret lnil)))))) (.need (ALeL [.ptr 0 0] [.ptr 0 0]∧PSpec prog 85 [(92,.agg [.imm q6])] [] [.ptr 0 0] errE) (.need (errE=errE) (.done Exit.ret lnil))))) (.need
 (ALeL [.ptr 0 0,.imm (i64 1)] [.ptr 0 0,.imm (i64 1)]∧PSpec prog 42 [(92,.agg [.imm (slE 1 u8 q1)])] [] [.ptr 0 0,.imm (i64 1)] errE) (.need (errE=errE) (.done Exit.ret lnil))))) (.need (ALeL [.ptr 0 0,.imm (i64 1)] [.ptr 0 0,.imm (i64 1)]∧PSpec prog 42 [(92,.agg [.imm (slE 1 u8 q5)])] [] [.ptr 0 0,.imm (i64 1)] errE) (.need (errE=errE) (.done Exit.ret lnil))))) (.need (ALeL [.ptr 0 0] [.ptr 0 0]∧PSpec prog 88 [(92,.agg [.imm (slE 1 u8 l)])] [] [.ptr 0 0] errE) (.need (errE=errE) (.done Exit.ret lnil)))):=by kernel_rfl
theorem p58 (v k s:Int)(a:Bool)(c:Int)(l:List Int)(h:k58 k l=false):PSpec prog 58 (two (z1 v k s a c) l) [] [.ptr 0 0,.ptr 1 0] errE:=by
 have hkind:(z1 v k s a c).kind=k:=rfl
 have ho:oN k=24∧k=6∨oN k=12∧k≠6:=by unfold oN;split<;>simp[*]
 refine PSpec.tree Proofs.Try.f58 (fun ls=>TP58 ls v k s a c l) (by kernel_rfl) (by kernel_rfl) fun ls=>?_
 rw[tp58]
 refine⟨fun h1=>need_sat ⟨ALeL.refl _,g88 _ ?_ ?_⟩ ⟨fun h2=>need_sat ⟨ALeL.refl _,g42 _ _ ?_ ?_ ?_⟩ ⟨fun h3=>need_sat ⟨ALeL.refl _,g42 _ _ ?_ ?_ ?_⟩ ⟨fun h4=>need_sat ⟨ALeL.refl _,g85 _ ?_ ?_⟩ ⟨fun h5=>⟨fun h6=>need_sat ⟨ALeL.refl _,g42 _ _ ?_ ?_ ?_⟩ ⟨fun h7=>need_sat ⟨ALeL.refl _,g42 _ _ ?_ ?_ ?_⟩ ⟨fun h8=>need_sat ⟨ALeL.refl _,g42 _ _ ?_ ?_ ?_⟩ ?_,fun h8=>need_sat ⟨ALeL.refl _,p42 _ _ ?_⟩ (need_sat ?_ (trivial))⟩,fun h7=>need_sat ⟨ALeL.refl _,p42 _ _ ?_⟩ (need_sat ?_ (trivial))⟩,fun h6=>need_sat ⟨ALeL.refl _,p42 _ _ ?_⟩ (need_sat ?_ (trivial))⟩,fun h5=>⟨fun h6=>need_sat ⟨ALeL.refl _,g42 _ _ ?_ ?_ ?_⟩ ⟨fun h7=>need_sat ⟨ALeL.refl _,g42 _ _ ?_ ?_ ?_⟩ ?_,fun h7=>need_sat ⟨ALeL.refl _,p42 _ _ ?_⟩ (need_sat ?_ (trivial))⟩,fun h6=>need_sat ⟨ALeL.refl _,p42 _ _ ?_⟩ (need_sat ?_ (trivial))⟩⟩,fun h4=>need_sat ⟨ALeL.refl _,p85 _ ?_⟩ (need_sat ?_ (trivial))⟩,fun h3=>need_sat ⟨ALeL.refl _,p42 _ _ ?_⟩ (need_sat ?_ (trivial))⟩,fun h2=>need_sat ⟨ALeL.refl _,p42 _ _ ?_⟩ (need_sat ?_ (trivial))⟩,fun h1=>need_sat ⟨ALeL.refl _,p88 _ ?_⟩ (need_sat ?_ (trivial))⟩
 all_goals first
  |assumption
  |rfl
  |(simp only[k76,k85,k88,k58,hkind,decide_eq_true_eq,decide_eq_false_iff_not,Bool.not_eq_true',Bool.not_eq_false',List.length_drop,List.drop_drop,Nat.reduceAdd]at*;omega)
  |(exfalso;simp only[k76,k85,k88,k58,hkind,decide_eq_true_eq,decide_eq_false_iff_not,Bool.not_eq_true',Bool.not_eq_false',List.length_drop,List.drop_drop,Nat.reduceAdd]at*;omega)
def TP61 (ls:Nat→Abs.Loc)(v k s:Int)(a:Bool)(c:Int)(l:List Int):Tell:=
 (let q1:=List.drop 4 l;let q0:=List.drop 4 q1;
 Tell.mk (fun x x_1=>false) (fun x x_1=>Orc.no) (fun x=>Tree.fail 1000003 0) (fun x=>0) (fun x=>([],[])) (oget [(2,0,2,Orc.may (k51 l) [0,1] 2 [.ptr 0 0,.ptr 1 0] errE (Orc.callg [0,1] 2 [.ptr 0 0,.ptr 1 0] (two (Pdu.withSerial (z1 v k s a c) (gu32 l)) q1) [] (.tup []))),(11,2,4,Orc.may (k76 q1 4) [1] 1 [.ptr 0 0,.imm (i64 4)] errE (Orc.callg [1] 1 [.ptr 0 0,.imm (i64 4)] [(92,.agg [.imm (slE 1 u8 (List.drop (Int.toNat 4) q1))])] [] (.imm (u64 (getV q1 4))))),(11,2,7,Orc.may (k76 q0 4) [1] 1 [.ptr 0 0,.imm (i64 4)] errE (Orc.callg [1] 1 [.ptr 0 0,.imm (i64 4)] [(92,.agg [.imm (slE 1 u8
 (List.drop (Int.toNat 4) q0))])] [] (.imm (u64 (getV q0 4))))),(11,2,10,Orc.may (k76 (List.drop 4 q0) 4) [1] 1 [.ptr 0 0,.imm (i64 4)] errE (Orc.callg [1] 1 [.ptr 0 0,.imm (i64 4)] [(92,.agg [.imm (slE 1 u8 (List.drop (Int.toNat 4) (List.drop 4 q0)))])] [] (.imm (u64 (getV (List.drop 4 q0) 4)))))]) fun x x_1=>Tree.fail 1000003 0)
theorem tp61 (ls:Nat→Abs.Loc)(v k s:Int)(a:Bool)(c:Int)(l:List Int):levP prog Proofs.Try.f61 ls (two (z1 v k s a c) l) [] [.ptr 0 0,.ptr 1 0] errE (TP61 ls v k s a c l)=
 (let q0:=z1 v k s a c;let q3:=List.drop 4 l;let q1:=List.drop 4 q3;let q2:=List.drop 4 q1;
 Tree.br (k51 l) (.need (ALeL [.ptr 0 0,.ptr 1 0] [.ptr 0 0,.ptr 1 0]∧GSpec prog 51 [(85,.agg [.imm (u8 q0.version),.imm (u8 q0.kind),.imm (u16 q0.session),.imm (u32 q0.serial),.imm (bo q0.add),.imm (u32 q0.origin.asn),.imm (u8 q0.origin.pfx.fam),.imm (u64 q0.origin.pfx.addr.hi),.imm (u64 q0.origin.pfx.addr.lo),.imm (i64 q0.origin.pfx.len),.imm (i64 q0.origin.max),.imm (u32 q0.path.cust),.imm nS,.imm (u32 q0.key.asn),.imm (u8 0),.imm (u8 0),.imm (u8 0),.imm (u8 0),.imm (u8 0),.imm (u8 0),.imm (u8 0),.imm (u8 0),.imm (u8 0),.imm (u8 0),.imm (u8 0),.imm (u8 0),.imm (u8 0),.imm (u8 0),.imm (u8
 0),.imm (u8 0),.imm (i64 q0.key.height),.imm (u32 q0.refresh),.imm (u32 q0.retry),.imm (u32 q0.expire),.imm (u16 q0.code),.imm nS,.imm (st q0.text)]),(92,.agg [.imm (slE 1 u8 l)])] [] [.ptr 0 0,.ptr 1 0] (two (Pdu.withSerial q0 (gu32 l)) q3) [] (.tup [])) (.br (decide (0<(Pdu.withSerial q0 (gu32 l)).version)) (.br (k76 q3 4) (.need (ALeL [.ptr 0 0,.imm (i64 4)] [.ptr 0 0,.imm (i64 4)]∧GSpec prog 42 [(92,.agg [.imm (slE 1 u8 q3)])] [] [.ptr 0 0,.imm (i64 4)] [(92,.agg [.imm (slE 1 u8 q1)])] [] (.imm (u64 (getV q3 4)))) (.br (k76 q1 4) (.need (ALeL [.ptr 0 0,.imm (i64 4)] [.ptr 0 0,.imm (i64
 4)]∧GSpec prog 42 [(92,.agg [.imm (slE 1 u8 q1)])] [] [.ptr 0 0,.imm (i64 4)] [(92,.agg [.imm (slE 1 u8 q2)])] [] (.imm (u64 (getV q1 4)))) (.br (k76 q2 4) (.need (ALeL [.ptr 0 0,.imm (i64 4)] [.ptr 0 0,.imm (i64 4)]∧GSpec prog 42 [(92,.agg [.imm (slE 1 u8 q2)])] [] [.ptr 0 0,.imm (i64 4)] [(92,.agg [.imm (slE 1 u8 (List.drop 4 q2))])] [] (.imm (u64 (getV q2 4)))) (.fail 1000006 0)) (.need (ALeL [.ptr 0 0,.imm (i64 4)] [.ptr 0 0,.imm (i64 4)]∧PSpec prog 42 [(92,.agg [.imm (slE 1 u8 q2)])] [] [.ptr 0 0,.imm (i64 4)] errE) (.need (errE=errE) (.done Exit.ret lnil))))) (.need (ALeL [.ptr 0
 0,.imm (i64 4)] [.ptr 0 0,.imm (i64 4)]∧PSpec prog 42 [(92,.agg [.imm (slE 1 u8 q1)])] [] [.ptr 0 0,.imm (i64 4)] errE) (.need (errE=errE) (.done Exit.ret lnil))))) (.need (ALeL [.ptr 0 0,.imm (i64 4)] [.ptr 0 0,.imm (i64 4)]∧PSpec prog 42 [(92,.agg [.imm (slE 1 u8 q3)])] [] [.ptr 0 0,.imm (i64 4)] errE) (.need (errE=errE) (.done Exit.ret lnil)))) (.fail 1000006 0))) (.need (ALeL [.ptr 0 0,.ptr 1 0] [.ptr 0 0,.ptr 1 0]∧PSpec prog 51 [(85,.agg [.imm (u8 q0.version),.imm (u8 q0.kind),.imm (u16 q0.session),.imm (u32 q0.serial),.imm (bo q0.add),.imm (u32 q0.origin.asn),.imm (u8
 q0.origin.pfx.fam),.imm (u64 q0.origin.pfx.addr.hi),.imm (u64 q0.origin.pfx.addr.lo),.imm (i64 q0.origin.pfx.len),.imm (i64 q0.origin.max),.imm (u32 q0.path.cust),.imm nS,.imm (u32 q0.key.asn),.imm (u8 0),.imm (u8 0),.imm (u8 0),.imm (u8 0),.imm (u8 0),.imm (u8 0),.imm (u8 0),.imm (u8 0),.imm (u8 0),.imm (u8 0),.imm (u8 0),.imm (u8 0),.imm (u8 0),.imm (u8 0),.imm (u8 0),.imm (u8 0),.imm (i64 q0.key.height),.imm (u32 q0.refresh),.imm (u32 q0.retry),.imm (u32 q0.expire),.imm (u16 q0.code),.imm nS,.imm (st q0.text)]),(92,.agg [.imm (slE 1 u8 l)])] [] [.ptr 0 0,.ptr 1 0] errE) (.need (errE=errE)
 (.done Exit.ret lnil)))):=by kernel_rfl
theorem p61 (v k s:Int)(a:Bool)(c:Int)(l:List Int)(h:k61 v l=false):PSpec prog 61 (two (z1 v k s a c) l) [] [.ptr 0 0,.ptr 1 0] errE:=by
 have hv:((z1 v k s a c).withSerial (gu32 l)).version=v:=rfl
 have ho:eN v=16∧0<v∨eN v=4∧¬0<v:=by unfold eN;split<;>simp[*]
 refine PSpec.tree Proofs.Try.f61 (fun ls=>TP61 ls v k s a c l) (by kernel_rfl) (by kernel_rfl) fun ls=>?_
 rw[tp61]
 refine⟨fun h1=>need_sat ⟨ALeL.refl _,g51 _ _ _ _ _ _ ?_⟩ ⟨fun h2=>⟨fun h3=>need_sat ⟨ALeL.refl _,g42 _ _ ?_ ?_ ?_⟩ ⟨fun h4=>need_sat ⟨ALeL.refl _,g42 _ _ ?_ ?_ ?_⟩ ⟨fun h5=>need_sat ⟨ALeL.refl _,g42 _ _ ?_ ?_ ?_⟩ ?_,fun h5=>need_sat ⟨ALeL.refl _,p42 _ _ ?_⟩ (need_sat ?_ (trivial))⟩,fun h4=>need_sat ⟨ALeL.refl _,p42 _ _ ?_⟩ (need_sat ?_ (trivial))⟩,fun h3=>need_sat ⟨ALeL.refl _,p42 _ _ ?_⟩ (need_sat ?_ (trivial))⟩,fun h2=>?_⟩,fun h1=>need_sat ⟨ALeL.refl _,p51 _ _ _ _ _ _ ?_⟩ (need_sat ?_ (trivial))⟩
 all_goals first
  |assumption
  |rfl
  |(simp only[k76,k51,k61,hv,decide_eq_true_eq,decide_eq_false_iff_not,Bool.not_eq_true',Bool.not_eq_false',List.length_drop,List.drop_drop,Nat.reduceAdd]at*;omega)
  |(exfalso;simp only[k76,k51,k61,hv,decide_eq_true_eq,decide_eq_false_iff_not,Bool.not_eq_true',Bool.not_eq_false',List.length_drop,List.drop_drop,Nat.reduceAdd]at*;omega)
end Gp
namespace Gp
def TP71 (ls:Nat→Abs.Loc)(v k s:Int)(a:Bool)(c:Int)(l:List Int):Tell:=
 (let q2:=IntKind.wrap IntKind.i64 (getV l 4);let q0:=List.drop (Int.toNat q2) (List.drop 4 l);let q1:=IntKind.wrap IntKind.i64 (getV q0 4);let q3:=List.take (Int.toNat q2) (List.drop 4 l);let q4:=List.take (Int.toNat q1) (List.drop 4 q0);
 Tell.mk (fun x x_1=>false) (fun x x_1=>Orc.no) (fun x=>Tree.fail 1000003 0) (fun x=>0) (fun x=>([],[])) (oget [(2,0,3,Orc.may (k76 l 4) [1] 1 [.ptr 0 0,.imm (i64 4)] errE (Orc.callg [1] 1 [.ptr 0 0,.imm (i64 4)] [(92,.agg [.imm (slE 1 u8 (List.drop (Int.toNat 4) l))])] [] (.imm (u64 (getV l 4))))),(2,0,5,Orc.may (k76 (List.drop 4 l) q2) [1] 1 [.ptr 0 0,.imm (i64 q2)] errE (Orc.callg [1] 1 [.ptr 0 0,.imm (i64 q2)] [(92,.agg [.imm (slE 1 u8 q0)])] [] (.imm (slE 1 u8 q3)))),(2,0,6,Orc.call [slE 1 u8 q3] (slF 1 u8 q3)),(13,1,3,Orc.may (k76 q0 4) [1] 1 [.ptr 0 0,.imm (i64 4)] errE
 (Orc.callg [1] 1 [.ptr 0 0,.imm (i64 4)] [(92,.agg [.imm (slE 1 u8 (List.drop (Int.toNat 4) q0))])] [] (.imm (u64 (getV q0 4))))),(13,1,5,Orc.may (k76 (List.drop 4 q0) q1) [1] 1 [.ptr 0 0,.imm (i64 q1)] errE (Orc.callg [1] 1 [.ptr 0 0,.imm (i64 q1)] [(92,.agg [.imm (slE 1 u8 (List.drop (Int.toNat q1) (List.drop 4 q0)))])] [] (.imm (slE 1 u8 q4)))),(13,1,6,Orc.tos q4)]) fun x x_1=>Tree.fail 1000003 0)
theorem tp71 (ls:Nat→Abs.Loc)(v k s:Int)(a:Bool)(c:Int)(l:List Int):levP prog Proofs.Try.f71 ls (two (z1 v k s a c) l) [] [.ptr 0 0,.ptr 1 0] errE (TP71 ls v k s a c l)=
 (let q1:=IntKind.wrap IntKind.i64 (getV l 4);let q0:=List.drop (Int.toNat q1) (List.drop 4 l);let q2:=IntKind.wrap IntKind.i64 (getV q0 4);let q3:=List.take (Int.toNat q1) (List.drop 4 l);let q4:=List.drop 4 q0;let q5:=List.take (Int.toNat q2) q4;let q6:=slE 1 u8 (List.drop 4 l);
 Tree.br (k76 l 4) (.need (ALeL [.ptr 0 0,.imm (i64 4)] [.ptr 0 0,.imm (i64 4)]∧GSpec prog 42 [(92,.agg [.imm (slE 1 u8 l)])] [] [.ptr 0 0,.imm (i64 4)] [(92,.agg [.imm q6])] [] (.imm (u64 (getV l 4)))) (.br (k76 (List.drop 4 l) q1) (.need (ALeL [.ptr 0 0,.imm (i64 q1)] [.ptr 0 0,.imm (i64 q1)]∧GSpec prog 76 [(92,.agg [.imm q6])] [] [.ptr 0 0,.imm (i64 q1)] [(92,.agg [.imm (slE 1 u8 q0)])] [] (.imm (slE 1 u8 q3))) (.need (ILeL [slE 1 u8 q3] [slE 1 u8 q3]∧ASpec prog 33 [slE 1 u8 q3] (slF 1 u8 q3)) (.br (k76 q0 4) (.need (ALeL [.ptr 0 0,.imm (i64 4)] [.ptr 0 0,.imm (i64 4)]∧GSpec prog 42
 [(92,.agg [.imm (slE 1 u8 q0)])] [] [.ptr 0 0,.imm (i64 4)] [(92,.agg [.imm (slE 1 u8 q4)])] [] (.imm (u64 (getV q0 4)))) (.br (k76 q4 q2) (.need (ALeL [.ptr 0 0,.imm (i64 q2)] [.ptr 0 0,.imm (i64 q2)]∧GSpec prog 76 [(92,.agg [.imm (slE 1 u8 q4)])] [] [.ptr 0 0,.imm (i64 q2)] [(92,.agg [.imm (slE 1 u8 (List.drop (Int.toNat q2) q4))])] [] (.imm (slE 1 u8 q5))) (.need (List.map u8 q5=List.map (fun n=>u8 n) q5) (.fail 1000006 0))) (.need (ALeL [.ptr 0 0,.imm (i64 q2)] [.ptr 0 0,.imm (i64 q2)]∧PSpec prog 76 [(92,.agg [.imm (slE 1 u8 q4)])] [] [.ptr 0 0,.imm (i64 q2)] errE) (.need (errE=
 errE) (.done Exit.ret lnil))))) (.need (ALeL [.ptr 0 0,.imm (i64 4)] [.ptr 0 0,.imm (i64 4)]∧PSpec prog 42 [(92,.agg [.imm (slE 1 u8 q0)])] [] [.ptr 0 0,.imm (i64 4)] errE) (.need (errE=errE) (.done Exit.ret lnil)))))) (.need (ALeL [.ptr 0 0,.imm (i64 q1)] [.ptr 0 0,.imm (i64 q1)]∧PSpec prog 76 [(92,.agg [.imm q6])] [] [.ptr 0 0,.imm (i64 q1)] errE) (.need (errE=errE) (.done Exit.ret lnil))))) (.need (ALeL [.ptr 0 0,.imm (i64 4)] [.ptr 0 0,.imm (i64 4)]∧PSpec prog 42 [(92,.agg [.imm (slE 1 u8 l)])] [] [.ptr 0 0,.imm (i64 4)] errE) (.need (errE=errE) (.done Exit.ret lnil)))):=by kernel_rfl
theorem p71 (v k s:Int)(a:Bool)(c:Int)(l:List Int)(hl:l.length≤100000)(h:k71 l=false):PSpec prog 71 (two (z1 v k s a c) l) [] [.ptr 0 0,.ptr 1 0] errE:=by
 refine PSpec.tree Proofs.Try.f71 (fun ls=>TP71 ls v k s a c l) (by kernel_rfl) (by kernel_rfl) fun ls=>?_
 rw[tp71]
 refine⟨fun h1=>need_sat ⟨ALeL.refl _,g42 _ _ ?_ ?_ ?_⟩ ⟨fun h2=>need_sat ⟨ALeL.refl _,g76 _ _ ?_ ?_⟩ (need_sat ⟨ILeL.refl _,c33 _ ?_⟩ ⟨fun h3=>need_sat ⟨ALeL.refl _,g42 _ _ ?_ ?_ ?_⟩ ⟨fun h4=>need_sat ⟨ALeL.refl _,g76 _ _ ?_ ?_⟩ (need_sat ?_ ?_),fun h4=>need_sat ⟨ALeL.refl _,p76 _ _ ?_⟩ (need_sat ?_ (trivial))⟩,fun h3=>need_sat ⟨ALeL.refl _,p42 _ _ ?_⟩ (need_sat ?_ (trivial))⟩),fun h2=>need_sat ⟨ALeL.refl _,p76 _ _ ?_⟩ (need_sat ?_ (trivial))⟩,fun h1=>need_sat ⟨ALeL.refl _,p42 _ _ ?_⟩ (need_sat ?_ (trivial))⟩
 all_goals first
  |assumption
  |rfl
  |(simp only[k76,k71,gn,fL1,decide_eq_true_eq,decide_eq_false_iff_not,Bool.not_eq_true',Bool.not_eq_false',List.length_drop,List.length_take,List.drop_drop]at*;omega)
  |(exfalso;simp only[k76,k71,gn,fL1,decide_eq_true_eq,decide_eq_false_iff_not,Bool.not_eq_true',Bool.not_eq_false',List.length_drop,List.length_take,List.drop_drop]at*;omega)
end Gp
