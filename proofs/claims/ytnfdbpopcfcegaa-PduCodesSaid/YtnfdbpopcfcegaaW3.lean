/- Part 3 of the walk and of the plain law of PduCuts. -/
import Derived.Test.YtnfdbpopcfcegaaW2
set_option maxRecDepth 100000
set_option maxHeartbeats 0
set_option linter.unusedVariables false
set_option linter.unusedSimpArgs false
open Go Go.Abs
noncomputable section
namespace Gp
def isK (k:Int):Prop:=k=0∨k=1∨k=2∨k=8∨k=4∨k=6∨k=3∨k=7∨k=9∨k=10∨k=11
instance(k:Int):Decidable (isK k):=by unfold isK;infer_instance
def isZ (k:Int):Prop:=k=2∨k=8∨k=3
instance(k:Int):Decidable (isZ k):=by unfold isZ;infer_instance
def chkN (k:Int):Nat:=if k=4∨k=6 then 56 else if k=7 then 59 else if k=9 then 62 else if k=10 then 67 else if k=11 then 72 else 47
def headN (k:Int):Nat:=if k=9∨k=11 then 63 else if k=10 then 68 else if k=2∨k=8∨k=4∨k=6 then 52 else 48
def restN (k:Int):Nat:=if k=4∨k=6 then 57 else if k=7 then 60 else if k=9 then 64 else if k=10 then 69 else if k=11 then 73 else if k=0∨k=1 then 49 else 53
def firstN (k:Int):Nat:=if k=9∨k=11 then 65 else if k=10 then 70 else if k=2∨k=8∨k=4∨k=6 then 54 else 50
def thenN (k:Int):Nat:=if k=4∨k=6 then 58 else if k=7 then 61 else if k=9 then 66 else if k=10 then 71 else if k=11 then 74 else if k=0∨k=1 then 51 else 55
def formI (k:Int):IVal:=.agg [fnV (chkN k),fnV (headN k),fnV (restN k),fnV (firstN k),fnV (thenN k)]
def formZ (k:Int):IVal:=.agg [fnV (chkN k),fnV (headN k),fnV 53,fnV (firstN k),fnV (thenN k)]
theorem formZ_eq {k:Int}(h:isZ k):formI k=formZ k:=by
 unfold isZ at h;rcases h with rfl|rfl|rfl<;>rfl
def ksF :List Value:=[.int .u8 0,.int .u8 1,.int .u8 2,.int .u8 8,.int .u8 4,.int .u8 6,.int .u8 3,.int .u8 7,.int .u8 9,.int .u8 10,.int .u8 11]
def dsF :List IVal:=[formI 0,formI 1,formI 2,formI 8,formI 4,formI 6,formI 3,formI 7,formI 9,formI 10,formI 11]
def T34 :Tell:=
 Tell.mk (fun x x_1=>false) (fun x x_1=>Orc.no) (fun x=>Tree.fail 1000003 0) (fun x=>0) (fun x=>([],[])) (fun x x_1 x_2=>Orc.no) fun x x_1=>Tree.fail 1000003 0
theorem t34 :levF prog Proofs.Try.f34 [] T34=
 (let q0:=Fn.func 47;
 Tree.done Exit.ret (lret (.map [Value.int IntKind.u8 0,Value.int IntKind.u8 1,Value.int IntKind.u8 2,Value.int IntKind.u8 8,Value.int IntKind.u8 4,Value.int IntKind.u8 6,Value.int IntKind.u8 3,Value.int IntKind.u8 7,Value.int IntKind.u8 9,Value.int IntKind.u8 10,Value.int IntKind.u8 11] [.agg [.v (Value.func q0 (Array.mk []) (Array.mk [])),.v (Value.func (Fn.func 48) (Array.mk []) (Array.mk [])),.v (Value.func (Fn.func 49) (Array.mk []) (Array.mk [])),.v (Value.func (Fn.func 50) (Array.mk []) (Array.mk [])),.v (Value.func (Fn.func 51) (Array.mk []) (Array.mk []))],.agg [.v (Value.func q0
 (Array.mk []) (Array.mk [])),.v (Value.func (Fn.func 48) (Array.mk []) (Array.mk [])),.v (Value.func (Fn.func 49) (Array.mk []) (Array.mk [])),.v (Value.func (Fn.func 50) (Array.mk []) (Array.mk [])),.v (Value.func (Fn.func 51) (Array.mk []) (Array.mk []))],.agg [.v (Value.func q0 (Array.mk []) (Array.mk [])),.v (Value.func (Fn.func 52) (Array.mk []) (Array.mk [])),.v (Value.func (Fn.func 53) (Array.mk []) (Array.mk [])),.v (Value.func (Fn.func 54) (Array.mk []) (Array.mk [])),.v (Value.func (Fn.func 55) (Array.mk []) (Array.mk []))],.agg [.v (Value.func q0 (Array.mk []) (Array.mk [])),.v
 (Value.func (Fn.func 52) (Array.mk []) (Array.mk [])),.v (Value.func (Fn.func 53) (Array.mk []) (Array.mk [])),.v (Value.func (Fn.func 54) (Array.mk []) (Array.mk [])),.v (Value.func (Fn.func 55) (Array.mk []) (Array.mk []))],.agg [.v (Value.func (Fn.func 56) (Array.mk []) (Array.mk [])),.v (Value.func (Fn.func 52) (Array.mk []) (Array.mk [])),.v (Value.func (Fn.func 57) (Array.mk []) (Array.mk [])),.v (Value.func (Fn.func 54) (Array.mk []) (Array.mk [])),.v (Value.func (Fn.func 58) (Array.mk []) (Array.mk []))],.agg [.v (Value.func (Fn.func 56) (Array.mk []) (Array.mk [])),.v (Value.func
 (Fn.func 52) (Array.mk []) (Array.mk [])),.v (Value.func (Fn.func 57) (Array.mk []) (Array.mk [])),.v (Value.func (Fn.func 54) (Array.mk []) (Array.mk [])),.v (Value.func (Fn.func 58) (Array.mk []) (Array.mk []))],.agg [.v (Value.func q0 (Array.mk []) (Array.mk [])),.v (Value.func (Fn.func 48) (Array.mk []) (Array.mk [])),.v (Value.func (Fn.func 53) (Array.mk []) (Array.mk [])),.v (Value.func (Fn.func 50) (Array.mk []) (Array.mk [])),.v (Value.func (Fn.func 55) (Array.mk []) (Array.mk []))],.agg [.v (Value.func (Fn.func 59) (Array.mk []) (Array.mk [])),.v (Value.func (Fn.func 48) (Array.mk [])
 (Array.mk [])),.v (Value.func (Fn.func 60) (Array.mk []) (Array.mk [])),.v (Value.func (Fn.func 50) (Array.mk []) (Array.mk [])),.v (Value.func (Fn.func 61) (Array.mk []) (Array.mk []))],.agg [.v (Value.func (Fn.func 62) (Array.mk []) (Array.mk [])),.v (Value.func (Fn.func 63) (Array.mk []) (Array.mk [])),.v (Value.func (Fn.func 64) (Array.mk []) (Array.mk [])),.v (Value.func (Fn.func 65) (Array.mk []) (Array.mk [])),.v (Value.func (Fn.func 66) (Array.mk []) (Array.mk []))],.agg [.v (Value.func (Fn.func 67) (Array.mk []) (Array.mk [])),.v (Value.func (Fn.func 68) (Array.mk []) (Array.mk [])),.v
 (Value.func (Fn.func 69) (Array.mk []) (Array.mk [])),.v (Value.func (Fn.func 70) (Array.mk []) (Array.mk [])),.v (Value.func (Fn.func 71) (Array.mk []) (Array.mk []))],.agg [.v (Value.func (Fn.func 72) (Array.mk []) (Array.mk [])),.v (Value.func (Fn.func 63) (Array.mk []) (Array.mk [])),.v (Value.func (Fn.func 73) (Array.mk []) (Array.mk [])),.v (Value.func (Fn.func 65) (Array.mk []) (Array.mk [])),.v (Value.func (Fn.func 74) (Array.mk []) (Array.mk []))]]))):=by kernel_rfl
theorem c34 :ASpec prog 34 [] (.map ksF dsF):=by
 refine ASpec.treeW Proofs.Try.f34 T34 (by kernel_rfl) (by kernel_rfl) t34 ?_
 exact⟨_,rfl,.refl _⟩
def hdL (p:Pdu):List Int:=if p.kind=9∨p.kind=11 then hd63 p else if p.kind=10 then hd68 p else if p.kind=2∨p.kind=8∨p.kind=4∨p.kind=6 then hd52 p else hd48 p
def rsL (p:Pdu):List Int:=if p.kind=4∨p.kind=6 then rs57 p else if p.kind=7 then rs60 p else if p.kind=9 then rs64 p else if p.kind=10 then rs69 p else if p.kind=11 then rs73 p else if p.kind=0∨p.kind=1 then rs49 p else[]
def Pdu.ok (p:Pdu):Prop:=p.copy.length≤100000∧p.text.size≤100000∧p.path.provs.length≤100000
theorem gheadN (l:List Int)(m:Nat)(p:Pdu)(hm:m=l.length)(hl:l.length≤800000):GSpec prog (headN p.kind) [(92,.agg [.own 1 m])] [(5,1,l.map u8)] [.imm (encD p),.ptr 0 0] [(92,.agg [.own 1 (l++hdL p).length])] [.row 5 1 ((l++hdL p).map u8)] (.tup []):=by
 unfold headN hdL
 by_cases h1:p.kind=9∨p.kind=11
 ·rw[if_pos h1,if_pos h1];exact g63 l m p hm hl
 rw[if_neg h1,if_neg h1]
 by_cases h2:p.kind=10
 ·rw[if_pos h2,if_pos h2];exact g68 l m p hm hl
 rw[if_neg h2,if_neg h2]
 by_cases h3:p.kind=2∨p.kind=8∨p.kind=4∨p.kind=6
 ·rw[if_pos h3,if_pos h3];exact g52 l m p hm hl
 rw[if_neg h3,if_neg h3]
 exact g48 l m p hm hl
theorem grestN (p:Pdu)(hk:isK p.kind)(hz:¬isZ p.kind)(hp:p.ok):GSpec prog (restN p.kind) [(92,.agg [.imm (.v (.slice none 0 0))])] [] [.imm (encD p),.ptr 0 0] [(92,.agg [.own 1 (rsL p).length])] [.row 5 1 ((rsL p).map u8)] (.tup []):=by
 obtain⟨h1,h2,h3⟩:=hp
 unfold isK at hk;unfold isZ at hz
 unfold restN rsL
 rcases hk with h|h|h|h|h|h|h|h|h|h|h<;>rw[h]at hz⊢<;>simp at hz⊢
 ·exact g49 p
 ·exact g49 p
 ·exact g57 p
 ·exact g57 p
 ·exact g60 p
 ·exact g64 p
 ·exact g69 p h1 h2
 ·exact g73 p h3
def T53 (ls:Nat→Abs.Loc)(p:Pdu):Tell:=
 Tell.mk (fun x x_1=>false) (fun x x_1=>Orc.no) (fun x=>Tree.fail 1000003 0) (fun x=>0) (fun x=>([],[])) (fun x x_1 x_2=>Orc.no) fun x x_1=>Tree.fail 1000003 0
theorem t53 (ls:Nat→Abs.Loc)(p:Pdu):levG prog Proofs.Try.f53 ls [(92,.agg [.imm (.v (.slice none 0 0))])] [] [.imm (encD p),.ptr 0 0] [(92,.agg [.imm (.v (.slice none 0 0))])] [] (.tup []) (T53 ls p)=
 Tree.need ([(ls 0,92,AVal.agg [AVal.imm nS])]=[(ls 0,92,AVal.agg [AVal.imm nS])]∧ELeL [] []∧ALe (.tup []) (.tup [])) (.done Exit.ret lnil):=by kernel_rfl
theorem g53 (p:Pdu):GSpec prog 53 [(92,.agg [.imm (.v (.slice none 0 0))])] [] [.imm (encD p),.ptr 0 0] [(92,.agg [.imm (.v (.slice none 0 0))])] [] (.tup []):=by
 refine GSpec.tree Proofs.Try.f53 (fun ls=>T53 ls p) (by kernel_rfl) (by kernel_rfl) rfl fun ls=>?_
 rw[t53]
 refine need_sat ?_ (trivial)
 exact⟨rfl,.refl _,.refl _⟩
def T36 (p:Pdu):Tell:=
 (let q0:=IntKind.wrap IntKind.u64 p.version;let q1:=IntKind.wrap IntKind.u64 p.kind;let q2:=IntKind.wrap IntKind.u64 (IntKind.wrap IntKind.i64 (8+(↑(List.length (rsL p)):Int)));let q3:=num q0 1++num q1 1++hdL p++num q2 4;
 Tell.mk (fun x x_1=>false) (fun x x_1=>Orc.no) (fun x=>Tree.fail 1000003 0) (fun x=>0) (fun x=>([],[])) (oget [(13,2,4,Orc.callg [6] 1 [.ptr 0 0,.imm (u64 q0),.imm (i64 1)] [(92,.agg [.own 1 (List.length (num q0 1))])] [Entry.row 5 1 (List.map u8 (num q0 1))] (.tup [])),(19,3,4,Orc.callg [6,17] 1 [.ptr 0 0,.imm (u64 q1),.imm (i64 1)] [(92,.agg [.own 1 (List.length (num q0 1++num q1 1))])] [Entry.row 5 1 (List.map u8 (num q0 1++num q1 1))] (.tup [])),(25,4,4,Orc.callg [6,23] 1 [.imm (encD p),.ptr 0 0] [(92,.agg [.own 1 (List.length (num q0 1++num q1 1++hdL p))])] [Entry.row 5 1
 (List.map u8 (num q0 1++num q1 1++hdL p))] (.tup [])),(31,5,4,Orc.callg [8] 1 [.imm (encD p),.ptr 0 0] [(92,.agg [.own 1 (List.length (rsL p))])] [Entry.row 5 1 (List.map u8 (rsL p))] (.tup [])),(37,6,8,Orc.callg [6,29] 1 [.ptr 0 0,.imm (u64 q2),.imm (i64 4)] [(92,.agg [.own 1 (List.length q3)])] [Entry.row 5 1 (List.map u8 q3)] (.tup []))]) fun x x_1=>Tree.fail 1000003 0)
theorem t36 (p:Pdu):levF prog Proofs.Try.f36 [encD p,formI p.kind] (T36 p)=
 (let q1:=IntKind.wrap IntKind.u64 p.version;let q2:=IntKind.wrap IntKind.u64 p.kind;let q0:=num q1 1++num q2 1++hdL p++num (IntKind.wrap IntKind.u64 (IntKind.wrap IntKind.i64 (8+(↑(List.length (rsL p)):Int)))) 4;let q3:=u64 (IntKind.wrap IntKind.u64 (IntKind.wrap IntKind.i64 (8+(↑(List.length (rsL p)):Int))));let q4:=num q1 1++num q2 1++hdL p;let q5:=List.map u8 (rsL p);let q6:=num q1 1++num q2 1;let q7:=List.map u8 q0++List.map u8 (rsL p);
 Tree.need (ALeL [.ptr 0 0,.imm (u64 q1),.imm (i64 1)] [.ptr 0 0,.imm (u64 q1),.imm (i64 1)]∧GSpec prog 77 [(92,.agg [.imm nS])] [] [.ptr 0 0,.imm (u64 q1),.imm (i64 1)] [(92,.agg [.own 1 (List.length (num q1 1))])] [Entry.row 5 1 (List.map u8 (num q1 1))] (.tup [])) (.need (ALeL [.ptr 0 0,.imm (u64 q2),.imm (i64 1)] [.ptr 0 0,.imm (u64 q2),.imm (i64 1)]∧GSpec prog 77 [(92,.agg [.own 1 (List.length (num q1 1))])] [(5,1,List.map u8 (num q1 1))] [.ptr 0 0,.imm (u64 q2),.imm (i64 1)] [(92,.agg [.own 1 (List.length q6)])] [Entry.row 5 1 (List.map u8 q6)] (.tup [])) (.need (ALeL [.agg [.imm (u8
 p.version),.imm (u8 p.kind),.imm (u16 p.session),.imm (u32 p.serial),.imm (bo p.add),.imm (u32 p.origin.asn),.imm (u8 p.origin.pfx.fam),.imm (u64 p.origin.pfx.addr.hi),.imm (u64 p.origin.pfx.addr.lo),.imm (i64 p.origin.pfx.len),.imm (i64 p.origin.max),.imm (u32 p.path.cust),.imm (lu32 p.path.provs),.imm (u32 p.key.asn),.imm (u8 p.key.root[0]),.imm (u8 p.key.root[1]),.imm (u8 p.key.root[2]),.imm (u8 p.key.root[3]),.imm (u8 p.key.root[4]),.imm (u8 p.key.root[5]),.imm (u8 p.key.root[6]),.imm (u8 p.key.root[7]),.imm (u8 p.key.root[8]),.imm (u8 p.key.root[9]),.imm (u8 p.key.root[10]),.imm (u8
 p.key.root[11]),.imm (u8 p.key.root[12]),.imm (u8 p.key.root[13]),.imm (u8 p.key.root[14]),.imm (u8 p.key.root[15]),.imm (i64 p.key.height),.imm (u32 p.refresh),.imm (u32 p.retry),.imm (u32 p.expire),.imm (u16 p.code),.imm (lu8 p.copy),.imm (st p.text)],.ptr 0 0] [.imm (encD p),.ptr 0 0]∧GSpec prog (headN p.kind) [(92,.agg [.own 1 (List.length q6)])] [(5,1,List.map u8 q6)] [.imm (encD p),.ptr 0 0] [(92,.agg [.own 1 (List.length q4)])] [Entry.row 5 1 (List.map u8 q4)] (.tup [])) (.need (ALeL [.agg [.imm (u8 p.version),.imm (u8 p.kind),.imm (u16 p.session),.imm (u32 p.serial),.imm (bo
 p.add),.imm (u32 p.origin.asn),.imm (u8 p.origin.pfx.fam),.imm (u64 p.origin.pfx.addr.hi),.imm (u64 p.origin.pfx.addr.lo),.imm (i64 p.origin.pfx.len),.imm (i64 p.origin.max),.imm (u32 p.path.cust),.imm (lu32 p.path.provs),.imm (u32 p.key.asn),.imm (u8 p.key.root[0]),.imm (u8 p.key.root[1]),.imm (u8 p.key.root[2]),.imm (u8 p.key.root[3]),.imm (u8 p.key.root[4]),.imm (u8 p.key.root[5]),.imm (u8 p.key.root[6]),.imm (u8 p.key.root[7]),.imm (u8 p.key.root[8]),.imm (u8 p.key.root[9]),.imm (u8 p.key.root[10]),.imm (u8 p.key.root[11]),.imm (u8 p.key.root[12]),.imm (u8 p.key.root[13]),.imm (u8
 p.key.root[14]),.imm (u8 p.key.root[15]),.imm (i64 p.key.height),.imm (u32 p.refresh),.imm (u32 p.retry),.imm (u32 p.expire),.imm (u16 p.code),.imm (lu8 p.copy),.imm (st p.text)],.ptr 0 0] [.imm (encD p),.ptr 0 0]∧GSpec prog (restN p.kind) [(92,.agg [.imm nS])] [] [.imm (encD p),.ptr 0 0] [(92,.agg [.own 1 (List.length (rsL p))])] [Entry.row 5 1 q5] (.tup [])) (.need (ALeL [.ptr 0 0,.imm q3,.imm (i64 4)] [.ptr 0 0,.imm q3,.imm (i64 4)]∧GSpec prog 77 [(92,.agg [.own 1 (List.length q4)])] [(5,1,List.map u8 q4)] [.ptr 0 0,.imm q3,.imm (i64 4)] [(92,.agg [.own 1 (List.length q0)])] [Entry.row 5
 1 (List.map u8 q0)] (.tup [])) (.need (askA (some (List.length q5=List.length (rsL p))) (List.length (List.map u8 q0)=List.length q0∧cellsOk (List.map u8 q0)=true∧cellsOk q5=true∧List.length q0+List.length q5≤1000000)) (.need (eqs [(List.length q0+List.length q5,List.length q7)]) (.done Exit.ret (lret (.sl true false 1 q7)))))))))):=by kernel_rfl
def T36' (p:Pdu):Tell:=
 (let q0:=IntKind.wrap IntKind.u64 p.version;let q1:=IntKind.wrap IntKind.u64 p.kind;let q2:=num q0 1++num q1 1++hdL p++num 8 4;
 Tell.mk (fun x x_1=>false) (fun x x_1=>Orc.no) (fun x=>Tree.fail 1000003 0) (fun x=>0) (fun x=>([],[])) (oget [(13,2,4,Orc.callg [6] 1 [.ptr 0 0,.imm (u64 q0),.imm (i64 1)] [(92,.agg [.own 1 (List.length (num q0 1))])] [Entry.row 5 1 (List.map u8 (num q0 1))] (.tup [])),(19,3,4,Orc.callg [6,17] 1 [.ptr 0 0,.imm (u64 q1),.imm (i64 1)] [(92,.agg [.own 1 (List.length (num q0 1++num q1 1))])] [Entry.row 5 1 (List.map u8 (num q0 1++num q1 1))] (.tup [])),(25,4,4,Orc.callg [6,23] 1 [.imm (encD p),.ptr 0 0] [(92,.agg [.own 1 (List.length (num q0 1++num q1 1++hdL p))])] [Entry.row 5 1
 (List.map u8 (num q0 1++num q1 1++hdL p))] (.tup [])),(31,5,4,Orc.callg [8] 1 [.imm (encD p),.ptr 0 0] [(92,.agg [.imm nS])] [] (.tup [])),(36,6,8,Orc.callg [6,29] 1 [.ptr 0 0,.imm (u64 8),.imm (i64 4)] [(92,.agg [.own 1 (List.length q2)])] [Entry.row 5 1 (List.map u8 q2)] (.tup []))]) fun x x_1=>Tree.fail 1000003 0)
theorem t36' (p:Pdu):levF prog Proofs.Try.f36 [encD p,formZ p.kind] (T36' p)=
 (let q1:=IntKind.wrap IntKind.u64 p.version;let q2:=IntKind.wrap IntKind.u64 p.kind;let q0:=num q1 1++num q2 1++hdL p++num 8 4;let q3:=num q1 1++num q2 1++hdL p;let q4:=num q1 1++num q2 1;
 Tree.need (ALeL [.ptr 0 0,.imm (u64 q1),.imm (i64 1)] [.ptr 0 0,.imm (u64 q1),.imm (i64 1)]∧GSpec prog 77 [(92,.agg [.imm nS])] [] [.ptr 0 0,.imm (u64 q1),.imm (i64 1)] [(92,.agg [.own 1 (List.length (num q1 1))])] [Entry.row 5 1 (List.map u8 (num q1 1))] (.tup [])) (.need (ALeL [.ptr 0 0,.imm (u64 q2),.imm (i64 1)] [.ptr 0 0,.imm (u64 q2),.imm (i64 1)]∧GSpec prog 77 [(92,.agg [.own 1 (List.length (num q1 1))])] [(5,1,List.map u8 (num q1 1))] [.ptr 0 0,.imm (u64 q2),.imm (i64 1)] [(92,.agg [.own 1 (List.length q4)])] [Entry.row 5 1 (List.map u8 q4)] (.tup [])) (.need (ALeL [.agg [.imm (u8
 p.version),.imm (u8 p.kind),.imm (u16 p.session),.imm (u32 p.serial),.imm (bo p.add),.imm (u32 p.origin.asn),.imm (u8 p.origin.pfx.fam),.imm (u64 p.origin.pfx.addr.hi),.imm (u64 p.origin.pfx.addr.lo),.imm (i64 p.origin.pfx.len),.imm (i64 p.origin.max),.imm (u32 p.path.cust),.imm (lu32 p.path.provs),.imm (u32 p.key.asn),.imm (u8 p.key.root[0]),.imm (u8 p.key.root[1]),.imm (u8 p.key.root[2]),.imm (u8 p.key.root[3]),.imm (u8 p.key.root[4]),.imm (u8 p.key.root[5]),.imm (u8 p.key.root[6]),.imm (u8 p.key.root[7]),.imm (u8 p.key.root[8]),.imm (u8 p.key.root[9]),.imm (u8 p.key.root[10]),.imm (u8
 p.key.root[11]),.imm (u8 p.key.root[12]),.imm (u8 p.key.root[13]),.imm (u8 p.key.root[14]),.imm (u8 p.key.root[15]),.imm (i64 p.key.height),.imm (u32 p.refresh),.imm (u32 p.retry),.imm (u32 p.expire),.imm (u16 p.code),.imm (lu8 p.copy),.imm (st p.text)],.ptr 0 0] [.imm (encD p),.ptr 0 0]∧GSpec prog (headN p.kind) [(92,.agg [.own 1 (List.length q4)])] [(5,1,List.map u8 q4)] [.imm (encD p),.ptr 0 0] [(92,.agg [.own 1 (List.length q3)])] [Entry.row 5 1 (List.map u8 q3)] (.tup [])) (.need (ALeL [.agg [.imm (u8 p.version),.imm (u8 p.kind),.imm (u16 p.session),.imm (u32 p.serial),.imm (bo
 p.add),.imm (u32 p.origin.asn),.imm (u8 p.origin.pfx.fam),.imm (u64 p.origin.pfx.addr.hi),.imm (u64 p.origin.pfx.addr.lo),.imm (i64 p.origin.pfx.len),.imm (i64 p.origin.max),.imm (u32 p.path.cust),.imm (lu32 p.path.provs),.imm (u32 p.key.asn),.imm (u8 p.key.root[0]),.imm (u8 p.key.root[1]),.imm (u8 p.key.root[2]),.imm (u8 p.key.root[3]),.imm (u8 p.key.root[4]),.imm (u8 p.key.root[5]),.imm (u8 p.key.root[6]),.imm (u8 p.key.root[7]),.imm (u8 p.key.root[8]),.imm (u8 p.key.root[9]),.imm (u8 p.key.root[10]),.imm (u8 p.key.root[11]),.imm (u8 p.key.root[12]),.imm (u8 p.key.root[13]),.imm (u8
 p.key.root[14]),.imm (u8 p.key.root[15]),.imm (i64 p.key.height),.imm (u32 p.refresh),.imm (u32 p.retry),.imm (u32 p.expire),.imm (u16 p.code),.imm (lu8 p.copy),.imm (st p.text)],.ptr 0 0] [.imm (encD p),.ptr 0 0]∧GSpec prog 53 [(92,.agg [.imm nS])] [] [.imm (encD p),.ptr 0 0] [(92,.agg [.imm nS])] [] (.tup [])) (.need (ALeL [.ptr 0 0,.imm (u64 8),.imm (i64 4)] [.ptr 0 0,.imm (u64 8),.imm (i64 4)]∧GSpec prog 77 [(92,.agg [.own 1 (List.length q3)])] [(5,1,List.map u8 q3)] [.ptr 0 0,.imm (u64 8),.imm (i64 4)] [(92,.agg [.own 1 (List.length q0)])] [Entry.row 5 1 (List.map u8 q0)] (.tup []))
 (.need (askA none (List.length (List.map u8 q0)=List.length q0∧cellsOk (List.map u8 q0)=true∧true=true∧List.length q0+0≤1000000)) (.need (eqs [(List.length q0+0,List.length (List.map u8 q0++[]))]) (.done Exit.ret (lret (.sl true false 1 (List.map u8 q0++[]))))))))))):=by kernel_rfl
def encB (p:Pdu):List Int:=num (w64 p.version) 1++num (w64 p.kind) 1++hdL p++num (w64 (IntKind.i64.wrap (8+(rsL p).length))) 4++rsL p
theorem hdL_len (p:Pdu):(hdL p).length=2:=by
 unfold hdL;repeat' split
 all_goals simp[hd63,hd68,hd52,hd48,flI_len,num_len]
theorem rsL_len (p:Pdu)(hp:p.ok):(rsL p).length≤500000:=by
 obtain⟨h1,h2,h3⟩:=hp
 unfold rsL;repeat' split
 ·simp only[rs57,List.length_append,flI_len,num_len];split<;>simp[num_len]
 ·simp only[rs60,rs49,List.length_append,num_len];split<;>simp[num_len]
 ·simp[rs64,num_len,rootL]
 ·simp[rs69,num_len,bytesL];omega
 ·simp[rs73,num_len,pvL_len];omega
 ·simp[rs49,num_len]
 ·simp
theorem rsL_z (p:Pdu)(h:isZ p.kind):rsL p=[]:=by
 unfold isZ at h;unfold rsL
 rcases h with h|h|h<;>simp[h]
theorem c36r (p:Pdu)(hk:isK p.kind)(hz:¬isZ p.kind)(hp:p.ok):ASpec prog 36 [encD p,formI p.kind] (slF 1 u8 (encB p)):=by
 have hl:=rsL_len p hp
 have hh:=hdL_len p
 refine ASpec.treeW Proofs.Try.f36 (T36 p) (by kernel_rfl) (by kernel_rfl) (t36 p) ?_
 refine need_sat ⟨ALeL.refl _,g77' _ _ ?_ ?_⟩ (need_sat ⟨ALeL.refl _,g77 _ _ _ _ ?_ ?_ ?_ ?_⟩ (need_sat ⟨(by repeat' first|exact trivial|exact ALe.refl _|exact ALe.imm (ILe.refl _)|exact ALe.data rfl (ILe.refl _)|refine And.intro ?_ ?_|refine ALe.imm ?_|refine ALe.data rfl ?_|exact ILeL.refl _|exact ILe.refl _|exact ILe.nil _ _ _|exact ILe.sl (fun h=>by cases h) (fun h=>h) (ILeL.refl _)|apply ILeL.cons|apply ILe.agg|apply ILe.tup),gheadN _ _ _ ?_ ?_⟩ (need_sat ⟨(by repeat' first|exact trivial|exact ALe.refl _|exact ALe.imm (ILe.refl _)|exact ALe.data rfl (ILe.refl _)|refine And.intro ?_ ?_|refine ALe.imm ?_|refine ALe.data rfl ?_|exact ILeL.refl _|exact ILe.refl _|exact ILe.nil _ _ _|exact ILe.sl (fun h=>by cases h) (fun h=>h) (ILeL.refl _)|apply ILeL.cons|apply ILe.agg|apply ILe.tup),grestN _ ?_ ?_ ?_⟩ (need_sat ⟨ALeL.refl _,g77 _ _ _ _ ?_ ?_ ?_ ?_⟩ (need_sat ?_ (need_sat ?_ ⟨_,rfl,?_⟩))))))
 all_goals try first
  |assumption
  |omega
  |rfl
  |(simp[num_len];done)
  |(simp[num_len,hh];done)
  |(simp[num_len,hh];omega)
 ·exact⟨⟨by simp,cellsOk_map u8 (fun _=>rfl) _,cellsOk_map u8 (fun _=>rfl) _,by simp[num_len,hh];omega⟩,by simp⟩
 ·exact⟨by simp[Nat.add_assoc],trivial⟩
 ·exact ile_eq (by simp[slF,encB])
theorem c36z (p:Pdu)(hz:isZ p.kind)(hp:p.ok):ASpec prog 36 [encD p,formZ p.kind] (slF 1 u8 (encB p)):=by
 have hl:=rsL_len p hp
 have hh:=hdL_len p
 have hr:=rsL_z p hz
 refine ASpec.treeW Proofs.Try.f36 (T36' p) (by kernel_rfl) (by kernel_rfl) (t36' p) ?_
 refine need_sat ⟨ALeL.refl _,g77' _ _ ?_ ?_⟩ (need_sat ⟨ALeL.refl _,g77 _ _ _ _ ?_ ?_ ?_ ?_⟩ (need_sat ⟨(by repeat' first|exact trivial|exact ALe.refl _|exact ALe.imm (ILe.refl _)|exact ALe.data rfl (ILe.refl _)|refine And.intro ?_ ?_|refine ALe.imm ?_|refine ALe.data rfl ?_|exact ILeL.refl _|exact ILe.refl _|exact ILe.nil _ _ _|exact ILe.sl (fun h=>by cases h) (fun h=>h) (ILeL.refl _)|apply ILeL.cons|apply ILe.agg|apply ILe.tup),gheadN _ _ _ ?_ ?_⟩ (need_sat ⟨(by repeat' first|exact trivial|exact ALe.refl _|exact ALe.imm (ILe.refl _)|exact ALe.data rfl (ILe.refl _)|refine And.intro ?_ ?_|refine ALe.imm ?_|refine ALe.data rfl ?_|exact ILeL.refl _|exact ILe.refl _|exact ILe.nil _ _ _|exact ILe.sl (fun h=>by cases h) (fun h=>h) (ILeL.refl _)|apply ILeL.cons|apply ILe.agg|apply ILe.tup),g53 _⟩ (need_sat ⟨ALeL.refl _,g77 _ _ _ _ ?_ ?_ ?_ ?_⟩ (need_sat ?_ (need_sat ?_ ⟨_,rfl,?_⟩))))))
 all_goals try first
  |assumption
  |omega
  |rfl
  |(simp[num_len];done)
  |(simp[num_len,hh];done)
  |(simp[num_len,hh];omega)
 ·exact⟨by simp,cellsOk_map u8 (fun _=>rfl) _,rfl,by simp[num_len,hh]⟩
 ·exact⟨by simp,trivial⟩
 ·have e:w64 (IntKind.i64.wrap (8+((rsL p).length:Int)))=8:=by rw[hr];rfl
  exact ile_eq (by rw[slF,encB,e,hr];simp)
theorem c36 (p:Pdu)(hk:isK p.kind)(hp:p.ok):ASpec prog 36 [encD p,formI p.kind] (slF 1 u8 (encB p)):=by
 by_cases hz:isZ p.kind
 ·rw[formZ_eq hz];exact c36z p hz hp
 ·exact c36r p hk hz hp
end Gp
namespace Gp
def T76 (ls:Nat→Abs.Loc)(l:List Int)(n:Int):Tell:=
 Tell.mk (fun x x_1=>false) (fun r i=>if(r==3&&i==5||r==4&&i==6)=true then Orc.slc else Orc.no) (fun x=>Tree.fail 1000003 0) (fun x=>0) (fun x=>([],[])) (ogetO (fun r i=>if(r==3&&i==5||r==4&&i==6)=true then Orc.slc else Orc.no) []) fun x x_1=>Tree.fail 1000003 0
theorem t76 (ls:Nat→Abs.Loc)(l:List Int)(n:Int):levG prog Proofs.Try.f76 ls [(92,.agg [.imm (slE 1 u8 l)])] [] [.ptr 0 0,.imm (i64 n)] [(92,.agg [.imm (slE 1 u8 (l.drop n.toNat))])] [] (.imm (slE 1 u8 (l.take n.toNat))) (T76 ls l n)=
 (let q0:=List.length (List.map u8 l);
 Tree.br (decide (n<0)) (.fail 1000006 1) (.br (decide ((↑q0:Int)<n)) (.fail 1000006 1) (.need ((0:Int)≤(0:Int)∧0≤n∧n≤(↑q0:Int)) (.need (0≤n∧n≤(↑q0:Int)∧(↑q0:Int)≤(↑q0:Int)) (.need ([(ls 0,92,AVal.agg [AVal.imm (IVal.sl false false 1 (List.drop (Int.toNat n) (List.take q0 (List.map u8 l))))])]=[(ls 0,92,AVal.agg [AVal.imm (slE 1 u8 (List.drop (Int.toNat n) l))])]∧ELeL [] []∧ALe (.imm (.sl false false 1 (List.drop 0 (List.take (Int.toNat n) (List.map u8 l))))) (.imm (slE 1 u8 (List.take (Int.toNat n) l)))) (.done Exit.ret lnil)))))):=by kernel_rfl
theorem g76 (l:List Int)(n:Int)(h0:0≤n)(hn:n≤l.length):GSpec prog 76 [(92,.agg [.imm (slE 1 u8 l)])] [] [.ptr 0 0,.imm (i64 n)] [(92,.agg [.imm (slE 1 u8 (l.drop n.toNat))])] [] (.imm (slE 1 u8 (l.take n.toNat))):=by
 refine GSpec.tree Proofs.Try.f76 (fun ls=>T76 ls l n) (by kernel_rfl) (by kernel_rfl) rfl fun ls=>?_
 rw[t76]
 refine⟨fun h1=>?_,fun h1=>⟨fun h2=>?_,fun h2=>need_sat ?_ (need_sat ?_ (need_sat ?_ (trivial)))⟩⟩
 ·simp at h1;omega
 ·simp at h2;omega
 ·simp;omega
 ·simp;omega
 ·refine⟨?_,.refl _,.imm ?_⟩
  ·rw[List.take_length,←List.map_drop];rfl
  ·rw[List.drop_zero,←List.map_take];exact .refl _
def valB (c:List Int):Nat→Int
 |0=>0
 |i+1=>ibits .u64 (· ||| ·) (IntKind.u64.wrap (valB c i*2^8)) (IntKind.u64.wrap (c.getD i 0))
def I42 (ls:Nat→Abs.Loc)(l c:List Int)(i:Nat):LState:={t:=[(12,.imm (i64 i)),(11,.imm (i64 c.length)),(10,.imm (slE 1 u8 c)),(5,.imm (u64 (valB c i)))],s:=[(0,.bbox (ls 0) 92 (.agg [.imm (slE 1 u8 l)]))],m:=23,n:=30}
def E42 (ls:Nat→Abs.Loc)(l c:List Int):LState:={t:=[(5,.imm (u64 (valB c c.length)))],s:=[(0,.bbox (ls 0) 92 (.agg [.imm (slE 1 u8 l)]))],m:=23,n:=30}
def fin42 :Exit→Fin
 |.normal=>⟨[],[12,11,10,5],[0]⟩
 |_=>⟨[],[5],[0]⟩
def T42r (ls:Nat→Abs.Loc)(l c:List Int)(i:Nat):Tell:=
 Tell.mk (fun x x_1=>false) (fun x x_1=>Orc.no) (fun x=>Tree.fail 1000003 0) (fun x=>0) (fun x=>([],[])) (oget [(31,4,0,Orc.elem (u8 (List.getD c i default)))]) fun x x_1=>Tree.fail 1000003 0
theorem t42r (ls:Nat→Abs.Loc)(l c:List Int)(i:Nat):levL prog Proofs.Try.f42 3 (I42 ls l c i) (T42r ls l c i) fin42=
 Tree.br (decide ((↑i:Int)<(↑(List.length c):Int))) (.need (0≤(↑i:Int)∧(List.map u8 c)[i]?=some (u8 (List.getD c i 0))) (.need ((0:Int)≤(8:Int)) (.done Exit.normal (LState.mk [(12,.imm (i64 (IntKind.wrap IntKind.i64 ((↑i:Int)+1)))),(11,.imm (i64 (↑(List.length c):Int))),(10,.imm (slE 1 u8 c)),(5,.imm (u64 (ibits IntKind.u64 (fun x1 x2=>x1|||x2) (IntKind.wrap IntKind.u64 (valB c i*256)) (IntKind.wrap IntKind.u64 (List.getD c i 0)))))] [(0,Entry.bbox (ls 0) 92 (.agg [.imm (slE 1 u8 l)]))] 23 42 [])))) (.done (Exit.exit 0) (LState.mk [(5,.imm (u64 (valB c i)))]
 [(0,Entry.bbox (ls 0) 92 (.agg [.imm (slE 1 u8 l)]))] 23 31 [])):=by kernel_rfl
def getV (l:List Int)(n:Int):Int:=valB (l.take n.toNat) (l.take n.toNat).length
def T42 (ls:Nat→Abs.Loc)(l:List Int)(n:Int):Tell:=
 (let q0:=E42 ls (List.drop (Int.toNat n) l) (List.take (Int.toNat n) l);
 Tell.mk (fun x x_1=>false) (fun x x_1=>Orc.no) (fun x=>Tree.done (Exit.exit 0) q0) (fun x=>0) (fun x=>([12,11,10,5],[0])) (oget [(3,2,2,Orc.callg [0] 1 [.ptr 0 0,.imm (i64 n)] [(92,.agg [.imm (slE 1 u8 (List.drop (Int.toNat n) l))])] [] (.imm (slE 1 u8 (List.take (Int.toNat n) l))))]) fun x x_1=>Tree.done (Exit.exit 0) q0)
theorem t42 (ls:Nat→Abs.Loc)(l:List Int)(n:Int):levG prog Proofs.Try.f42 ls [(92,.agg [.imm (slE 1 u8 l)])] [] [.ptr 0 0,.imm (i64 n)] [(92,.agg [.imm (slE 1 u8 (l.drop n.toNat))])] [] (.imm (u64 (getV l n))) (T42 ls l n)=
 (let q0:=List.take (Int.toNat n) l;let q1:=slE 1 u8 (List.drop (Int.toNat n) l);
 Tree.need (ALeL [.ptr 0 0,.imm (i64 n)] [.ptr 0 0,.imm (i64 n)]∧GSpec prog 76 [(92,.agg [.imm (slE 1 u8 l)])] [] [.ptr 0 0,.imm (i64 n)] [(92,.agg [.imm q1])] [] (.imm (slE 1 u8 q0))) (.loop 3 (LState.mk [(12,.imm (i64 0)),(11,.imm (i64 (↑(List.length (List.map u8 q0)):Int))),(10,.imm (slE 1 u8 q0)),(5,.imm (u64 0))] [(0,Entry.bbox (ls 0) 92 (.agg [.imm q1]))] 23 8 []) (.done (Exit.exit 0) (E42 ls (List.drop (Int.toNat n) l) q0)) (.need ([(ls 0,92,AVal.agg [AVal.imm q1])]=[(ls 0,92,AVal.agg [AVal.imm q1])]∧ELeL [] []∧ALe (.imm (u64 (valB q0 (List.length q0)))) (.imm (u64 (getV l n))))
 (.done Exit.ret lnil)))):=by kernel_rfl
theorem l42 (ls:Nat→Abs.Loc)(l c:List Int)(hc:c.length≤100000)(σ:LState)(h:LSub σ (I42 ls l c 0)):LoopOk prog [] (bodyOf Proofs.Try.f42) 3 σ (.done (.exit 0) (E42 ls l c)):=by
 refine LoopOk.count c.length 0 (I42 ls l c) (E42 ls l c) (T42r ls l c) fin42 (by kernel_rfl) h fun i hi=>?_
 rw[t42r]
 refine⟨fun h1=>need_sat (elem_need ?_) (need_sat ?_ ?_),fun h1=>?_⟩
 ·(refine⟨by omega,?_,?_⟩<;>(simp only[List.length_map,decide_eq_true_eq,decide_eq_false_iff_not,Int.toNat_natCast]at*<;>omega))
 ·omega
 ·have hlt:i<c.length:=by(simp only[List.length_map,decide_eq_true_eq,decide_eq_false_iff_not,Int.toNat_natCast]at*<;>omega)
  refine⟨hlt,⟨?_,rfl,rfl,rfl,trivial⟩,⟨rfl,trivial⟩,rfl,rfl,rfl⟩
  exact congrArg (fun n=>AVal.imm (i64 n)) (i64_small hlt (by omega))
 ·have:i=c.length:=by(simp only[List.length_map,decide_eq_true_eq,decide_eq_false_iff_not,Int.toNat_natCast]at*<;>omega)
  subst this
  exact⟨rfl,by omega,⟨rfl,trivial⟩,⟨rfl,trivial⟩,rfl,rfl,rfl⟩
theorem g42 (l:List Int)(n:Int)(h0:0≤n)(hn:n≤l.length)(h8:n≤8):GSpec prog 42 [(92,.agg [.imm (slE 1 u8 l)])] [] [.ptr 0 0,.imm (i64 n)] [(92,.agg [.imm (slE 1 u8 (l.drop n.toNat))])] [] (.imm (u64 (getV l n))):=by
 refine GSpec.tree Proofs.Try.f42 (fun ls=>T42 ls l n) (by kernel_rfl) (by kernel_rfl) rfl fun ls=>?_
 rw[t42]
 refine need_sat ⟨ALeL.refl _,g76 _ _ ?_ ?_⟩ ⟨?_,need_sat ?_ (trivial)⟩
 ·assumption
 ·assumption
 ·refine l42 ls _ _ (by simp;omega) _ ⟨⟨rfl,?_,rfl,rfl,trivial⟩,⟨rfl,trivial⟩,rfl,rfl,rfl⟩
  simp[tl,i64]
 ·exact⟨rfl,.refl _,.refl _⟩
def T85 (ls:Nat→Abs.Loc)(l:List Int):Tell:=
 Tell.mk (fun x x_1=>false) (fun x x_1=>Orc.no) (fun x=>Tree.fail 1000003 0) (fun x=>0) (fun x=>([],[])) (oget [(1,0,1,Orc.callg [0] 1 [.ptr 0 0,.imm (i64 1)] [(92,.agg [.imm (slE 1 u8 (List.drop (Int.toNat 1) l))])] [] (.imm (u64 (getV l 1))))]) fun x x_1=>Tree.fail 1000003 0
theorem t85 (ls:Nat→Abs.Loc)(l:List Int):levG prog Proofs.Try.f85 ls [(92,.agg [.imm (slE 1 u8 l)])] [] [.ptr 0 0] [(92,.agg [.imm (slE 1 u8 (l.drop 1))])] [] (.tup []) (T85 ls l)=
 (let q0:=slE 1 u8 (List.drop 1 l);
 Tree.need (ALeL [.ptr 0 0,.imm (i64 1)] [.ptr 0 0,.imm (i64 1)]∧GSpec prog 42 [(92,.agg [.imm (slE 1 u8 l)])] [] [.ptr 0 0,.imm (i64 1)] [(92,.agg [.imm q0])] [] (.imm (u64 (getV l 1)))) (.br (!decide (getV l (1:Int)=(0:Int))) (.fail 1000006 1) (.need ([(ls 0,92,AVal.agg [AVal.imm q0])]=[(ls 0,92,AVal.agg [AVal.imm q0])]∧ELeL [] []∧ALe (.tup []) (.tup [])) (.done Exit.ret lnil)))):=by kernel_rfl
theorem g85 (l:List Int)(hn:1≤l.length)(hv:getV l 1=0):GSpec prog 85 [(92,.agg [.imm (slE 1 u8 l)])] [] [.ptr 0 0] [(92,.agg [.imm (slE 1 u8 (l.drop 1))])] [] (.tup []):=by
 refine GSpec.tree Proofs.Try.f85 (fun ls=>T85 ls l) (by kernel_rfl) (by kernel_rfl) rfl fun ls=>?_
 rw[t85]
 refine need_sat ⟨ALeL.refl _,g42 _ _ ?_ ?_ ?_⟩ ⟨fun h1=>?_,fun h1=>need_sat ?_ (trivial)⟩
 all_goals first
  |omega
  |(simp[hv]at h1;done)
  |exact⟨rfl,.refl _,.refl _⟩
def T88 (ls:Nat→Abs.Loc)(l:List Int):Tell:=
 Tell.mk (fun x x_1=>false) (fun x x_1=>Orc.no) (fun x=>Tree.fail 1000003 0) (fun x=>0) (fun x=>([],[])) (oget [(2,1,1,Orc.callg [0] 1 [.ptr 0 0,.imm (i64 1)] [(92,.agg [.imm (slE 1 u8 (List.drop (Int.toNat 1) l))])] [] (.imm (u64 (getV l 1))))]) fun x x_1=>Tree.fail 1000003 0
theorem t88 (ls:Nat→Abs.Loc)(l:List Int):levG prog Proofs.Try.f88 ls [(92,.agg [.imm (slE 1 u8 l)])] [] [.ptr 0 0] [(92,.agg [.imm (slE 1 u8 (l.drop 1))])] [] (.imm (bo (decide (getV l 1=1)))) (T88 ls l)=
 (let q0:=slE 1 u8 (List.drop 1 l);let q1:=decide (getV l (1:Int)=(1:Int));
 Tree.need (ALeL [.ptr 0 0,.imm (i64 1)] [.ptr 0 0,.imm (i64 1)]∧GSpec prog 42 [(92,.agg [.imm (slE 1 u8 l)])] [] [.ptr 0 0,.imm (i64 1)] [(92,.agg [.imm q0])] [] (.imm (u64 (getV l 1)))) (.br (decide (1<getV l 1)) (.fail 1000006 1) (.need ([(ls 0,92,AVal.agg [AVal.imm q0])]=[(ls 0,92,AVal.agg [AVal.imm q0])]∧ELeL [] []∧ALe (.imm (bo q1)) (.imm (bo q1))) (.done Exit.ret lnil)))):=by kernel_rfl
theorem g88 (l:List Int)(hn:1≤l.length)(hv:getV l 1≤1):GSpec prog 88 [(92,.agg [.imm (slE 1 u8 l)])] [] [.ptr 0 0] [(92,.agg [.imm (slE 1 u8 (l.drop 1))])] [] (.imm (bo (decide (getV l 1=1)))):=by
 refine GSpec.tree Proofs.Try.f88 (fun ls=>T88 ls l) (by kernel_rfl) (by kernel_rfl) rfl fun ls=>?_
 rw[t88]
 refine need_sat ⟨ALeL.refl _,g42 _ _ ?_ ?_ ?_⟩ ⟨fun h1=>?_,fun h1=>need_sat ?_ (trivial)⟩
 all_goals first
  |omega
  |(simp at h1;omega)
  |exact⟨rfl,.refl _,.refl _⟩
end Gp
namespace Gp
def sR (l:List Int):AVal:=.agg [.imm (slE 1 u8 l)]
def mA (m:Pdu):AVal:=.agg [.imm (u8 m.version),.imm (u8 m.kind),.imm (u16 m.session),.imm (u32 m.serial),.imm (bo m.add),.imm (u32 m.origin.asn),.imm (u8 m.origin.pfx.fam),.imm (u64 m.origin.pfx.addr.hi),.imm (u64 m.origin.pfx.addr.lo),.imm (i64 m.origin.pfx.len),.imm (i64 m.origin.max),.imm (u32 m.path.cust),.imm (.v (.slice none 0 0)),
 .imm (u32 m.key.asn),.imm (u8 m.key.root[0]),.imm (u8 m.key.root[1]),.imm (u8 m.key.root[2]),.imm (u8 m.key.root[3]),.imm (u8 m.key.root[4]),.imm (u8 m.key.root[5]),.imm (u8 m.key.root[6]),.imm (u8 m.key.root[7]),.imm (u8 m.key.root[8]),.imm (u8 m.key.root[9]),.imm (u8 m.key.root[10]),.imm (u8 m.key.root[11]),.imm (u8 m.key.root[12]),.imm (u8 m.key.root[13]),.imm (u8 m.key.root[14]),.imm (u8 m.key.root[15]),.imm (i64 m.key.height),
 .imm (u32 m.refresh),.imm (u32 m.retry),.imm (u32 m.expire),.imm (u16 m.code),.imm (.v (.slice none 0 0)),.imm (st m.text)]
def z1 (v k s:Int)(a:Bool)(c:Int):Pdu:=⟨v,k,s,0,a,⟨0,⟨0,⟨0,0⟩,0⟩,0⟩,⟨0,[]⟩,⟨0,Vector.replicate 16 0,0⟩,0,0,0,c,[],.empty⟩
def gu16 (l:List Int):Int:=IntKind.u16.wrap (getV l 2)
def gu32 (l:List Int):Int:=IntKind.u32.wrap (getV l 4)
def gi (l:List Int):Int:=IntKind.i64.wrap (getV l 1)
def two (m:Pdu)(l:List Int):List (Nat×AVal):=[(85,mA m),(92,sR l)]
def T50 (ls:Nat→Abs.Loc)(v k s:Int)(a:Bool)(c:Int)(l:List Int):Tell:=
 Tell.mk (fun x x_1=>false) (fun x x_1=>Orc.no) (fun x=>Tree.fail 1000003 0) (fun x=>0) (fun x=>([],[])) (oget [(2,0,2,Orc.callg [1] 1 [.ptr 0 0,.imm (i64 2)] [(92,.agg [.imm (slE 1 u8 (List.drop (Int.toNat 2) l))])] [] (.imm (u64 (getV l 2))))]) fun x x_1=>Tree.fail 1000003 0
theorem t50 (ls:Nat→Abs.Loc)(v k s:Int)(a:Bool)(c:Int)(l:List Int):levG prog Proofs.Try.f50 ls (two (z1 v k s a c) l) [] [.ptr 0 0,.ptr 1 0] (two (z1 v k (gu16 l) a c) (l.drop 2)) [] (.tup []) (T50 ls v k s a c l)=
 (let q0:=z1 v k (gu16 l) a c;let q1:=z1 v k s a c;let q2:=slE 1 u8 (List.drop 2 l);
 Tree.need (ALeL [.ptr 0 0,.imm (i64 2)] [.ptr 0 0,.imm (i64 2)]∧GSpec prog 42 [(92,.agg [.imm (slE 1 u8 l)])] [] [.ptr 0 0,.imm (i64 2)] [(92,.agg [.imm q2])] [] (.imm (u64 (getV l 2)))) (.need ([(ls 0,85,AVal.agg [AVal.imm (u8 q1.version),AVal.imm (u8 q1.kind),AVal.imm (u16 (IntKind.wrap IntKind.u16 (getV l 2))),AVal.imm (u32 q1.serial),AVal.imm (bo q1.add),AVal.imm (u32 q1.origin.asn),AVal.imm (u8 q1.origin.pfx.fam),AVal.imm (u64 q1.origin.pfx.addr.hi),AVal.imm (u64 q1.origin.pfx.addr.lo),AVal.imm (i64 q1.origin.pfx.len),AVal.imm (i64 q1.origin.max),AVal.imm (u32 q1.path.cust),AVal.imm
 nS,AVal.imm (u32 q1.key.asn),AVal.imm (u8 0),AVal.imm (u8 0),AVal.imm (u8 0),AVal.imm (u8 0),AVal.imm (u8 0),AVal.imm (u8 0),AVal.imm (u8 0),AVal.imm (u8 0),AVal.imm (u8 0),AVal.imm (u8 0),AVal.imm (u8 0),AVal.imm (u8 0),AVal.imm (u8 0),AVal.imm (u8 0),AVal.imm (u8 0),AVal.imm (u8 0),AVal.imm (i64 q1.key.height),AVal.imm (u32 q1.refresh),AVal.imm (u32 q1.retry),AVal.imm (u32 q1.expire),AVal.imm (u16 q1.code),AVal.imm nS,AVal.imm (st q1.text)]),(ls 1,92,AVal.agg [AVal.imm q2])]=[(ls 0,85,AVal.agg [AVal.imm (u8 q0.version),AVal.imm (u8 q0.kind),AVal.imm (u16 q0.session),AVal.imm (u32
 q0.serial),AVal.imm (bo q0.add),AVal.imm (u32 q0.origin.asn),AVal.imm (u8 q0.origin.pfx.fam),AVal.imm (u64 q0.origin.pfx.addr.hi),AVal.imm (u64 q0.origin.pfx.addr.lo),AVal.imm (i64 q0.origin.pfx.len),AVal.imm (i64 q0.origin.max),AVal.imm (u32 q0.path.cust),AVal.imm nS,AVal.imm (u32 q0.key.asn),AVal.imm (u8 0),AVal.imm (u8 0),AVal.imm (u8 0),AVal.imm (u8 0),AVal.imm (u8 0),AVal.imm (u8 0),AVal.imm (u8 0),AVal.imm (u8 0),AVal.imm (u8 0),AVal.imm (u8 0),AVal.imm (u8 0),AVal.imm (u8 0),AVal.imm (u8 0),AVal.imm (u8 0),AVal.imm (u8 0),AVal.imm (u8 0),AVal.imm (i64 q0.key.height),AVal.imm (u32
 q0.refresh),AVal.imm (u32 q0.retry),AVal.imm (u32 q0.expire),AVal.imm (u16 q0.code),AVal.imm nS,AVal.imm (st q0.text)]),(ls 1,92,AVal.agg [AVal.imm q2])]∧ELeL [] []∧ALe (.tup []) (.tup [])) (.done Exit.ret lnil))):=by kernel_rfl
theorem g50 (v k s:Int)(a:Bool)(c:Int)(l:List Int)(hl:2≤l.length):GSpec prog 50 (two (z1 v k s a c) l) [] [.ptr 0 0,.ptr 1 0] (two (z1 v k (gu16 l) a c) (l.drop 2)) [] (.tup []):=by
 refine GSpec.tree Proofs.Try.f50 (fun ls=>T50 ls v k s a c l) (by kernel_rfl) (by kernel_rfl) rfl fun ls=>?_
 rw[t50]
 refine need_sat ⟨ALeL.refl _,g42 _ _ ?_ ?_ ?_⟩ (need_sat ?_ (trivial))
 all_goals try first
  |assumption
  |omega
  |(simp only[List.length_drop];omega)
  |exact⟨rfl,.refl _,.refl _⟩
  |(refine⟨?_,.refl _,.refl _⟩;simp only[List.drop_drop]<;>rfl)
def T54 (ls:Nat→Abs.Loc)(v k s:Int)(a:Bool)(c:Int)(l:List Int):Tell:=
 Tell.mk (fun x x_1=>false) (fun x x_1=>Orc.no) (fun x=>Tree.fail 1000003 0) (fun x=>0) (fun x=>([],[])) (oget [(2,0,1,Orc.callg [1] 1 [.ptr 0 0] [(92,.agg [.imm (slE 1 u8 (List.drop 1 l))])] [] (.tup [])),(4,1,1,Orc.callg [1] 1 [.ptr 0 0] [(92,.agg [.imm (slE 1 u8 (List.drop 1 (List.drop 1 l)))])] [] (.tup []))]) fun x x_1=>Tree.fail 1000003 0
theorem t54 (ls:Nat→Abs.Loc)(v k s:Int)(a:Bool)(c:Int)(l:List Int):levG prog Proofs.Try.f54 ls (two (z1 v k s a c) l) [] [.ptr 0 0,.ptr 1 0] (two (z1 v k s a c) (l.drop 2)) [] (.tup []) (T54 ls v k s a c l)=
 (let q0:=z1 v k s a c;let q1:=slE 1 u8 (List.drop 1 (List.drop 1 l));
 Tree.need (ALeL [.ptr 0 0] [.ptr 0 0]∧GSpec prog 85 [(92,.agg [.imm (slE 1 u8 l)])] [] [.ptr 0 0] [(92,.agg [.imm (slE 1 u8 (List.drop 1 l))])] [] (.tup [])) (.need (ALeL [.ptr 0 0] [.ptr 0 0]∧GSpec prog 85 [(92,.agg [.imm (slE 1 u8 (List.drop 1 l))])] [] [.ptr 0 0] [(92,.agg [.imm q1])] [] (.tup [])) (.need ([(ls 0,85,AVal.agg [AVal.imm (u8 q0.version),AVal.imm (u8 q0.kind),AVal.imm (u16 q0.session),AVal.imm (u32 q0.serial),AVal.imm (bo q0.add),AVal.imm (u32 q0.origin.asn),AVal.imm (u8 q0.origin.pfx.fam),AVal.imm (u64 q0.origin.pfx.addr.hi),AVal.imm (u64 q0.origin.pfx.addr.lo),AVal.imm
 (i64 q0.origin.pfx.len),AVal.imm (i64 q0.origin.max),AVal.imm (u32 q0.path.cust),AVal.imm nS,AVal.imm (u32 q0.key.asn),AVal.imm (u8 0),AVal.imm (u8 0),AVal.imm (u8 0),AVal.imm (u8 0),AVal.imm (u8 0),AVal.imm (u8 0),AVal.imm (u8 0),AVal.imm (u8 0),AVal.imm (u8 0),AVal.imm (u8 0),AVal.imm (u8 0),AVal.imm (u8 0),AVal.imm (u8 0),AVal.imm (u8 0),AVal.imm (u8 0),AVal.imm (u8 0),AVal.imm (i64 q0.key.height),AVal.imm (u32 q0.refresh),AVal.imm (u32 q0.retry),AVal.imm (u32 q0.expire),AVal.imm (u16 q0.code),AVal.imm nS,AVal.imm (st q0.text)]),(ls 1,92,AVal.agg [AVal.imm q1])]=[(ls 0,85,AVal.agg
 [AVal.imm (u8 q0.version),AVal.imm (u8 q0.kind),AVal.imm (u16 q0.session),AVal.imm (u32 q0.serial),AVal.imm (bo q0.add),AVal.imm (u32 q0.origin.asn),AVal.imm (u8 q0.origin.pfx.fam),AVal.imm (u64 q0.origin.pfx.addr.hi),AVal.imm (u64 q0.origin.pfx.addr.lo),AVal.imm (i64 q0.origin.pfx.len),AVal.imm (i64 q0.origin.max),AVal.imm (u32 q0.path.cust),AVal.imm nS,AVal.imm (u32 q0.key.asn),AVal.imm (u8 0),AVal.imm (u8 0),AVal.imm (u8 0),AVal.imm (u8 0),AVal.imm (u8 0),AVal.imm (u8 0),AVal.imm (u8 0),AVal.imm (u8 0),AVal.imm (u8 0),AVal.imm (u8 0),AVal.imm (u8 0),AVal.imm (u8 0),AVal.imm (u8 0),AVal.imm
 (u8 0),AVal.imm (u8 0),AVal.imm (u8 0),AVal.imm (i64 q0.key.height),AVal.imm (u32 q0.refresh),AVal.imm (u32 q0.retry),AVal.imm (u32 q0.expire),AVal.imm (u16 q0.code),AVal.imm nS,AVal.imm (st q0.text)]),(ls 1,92,AVal.agg [AVal.imm (slE 1 u8 (List.drop 2 l))])]∧ELeL [] []∧ALe (.tup []) (.tup [])) (.done Exit.ret lnil)))):=by kernel_rfl
theorem g54 (v k s:Int)(a:Bool)(c:Int)(l:List Int)(hl:2≤l.length)(h1:getV l 1=0)(h2:getV (l.drop 1) 1=0):GSpec prog 54 (two (z1 v k s a c) l) [] [.ptr 0 0,.ptr 1 0] (two (z1 v k s a c) (l.drop 2)) [] (.tup []):=by
 refine GSpec.tree Proofs.Try.f54 (fun ls=>T54 ls v k s a c l) (by kernel_rfl) (by kernel_rfl) rfl fun ls=>?_
 rw[t54]
 refine need_sat ⟨ALeL.refl _,g85 _ ?_ ?_⟩ (need_sat ⟨ALeL.refl _,g85 _ ?_ ?_⟩ (need_sat ?_ (trivial)))
 all_goals try first
  |assumption
  |omega
  |(simp only[List.length_drop];omega)
  |exact⟨rfl,.refl _,.refl _⟩
  |(refine⟨?_,.refl _,.refl _⟩;simp only[List.drop_drop]<;>rfl)
def T65 (ls:Nat→Abs.Loc)(v k s:Int)(a:Bool)(c:Int)(l:List Int):Tell:=
 Tell.mk (fun x x_1=>false) (fun x x_1=>Orc.no) (fun x=>Tree.fail 1000003 0) (fun x=>0) (fun x=>([],[])) (oget [(2,0,2,Orc.callg [1] 1 [.ptr 0 0] [(92,.agg [.imm (slE 1 u8 (List.drop 1 l))])] [] (.imm (bo (decide (getV l (1:Int)=(1:Int)))))),(9,1,1,Orc.callg [1] 1 [.ptr 0 0] [(92,.agg [.imm (slE 1 u8 (List.drop 1 (List.drop 1 l)))])] [] (.tup []))]) fun x x_1=>Tree.fail 1000003 0
theorem t65 (ls:Nat→Abs.Loc)(v k s:Int)(a:Bool)(c:Int)(l:List Int):levG prog Proofs.Try.f65 ls (two (z1 v k s a c) l) [] [.ptr 0 0,.ptr 1 0] (two (z1 v k s (decide (getV l 1=1)) c) (l.drop 2)) [] (.tup []) (T65 ls v k s a c l)=
 (let q0:=decide (getV l (1:Int)=(1:Int));let q1:=z1 v k s q0 c;let q2:=z1 v k s a c;let q3:=slE 1 u8 (List.drop 1 (List.drop 1 l));
 Tree.need (ALeL [.ptr 0 0] [.ptr 0 0]∧GSpec prog 88 [(92,.agg [.imm (slE 1 u8 l)])] [] [.ptr 0 0] [(92,.agg [.imm (slE 1 u8 (List.drop 1 l))])] [] (.imm (bo q0))) (.need (ALeL [.ptr 0 0] [.ptr 0 0]∧GSpec prog 85 [(92,.agg [.imm (slE 1 u8 (List.drop 1 l))])] [] [.ptr 0 0] [(92,.agg [.imm q3])] [] (.tup [])) (.need ([(ls 0,85,AVal.agg [AVal.imm (u8 q2.version),AVal.imm (u8 q2.kind),AVal.imm (u16 q2.session),AVal.imm (u32 q2.serial),AVal.imm (bo q0),AVal.imm (u32 q2.origin.asn),AVal.imm (u8 q2.origin.pfx.fam),AVal.imm (u64 q2.origin.pfx.addr.hi),AVal.imm (u64 q2.origin.pfx.addr.lo),AVal.imm
 (i64 q2.origin.pfx.len),AVal.imm (i64 q2.origin.max),AVal.imm (u32 q2.path.cust),AVal.imm nS,AVal.imm (u32 q2.key.asn),AVal.imm (u8 0),AVal.imm (u8 0),AVal.imm (u8 0),AVal.imm (u8 0),AVal.imm (u8 0),AVal.imm (u8 0),AVal.imm (u8 0),AVal.imm (u8 0),AVal.imm (u8 0),AVal.imm (u8 0),AVal.imm (u8 0),AVal.imm (u8 0),AVal.imm (u8 0),AVal.imm (u8 0),AVal.imm (u8 0),AVal.imm (u8 0),AVal.imm (i64 q2.key.height),AVal.imm (u32 q2.refresh),AVal.imm (u32 q2.retry),AVal.imm (u32 q2.expire),AVal.imm (u16 q2.code),AVal.imm nS,AVal.imm (st q2.text)]),(ls 1,92,AVal.agg [AVal.imm q3])]=[(ls 0,85,AVal.agg
 [AVal.imm (u8 q1.version),AVal.imm (u8 q1.kind),AVal.imm (u16 q1.session),AVal.imm (u32 q1.serial),AVal.imm (bo q1.add),AVal.imm (u32 q1.origin.asn),AVal.imm (u8 q1.origin.pfx.fam),AVal.imm (u64 q1.origin.pfx.addr.hi),AVal.imm (u64 q1.origin.pfx.addr.lo),AVal.imm (i64 q1.origin.pfx.len),AVal.imm (i64 q1.origin.max),AVal.imm (u32 q1.path.cust),AVal.imm nS,AVal.imm (u32 q1.key.asn),AVal.imm (u8 0),AVal.imm (u8 0),AVal.imm (u8 0),AVal.imm (u8 0),AVal.imm (u8 0),AVal.imm (u8 0),AVal.imm (u8 0),AVal.imm (u8 0),AVal.imm (u8 0),AVal.imm (u8 0),AVal.imm (u8 0),AVal.imm (u8 0),AVal.imm (u8 0),AVal.imm
 (u8 0),AVal.imm (u8 0),AVal.imm (u8 0),AVal.imm (i64 q1.key.height),AVal.imm (u32 q1.refresh),AVal.imm (u32 q1.retry),AVal.imm (u32 q1.expire),AVal.imm (u16 q1.code),AVal.imm nS,AVal.imm (st q1.text)]),(ls 1,92,AVal.agg [AVal.imm (slE 1 u8 (List.drop 2 l))])]∧ELeL [] []∧ALe (.tup []) (.tup [])) (.done Exit.ret lnil)))):=by kernel_rfl
theorem g65 (v k s:Int)(a:Bool)(c:Int)(l:List Int)(hl:2≤l.length)(h1:getV l 1≤1)(h2:getV (l.drop 1) 1=0):GSpec prog 65 (two (z1 v k s a c) l) [] [.ptr 0 0,.ptr 1 0] (two (z1 v k s (decide (getV l 1=1)) c) (l.drop 2)) [] (.tup []):=by
 refine GSpec.tree Proofs.Try.f65 (fun ls=>T65 ls v k s a c l) (by kernel_rfl) (by kernel_rfl) rfl fun ls=>?_
 rw[t65]
 refine need_sat ⟨ALeL.refl _,g88 _ ?_ ?_⟩ (need_sat ⟨ALeL.refl _,g85 _ ?_ ?_⟩ (need_sat ?_ (trivial)))
 all_goals try first
  |assumption
  |omega
  |(simp only[List.length_drop];omega)
  |exact⟨rfl,.refl _,.refl _⟩
  |(refine⟨?_,.refl _,.refl _⟩;simp only[List.drop_drop]<;>rfl)
def T70 (ls:Nat→Abs.Loc)(v k s:Int)(a:Bool)(c:Int)(l:List Int):Tell:=
 Tell.mk (fun x x_1=>false) (fun x x_1=>Orc.no) (fun x=>Tree.fail 1000003 0) (fun x=>0) (fun x=>([],[])) (oget [(2,0,2,Orc.callg [1] 1 [.ptr 0 0,.imm (i64 2)] [(92,.agg [.imm (slE 1 u8 (List.drop (Int.toNat 2) l))])] [] (.imm (u64 (getV l 2))))]) fun x x_1=>Tree.fail 1000003 0
theorem t70 (ls:Nat→Abs.Loc)(v k s:Int)(a:Bool)(c:Int)(l:List Int):levG prog Proofs.Try.f70 ls (two (z1 v k s a c) l) [] [.ptr 0 0,.ptr 1 0] (two (z1 v k s a (gu16 l)) (l.drop 2)) [] (.tup []) (T70 ls v k s a c l)=
 (let q0:=z1 v k s a (gu16 l);let q1:=z1 v k s a c;let q2:=slE 1 u8 (List.drop 2 l);
 Tree.need (ALeL [.ptr 0 0,.imm (i64 2)] [.ptr 0 0,.imm (i64 2)]∧GSpec prog 42 [(92,.agg [.imm (slE 1 u8 l)])] [] [.ptr 0 0,.imm (i64 2)] [(92,.agg [.imm q2])] [] (.imm (u64 (getV l 2)))) (.need ([(ls 0,85,AVal.agg [AVal.imm (u8 q1.version),AVal.imm (u8 q1.kind),AVal.imm (u16 q1.session),AVal.imm (u32 q1.serial),AVal.imm (bo q1.add),AVal.imm (u32 q1.origin.asn),AVal.imm (u8 q1.origin.pfx.fam),AVal.imm (u64 q1.origin.pfx.addr.hi),AVal.imm (u64 q1.origin.pfx.addr.lo),AVal.imm (i64 q1.origin.pfx.len),AVal.imm (i64 q1.origin.max),AVal.imm (u32 q1.path.cust),AVal.imm nS,AVal.imm (u32
 q1.key.asn),AVal.imm (u8 0),AVal.imm (u8 0),AVal.imm (u8 0),AVal.imm (u8 0),AVal.imm (u8 0),AVal.imm (u8 0),AVal.imm (u8 0),AVal.imm (u8 0),AVal.imm (u8 0),AVal.imm (u8 0),AVal.imm (u8 0),AVal.imm (u8 0),AVal.imm (u8 0),AVal.imm (u8 0),AVal.imm (u8 0),AVal.imm (u8 0),AVal.imm (i64 q1.key.height),AVal.imm (u32 q1.refresh),AVal.imm (u32 q1.retry),AVal.imm (u32 q1.expire),AVal.imm (u16 (IntKind.wrap IntKind.u16 (getV l 2))),AVal.imm nS,AVal.imm (st q1.text)]),(ls 1,92,AVal.agg [AVal.imm q2])]=[(ls 0,85,AVal.agg [AVal.imm (u8 q0.version),AVal.imm (u8 q0.kind),AVal.imm (u16 q0.session),AVal.imm
 (u32 q0.serial),AVal.imm (bo q0.add),AVal.imm (u32 q0.origin.asn),AVal.imm (u8 q0.origin.pfx.fam),AVal.imm (u64 q0.origin.pfx.addr.hi),AVal.imm (u64 q0.origin.pfx.addr.lo),AVal.imm (i64 q0.origin.pfx.len),AVal.imm (i64 q0.origin.max),AVal.imm (u32 q0.path.cust),AVal.imm nS,AVal.imm (u32 q0.key.asn),AVal.imm (u8 0),AVal.imm (u8 0),AVal.imm (u8 0),AVal.imm (u8 0),AVal.imm (u8 0),AVal.imm (u8 0),AVal.imm (u8 0),AVal.imm (u8 0),AVal.imm (u8 0),AVal.imm (u8 0),AVal.imm (u8 0),AVal.imm (u8 0),AVal.imm (u8 0),AVal.imm (u8 0),AVal.imm (u8 0),AVal.imm (u8 0),AVal.imm (i64 q0.key.height),AVal.imm (u32
 q0.refresh),AVal.imm (u32 q0.retry),AVal.imm (u32 q0.expire),AVal.imm (u16 q0.code),AVal.imm nS,AVal.imm (st q0.text)]),(ls 1,92,AVal.agg [AVal.imm q2])]∧ELeL [] []∧ALe (.tup []) (.tup [])) (.done Exit.ret lnil))):=by kernel_rfl
theorem g70 (v k s:Int)(a:Bool)(c:Int)(l:List Int)(hl:2≤l.length):GSpec prog 70 (two (z1 v k s a c) l) [] [.ptr 0 0,.ptr 1 0] (two (z1 v k s a (gu16 l)) (l.drop 2)) [] (.tup []):=by
 refine GSpec.tree Proofs.Try.f70 (fun ls=>T70 ls v k s a c l) (by kernel_rfl) (by kernel_rfl) rfl fun ls=>?_
 rw[t70]
 refine need_sat ⟨ALeL.refl _,g42 _ _ ?_ ?_ ?_⟩ (need_sat ?_ (trivial))
 all_goals try first
  |assumption
  |omega
  |(simp only[List.length_drop];omega)
  |exact⟨rfl,.refl _,.refl _⟩
  |(refine⟨?_,.refl _,.refl _⟩;simp only[List.drop_drop]<;>rfl)
def Pdu.withSerial (m:Pdu)(x:Int):Pdu:={m with serial:=x}
def oV (k:Int)(l:List Int):Origin:=if k=6 then⟨IntKind.u32.wrap (getV (l.drop 20) 4),⟨6,⟨getV (l.drop 4) 8,getV (l.drop 12) 8⟩,gi (l.drop 1)⟩,gi (l.drop 2)⟩else⟨IntKind.u32.wrap (getV (l.drop 8) 4),⟨4,⟨0,getV (l.drop 4) 4⟩,gi (l.drop 1)⟩,gi (l.drop 2)⟩
def oN (k:Int):Nat:=if k=6 then 24 else 12
def Pdu.withO (m:Pdu)(l:List Int):Pdu:={m with add:=decide (getV l 1=1),origin:=oV m.kind l}
def Pdu.withE (m:Pdu)(l:List Int):Pdu:=if 0<m.version then{m with serial:=gu32 l,refresh:=gu32 (l.drop 4),retry:=gu32 (l.drop 8),expire:=gu32 (l.drop 12)}else{m with serial:=gu32 l}
def eN (v:Int):Nat:=if 0<v then 16 else 4
def T51 (ls:Nat→Abs.Loc)(v k s:Int)(a:Bool)(c:Int)(l:List Int):Tell:=
 Tell.mk (fun x x_1=>false) (fun x x_1=>Orc.no) (fun x=>Tree.fail 1000003 0) (fun x=>0) (fun x=>([],[])) (oget [(2,0,2,Orc.callg [1] 1 [.ptr 0 0,.imm (i64 4)] [(92,.agg [.imm (slE 1 u8 (List.drop (Int.toNat 4) l))])] [] (.imm (u64 (getV l 4))))]) fun x x_1=>Tree.fail 1000003 0
theorem t51 (ls:Nat→Abs.Loc)(v k s:Int)(a:Bool)(c:Int)(l:List Int):levG prog Proofs.Try.f51 ls (two (z1 v k s a c) l) [] [.ptr 0 0,.ptr 1 0] (two ((z1 v k s a c).withSerial (gu32 l)) (l.drop 4)) [] (.tup []) (T51 ls v k s a c l)=
 (let q1:=z1 v k s a c;let q0:=Pdu.withSerial q1 (gu32 l);let q2:=slE 1 u8 (List.drop 4 l);
 Tree.need (ALeL [.ptr 0 0,.imm (i64 4)] [.ptr 0 0,.imm (i64 4)]∧GSpec prog 42 [(92,.agg [.imm (slE 1 u8 l)])] [] [.ptr 0 0,.imm (i64 4)] [(92,.agg [.imm q2])] [] (.imm (u64 (getV l 4)))) (.need ([(ls 0,85,AVal.agg [AVal.imm (u8 q1.version),AVal.imm (u8 q1.kind),AVal.imm (u16 q1.session),AVal.imm (u32 (IntKind.wrap IntKind.u32 (getV l 4))),AVal.imm (bo q1.add),AVal.imm (u32 q1.origin.asn),AVal.imm (u8 q1.origin.pfx.fam),AVal.imm (u64 q1.origin.pfx.addr.hi),AVal.imm (u64 q1.origin.pfx.addr.lo),AVal.imm (i64 q1.origin.pfx.len),AVal.imm (i64 q1.origin.max),AVal.imm (u32 q1.path.cust),AVal.imm
 nS,AVal.imm (u32 q1.key.asn),AVal.imm (u8 0),AVal.imm (u8 0),AVal.imm (u8 0),AVal.imm (u8 0),AVal.imm (u8 0),AVal.imm (u8 0),AVal.imm (u8 0),AVal.imm (u8 0),AVal.imm (u8 0),AVal.imm (u8 0),AVal.imm (u8 0),AVal.imm (u8 0),AVal.imm (u8 0),AVal.imm (u8 0),AVal.imm (u8 0),AVal.imm (u8 0),AVal.imm (i64 q1.key.height),AVal.imm (u32 q1.refresh),AVal.imm (u32 q1.retry),AVal.imm (u32 q1.expire),AVal.imm (u16 q1.code),AVal.imm nS,AVal.imm (st q1.text)]),(ls 1,92,AVal.agg [AVal.imm q2])]=[(ls 0,85,AVal.agg [AVal.imm (u8 q0.version),AVal.imm (u8 q0.kind),AVal.imm (u16 q0.session),AVal.imm (u32
 q0.serial),AVal.imm (bo q0.add),AVal.imm (u32 q0.origin.asn),AVal.imm (u8 q0.origin.pfx.fam),AVal.imm (u64 q0.origin.pfx.addr.hi),AVal.imm (u64 q0.origin.pfx.addr.lo),AVal.imm (i64 q0.origin.pfx.len),AVal.imm (i64 q0.origin.max),AVal.imm (u32 q0.path.cust),AVal.imm nS,AVal.imm (u32 q0.key.asn),AVal.imm (u8 0),AVal.imm (u8 0),AVal.imm (u8 0),AVal.imm (u8 0),AVal.imm (u8 0),AVal.imm (u8 0),AVal.imm (u8 0),AVal.imm (u8 0),AVal.imm (u8 0),AVal.imm (u8 0),AVal.imm (u8 0),AVal.imm (u8 0),AVal.imm (u8 0),AVal.imm (u8 0),AVal.imm (u8 0),AVal.imm (u8 0),AVal.imm (i64 q0.key.height),AVal.imm (u32
 q0.refresh),AVal.imm (u32 q0.retry),AVal.imm (u32 q0.expire),AVal.imm (u16 q0.code),AVal.imm nS,AVal.imm (st q0.text)]),(ls 1,92,AVal.agg [AVal.imm q2])]∧ELeL [] []∧ALe (.tup []) (.tup [])) (.done Exit.ret lnil))):=by kernel_rfl
theorem g51 (v k s:Int)(a:Bool)(c:Int)(l:List Int)(hl:4≤l.length):GSpec prog 51 (two (z1 v k s a c) l) [] [.ptr 0 0,.ptr 1 0] (two ((z1 v k s a c).withSerial (gu32 l)) (l.drop 4)) [] (.tup []):=by
 refine GSpec.tree Proofs.Try.f51 (fun ls=>T51 ls v k s a c l) (by kernel_rfl) (by kernel_rfl) rfl fun ls=>?_
 rw[t51]
 refine need_sat ⟨ALeL.refl _,g42 _ _ ?_ ?_ ?_⟩ (need_sat ?_ (trivial))
 all_goals try first
  |assumption
  |omega
  |(simp only[List.length_drop];omega)
  |exact⟨rfl,.refl _,.refl _⟩
  |(refine⟨?_,.refl _,.refl _⟩;simp only[List.drop_drop]<;>rfl)
def T55 (ls:Nat→Abs.Loc)(v k s:Int)(a:Bool)(c:Int)(l:List Int):Tell:=
 Tell.mk (fun x x_1=>false) (fun x x_1=>Orc.no) (fun x=>Tree.fail 1000003 0) (fun x=>0) (fun x=>([],[])) (fun x x_1 x_2=>Orc.no) fun x x_1=>Tree.fail 1000003 0
theorem t55 (ls:Nat→Abs.Loc)(v k s:Int)(a:Bool)(c:Int)(l:List Int):levG prog Proofs.Try.f55 ls (two (z1 v k s a c) l) [] [.ptr 0 0,.ptr 1 0] (two (z1 v k s a c) l) [] (.tup []) (T55 ls v k s a c l)=
 (let q0:=z1 v k s a c;
 Tree.need ([(ls 0,85,AVal.agg [AVal.imm (u8 q0.version),AVal.imm (u8 q0.kind),AVal.imm (u16 q0.session),AVal.imm (u32 q0.serial),AVal.imm (bo q0.add),AVal.imm (u32 q0.origin.asn),AVal.imm (u8 q0.origin.pfx.fam),AVal.imm (u64 q0.origin.pfx.addr.hi),AVal.imm (u64 q0.origin.pfx.addr.lo),AVal.imm (i64 q0.origin.pfx.len),AVal.imm (i64 q0.origin.max),AVal.imm (u32 q0.path.cust),AVal.imm nS,AVal.imm (u32 q0.key.asn),AVal.imm (u8 0),AVal.imm (u8 0),AVal.imm (u8 0),AVal.imm (u8 0),AVal.imm (u8 0),AVal.imm (u8 0),AVal.imm (u8 0),AVal.imm (u8 0),AVal.imm (u8 0),AVal.imm (u8 0),AVal.imm (u8 0),AVal.imm (u8
 0),AVal.imm (u8 0),AVal.imm (u8 0),AVal.imm (u8 0),AVal.imm (u8 0),AVal.imm (i64 q0.key.height),AVal.imm (u32 q0.refresh),AVal.imm (u32 q0.retry),AVal.imm (u32 q0.expire),AVal.imm (u16 q0.code),AVal.imm nS,AVal.imm (st q0.text)]),(ls 1,92,AVal.agg [AVal.imm (slE 1 u8 l)])]=[(ls 0,85,AVal.agg [AVal.imm (u8 q0.version),AVal.imm (u8 q0.kind),AVal.imm (u16 q0.session),AVal.imm (u32 q0.serial),AVal.imm (bo q0.add),AVal.imm (u32 q0.origin.asn),AVal.imm (u8 q0.origin.pfx.fam),AVal.imm (u64 q0.origin.pfx.addr.hi),AVal.imm (u64 q0.origin.pfx.addr.lo),AVal.imm (i64 q0.origin.pfx.len),AVal.imm (i64
 q0.origin.max),AVal.imm (u32 q0.path.cust),AVal.imm nS,AVal.imm (u32 q0.key.asn),AVal.imm (u8 0),AVal.imm (u8 0),AVal.imm (u8 0),AVal.imm (u8 0),AVal.imm (u8 0),AVal.imm (u8 0),AVal.imm (u8 0),AVal.imm (u8 0),AVal.imm (u8 0),AVal.imm (u8 0),AVal.imm (u8 0),AVal.imm (u8 0),AVal.imm (u8 0),AVal.imm (u8 0),AVal.imm (u8 0),AVal.imm (u8 0),AVal.imm (i64 q0.key.height),AVal.imm (u32 q0.refresh),AVal.imm (u32 q0.retry),AVal.imm (u32 q0.expire),AVal.imm (u16 q0.code),AVal.imm nS,AVal.imm (st q0.text)]),(ls 1,92,AVal.agg [AVal.imm (slE 1 u8 l)])]∧ELeL [] []∧ALe (.tup []) (.tup [])) (.done Exit.ret
 lnil)):=by kernel_rfl
theorem g55 (v k s:Int)(a:Bool)(c:Int)(l:List Int)(hl:0≤l.length):GSpec prog 55 (two (z1 v k s a c) l) [] [.ptr 0 0,.ptr 1 0] (two (z1 v k s a c) l) [] (.tup []):=by
 refine GSpec.tree Proofs.Try.f55 (fun ls=>T55 ls v k s a c l) (by kernel_rfl) (by kernel_rfl) rfl fun ls=>?_
 rw[t55]
 refine need_sat ?_ (trivial)
 all_goals try first
  |assumption
  |omega
  |(simp only[List.length_drop];omega)
  |exact⟨rfl,.refl _,.refl _⟩
  |(refine⟨?_,.refl _,.refl _⟩;simp only[List.drop_drop]<;>rfl)
def T58 (ls:Nat→Abs.Loc)(v k s:Int)(a:Bool)(c:Int)(l:List Int):Tell:=
 (let q1:=List.drop 1 l;let q0:=List.drop 1 (List.drop 1 (List.drop 1 q1));let q2:=List.drop 8 q0;
 Tell.mk (fun x x_1=>false) (fun x x_1=>Orc.no) (fun x=>Tree.fail 1000003 0) (fun x=>0) (fun x=>([],[])) (oget [(2,0,2,Orc.callg [1] 1 [.ptr 0 0] [(92,.agg [.imm (slE 1 u8 q1)])] [] (.imm (bo (decide (getV l (1:Int)=(1:Int)))))),(9,1,3,Orc.callg [1] 1 [.ptr 0 0,.imm (i64 1)] [(92,.agg [.imm (slE 1 u8 (List.drop (Int.toNat 1) q1))])] [] (.imm (u64 (getV q1 1)))),(9,1,6,Orc.callg [1] 1 [.ptr 0 0,.imm (i64 1)] [(92,.agg [.imm (slE 1 u8 (List.drop (Int.toNat 1) (List.drop 1 q1)))])] [] (.imm (u64 (getV (List.drop 1 q1) 1)))),(28,2,1,Orc.callg [1] 1 [.ptr 0 0] [(92,.agg [.imm (slE 1
 u8 q0)])] [] (.tup [])),(43,5,2,Orc.callg [1] 1 [.ptr 0 0,.imm (i64 8)] [(92,.agg [.imm (slE 1 u8 (List.drop (Int.toNat 8) q0))])] [] (.imm (u64 (getV q0 8)))),(43,7,2,Orc.callg [1] 1 [.ptr 0 0,.imm (i64 4)] [(92,.agg [.imm (slE 1 u8 (List.drop (Int.toNat 4) q0))])] [] (.imm (u64 (getV q0 4)))),(43,5,4,Orc.callg [1] 1 [.ptr 0 0,.imm (i64 8)] [(92,.agg [.imm (slE 1 u8 (List.drop (Int.toNat 8) q2))])] [] (.imm (u64 (getV q2 8)))),(53,8,2,Orc.callg [1] 1 [.ptr 0 0,.imm (i64 4)] [(92,.agg [.imm (slE 1 u8 (List.drop (Int.toNat 4) (List.drop 4 q0)))])] [] (.imm (u64 (getV (List.drop 4 q0)
 4)))),(55,8,2,Orc.callg [1] 1 [.ptr 0 0,.imm (i64 4)] [(92,.agg [.imm (slE 1 u8 (List.drop (Int.toNat 4) (List.drop 8 q2)))])] [] (.imm (u64 (getV (List.drop 8 q2) 4))))]) fun x x_1=>Tree.fail 1000003 0)
theorem t58 (ls:Nat→Abs.Loc)(v k s:Int)(a:Bool)(c:Int)(l:List Int):levG prog Proofs.Try.f58 ls (two (z1 v k s a c) l) [] [.ptr 0 0,.ptr 1 0] (two ((z1 v k s a c).withO l) (l.drop (oN k))) [] (.tup []) (T58 ls v k s a c l)=
 (let q3:=List.drop 1 (List.drop 1 l);let q0:=List.drop 1 (List.drop 1 q3);let q2:=z1 v k s a c;let q1:=Pdu.withO q2 l;let q9:=List.drop 8 q0;let q4:=List.drop 8 q9;let q5:=decide (getV l (1:Int)=(1:Int));let q6:=List.drop 4 q0;let q7:=i64 (IntKind.wrap IntKind.i64 (getV (List.drop 1 l) 1));let q8:=i64 (IntKind.wrap IntKind.i64 (getV q3 1));
 Tree.need (ALeL [.ptr 0 0] [.ptr 0 0]∧GSpec prog 88 [(92,.agg [.imm (slE 1 u8 l)])] [] [.ptr 0 0] [(92,.agg [.imm (slE 1 u8 (List.drop 1 l))])] [] (.imm (bo q5))) (.need (ALeL [.ptr 0 0,.imm (i64 1)] [.ptr 0 0,.imm (i64 1)]∧GSpec prog 42 [(92,.agg [.imm (slE 1 u8 (List.drop 1 l))])] [] [.ptr 0 0,.imm (i64 1)] [(92,.agg [.imm (slE 1 u8 q3)])] [] (.imm (u64 (getV (List.drop 1 l) 1)))) (.need (ALeL [.ptr 0 0,.imm (i64 1)] [.ptr 0 0,.imm (i64 1)]∧GSpec prog 42 [(92,.agg [.imm (slE 1 u8 q3)])] [] [.ptr 0 0,.imm (i64 1)] [(92,.agg [.imm (slE 1 u8 (List.drop 1 q3))])] [] (.imm (u64 (getV q3
 1)))) (.need (ALeL [.ptr 0 0] [.ptr 0 0]∧GSpec prog 85 [(92,.agg [.imm (slE 1 u8 (List.drop 1 q3))])] [] [.ptr 0 0] [(92,.agg [.imm (slE 1 u8 q0)])] [] (.tup [])) (.br (decide (q2.kind=6)) (.need (ALeL [.ptr 0 0,.imm (i64 8)] [.ptr 0 0,.imm (i64 8)]∧GSpec prog 42 [(92,.agg [.imm (slE 1 u8 q0)])] [] [.ptr 0 0,.imm (i64 8)] [(92,.agg [.imm (slE 1 u8 q9)])] [] (.imm (u64 (getV q0 8)))) (.need (ALeL [.ptr 0 0,.imm (i64 8)] [.ptr 0 0,.imm (i64 8)]∧GSpec prog 42 [(92,.agg [.imm (slE 1 u8 q9)])] [] [.ptr 0 0,.imm (i64 8)] [(92,.agg [.imm (slE 1 u8 q4)])] [] (.imm (u64 (getV q9 8)))) (.need
 (ALeL [.ptr 0 0,.imm (i64 4)] [.ptr 0 0,.imm (i64 4)]∧GSpec prog 42 [(92,.agg [.imm (slE 1 u8 q4)])] [] [.ptr 0 0,.imm (i64 4)] [(92,.agg [.imm (slE 1 u8 (List.drop 4 q4))])] [] (.imm (u64 (getV q4 4)))) (.need ([(ls 0,85,AVal.agg [AVal.imm (u8 q2.version),AVal.imm (u8 q2.kind),AVal.imm (u16 q2.session),AVal.imm (u32 q2.serial),AVal.imm (bo q5),AVal.imm (u32 (IntKind.wrap IntKind.u32 (getV q4 4))),AVal.imm (u8 6),AVal.imm (u64 (getV q0 8)),AVal.imm (u64 (getV q9 8)),AVal.imm q7,AVal.imm q8,AVal.imm (u32 q2.path.cust),AVal.imm nS,AVal.imm (u32 q2.key.asn),AVal.imm (u8 0),AVal.imm (u8
 0),AVal.imm (u8 0),AVal.imm (u8 0),AVal.imm (u8 0),AVal.imm (u8 0),AVal.imm (u8 0),AVal.imm (u8 0),AVal.imm (u8 0),AVal.imm (u8 0),AVal.imm (u8 0),AVal.imm (u8 0),AVal.imm (u8 0),AVal.imm (u8 0),AVal.imm (u8 0),AVal.imm (u8 0),AVal.imm (i64 q2.key.height),AVal.imm (u32 q2.refresh),AVal.imm (u32 q2.retry),AVal.imm (u32 q2.expire),AVal.imm (u16 q2.code),AVal.imm nS,AVal.imm (st q2.text)]),(ls 1,92,AVal.agg [AVal.imm (slE 1 u8 (List.drop 4 q4))])]=[(ls 0,85,AVal.agg [AVal.imm (u8 q1.version),AVal.imm (u8 q1.kind),AVal.imm (u16 q1.session),AVal.imm (u32 q1.serial),AVal.imm (bo q1.add),AVal.imm
 (u32 q1.origin.asn),AVal.imm (u8 q1.origin.pfx.fam),AVal.imm (u64 q1.origin.pfx.addr.hi),AVal.imm (u64 q1.origin.pfx.addr.lo),AVal.imm (i64 q1.origin.pfx.len),AVal.imm (i64 q1.origin.max),AVal.imm (u32 q1.path.cust),AVal.imm nS,AVal.imm (u32 q1.key.asn),AVal.imm (u8 0),AVal.imm (u8 0),AVal.imm (u8 0),AVal.imm (u8 0),AVal.imm (u8 0),AVal.imm (u8 0),AVal.imm (u8 0),AVal.imm (u8 0),AVal.imm (u8 0),AVal.imm (u8 0),AVal.imm (u8 0),AVal.imm (u8 0),AVal.imm (u8 0),AVal.imm (u8 0),AVal.imm (u8 0),AVal.imm (u8 0),AVal.imm (i64 q1.key.height),AVal.imm (u32 q1.refresh),AVal.imm (u32 q1.retry),AVal.imm
 (u32 q1.expire),AVal.imm (u16 q1.code),AVal.imm nS,AVal.imm (st q1.text)]),(ls 1,92,AVal.agg [AVal.imm (slE 1 u8 (List.drop (oN k) l))])]∧ELeL [] []∧ALe (.tup []) (.tup [])) (.done Exit.ret lnil))))) (.need (ALeL [.ptr 0 0,.imm (i64 4)] [.ptr 0 0,.imm (i64 4)]∧GSpec prog 42 [(92,.agg [.imm (slE 1 u8 q0)])] [] [.ptr 0 0,.imm (i64 4)] [(92,.agg [.imm (slE 1 u8 q6)])] [] (.imm (u64 (getV q0 4)))) (.need (ALeL [.ptr 0 0,.imm (i64 4)] [.ptr 0 0,.imm (i64 4)]∧GSpec prog 42 [(92,.agg [.imm (slE 1 u8 q6)])] [] [.ptr 0 0,.imm (i64 4)] [(92,.agg [.imm (slE 1 u8 (List.drop 4 q6))])] [] (.imm (u64
 (getV q6 4)))) (.need ([(ls 0,85,AVal.agg [AVal.imm (u8 q2.version),AVal.imm (u8 q2.kind),AVal.imm (u16 q2.session),AVal.imm (u32 q2.serial),AVal.imm (bo q5),AVal.imm (u32 (IntKind.wrap IntKind.u32 (getV q6 4))),AVal.imm (u8 4),AVal.imm (u64 0),AVal.imm (u64 (getV q0 4)),AVal.imm q7,AVal.imm q8,AVal.imm (u32 q2.path.cust),AVal.imm nS,AVal.imm (u32 q2.key.asn),AVal.imm (u8 0),AVal.imm (u8 0),AVal.imm (u8 0),AVal.imm (u8 0),AVal.imm (u8 0),AVal.imm (u8 0),AVal.imm (u8 0),AVal.imm (u8 0),AVal.imm (u8 0),AVal.imm (u8 0),AVal.imm (u8 0),AVal.imm (u8 0),AVal.imm (u8 0),AVal.imm (u8 0),AVal.imm (u8
 0),AVal.imm (u8 0),AVal.imm (i64 q2.key.height),AVal.imm (u32 q2.refresh),AVal.imm (u32 q2.retry),AVal.imm (u32 q2.expire),AVal.imm (u16 q2.code),AVal.imm nS,AVal.imm (st q2.text)]),(ls 1,92,AVal.agg [AVal.imm (slE 1 u8 (List.drop 4 q6))])]=[(ls 0,85,AVal.agg [AVal.imm (u8 q1.version),AVal.imm (u8 q1.kind),AVal.imm (u16 q1.session),AVal.imm (u32 q1.serial),AVal.imm (bo q1.add),AVal.imm (u32 q1.origin.asn),AVal.imm (u8 q1.origin.pfx.fam),AVal.imm (u64 q1.origin.pfx.addr.hi),AVal.imm (u64 q1.origin.pfx.addr.lo),AVal.imm (i64 q1.origin.pfx.len),AVal.imm (i64 q1.origin.max),AVal.imm (u32
 q1.path.cust),AVal.imm nS,AVal.imm (u32 q1.key.asn),AVal.imm (u8 0),AVal.imm (u8 0),AVal.imm (u8 0),AVal.imm (u8 0),AVal.imm (u8 0),AVal.imm (u8 0),AVal.imm (u8 0),AVal.imm (u8 0),AVal.imm (u8 0),AVal.imm (u8 0),AVal.imm (u8 0),AVal.imm (u8 0),AVal.imm (u8 0),AVal.imm (u8 0),AVal.imm (u8 0),AVal.imm (u8 0),AVal.imm (i64 q1.key.height),AVal.imm (u32 q1.refresh),AVal.imm (u32 q1.retry),AVal.imm (u32 q1.expire),AVal.imm (u16 q1.code),AVal.imm nS,AVal.imm (st q1.text)]),(ls 1,92,AVal.agg [AVal.imm (slE 1 u8 (List.drop (oN k) l))])]∧ELeL [] []∧ALe (.tup []) (.tup [])) (.done Exit.ret
 lnil))))))))):=by kernel_rfl
theorem g58 (v k s:Int)(a:Bool)(c:Int)(l:List Int)(hl:oN k≤l.length)(h1:getV l 1≤1)(h2:getV (l.drop 3) 1=0):GSpec prog 58 (two (z1 v k s a c) l) [] [.ptr 0 0,.ptr 1 0] (two ((z1 v k s a c).withO l) (l.drop (oN k))) [] (.tup []):=by
 refine GSpec.tree Proofs.Try.f58 (fun ls=>T58 ls v k s a c l) (by kernel_rfl) (by kernel_rfl) rfl fun ls=>?_
 rw[t58]
 refine need_sat ⟨ALeL.refl _,g88 _ ?_ ?_⟩ (need_sat ⟨ALeL.refl _,g42 _ _ ?_ ?_ ?_⟩ (need_sat ⟨ALeL.refl _,g42 _ _ ?_ ?_ ?_⟩ (need_sat ⟨ALeL.refl _,g85 _ ?_ ?_⟩ ⟨fun h1=>need_sat ⟨ALeL.refl _,g42 _ _ ?_ ?_ ?_⟩ (need_sat ⟨ALeL.refl _,g42 _ _ ?_ ?_ ?_⟩ (need_sat ⟨ALeL.refl _,g42 _ _ ?_ ?_ ?_⟩ (need_sat ?_ (trivial)))),fun h1=>need_sat ⟨ALeL.refl _,g42 _ _ ?_ ?_ ?_⟩ (need_sat ⟨ALeL.refl _,g42 _ _ ?_ ?_ ?_⟩ (need_sat ?_ (trivial)))⟩)))
 all_goals try first
  |assumption
  |omega
  |(simp only[List.length_drop];omega)
  |exact⟨rfl,.refl _,.refl _⟩
  |(refine⟨?_,.refl _,.refl _⟩;simp only[List.drop_drop]<;>rfl)
 all_goals(have h12:12≤l.length:=(by unfold oN at hl;split at hl<;>omega))
 all_goals try first
  |omega
  |(simp only[List.length_drop];omega)
  |(simp only[List.drop_drop];exact h2)
  |(have h6:k=6:=of_decide_eq_true h1;subst h6;have:24≤l.length:=hl;simp only[List.length_drop];omega)
  |(have h6:k=6:=of_decide_eq_true h1;subst h6;refine⟨?_,.refl _,.refl _⟩;simp only[List.drop_drop]<;>rfl)
  |(have h6:¬k=6:=of_decide_eq_false h1;refine⟨?_,.refl _,.refl _⟩;simp only[Pdu.withO,oV,oN,if_neg (show ¬(z1 v k s a c).kind=6 from h6),if_neg h6,List.drop_drop]<;>rfl)
  |skip
def T61 (ls:Nat→Abs.Loc)(v k s:Int)(a:Bool)(c:Int)(l:List Int):Tell:=
 (let q0:=List.drop 4 (List.drop 4 l);
 Tell.mk (fun x x_1=>false) (fun x x_1=>Orc.no) (fun x=>Tree.fail 1000003 0) (fun x=>0) (fun x=>([],[])) (oget [(2,0,2,Orc.callg [0,1] 2 [.ptr 0 0,.ptr 1 0] (two (Pdu.withSerial (z1 v k s a c) (gu32 l)) (List.drop 4 l)) [] (.tup [])),(11,2,4,Orc.callg [1] 1 [.ptr 0 0,.imm (i64 4)] [(92,.agg [.imm (slE 1 u8 (List.drop (Int.toNat 4) (List.drop 4 l)))])] [] (.imm (u64 (getV (List.drop 4 l) 4)))),(11,2,7,Orc.callg [1] 1 [.ptr 0 0,.imm (i64 4)] [(92,.agg [.imm (slE 1 u8 (List.drop (Int.toNat 4) q0))])] [] (.imm (u64 (getV q0 4)))),(11,2,10,Orc.callg [1] 1 [.ptr 0 0,.imm (i64 4)] [(92,.agg
 [.imm (slE 1 u8 (List.drop (Int.toNat 4) (List.drop 4 q0)))])] [] (.imm (u64 (getV (List.drop 4 q0) 4))))]) fun x x_1=>Tree.fail 1000003 0)
theorem t61 (ls:Nat→Abs.Loc)(v k s:Int)(a:Bool)(c:Int)(l:List Int):levG prog Proofs.Try.f61 ls (two (z1 v k s a c) l) [] [.ptr 0 0,.ptr 1 0] (two ((z1 v k s a c).withE l) (l.drop (eN v))) [] (.tup []) (T61 ls v k s a c l)=
 (let q3:=z1 v k s a c;let q0:=Pdu.withE q3 l;let q1:=Pdu.withSerial q3 (gu32 l);let q5:=List.drop 4 l;let q2:=List.drop 4 q5;let q4:=List.drop 4 q2;
 Tree.need (ALeL [.ptr 0 0,.ptr 1 0] [.ptr 0 0,.ptr 1 0]∧GSpec prog 51 [(85,.agg [.imm (u8 q3.version),.imm (u8 q3.kind),.imm (u16 q3.session),.imm (u32 q3.serial),.imm (bo q3.add),.imm (u32 q3.origin.asn),.imm (u8 q3.origin.pfx.fam),.imm (u64 q3.origin.pfx.addr.hi),.imm (u64 q3.origin.pfx.addr.lo),.imm (i64 q3.origin.pfx.len),.imm (i64 q3.origin.max),.imm (u32 q3.path.cust),.imm nS,.imm (u32 q3.key.asn),.imm (u8 0),.imm (u8 0),.imm (u8 0),.imm (u8 0),.imm (u8 0),.imm (u8 0),.imm (u8 0),.imm (u8 0),.imm (u8 0),.imm (u8 0),.imm (u8 0),.imm (u8 0),.imm (u8 0),.imm (u8 0),.imm (u8 0),.imm (u8
 0),.imm (i64 q3.key.height),.imm (u32 q3.refresh),.imm (u32 q3.retry),.imm (u32 q3.expire),.imm (u16 q3.code),.imm nS,.imm (st q3.text)]),(92,.agg [.imm (slE 1 u8 l)])] [] [.ptr 0 0,.ptr 1 0] (two q1 q5) [] (.tup [])) (.br (decide (0<q1.version)) (.need (ALeL [.ptr 0 0,.imm (i64 4)] [.ptr 0 0,.imm (i64 4)]∧GSpec prog 42 [(92,.agg [.imm (slE 1 u8 q5)])] [] [.ptr 0 0,.imm (i64 4)] [(92,.agg [.imm (slE 1 u8 q2)])] [] (.imm (u64 (getV q5 4)))) (.need (ALeL [.ptr 0 0,.imm (i64 4)] [.ptr 0 0,.imm (i64 4)]∧GSpec prog 42 [(92,.agg [.imm (slE 1 u8 q2)])] [] [.ptr 0 0,.imm (i64 4)] [(92,.agg [.imm
 (slE 1 u8 q4)])] [] (.imm (u64 (getV q2 4)))) (.need (ALeL [.ptr 0 0,.imm (i64 4)] [.ptr 0 0,.imm (i64 4)]∧GSpec prog 42 [(92,.agg [.imm (slE 1 u8 q4)])] [] [.ptr 0 0,.imm (i64 4)] [(92,.agg [.imm (slE 1 u8 (List.drop 4 q4))])] [] (.imm (u64 (getV q4 4)))) (.need ([(ls 0,85,AVal.agg [AVal.imm (u8 q1.version),AVal.imm (u8 q1.kind),AVal.imm (u16 q1.session),AVal.imm (u32 q1.serial),AVal.imm (bo q1.add),AVal.imm (u32 q1.origin.asn),AVal.imm (u8 q1.origin.pfx.fam),AVal.imm (u64 q1.origin.pfx.addr.hi),AVal.imm (u64 q1.origin.pfx.addr.lo),AVal.imm (i64 q1.origin.pfx.len),AVal.imm (i64
 q1.origin.max),AVal.imm (u32 q1.path.cust),AVal.imm nS,AVal.imm (u32 q1.key.asn),AVal.imm (u8 0),AVal.imm (u8 0),AVal.imm (u8 0),AVal.imm (u8 0),AVal.imm (u8 0),AVal.imm (u8 0),AVal.imm (u8 0),AVal.imm (u8 0),AVal.imm (u8 0),AVal.imm (u8 0),AVal.imm (u8 0),AVal.imm (u8 0),AVal.imm (u8 0),AVal.imm (u8 0),AVal.imm (u8 0),AVal.imm (u8 0),AVal.imm (i64 q1.key.height),AVal.imm (u32 (IntKind.wrap IntKind.u32 (getV q5 4))),AVal.imm (u32 (IntKind.wrap IntKind.u32 (getV q2 4))),AVal.imm (u32 (IntKind.wrap IntKind.u32 (getV q4 4))),AVal.imm (u16 q1.code),AVal.imm nS,AVal.imm (st q1.text)]),(ls
 1,92,AVal.agg [AVal.imm (slE 1 u8 (List.drop 4 q4))])]=[(ls 0,85,AVal.agg [AVal.imm (u8 q0.version),AVal.imm (u8 q0.kind),AVal.imm (u16 q0.session),AVal.imm (u32 q0.serial),AVal.imm (bo q0.add),AVal.imm (u32 q0.origin.asn),AVal.imm (u8 q0.origin.pfx.fam),AVal.imm (u64 q0.origin.pfx.addr.hi),AVal.imm (u64 q0.origin.pfx.addr.lo),AVal.imm (i64 q0.origin.pfx.len),AVal.imm (i64 q0.origin.max),AVal.imm (u32 q0.path.cust),AVal.imm nS,AVal.imm (u32 q0.key.asn),AVal.imm (u8 q0.key.root[0]),AVal.imm (u8 q0.key.root[1]),AVal.imm (u8 q0.key.root[2]),AVal.imm (u8 q0.key.root[3]),AVal.imm (u8
 q0.key.root[4]),AVal.imm (u8 q0.key.root[5]),AVal.imm (u8 q0.key.root[6]),AVal.imm (u8 q0.key.root[7]),AVal.imm (u8 q0.key.root[8]),AVal.imm (u8 q0.key.root[9]),AVal.imm (u8 q0.key.root[10]),AVal.imm (u8 q0.key.root[11]),AVal.imm (u8 q0.key.root[12]),AVal.imm (u8 q0.key.root[13]),AVal.imm (u8 q0.key.root[14]),AVal.imm (u8 q0.key.root[15]),AVal.imm (i64 q0.key.height),AVal.imm (u32 q0.refresh),AVal.imm (u32 q0.retry),AVal.imm (u32 q0.expire),AVal.imm (u16 q0.code),AVal.imm nS,AVal.imm (st q0.text)]),(ls 1,92,AVal.agg [AVal.imm (slE 1 u8 (List.drop (eN v) l))])]∧ELeL [] []∧ALe (.tup []) (.tup
 [])) (.done Exit.ret lnil))))) (.need ([(ls 0,85,AVal.agg [AVal.imm (u8 q1.version),AVal.imm (u8 q1.kind),AVal.imm (u16 q1.session),AVal.imm (u32 q1.serial),AVal.imm (bo q1.add),AVal.imm (u32 q1.origin.asn),AVal.imm (u8 q1.origin.pfx.fam),AVal.imm (u64 q1.origin.pfx.addr.hi),AVal.imm (u64 q1.origin.pfx.addr.lo),AVal.imm (i64 q1.origin.pfx.len),AVal.imm (i64 q1.origin.max),AVal.imm (u32 q1.path.cust),AVal.imm nS,AVal.imm (u32 q1.key.asn),AVal.imm (u8 0),AVal.imm (u8 0),AVal.imm (u8 0),AVal.imm (u8 0),AVal.imm (u8 0),AVal.imm (u8 0),AVal.imm (u8 0),AVal.imm (u8 0),AVal.imm (u8 0),AVal.imm (u8
 0),AVal.imm (u8 0),AVal.imm (u8 0),AVal.imm (u8 0),AVal.imm (u8 0),AVal.imm (u8 0),AVal.imm (u8 0),AVal.imm (i64 q1.key.height),AVal.imm (u32 q1.refresh),AVal.imm (u32 q1.retry),AVal.imm (u32 q1.expire),AVal.imm (u16 q1.code),AVal.imm nS,AVal.imm (st q1.text)]),(ls 1,92,AVal.agg [AVal.imm (slE 1 u8 q5)])]=[(ls 0,85,AVal.agg [AVal.imm (u8 q0.version),AVal.imm (u8 q0.kind),AVal.imm (u16 q0.session),AVal.imm (u32 q0.serial),AVal.imm (bo q0.add),AVal.imm (u32 q0.origin.asn),AVal.imm (u8 q0.origin.pfx.fam),AVal.imm (u64 q0.origin.pfx.addr.hi),AVal.imm (u64 q0.origin.pfx.addr.lo),AVal.imm (i64
 q0.origin.pfx.len),AVal.imm (i64 q0.origin.max),AVal.imm (u32 q0.path.cust),AVal.imm nS,AVal.imm (u32 q0.key.asn),AVal.imm (u8 q0.key.root[0]),AVal.imm (u8 q0.key.root[1]),AVal.imm (u8 q0.key.root[2]),AVal.imm (u8 q0.key.root[3]),AVal.imm (u8 q0.key.root[4]),AVal.imm (u8 q0.key.root[5]),AVal.imm (u8 q0.key.root[6]),AVal.imm (u8 q0.key.root[7]),AVal.imm (u8 q0.key.root[8]),AVal.imm (u8 q0.key.root[9]),AVal.imm (u8 q0.key.root[10]),AVal.imm (u8 q0.key.root[11]),AVal.imm (u8 q0.key.root[12]),AVal.imm (u8 q0.key.root[13]),AVal.imm (u8 q0.key.root[14]),AVal.imm (u8 q0.key.root[15]),AVal.imm (i64
 q0.key.height),AVal.imm (u32 q0.refresh),AVal.imm (u32 q0.retry),AVal.imm (u32 q0.expire),AVal.imm (u16 q0.code),AVal.imm nS,AVal.imm (st q0.text)]),(ls 1,92,AVal.agg [AVal.imm (slE 1 u8 (List.drop (eN v) l))])]∧ELeL [] []∧ALe (.tup []) (.tup [])) (.done Exit.ret lnil)))):=by kernel_rfl
theorem g61 (v k s:Int)(a:Bool)(c:Int)(l:List Int)(hl:eN v≤l.length):GSpec prog 61 (two (z1 v k s a c) l) [] [.ptr 0 0,.ptr 1 0] (two ((z1 v k s a c).withE l) (l.drop (eN v))) [] (.tup []):=by
 refine GSpec.tree Proofs.Try.f61 (fun ls=>T61 ls v k s a c l) (by kernel_rfl) (by kernel_rfl) rfl fun ls=>?_
 rw[t61]
 refine need_sat ⟨ALeL.refl _,g51 _ _ _ _ _ _ ?_⟩ ⟨fun h1=>need_sat ⟨ALeL.refl _,g42 _ _ ?_ ?_ ?_⟩ (need_sat ⟨ALeL.refl _,g42 _ _ ?_ ?_ ?_⟩ (need_sat ⟨ALeL.refl _,g42 _ _ ?_ ?_ ?_⟩ (need_sat ?_ (trivial)))),fun h1=>need_sat ?_ (trivial)⟩
 all_goals try first
  |assumption
  |omega
  |(simp only[List.length_drop];omega)
  |exact⟨rfl,.refl _,.refl _⟩
  |(refine⟨?_,.refl _,.refl _⟩;simp only[List.drop_drop]<;>rfl)
 all_goals(have h12:4≤l.length:=(by unfold eN at hl;split at hl<;>omega))
 all_goals try first
  |omega
  |(simp only[List.length_drop];omega)
  |(have h6:0<v:=of_decide_eq_true h1;have:16≤l.length:=(by rw[eN,if_pos h6]at hl;exact hl);simp only[List.length_drop];omega)
  |(have h6:0<v:=of_decide_eq_true h1;refine⟨?_,.refl _,.refl _⟩;simp only[Pdu.withE,eN,if_pos (show 0<(z1 v k s a c).version from h6),if_pos h6,List.drop_drop]<;>rfl)
  |(have h6:¬0<v:=of_decide_eq_false h1;refine⟨?_,.refl _,.refl _⟩;simp only[Pdu.withE,eN,if_neg (show ¬0<(z1 v k s a c).version from h6),if_neg h6,List.drop_drop]<;>rfl)
  |skip
end Gp
