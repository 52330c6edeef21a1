/- Part 6 of the walk and of the plain law of PduCuts. -/
import Derived.Test.YtnfdbpopcfcegaaW5
import Derived.Test.YtnfdbpopcfcegaaRows
import Derived.WalkKit
import Derived.ProofKit
import Derived.OpenShut
import Derived.ShutString
import Derived.ChangeOld
import Derived.Below
import Derived.Carry
set_option maxRecDepth 100000
set_option maxHeartbeats 0
set_option linter.unusedVariables false
set_option linter.unusedSimpArgs false
open Go Go.Abs
noncomputable section
namespace Gp
def gu8 (l:List Int):Int:=IntKind.u8.wrap (getV l 1)
def s35 (l:List Int):LState:={t:=[(3,.ptr 1 0),(2,.ptr 0 0),(0,.imm (slE 1 u8 l))],s:=[(1,.box 4 (.imm (bo false))),(0,.box 42 (.imm z42))],m:=56,n:=2}
def σ35 (l:List Int)(ls:Nat→Abs.Loc):LState:={t:=[(3,.ptr 1 0),(2,.ptr 0 0),(0,.imm (slE 1 u8 l))],s:=[(1,.bbox (ls 1) 4 (.imm (bo false))),(0,.bbox (ls 0) 42 (.imm z42))],m:=56,n:=4}
def form9 :IVal:=.agg [fnV 62,fnV 63,fnV 64,fnV 65,fnV 66]
def form10 :IVal:=.agg [fnV 67,fnV 68,fnV 69,fnV 70,fnV 71]
def form11 :IVal:=.agg [fnV 72,fnV 63,fnV 73,fnV 65,fnV 74]
theorem r35 (l:List Int):∀k,lev prog ({}:Tell).fz ({}:Tell).Ob ({}:Tell).Lb ({}:Tell).un ({}:Tell).lv (defHead (bodyOf Proofs.Try.f35)) (lstart [slE 1 u8 l] Proofs.Try.f35.ntmps) k=k .normal (s35 l):=fun k=>rfl
theorem shape35 :DefShape (bodyOf Proofs.Try.f35) Proofs.Try.f35.ntmps 75 [2,3] 8:=⟨_,_,_,_,rfl,rfl,rfl,rfl,by decide,rfl,rfl,rfl,rfl,rfl⟩
theorem lsub35 (l:List Int)(ls:Nat→Abs.Loc):LSub ((s35 l).pin ls [0,1]) (σ35 l ls):=⟨⟨rfl,rfl,rfl,trivial⟩,⟨rfl,rfl,trivial⟩,rfl,rfl,rfl⟩
theorem c35_of {l:List Int}{r:IVal}(T:(Nat→Abs.Loc)→Tell)(h:∀ls,(levD prog Proofs.Try.f35 (σ35 l ls) (T ls) ls [0,1] (immB cells35) cells35 errE).sat (LoopOk prog [] (bodyOf Proofs.Try.f35)) (fun _ s=>∃d,s=lret d∧ILe d r)):ASpec prog 35 [slE 1 u8 l] r:=by
 refine ASpec.treeD (g:=75) (d:=8) (ts:=[2,3]) (ids:=[0,1]) (bx:=immB cells35) (bx':=cells35) (v:=errE) Proofs.Try.f35 (s35 l) (σ35 l) {} T (by kernel_rfl) (by kernel_rfl) shape35 nop75 catch75 rfl ?_ rfl rfl (r35 l) (fun ls=>lsub35 l ls) h
 intro i t id h1 h2
 match i with
 |0=>cases h1;cases h2;rfl
 |1=>cases h1;cases h2;rfl
 |n+2=>simp at h1
def T35n (ls:Nat→Abs.Loc)(l:List Int):Tell:=
 Tell.mk (fun x x_1=>false) (fun r i=>if(r==4&&i==6)=true then Orc.look (.imm (.agg [.v Value.nilFunc,.v Value.nilFunc,.v Value.nilFunc,.v Value.nilFunc,.v Value.nilFunc])) false else Orc.no) (fun x=>Tree.fail 1000003 0) (fun x=>0) (fun x=>([],[])) (ogetO (fun r i=>if(r==4&&i==6)=true then Orc.look (.imm (.agg [.v Value.nilFunc,.v Value.nilFunc,.v Value.nilFunc,.v Value.nilFunc,.v Value.nilFunc])) false else Orc.no) [(8,3,1,Orc.may (k76 l 1) [6] 1 [.ptr 0 0,.imm (i64 1)] errE (Orc.callg [6] 1 [.ptr 0 0,.imm (i64 1)] [(92,.agg [.imm (slE 1 u8 (List.drop (Int.toNat 1)
 l))])] [] (.imm (u64 (getV l 1))))),(8,3,4,Orc.may (k76 (List.drop 1 l) 1) [6] 1 [.ptr 0 0,.imm (i64 1)] errE (Orc.callg [6] 1 [.ptr 0 0,.imm (i64 1)] [(92,.agg [.imm (slE 1 u8 (List.drop (Int.toNat 1) (List.drop 1 l)))])] [] (.imm (u64 (getV (List.drop 1 l) 1))))),(18,4,0,Orc.call [] (.map ksF dsF))]) fun x x_1=>Tree.fail 1000003 0
theorem t35n (ls:Nat→Abs.Loc)(l:List Int):levD prog Proofs.Try.f35 (σ35 l ls) (T35n ls l) ls [0,1] (immB cells35) cells35 errE=
 (let q3:=List.drop 1 l;let q0:=getV q3 1;let q1:=u8 (IntKind.wrap IntKind.u8 q0);let q2:=u8 (IntKind.wrap IntKind.u8 (getV l 1));let q4:=slE 1 u8 l;
 Tree.br (k76 l 1) (.need (ALeL [.ptr 0 0,.imm (i64 1)] [.ptr 0 0,.imm (i64 1)]∧GSpec prog 42 [(92,.agg [.imm q4])] [] [.ptr 0 0,.imm (i64 1)] [(92,.agg [.imm (slE 1 u8 q3)])] [] (.imm (u64 (getV l 1)))) (.br (k76 q3 1) (.need (ALeL [.ptr 0 0,.imm (i64 1)] [.ptr 0 0,.imm (i64 1)]∧GSpec prog 42 [(92,.agg [.imm (slE 1 u8 q3)])] [] [.ptr 0 0,.imm (i64 1)] [(92,.agg [.imm (slE 1 u8 (List.drop 1 q3))])] [] (.imm (u64 q0))) (.need (ILeL [] []∧ASpec prog 34 [] (.map ksF dsF)) (.need (true=true∧(if IntKind.wrap IntKind.u8 q0=0 then(AVal.imm (formI 0),true)else if IntKind.wrap IntKind.u8 q0
 =1 then(AVal.imm (formI 1),true)else if IntKind.wrap IntKind.u8 q0=2 then(AVal.imm (formI 2),true)else if IntKind.wrap IntKind.u8 q0=8 then(AVal.imm (formI 8),true)else if IntKind.wrap IntKind.u8 q0=4 then(AVal.imm (formI 4),true)else if IntKind.wrap IntKind.u8 q0=6 then(AVal.imm (formI 6),true)else if IntKind.wrap IntKind.u8 q0=3 then(AVal.imm (formI 3),true)else if IntKind.wrap IntKind.u8 q0=7 then(AVal.imm (formI 7),true)else if IntKind.wrap IntKind.u8 q0=9 then(AVal.imm (formI 9),true)else if IntKind.wrap IntKind.u8 q0=10 then(AVal.imm (formI 10),true)else
 if IntKind.wrap IntKind.u8 q0=11 then(AVal.imm (formI 11),true)else(AVal.imm (IVal.agg [IVal.v Value.nilFunc,IVal.v Value.nilFunc,IVal.v Value.nilFunc,IVal.v Value.nilFunc,IVal.v Value.nilFunc]),false))=(.imm (.agg [.v Value.nilFunc,.v Value.nilFunc,.v Value.nilFunc,.v Value.nilFunc,.v Value.nilFunc]),false)) (.br true (.done Exit.ret (lret (.tup [.agg [u8 0,u8 0,u16 0,u32 0,bo false,u32 0,u8 0,u64 0,u64 0,i64 0,i64 0,u32 0,nS,u32 0,u8 0,u8 0,u8 0,u8 0,u8 0,u8 0,u8 0,u8 0,u8 0,u8 0,u8 0,u8 0,u8 0,u8 0,u8 0,u8 0,i64 0,u32 0,u32 0,u32 0,u16 0,nS,st .empty],bo false]))) (.stop (LState.mk
 [(37,.ptr 6 0),(36,.ptr 16 0),(35,.imm (.v Value.nilFunc)),(34,.ptr 28 3),(32,.imm (bo true)),(31,.imm (bo false)),(7,.imm (bo false)),(6,.ptr 28 0),(30,.imm (bo false)),(29,.imm (.agg [.v Value.nilFunc,.v Value.nilFunc,.v Value.nilFunc,.v Value.nilFunc,.v Value.nilFunc])),(21,.tup [.imm (.agg [.v Value.nilFunc,.v Value.nilFunc,.v Value.nilFunc,.v Value.nilFunc,.v Value.nilFunc]),.imm (bo false)]),(28,.tup [.imm (.agg [.v Value.nilFunc,.v Value.nilFunc,.v Value.nilFunc,.v Value.nilFunc,.v Value.nilFunc]),.imm (bo false)]),(27,.imm q1),(26,.ptr 16 1),(25,.ptr 16 0),(24,.ptr 16 0),(23,.ptr 16
 0),(22,.imm (.map ksF dsF)),(5,.ptr 16 0),(20,.ptr 16 0),(19,.agg [.imm q2,.imm q1,.imm (u16 0),.imm (u32 0),.imm (bo false),.imm (u32 0),.imm (u8 0),.imm (u64 0),.imm (u64 0),.imm (i64 0),.imm (i64 0),.imm (u32 0),.imm nS,.imm (u32 0),.imm (u8 0),.imm (u8 0),.imm (u8 0),.imm (u8 0),.imm (u8 0),.imm (u8 0),.imm (u8 0),.imm (u8 0),.imm (u8 0),.imm (u8 0),.imm (u8 0),.imm (u8 0),.imm (u8 0),.imm (u8 0),.imm (u8 0),.imm (u8 0),.imm (i64 0),.imm (u32 0),.imm (u32 0),.imm (u32 0),.imm (u16 0),.imm nS,.imm (st .empty)]),(18,.agg [.imm q2,.imm q1,.imm (u16 0),.imm (u32 0),.imm (bo false),.imm (u32
 0),.imm (u8 0),.imm (u64 0),.imm (u64 0),.imm (i64 0),.imm (i64 0),.imm (u32 0),.imm nS,.imm (u32 0),.imm (u8 0),.imm (u8 0),.imm (u8 0),.imm (u8 0),.imm (u8 0),.imm (u8 0),.imm (u8 0),.imm (u8 0),.imm (u8 0),.imm (u8 0),.imm (u8 0),.imm (u8 0),.imm (u8 0),.imm (u8 0),.imm (u8 0),.imm (u8 0),.imm (i64 0),.imm (u32 0),.imm (u32 0),.imm (u32 0),.imm (u16 0),.imm nS,.imm (st .empty)]),(17,.imm q1),(16,.imm (u64 q0)),(15,.ptr 6 0),(14,.imm q2),(13,.imm (u64 (getV l 1))),(12,.ptr 6 0),(4,.ptr 6 0),(11,.ptr 6 0),(10,.agg [.imm q4]),(9,.imm q4),(3,.ptr 1 0),(2,.ptr 0 0),(0,.imm q4)] [(28,Entry.box 80
 (.imm (.agg [.v Value.nilFunc,.v Value.nilFunc,.v Value.nilFunc,.v Value.nilFunc,.v Value.nilFunc]))),(16,Entry.box 85 (.agg [.imm q2,.imm q1,.imm (u16 0),.imm (u32 0),.imm (bo false),.imm (u32 0),.imm (u8 0),.imm (u64 0),.imm (u64 0),.imm (i64 0),.imm (i64 0),.imm (u32 0),.imm nS,.imm (u32 0),.imm (u8 0),.imm (u8 0),.imm (u8 0),.imm (u8 0),.imm (u8 0),.imm (u8 0),.imm (u8 0),.imm (u8 0),.imm (u8 0),.imm (u8 0),.imm (u8 0),.imm (u8 0),.imm (u8 0),.imm (u8 0),.imm (u8 0),.imm (u8 0),.imm (i64 0),.imm (u32 0),.imm (u32 0),.imm (u32 0),.imm (u16 0),.imm nS,.imm (st .empty)])),(6,Entry.box 92 (.agg
 [.imm (slE 1 u8 (List.drop 1 q3))])),(1,Entry.bbox (ls 1) 4 (.imm (bo false))),(0,Entry.bbox (ls 0) 42 (.imm z42))] 56 33 []) 7 4 (Op.call (Call.mk (Callee.value (Operand.tmp 35)) (Array.mk [Operand.tmp 36,Operand.tmp 37]) (Array.mk [98,90])))))))) (.need (ALeL [.ptr 0 0,.imm (i64 1)] [.ptr 0 0,.imm (i64 1)]∧PSpec prog 42 [(92,.agg [.imm (slE 1 u8 q3)])] [] [.ptr 0 0,.imm (i64 1)] errE) (.need (errE=errE∧[(42,AVal.imm z42),(4,AVal.imm (bo false))]=[(42,AVal.imm (IVal.agg [u8 0,u8 0,u16 0,u32 0,bo false,u32 0,u8 0,u64 0,u64 0,i64 0,i64 0,u32 0,nS,u32 0,u8 0,u8 0,u8 0,u8 0,u8 0,u8 0,u8
 0,u8 0,u8 0,u8 0,u8 0,u8 0,u8 0,u8 0,u8 0,u8 0,i64 0,u32 0,u32 0,u32 0,u16 0,nS,st .empty])),(4,AVal.imm (bo false))]∧ls 0=ls 0∧ls 1=ls 1∧True) (.done Exit.ret (lret (.tup [.agg [u8 0,u8 0,u16 0,u32 0,bo false,u32 0,u8 0,u64 0,u64 0,i64 0,i64 0,u32 0,nS,u32 0,u8 0,u8 0,u8 0,u8 0,u8 0,u8 0,u8 0,u8 0,u8 0,u8 0,u8 0,u8 0,u8 0,u8 0,u8 0,u8 0,i64 0,u32 0,u32 0,u32 0,u16 0,nS,st .empty],bo false]))))))) (.need (ALeL [.ptr 0 0,.imm (i64 1)] [.ptr 0 0,.imm (i64 1)]∧PSpec prog 42 [(92,.agg [.imm q4])] [] [.ptr 0 0,.imm (i64 1)] errE) (.need (errE=errE∧[(42,AVal.imm z42),(4,AVal.imm (bo
 false))]=[(42,AVal.imm (IVal.agg [u8 0,u8 0,u16 0,u32 0,bo false,u32 0,u8 0,u64 0,u64 0,i64 0,i64 0,u32 0,nS,u32 0,u8 0,u8 0,u8 0,u8 0,u8 0,u8 0,u8 0,u8 0,u8 0,u8 0,u8 0,u8 0,u8 0,u8 0,u8 0,u8 0,i64 0,u32 0,u32 0,u32 0,u16 0,nS,st .empty])),(4,AVal.imm (bo false))]∧ls 0=ls 0∧ls 1=ls 1∧True) (.done Exit.ret (lret (.tup [.agg [u8 0,u8 0,u16 0,u32 0,bo false,u32 0,u8 0,u64 0,u64 0,i64 0,i64 0,u32 0,nS,u32 0,u8 0,u8 0,u8 0,u8 0,u8 0,u8 0,u8 0,u8 0,u8 0,u8 0,u8 0,u8 0,u8 0,u8 0,u8 0,u8 0,i64 0,u32 0,u32 0,u32 0,u16 0,nS,st .empty],bo false])))))):=by kernel_rfl
def T35s (ls:Nat→Abs.Loc)(l:List Int):Tell:=
 (let q0:=List.drop 1 l;let q1:=getV q0 1 % (2:Int)^IntKind.bits IntKind.u8;let q2:=List.drop 1 q0;let q3:=List.drop 2 q2;let q4:=getV q0 1 % 256;
 Tell.mk (fun x x_1=>false) (fun r i=>if(r==4&&i==6)=true then Orc.look (AVal.imm (formI (gu8 q0))) true else Orc.no) (fun x=>Tree.fail 1000003 0) (fun x=>0) (fun x=>([],[])) (ogetO (fun r i=>if(r==4&&i==6)=true then Orc.look (AVal.imm (formI (gu8 q0))) true else Orc.no) [(8,3,1,Orc.may (k76 l 1) [6] 1 [.ptr 0 0,.imm (i64 1)] errE (Orc.callg [6] 1 [.ptr 0 0,.imm (i64 1)] [(92,.agg [.imm (slE 1 u8 (List.drop (Int.toNat 1) l))])] [] (.imm (u64 (getV l 1))))),(8,3,4,Orc.may (k76 q0 1) [6] 1 [.ptr 0 0,.imm (i64 1)] errE (Orc.callg [6] 1 [.ptr 0 0,.imm (i64 1)] [(92,.agg
 [.imm (slE 1 u8 (List.drop (Int.toNat 1) q0))])] [] (.imm (u64 (getV q0 1))))),(18,4,0,Orc.call [] (.map ksF dsF)),(33,7,4,Orc.may (kF q1 q2) [16,6] 2 [.ptr 0 0,.ptr 1 0] errE (Orc.callg [16,6] 2 [.ptr 0 0,.ptr 1 0] (two (z1 (getV l 1 % (2:Int)^IntKind.bits IntKind.u8) q1 (sF q1 q2) (aF q1 q2) (cF q1 q2)) q3) [] (.tup []))),(38,8,1,Orc.may (k76 q3 4) [6] 1 [.ptr 0 0,.imm (i64 4)] errE (Orc.callg [6] 1 [.ptr 0 0,.imm (i64 4)] [(92,.agg [.imm (slE 1 u8 (List.drop (Int.toNat 4) q3))])] [] (.imm (slE 1 u8 (List.take (Int.toNat 4) q3))))),(40,9,4,Orc.may (kT (getV l 1 % 256) q4 (List.drop 4 q3))
 [16,6] 2 [.ptr 0 0,.ptr 1 0] errE (Orc.callg [16,6] 2 [.ptr 0 0,.ptr 1 0] (two (tS (z1 (getV l 1 % 256) q4 (sF q4 q2) (aF q4 q2) (cF q4 q2)) (List.drop 4 q3)) (List.drop (tN (getV l 1 % 256) q4) (List.drop 4 q3))) [] (.tup [])))]) fun x x_1=>Tree.fail 1000003 0)
theorem t35s (ls:Nat→Abs.Loc)(l:List Int):levD prog Proofs.Try.f35 (σ35 l ls) (T35s ls l) ls [0,1] (immB cells35) cells35 errE=
 (let q2:=List.drop 1 l;let q0:=z1 (getV l 1 % 256) (getV q2 1 % 256) (sF (getV q2 1 % 256) (List.drop 1 q2)) (aF (getV q2 1 % 256) (List.drop 1 q2)) (cF (getV q2 1 % 256) (List.drop 1 q2));let q3:=List.drop 2 (List.drop 1 q2);let q1:=List.drop 4 q3;let q4:=List.drop (tN (getV l 1 % 256) (getV q2 1 % 256)) q1;let q5:=slE 1 u8 (List.drop 1 q2);let q6:=u8 (IntKind.wrap IntKind.u8 (getV q2 1));let q7:=u8 (IntKind.wrap IntKind.u8 (getV l 1));
 Tree.br (k76 l 1) (.need (ALeL [.ptr 0 0,.imm (i64 1)] [.ptr 0 0,.imm (i64 1)]∧GSpec prog 42 [(92,.agg [.imm (slE 1 u8 l)])] [] [.ptr 0 0,.imm (i64 1)] [(92,.agg [.imm (slE 1 u8 q2)])] [] (.imm (u64 (getV l 1)))) (.br (k76 q2 1) (.need (ALeL [.ptr 0 0,.imm (i64 1)] [.ptr 0 0,.imm (i64 1)]∧GSpec prog 42 [(92,.agg [.imm (slE 1 u8 q2)])] [] [.ptr 0 0,.imm (i64 1)] [(92,.agg [.imm q5])] [] (.imm (u64 (getV q2 1)))) (.need (ILeL [] []∧ASpec prog 34 [] (.map ksF dsF)) (.need (true=true∧(if IntKind.wrap IntKind.u8 (getV q2 1)=0 then(AVal.imm (formI 0),true)else if IntKind.wrap IntKind.u8
 (getV q2 1)=1 then(AVal.imm (formI 1),true)else if IntKind.wrap IntKind.u8 (getV q2 1)=2 then(AVal.imm (formI 2),true)else if IntKind.wrap IntKind.u8 (getV q2 1)=8 then(AVal.imm (formI 8),true)else if IntKind.wrap IntKind.u8 (getV q2 1)=4 then(AVal.imm (formI 4),true)else if IntKind.wrap IntKind.u8 (getV q2 1)=6 then(AVal.imm (formI 6),true)else if IntKind.wrap IntKind.u8 (getV q2 1)=3 then(AVal.imm (formI 3),true)else if IntKind.wrap IntKind.u8 (getV q2 1)=7 then(AVal.imm (formI 7),true)else if IntKind.wrap IntKind.u8 (getV q2 1)=9 then(AVal.imm (formI 9),true)
 else if IntKind.wrap IntKind.u8 (getV q2 1)=10 then(AVal.imm (formI 10),true)else if IntKind.wrap IntKind.u8 (getV q2 1)=11 then(AVal.imm (formI 11),true)else(AVal.imm (IVal.agg [IVal.v Value.nilFunc,IVal.v Value.nilFunc,IVal.v Value.nilFunc,IVal.v Value.nilFunc,IVal.v Value.nilFunc]),false))=(AVal.imm (formI (gu8 q2)),true)) (.br false (.done Exit.ret (lret (.tup [.agg [u8 0,u8 0,u16 0,u32 0,bo false,u32 0,u8 0,u64 0,u64 0,i64 0,i64 0,u32 0,nS,u32 0,u8 0,u8 0,u8 0,u8 0,u8 0,u8 0,u8 0,u8 0,u8 0,u8 0,u8 0,u8 0,u8 0,u8 0,u8 0,u8 0,i64 0,u32 0,u32 0,u32 0,u16 0,nS,st .empty],bo
 false]))) (.br (kF (getV q2 1 % 256) (List.drop 1 q2)) (.need (ALeL [.ptr 0 0,.ptr 1 0] [.ptr 0 0,.ptr 1 0]∧GSpec prog (firstN (gu8 q2)) [(85,.agg [.imm q7,.imm q6,.imm (u16 0),.imm (u32 0),.imm (bo false),.imm (u32 0),.imm (u8 0),.imm (u64 0),.imm (u64 0),.imm (i64 0),.imm (i64 0),.imm (u32 0),.imm nS,.imm (u32 0),.imm (u8 0),.imm (u8 0),.imm (u8 0),.imm (u8 0),.imm (u8 0),.imm (u8 0),.imm (u8 0),.imm (u8 0),.imm (u8 0),.imm (u8 0),.imm (u8 0),.imm (u8 0),.imm (u8 0),.imm (u8 0),.imm (u8 0),.imm (u8 0),.imm (i64 0),.imm (u32 0),.imm (u32 0),.imm (u32 0),.imm (u16 0),.imm nS,.imm (st
 .empty)]),(92,.agg [.imm q5])] [] [.ptr 0 0,.ptr 1 0] (two q0 q3) [] (.tup [])) (.br (k76 q3 4) (.need (ALeL [.ptr 0 0,.imm (i64 4)] [.ptr 0 0,.imm (i64 4)]∧GSpec prog 76 [(92,.agg [.imm (slE 1 u8 q3)])] [] [.ptr 0 0,.imm (i64 4)] [(92,.agg [.imm (slE 1 u8 q1)])] [] (.imm (slE 1 u8 (List.take 4 q3)))) (.br (kT (getV l 1 % 256) (getV q2 1 % 256) q1) (.need (ALeL [.ptr 0 0,.ptr 1 0] [.ptr 0 0,.ptr 1 0]∧GSpec prog (thenN (gu8 q2)) [(85,.agg [.imm (u8 q0.version),.imm (u8 q0.kind),.imm (u16 q0.session),.imm (u32 q0.serial),.imm (bo q0.add),.imm (u32 q0.origin.asn),.imm (u8
 q0.origin.pfx.fam),.imm (u64 q0.origin.pfx.addr.hi),.imm (u64 q0.origin.pfx.addr.lo),.imm (i64 q0.origin.pfx.len),.imm (i64 q0.origin.max),.imm (u32 q0.path.cust),.imm nS,.imm (u32 q0.key.asn),.imm (u8 0),.imm (u8 0),.imm (u8 0),.imm (u8 0),.imm (u8 0),.imm (u8 0),.imm (u8 0),.imm (u8 0),.imm (u8 0),.imm (u8 0),.imm (u8 0),.imm (u8 0),.imm (u8 0),.imm (u8 0),.imm (u8 0),.imm (u8 0),.imm (i64 q0.key.height),.imm (u32 q0.refresh),.imm (u32 q0.retry),.imm (u32 q0.expire),.imm (u16 q0.code),.imm nS,.imm (st q0.text)]),(92,.agg [.imm (slE 1 u8 q1)])] [] [.ptr 0 0,.ptr 1 0] (two (tS q0 q1) q4) []
 (.tup [])) (.done Exit.ret (lret (.tup [.agg [u8 (tS q0 q1).version,u8 (tS q0 q1).kind,u16 (tS q0 q1).session,u32 (tS q0 q1).serial,bo (tS q0 q1).add,u32 (tS q0 q1).origin.asn,u8 (tS q0 q1).origin.pfx.fam,u64 (tS q0 q1).origin.pfx.addr.hi,u64 (tS q0 q1).origin.pfx.addr.lo,i64 (tS q0 q1).origin.pfx.len,i64 (tS q0 q1).origin.max,u32 (tS q0 q1).path.cust,nS,u32 (tS q0 q1).key.asn,u8 (tS q0 q1).key.root[0],u8 (tS q0 q1).key.root[1],u8 (tS q0 q1).key.root[2],u8 (tS q0 q1).key.root[3],u8 (tS q0 q1).key.root[4],u8 (tS q0 q1).key.root[5],u8 (tS q0 q1).key.root[6],u8 (tS q0 q1).key.root[7],u8 (tS q0
 q1).key.root[8],u8 (tS q0 q1).key.root[9],u8 (tS q0 q1).key.root[10],u8 (tS q0 q1).key.root[11],u8 (tS q0 q1).key.root[12],u8 (tS q0 q1).key.root[13],u8 (tS q0 q1).key.root[14],u8 (tS q0 q1).key.root[15],i64 (tS q0 q1).key.height,u32 (tS q0 q1).refresh,u32 (tS q0 q1).retry,u32 (tS q0 q1).expire,u16 (tS q0 q1).code,nS,st (tS q0 q1).text],bo (decide ((↑(List.length (List.map u8 q4)):Int)=0))])))) (.need (ALeL [.ptr 0 0,.ptr 1 0] [.ptr 0 0,.ptr 1 0]∧PSpec prog (thenN (gu8 q2)) [(85,.agg [.imm (u8 q0.version),.imm (u8 q0.kind),.imm (u16 q0.session),.imm (u32 q0.serial),.imm (bo q0.add),.imm
 (u32 q0.origin.asn),.imm (u8 q0.origin.pfx.fam),.imm (u64 q0.origin.pfx.addr.hi),.imm (u64 q0.origin.pfx.addr.lo),.imm (i64 q0.origin.pfx.len),.imm (i64 q0.origin.max),.imm (u32 q0.path.cust),.imm nS,.imm (u32 q0.key.asn),.imm (u8 0),.imm (u8 0),.imm (u8 0),.imm (u8 0),.imm (u8 0),.imm (u8 0),.imm (u8 0),.imm (u8 0),.imm (u8 0),.imm (u8 0),.imm (u8 0),.imm (u8 0),.imm (u8 0),.imm (u8 0),.imm (u8 0),.imm (u8 0),.imm (i64 q0.key.height),.imm (u32 q0.refresh),.imm (u32 q0.retry),.imm (u32 q0.expire),.imm (u16 q0.code),.imm nS,.imm (st q0.text)]),(92,.agg [.imm (slE 1 u8 q1)])] [] [.ptr 0 0,.ptr 1
 0] errE) (.need (errE=errE∧[(42,AVal.imm z42),(4,AVal.imm (bo false))]=[(42,AVal.imm (IVal.agg [u8 0,u8 0,u16 0,u32 0,bo false,u32 0,u8 0,u64 0,u64 0,i64 0,i64 0,u32 0,nS,u32 0,u8 0,u8 0,u8 0,u8 0,u8 0,u8 0,u8 0,u8 0,u8 0,u8 0,u8 0,u8 0,u8 0,u8 0,u8 0,u8 0,i64 0,u32 0,u32 0,u32 0,u16 0,nS,st .empty])),(4,AVal.imm (bo false))]∧ls 0=ls 0∧ls 1=ls 1∧True) (.done Exit.ret (lret (.tup [.agg [u8 0,u8 0,u16 0,u32 0,bo false,u32 0,u8 0,u64 0,u64 0,i64 0,i64 0,u32 0,nS,u32 0,u8 0,u8 0,u8 0,u8 0,u8 0,u8 0,u8 0,u8 0,u8 0,u8 0,u8 0,u8 0,u8 0,u8 0,u8 0,u8 0,i64 0,u32 0,u32 0,u32 0,u16 0,nS,st
 .empty],bo false]))))))) (.need (ALeL [.ptr 0 0,.imm (i64 4)] [.ptr 0 0,.imm (i64 4)]∧PSpec prog 76 [(92,.agg [.imm (slE 1 u8 q3)])] [] [.ptr 0 0,.imm (i64 4)] errE) (.need (errE=errE∧[(42,AVal.imm z42),(4,AVal.imm (bo false))]=[(42,AVal.imm (IVal.agg [u8 0,u8 0,u16 0,u32 0,bo false,u32 0,u8 0,u64 0,u64 0,i64 0,i64 0,u32 0,nS,u32 0,u8 0,u8 0,u8 0,u8 0,u8 0,u8 0,u8 0,u8 0,u8 0,u8 0,u8 0,u8 0,u8 0,u8 0,u8 0,u8 0,i64 0,u32 0,u32 0,u32 0,u16 0,nS,st .empty])),(4,AVal.imm (bo false))]∧ls 0=ls 0∧ls 1=ls 1∧True) (.done Exit.ret (lret (.tup [.agg [u8 0,u8 0,u16 0,u32 0,bo false,u32
 0,u8 0,u64 0,u64 0,i64 0,i64 0,u32 0,nS,u32 0,u8 0,u8 0,u8 0,u8 0,u8 0,u8 0,u8 0,u8 0,u8 0,u8 0,u8 0,u8 0,u8 0,u8 0,u8 0,u8 0,i64 0,u32 0,u32 0,u32 0,u16 0,nS,st .empty],bo false]))))))) (.need (ALeL [.ptr 0 0,.ptr 1 0] [.ptr 0 0,.ptr 1 0]∧PSpec prog (firstN (gu8 q2)) [(85,.agg [.imm q7,.imm q6,.imm (u16 0),.imm (u32 0),.imm (bo false),.imm (u32 0),.imm (u8 0),.imm (u64 0),.imm (u64 0),.imm (i64 0),.imm (i64 0),.imm (u32 0),.imm nS,.imm (u32 0),.imm (u8 0),.imm (u8 0),.imm (u8 0),.imm (u8 0),.imm (u8 0),.imm (u8 0),.imm (u8 0),.imm (u8 0),.imm (u8 0),.imm (u8 0),.imm (u8 0),.imm (u8 0),.imm
 (u8 0),.imm (u8 0),.imm (u8 0),.imm (u8 0),.imm (i64 0),.imm (u32 0),.imm (u32 0),.imm (u32 0),.imm (u16 0),.imm nS,.imm (st .empty)]),(92,.agg [.imm q5])] [] [.ptr 0 0,.ptr 1 0] errE) (.need (errE=errE∧[(42,AVal.imm z42),(4,AVal.imm (bo false))]=[(42,AVal.imm (IVal.agg [u8 0,u8 0,u16 0,u32 0,bo false,u32 0,u8 0,u64 0,u64 0,i64 0,i64 0,u32 0,nS,u32 0,u8 0,u8 0,u8 0,u8 0,u8 0,u8 0,u8 0,u8 0,u8 0,u8 0,u8 0,u8 0,u8 0,u8 0,u8 0,u8 0,i64 0,u32 0,u32 0,u32 0,u16 0,nS,st .empty])),(4,AVal.imm (bo false))]∧ls 0=ls 0∧ls 1=ls 1∧True) (.done Exit.ret (lret (.tup [.agg [u8 0,u8 0,u16 0,u32
 0,bo false,u32 0,u8 0,u64 0,u64 0,i64 0,i64 0,u32 0,nS,u32 0,u8 0,u8 0,u8 0,u8 0,u8 0,u8 0,u8 0,u8 0,u8 0,u8 0,u8 0,u8 0,u8 0,u8 0,u8 0,u8 0,i64 0,u32 0,u32 0,u32 0,u16 0,nS,st .empty],bo false])))))))))) (.need (ALeL [.ptr 0 0,.imm (i64 1)] [.ptr 0 0,.imm (i64 1)]∧PSpec prog 42 [(92,.agg [.imm (slE 1 u8 q2)])] [] [.ptr 0 0,.imm (i64 1)] errE) (.need (errE=errE∧[(42,AVal.imm z42),(4,AVal.imm (bo false))]=[(42,AVal.imm (IVal.agg [u8 0,u8 0,u16 0,u32 0,bo false,u32 0,u8 0,u64 0,u64 0,i64 0,i64 0,u32 0,nS,u32 0,u8 0,u8 0,u8 0,u8 0,u8 0,u8 0,u8 0,u8 0,u8 0,u8 0,u8 0,u8 0,u8 0,u8 0,u8 0,u8
 0,i64 0,u32 0,u32 0,u32 0,u16 0,nS,st .empty])),(4,AVal.imm (bo false))]∧ls 0=ls 0∧ls 1=ls 1∧True) (.done Exit.ret (lret (.tup [.agg [u8 0,u8 0,u16 0,u32 0,bo false,u32 0,u8 0,u64 0,u64 0,i64 0,i64 0,u32 0,nS,u32 0,u8 0,u8 0,u8 0,u8 0,u8 0,u8 0,u8 0,u8 0,u8 0,u8 0,u8 0,u8 0,u8 0,u8 0,u8 0,u8 0,i64 0,u32 0,u32 0,u32 0,u16 0,nS,st .empty],bo false]))))))) (.need (ALeL [.ptr 0 0,.imm (i64 1)] [.ptr 0 0,.imm (i64 1)]∧PSpec prog 42 [(92,.agg [.imm (slE 1 u8 l)])] [] [.ptr 0 0,.imm (i64 1)] errE) (.need (errE=errE∧[(42,AVal.imm z42),(4,AVal.imm (bo false))]=[(42,AVal.imm (IVal.agg
 [u8 0,u8 0,u16 0,u32 0,bo false,u32 0,u8 0,u64 0,u64 0,i64 0,i64 0,u32 0,nS,u32 0,u8 0,u8 0,u8 0,u8 0,u8 0,u8 0,u8 0,u8 0,u8 0,u8 0,u8 0,u8 0,u8 0,u8 0,u8 0,u8 0,i64 0,u32 0,u32 0,u32 0,u16 0,nS,st .empty])),(4,AVal.imm (bo false))]∧ls 0=ls 0∧ls 1=ls 1∧True) (.done Exit.ret (lret (.tup [.agg [u8 0,u8 0,u16 0,u32 0,bo false,u32 0,u8 0,u64 0,u64 0,i64 0,i64 0,u32 0,nS,u32 0,u8 0,u8 0,u8 0,u8 0,u8 0,u8 0,u8 0,u8 0,u8 0,u8 0,u8 0,u8 0,u8 0,u8 0,u8 0,u8 0,i64 0,u32 0,u32 0,u32 0,u16 0,nS,st .empty],bo false])))))):=by kernel_rfl
def T35k (ls:Nat→Abs.Loc)(l:List Int):Tell:=
 (let q1:=List.drop 1 l;let q0:=List.drop 2 (List.drop 1 q1);let q2:=decide (getV (List.drop 1 q1) (1:Int)=(1:Int));
 Tell.mk (fun x x_1=>false) (fun r i=>if(r==4&&i==6)=true then Orc.look (.imm form9) true else Orc.no) (fun x=>Tree.fail 1000003 0) (fun x=>0) (fun x=>([],[])) (ogetO (fun r i=>if(r==4&&i==6)=true then Orc.look (.imm form9) true else Orc.no) [(8,3,1,Orc.may (k76 l 1) [6] 1 [.ptr 0 0,.imm (i64 1)] errE (Orc.callg [6] 1 [.ptr 0 0,.imm (i64 1)] [(92,.agg [.imm (slE 1 u8 (List.drop (Int.toNat 1) l))])] [] (.imm (u64 (getV l 1))))),(8,3,4,Orc.may (k76 q1 1) [6] 1 [.ptr 0 0,.imm (i64 1)] errE (Orc.callg [6] 1 [.ptr 0 0,.imm (i64 1)] [(92,.agg [.imm (slE 1 u8 (List.drop
 (Int.toNat 1) q1))])] [] (.imm (u64 (getV q1 1))))),(18,4,0,Orc.call [] (.map ksF dsF)),(33,7,4,Orc.may (k65 (List.drop 1 q1)) [16,6] 2 [.ptr 0 0,.ptr 1 0] errE (Orc.callg [16,6] 2 [.ptr 0 0,.ptr 1 0] (two (z1 (getV l 1 % (2:Int)^IntKind.bits IntKind.u8) (getV q1 1 % (2:Int)^IntKind.bits IntKind.u8) 0 q2 0) q0) [] (.tup []))),(38,8,1,Orc.may (k76 q0 4) [6] 1 [.ptr 0 0,.imm (i64 4)] errE (Orc.callg [6] 1 [.ptr 0 0,.imm (i64 4)] [(92,.agg [.imm (slE 1 u8 (List.drop (Int.toNat 4) q0))])] [] (.imm (slE 1 u8 (List.take (Int.toNat 4) q0))))),(40,9,4,Orc.may (k66 (List.drop 4 q0)) [16,6] 2
 [.ptr 0 0,.ptr 1 0] errE (Orc.callg [16,6] 2 [.ptr 0 0,.ptr 1 0] [(85,mA (zK (getV l 1 % 256) (getV q1 1 % 256) 0 q2 0 (kR (List.drop 4 q0)))),(92,sR (List.drop 21 (List.drop 4 q0)))] [] (.tup [])))]) fun x x_1=>Tree.fail 1000003 0)
theorem t35k (ls:Nat→Abs.Loc)(l:List Int):levD prog Proofs.Try.f35 (σ35 l ls) (T35k ls l) ls [0,1] (immB cells35) cells35 errE=
 (let q5:=List.drop 1 l;let q0:=decide (getV (List.drop 1 q5) (1:Int)=(1:Int));let q3:=List.drop 2 (List.drop 1 q5);let q6:=List.drop 4 q3;let q1:=zK (getV l 1 % 256) (getV q5 1 % 256) 0 q0 0 (kR q6);let q2:=z1 (getV l 1 % 256) (getV q5 1 % 256) 0 q0 0;let q4:=getV q5 1;let q7:=slE 1 u8 (List.drop 1 q5);let q8:=u8 (IntKind.wrap IntKind.u8 (getV l 1));
 Tree.br (k76 l 1) (.need (ALeL [.ptr 0 0,.imm (i64 1)] [.ptr 0 0,.imm (i64 1)]∧GSpec prog 42 [(92,.agg [.imm (slE 1 u8 l)])] [] [.ptr 0 0,.imm (i64 1)] [(92,.agg [.imm (slE 1 u8 q5)])] [] (.imm (u64 (getV l 1)))) (.br (k76 q5 1) (.need (ALeL [.ptr 0 0,.imm (i64 1)] [.ptr 0 0,.imm (i64 1)]∧GSpec prog 42 [(92,.agg [.imm (slE 1 u8 q5)])] [] [.ptr 0 0,.imm (i64 1)] [(92,.agg [.imm q7])] [] (.imm (u64 q4))) (.need (ILeL [] []∧ASpec prog 34 [] (.map ksF dsF)) (.need (true=true∧(if IntKind.wrap IntKind.u8 q4=0 then(AVal.imm (formI 0),true)else if IntKind.wrap IntKind.u8 q4=1 then
 (AVal.imm (formI 1),true)else if IntKind.wrap IntKind.u8 q4=2 then(AVal.imm (formI 2),true)else if IntKind.wrap IntKind.u8 q4=8 then(AVal.imm (formI 8),true)else if IntKind.wrap IntKind.u8 q4=4 then(AVal.imm (formI 4),true)else if IntKind.wrap IntKind.u8 q4=6 then(AVal.imm (formI 6),true)else if IntKind.wrap IntKind.u8 q4=3 then(AVal.imm (formI 3),true)else if IntKind.wrap IntKind.u8 q4=7 then(AVal.imm (formI 7),true)else if IntKind.wrap IntKind.u8 q4=9 then(AVal.imm (formI 9),true)else if IntKind.wrap IntKind.u8 q4=10 then(AVal.imm (formI 10),true)else if
 IntKind.wrap IntKind.u8 q4=11 then(AVal.imm (formI 11),true)else(AVal.imm (IVal.agg [IVal.v Value.nilFunc,IVal.v Value.nilFunc,IVal.v Value.nilFunc,IVal.v Value.nilFunc,IVal.v Value.nilFunc]),false))=(.imm form9,true)) (.br false (.done Exit.ret (lret (.tup [.agg [u8 0,u8 0,u16 0,u32 0,bo false,u32 0,u8 0,u64 0,u64 0,i64 0,i64 0,u32 0,nS,u32 0,u8 0,u8 0,u8 0,u8 0,u8 0,u8 0,u8 0,u8 0,u8 0,u8 0,u8 0,u8 0,u8 0,u8 0,u8 0,u8 0,i64 0,u32 0,u32 0,u32 0,u16 0,nS,st .empty],bo false]))) (.br (k65 (List.drop 1 q5)) (.need (ALeL [.ptr 0 0,.ptr 1 0] [.ptr 0 0,.ptr 1 0]∧GSpec prog 65 [(85,.agg
 [.imm q8,.imm (u8 (IntKind.wrap IntKind.u8 q4)),.imm (u16 0),.imm (u32 0),.imm (bo false),.imm (u32 0),.imm (u8 0),.imm (u64 0),.imm (u64 0),.imm (i64 0),.imm (i64 0),.imm (u32 0),.imm nS,.imm (u32 0),.imm (u8 0),.imm (u8 0),.imm (u8 0),.imm (u8 0),.imm (u8 0),.imm (u8 0),.imm (u8 0),.imm (u8 0),.imm (u8 0),.imm (u8 0),.imm (u8 0),.imm (u8 0),.imm (u8 0),.imm (u8 0),.imm (u8 0),.imm (u8 0),.imm (i64 0),.imm (u32 0),.imm (u32 0),.imm (u32 0),.imm (u16 0),.imm nS,.imm (st .empty)]),(92,.agg [.imm q7])] [] [.ptr 0 0,.ptr 1 0] (two q2 q3) [] (.tup [])) (.br (k76 q3 4) (.need (ALeL [.ptr 0 0,.imm
 (i64 4)] [.ptr 0 0,.imm (i64 4)]∧GSpec prog 76 [(92,.agg [.imm (slE 1 u8 q3)])] [] [.ptr 0 0,.imm (i64 4)] [(92,.agg [.imm (slE 1 u8 q6)])] [] (.imm (slE 1 u8 (List.take 4 q3)))) (.br (k66 q6) (.need (ALeL [.ptr 0 0,.ptr 1 0] [.ptr 0 0,.ptr 1 0]∧GSpec prog 66 [(85,.agg [.imm (u8 q2.version),.imm (u8 q2.kind),.imm (u16 q2.session),.imm (u32 q2.serial),.imm (bo q2.add),.imm (u32 q2.origin.asn),.imm (u8 q2.origin.pfx.fam),.imm (u64 q2.origin.pfx.addr.hi),.imm (u64 q2.origin.pfx.addr.lo),.imm (i64 q2.origin.pfx.len),.imm (i64 q2.origin.max),.imm (u32 q2.path.cust),.imm nS,.imm (u32
 q2.key.asn),.imm (u8 0),.imm (u8 0),.imm (u8 0),.imm (u8 0),.imm (u8 0),.imm (u8 0),.imm (u8 0),.imm (u8 0),.imm (u8 0),.imm (u8 0),.imm (u8 0),.imm (u8 0),.imm (u8 0),.imm (u8 0),.imm (u8 0),.imm (u8 0),.imm (i64 q2.key.height),.imm (u32 q2.refresh),.imm (u32 q2.retry),.imm (u32 q2.expire),.imm (u16 q2.code),.imm nS,.imm (st q2.text)]),(92,.agg [.imm (slE 1 u8 q6)])] [] [.ptr 0 0,.ptr 1 0] [(85,mA q1),(92,sR (List.drop 21 q6))] [] (.tup [])) (.done Exit.ret (lret (.tup [.agg [u8 q1.version,u8 q1.kind,u16 q1.session,u32 q1.serial,bo q1.add,u32 q1.origin.asn,u8 q1.origin.pfx.fam,u64
 q1.origin.pfx.addr.hi,u64 q1.origin.pfx.addr.lo,i64 q1.origin.pfx.len,i64 q1.origin.max,u32 q1.path.cust,nS,u32 q1.key.asn,u8 q1.key.root[0],u8 q1.key.root[1],u8 q1.key.root[2],u8 q1.key.root[3],u8 q1.key.root[4],u8 q1.key.root[5],u8 q1.key.root[6],u8 q1.key.root[7],u8 q1.key.root[8],u8 q1.key.root[9],u8 q1.key.root[10],u8 q1.key.root[11],u8 q1.key.root[12],u8 q1.key.root[13],u8 q1.key.root[14],u8 q1.key.root[15],i64 q1.key.height,u32 q1.refresh,u32 q1.retry,u32 q1.expire,u16 q1.code,nS,st q1.text],bo (decide ((↑(List.length (List.map u8 (List.drop 21 q6))):Int)=0))])))) (.need (ALeL [.ptr
 0 0,.ptr 1 0] [.ptr 0 0,.ptr 1 0]∧PSpec prog 66 [(85,.agg [.imm (u8 q2.version),.imm (u8 q2.kind),.imm (u16 q2.session),.imm (u32 q2.serial),.imm (bo q2.add),.imm (u32 q2.origin.asn),.imm (u8 q2.origin.pfx.fam),.imm (u64 q2.origin.pfx.addr.hi),.imm (u64 q2.origin.pfx.addr.lo),.imm (i64 q2.origin.pfx.len),.imm (i64 q2.origin.max),.imm (u32 q2.path.cust),.imm nS,.imm (u32 q2.key.asn),.imm (u8 0),.imm (u8 0),.imm (u8 0),.imm (u8 0),.imm (u8 0),.imm (u8 0),.imm (u8 0),.imm (u8 0),.imm (u8 0),.imm (u8 0),.imm (u8 0),.imm (u8 0),.imm (u8 0),.imm (u8 0),.imm (u8 0),.imm (u8 0),.imm (i64
 q2.key.height),.imm (u32 q2.refresh),.imm (u32 q2.retry),.imm (u32 q2.expire),.imm (u16 q2.code),.imm nS,.imm (st q2.text)]),(92,.agg [.imm (slE 1 u8 q6)])] [] [.ptr 0 0,.ptr 1 0] errE) (.need (errE=errE∧[(42,AVal.imm z42),(4,AVal.imm (bo false))]=[(42,AVal.imm (IVal.agg [u8 0,u8 0,u16 0,u32 0,bo false,u32 0,u8 0,u64 0,u64 0,i64 0,i64 0,u32 0,nS,u32 0,u8 0,u8 0,u8 0,u8 0,u8 0,u8 0,u8 0,u8 0,u8 0,u8 0,u8 0,u8 0,u8 0,u8 0,u8 0,u8 0,i64 0,u32 0,u32 0,u32 0,u16 0,nS,st .empty])),(4,AVal.imm (bo false))]∧ls 0=ls 0∧ls 1=ls 1∧True) (.done Exit.ret (lret (.tup [.agg [u8 0,u8 0,u16 0,u32
 0,bo false,u32 0,u8 0,u64 0,u64 0,i64 0,i64 0,u32 0,nS,u32 0,u8 0,u8 0,u8 0,u8 0,u8 0,u8 0,u8 0,u8 0,u8 0,u8 0,u8 0,u8 0,u8 0,u8 0,u8 0,u8 0,i64 0,u32 0,u32 0,u32 0,u16 0,nS,st .empty],bo false]))))))) (.need (ALeL [.ptr 0 0,.imm (i64 4)] [.ptr 0 0,.imm (i64 4)]∧PSpec prog 76 [(92,.agg [.imm (slE 1 u8 q3)])] [] [.ptr 0 0,.imm (i64 4)] errE) (.need (errE=errE∧[(42,AVal.imm z42),(4,AVal.imm (bo false))]=[(42,AVal.imm (IVal.agg [u8 0,u8 0,u16 0,u32 0,bo false,u32 0,u8 0,u64 0,u64 0,i64 0,i64 0,u32 0,nS,u32 0,u8 0,u8 0,u8 0,u8 0,u8 0,u8 0,u8 0,u8 0,u8 0,u8 0,u8 0,u8 0,u8 0,u8 0,u8 0,u8
 0,i64 0,u32 0,u32 0,u32 0,u16 0,nS,st .empty])),(4,AVal.imm (bo false))]∧ls 0=ls 0∧ls 1=ls 1∧True) (.done Exit.ret (lret (.tup [.agg [u8 0,u8 0,u16 0,u32 0,bo false,u32 0,u8 0,u64 0,u64 0,i64 0,i64 0,u32 0,nS,u32 0,u8 0,u8 0,u8 0,u8 0,u8 0,u8 0,u8 0,u8 0,u8 0,u8 0,u8 0,u8 0,u8 0,u8 0,u8 0,u8 0,i64 0,u32 0,u32 0,u32 0,u16 0,nS,st .empty],bo false]))))))) (.need (ALeL [.ptr 0 0,.ptr 1 0] [.ptr 0 0,.ptr 1 0]∧PSpec prog 65 [(85,.agg [.imm q8,.imm (u8 (IntKind.wrap IntKind.u8 q4)),.imm (u16 0),.imm (u32 0),.imm (bo false),.imm (u32 0),.imm (u8 0),.imm (u64 0),.imm (u64 0),.imm (i64
 0),.imm (i64 0),.imm (u32 0),.imm nS,.imm (u32 0),.imm (u8 0),.imm (u8 0),.imm (u8 0),.imm (u8 0),.imm (u8 0),.imm (u8 0),.imm (u8 0),.imm (u8 0),.imm (u8 0),.imm (u8 0),.imm (u8 0),.imm (u8 0),.imm (u8 0),.imm (u8 0),.imm (u8 0),.imm (u8 0),.imm (i64 0),.imm (u32 0),.imm (u32 0),.imm (u32 0),.imm (u16 0),.imm nS,.imm (st .empty)]),(92,.agg [.imm q7])] [] [.ptr 0 0,.ptr 1 0] errE) (.need (errE=errE∧[(42,AVal.imm z42),(4,AVal.imm (bo false))]=[(42,AVal.imm (IVal.agg [u8 0,u8 0,u16 0,u32 0,bo false,u32 0,u8 0,u64 0,u64 0,i64 0,i64 0,u32 0,nS,u32 0,u8 0,u8 0,u8 0,u8 0,u8 0,u8 0,u8 0,u8 0,u8
 0,u8 0,u8 0,u8 0,u8 0,u8 0,u8 0,u8 0,i64 0,u32 0,u32 0,u32 0,u16 0,nS,st .empty])),(4,AVal.imm (bo false))]∧ls 0=ls 0∧ls 1=ls 1∧True) (.done Exit.ret (lret (.tup [.agg [u8 0,u8 0,u16 0,u32 0,bo false,u32 0,u8 0,u64 0,u64 0,i64 0,i64 0,u32 0,nS,u32 0,u8 0,u8 0,u8 0,u8 0,u8 0,u8 0,u8 0,u8 0,u8 0,u8 0,u8 0,u8 0,u8 0,u8 0,u8 0,u8 0,i64 0,u32 0,u32 0,u32 0,u16 0,nS,st .empty],bo false])))))))))) (.need (ALeL [.ptr 0 0,.imm (i64 1)] [.ptr 0 0,.imm (i64 1)]∧PSpec prog 42 [(92,.agg [.imm (slE 1 u8 q5)])] [] [.ptr 0 0,.imm (i64 1)] errE) (.need (errE=errE∧[(42,AVal.imm z42),(4,AVal.imm
 (bo false))]=[(42,AVal.imm (IVal.agg [u8 0,u8 0,u16 0,u32 0,bo false,u32 0,u8 0,u64 0,u64 0,i64 0,i64 0,u32 0,nS,u32 0,u8 0,u8 0,u8 0,u8 0,u8 0,u8 0,u8 0,u8 0,u8 0,u8 0,u8 0,u8 0,u8 0,u8 0,u8 0,u8 0,i64 0,u32 0,u32 0,u32 0,u16 0,nS,st .empty])),(4,AVal.imm (bo false))]∧ls 0=ls 0∧ls 1=ls 1∧True) (.done Exit.ret (lret (.tup [.agg [u8 0,u8 0,u16 0,u32 0,bo false,u32 0,u8 0,u64 0,u64 0,i64 0,i64 0,u32 0,nS,u32 0,u8 0,u8 0,u8 0,u8 0,u8 0,u8 0,u8 0,u8 0,u8 0,u8 0,u8 0,u8 0,u8 0,u8 0,u8 0,u8 0,i64 0,u32 0,u32 0,u32 0,u16 0,nS,st .empty],bo false]))))))) (.need (ALeL [.ptr 0 0,.imm (i64 1)]
 [.ptr 0 0,.imm (i64 1)]∧PSpec prog 42 [(92,.agg [.imm (slE 1 u8 l)])] [] [.ptr 0 0,.imm (i64 1)] errE) (.need (errE=errE∧[(42,AVal.imm z42),(4,AVal.imm (bo false))]=[(42,AVal.imm (IVal.agg [u8 0,u8 0,u16 0,u32 0,bo false,u32 0,u8 0,u64 0,u64 0,i64 0,i64 0,u32 0,nS,u32 0,u8 0,u8 0,u8 0,u8 0,u8 0,u8 0,u8 0,u8 0,u8 0,u8 0,u8 0,u8 0,u8 0,u8 0,u8 0,u8 0,i64 0,u32 0,u32 0,u32 0,u16 0,nS,st .empty])),(4,AVal.imm (bo false))]∧ls 0=ls 0∧ls 1=ls 1∧True) (.done Exit.ret (lret (.tup [.agg [u8 0,u8 0,u16 0,u32 0,bo false,u32 0,u8 0,u64 0,u64 0,i64 0,i64 0,u32 0,nS,u32 0,u8 0,u8 0,u8 0,u8
 0,u8 0,u8 0,u8 0,u8 0,u8 0,u8 0,u8 0,u8 0,u8 0,u8 0,u8 0,u8 0,i64 0,u32 0,u32 0,u32 0,u16 0,nS,st .empty],bo false])))))):=by kernel_rfl
def T35e (ls:Nat→Abs.Loc)(l:List Int):Tell:=
 (let q1:=List.drop 1 l;let q0:=List.drop 2 (List.drop 1 q1);let q2:=List.drop 4 q0;
 Tell.mk (fun x x_1=>false) (fun r i=>if(r==4&&i==6)=true then Orc.look (.imm form10) true else Orc.no) (fun x=>Tree.fail 1000003 0) (fun x=>0) (fun x=>([],[])) (ogetO (fun r i=>if(r==4&&i==6)=true then Orc.look (.imm form10) true else Orc.no) [(8,3,1,Orc.may (k76 l 1) [6] 1 [.ptr 0 0,.imm (i64 1)] errE (Orc.callg [6] 1 [.ptr 0 0,.imm (i64 1)] [(92,.agg [.imm (slE 1 u8 (List.drop (Int.toNat 1) l))])] [] (.imm (u64 (getV l 1))))),(8,3,4,Orc.may (k76 q1 1) [6] 1 [.ptr 0 0,.imm (i64 1)] errE (Orc.callg [6] 1 [.ptr 0 0,.imm (i64 1)] [(92,.agg [.imm (slE 1 u8 (List.drop
 (Int.toNat 1) q1))])] [] (.imm (u64 (getV q1 1))))),(18,4,0,Orc.call [] (.map ksF dsF)),(33,7,4,Orc.may (k50 (List.drop 1 q1)) [16,6] 2 [.ptr 0 0,.ptr 1 0] errE (Orc.callg [16,6] 2 [.ptr 0 0,.ptr 1 0] (two (z1 (getV l 1 % (2:Int)^IntKind.bits IntKind.u8) (getV q1 1 % (2:Int)^IntKind.bits IntKind.u8) 0 false (gu16 (List.drop 1 q1))) q0) [] (.tup []))),(38,8,1,Orc.may (k76 q0 4) [6] 1 [.ptr 0 0,.imm (i64 4)] errE (Orc.callg [6] 1 [.ptr 0 0,.imm (i64 4)] [(92,.agg [.imm (slE 1 u8 (List.drop (Int.toNat 4) q0))])] [] (.imm (slE 1 u8 (List.take (Int.toNat 4) q0))))),(40,9,4,Orc.may (k71 q2)
 [16,6] 2 [.ptr 0 0,.ptr 1 0] errE (Orc.callg [16,6] 2 [.ptr 0 0,.ptr 1 0] [(85,mC (zT (getV l 1 % 256) (getV q1 1 % 256) 0 false (gu16 (List.drop 1 q1)) (bstr (fText q2))) (.imm (slF 1 u8 (fCopy q2)))),(92,sR (fRest q2))] [] (.tup [])))]) fun x x_1=>Tree.fail 1000003 0)
theorem t35e (ls:Nat→Abs.Loc)(l:List Int):levD prog Proofs.Try.f35 (σ35 l ls) (T35e ls l) ls [0,1] (immB cells35) cells35 errE=
 (let q5:=List.drop 1 l;let q0:=z1 (getV l 1 % 256) (getV q5 1 % 256) 0 false (gu16 (List.drop 1 q5));let q2:=List.drop 2 (List.drop 1 q5);let q4:=List.drop 4 q2;let q1:=zT (getV l 1 % 256) (getV q5 1 % 256) 0 false (gu16 (List.drop 1 q5)) (bstr (fText q4));let q3:=getV q5 1;let q6:=slE 1 u8 (List.drop 1 q5);let q7:=u8 (IntKind.wrap IntKind.u8 (getV l 1));
 Tree.br (k76 l 1) (.need (ALeL [.ptr 0 0,.imm (i64 1)] [.ptr 0 0,.imm (i64 1)]∧GSpec prog 42 [(92,.agg [.imm (slE 1 u8 l)])] [] [.ptr 0 0,.imm (i64 1)] [(92,.agg [.imm (slE 1 u8 q5)])] [] (.imm (u64 (getV l 1)))) (.br (k76 q5 1) (.need (ALeL [.ptr 0 0,.imm (i64 1)] [.ptr 0 0,.imm (i64 1)]∧GSpec prog 42 [(92,.agg [.imm (slE 1 u8 q5)])] [] [.ptr 0 0,.imm (i64 1)] [(92,.agg [.imm q6])] [] (.imm (u64 q3))) (.need (ILeL [] []∧ASpec prog 34 [] (.map ksF dsF)) (.need (true=true∧(if IntKind.wrap IntKind.u8 q3=0 then(AVal.imm (formI 0),true)else if IntKind.wrap IntKind.u8 q3=1 then
 (AVal.imm (formI 1),true)else if IntKind.wrap IntKind.u8 q3=2 then(AVal.imm (formI 2),true)else if IntKind.wrap IntKind.u8 q3=8 then(AVal.imm (formI 8),true)else if IntKind.wrap IntKind.u8 q3=4 then(AVal.imm (formI 4),true)else if IntKind.wrap IntKind.u8 q3=6 then(AVal.imm (formI 6),true)else if IntKind.wrap IntKind.u8 q3=3 then(AVal.imm (formI 3),true)else if IntKind.wrap IntKind.u8 q3=7 then(AVal.imm (formI 7),true)else if IntKind.wrap IntKind.u8 q3=9 then(AVal.imm (formI 9),true)else if IntKind.wrap IntKind.u8 q3=10 then(AVal.imm (formI 10),true)else if
 IntKind.wrap IntKind.u8 q3=11 then(AVal.imm (formI 11),true)else(AVal.imm (IVal.agg [IVal.v Value.nilFunc,IVal.v Value.nilFunc,IVal.v Value.nilFunc,IVal.v Value.nilFunc,IVal.v Value.nilFunc]),false))=(.imm form10,true)) (.br false (.done Exit.ret (lret (.tup [.agg [u8 0,u8 0,u16 0,u32 0,bo false,u32 0,u8 0,u64 0,u64 0,i64 0,i64 0,u32 0,nS,u32 0,u8 0,u8 0,u8 0,u8 0,u8 0,u8 0,u8 0,u8 0,u8 0,u8 0,u8 0,u8 0,u8 0,u8 0,u8 0,u8 0,i64 0,u32 0,u32 0,u32 0,u16 0,nS,st .empty],bo false]))) (.br (k50 (List.drop 1 q5)) (.need (ALeL [.ptr 0 0,.ptr 1 0] [.ptr 0 0,.ptr 1 0]∧GSpec prog 70 [(85,.agg
 [.imm q7,.imm (u8 (IntKind.wrap IntKind.u8 q3)),.imm (u16 0),.imm (u32 0),.imm (bo false),.imm (u32 0),.imm (u8 0),.imm (u64 0),.imm (u64 0),.imm (i64 0),.imm (i64 0),.imm (u32 0),.imm nS,.imm (u32 0),.imm (u8 0),.imm (u8 0),.imm (u8 0),.imm (u8 0),.imm (u8 0),.imm (u8 0),.imm (u8 0),.imm (u8 0),.imm (u8 0),.imm (u8 0),.imm (u8 0),.imm (u8 0),.imm (u8 0),.imm (u8 0),.imm (u8 0),.imm (u8 0),.imm (i64 0),.imm (u32 0),.imm (u32 0),.imm (u32 0),.imm (u16 0),.imm nS,.imm (st .empty)]),(92,.agg [.imm q6])] [] [.ptr 0 0,.ptr 1 0] (two q0 q2) [] (.tup [])) (.br (k76 q2 4) (.need (ALeL [.ptr 0 0,.imm
 (i64 4)] [.ptr 0 0,.imm (i64 4)]∧GSpec prog 76 [(92,.agg [.imm (slE 1 u8 q2)])] [] [.ptr 0 0,.imm (i64 4)] [(92,.agg [.imm (slE 1 u8 q4)])] [] (.imm (slE 1 u8 (List.take 4 q2)))) (.br (k71 q4) (.need (ALeL [.ptr 0 0,.ptr 1 0] [.ptr 0 0,.ptr 1 0]∧GSpec prog 71 [(85,.agg [.imm (u8 q0.version),.imm (u8 q0.kind),.imm (u16 q0.session),.imm (u32 q0.serial),.imm (bo q0.add),.imm (u32 q0.origin.asn),.imm (u8 q0.origin.pfx.fam),.imm (u64 q0.origin.pfx.addr.hi),.imm (u64 q0.origin.pfx.addr.lo),.imm (i64 q0.origin.pfx.len),.imm (i64 q0.origin.max),.imm (u32 q0.path.cust),.imm nS,.imm (u32
 q0.key.asn),.imm (u8 0),.imm (u8 0),.imm (u8 0),.imm (u8 0),.imm (u8 0),.imm (u8 0),.imm (u8 0),.imm (u8 0),.imm (u8 0),.imm (u8 0),.imm (u8 0),.imm (u8 0),.imm (u8 0),.imm (u8 0),.imm (u8 0),.imm (u8 0),.imm (i64 q0.key.height),.imm (u32 q0.refresh),.imm (u32 q0.retry),.imm (u32 q0.expire),.imm (u16 q0.code),.imm nS,.imm (st q0.text)]),(92,.agg [.imm (slE 1 u8 q4)])] [] [.ptr 0 0,.ptr 1 0] [(85,mC q1 (.imm (slF 1 u8 (fCopy q4)))),(92,sR (fRest q4))] [] (.tup [])) (.done Exit.ret (lret (.tup [.agg [u8 q1.version,u8 q1.kind,u16 q1.session,u32 q1.serial,bo q1.add,u32 q1.origin.asn,u8
 q1.origin.pfx.fam,u64 q1.origin.pfx.addr.hi,u64 q1.origin.pfx.addr.lo,i64 q1.origin.pfx.len,i64 q1.origin.max,u32 q1.path.cust,nS,u32 q1.key.asn,u8 0,u8 0,u8 0,u8 0,u8 0,u8 0,u8 0,u8 0,u8 0,u8 0,u8 0,u8 0,u8 0,u8 0,u8 0,u8 0,i64 q1.key.height,u32 q1.refresh,u32 q1.retry,u32 q1.expire,u16 q1.code,slF 1 u8 (fCopy q4),st q1.text],bo (decide ((↑(List.length (List.map u8 (fRest q4))):Int)=0))])))) (.need (ALeL [.ptr 0 0,.ptr 1 0] [.ptr 0 0,.ptr 1 0]∧PSpec prog 71 [(85,.agg [.imm (u8 q0.version),.imm (u8 q0.kind),.imm (u16 q0.session),.imm (u32 q0.serial),.imm (bo q0.add),.imm (u32
 q0.origin.asn),.imm (u8 q0.origin.pfx.fam),.imm (u64 q0.origin.pfx.addr.hi),.imm (u64 q0.origin.pfx.addr.lo),.imm (i64 q0.origin.pfx.len),.imm (i64 q0.origin.max),.imm (u32 q0.path.cust),.imm nS,.imm (u32 q0.key.asn),.imm (u8 0),.imm (u8 0),.imm (u8 0),.imm (u8 0),.imm (u8 0),.imm (u8 0),.imm (u8 0),.imm (u8 0),.imm (u8 0),.imm (u8 0),.imm (u8 0),.imm (u8 0),.imm (u8 0),.imm (u8 0),.imm (u8 0),.imm (u8 0),.imm (i64 q0.key.height),.imm (u32 q0.refresh),.imm (u32 q0.retry),.imm (u32 q0.expire),.imm (u16 q0.code),.imm nS,.imm (st q0.text)]),(92,.agg [.imm (slE 1 u8 q4)])] [] [.ptr 0 0,.ptr 1 0]
 errE) (.need (errE=errE∧[(42,AVal.imm z42),(4,AVal.imm (bo false))]=[(42,AVal.imm (IVal.agg [u8 0,u8 0,u16 0,u32 0,bo false,u32 0,u8 0,u64 0,u64 0,i64 0,i64 0,u32 0,nS,u32 0,u8 0,u8 0,u8 0,u8 0,u8 0,u8 0,u8 0,u8 0,u8 0,u8 0,u8 0,u8 0,u8 0,u8 0,u8 0,u8 0,i64 0,u32 0,u32 0,u32 0,u16 0,nS,st .empty])),(4,AVal.imm (bo false))]∧ls 0=ls 0∧ls 1=ls 1∧True) (.done Exit.ret (lret (.tup [.agg [u8 0,u8 0,u16 0,u32 0,bo false,u32 0,u8 0,u64 0,u64 0,i64 0,i64 0,u32 0,nS,u32 0,u8 0,u8 0,u8 0,u8 0,u8 0,u8 0,u8 0,u8 0,u8 0,u8 0,u8 0,u8 0,u8 0,u8 0,u8 0,u8 0,i64 0,u32 0,u32 0,u32 0,u16 0,nS,st
 .empty],bo false]))))))) (.need (ALeL [.ptr 0 0,.imm (i64 4)] [.ptr 0 0,.imm (i64 4)]∧PSpec prog 76 [(92,.agg [.imm (slE 1 u8 q2)])] [] [.ptr 0 0,.imm (i64 4)] errE) (.need (errE=errE∧[(42,AVal.imm z42),(4,AVal.imm (bo false))]=[(42,AVal.imm (IVal.agg [u8 0,u8 0,u16 0,u32 0,bo false,u32 0,u8 0,u64 0,u64 0,i64 0,i64 0,u32 0,nS,u32 0,u8 0,u8 0,u8 0,u8 0,u8 0,u8 0,u8 0,u8 0,u8 0,u8 0,u8 0,u8 0,u8 0,u8 0,u8 0,u8 0,i64 0,u32 0,u32 0,u32 0,u16 0,nS,st .empty])),(4,AVal.imm (bo false))]∧ls 0=ls 0∧ls 1=ls 1∧True) (.done Exit.ret (lret (.tup [.agg [u8 0,u8 0,u16 0,u32 0,bo false,u32
 0,u8 0,u64 0,u64 0,i64 0,i64 0,u32 0,nS,u32 0,u8 0,u8 0,u8 0,u8 0,u8 0,u8 0,u8 0,u8 0,u8 0,u8 0,u8 0,u8 0,u8 0,u8 0,u8 0,u8 0,i64 0,u32 0,u32 0,u32 0,u16 0,nS,st .empty],bo false]))))))) (.need (ALeL [.ptr 0 0,.ptr 1 0] [.ptr 0 0,.ptr 1 0]∧PSpec prog 70 [(85,.agg [.imm q7,.imm (u8 (IntKind.wrap IntKind.u8 q3)),.imm (u16 0),.imm (u32 0),.imm (bo false),.imm (u32 0),.imm (u8 0),.imm (u64 0),.imm (u64 0),.imm (i64 0),.imm (i64 0),.imm (u32 0),.imm nS,.imm (u32 0),.imm (u8 0),.imm (u8 0),.imm (u8 0),.imm (u8 0),.imm (u8 0),.imm (u8 0),.imm (u8 0),.imm (u8 0),.imm (u8 0),.imm (u8 0),.imm (u8
 0),.imm (u8 0),.imm (u8 0),.imm (u8 0),.imm (u8 0),.imm (u8 0),.imm (i64 0),.imm (u32 0),.imm (u32 0),.imm (u32 0),.imm (u16 0),.imm nS,.imm (st .empty)]),(92,.agg [.imm q6])] [] [.ptr 0 0,.ptr 1 0] errE) (.need (errE=errE∧[(42,AVal.imm z42),(4,AVal.imm (bo false))]=[(42,AVal.imm (IVal.agg [u8 0,u8 0,u16 0,u32 0,bo false,u32 0,u8 0,u64 0,u64 0,i64 0,i64 0,u32 0,nS,u32 0,u8 0,u8 0,u8 0,u8 0,u8 0,u8 0,u8 0,u8 0,u8 0,u8 0,u8 0,u8 0,u8 0,u8 0,u8 0,u8 0,i64 0,u32 0,u32 0,u32 0,u16 0,nS,st .empty])),(4,AVal.imm (bo false))]∧ls 0=ls 0∧ls 1=ls 1∧True) (.done Exit.ret (lret (.tup [.agg
 [u8 0,u8 0,u16 0,u32 0,bo false,u32 0,u8 0,u64 0,u64 0,i64 0,i64 0,u32 0,nS,u32 0,u8 0,u8 0,u8 0,u8 0,u8 0,u8 0,u8 0,u8 0,u8 0,u8 0,u8 0,u8 0,u8 0,u8 0,u8 0,u8 0,i64 0,u32 0,u32 0,u32 0,u16 0,nS,st .empty],bo false])))))))))) (.need (ALeL [.ptr 0 0,.imm (i64 1)] [.ptr 0 0,.imm (i64 1)]∧PSpec prog 42 [(92,.agg [.imm (slE 1 u8 q5)])] [] [.ptr 0 0,.imm (i64 1)] errE) (.need (errE=errE∧[(42,AVal.imm z42),(4,AVal.imm (bo false))]=[(42,AVal.imm (IVal.agg [u8 0,u8 0,u16 0,u32 0,bo false,u32 0,u8 0,u64 0,u64 0,i64 0,i64 0,u32 0,nS,u32 0,u8 0,u8 0,u8 0,u8 0,u8 0,u8 0,u8 0,u8 0,u8 0,u8 0,u8 0,u8
 0,u8 0,u8 0,u8 0,u8 0,i64 0,u32 0,u32 0,u32 0,u16 0,nS,st .empty])),(4,AVal.imm (bo false))]∧ls 0=ls 0∧ls 1=ls 1∧True) (.done Exit.ret (lret (.tup [.agg [u8 0,u8 0,u16 0,u32 0,bo false,u32 0,u8 0,u64 0,u64 0,i64 0,i64 0,u32 0,nS,u32 0,u8 0,u8 0,u8 0,u8 0,u8 0,u8 0,u8 0,u8 0,u8 0,u8 0,u8 0,u8 0,u8 0,u8 0,u8 0,u8 0,i64 0,u32 0,u32 0,u32 0,u16 0,nS,st .empty],bo false]))))))) (.need (ALeL [.ptr 0 0,.imm (i64 1)] [.ptr 0 0,.imm (i64 1)]∧PSpec prog 42 [(92,.agg [.imm (slE 1 u8 l)])] [] [.ptr 0 0,.imm (i64 1)] errE) (.need (errE=errE∧[(42,AVal.imm z42),(4,AVal.imm (bo false))]=
 [(42,AVal.imm (IVal.agg [u8 0,u8 0,u16 0,u32 0,bo false,u32 0,u8 0,u64 0,u64 0,i64 0,i64 0,u32 0,nS,u32 0,u8 0,u8 0,u8 0,u8 0,u8 0,u8 0,u8 0,u8 0,u8 0,u8 0,u8 0,u8 0,u8 0,u8 0,u8 0,u8 0,i64 0,u32 0,u32 0,u32 0,u16 0,nS,st .empty])),(4,AVal.imm (bo false))]∧ls 0=ls 0∧ls 1=ls 1∧True) (.done Exit.ret (lret (.tup [.agg [u8 0,u8 0,u16 0,u32 0,bo false,u32 0,u8 0,u64 0,u64 0,i64 0,i64 0,u32 0,nS,u32 0,u8 0,u8 0,u8 0,u8 0,u8 0,u8 0,u8 0,u8 0,u8 0,u8 0,u8 0,u8 0,u8 0,u8 0,u8 0,u8 0,i64 0,u32 0,u32 0,u32 0,u16 0,nS,st .empty],bo false])))))):=by kernel_rfl
def T35p (ls:Nat→Abs.Loc)(l:List Int):Tell:=
 (let q1:=List.drop 1 l;let q0:=List.drop 2 (List.drop 1 q1);let q2:=List.drop 4 q0;let q3:=decide (getV (List.drop 1 q1) (1:Int)=(1:Int));
 Tell.mk (fun x x_1=>false) (fun r i=>if(r==4&&i==6)=true then Orc.look (.imm form11) true else Orc.no) (fun x=>Tree.fail 1000003 0) (fun x=>0) (fun x=>([],[])) (ogetO (fun r i=>if(r==4&&i==6)=true then Orc.look (.imm form11) true else Orc.no) [(8,3,1,Orc.may (k76 l 1) [6] 1 [.ptr 0 0,.imm (i64 1)] errE (Orc.callg [6] 1 [.ptr 0 0,.imm (i64 1)] [(92,.agg [.imm (slE 1 u8 (List.drop (Int.toNat 1) l))])] [] (.imm (u64 (getV l 1))))),(8,3,4,Orc.may (k76 q1 1) [6] 1 [.ptr 0 0,.imm (i64 1)] errE (Orc.callg [6] 1 [.ptr 0 0,.imm (i64 1)] [(92,.agg [.imm (slE 1 u8 (List.drop
 (Int.toNat 1) q1))])] [] (.imm (u64 (getV q1 1))))),(18,4,0,Orc.call [] (.map ksF dsF)),(33,7,4,Orc.may (k65 (List.drop 1 q1)) [16,6] 2 [.ptr 0 0,.ptr 1 0] errE (Orc.callg [16,6] 2 [.ptr 0 0,.ptr 1 0] (two (z1 (getV l 1 % (2:Int)^IntKind.bits IntKind.u8) (getV q1 1 % (2:Int)^IntKind.bits IntKind.u8) 0 q3 0) q0) [] (.tup []))),(38,8,1,Orc.may (k76 q0 4) [6] 1 [.ptr 0 0,.imm (i64 4)] errE (Orc.callg [6] 1 [.ptr 0 0,.imm (i64 4)] [(92,.agg [.imm (slE 1 u8 (List.drop (Int.toNat 4) q0))])] [] (.imm (slE 1 u8 (List.take (Int.toNat 4) q0))))),(40,9,4,Orc.may (k74 q2) [16,6] 2 [.ptr 0 0,.ptr 1
 0] errE (Orc.callg [16,6] 2 [.ptr 0 0,.ptr 1 0] [(85,mP (zP (getV l 1 % 256) (getV q1 1 % 256) 0 q3 0 (gu32 q2)) (.own 2 (pN q2))),(92,sR [])] [Entry.row 23 1 (List.map u32 (pvR (List.drop 4 q2) (pN q2)))] (.tup [])))]) fun x x_1=>Tree.fail 1000003 0)
theorem t35p (ls:Nat→Abs.Loc)(l:List Int):levD prog Proofs.Try.f35 (σ35 l ls) (T35p ls l) ls [0,1] (immB cells35) cells35 errE=
 (let q6:=List.drop 1 l;let q0:=decide (getV (List.drop 1 q6) (1:Int)=(1:Int));let q3:=List.drop 2 (List.drop 1 q6);let q5:=List.drop 4 q3;let q1:=zP (getV l 1 % 256) (getV q6 1 % 256) 0 q0 0 (gu32 q5);let q2:=z1 (getV l 1 % 256) (getV q6 1 % 256) 0 q0 0;let q4:=getV q6 1;let q7:=List.map u32 (pvR (List.drop 4 q5) (pN q5));let q8:=slE 1 u8 (List.drop 1 q6);let q9:=u8 (IntKind.wrap IntKind.u8 (getV l 1));
 Tree.br (k76 l 1) (.need (ALeL [.ptr 0 0,.imm (i64 1)] [.ptr 0 0,.imm (i64 1)]∧GSpec prog 42 [(92,.agg [.imm (slE 1 u8 l)])] [] [.ptr 0 0,.imm (i64 1)] [(92,.agg [.imm (slE 1 u8 q6)])] [] (.imm (u64 (getV l 1)))) (.br (k76 q6 1) (.need (ALeL [.ptr 0 0,.imm (i64 1)] [.ptr 0 0,.imm (i64 1)]∧GSpec prog 42 [(92,.agg [.imm (slE 1 u8 q6)])] [] [.ptr 0 0,.imm (i64 1)] [(92,.agg [.imm q8])] [] (.imm (u64 q4))) (.need (ILeL [] []∧ASpec prog 34 [] (.map ksF dsF)) (.need (true=true∧(if IntKind.wrap IntKind.u8 q4=0 then(AVal.imm (formI 0),true)else if IntKind.wrap IntKind.u8 q4=1 then
 (AVal.imm (formI 1),true)else if IntKind.wrap IntKind.u8 q4=2 then(AVal.imm (formI 2),true)else if IntKind.wrap IntKind.u8 q4=8 then(AVal.imm (formI 8),true)else if IntKind.wrap IntKind.u8 q4=4 then(AVal.imm (formI 4),true)else if IntKind.wrap IntKind.u8 q4=6 then(AVal.imm (formI 6),true)else if IntKind.wrap IntKind.u8 q4=3 then(AVal.imm (formI 3),true)else if IntKind.wrap IntKind.u8 q4=7 then(AVal.imm (formI 7),true)else if IntKind.wrap IntKind.u8 q4=9 then(AVal.imm (formI 9),true)else if IntKind.wrap IntKind.u8 q4=10 then(AVal.imm (formI 10),true)else if
 IntKind.wrap IntKind.u8 q4=11 then(AVal.imm (formI 11),true)else(AVal.imm (IVal.agg [IVal.v Value.nilFunc,IVal.v Value.nilFunc,IVal.v Value.nilFunc,IVal.v Value.nilFunc,IVal.v Value.nilFunc]),false))=(.imm form11,true)) (.br false (.done Exit.ret (lret (.tup [.agg [u8 0,u8 0,u16 0,u32 0,bo false,u32 0,u8 0,u64 0,u64 0,i64 0,i64 0,u32 0,nS,u32 0,u8 0,u8 0,u8 0,u8 0,u8 0,u8 0,u8 0,u8 0,u8 0,u8 0,u8 0,u8 0,u8 0,u8 0,u8 0,u8 0,i64 0,u32 0,u32 0,u32 0,u16 0,nS,st .empty],bo false]))) (.br (k65 (List.drop 1 q6)) (.need (ALeL [.ptr 0 0,.ptr 1 0] [.ptr 0 0,.ptr 1 0]∧GSpec prog 65 [(85,.agg
 [.imm q9,.imm (u8 (IntKind.wrap IntKind.u8 q4)),.imm (u16 0),.imm (u32 0),.imm (bo false),.imm (u32 0),.imm (u8 0),.imm (u64 0),.imm (u64 0),.imm (i64 0),.imm (i64 0),.imm (u32 0),.imm nS,.imm (u32 0),.imm (u8 0),.imm (u8 0),.imm (u8 0),.imm (u8 0),.imm (u8 0),.imm (u8 0),.imm (u8 0),.imm (u8 0),.imm (u8 0),.imm (u8 0),.imm (u8 0),.imm (u8 0),.imm (u8 0),.imm (u8 0),.imm (u8 0),.imm (u8 0),.imm (i64 0),.imm (u32 0),.imm (u32 0),.imm (u32 0),.imm (u16 0),.imm nS,.imm (st .empty)]),(92,.agg [.imm q8])] [] [.ptr 0 0,.ptr 1 0] (two q2 q3) [] (.tup [])) (.br (k76 q3 4) (.need (ALeL [.ptr 0 0,.imm
 (i64 4)] [.ptr 0 0,.imm (i64 4)]∧GSpec prog 76 [(92,.agg [.imm (slE 1 u8 q3)])] [] [.ptr 0 0,.imm (i64 4)] [(92,.agg [.imm (slE 1 u8 q5)])] [] (.imm (slE 1 u8 (List.take 4 q3)))) (.br (k74 q5) (.need (ALeL [.ptr 0 0,.ptr 1 0] [.ptr 0 0,.ptr 1 0]∧GSpec prog 74 [(85,.agg [.imm (u8 q2.version),.imm (u8 q2.kind),.imm (u16 q2.session),.imm (u32 q2.serial),.imm (bo q2.add),.imm (u32 q2.origin.asn),.imm (u8 q2.origin.pfx.fam),.imm (u64 q2.origin.pfx.addr.hi),.imm (u64 q2.origin.pfx.addr.lo),.imm (i64 q2.origin.pfx.len),.imm (i64 q2.origin.max),.imm (u32 q2.path.cust),.imm nS,.imm (u32
 q2.key.asn),.imm (u8 0),.imm (u8 0),.imm (u8 0),.imm (u8 0),.imm (u8 0),.imm (u8 0),.imm (u8 0),.imm (u8 0),.imm (u8 0),.imm (u8 0),.imm (u8 0),.imm (u8 0),.imm (u8 0),.imm (u8 0),.imm (u8 0),.imm (u8 0),.imm (i64 q2.key.height),.imm (u32 q2.refresh),.imm (u32 q2.retry),.imm (u32 q2.expire),.imm (u16 q2.code),.imm nS,.imm (st q2.text)]),(92,.agg [.imm (slE 1 u8 q5)])] [] [.ptr 0 0,.ptr 1 0] [(85,mP q1 (.own 2 (pN q5))),(92,sR [])] [Entry.row 23 1 q7] (.tup [])) (.need (eqs [(pN q5,List.length q7)]) (.done Exit.ret (lret (.tup [.agg [u8 q1.version,u8 q1.kind,u16 q1.session,u32 q1.serial,bo
 q1.add,u32 q1.origin.asn,u8 q1.origin.pfx.fam,u64 q1.origin.pfx.addr.hi,u64 q1.origin.pfx.addr.lo,i64 q1.origin.pfx.len,i64 q1.origin.max,u32 q1.path.cust,.sl true false 1 q7,u32 q1.key.asn,u8 0,u8 0,u8 0,u8 0,u8 0,u8 0,u8 0,u8 0,u8 0,u8 0,u8 0,u8 0,u8 0,u8 0,u8 0,u8 0,i64 q1.key.height,u32 q1.refresh,u32 q1.retry,u32 q1.expire,u16 q1.code,nS,st q1.text],bo true]))))) (.need (ALeL [.ptr 0 0,.ptr 1 0] [.ptr 0 0,.ptr 1 0]∧PSpec prog 74 [(85,.agg [.imm (u8 q2.version),.imm (u8 q2.kind),.imm (u16 q2.session),.imm (u32 q2.serial),.imm (bo q2.add),.imm (u32 q2.origin.asn),.imm (u8
 q2.origin.pfx.fam),.imm (u64 q2.origin.pfx.addr.hi),.imm (u64 q2.origin.pfx.addr.lo),.imm (i64 q2.origin.pfx.len),.imm (i64 q2.origin.max),.imm (u32 q2.path.cust),.imm nS,.imm (u32 q2.key.asn),.imm (u8 0),.imm (u8 0),.imm (u8 0),.imm (u8 0),.imm (u8 0),.imm (u8 0),.imm (u8 0),.imm (u8 0),.imm (u8 0),.imm (u8 0),.imm (u8 0),.imm (u8 0),.imm (u8 0),.imm (u8 0),.imm (u8 0),.imm (u8 0),.imm (i64 q2.key.height),.imm (u32 q2.refresh),.imm (u32 q2.retry),.imm (u32 q2.expire),.imm (u16 q2.code),.imm nS,.imm (st q2.text)]),(92,.agg [.imm (slE 1 u8 q5)])] [] [.ptr 0 0,.ptr 1 0] errE) (.need (errE=errE
 ∧[(42,AVal.imm z42),(4,AVal.imm (bo false))]=[(42,AVal.imm (IVal.agg [u8 0,u8 0,u16 0,u32 0,bo false,u32 0,u8 0,u64 0,u64 0,i64 0,i64 0,u32 0,nS,u32 0,u8 0,u8 0,u8 0,u8 0,u8 0,u8 0,u8 0,u8 0,u8 0,u8 0,u8 0,u8 0,u8 0,u8 0,u8 0,u8 0,i64 0,u32 0,u32 0,u32 0,u16 0,nS,st .empty])),(4,AVal.imm (bo false))]∧ls 0=ls 0∧ls 1=ls 1∧True) (.done Exit.ret (lret (.tup [.agg [u8 0,u8 0,u16 0,u32 0,bo false,u32 0,u8 0,u64 0,u64 0,i64 0,i64 0,u32 0,nS,u32 0,u8 0,u8 0,u8 0,u8 0,u8 0,u8 0,u8 0,u8 0,u8 0,u8 0,u8 0,u8 0,u8 0,u8 0,u8 0,u8 0,i64 0,u32 0,u32 0,u32 0,u16 0,nS,st .empty],bo false])))))))
 (.need (ALeL [.ptr 0 0,.imm (i64 4)] [.ptr 0 0,.imm (i64 4)]∧PSpec prog 76 [(92,.agg [.imm (slE 1 u8 q3)])] [] [.ptr 0 0,.imm (i64 4)] errE) (.need (errE=errE∧[(42,AVal.imm z42),(4,AVal.imm (bo false))]=[(42,AVal.imm (IVal.agg [u8 0,u8 0,u16 0,u32 0,bo false,u32 0,u8 0,u64 0,u64 0,i64 0,i64 0,u32 0,nS,u32 0,u8 0,u8 0,u8 0,u8 0,u8 0,u8 0,u8 0,u8 0,u8 0,u8 0,u8 0,u8 0,u8 0,u8 0,u8 0,u8 0,i64 0,u32 0,u32 0,u32 0,u16 0,nS,st .empty])),(4,AVal.imm (bo false))]∧ls 0=ls 0∧ls 1=ls 1∧True) (.done Exit.ret (lret (.tup [.agg [u8 0,u8 0,u16 0,u32 0,bo false,u32 0,u8 0,u64 0,u64 0,i64
 0,i64 0,u32 0,nS,u32 0,u8 0,u8 0,u8 0,u8 0,u8 0,u8 0,u8 0,u8 0,u8 0,u8 0,u8 0,u8 0,u8 0,u8 0,u8 0,u8 0,i64 0,u32 0,u32 0,u32 0,u16 0,nS,st .empty],bo false]))))))) (.need (ALeL [.ptr 0 0,.ptr 1 0] [.ptr 0 0,.ptr 1 0]∧PSpec prog 65 [(85,.agg [.imm q9,.imm (u8 (IntKind.wrap IntKind.u8 q4)),.imm (u16 0),.imm (u32 0),.imm (bo false),.imm (u32 0),.imm (u8 0),.imm (u64 0),.imm (u64 0),.imm (i64 0),.imm (i64 0),.imm (u32 0),.imm nS,.imm (u32 0),.imm (u8 0),.imm (u8 0),.imm (u8 0),.imm (u8 0),.imm (u8 0),.imm (u8 0),.imm (u8 0),.imm (u8 0),.imm (u8 0),.imm (u8 0),.imm (u8 0),.imm (u8 0),.imm (u8
 0),.imm (u8 0),.imm (u8 0),.imm (u8 0),.imm (i64 0),.imm (u32 0),.imm (u32 0),.imm (u32 0),.imm (u16 0),.imm nS,.imm (st .empty)]),(92,.agg [.imm q8])] [] [.ptr 0 0,.ptr 1 0] errE) (.need (errE=errE∧[(42,AVal.imm z42),(4,AVal.imm (bo false))]=[(42,AVal.imm (IVal.agg [u8 0,u8 0,u16 0,u32 0,bo false,u32 0,u8 0,u64 0,u64 0,i64 0,i64 0,u32 0,nS,u32 0,u8 0,u8 0,u8 0,u8 0,u8 0,u8 0,u8 0,u8 0,u8 0,u8 0,u8 0,u8 0,u8 0,u8 0,u8 0,u8 0,i64 0,u32 0,u32 0,u32 0,u16 0,nS,st .empty])),(4,AVal.imm (bo false))]∧ls 0=ls 0∧ls 1=ls 1∧True) (.done Exit.ret (lret (.tup [.agg [u8 0,u8 0,u16 0,u32 0,bo
 false,u32 0,u8 0,u64 0,u64 0,i64 0,i64 0,u32 0,nS,u32 0,u8 0,u8 0,u8 0,u8 0,u8 0,u8 0,u8 0,u8 0,u8 0,u8 0,u8 0,u8 0,u8 0,u8 0,u8 0,u8 0,i64 0,u32 0,u32 0,u32 0,u16 0,nS,st .empty],bo false])))))))))) (.need (ALeL [.ptr 0 0,.imm (i64 1)] [.ptr 0 0,.imm (i64 1)]∧PSpec prog 42 [(92,.agg [.imm (slE 1 u8 q6)])] [] [.ptr 0 0,.imm (i64 1)] errE) (.need (errE=errE∧[(42,AVal.imm z42),(4,AVal.imm (bo false))]=[(42,AVal.imm (IVal.agg [u8 0,u8 0,u16 0,u32 0,bo false,u32 0,u8 0,u64 0,u64 0,i64 0,i64 0,u32 0,nS,u32 0,u8 0,u8 0,u8 0,u8 0,u8 0,u8 0,u8 0,u8 0,u8 0,u8 0,u8 0,u8 0,u8 0,u8 0,u8 0,u8 0,i64
 0,u32 0,u32 0,u32 0,u16 0,nS,st .empty])),(4,AVal.imm (bo false))]∧ls 0=ls 0∧ls 1=ls 1∧True) (.done Exit.ret (lret (.tup [.agg [u8 0,u8 0,u16 0,u32 0,bo false,u32 0,u8 0,u64 0,u64 0,i64 0,i64 0,u32 0,nS,u32 0,u8 0,u8 0,u8 0,u8 0,u8 0,u8 0,u8 0,u8 0,u8 0,u8 0,u8 0,u8 0,u8 0,u8 0,u8 0,u8 0,i64 0,u32 0,u32 0,u32 0,u16 0,nS,st .empty],bo false]))))))) (.need (ALeL [.ptr 0 0,.imm (i64 1)] [.ptr 0 0,.imm (i64 1)]∧PSpec prog 42 [(92,.agg [.imm (slE 1 u8 l)])] [] [.ptr 0 0,.imm (i64 1)] errE) (.need (errE=errE∧[(42,AVal.imm z42),(4,AVal.imm (bo false))]=[(42,AVal.imm (IVal.agg [u8
 0,u8 0,u16 0,u32 0,bo false,u32 0,u8 0,u64 0,u64 0,i64 0,i64 0,u32 0,nS,u32 0,u8 0,u8 0,u8 0,u8 0,u8 0,u8 0,u8 0,u8 0,u8 0,u8 0,u8 0,u8 0,u8 0,u8 0,u8 0,u8 0,i64 0,u32 0,u32 0,u32 0,u16 0,nS,st .empty])),(4,AVal.imm (bo false))]∧ls 0=ls 0∧ls 1=ls 1∧True) (.done Exit.ret (lret (.tup [.agg [u8 0,u8 0,u16 0,u32 0,bo false,u32 0,u8 0,u64 0,u64 0,i64 0,i64 0,u32 0,nS,u32 0,u8 0,u8 0,u8 0,u8 0,u8 0,u8 0,u8 0,u8 0,u8 0,u8 0,u8 0,u8 0,u8 0,u8 0,u8 0,u8 0,i64 0,u32 0,u32 0,u32 0,u16 0,nS,st .empty],bo false])))))):=by kernel_rfl
end Gp
namespace Gp
def d2 (l:List Int):List Int:=(l.drop 1).drop 1
def d8 (l:List Int):List Int:=((d2 l).drop 2).drop 4
theorem d2_eq (l:List Int):d2 l=l.drop 2:=by simp[d2]
theorem d8_eq (l:List Int):d8 l=l.drop 8:=by simp[d8,d2]
theorem d2_len (l:List Int):(d2 l).length=l.length-2:=by simp[d2_eq]
theorem d8_len (l:List Int):(d8 l).length=l.length-8:=by simp[d8_eq]
def kR1 (l:List Int):Int:=gu8 (l.drop 1)
def p1 (l:List Int):Pdu:=z1 (gu8 l) (kR1 l) (sF (kR1 l) (d2 l)) (aF (kR1 l) (d2 l)) (cF (kR1 l) (d2 l))
def rdS (l:List Int):Pdu:=tS (p1 l) (d8 l)
theorem tS_nil (p:Pdu)(l:List Int)(h1:p.path.provs=[])(h2:p.copy=[]):(tS p l).path.provs=[]∧(tS p l).copy=[]:=by
 unfold tS
 split
 ·exact⟨h1,h2⟩
 split
 ·unfold Pdu.withE;split<;>exact⟨h1,h2⟩
 split
 ·exact⟨h1,h2⟩
 ·exact⟨h1,h2⟩
def lookC (k:Int):AVal×Bool:=if k=0 then(AVal.imm (formI 0),true)else if k=1 then(AVal.imm (formI 1),true)else if k=2 then(AVal.imm (formI 2),true)else if k=8 then(AVal.imm (formI 8),true)else if k=4 then(AVal.imm (formI 4),true)else if k=6 then(AVal.imm (formI 6),true)else if k=3 then(AVal.imm (formI 3),true)else if k=7 then(AVal.imm (formI 7),true)else if k=9 then(AVal.imm (formI 9),true)else if k=10 then(AVal.imm (formI 10),true)else if k=11 then(AVal.imm (formI 11),true)else(.imm (.agg [.v .nilFunc,.v .nilFunc,.v .nilFunc,.v .nilFunc,.v .nilFunc]),false)
theorem look_n {k:Int}(h:¬isK k):lookC k=(.imm (.agg [.v .nilFunc,.v .nilFunc,.v .nilFunc,.v .nilFunc,.v .nilFunc]),false):=by
 unfold isK at h
 simp only[not_or]at h
 unfold lookC
 simp[h]
theorem look_y {k:Int}(h:isK k):lookC k=(.imm (formI k),true):=by
 unfold isK at h
 rcases h with rfl|rfl|rfl|rfl|rfl|rfl|rfl|rfl|rfl|rfl|rfl<;>rfl
theorem look_9 {k:Int}(h:k=9):lookC k=(.imm form9,true):=by subst h;rfl
theorem look_10 {k:Int}(h:k=10):lookC k=(.imm form10,true):=by subst h;rfl
theorem look_11 {k:Int}(h:k=11):lookC k=(.imm form11,true):=by subst h;rfl
def rdK (l:List Int):Pdu:=zK (gu8 l) (kR1 l) 0 (decide (getV (d2 l) 1=1)) 0 (kR (d8 l))
def rdE (l:List Int):Pdu:={zT (gu8 l) (kR1 l) 0 false (gu16 (d2 l)) (bstr (fText (d8 l)))with copy:=fCopy (d8 l)}
def rdP (l:List Int):Pdu:={zP (gu8 l) (kR1 l) 0 (decide (getV (d2 l) 1=1)) 0 (gu32 (d8 l))with path:=⟨gu32 (d8 l),pvR ((d8 l).drop 4) (pN (d8 l))⟩}
theorem isS_K {k:Int}(h:isS k):isK k:=by unfold isS at h;unfold isK;omega
theorem ile_pdu (p:Pdu)(x y:IVal)(h1:ILe x (lu32 p.path.provs))(h2:ILe y (lu8 p.copy)):ILe (.agg [u8 p.version,u8 p.kind,u16 p.session,u32 p.serial,bo p.add,u32 p.origin.asn,u8 p.origin.pfx.fam,u64 p.origin.pfx.addr.hi,u64 p.origin.pfx.addr.lo,i64 p.origin.pfx.len,i64 p.origin.max,u32 p.path.cust,x,
 u32 p.key.asn,u8 p.key.root[0],u8 p.key.root[1],u8 p.key.root[2],u8 p.key.root[3],u8 p.key.root[4],u8 p.key.root[5],u8 p.key.root[6],u8 p.key.root[7],u8 p.key.root[8],u8 p.key.root[9],u8 p.key.root[10],u8 p.key.root[11],u8 p.key.root[12],u8 p.key.root[13],u8 p.key.root[14],u8 p.key.root[15],i64 p.key.height,u32 p.refresh,u32 p.retry,u32 p.expire,u16 p.code,y,st p.text]) (encD p):=
 .agg (.cons (.refl _) (.cons (.refl _) (.cons (.refl _) (.cons (.refl _) (.cons (.refl _) (.cons (.refl _) (.cons (.refl _) (.cons (.refl _) (.cons (.refl _) (.cons (.refl _) (.cons (.refl _) (.cons (.refl _) (.cons (h1) (.cons (.refl _) (.cons (.refl _) (.cons (.refl _) (.cons (.refl _) (.cons (.refl _) (.cons (.refl _) (.cons (.refl _) (.cons (.refl _) (.cons (.refl _) (.cons (.refl _) (.cons (.refl _) (.cons (.refl _) (.cons (.refl _) (.cons (.refl _) (.cons (.refl _) (.cons (.refl _) (.cons (.refl _) (.cons (.refl _) (.cons (.refl _) (.cons (.refl _) (.cons (.refl _) (.cons (.refl _) (.cons (h2) (.cons (.refl _) (.refl _))))))))))))))))))))))))))))))))))))))
theorem ile_n (p:Pdu)(h:p.path.provs=[]):ILe (.v (.slice none 0 0)) (lu32 p.path.provs):=by rw[h];exact .nil _ _ _
theorem ile_n' (p:Pdu)(h:p.copy=[]):ILe (.v (.slice none 0 0)) (lu8 p.copy):=by rw[h];exact .nil _ _ _
def zeroP :Pdu:=z1 0 0 0 false 0
def kTT (v k:Int)(l:List Int):Bool:=if k=9 then k66 l else if k=10 then k71 l else if k=11 then k74 l else kT v k l
def rdV (l:List Int):Pdu:=if kR1 l=9 then rdK l else if kR1 l=10 then rdE l else if kR1 l=11 then rdP l else rdS l
def rdR (l:List Int):Bool:=if kR1 l=9 then decide ((((d8 l).drop 21).length:Int)=0)else if kR1 l=10 then decide (((fRest (d8 l)).length:Int)=0)else if kR1 l=11 then true else decide ((((d8 l).drop (tN (gu8 l) (kR1 l))).length:Int)=0)
def rdOk (l:List Int):Bool:=decide (8≤l.length)&&decide (isK (kR1 l))&&kF (kR1 l) (d2 l)&&kTT (gu8 l) (kR1 l) (d8 l)
def rdF (l:List Int):Pdu×Bool:=if rdOk l=true then(rdV l,rdR l)else(zeroP,false)
theorem rdF_no {l:List Int}(h:rdOk l=false):rdF l=(zeroP,false):=by unfold rdF;rw[h];rfl
theorem rdF_yes {l:List Int}(h:rdOk l=true):rdF l=(rdV l,rdR l):=by unfold rdF;rw[h];rfl
theorem zleaf {l:List Int}(h:rdOk l=false):ILe (.tup [z42,bo false]) (.tup [encD (rdF l).1,bo (rdF l).2]):=by
 rw[rdF_no h]
 exact .tup (.cons (ile_pdu zeroP _ _ (ile_n _ rfl) (ile_n' _ rfl)) (.refl _))
theorem no_len {l:List Int}(h:¬8≤l.length):rdOk l=false:=by simp[rdOk,h]
theorem no_kind {l:List Int}(h:¬isK (kR1 l)):rdOk l=false:=by simp[rdOk,h]
theorem no_F {l:List Int}(h:kF (kR1 l) (d2 l)=false):rdOk l=false:=by simp[rdOk,h]
theorem no_T {l:List Int}(h:kTT (gu8 l) (kR1 l) (d8 l)=false):rdOk l=false:=by simp[rdOk,h]
theorem no_1 {l:List Int}(h:k76 l 1=false):rdOk l=false:=no_len fun h8=>k76_f h ⟨by omega,by omega⟩
theorem no_2 {l:List Int}(h:k76 (l.drop 1) 1=false):rdOk l=false:=no_len fun h8=>k76_f h ⟨by omega,by rw[List.length_drop];omega⟩
theorem no_4 {l:List Int}(h:k76 ((d2 l).drop 2) 4=false):rdOk l=false:=no_len fun h8=>k76_f h ⟨by omega,by rw[List.length_drop,d2_len];omega⟩
theorem len_4 {l:List Int}(h:k76 ((d2 l).drop 2) 4=true):8≤l.length:=by
 have:=(k76_t h).2
 rw[List.length_drop,d2_len]at this;omega
theorem kT_S {v k:Int}{l:List Int}(h:isS k):kTT v k l=kT v k l:=by
 unfold isS at h;unfold kTT
 rw[if_neg (by omega),if_neg (by omega),if_neg (by omega)]
theorem c35n (l:List Int)(hl:l.length≤100000)(hk:¬isK (kR1 l)):ASpec prog 35 [slE 1 u8 l] (.tup [encD (rdF l).1,bo (rdF l).2]):=by
 refine c35_of (fun ls=>T35n ls l) fun ls=>?_
 rw[t35n]
 have z:=zleaf (no_kind hk)
 refine⟨fun h1=>need_sat ⟨ALeL.refl _,g42 _ _ ?_ ?_ ?_⟩ ⟨fun h2=>need_sat ⟨ALeL.refl _,g42 _ _ ?_ ?_ ?_⟩ (need_sat ⟨ILeL.refl _,c34⟩ (need_sat ?_ ⟨fun _=>⟨_,rfl,?_⟩,fun h=>(by cases h)⟩)),fun h2=>need_sat ⟨ALeL.refl _,p42 _ _ ?_⟩ (need_sat ?_ ⟨_,rfl,?_⟩)⟩,fun h1=>need_sat ⟨ALeL.refl _,p42 _ _ ?_⟩ (need_sat ?_ ⟨_,rfl,?_⟩)⟩
 all_goals try first
  |exact z
  |exact⟨rfl,rfl,rfl,rfl,trivial⟩
  |exact(k76_t ‹_›).2
  |assumption
  |omega
 ·exact⟨rfl,look_n hk⟩
theorem c35s (l:List Int)(hl:l.length≤100000)(hk:isS (kR1 l)):ASpec prog 35 [slE 1 u8 l] (.tup [encD (rdF l).1,bo (rdF l).2]):=by
 refine c35_of (fun ls=>T35s ls l) fun ls=>?_
 rw[t35s]
 refine⟨fun h1=>need_sat ⟨ALeL.refl _,g42 _ _ ?_ ?_ ?_⟩ ⟨fun h2=>need_sat ⟨ALeL.refl _,g42 _ _ ?_ ?_ ?_⟩ (need_sat ⟨ILeL.refl _,c34⟩ (need_sat ?_ ⟨fun h=>(by cases h),fun _=>⟨fun h3=>need_sat ⟨ALeL.refl _,gfirstN _ _ _ ?_ ?_⟩ ⟨fun h4=>need_sat ⟨ALeL.refl _,g76 _ _ ?_ ?_⟩ ⟨fun h5=>need_sat ⟨ALeL.refl _,gthenN _ _ _ _ _ _ ?_ ?_ ?_⟩ ⟨_,rfl,?_⟩,fun h5=>need_sat ⟨ALeL.refl _,pthenN _ _ _ _ _ _ ?_ ?_⟩ (need_sat ?_ ⟨_,rfl,?_⟩)⟩,fun h4=>need_sat ⟨ALeL.refl _,p76 _ _ ?_⟩ (need_sat ?_ ⟨_,rfl,?_⟩)⟩,fun h3=>need_sat ⟨ALeL.refl _,pfirstN _ _ _ ?_ ?_⟩ (need_sat ?_ ⟨_,rfl,?_⟩)⟩⟩)),fun h2=>need_sat ⟨ALeL.refl _,p42 _ _ ?_⟩ (need_sat ?_ ⟨_,rfl,?_⟩)⟩,fun h1=>need_sat ⟨ALeL.refl _,p42 _ _ ?_⟩ (need_sat ?_ ⟨_,rfl,?_⟩)⟩
 all_goals try first
  |exact⟨rfl,look_y (isS_K hk)⟩
  |exact⟨rfl,rfl,rfl,rfl,trivial⟩
  |exact isS_K hk
  |exact hk
  |exact kF_t h3
  |exact(kT_t h5).1
  |exact(kT_t h5).2
  |exact(k76_t h1).2
  |exact(k76_t h2).2
  |exact(k76_t h4).2
  |exact zleaf (no_1 h1)
  |exact zleaf (no_2 h2)
  |exact zleaf (no_F h3)
  |exact zleaf (no_4 h4)
  |exact zleaf (no_T ((kT_S hk).trans h5))
  |assumption
  |omega
 ·have hok:rdOk l=true:=by
   have e3:kF (kR1 l) (d2 l)=true:=h3
   have e5:kTT (gu8 l) (kR1 l) (d8 l)=true:=(kT_S hk).trans h5
   simp only[rdOk,e3,e5,len_4 h4,isS_K hk,decide_true,Bool.and_self]
  have ev:rdV l=rdS l:=by unfold isS at hk;unfold rdV;rw[if_neg (by omega),if_neg (by omega),if_neg (by omega)]
  have er:rdR l=decide ((((d8 l).drop (tN (gu8 l) (kR1 l))).length:Int)=0):=by unfold isS at hk;unfold rdR;rw[if_neg (by omega),if_neg (by omega),if_neg (by omega)]
  rw[rdF_yes hok,ev,er]
  obtain⟨e1,e2⟩:=tS_nil (p1 l) (d8 l) rfl rfl
  refine .tup (.cons (ile_pdu (rdS l) _ _ (ile_n _ e1) (ile_n' _ e2)) (.cons (ile_eq ?_) (.refl _)))
  rw[List.length_map];rfl
theorem c35k (l:List Int)(hl:l.length≤100000)(hk:kR1 l=9):ASpec prog 35 [slE 1 u8 l] (.tup [encD (rdF l).1,bo (rdF l).2]):=by
 have hK:isK (kR1 l):=by unfold isK;omega
 have h8l:=d8_len l
 have eT:kTT (gu8 l) (kR1 l) (d8 l)=k66 (d8 l):=by unfold kTT;simp only[hk];rfl
 have eF:kF (kR1 l) (d2 l)=k65 (d2 l):=by unfold kF;simp only[hk];rfl
 refine c35_of (fun ls=>T35k ls l) fun ls=>?_
 rw[t35k]
 refine⟨fun h1=>need_sat ⟨ALeL.refl _,g42 _ _ ?_ ?_ ?_⟩ ⟨fun h2=>need_sat ⟨ALeL.refl _,g42 _ _ ?_ ?_ ?_⟩ (need_sat ⟨ILeL.refl _,c34⟩ (need_sat ?_ ⟨fun h=>(by cases h),fun _=>⟨fun h3=>need_sat ⟨ALeL.refl _,g65 _ _ _ _ _ _ ?_ ?_ ?_⟩ ⟨fun h4=>need_sat ⟨ALeL.refl _,g76 _ _ ?_ ?_⟩ ⟨fun h5=>need_sat ⟨ALeL.refl _,g66 _ _ _ _ _ _ ?_⟩ ⟨_,rfl,?_⟩,fun h5=>need_sat ⟨ALeL.refl _,p66 _ _ _ _ _ _ ?_⟩ (need_sat ?_ ⟨_,rfl,?_⟩)⟩,fun h4=>need_sat ⟨ALeL.refl _,p76 _ _ ?_⟩ (need_sat ?_ ⟨_,rfl,?_⟩)⟩,fun h3=>need_sat ⟨ALeL.refl _,p65 _ _ _ _ _ _ ?_⟩ (need_sat ?_ ⟨_,rfl,?_⟩)⟩⟩)),fun h2=>need_sat ⟨ALeL.refl _,p42 _ _ ?_⟩ (need_sat ?_ ⟨_,rfl,?_⟩)⟩,fun h1=>need_sat ⟨ALeL.refl _,p42 _ _ ?_⟩ (need_sat ?_ ⟨_,rfl,?_⟩)⟩
 all_goals try first
  |exact⟨rfl,look_9 hk⟩
  |exact⟨rfl,rfl,rfl,rfl,trivial⟩
  |exact(k76_t h1).2
  |exact(k76_t h2).2
  |exact(k76_t h4).2
  |exact zleaf (no_1 h1)
  |exact zleaf (no_2 h2)
  |exact zleaf (no_F (eF.trans h3))
  |exact zleaf (no_4 h4)
  |exact zleaf (no_T (eT.trans h5))
  |exact k66_t h5
  |exact(k65_t h3).1
  |exact(k65_t h3).2.1
  |exact(k65_t h3).2.2
  |assumption
  |omega
 ·have hok:rdOk l=true:=by
   have e3:kF (kR1 l) (d2 l)=true:=eF.trans h3
   have e5:kTT (gu8 l) (kR1 l) (d8 l)=true:=eT.trans h5
   simp only[rdOk,e3,e5,len_4 h4,hK,decide_true,Bool.and_self]
  have ev:rdV l=rdK l:=by unfold rdV;simp only[hk];rfl
  have er:rdR l=decide ((((d8 l).drop 21).length:Int)=0):=by unfold rdR;simp only[hk];rfl
  rw[rdF_yes hok,ev,er]
  refine .tup (.cons (ile_pdu (rdK l) _ _ (ile_n _ rfl) (ile_n' _ rfl)) (.cons (ile_eq ?_) (.refl _)))
  rw[List.length_map];rfl
theorem c35e (l:List Int)(hl:l.length≤100000)(hk:kR1 l=10):ASpec prog 35 [slE 1 u8 l] (.tup [encD (rdF l).1,bo (rdF l).2]):=by
 have hK:isK (kR1 l):=by unfold isK;omega
 have h8l:=d8_len l
 have eT:kTT (gu8 l) (kR1 l) (d8 l)=k71 (d8 l):=by unfold kTT;simp only[hk];rfl
 have eF:kF (kR1 l) (d2 l)=k50 (d2 l):=by unfold kF;simp only[hk];rfl
 refine c35_of (fun ls=>T35e ls l) fun ls=>?_
 rw[t35e]
 refine⟨fun h1=>need_sat ⟨ALeL.refl _,g42 _ _ ?_ ?_ ?_⟩ ⟨fun h2=>need_sat ⟨ALeL.refl _,g42 _ _ ?_ ?_ ?_⟩ (need_sat ⟨ILeL.refl _,c34⟩ (need_sat ?_ ⟨fun h=>(by cases h),fun _=>⟨fun h3=>need_sat ⟨ALeL.refl _,g70 _ _ _ _ _ _ ?_⟩ ⟨fun h4=>need_sat ⟨ALeL.refl _,g76 _ _ ?_ ?_⟩ ⟨fun h5=>need_sat ⟨ALeL.refl _,g71 _ _ _ _ _ _ ?_ ?_ ?_ ?_ ?_ ?_ ?_⟩ ⟨_,rfl,?_⟩,fun h5=>need_sat ⟨ALeL.refl _,p71 _ _ _ _ _ _ ?_ ?_⟩ (need_sat ?_ ⟨_,rfl,?_⟩)⟩,fun h4=>need_sat ⟨ALeL.refl _,p76 _ _ ?_⟩ (need_sat ?_ ⟨_,rfl,?_⟩)⟩,fun h3=>need_sat ⟨ALeL.refl _,p70 _ _ _ _ _ _ ?_⟩ (need_sat ?_ ⟨_,rfl,?_⟩)⟩⟩)),fun h2=>need_sat ⟨ALeL.refl _,p42 _ _ ?_⟩ (need_sat ?_ ⟨_,rfl,?_⟩)⟩,fun h1=>need_sat ⟨ALeL.refl _,p42 _ _ ?_⟩ (need_sat ?_ ⟨_,rfl,?_⟩)⟩
 all_goals try first
  |exact⟨rfl,look_10 hk⟩
  |exact⟨rfl,rfl,rfl,rfl,trivial⟩
  |exact(k76_t h1).2
  |exact(k76_t h2).2
  |exact(k76_t h4).2
  |exact zleaf (no_1 h1)
  |exact zleaf (no_2 h2)
  |exact zleaf (no_F (eF.trans h3))
  |exact zleaf (no_4 h4)
  |exact zleaf (no_T (eT.trans h5))
  |exact k50_t h3
  |exact(k71_t h5).1
  |exact(k71_t h5).2.1
  |exact(k71_t h5).2.2.1
  |exact(k71_t h5).2.2.2.1
  |exact(k71_t h5).2.2.2.2.1
  |exact(k71_t h5).2.2.2.2.2
  |(show (d8 l).length≤100000;omega)
  |assumption
  |omega
 ·have hok:rdOk l=true:=by
   have e3:kF (kR1 l) (d2 l)=true:=eF.trans h3
   have e5:kTT (gu8 l) (kR1 l) (d8 l)=true:=eT.trans h5
   simp only[rdOk,e3,e5,len_4 h4,hK,decide_true,Bool.and_self]
  have ev:rdV l=rdE l:=by unfold rdV;simp only[hk];rfl
  have er:rdR l=decide (((fRest (d8 l)).length:Int)=0):=by unfold rdR;simp only[hk];rfl
  rw[rdF_yes hok,ev,er]
  refine .tup (.cons (ile_pdu (rdE l) _ _ (ile_n _ rfl) (.sl (by simp) (by simp) (.refl _))) (.cons (ile_eq ?_) (.refl _)))
  rw[List.length_map];rfl
theorem c35p (l:List Int)(hl:l.length≤100000)(hk:kR1 l=11):ASpec prog 35 [slE 1 u8 l] (.tup [encD (rdF l).1,bo (rdF l).2]):=by
 have hK:isK (kR1 l):=by unfold isK;omega
 have h8l:=d8_len l
 have eT:kTT (gu8 l) (kR1 l) (d8 l)=k74 (d8 l):=by unfold kTT;simp only[hk];rfl
 have eF:kF (kR1 l) (d2 l)=k65 (d2 l):=by unfold kF;simp only[hk];rfl
 refine c35_of (fun ls=>T35p ls l) fun ls=>?_
 rw[t35p]
 refine⟨fun h1=>need_sat ⟨ALeL.refl _,g42 _ _ ?_ ?_ ?_⟩ ⟨fun h2=>need_sat ⟨ALeL.refl _,g42 _ _ ?_ ?_ ?_⟩ (need_sat ⟨ILeL.refl _,c34⟩ (need_sat ?_ ⟨fun h=>(by cases h),fun _=>⟨fun h3=>need_sat ⟨ALeL.refl _,g65 _ _ _ _ _ _ ?_ ?_ ?_⟩ ⟨fun h4=>need_sat ⟨ALeL.refl _,g76 _ _ ?_ ?_⟩ ⟨fun h5=>need_sat ⟨ALeL.refl _,g74 _ _ _ _ _ _ ?_ ?_⟩ (need_sat ?_ ⟨_,rfl,?_⟩),fun h5=>need_sat ⟨ALeL.refl _,p74 _ _ _ _ _ _ ?_ ?_⟩ (need_sat ?_ ⟨_,rfl,?_⟩)⟩,fun h4=>need_sat ⟨ALeL.refl _,p76 _ _ ?_⟩ (need_sat ?_ ⟨_,rfl,?_⟩)⟩,fun h3=>need_sat ⟨ALeL.refl _,p65 _ _ _ _ _ _ ?_⟩ (need_sat ?_ ⟨_,rfl,?_⟩)⟩⟩)),fun h2=>need_sat ⟨ALeL.refl _,p42 _ _ ?_⟩ (need_sat ?_ ⟨_,rfl,?_⟩)⟩,fun h1=>need_sat ⟨ALeL.refl _,p42 _ _ ?_⟩ (need_sat ?_ ⟨_,rfl,?_⟩)⟩
 all_goals try first
  |exact⟨rfl,look_11 hk⟩
  |exact⟨rfl,rfl,rfl,rfl,trivial⟩
  |exact(k76_t h1).2
  |exact(k76_t h2).2
  |exact(k76_t h4).2
  |exact zleaf (no_1 h1)
  |exact zleaf (no_2 h2)
  |exact zleaf (no_F (eF.trans h3))
  |exact zleaf (no_4 h4)
  |exact zleaf (no_T (eT.trans h5))
  |exact k74_t h5
  |exact(k65_t h3).1
  |exact(k65_t h3).2.1
  |exact(k65_t h3).2.2
  |(show (d8 l).length≤100000;omega)
  |(show pN (d8 l)≤100000;unfold pN;omega)
  |exact⟨by rw[List.length_map,pvR_len],trivial⟩
  |assumption
  |omega
 ·have hok:rdOk l=true:=by
   have e3:kF (kR1 l) (d2 l)=true:=eF.trans h3
   have e5:kTT (gu8 l) (kR1 l) (d8 l)=true:=eT.trans h5
   simp only[rdOk,e3,e5,len_4 h4,hK,decide_true,Bool.and_self]
  have ev:rdV l=rdP l:=by unfold rdV;simp only[hk];rfl
  have er:rdR l=true:=by unfold rdR;simp only[hk];rfl
  rw[rdF_yes hok,ev,er]
  exact .tup (.cons (ile_pdu (rdP l) _ _ (.sl (by simp) (by simp) (.refl _)) (ile_n' _ rfl)) (.refl _))
theorem c35 (l:List Int)(hl:l.length≤100000):ASpec prog 35 [slE 1 u8 l] (.tup [encD (rdF l).1,bo (rdF l).2]):=by
 by_cases hk:isK (kR1 l)
 ·by_cases h9:kR1 l=9
  ·exact c35k l hl h9
  by_cases h10:kR1 l=10
  ·exact c35e l hl h10
  by_cases h11:kR1 l=11
  ·exact c35p l hl h11
  exact c35s l hl (by unfold isK at hk;unfold isS;omega)
 ·exact c35n l hl hk
end Gp
namespace Gp
def ck56 (p:Pdu):Bool:=if p.kind=6 then decide (ckP p.origin.pfx=0)&&decide (p.origin.pfx.fam=6)&&decide (p.origin.pfx.len≤p.origin.max)&&decide (p.origin.max≤128)else decide (ckP p.origin.pfx=0)&&decide (p.origin.pfx.fam=4)&&decide (p.origin.pfx.len≤p.origin.max)&&decide (p.origin.max≤32)
def ck59 (p:Pdu):Bool:=decide (p.version=0)||(decide (1≤p.refresh)&&decide (1≤p.retry)&&decide (p.expire≤1048576)&&decide (p.refresh≤p.expire)&&decide (p.retry≤p.expire))
def ck62 (p:Pdu):Bool:=decide (0<p.version)&&decide (0≤p.key.height)&&decide (p.key.height≤4)
def ck67 (p:Pdu):Bool:=decide (p.code≤8)
def ck72 (p:Pdu):Bool:=if p.add then decide (p.version=2)&&decide (ckPr p.path=0)else decide (p.version=2)&&decide (0<p.path.cust)&&decide (p.path.provs.length=0)
theorem c47 (p:Pdu):ASpec prog 47 [encD p] (bo true):=by
 refine ASpec.treeW Proofs.Try.f47 (T47 p) (by kernel_rfl) (by kernel_rfl) (t47 p) ?_
 refine⟨_,rfl,?_⟩
 exact .refl _
theorem c56 (p:Pdu):ASpec prog 56 [encD p] (bo (ck56 p)):=by
 refine ASpec.treeW Proofs.Try.f56 (T56 p) (by kernel_rfl) (by kernel_rfl) (t56 p) ?_
 refine⟨fun h1=>need_sat ⟨ILeL.refl _,c86 _⟩ ⟨fun h2=>⟨fun h3=>⟨fun h4=>⟨_,rfl,?_⟩,fun h4=>⟨_,rfl,?_⟩⟩,fun h3=>⟨_,rfl,?_⟩⟩,fun h2=>⟨_,rfl,?_⟩⟩,fun h1=>need_sat ⟨ILeL.refl _,c86 _⟩ ⟨fun h2=>⟨fun h3=>⟨fun h4=>⟨_,rfl,?_⟩,fun h4=>⟨_,rfl,?_⟩⟩,fun h3=>⟨_,rfl,?_⟩⟩,fun h2=>⟨_,rfl,?_⟩⟩⟩
 all_goals simp only[decide_eq_true_eq,decide_eq_false_iff_not]at*
 all_goals exact ile_bo (by simp[ck56, *])
theorem c59 (p:Pdu):ASpec prog 59 [encD p] (bo (ck59 p)):=by
 refine ASpec.treeW Proofs.Try.f59 (T59 p) (by kernel_rfl) (by kernel_rfl) (t59 p) ?_
 refine⟨fun h1=>⟨_,rfl,?_⟩,fun h1=>⟨fun h2=>⟨fun h3=>⟨_,rfl,?_⟩,fun h3=>⟨_,rfl,?_⟩⟩,fun h2=>⟨_,rfl,?_⟩⟩⟩
 all_goals simp only[decide_eq_true_eq,decide_eq_false_iff_not]at*
 all_goals exact ile_bo (by rw[Bool.eq_iff_iff];simp[ck59];grind)
theorem c62 (p:Pdu):ASpec prog 62 [encD p] (bo (ck62 p)):=by
 refine ASpec.treeW Proofs.Try.f62 (T62 p) (by kernel_rfl) (by kernel_rfl) (t62 p) ?_
 refine⟨fun h1=>⟨fun h2=>⟨_,rfl,?_⟩,fun h2=>⟨_,rfl,?_⟩⟩,fun h1=>⟨_,rfl,?_⟩⟩
 all_goals simp only[decide_eq_true_eq,decide_eq_false_iff_not]at*
 all_goals exact ile_bo (by simp[ck62, *])
theorem c67 (p:Pdu):ASpec prog 67 [encD p] (bo (ck67 p)):=by
 refine ASpec.treeW Proofs.Try.f67 (T67 p) (by kernel_rfl) (by kernel_rfl) (t67 p) ?_
 refine⟨_,rfl,?_⟩
 exact .refl _
theorem c72 (p:Pdu)(hp:p.path.provs.length≤100000):ASpec prog 72 [encD p] (bo (ck72 p)):=by
 refine ASpec.treeW Proofs.Try.f72 (T72 p) (by kernel_rfl) (by kernel_rfl) (t72 p) ?_
 refine⟨fun h1=>⟨fun h2=>⟨fun h3=>⟨_,rfl,?_⟩,fun h3=>⟨_,rfl,?_⟩⟩,fun h2=>⟨_,rfl,?_⟩⟩,fun h1=>⟨fun h2=>need_sat ⟨ILeL.refl _,c89 _⟩ ⟨_,rfl,?_⟩,fun h2=>⟨_,rfl,?_⟩⟩⟩
 all_goals try omega
 all_goals simp only[decide_eq_true_eq,decide_eq_false_iff_not,Bool.not_eq_true',Bool.not_eq_false']at*
 all_goals exact ile_bo (by simp[ck72, *])
def ckD (p:Pdu):Bool:=if p.kind=4∨p.kind=6 then ck56 p else if p.kind=7 then ck59 p else if p.kind=9 then ck62 p else if p.kind=10 then ck67 p else if p.kind=11 then ck72 p else true
theorem cchkN (p:Pdu)(hp:p.path.provs.length≤100000):ASpec prog (chkN p.kind) [encD p] (bo (ckD p)):=by
 unfold chkN ckD
 repeat' split
 ·exact c56 p
 ·exact c59 p
 ·exact c62 p
 ·exact c67 p
 ·exact c72 p hp
 ·exact c47 p
def T40 (a b:List Int):Tell:=
 Tell.mk (fun x x_1=>false) (fun x x_1=>Orc.no) (fun x=>Tree.fail 1000003 0) (fun x=>0) (fun x=>([],[])) (oget [(1,1,1,Orc.tos a),(1,1,3,Orc.tos b)]) fun x x_1=>Tree.fail 1000003 0
theorem t40 (a b:List Int):levF prog Proofs.Try.f40 [slE 1 u8 a,slE 1 u8 b] (T40 a b)=
 Tree.need (List.map u8 a=List.map (fun n=>u8 n) a) (.need (List.map u8 b=List.map (fun n=>u8 n) b) (.done Exit.ret (lret (bo (bstr a==bstr b))))):=by kernel_rfl
theorem c40 (a b:List Int):ASpec prog 40 [slE 1 u8 a,slE 1 u8 b] (bo (bstr a==bstr b)):=by
 refine ASpec.treeW Proofs.Try.f40 (T40 a b) (by kernel_rfl) (by kernel_rfl) (t40 a b) ?_
 refine need_sat ?_ (need_sat ?_ ⟨_,rfl,?_⟩)
 ·rfl
 ·rfl
 ·exact .refl _
def T16 (m n:Pdu):Tell:=
 Tell.mk (fun x x_1=>false) (fun x x_1=>Orc.no) (fun x=>Tree.fail 1000003 0) (fun x=>0) (fun x=>([],[])) (oget [(51,2,14,Orc.call [slE 1 u32 m.path.provs,slE 1 u32 n.path.provs] (bo (decide (m.path.provs=n.path.provs)))),(51,2,21,Orc.call [slE 1 u8 m.copy,slE 1 u8 n.copy] (bo (bstr m.copy==bstr n.copy)))]) fun x x_1=>Tree.fail 1000003 0
theorem t16 (m n:Pdu):levF prog Proofs.Try.f16 [encD m,encD n] (T16 m n)=
 (let q0:=decide (m.path.provs=n.path.provs);let q1:=decide (m.origin.pfx.fam=n.origin.pfx.fam)&&(decide (m.origin.pfx.addr.hi=n.origin.pfx.addr.hi)&&(decide (m.origin.pfx.addr.lo=n.origin.pfx.addr.lo)&&(decide (m.origin.pfx.len=n.origin.pfx.len)&&(decide (m.origin.max=n.origin.max)&&true))));let q2:=decide (m.key.height=n.key.height)&&true;let q3:=decide (m.path.cust=n.path.cust);
 Tree.br (decide (m.version=n.version)) (.br (decide (m.kind=n.kind)) (.br (decide (m.session=n.session)) (.br (decide (m.serial=n.serial)) (.br (m.add==n.add) (.br (if BinOp.eql=BinOp.neq then !(decide (m.origin.asn=n.origin.asn)&&q1)else decide (m.origin.asn=n.origin.asn)&&q1) (.br q3 (.need (ILeL [lu32 m.path.provs,lu32 n.path.provs] [slE 1 u32 m.path.provs,slE 1 u32 n.path.provs]∧ASpec prog 39 [slE 1 u32 m.path.provs,slE 1 u32 n.path.provs] (bo q0)) (.br q0 (.need (ILeL [lu8 m.copy,lu8 n.copy] [slE 1 u8 m.copy,slE 1 u8 n.copy]∧ASpec prog 40 [slE 1 u8 m.copy,slE 1 u8
 n.copy] (bo (bstr m.copy==bstr n.copy))) (.br (if BinOp.eql=BinOp.neq then !(decide (m.key.asn=n.key.asn)&&(decide (m.key.root[0]=n.key.root[0])&&(decide (m.key.root[1]=n.key.root[1])&&(decide (m.key.root[2]=n.key.root[2])&&(decide (m.key.root[3]=n.key.root[3])&&(decide (m.key.root[4]=n.key.root[4])&&(decide (m.key.root[5]=n.key.root[5])&&(decide (m.key.root[6]=n.key.root[6])&&(decide (m.key.root[7]=n.key.root[7])&&(decide (m.key.root[8]=n.key.root[8])&&(decide (m.key.root[9]=n.key.root[9])&&(decide (m.key.root[10]=n.key.root[10])&&(decide
 (m.key.root[11]=n.key.root[11])&&(decide (m.key.root[12]=n.key.root[12])&&(decide (m.key.root[13]=n.key.root[13])&&(decide (m.key.root[14]=n.key.root[14])&&(decide (m.key.root[15]=n.key.root[15])&&q2)))))))))))))))))else decide (m.key.asn=n.key.asn)&&(decide (m.key.root[0]=n.key.root[0])&&(decide (m.key.root[1]=n.key.root[1])&&(decide (m.key.root[2]=n.key.root[2])&&(decide (m.key.root[3]=n.key.root[3])&&(decide (m.key.root[4]=n.key.root[4])&&(decide (m.key.root[5]=n.key.root[5])&&(decide (m.key.root[6]=n.key.root[6])&&(decide (m.key.root[7]=
 n.key.root[7])&&(decide (m.key.root[8]=n.key.root[8])&&(decide (m.key.root[9]=n.key.root[9])&&(decide (m.key.root[10]=n.key.root[10])&&(decide (m.key.root[11]=n.key.root[11])&&(decide (m.key.root[12]=n.key.root[12])&&(decide (m.key.root[13]=n.key.root[13])&&(decide (m.key.root[14]=n.key.root[14])&&(decide (m.key.root[15]=n.key.root[15])&&q2))))))))))))))))) (.br (bstr m.copy==bstr n.copy) (.br (decide (m.refresh=n.refresh)) (.br (decide (m.retry=n.retry)) (.br (decide (m.expire=n.expire)) (.br (decide (m.code=n.code)) (.done Exit.ret (lret (bo (m.text
 ==n.text)))) (.done Exit.ret (lret (bo false)))) (.done Exit.ret (lret (bo false)))) (.done Exit.ret (lret (bo false)))) (.done Exit.ret (lret (bo false)))) (.done Exit.ret (lret (bo false)))) (.done Exit.ret (lret (bo false))))) (.br (if BinOp.eql=BinOp.neq then !(decide (m.key.asn=n.key.asn)&&(decide (m.key.root[0]=n.key.root[0])&&(decide (m.key.root[1]=n.key.root[1])&&(decide (m.key.root[2]=n.key.root[2])&&(decide (m.key.root[3]=n.key.root[3])&&(decide (m.key.root[4]=n.key.root[4])&&(decide (m.key.root[5]=n.key.root[5])&&(decide (m.key.root[6]=n.key.root[6])
 &&(decide (m.key.root[7]=n.key.root[7])&&(decide (m.key.root[8]=n.key.root[8])&&(decide (m.key.root[9]=n.key.root[9])&&(decide (m.key.root[10]=n.key.root[10])&&(decide (m.key.root[11]=n.key.root[11])&&(decide (m.key.root[12]=n.key.root[12])&&(decide (m.key.root[13]=n.key.root[13])&&(decide (m.key.root[14]=n.key.root[14])&&(decide (m.key.root[15]=n.key.root[15])&&q2)))))))))))))))))else decide (m.key.asn=n.key.asn)&&(decide (m.key.root[0]=n.key.root[0])&&(decide (m.key.root[1]=n.key.root[1])&&(decide (m.key.root[2]=n.key.root[2])&&(decide
 (m.key.root[3]=n.key.root[3])&&(decide (m.key.root[4]=n.key.root[4])&&(decide (m.key.root[5]=n.key.root[5])&&(decide (m.key.root[6]=n.key.root[6])&&(decide (m.key.root[7]=n.key.root[7])&&(decide (m.key.root[8]=n.key.root[8])&&(decide (m.key.root[9]=n.key.root[9])&&(decide (m.key.root[10]=n.key.root[10])&&(decide (m.key.root[11]=n.key.root[11])&&(decide (m.key.root[12]=n.key.root[12])&&(decide (m.key.root[13]=n.key.root[13])&&(decide (m.key.root[14]=n.key.root[14])&&(decide (m.key.root[15]=n.key.root[15])&&q2))))))))))))))))) (.done Exit.ret
 (lret (bo false))) (.done Exit.ret (lret (bo false)))))) (.br (if BinOp.eql=BinOp.neq then !(decide (m.key.asn=n.key.asn)&&(decide (m.key.root[0]=n.key.root[0])&&(decide (m.key.root[1]=n.key.root[1])&&(decide (m.key.root[2]=n.key.root[2])&&(decide (m.key.root[3]=n.key.root[3])&&(decide (m.key.root[4]=n.key.root[4])&&(decide (m.key.root[5]=n.key.root[5])&&(decide (m.key.root[6]=n.key.root[6])&&(decide (m.key.root[7]=n.key.root[7])&&(decide (m.key.root[8]=n.key.root[8])&&(decide (m.key.root[9]=n.key.root[9])&&(decide (m.key.root[10]=n.key.root[10])
 &&(decide (m.key.root[11]=n.key.root[11])&&(decide (m.key.root[12]=n.key.root[12])&&(decide (m.key.root[13]=n.key.root[13])&&(decide (m.key.root[14]=n.key.root[14])&&(decide (m.key.root[15]=n.key.root[15])&&q2)))))))))))))))))else decide (m.key.asn=n.key.asn)&&(decide (m.key.root[0]=n.key.root[0])&&(decide (m.key.root[1]=n.key.root[1])&&(decide (m.key.root[2]=n.key.root[2])&&(decide (m.key.root[3]=n.key.root[3])&&(decide (m.key.root[4]=n.key.root[4])&&(decide (m.key.root[5]=n.key.root[5])&&(decide (m.key.root[6]=n.key.root[6])&&(decide
 (m.key.root[7]=n.key.root[7])&&(decide (m.key.root[8]=n.key.root[8])&&(decide (m.key.root[9]=n.key.root[9])&&(decide (m.key.root[10]=n.key.root[10])&&(decide (m.key.root[11]=n.key.root[11])&&(decide (m.key.root[12]=n.key.root[12])&&(decide (m.key.root[13]=n.key.root[13])&&(decide (m.key.root[14]=n.key.root[14])&&(decide (m.key.root[15]=n.key.root[15])&&q2))))))))))))))))) (.done Exit.ret (lret (bo false))) (.done Exit.ret (lret (bo false))))) (.br q3 (.need (ILeL [lu32 m.path.provs,lu32 n.path.provs] [slE 1 u32 m.path.provs,slE 1 u32 n.path.provs]∧ASpec
 prog 39 [slE 1 u32 m.path.provs,slE 1 u32 n.path.provs] (bo q0)) (.br q0 (.need (ILeL [lu8 m.copy,lu8 n.copy] [slE 1 u8 m.copy,slE 1 u8 n.copy]∧ASpec prog 40 [slE 1 u8 m.copy,slE 1 u8 n.copy] (bo (bstr m.copy==bstr n.copy))) (.done Exit.ret (lret (bo false)))) (.done Exit.ret (lret (bo false))))) (.done Exit.ret (lret (bo false))))) (.br q3 (.need (ILeL [lu32 m.path.provs,lu32 n.path.provs] [slE 1 u32 m.path.provs,slE 1 u32 n.path.provs]∧ASpec prog 39 [slE 1 u32 m.path.provs,slE 1 u32 n.path.provs] (bo q0)) (.br q0 (.need (ILeL [lu8 m.copy,lu8 n.copy] [slE 1 u8 m.copy,slE 1 u8 n.copy]∧
 ASpec prog 40 [slE 1 u8 m.copy,slE 1 u8 n.copy] (bo (bstr m.copy==bstr n.copy))) (.done Exit.ret (lret (bo false)))) (.done Exit.ret (lret (bo false))))) (.done Exit.ret (lret (bo false))))) (.br q3 (.need (ILeL [lu32 m.path.provs,lu32 n.path.provs] [slE 1 u32 m.path.provs,slE 1 u32 n.path.provs]∧ASpec prog 39 [slE 1 u32 m.path.provs,slE 1 u32 n.path.provs] (bo q0)) (.br q0 (.need (ILeL [lu8 m.copy,lu8 n.copy] [slE 1 u8 m.copy,slE 1 u8 n.copy]∧ASpec prog 40 [slE 1 u8 m.copy,slE 1 u8 n.copy] (bo (bstr m.copy==bstr n.copy))) (.done Exit.ret (lret (bo false)))) (.done Exit.ret (lret (bo
 false))))) (.done Exit.ret (lret (bo false))))) (.br q3 (.need (ILeL [lu32 m.path.provs,lu32 n.path.provs] [slE 1 u32 m.path.provs,slE 1 u32 n.path.provs]∧ASpec prog 39 [slE 1 u32 m.path.provs,slE 1 u32 n.path.provs] (bo q0)) (.br q0 (.need (ILeL [lu8 m.copy,lu8 n.copy] [slE 1 u8 m.copy,slE 1 u8 n.copy]∧ASpec prog 40 [slE 1 u8 m.copy,slE 1 u8 n.copy] (bo (bstr m.copy==bstr n.copy))) (.done Exit.ret (lret (bo false)))) (.done Exit.ret (lret (bo false))))) (.done Exit.ret (lret (bo false))))) (.br q3 (.need (ILeL [lu32 m.path.provs,lu32 n.path.provs] [slE 1 u32 m.path.provs,slE 1 u32
 n.path.provs]∧ASpec prog 39 [slE 1 u32 m.path.provs,slE 1 u32 n.path.provs] (bo q0)) (.br q0 (.need (ILeL [lu8 m.copy,lu8 n.copy] [slE 1 u8 m.copy,slE 1 u8 n.copy]∧ASpec prog 40 [slE 1 u8 m.copy,slE 1 u8 n.copy] (bo (bstr m.copy==bstr n.copy))) (.done Exit.ret (lret (bo false)))) (.done Exit.ret (lret (bo false))))) (.done Exit.ret (lret (bo false))))) (.br q3 (.need (ILeL [lu32 m.path.provs,lu32 n.path.provs] [slE 1 u32 m.path.provs,slE 1 u32 n.path.provs]∧ASpec prog 39 [slE 1 u32 m.path.provs,slE 1 u32 n.path.provs] (bo q0)) (.br q0 (.need (ILeL [lu8 m.copy,lu8 n.copy] [slE 1 u8
 m.copy,slE 1 u8 n.copy]∧ASpec prog 40 [slE 1 u8 m.copy,slE 1 u8 n.copy] (bo (bstr m.copy==bstr n.copy))) (.done Exit.ret (lret (bo false)))) (.done Exit.ret (lret (bo false))))) (.done Exit.ret (lret (bo false))))):=by kernel_rfl
end Gp
namespace Gp
def P41 (l r:List Int)(i:Nat):Bool:=neI (l.getD i 0) (r.getD i 0)
def I41 (l r:List Int)(i:Nat):LState:={t:=[(5,.imm (i64 i)),(0,.imm (lu32 l)),(1,.imm (lu32 r))],s:=[],m:=26,n:=0}
def R41 (l r:List Int)(i:Nat):LState:={t:=[(4,.imm (bo false))],s:=[],m:=26,n:=0}
def E41 (l r:List Int):LState:={t:=[],s:=[],m:=26,n:=0}
def fin41 :Exit→Fin
 |.normal=>⟨[],[5,0,1],[]⟩
 |.ret=>⟨[],[4],[]⟩
 |_=>⟨[],[],[]⟩
def L41 (l r:List Int):Tree:=Lfirst (P41 l r) l.length 0 (R41 l r) (E41 l r)
def T41r (l r:List Int)(i:Nat):Tell:=
 Tell.mk (fun x x_1=>false) (fun x x_1=>Orc.no) (fun x=>Tree.fail 1000003 0) (fun x=>0) (fun x=>([],[])) (oget [(4,6,2,Orc.elem (u32 (List.getD l i default))),(4,6,6,Orc.elem (u32 (List.getD r i default)))]) fun x x_1=>Tree.fail 1000003 0
theorem t41r (l r:List Int)(i:Nat):levL prog Proofs.Try.f41 4 (I41 l r i) (T41r l r i) fin41=
 Tree.br (decide ((↑i:Int)<(↑(List.length (List.map u32 l)):Int))) (.need (0≤(↑i:Int)∧(List.map u32 l)[i]?=some (u32 (List.getD l i 0))) (.need (0≤(↑i:Int)∧(List.map u32 r)[i]?=some (u32 (List.getD r i 0))) (.br (!decide (List.getD l i 0=List.getD r i 0)) (.done Exit.ret (LState.mk [(4,.imm (bo false))] [] 26 14 [])) (.done Exit.normal (LState.mk [(5,.imm (i64 (IntKind.wrap IntKind.i64 ((↑i:Int)+1)))),(0,.imm (lu32 l)),(1,.imm (lu32 r))] [] 26 16 []))))) (.done (Exit.exit 0) (LState.mk [] [] 26 4 [])):=by kernel_rfl
def T41 (l r:List Int):Tell:=
 Tell.mk (fun x x_1=>false) (fun x x_1=>Orc.no) (fun x=>L41 l r) (fun x=>0) (fun x=>([5,0,1],[])) (fun x x_1 x_2=>Orc.no) fun x x_1=>L41 l r
theorem t41 (l r:List Int):levF prog Proofs.Try.f41 [lu32 l,lu32 r] (T41 l r)=
 Tree.br (!decide ((↑(List.length (List.map u32 l)):Int)=(↑(List.length (List.map u32 r)):Int))) (.done Exit.ret (lret (bo false))) (.loop 4 (LState.mk [(5,.imm (i64 0)),(0,.imm (lu32 l)),(1,.imm (lu32 r))] [] 26 7 []) (.br (anyI (P41 l r) 0 (List.length l)) (.done Exit.ret (R41 l r (firstI (P41 l r) 0 (List.length l)))) (.done (Exit.exit 0) (E41 l r))) (.br (anyI (P41 l r) 0 (List.length l)) (.done Exit.ret (lret (bo false))) (.done Exit.ret (lret (bo true))))):=by kernel_rfl
theorem l41 (l r:List Int)(hl:l.length≤2^62)(hlr:l.length=r.length)(σ:LState)(h:LSub σ (I41 l r 0)):LoopOk prog [] (bodyOf Proofs.Try.f41) 4 σ (L41 l r):=by
 refine LoopOk.first (P41 l r) l.length 0 (I41 l r) (R41 l r) (E41 l r) (T41r l r) fin41 (by kernel_rfl) h fun i hi hz=>?_
 rw[t41r]
 refine⟨fun h1=>need_sat (elem_need ?_) (need_sat (elem_need ?_) ⟨fun h2=>?_,fun h2=>?_⟩),fun h1=>?_⟩
 ·(refine⟨by omega,?_,?_⟩<;>(simp only[List.length_map,decide_eq_true_eq,decide_eq_false_iff_not,Int.toNat_natCast]at*<;>omega))
 ·(refine⟨by omega,?_,?_⟩<;>(simp only[List.length_map,decide_eq_true_eq,decide_eq_false_iff_not,Int.toNat_natCast]at*<;>omega))
 ·exact⟨by(simp only[List.length_map,decide_eq_true_eq,decide_eq_false_iff_not,Int.toNat_natCast]at*<;>omega),h2,by simp[R41,bo,LSub,tsub,ssub,tl,sl,linT,linS,ainB,ainBL]⟩
 ·exact⟨by(simp only[List.length_map,decide_eq_true_eq,decide_eq_false_iff_not,Int.toNat_natCast]at*<;>omega),h2,by simp[I41,i64,i64_small (n:=i) (by(simp only[List.length_map,decide_eq_true_eq,decide_eq_false_iff_not,Int.toNat_natCast]at*<;>omega)) hl,LSub,tsub,ssub,tl,sl,linT,linS,ainB,ainBL]⟩
 ·exact⟨rfl,by(simp only[List.length_map,decide_eq_true_eq,decide_eq_false_iff_not,Int.toNat_natCast]at*<;>omega),by simp[E41,LSub,tsub,ssub,tl,sl,linT,linS,ainB,ainBL]⟩
theorem c41 (l r:List Int)(hl:l.length≤2^62):ASpec prog 41 [lu32 l,lu32 r] (bo (decide (l=r))):=by
 have he:sameL neI 0 l r=decide (l=r):=by rw[Bool.eq_iff_iff,sameL_iff (fun a b=>by simp[neI])];simp
 rw[←he]
 refine ASpec.treeW Proofs.Try.f41 (T41 l r) (by kernel_rfl) (by kernel_rfl) (t41 l r) ?_
 refine⟨fun h1=>⟨_,rfl,?_⟩,fun h1=>⟨?_,⟨fun h2=>⟨_,rfl,?_⟩,fun h2=>⟨_,rfl,?_⟩⟩⟩⟩
 ·have:¬l.length=r.length:=by simp at h1;omega
  exact ile_bo (by simp[sameL,this])
 ·exact l41 l r hl (by simp at h1;omega) _ (by simp[I41,i64,LSub,tsub,ssub,tl,sl,linT,linS,ainB,ainBL])
 ·have:l.length=r.length:=by simp at h1;omega
  refine ile_bo ?_
  simp only[sameL,show diffAt neI 0 l r=P41 l r from rfl,h2];simp
 ·have:l.length=r.length:=by simp at h1;omega
  refine ile_bo ?_
  simp only[sameL,show diffAt neI 0 l r=P41 l r from rfl,h2];simp[this]
def P27 (l r:List Int)(i:Nat):Bool:=neI (l.getD i 0) (r.getD i 0)
def I27 (l r:List Int)(i:Nat):LState:={t:=[(5,.imm (i64 i)),(0,.imm (lu8 l)),(1,.imm (lu8 r))],s:=[],m:=26,n:=0}
def R27 (l r:List Int)(i:Nat):LState:={t:=[(4,.imm (bo false))],s:=[],m:=26,n:=0}
def E27 (l r:List Int):LState:={t:=[],s:=[],m:=26,n:=0}
def fin27 :Exit→Fin
 |.normal=>⟨[],[5,0,1],[]⟩
 |.ret=>⟨[],[4],[]⟩
 |_=>⟨[],[],[]⟩
def L27 (l r:List Int):Tree:=Lfirst (P27 l r) l.length 0 (R27 l r) (E27 l r)
def T27r (l r:List Int)(i:Nat):Tell:=
 Tell.mk (fun x x_1=>false) (fun x x_1=>Orc.no) (fun x=>Tree.fail 1000003 0) (fun x=>0) (fun x=>([],[])) (oget [(4,6,2,Orc.elem (u8 (List.getD l i default))),(4,6,6,Orc.elem (u8 (List.getD r i default)))]) fun x x_1=>Tree.fail 1000003 0
theorem t27r (l r:List Int)(i:Nat):levL prog Proofs.Try.f27 4 (I27 l r i) (T27r l r i) fin27=
 Tree.br (decide ((↑i:Int)<(↑(List.length (List.map u8 l)):Int))) (.need (0≤(↑i:Int)∧(List.map u8 l)[i]?=some (u8 (List.getD l i 0))) (.need (0≤(↑i:Int)∧(List.map u8 r)[i]?=some (u8 (List.getD r i 0))) (.br (!decide (List.getD l i 0=List.getD r i 0)) (.done Exit.ret (LState.mk [(4,.imm (bo false))] [] 26 14 [])) (.done Exit.normal (LState.mk [(5,.imm (i64 (IntKind.wrap IntKind.i64 ((↑i:Int)+1)))),(0,.imm (lu8 l)),(1,.imm (lu8 r))] [] 26 16 []))))) (.done (Exit.exit 0) (LState.mk [] [] 26 4 [])):=by kernel_rfl
def T27 (l r:List Int):Tell:=
 Tell.mk (fun x x_1=>false) (fun x x_1=>Orc.no) (fun x=>L27 l r) (fun x=>0) (fun x=>([5,0,1],[])) (fun x x_1 x_2=>Orc.no) fun x x_1=>L27 l r
theorem t27 (l r:List Int):levF prog Proofs.Try.f27 [lu8 l,lu8 r] (T27 l r)=
 Tree.br (!decide ((↑(List.length (List.map u8 l)):Int)=(↑(List.length (List.map u8 r)):Int))) (.done Exit.ret (lret (bo false))) (.loop 4 (LState.mk [(5,.imm (i64 0)),(0,.imm (lu8 l)),(1,.imm (lu8 r))] [] 26 7 []) (.br (anyI (P27 l r) 0 (List.length l)) (.done Exit.ret (R27 l r (firstI (P27 l r) 0 (List.length l)))) (.done (Exit.exit 0) (E27 l r))) (.br (anyI (P27 l r) 0 (List.length l)) (.done Exit.ret (lret (bo false))) (.done Exit.ret (lret (bo true))))):=by kernel_rfl
theorem l27 (l r:List Int)(hl:l.length≤2^62)(hlr:l.length=r.length)(σ:LState)(h:LSub σ (I27 l r 0)):LoopOk prog [] (bodyOf Proofs.Try.f27) 4 σ (L27 l r):=by
 refine LoopOk.first (P27 l r) l.length 0 (I27 l r) (R27 l r) (E27 l r) (T27r l r) fin27 (by kernel_rfl) h fun i hi hz=>?_
 rw[t27r]
 refine⟨fun h1=>need_sat (elem_need ?_) (need_sat (elem_need ?_) ⟨fun h2=>?_,fun h2=>?_⟩),fun h1=>?_⟩
 ·(refine⟨by omega,?_,?_⟩<;>(simp only[List.length_map,decide_eq_true_eq,decide_eq_false_iff_not,Int.toNat_natCast]at*<;>omega))
 ·(refine⟨by omega,?_,?_⟩<;>(simp only[List.length_map,decide_eq_true_eq,decide_eq_false_iff_not,Int.toNat_natCast]at*<;>omega))
 ·exact⟨by(simp only[List.length_map,decide_eq_true_eq,decide_eq_false_iff_not,Int.toNat_natCast]at*<;>omega),h2,by simp[R27,bo,LSub,tsub,ssub,tl,sl,linT,linS,ainB,ainBL]⟩
 ·exact⟨by(simp only[List.length_map,decide_eq_true_eq,decide_eq_false_iff_not,Int.toNat_natCast]at*<;>omega),h2,by simp[I27,i64,i64_small (n:=i) (by(simp only[List.length_map,decide_eq_true_eq,decide_eq_false_iff_not,Int.toNat_natCast]at*<;>omega)) hl,LSub,tsub,ssub,tl,sl,linT,linS,ainB,ainBL]⟩
 ·exact⟨rfl,by(simp only[List.length_map,decide_eq_true_eq,decide_eq_false_iff_not,Int.toNat_natCast]at*<;>omega),by simp[E27,LSub,tsub,ssub,tl,sl,linT,linS,ainB,ainBL]⟩
theorem c27 (l r:List Int)(hl:l.length≤2^62):ASpec prog 27 [lu8 l,lu8 r] (bo (decide (l=r))):=by
 have he:sameL neI 0 l r=decide (l=r):=by rw[Bool.eq_iff_iff,sameL_iff (fun a b=>by simp[neI])];simp
 rw[←he]
 refine ASpec.treeW Proofs.Try.f27 (T27 l r) (by kernel_rfl) (by kernel_rfl) (t27 l r) ?_
 refine⟨fun h1=>⟨_,rfl,?_⟩,fun h1=>⟨?_,⟨fun h2=>⟨_,rfl,?_⟩,fun h2=>⟨_,rfl,?_⟩⟩⟩⟩
 ·have:¬l.length=r.length:=by simp at h1;omega
  exact ile_bo (by simp[sameL,this])
 ·exact l27 l r hl (by simp at h1;omega) _ (by simp[I27,i64,LSub,tsub,ssub,tl,sl,linT,linS,ainB,ainBL])
 ·have:l.length=r.length:=by simp at h1;omega
  refine ile_bo ?_
  simp only[sameL,show diffAt neI 0 l r=P27 l r from rfl,h2];simp
 ·have:l.length=r.length:=by simp at h1;omega
  refine ile_bo ?_
  simp only[sameL,show diffAt neI 0 l r=P27 l r from rfl,h2];simp[this]
theorem ba_eq (a b:ByteArray):(a==b)=true↔a=b:=by
 obtain⟨a⟩:=a;obtain⟨b⟩:=b
 rw[ByteArray.mk.injEq]
 show (a==b)=true↔a=b
 simp
theorem pdu_eq (m n:Pdu):decide (m=n)=(decide (m.version=n.version)&&(decide (m.kind=n.kind)&&(decide (m.session=n.session)&&(decide (m.serial=n.serial)&&((m.add==n.add)&&(!neO m.origin n.origin&&(decide (m.path.cust=n.path.cust)&&(decide (m.path.provs=n.path.provs)&&(!neK m.key n.key&&(decide (m.refresh=n.refresh)&&(decide (m.retry=n.retry)&&(decide (m.expire=n.expire)&&(decide (m.code=n.code)&&(decide (m.copy=n.copy)&&(m.text==n.text))))))))))))))):=by
 have h1:(!neO m.origin n.origin)=decide (m.origin=n.origin):=by
  rw[Bool.eq_iff_iff,Bool.not_eq_true',neO_iff];simp
 have h2:(!neK m.key n.key)=decide (m.key=n.key):=by
  rw[Bool.eq_iff_iff,Bool.not_eq_true',neK_iff];simp
 rw[h1,h2]
 obtain⟨v,k,s,r,a,o,⟨pc,pp⟩,ky,x,y,z,c,cp,tx⟩:=m
 obtain⟨v',k',s',r',a',o',⟨pc',pp'⟩,ky',x',y',z',c',cp',tx'⟩:=n
 rw[Bool.eq_iff_iff]
 simp[and_assoc,ba_eq]
def T17 (m n:Pdu):Tell:=
 Tell.mk (fun x x_1=>false) (fun x x_1=>Orc.no) (fun x=>Tree.fail 1000003 0) (fun x=>0) (fun x=>([],[])) (oget [(44,2,17,Orc.call [lu32 m.path.provs,lu32 n.path.provs] (bo (decide (m.path.provs=n.path.provs)))),(44,2,59,Orc.call [lu8 m.copy,lu8 n.copy] (bo (decide (m.copy=n.copy))))]) fun x x_1=>Tree.fail 1000003 0
theorem t17 (m n:Pdu):levF prog Proofs.Try.f17 [encD m,encD n] (T17 m n)=
 (let q0:=decide (m.origin.pfx.fam=n.origin.pfx.fam)&&(decide (m.origin.pfx.addr.hi=n.origin.pfx.addr.hi)&&(decide (m.origin.pfx.addr.lo=n.origin.pfx.addr.lo)&&(decide (m.origin.pfx.len=n.origin.pfx.len)&&(decide (m.origin.max=n.origin.max)&&true))));let q1:=decide (m.key.height=n.key.height)&&true;let q2:=decide (m.path.provs=n.path.provs);
 Tree.br (decide (m.version=n.version)) (.br (decide (m.kind=n.kind)) (.br (decide (m.session=n.session)) (.br (decide (m.serial=n.serial)) (.br (m.add==n.add) (.br (if BinOp.eql=BinOp.neq then !(decide (m.origin.asn=n.origin.asn)&&q0)else decide (m.origin.asn=n.origin.asn)&&q0) (.br (decide (m.path.cust=n.path.cust)) (.need (ILeL [lu32 m.path.provs,lu32 n.path.provs] [lu32 m.path.provs,lu32 n.path.provs]∧ASpec prog 41 [lu32 m.path.provs,lu32 n.path.provs] (bo q2)) (.br q2 (.br (if BinOp.eql=BinOp.neq then !(decide (m.key.asn=n.key.asn)&&(decide (m.key.root[0]=
 n.key.root[0])&&(decide (m.key.root[1]=n.key.root[1])&&(decide (m.key.root[2]=n.key.root[2])&&(decide (m.key.root[3]=n.key.root[3])&&(decide (m.key.root[4]=n.key.root[4])&&(decide (m.key.root[5]=n.key.root[5])&&(decide (m.key.root[6]=n.key.root[6])&&(decide (m.key.root[7]=n.key.root[7])&&(decide (m.key.root[8]=n.key.root[8])&&(decide (m.key.root[9]=n.key.root[9])&&(decide (m.key.root[10]=n.key.root[10])&&(decide (m.key.root[11]=n.key.root[11])&&(decide (m.key.root[12]=n.key.root[12])&&(decide (m.key.root[13]=n.key.root[13])&&(decide
 (m.key.root[14]=n.key.root[14])&&(decide (m.key.root[15]=n.key.root[15])&&q1)))))))))))))))))else decide (m.key.asn=n.key.asn)&&(decide (m.key.root[0]=n.key.root[0])&&(decide (m.key.root[1]=n.key.root[1])&&(decide (m.key.root[2]=n.key.root[2])&&(decide (m.key.root[3]=n.key.root[3])&&(decide (m.key.root[4]=n.key.root[4])&&(decide (m.key.root[5]=n.key.root[5])&&(decide (m.key.root[6]=n.key.root[6])&&(decide (m.key.root[7]=n.key.root[7])&&(decide (m.key.root[8]=n.key.root[8])&&(decide (m.key.root[9]=n.key.root[9])&&(decide (m.key.root[10]=
 n.key.root[10])&&(decide (m.key.root[11]=n.key.root[11])&&(decide (m.key.root[12]=n.key.root[12])&&(decide (m.key.root[13]=n.key.root[13])&&(decide (m.key.root[14]=n.key.root[14])&&(decide (m.key.root[15]=n.key.root[15])&&q1))))))))))))))))) (.br (decide (m.refresh=n.refresh)) (.br (decide (m.retry=n.retry)) (.br (decide (m.expire=n.expire)) (.br (decide (m.code=n.code)) (.need (ILeL [lu8 m.copy,lu8 n.copy] [lu8 m.copy,lu8 n.copy]∧ASpec prog 27 [lu8 m.copy,lu8 n.copy] (bo (decide (m.copy=n.copy)))) (.br (decide (m.copy=n.copy)) (.done Exit.ret (lret (bo
 (m.text==n.text)))) (.done Exit.ret (lret (bo false))))) (.done Exit.ret (lret (bo false)))) (.done Exit.ret (lret (bo false)))) (.done Exit.ret (lret (bo false)))) (.done Exit.ret (lret (bo false)))) (.done Exit.ret (lret (bo false)))) (.done Exit.ret (lret (bo false))))) (.done Exit.ret (lret (bo false)))) (.done Exit.ret (lret (bo false)))) (.done Exit.ret (lret (bo false)))) (.done Exit.ret (lret (bo false)))) (.done Exit.ret (lret (bo false)))) (.done Exit.ret (lret (bo false)))) (.done Exit.ret (lret (bo false)))):=by kernel_rfl
def T11 (m:Pdu):Tell:=
 Tell.mk (fun x x_1=>false) (fun x x_1=>Orc.no) (fun x=>Tree.fail 1000003 0) (fun x=>0) (fun x=>([],[])) (fun x x_1 x_2=>Orc.no) fun x x_1=>Tree.fail 1000003 0
theorem t11 (m:Pdu):levF prog Proofs.Try.f11 [encD m] (T11 m)=
 Tree.br (decide (5000<(↑(List.length (List.map u8 m.copy)):Int))) (.done Exit.ret (lret (bo true))) (.br (decide (5000<(↑(ByteArray.size m.text):Int))) (.done Exit.ret (lret (bo true))) (.done Exit.ret (lret (bo (decide (80<(↑(List.length (List.map u32 m.path.provs)):Int))))))):=by kernel_rfl
def great (m:Pdu):Bool:=decide (5000<m.copy.length)||decide (5000<m.text.size)||decide (80<m.path.provs.length)
theorem c11 (m:Pdu):ASpec prog 11 [encD m] (bo (great m)):=by
 refine ASpec.treeW Proofs.Try.f11 (T11 m) (by kernel_rfl) (by kernel_rfl) (t11 m) ?_
 refine⟨fun h1=>⟨_,rfl,?_⟩,fun h1=>⟨fun h2=>⟨_,rfl,?_⟩,fun h2=>⟨_,rfl,?_⟩⟩⟩
 all_goals simp only[decide_eq_true_eq,decide_eq_false_iff_not,List.length_map]at*
 all_goals exact ile_bo (by rw[Bool.eq_iff_iff];simp[great]<;>omega)
theorem c17 (m n:Pdu)(h1c:m.copy.length≤2^62)(h2c:m.path.provs.length≤2^62):ASpec prog 17 [encD m,encD n] (bo (decide (m=n))):=by
 refine ASpec.treeW Proofs.Try.f17 (T17 m n) (by kernel_rfl) (by kernel_rfl) (t17 m n) ?_
 have e:=pdu_eq m n
 simp only[neO,neK,Bool.not_not]at e
 rw[e]
 refine⟨fun h1=>⟨fun h2=>⟨fun h3=>⟨fun h4=>⟨fun h5=>⟨fun h6=>⟨fun h7=>need_sat ⟨ILeL.refl _,c41 _ _ ?_⟩ ⟨fun h8=>⟨fun h9=>⟨fun h10=>⟨fun h11=>⟨fun h12=>⟨fun h13=>need_sat ⟨ILeL.refl _,c27 _ _ ?_⟩ ⟨fun h14=>⟨_,rfl,?_⟩,fun h14=>⟨_,rfl,?_⟩⟩,fun h13=>⟨_,rfl,?_⟩⟩,fun h12=>⟨_,rfl,?_⟩⟩,fun h11=>⟨_,rfl,?_⟩⟩,fun h10=>⟨_,rfl,?_⟩⟩,fun h9=>⟨_,rfl,?_⟩⟩,fun h8=>⟨_,rfl,?_⟩⟩,fun h7=>⟨_,rfl,?_⟩⟩,fun h6=>⟨_,rfl,?_⟩⟩,fun h5=>⟨_,rfl,?_⟩⟩,fun h4=>⟨_,rfl,?_⟩⟩,fun h3=>⟨_,rfl,?_⟩⟩,fun h2=>⟨_,rfl,?_⟩⟩,fun h1=>⟨_,rfl,?_⟩⟩
 all_goals try assumption
 all_goals clear e
 all_goals refine ile_bo ?_
 all_goals try simp only[reduceCtorEq,if_false]at h6
 all_goals try simp only[reduceCtorEq,if_false]at h9
 all_goals simp only[*,Bool.true_and,Bool.false_and,Bool.and_false]
theorem c16 (m n:Pdu)(h2c:m.path.provs.length≤2^62)(hb:(bstr m.copy==bstr n.copy)=decide (m.copy=n.copy)):ASpec prog 16 [encD m,encD n] (bo (decide (m=n))):=by
 refine ASpec.treeW Proofs.Try.f16 (T16 m n) (by kernel_rfl) (by kernel_rfl) (t16 m n) ?_
 have e:=pdu_eq m n
 simp only[neO,neK,Bool.not_not]at e
 rw[e]
 refine⟨fun h1=>⟨fun h2=>⟨fun h3=>⟨fun h4=>⟨fun h5=>⟨fun h6=>⟨fun h7=>need_sat ⟨ILeL.refl _,c39 _ _ ?_⟩ ⟨fun h8=>need_sat ⟨ILeL.refl _,c40 _ _⟩ ⟨fun h9=>⟨fun h10=>⟨fun h11=>⟨fun h12=>⟨fun h13=>⟨fun h14=>⟨_,rfl,?_⟩,fun h14=>⟨_,rfl,?_⟩⟩,fun h13=>⟨_,rfl,?_⟩⟩,fun h12=>⟨_,rfl,?_⟩⟩,fun h11=>⟨_,rfl,?_⟩⟩,fun h10=>⟨_,rfl,?_⟩⟩,fun h9=>⟨_,rfl,?_⟩⟩,fun h8=>⟨fun h9=>⟨_,rfl,?_⟩,fun h9=>⟨_,rfl,?_⟩⟩⟩,fun h7=>⟨fun h8=>⟨_,rfl,?_⟩,fun h8=>⟨_,rfl,?_⟩⟩⟩,fun h6=>⟨fun h7=>need_sat ⟨ILeL.refl _,c39 _ _ ?_⟩ ⟨fun h8=>need_sat ⟨ILeL.refl _,c40 _ _⟩ ⟨_,rfl,?_⟩,fun h8=>⟨_,rfl,?_⟩⟩,fun h7=>⟨_,rfl,?_⟩⟩⟩,fun h5=>⟨fun h6=>need_sat ⟨ILeL.refl _,c39 _ _ ?_⟩ ⟨fun h7=>need_sat ⟨ILeL.refl _,c40 _ _⟩ ⟨_,rfl,?_⟩,fun h7=>⟨_,rfl,?_⟩⟩,fun h6=>⟨_,rfl,?_⟩⟩⟩,fun h4=>⟨fun h5=>need_sat ⟨ILeL.refl _,c39 _ _ ?_⟩ ⟨fun h6=>need_sat ⟨ILeL.refl _,c40 _ _⟩ ⟨_,rfl,?_⟩,fun h6=>⟨_,rfl,?_⟩⟩,fun h5=>⟨_,rfl,?_⟩⟩⟩,fun h3=>⟨fun h4=>need_sat ⟨ILeL.refl _,c39 _ _ ?_⟩ ⟨fun h5=>need_sat ⟨ILeL.refl _,c40 _ _⟩ ⟨_,rfl,?_⟩,fun h5=>⟨_,rfl,?_⟩⟩,fun h4=>⟨_,rfl,?_⟩⟩⟩,fun h2=>⟨fun h3=>need_sat ⟨ILeL.refl _,c39 _ _ ?_⟩ ⟨fun h4=>need_sat ⟨ILeL.refl _,c40 _ _⟩ ⟨_,rfl,?_⟩,fun h4=>⟨_,rfl,?_⟩⟩,fun h3=>⟨_,rfl,?_⟩⟩⟩,fun h1=>⟨fun h2=>need_sat ⟨ILeL.refl _,c39 _ _ ?_⟩ ⟨fun h3=>need_sat ⟨ILeL.refl _,c40 _ _⟩ ⟨_,rfl,?_⟩,fun h3=>⟨_,rfl,?_⟩⟩,fun h2=>⟨_,rfl,?_⟩⟩⟩
 all_goals try assumption
 all_goals clear e
 all_goals refine ile_bo ?_
 all_goals try replace h10:=hb.symm.trans h10
 all_goals clear hb
 all_goals try simp only[reduceCtorEq,if_false]at h6
 all_goals try simp only[reduceCtorEq,if_false]at h9
 all_goals simp only[*,Bool.true_and,Bool.false_and,Bool.and_false]
end Gp
namespace Gp
def T14y (p:Pdu):Tell:=
 Tell.mk (fun x x_1=>false) (fun r i=>if(r==3&&i==3)=true then Orc.look (AVal.imm (formI p.kind)) true else Orc.no) (fun x=>Tree.fail 1000003 0) (fun x=>0) (fun x=>([],[])) (ogetO (fun r i=>if(r==3&&i==3)=true then Orc.look (AVal.imm (formI p.kind)) true else Orc.no) [(19,3,0,Orc.call [] (.map ksF dsF)),(29,4,12,Orc.call [encD p] (bo (ckD p))),(44,6,2,Orc.call [encD p,formI p.kind] (slF 1 u8 (encB p))),(44,6,3,Orc.call [slE 1 u8 (encB p)] (.tup [encD (rdF (encB p)).fst,bo (rdF (encB p)).snd])),(54,7,5,Orc.call [encD p,encD (rdF (encB p)).fst] (bo (decide (p=(rdF
 (encB p)).fst))))]) fun x x_1=>Tree.fail 1000003 0
theorem t14y (p:Pdu):levF prog Proofs.Try.f14 [encD p] (T14y p)=
 (let q0:=rdF (encB p);
 Tree.br (decide (4096<(↑(List.length (List.map u8 p.copy)):Int))) (.done Exit.ret (lret (i64 4))) (.br (decide (200<(↑(ByteArray.size p.text):Int))) (.done Exit.ret (lret (i64 4))) (.br (decide (50<(↑(List.length (List.map u32 p.path.provs)):Int))) (.done Exit.ret (lret (i64 4))) (.need (ILeL [] []∧ASpec prog 34 [] (.map ksF dsF)) (.need (true=true∧(if p.kind=0 then(AVal.imm (formI 0),true)else if p.kind=1 then(AVal.imm (formI 1),true)else if p.kind=2 then(AVal.imm (formI 2),true)else if p.kind=8 then(AVal.imm (formI 8),true)else if p.kind=4 then(AVal.imm
 (formI 4),true)else if p.kind=6 then(AVal.imm (formI 6),true)else if p.kind=3 then(AVal.imm (formI 3),true)else if p.kind=7 then(AVal.imm (formI 7),true)else if p.kind=9 then(AVal.imm (formI 9),true)else if p.kind=10 then(AVal.imm (formI 10),true)else if p.kind=11 then(AVal.imm (formI 11),true)else(AVal.imm (IVal.agg [IVal.v Value.nilFunc,IVal.v Value.nilFunc,IVal.v Value.nilFunc,IVal.v Value.nilFunc,IVal.v Value.nilFunc]),false))=(AVal.imm (formI p.kind),true)) (.br false (.done Exit.ret (lret (i64 8))) (.br (decide (2<p.version)) (.done Exit.ret (lret (i64 8)))
 (.need (ILeL [.agg [u8 p.version,u8 p.kind,u16 p.session,u32 p.serial,bo p.add,u32 p.origin.asn,u8 p.origin.pfx.fam,u64 p.origin.pfx.addr.hi,u64 p.origin.pfx.addr.lo,i64 p.origin.pfx.len,i64 p.origin.max,u32 p.path.cust,lu32 p.path.provs,u32 p.key.asn,u8 p.key.root[0],u8 p.key.root[1],u8 p.key.root[2],u8 p.key.root[3],u8 p.key.root[4],u8 p.key.root[5],u8 p.key.root[6],u8 p.key.root[7],u8 p.key.root[8],u8 p.key.root[9],u8 p.key.root[10],u8 p.key.root[11],u8 p.key.root[12],u8 p.key.root[13],u8 p.key.root[14],u8 p.key.root[15],i64 p.key.height,u32 p.refresh,u32 p.retry,u32 p.expire,u16 p.code,lu8
 p.copy,st p.text]] [encD p]∧ASpec prog (chkN p.kind) [encD p] (bo (ckD p))) (.br (!ckD p) (.done Exit.ret (lret (i64 8))) (.need (ILeL [encD p,formI p.kind] [encD p,formI p.kind]∧ASpec prog 36 [encD p,formI p.kind] (slF 1 u8 (encB p))) (.need (ILeL [slF 1 u8 (encB p)] [slE 1 u8 (encB p)]∧ASpec prog 35 [slE 1 u8 (encB p)] (.tup [encD q0.fst,bo q0.snd])) (.br (!q0.snd) (.done Exit.ret (lret (i64 8))) (.need (ILeL [encD p,encD q0.fst] [encD p,encD q0.fst]∧ASpec prog 16 [encD p,encD q0.fst] (bo (decide (p=q0.fst)))) (.br (!decide (p=q0.fst)) (.done Exit.ret (lret (i64 8))) (.done
 Exit.ret (lret (i64 0))))))))))))))))):=by kernel_rfl
def T14n (p:Pdu):Tell:=
 Tell.mk (fun x x_1=>false) (fun r i=>if(r==3&&i==3)=true then Orc.look (.imm (.agg [.v Value.nilFunc,.v Value.nilFunc,.v Value.nilFunc,.v Value.nilFunc,.v Value.nilFunc])) false else Orc.no) (fun x=>Tree.fail 1000003 0) (fun x=>0) (fun x=>([],[])) (ogetO (fun r i=>if(r==3&&i==3)=true then Orc.look (.imm (.agg [.v Value.nilFunc,.v Value.nilFunc,.v Value.nilFunc,.v Value.nilFunc,.v Value.nilFunc])) false else Orc.no) [(19,3,0,Orc.call [] (.map ksF dsF))]) fun x x_1=>Tree.fail 1000003 0
theorem t14n (p:Pdu):levF prog Proofs.Try.f14 [encD p] (T14n p)=
 (let q0:=decide (50<(↑(List.length (List.map u32 p.path.provs)):Int));let q1:=decide (200<(↑(ByteArray.size p.text):Int));let q2:=List.length (List.map u8 p.copy);let q3:=decide (2<p.version);
 Tree.br (decide (4096<(↑q2:Int))) (.done Exit.ret (lret (i64 4))) (.br q1 (.done Exit.ret (lret (i64 4))) (.br q0 (.done Exit.ret (lret (i64 4))) (.need (ILeL [] []∧ASpec prog 34 [] (.map ksF dsF)) (.need (true=true∧(if p.kind=0 then(AVal.imm (formI 0),true)else if p.kind=1 then(AVal.imm (formI 1),true)else if p.kind=2 then(AVal.imm (formI 2),true)else if p.kind=8 then(AVal.imm (formI 8),true)else if p.kind=4 then(AVal.imm (formI 4),true)else if p.kind=6 then(AVal.imm (formI 6),true)else if p.kind=3 then(AVal.imm (formI 3),true)else if p.kind=7 then
 (AVal.imm (formI 7),true)else if p.kind=9 then(AVal.imm (formI 9),true)else if p.kind=10 then(AVal.imm (formI 10),true)else if p.kind=11 then(AVal.imm (formI 11),true)else(AVal.imm (IVal.agg [IVal.v Value.nilFunc,IVal.v Value.nilFunc,IVal.v Value.nilFunc,IVal.v Value.nilFunc,IVal.v Value.nilFunc]),false))=(.imm (.agg [.v Value.nilFunc,.v Value.nilFunc,.v Value.nilFunc,.v Value.nilFunc,.v Value.nilFunc]),false)) (.br true (.done Exit.ret (lret (i64 8))) (.br q3 (.done Exit.ret (lret (i64 8))) (.stop (LState.mk [(38,.imm (bo false)),(42,.agg [.imm (u8 p.version),.imm (u8
 p.kind),.imm (u16 p.session),.imm (u32 p.serial),.imm (bo p.add),.imm (u32 p.origin.asn),.imm (u8 p.origin.pfx.fam),.imm (u64 p.origin.pfx.addr.hi),.imm (u64 p.origin.pfx.addr.lo),.imm (i64 p.origin.pfx.len),.imm (i64 p.origin.max),.imm (u32 p.path.cust),.imm (lu32 p.path.provs),.imm (u32 p.key.asn),.imm (u8 p.key.root[0]),.imm (u8 p.key.root[1]),.imm (u8 p.key.root[2]),.imm (u8 p.key.root[3]),.imm (u8 p.key.root[4]),.imm (u8 p.key.root[5]),.imm (u8 p.key.root[6]),.imm (u8 p.key.root[7]),.imm (u8 p.key.root[8]),.imm (u8 p.key.root[9]),.imm (u8 p.key.root[10]),.imm (u8 p.key.root[11]),.imm (u8
 p.key.root[12]),.imm (u8 p.key.root[13]),.imm (u8 p.key.root[14]),.imm (u8 p.key.root[15]),.imm (i64 p.key.height),.imm (u32 p.refresh),.imm (u32 p.retry),.imm (u32 p.expire),.imm (u16 p.code),.imm (lu8 p.copy),.imm (st p.text)]),(41,.imm (encD p)),(40,.imm (.v Value.nilFunc)),(39,.ptr 26 0),(37,.imm (bo q3)),(36,.imm (bo q3)),(33,.imm (bo false)),(35,.imm (u8 p.version)),(34,.ptr 0 0),(32,.imm (bo true)),(31,.imm (bo false)),(4,.imm (bo false)),(3,.ptr 26 0),(30,.imm (bo false)),(29,.imm (.agg [.v Value.nilFunc,.v Value.nilFunc,.v Value.nilFunc,.v Value.nilFunc,.v Value.nilFunc])),(24,.tup
 [.imm (.agg [.v Value.nilFunc,.v Value.nilFunc,.v Value.nilFunc,.v Value.nilFunc,.v Value.nilFunc]),.imm (bo false)]),(28,.tup [.imm (.agg [.v Value.nilFunc,.v Value.nilFunc,.v Value.nilFunc,.v Value.nilFunc,.v Value.nilFunc]),.imm (bo false)]),(27,.imm (u8 p.kind)),(26,.ptr 0 1),(25,.imm (.map ksF dsF)),(23,.imm (bo q0)),(22,.imm (bo q0)),(17,.imm (bo false)),(21,.imm (i64 (↑(List.length (List.map u32 p.path.provs)):Int))),(20,.imm (lu32 p.path.provs)),(19,.ptr 0 12),(18,.ptr 0 11),(16,.imm (bo q1)),(15,.imm (bo q1)),(11,.imm (bo false)),(14,.imm (i64 (↑(ByteArray.size p.text):
 Int))),(13,.imm (st p.text)),(12,.ptr 0 36),(10,.imm (bo (decide (4096<(↑q2:Int))))),(9,.imm (i64 (↑q2:Int))),(8,.imm (lu8 p.copy)),(7,.ptr 0 35),(2,.imm (i64 0)),(1,.ptr 0 0),(0,.imm (encD p))] [(26,Entry.box 80 (.imm (.agg [.v Value.nilFunc,.v Value.nilFunc,.v Value.nilFunc,.v Value.nilFunc,.v Value.nilFunc]))),(0,Entry.box 42 (.imm (encD p)))] 61 29 [(38,false),(33,false),(17,false),(11,false)]) 4 12 (Op.call (Call.mk (Callee.value (Operand.tmp 40)) (Array.mk [Operand.tmp 42]) (Array.mk [85]))))))))))):=by kernel_rfl
def byteL (l:List Int):Prop:=∀x∈l,0≤x∧x<256
theorem byteL_nil :byteL []:=fun x h=>by simp at h
theorem byteL_app {a b:List Int}(ha:byteL a)(hb:byteL b):byteL (a++b):=fun x h=>by
 rcases List.mem_append.1 h with h|h
 ·exact ha x h
 ·exact hb x h
theorem byteL_sub {a b:List Int}(ha:byteL a)(h:∀x∈b,x∈a):byteL b:=fun x hx=>ha x (h x hx)
theorem wrap8 (x:Int):0≤IntKind.u8.wrap x∧IntKind.u8.wrap x<256:=by
 show 0≤x % 256∧x % 256<256
 omega
theorem num_byte (x n:Int):byteL (num x n):=by
 rw[num_eq]
 intro y hy
 simp only[nbI,List.mem_map]at hy
 obtain⟨j,_,rfl⟩:=hy
 exact wrap8 _
theorem flI_byte (b:Bool):byteL (flI b):=num_byte _ _
theorem bytesL_byte (s:ByteArray):byteL (bytesL s):=by
 intro y hy
 simp only[bytesL,List.mem_map]at hy
 obtain⟨b,_,rfl⟩:=hy
 have:=b.toNat_lt
 omega
theorem pvL_byte (l:List Int):byteL (pvL l):=by
 intro y hy
 simp only[pvL,List.mem_flatMap]at hy
 obtain⟨x,_,hx⟩:=hy
 exact num_byte _ _ y hx
def wfB (p:Pdu):Prop:=byteL p.copy∧byteL (rootL p.key)
theorem hdL_byte (p:Pdu):byteL (hdL p):=by
 unfold hdL;repeat' split
 ·exact byteL_app (flI_byte _) (num_byte _ _)
 ·exact num_byte _ _
 ·exact num_byte _ _
 ·exact num_byte _ _
theorem rsL_byte (p:Pdu)(h:wfB p):byteL (rsL p):=by
 have n:=num_byte
 unfold rsL;repeat' split
 ·unfold rs57
  refine byteL_app (byteL_app (byteL_app (byteL_app (byteL_app (flI_byte _) (n _ _)) (n _ _)) (n _ _)) ?_) (n _ _)
  split
  ·exact byteL_app (n _ _) (n _ _)
  ·exact n _ _
 ·unfold rs60 rs49
  refine byteL_app (n _ _) ?_
  split
  ·exact byteL_app (byteL_app (n _ _) (n _ _)) (n _ _)
  ·exact byteL_nil
 ·exact byteL_app (byteL_app (n _ _) (n _ _)) h.2
 ·exact byteL_app (byteL_app (byteL_app (n _ _) h.1) (n _ _)) (bytesL_byte _)
 ·exact byteL_app (n _ _) (pvL_byte _)
 ·exact n _ _
 ·exact byteL_nil
theorem encB_byte (p:Pdu)(h:wfB p):byteL (encB p):=byteL_app (byteL_app (byteL_app (byteL_app (num_byte _ _) (num_byte _ _)) (hdL_byte p)) (num_byte _ _)) (rsL_byte p h)
theorem rdF_byte (l:List Int)(h:byteL l):byteL (rdF l).1.copy:=by
 cases hk:rdOk l with
 |false=>rw[rdF_no hk];exact byteL_nil
 |true=>
  rw[rdF_yes hk]
  show byteL (rdV l).copy
  unfold rdV;repeat' split
  ·exact byteL_nil
  ·show byteL (fCopy (d8 l))
   refine byteL_sub h fun x hx=>?_
   unfold fCopy at hx
   rw[d8_eq]at hx
   exact List.mem_of_mem_drop (List.mem_of_mem_drop (List.mem_of_mem_take hx))
  ·exact byteL_nil
  ·have e:(rdS l).copy=[]:=(tS_nil (p1 l) (d8 l) rfl rfl).2
   rw[e];exact byteL_nil
theorem bstr_data (l:List Int)(r:ByteArray):(l.foldl (fun r n=>r.push (UInt8.ofNat n.toNat)) r).data.toList=r.data.toList++l.map fun n=>UInt8.ofNat n.toNat:=by
 induction l generalizing r with
 |nil=>simp
 |cons x l ih=>
  rw[List.foldl_cons,ih]
  show (r.data.push _).toList++_=_
  simp
theorem bstr_inj {a b:List Int}(ha:byteL a)(hb:byteL b):(bstr a==bstr b)=decide (a=b):=by
 rw[Bool.eq_iff_iff,ba_eq,decide_eq_true_eq]
 refine⟨fun h=>?_,fun h=>by rw[h]⟩
 have h1:=congrArg (fun s:ByteArray=>s.data.toList) h
 simp only[bstr,bstr_data]at h1
 have h2:=(List.append_right_inj _).1 h1
 refine List.ext_getElem (by simpa using congrArg List.length h2) fun i h3 h4=>?_
 have h5:=congrArg (fun l:List UInt8=>l[i]?) h2
 simp only[List.getElem?_map,List.getElem?_eq_getElem h3,List.getElem?_eq_getElem h4,Option.map_some,Option.some.injEq]at h5
 have h6:=congrArg UInt8.toNat h5
 simp only[UInt8.toNat_ofNat']at h6
 have r1:=ha _ (List.getElem_mem h3)
 have r2:=hb _ (List.getElem_mem h4)
 omega
theorem encB_len (p:Pdu):(encB p).length=8+(rsL p).length:=by
 simp[encB,num_len,hdL_len];omega
theorem rsL_le (p:Pdu):(rsL p).length≤40+p.copy.length+p.text.size+4*p.path.provs.length:=by
 unfold rsL;repeat' split
 ·simp only[rs57,List.length_append,flI_len,num_len];split<;>simp[num_len]<;>omega
 ·simp only[rs60,rs49,List.length_append,num_len];split<;>simp[num_len]<;>omega
 ·simp[rs64,num_len,rootL];omega
 ·simp[rs69,num_len,bytesL];omega
 ·simp[rs73,num_len,pvL_len];omega
 ·simp[rs49,num_len];omega
 ·simp
def chk (p:Pdu):Int:=if 4096<p.copy.length∨200<p.text.size∨50<p.path.provs.length then 4 else
 if ¬isK p.kind∨2<p.version∨ckD p=false then 8 else if(rdF (encB p)).2=true∧p=(rdF (encB p)).1 then 0 else 8
def small (p:Pdu):Prop:=¬(4096<p.copy.length∨200<p.text.size∨50<p.path.provs.length)
theorem chk_b {p:Pdu}(h:¬small p):chk p=4:=if_pos (Classical.not_not.1 h)
theorem chk_k {p:Pdu}(h:small p)(hk:¬isK p.kind):chk p=8:=(if_neg h).trans (if_pos (.inl hk))
theorem chk_v {p:Pdu}(h:small p)(hv:2<p.version):chk p=8:=(if_neg h).trans (if_pos (.inr (.inl hv)))
theorem chk_c {p:Pdu}(h:small p)(hc:ckD p=false):chk p=8:=(if_neg h).trans (if_pos (.inr (.inr hc)))
theorem chk_p {p:Pdu}(h:small p)(hk:isK p.kind)(hv:¬2<p.version)(hc:ckD p=true):chk p=if(rdF (encB p)).2=true∧p=(rdF (encB p)).1 then 0 else 8:=
 (if_neg h).trans (if_neg fun hh=>hh.elim (fun h=>h hk) fun h=>h.elim hv fun h=>by rw[hc]at h;cases h)
theorem chk_r {p:Pdu}(h:small p)(hk:isK p.kind)(hv:¬2<p.version)(hc:ckD p=true)(hr:(rdF (encB p)).2=false):chk p=8:=(chk_p h hk hv hc).trans (if_neg fun hh=>by rw[hr]at hh;cases hh.1)
theorem chk_n {p:Pdu}(h:small p)(hk:isK p.kind)(hv:¬2<p.version)(hc:ckD p=true)(hr:¬p=(rdF (encB p)).1):chk p=8:=(chk_p h hk hv hc).trans (if_neg fun hh=>hr hh.2)
theorem chk_o {p:Pdu}(h:small p)(hk:isK p.kind)(hv:¬2<p.version)(hc:ckD p=true)(hr:(rdF (encB p)).2=true)(hp:p=(rdF (encB p)).1):chk p=0:=(chk_p h hk hv hc).trans (if_pos ⟨hr,hp⟩)
theorem c14 (p:Pdu)(hw:wfB p):ASpec prog 14 [encD p] (i64 (chk p)):=by
 by_cases hk:isK p.kind
 ·refine ASpec.treeW Proofs.Try.f14 (T14y p) (by kernel_rfl) (by kernel_rfl) (t14y p) ?_
  have hlen:=encB_len p
  have hle:=rsL_le p
  have hb:=bstr_inj hw.1 (rdF_byte _ (encB_byte p hw))
  refine⟨fun h1=>⟨_,rfl,?_⟩,fun h1=>⟨fun h2=>⟨_,rfl,?_⟩,fun h2=>⟨fun h3=>⟨_,rfl,?_⟩,fun h3=>need_sat ⟨ILeL.refl _,c34⟩ (need_sat ?_ ⟨fun h=>(by cases h),fun _=>⟨fun h4=>⟨_,rfl,?_⟩,fun h4=>need_sat ⟨ILeL.refl _,cchkN _ ?_⟩ ⟨fun h5=>⟨_,rfl,?_⟩,fun h5=>need_sat ⟨ILeL.refl _,c36 _ ?_ ?_⟩ (need_sat ⟨(by repeat' first|exact ILeL.refl _|exact ILe.refl _|exact ILe.nil _ _ _|exact ILe.sl (fun h=>by cases h) (fun h=>h) (ILeL.refl _)|apply ILeL.cons|apply ILe.agg|apply ILe.tup),c35 _ ?_⟩ ⟨fun h6=>⟨_,rfl,?_⟩,fun h6=>need_sat ⟨ILeL.refl _,c16 _ _ ?_ ?_⟩ ⟨fun h7=>⟨_,rfl,?_⟩,fun h7=>⟨_,rfl,?_⟩⟩⟩)⟩⟩⟩)⟩⟩⟩
  all_goals try first
   |assumption
   |exact⟨rfl,look_y hk⟩
  all_goals simp only[decide_eq_true_eq,decide_eq_false_iff_not,List.length_map,Bool.not_eq_true',Bool.not_eq_false']at*
  all_goals try first
   |omega
   |(unfold Pdu.ok;omega)
   |exact ile_eq (congrArg i64 (chk_b (by unfold small;omega))).symm
   |exact ile_eq (congrArg i64 (chk_v (by unfold small;omega) (by omega))).symm
   |exact ile_eq (congrArg i64 (chk_c (by unfold small;omega) (by assumption))).symm
   |exact ile_eq (congrArg i64 (chk_r (by unfold small;omega) hk (by omega) (by assumption) (by assumption))).symm
   |exact ile_eq (congrArg i64 (chk_n (by unfold small;omega) hk (by omega) (by assumption) (by assumption))).symm
   |exact ile_eq (congrArg i64 (chk_o (by unfold small;omega) hk (by omega) (by assumption) (by assumption) (by assumption))).symm
 ·refine ASpec.treeW Proofs.Try.f14 (T14n p) (by kernel_rfl) (by kernel_rfl) (t14n p) ?_
  refine⟨fun h1=>⟨_,rfl,?_⟩,fun h1=>⟨fun h2=>⟨_,rfl,?_⟩,fun h2=>⟨fun h3=>⟨_,rfl,?_⟩,fun h3=>need_sat ⟨ILeL.refl _,c34⟩ (need_sat ?_ ⟨fun _=>⟨_,rfl,?_⟩,fun h=>(by cases h)⟩)⟩⟩⟩
  all_goals try first
   |exact⟨rfl,look_n hk⟩
  all_goals simp only[decide_eq_true_eq,decide_eq_false_iff_not,List.length_map]at*
  all_goals try first
   |exact ile_eq (congrArg i64 (chk_b (by unfold small;omega))).symm
   |exact ile_eq (congrArg i64 (chk_k (by unfold small;omega) hk)).symm
end Gp
namespace Gp
def T21 (p:Pdu):Tell:=
 Tell.mk (fun x x_1=>false) (fun r i=>if(r==4&&i==4)=true then Orc.look (AVal.imm (formI p.kind)) true else Orc.no) (fun x=>Tree.fail 1000003 0) (fun x=>0) (fun x=>([],[])) (ogetO (fun r i=>if(r==4&&i==4)=true then Orc.look (AVal.imm (formI p.kind)) true else Orc.no) [(3,1,1,Orc.call [encD p] (i64 (chk p))),(8,4,1,Orc.call [] (.map ksF dsF)),(8,4,5,Orc.call [encD p,formI p.kind] (slF 1 u8 (encB p)))]) fun x x_1=>Tree.fail 1000003 0
theorem t21 (p:Pdu):levF prog Proofs.Try.f21 [encD p] (T21 p)=
 Tree.need (ILeL [encD p] [encD p]∧ASpec prog 14 [encD p] (i64 (chk p))) (.br (!decide (chk p=0)) (.done Exit.ret (lret (.tup [nS,i64 (chk p)]))) (.need (ILeL [] []∧ASpec prog 34 [] (.map ksF dsF)) (.need (true=true∧(if p.kind=0 then(AVal.imm (formI 0),true)else if p.kind=1 then(AVal.imm (formI 1),true)else if p.kind=2 then(AVal.imm (formI 2),true)else if p.kind=8 then(AVal.imm (formI 8),true)else if p.kind=4 then(AVal.imm (formI 4),true)else if p.kind=6 then(AVal.imm (formI 6),true)else if p.kind=3 then(AVal.imm (formI 3),true)else if p.kind=7 then
 (AVal.imm (formI 7),true)else if p.kind=9 then(AVal.imm (formI 9),true)else if p.kind=10 then(AVal.imm (formI 10),true)else if p.kind=11 then(AVal.imm (formI 11),true)else(AVal.imm (IVal.agg [IVal.v Value.nilFunc,IVal.v Value.nilFunc,IVal.v Value.nilFunc,IVal.v Value.nilFunc,IVal.v Value.nilFunc]),false))=(AVal.imm (formI p.kind),true)) (.need (ILeL [encD p,formI p.kind] [encD p,formI p.kind]∧ASpec prog 36 [encD p,formI p.kind] (slF 1 u8 (encB p))) (.done Exit.ret (lret (.tup [slF 1 u8 (encB p),i64 0]))))))):=by kernel_rfl
def T22 (l:List Int):Tell:=
 (let q1:=List.drop 4 (List.take 8 l);let q0:=List.drop 0 (List.take (Int.toNat (IntKind.wrap IntKind.i64 (getV q1 4))) l);
 Tell.mk (fun x x_1=>false) (fun r i=>if(r==3&&i==1||r==8&&i==2)=true then Orc.slc else Orc.no) (fun x=>Tree.fail 1000003 0) (fun x=>0) (fun x=>([],[])) (ogetO (fun r i=>if(r==3&&i==1||r==8&&i==2)=true then Orc.slc else Orc.no) [(6,3,4,Orc.may (k76 q1 4) [9] 1 [.ptr 0 0,.imm (i64 4)] errE (Orc.callg [9] 1 [.ptr 0 0,.imm (i64 4)] [(92,.agg [.imm (slE 1 u8 (List.drop (Int.toNat 4) q1))])] [] (.imm (u64 (getV q1 4))))),(25,8,3,Orc.call [slE 1 u8 q0] (.tup [encD (rdF q0).fst,bo (rdF q0).snd])),(34,9,4,Orc.call [encD (rdF q0).fst] (i64 (chk (rdF
 q0).fst)))]) fun x x_1=>Tree.fail 1000003 0)
theorem t22 (l:List Int):levF prog Proofs.Try.f22 [slE 1 u8 l] (T22 l)=
 (let q1:=getV (List.drop 4 (List.take 8 l)) 4;let q0:=List.drop 0 (List.take (Int.toNat (IntKind.wrap IntKind.i64 q1)) l);let q2:=List.length (List.map u8 l);let q3:=List.drop 4 (List.take 8 (List.map u8 l));
 Tree.br (decide ((↑q2:Int)<8)) (.done Exit.ret (lret (.tup [.agg [u8 0,u8 0,u16 0,u32 0,bo false,u32 0,u8 0,u64 0,u64 0,i64 0,i64 0,u32 0,nS,u32 0,u8 0,u8 0,u8 0,u8 0,u8 0,u8 0,u8 0,u8 0,u8 0,u8 0,u8 0,u8 0,u8 0,u8 0,u8 0,u8 0,i64 0,u32 0,u32 0,u32 0,u16 0,nS,st .empty],i64 0,i64 34]))) (.need ((0:Int)≤(4:Int)∧(4:Int)≤(8:Int)∧8≤(↑q2:Int)) (.br (k76 (List.drop 4 (List.take 8 l)) 4) (.need (ALeL [.ptr 0 0,.imm (i64 4)] [.ptr 0 0,.imm (i64 4)]∧GSpec prog 42 [(92,.agg [.imm (.sl false false 1 q3)])] [] [.ptr 0 0,.imm (i64 4)] [(92,.agg [.imm (slE 1 u8 (List.drop 4
 (List.drop 4 (List.take 8 l))))])] [] (.imm (u64 q1))) (.br (decide (IntKind.wrap IntKind.i64 q1<8)) (.done Exit.ret (lret (.tup [.agg [u8 0,u8 0,u16 0,u32 0,bo false,u32 0,u8 0,u64 0,u64 0,i64 0,i64 0,u32 0,nS,u32 0,u8 0,u8 0,u8 0,u8 0,u8 0,u8 0,u8 0,u8 0,u8 0,u8 0,u8 0,u8 0,u8 0,u8 0,u8 0,u8 0,i64 0,u32 0,u32 0,u32 0,u16 0,nS,st .empty],i64 0,i64 12]))) (.br (decide (4312<IntKind.wrap IntKind.i64 q1)) (.done Exit.ret (lret (.tup [.agg [u8 0,u8 0,u16 0,u32 0,bo false,u32 0,u8 0,u64 0,u64 0,i64 0,i64 0,u32 0,nS,u32 0,u8 0,u8 0,u8 0,u8 0,u8 0,u8 0,u8 0,u8 0,u8 0,u8 0,u8 0,u8 0,u8 0,u8 0,u8
 0,u8 0,i64 0,u32 0,u32 0,u32 0,u16 0,nS,st .empty],i64 0,i64 12]))) (.br (decide ((↑q2:Int)<IntKind.wrap IntKind.i64 q1)) (.done Exit.ret (lret (.tup [.agg [u8 0,u8 0,u16 0,u32 0,bo false,u32 0,u8 0,u64 0,u64 0,i64 0,i64 0,u32 0,nS,u32 0,u8 0,u8 0,u8 0,u8 0,u8 0,u8 0,u8 0,u8 0,u8 0,u8 0,u8 0,u8 0,u8 0,u8 0,u8 0,u8 0,i64 0,u32 0,u32 0,u32 0,u16 0,nS,st .empty],i64 0,i64 34]))) (.need ((0:Int)≤(0:Int)∧0≤IntKind.wrap IntKind.i64 q1∧IntKind.wrap IntKind.i64 q1≤(↑q2:Int)) (.need (ILeL [.sl false false 1 (List.drop 0 (List.take (Int.toNat (IntKind.wrap IntKind.i64 q1)) (List.map
 u8 l)))] [slE 1 u8 q0]∧ASpec prog 35 [slE 1 u8 q0] (.tup [encD (rdF q0).fst,bo (rdF q0).snd])) (.br (!(rdF q0).snd) (.done Exit.ret (lret (.tup [.agg [u8 0,u8 0,u16 0,u32 0,bo false,u32 0,u8 0,u64 0,u64 0,i64 0,i64 0,u32 0,nS,u32 0,u8 0,u8 0,u8 0,u8 0,u8 0,u8 0,u8 0,u8 0,u8 0,u8 0,u8 0,u8 0,u8 0,u8 0,u8 0,u8 0,i64 0,u32 0,u32 0,u32 0,u16 0,nS,st .empty],i64 0,i64 12]))) (.need (ILeL [encD (rdF q0).fst] [encD (rdF q0).fst]∧ASpec prog 14 [encD (rdF q0).fst] (i64 (chk (rdF q0).fst))) (.br (!decide (chk (rdF q0).fst=0)) (.done Exit.ret (lret (.tup [.agg [u8 0,u8 0,u16 0,u32 0,bo false,u32
 0,u8 0,u64 0,u64 0,i64 0,i64 0,u32 0,nS,u32 0,u8 0,u8 0,u8 0,u8 0,u8 0,u8 0,u8 0,u8 0,u8 0,u8 0,u8 0,u8 0,u8 0,u8 0,u8 0,u8 0,i64 0,u32 0,u32 0,u32 0,u16 0,nS,st .empty],i64 0,i64 12]))) (.done Exit.ret (lret (.tup [encD (rdF q0).fst,i64 (IntKind.wrap IntKind.i64 q1),i64 0])))))))))))) (.need (ALeL [.ptr 0 0,.imm (i64 4)] [.ptr 0 0,.imm (i64 4)]∧PSpec prog 42 [(92,.agg [.imm (.sl false false 1 q3)])] [] [.ptr 0 0,.imm (i64 4)] errE) (.fail 1000006 0))))):=by kernel_rfl
theorem wfB_rdF (l:List Int)(h:byteL l):wfB (rdF l).1:=by
 refine⟨rdF_byte l h,?_⟩
 have z:byteL (rootL ⟨0,Vector.replicate 16 0,0⟩):=fun x hx=>by
  simp[rootL]at hx
  omega
 have g:∀(m:List Int)(i:Nat),byteL m→0≤m.getD i 0∧m.getD i 0<256:=by
  intro m i hm
  rw[List.getD_eq_getElem?_getD]
  cases hi:m[i]? with
  |none=>simp
  |some x=>exact hm x (List.mem_of_getElem? hi)
 cases hk:rdOk l with
 |false=>rw[rdF_no hk];exact z
 |true=>
  rw[rdF_yes hk]
  show byteL (rootL (rdV l).key)
  unfold rdV;repeat' split
  ·have hd:byteL ((d8 l).drop 5):=byteL_sub h fun x hx=>by
    rw[d8_eq]at hx;exact List.mem_of_mem_drop (List.mem_of_mem_drop hx)
   intro x hx
   simp only[rdK,zK,kR,rootL,List.mem_cons,List.not_mem_nil,or_false]at hx
   rcases hx with rfl|rfl|rfl|rfl|rfl|rfl|rfl|rfl|rfl|rfl|rfl|rfl|rfl|rfl|rfl|rfl<;>exact g _ _ hd
  ·exact z
  ·exact z
  ·have e:(rdS l).key=⟨0,Vector.replicate 16 0,0⟩:=by
    unfold rdS tS p1;repeat' split
    ·rfl
    ·unfold Pdu.withE;split<;>rfl
    ·rfl
    ·rfl
   rw[e];exact z
def eO (p:Pdu):List Int:=if chk p=0 then encB p else[]
theorem chk_0 {p:Pdu}(h:chk p=0):small p∧isK p.kind∧(rdF (encB p)).2=true∧p=(rdF (encB p)).1:=by
 by_cases hs:small p
 case neg=>rw[chk_b hs]at h;cases h
 by_cases hk:isK p.kind
 case neg=>rw[chk_k hs hk]at h;cases h
 by_cases hv:2<p.version
 ·rw[chk_v hs hv]at h;cases h
 cases hc:ckD p with
 |false=>rw[chk_c hs hc]at h;cases h
 |true=>
  rw[chk_p hs hk hv hc]at h
  split at h
  ·rename_i hh;exact⟨hs,hk,hh⟩
  ·cases h
theorem c21 (p:Pdu)(hw:wfB p):ASpec prog 21 [encD p] (.tup [slE 1 u8 (eO p),i64 (chk p)]):=by
 refine ASpec.treeW Proofs.Try.f21 (T21 p) (by kernel_rfl) (by kernel_rfl) (t21 p) ?_
 refine need_sat ⟨ILeL.refl _,c14 _ hw⟩ ⟨fun h1=>⟨_,rfl,?_⟩,fun h1=>?_⟩
 ·have hn:¬chk p=0:=by simpa using h1
  have:eO p=[]:=if_neg hn
  rw[this];exact .tup (.cons (.nil _ _ _) (.refl _))
 ·have hn:chk p=0:=by simpa using h1
  obtain⟨k1,k2,k3,k4⟩:=chk_0 hn
  have:eO p=encB p:=if_pos hn
  unfold small at k1
  refine need_sat ⟨ILeL.refl _,c34⟩ (need_sat ⟨rfl,look_y k2⟩ (need_sat ⟨ILeL.refl _,c36 _ k2 (by unfold Pdu.ok;omega)⟩ ⟨_,rfl,?_⟩))
  rw[this,hn]
  exact .tup (.cons (.sl (by simp) (by simp) (.refl _)) (.refl _))
theorem nt {b:Bool}(h:(!b)=true):b=false:=by cases b<;>simp_all
theorem nf {b:Bool}(h:(!b)=false):b=true:=by cases b<;>simp_all
def dN (l:List Int):Int:=IntKind.i64.wrap (getV ((l.take 8).drop 4) 4)
def decF (l:List Int):Pdu×Int×Int:=if l.length<8 then(zeroP,0,34)else if dN l<8∨4312<dN l then(zeroP,0,12)else if(l.length:Int)<dN l then(zeroP,0,34)else
 if(rdF (l.take (dN l).toNat)).2=true∧chk (rdF (l.take (dN l).toNat)).1=0 then((rdF (l.take (dN l).toNat)).1,dN l,0)else(zeroP,0,12)
def decT (d:Pdu×Int×Int):IVal:=.tup [encD d.1,i64 d.2.1,i64 d.2.2]
theorem decz {l:List Int}{e:Int}(h:decF l=(zeroP,0,e)):ILe (.tup [z42,i64 0,i64 e]) (decT (decF l)):=by
 rw[h];exact .tup (.cons (ile_pdu zeroP _ _ (ile_n _ rfl) (ile_n' _ rfl)) (.refl _))
theorem dec_1 {l:List Int}(h:l.length<8):decF l=(zeroP,0,34):=if_pos h
theorem dec_2 {l:List Int}(h:¬l.length<8)(h2:dN l<8∨4312<dN l):decF l=(zeroP,0,12):=(if_neg h).trans (if_pos h2)
theorem dec_3 {l:List Int}(h:¬l.length<8)(h2:¬(dN l<8∨4312<dN l))(h3:(l.length:Int)<dN l):decF l=(zeroP,0,34):=(if_neg h).trans ((if_neg h2).trans (if_pos h3))
theorem dec_4 {l:List Int}(h:¬l.length<8)(h2:¬(dN l<8∨4312<dN l))(h3:¬(l.length:Int)<dN l)(h4:¬((rdF (l.take (dN l).toNat)).2=true∧chk (rdF (l.take (dN l).toNat)).1=0)):decF l=(zeroP,0,12):=(if_neg h).trans ((if_neg h2).trans ((if_neg h3).trans (if_neg h4)))
theorem dec_5 {l:List Int}(h:¬l.length<8)(h2:¬(dN l<8∨4312<dN l))(h3:¬(l.length:Int)<dN l)(h4:(rdF (l.take (dN l).toNat)).2=true∧chk (rdF (l.take (dN l).toNat)).1=0):decF l=((rdF (l.take (dN l).toNat)).1,dN l,0):=(if_neg h).trans ((if_neg h2).trans ((if_neg h3).trans (if_pos h4)))
theorem c22 (l:List Int)(hb:byteL l)(hl:l.length≤1000000):ASpec prog 22 [slE 1 u8 l] (decT (decF l)):=by
 refine ASpec.treeW Proofs.Try.f22 (T22 l) (by kernel_rfl) (by kernel_rfl) (t22 l) ?_
 have ht:byteL (l.take (dN l).toNat):=byteL_sub hb fun x hx=>List.mem_of_mem_take hx
 refine⟨fun h1=>⟨_,rfl,?_⟩,fun h1=>?_⟩
 ·exact decz (dec_1 (by have:=of_decide_eq_true h1;rw[List.length_map]at this;omega))
 have h1':¬l.length<8:=by have:=of_decide_eq_false h1;rw[List.length_map]at this;omega
 refine need_sat ⟨by omega,by omega,by rw[List.length_map];omega⟩ ⟨fun h2=>?_,fun h2=>?_⟩
 ·have g:=g42 ((l.take 8).drop 4) 4 (by omega) (k76_t h2).2 (by omega)
  simp only[slE,List.map_drop,List.map_take]at g
  refine need_sat ⟨ALeL.refl _,?_⟩ ⟨fun h3=>⟨_,rfl,?_⟩,fun h3=>⟨fun h4=>⟨_,rfl,?_⟩,fun h4=>⟨fun h5=>⟨_,rfl,?_⟩,fun h5=>?_⟩⟩⟩
  ·simp only[slE,List.map_drop,List.map_take];exact g
  ·exact decz (dec_2 h1' (.inl (of_decide_eq_true h3)))
  ·exact decz (dec_2 h1' (.inr (of_decide_eq_true h4)))
  ·have h3':¬dN l<8:=of_decide_eq_false h3
   have h4':¬4312<dN l:=of_decide_eq_false h4
   have h5':(l.length:Int)<dN l:=by have:=of_decide_eq_true h5;rw[List.length_map]at this;exact this
   exact decz (dec_3 h1' (by omega) h5')
  ·have h3':¬dN l<8:=of_decide_eq_false h3
   have h4':¬4312<dN l:=of_decide_eq_false h4
   have h5':¬(l.length:Int)<dN l:=by have:=of_decide_eq_false h5;rw[List.length_map]at this;exact this
   have hn:¬(dN l<8∨4312<dN l):=by omega
   refine need_sat ⟨by omega,?_,?_⟩ (need_sat ⟨.cons (ile_eq ?_) (.refl _),c35 _ ?_⟩ ⟨fun h6=>⟨_,rfl,?_⟩,fun h6=>need_sat ⟨ILeL.refl _,c14 _ ?_⟩ ⟨fun h7=>⟨_,rfl,?_⟩,fun h7=>⟨_,rfl,?_⟩⟩⟩)
   ·show 0≤dN l;omega
   ·show dN l≤_;rw[List.length_map];omega
   ·rw[slE,List.map_drop,List.map_take]
   ·rw[List.length_drop,List.length_take];have:(dN l).toNat≤4312:=by omega
    unfold dN at this;omega
   ·have e:(rdF (l.take (dN l).toNat)).2=false:=nt h6
    refine decz (dec_4 h1' hn h5' fun hh=>?_)
    rw[e]at hh;cases hh.1
   ·exact wfB_rdF _ ht
   ·have e:¬chk (rdF (l.take (dN l).toNat)).1=0:=of_decide_eq_false (nt h7)
    exact decz (dec_4 h1' hn h5' fun hh=>e hh.2)
   ·have e6:(rdF (l.take (dN l).toNat)).2=true:=nf h6
    have e7:chk (rdF (l.take (dN l).toNat)).1=0:=of_decide_eq_true (nf h7)
    rw[dec_5 h1' hn h5' ⟨e6,e7⟩]
    exact ile_eq rfl
 ·exfalso
  have:=k76_f h2
  rw[List.length_drop,List.length_take]at this
  omega
end Gp
namespace Gp
section
variable {H:Type} {enc:TypeId×Value→H} {w:World} {base:Nat} {spare:Nat→Bool} {held:Bool}
theorem wf_in {k:IntKind}{n:Int}(h:(Lit.int k n).wf=true):k.min≤n∧n≤k.max:=by simpa[Lit.wf]using h
theorem iv {k:IntKind}{n:Int}:IRep w (allF w) (.v (.int k n)) (.int k n):=by rw[IRep];exact⟨rfl,rfl⟩
theorem ib {b:Bool}:IRep w (allF w) (bo b) (.bool b):=by rw[bo,IRep];exact⟨rfl,rfl⟩
theorem ic {d:IVal}{ds:List IVal}{u:Value}{us:List Value}(h:IRep w (allF w) d u)(h':IRepL w (allF w) ds us):IRepL w (allF w) (d::ds) (u::us):=by rw[IRepL];exact⟨u,us,rfl,h,h'⟩
theorem in0 :IRepL w (allF w) [] []:=by rw[IRepL]
theorem ia {ds:List IVal}{us:List Value}(h:IRepL w (allF w) ds us)(ho:ds.all ione=true):IRep w (allF w) (.agg ds) (.agg us.toArray):=by rw[IRep];exact⟨us.toArray,rfl,by simpa using h,ho⟩
end
end Gp
