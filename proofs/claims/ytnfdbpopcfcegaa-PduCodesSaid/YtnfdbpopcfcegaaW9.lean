/- Part 9 of the walk and of the plain law of PduCuts. -/
import Derived.Test.YtnfdbpopcfcegaaW8
set_option maxRecDepth 100000
set_option maxHeartbeats 0
set_option linter.unusedVariables false
set_option linter.unusedSimpArgs false
open Go Go.Abs
noncomputable section
namespace Gp
def O46 (l:List Int):Nat→Nat→Orc
 |1,1=>at4 l 0 1
 |1,4=>at4 l 1 1
 |2,1=>at4 l 2 2
 |6,2=>at4 l 8 4
 |10,1=>at4 l 8 1
 |11,1=>at4 l 16 4
 |11,4=>at4 l 12 4
 |11,7=>at4 l 9 1
 |11,11=>at4 l 10 1
 |13,1=>at4 l 8 1
 |14,1=>at4 l 28 4
 |14,4=>at4 l 12 8
 |14,6=>at4 l 20 8
 |14,9=>at4 l 9 1
 |14,13=>at4 l 10 1
 |16,2=>at4 l 8 4
 |17,1=>at4 l 12 4
 |17,4=>at4 l 16 4
 |17,7=>at4 l 20 4
 |19,1=>at4 l 2 1
 |20,1=>at4 l 8 4
 |20,4=>at4 l 12 1
 |27,2=>at4 l 8 4
 |30,1=>at4 l 2 1
 |31,1=>at4 l 8 4
 |_,_=>.no
def T46 (l:List Int):Tell:=
 (let q0:=IntKind.wrap IntKind.i64 (12+(↑(List.length (List.map u8 (partF l 12 (atF l 8 4)))):Int));let q1:=IntKind.wrap IntKind.i64 (16+(↑(List.length (List.map u8 (partF l 12 (atF l 8 4)))):Int));let q2:=atF l (Int.toNat q0) 4;let q3:=u64 (atF l (Int.toNat q0) (Int.toNat 4));let q4:=partF l q1 q2;let q5:=E33 l ((List.length l-8)/4-1);
 Tell.mk (fun x x_1=>false) (O46 l) (fun k=>if(k==22)=true then Tree.done (Exit.exit 1) (E22 l)else Tree.done (Exit.exit 3) q5) (fun x=>0) (fun k=>if(k==22)=true then([5,3,2,0],[0,8])else([6,3,2,0],[0,8])) (ogetO (O46 l) [(33,27,3,Orc.call [slE 1 u8 l,i64 12,u64 (atF l 8 4)] (slE 1 u8 (partF l 12 (atF l 8 4)))),(35,27,3,Orc.call [slE 1 u8 l,i64 12,u64 (atF l 8 4)] (slE 1 u8 (partF l 12 (atF l 8 4)))),(39,28,10,Orc.call [slE 1 u8 l,i64 q0,i64 4] q3),(41,28,10,Orc.call [slE 1 u8 l,i64 q0,i64 4] q3),(39,28,11,Orc.call [slE 1 u8 l,i64 q1,u64 q2] (slE 1 u8
 q4)),(41,28,11,Orc.call [slE 1 u8 l,i64 q1,u64 q2] (slE 1 u8 q4)),(39,28,12,Orc.tos q4),(41,28,12,Orc.tos q4)]) fun x k=>if(k==22)=true then Tree.done (Exit.exit 1) (E22 l)else Tree.done (Exit.exit 3) q5)
theorem t46 (l:List Int):levF prog Proofs.Try.f46 [slE 1 u8 l] (T46 l)=
 (let q17:=partF l 12 (atF l 8 4);let q0:=IntKind.wrap IntKind.i64 (12+(↑(List.length (List.map u8 q17)):Int));let q1:=IntKind.wrap IntKind.i64 (16+(↑(List.length (List.map u8 q17)):Int));let q2:=IntKind.wrap IntKind.u8 (atF l 0 1);let q3:=IntKind.wrap IntKind.u8 (atF l 1 1);let q4:=IntKind.wrap IntKind.u32 (atF l 8 4);let q5:=atF l (Int.toNat q0) 4;let q6:=IntKind.wrap IntKind.u16 (atF l 2 2);let q7:=decide (atF l 2 1=1);let q20:=List.length l-8;let q8:=List.map u32 (pvA l (q20/4-1));let q9:=u64 (atF l 8 4);let q10:=IntKind.wrap IntKind.u32 (atF l 16 4);let q11:=IntKind.wrap IntKind.i64 (atF l 10 1);let q12:=IntKind.wrap IntKind.i64 (atF l 12 1);let q13:=IntKind.wrap IntKind.i64 (atF l 9 1);let q14:=partF l q1 q5;let q15:=atF l 12 4;let q16:=decide (atF l 8 1=1);let q18:=decide (IntKind.wrap IntKind.u8 (atF l 1 1)=10);let q19:=decide (IntKind.wrap IntKind.u8 (atF l 1 1)=11);let q21:=decide (IntKind.wrap IntKind.u8 (atF l 1 1)=0);let q22:=decide (IntKind.wrap IntKind.u8 (atF l 1 1)=3);let q23:=decide (IntKind.wrap IntKind.u8 (atF l 1 1)=4);let q24:=decide (IntKind.wrap IntKind.u8 (atF l 1 1)=6);let q25:=decide (IntKind.wrap IntKind.u8 (atF l 1 1)=7);let q26:=decide (IntKind.wrap IntKind.u8 (atF l 1 1)=9);let q27:=u64 (atF l 16 4);let q28:=u64 (atF l 10 1);let q29:=u64 (atF l 8 1);let q30:=u64 (atF l 9 1);let q31:=u64 (atF l 2 1);let q32:=IntKind.wrap IntKind.u32 (atF l 28 4);let q33:=IntKind.wrap IntKind.u32 (atF l 20 4);
 Tree.need (ILeL [slE 1 u8 l,i64 0,i64 1] [slE 1 u8 l,i64 0,i64 1]∧ASpec prog 45 [slE 1 u8 l,i64 0,i64 1] (u64 (atF l 0 1))) (.need (ILeL [slE 1 u8 l,i64 1,i64 1] [slE 1 u8 l,i64 1,i64 1]∧ASpec prog 45 [slE 1 u8 l,i64 1,i64 1] (u64 (atF l 1 1))) (.need (ILeL [slE 1 u8 l,i64 2,i64 2] [slE 1 u8 l,i64 2,i64 2]∧ASpec prog 45 [slE 1 u8 l,i64 2,i64 2] (u64 (atF l 2 2))) (.br q21 (.br q21 (.need (ILeL [slE 1 u8 l,i64 8,i64 4] [slE 1 u8 l,i64 8,i64 4]∧ASpec prog 45 [slE 1 u8 l,i64 8,i64 4] q9) (.done Exit.ret (lret (.agg [u8 q2,u8 q3,u16 q6,u32 q4,bo false,u32 0,u8 0,u64 0,u64 0,i64 0,i64 0,u32
 0,nS,u32 0,u8 0,u8 0,u8 0,u8 0,u8 0,u8 0,u8 0,u8 0,u8 0,u8 0,u8 0,u8 0,u8 0,u8 0,u8 0,u8 0,i64 0,u32 0,u32 0,u32 0,u16 0,nS,st .empty])))) (.br q22 (.done Exit.ret (lret (.agg [u8 q2,u8 q3,u16 q6,u32 0,bo false,u32 0,u8 0,u64 0,u64 0,i64 0,i64 0,u32 0,nS,u32 0,u8 0,u8 0,u8 0,u8 0,u8 0,u8 0,u8 0,u8 0,u8 0,u8 0,u8 0,u8 0,u8 0,u8 0,u8 0,u8 0,i64 0,u32 0,u32 0,u32 0,u16 0,nS,st .empty]))) (.br q23 (.need (ILeL [slE 1 u8 l,i64 8,i64 1] [slE 1 u8 l,i64 8,i64 1]∧ASpec prog 45 [slE 1 u8 l,i64 8,i64 1] q29) (.need (ILeL [slE 1 u8 l,i64 16,i64 4] [slE 1 u8 l,i64 16,i64 4]∧ASpec prog 45 [slE 1 u8
 l,i64 16,i64 4] q27) (.need (ILeL [slE 1 u8 l,i64 12,i64 4] [slE 1 u8 l,i64 12,i64 4]∧ASpec prog 45 [slE 1 u8 l,i64 12,i64 4] (u64 q15)) (.need (ILeL [slE 1 u8 l,i64 9,i64 1] [slE 1 u8 l,i64 9,i64 1]∧ASpec prog 45 [slE 1 u8 l,i64 9,i64 1] q30) (.need (ILeL [slE 1 u8 l,i64 10,i64 1] [slE 1 u8 l,i64 10,i64 1]∧ASpec prog 45 [slE 1 u8 l,i64 10,i64 1] q28) (.done Exit.ret (lret (.agg [u8 q2,u8 q3,u16 0,u32 0,bo q16,u32 q10,u8 4,u64 0,u64 q15,i64 q13,i64 q11,u32 0,nS,u32 0,u8 0,u8 0,u8 0,u8 0,u8 0,u8 0,u8 0,u8 0,u8 0,u8 0,u8 0,u8 0,u8 0,u8 0,u8 0,u8 0,i64 0,u32 0,u32 0,u32 0,u16 0,nS,st
 .empty])))))))) (.br q24 (.need (ILeL [slE 1 u8 l,i64 8,i64 1] [slE 1 u8 l,i64 8,i64 1]∧ASpec prog 45 [slE 1 u8 l,i64 8,i64 1] q29) (.need (ILeL [slE 1 u8 l,i64 28,i64 4] [slE 1 u8 l,i64 28,i64 4]∧ASpec prog 45 [slE 1 u8 l,i64 28,i64 4] (u64 (atF l 28 4))) (.need (ILeL [slE 1 u8 l,i64 12,i64 8] [slE 1 u8 l,i64 12,i64 8]∧ASpec prog 45 [slE 1 u8 l,i64 12,i64 8] (u64 (atF l 12 8))) (.need (ILeL [slE 1 u8 l,i64 20,i64 8] [slE 1 u8 l,i64 20,i64 8]∧ASpec prog 45 [slE 1 u8 l,i64 20,i64 8] (u64 (atF l 20 8))) (.need (ILeL [slE 1 u8 l,i64 9,i64 1] [slE 1 u8 l,i64 9,i64 1]∧ASpec prog 45 [slE 1
 u8 l,i64 9,i64 1] q30) (.need (ILeL [slE 1 u8 l,i64 10,i64 1] [slE 1 u8 l,i64 10,i64 1]∧ASpec prog 45 [slE 1 u8 l,i64 10,i64 1] q28) (.done Exit.ret (lret (.agg [u8 q2,u8 q3,u16 0,u32 0,bo q16,u32 q32,u8 6,u64 (atF l 12 8),u64 (atF l 20 8),i64 q13,i64 q11,u32 0,nS,u32 0,u8 0,u8 0,u8 0,u8 0,u8 0,u8 0,u8 0,u8 0,u8 0,u8 0,u8 0,u8 0,u8 0,u8 0,u8 0,u8 0,i64 0,u32 0,u32 0,u32 0,u16 0,nS,st .empty]))))))))) (.br q25 (.need (ILeL [slE 1 u8 l,i64 8,i64 4] [slE 1 u8 l,i64 8,i64 4]∧ASpec prog 45 [slE 1 u8 l,i64 8,i64 4] q9) (.need (ILeL [slE 1 u8 l,i64 12,i64 4] [slE 1 u8 l,i64 12,i64 4]∧ASpec prog
 45 [slE 1 u8 l,i64 12,i64 4] (u64 q15)) (.need (ILeL [slE 1 u8 l,i64 16,i64 4] [slE 1 u8 l,i64 16,i64 4]∧ASpec prog 45 [slE 1 u8 l,i64 16,i64 4] q27) (.need (ILeL [slE 1 u8 l,i64 20,i64 4] [slE 1 u8 l,i64 20,i64 4]∧ASpec prog 45 [slE 1 u8 l,i64 20,i64 4] (u64 (atF l 20 4))) (.done Exit.ret (lret (.agg [u8 q2,u8 q3,u16 q6,u32 q4,bo false,u32 0,u8 0,u64 0,u64 0,i64 0,i64 0,u32 0,nS,u32 0,u8 0,u8 0,u8 0,u8 0,u8 0,u8 0,u8 0,u8 0,u8 0,u8 0,u8 0,u8 0,u8 0,u8 0,u8 0,u8 0,i64 0,u32 (IntKind.wrap IntKind.u32 q15),u32 q10,u32 q33,u16 0,nS,st .empty]))))))) (.br q26 (.need (ILeL [slE 1 u8 l,i64 2,i64
 1] [slE 1 u8 l,i64 2,i64 1]∧ASpec prog 45 [slE 1 u8 l,i64 2,i64 1] q31) (.need (ILeL [slE 1 u8 l,i64 8,i64 4] [slE 1 u8 l,i64 8,i64 4]∧ASpec prog 45 [slE 1 u8 l,i64 8,i64 4] q9) (.need (ILeL [slE 1 u8 l,i64 12,i64 1] [slE 1 u8 l,i64 12,i64 1]∧ASpec prog 45 [slE 1 u8 l,i64 12,i64 1] (u64 (atF l 12 1))) (.loop 22 (LState.mk [(5,.imm (i64 0)),(3,.ptr 8 0),(2,.ptr 0 0),(0,.imm (slE 1 u8 l))] [(0,Entry.box 42 (.imm (.agg [u8 0,u8 0,u16 0,u32 0,bo false,u32 0,u8 0,u64 0,u64 0,i64 0,i64 0,u32 0,nS,u32 0,u8 0,u8 0,u8 0,u8 0,u8 0,u8 0,u8 0,u8 0,u8 0,u8 0,u8 0,u8 0,u8 0,u8 0,u8 0,u8 0,i64 0,u32
 0,u32 0,u32 0,u16 0,nS,st .empty]))),(8,Entry.box 42 (.agg [.imm (u8 q2),.imm (u8 q3),.imm (u16 0),.imm (u32 0),.imm (bo q7),.imm (u32 0),.imm (u8 0),.imm (u64 0),.imm (u64 0),.imm (i64 0),.imm (i64 0),.imm (u32 0),.imm nS,.imm (u32 q4),.imm (u8 0),.imm (u8 0),.imm (u8 0),.imm (u8 0),.imm (u8 0),.imm (u8 0),.imm (u8 0),.imm (u8 0),.imm (u8 0),.imm (u8 0),.imm (u8 0),.imm (u8 0),.imm (u8 0),.imm (u8 0),.imm (u8 0),.imm (u8 0),.imm (i64 q12),.imm (u32 0),.imm (u32 0),.imm (u32 0),.imm (u16 0),.imm nS,.imm (st .empty)]))] 178 44 []) (.done (Exit.exit 1) (E22 l)) (.done Exit.ret (lret (.agg [u8
 q2,u8 q3,u16 0,u32 0,bo q7,u32 0,u8 0,u64 0,u64 0,i64 0,i64 0,u32 0,nS,u32 q4,u8 (rR l 16 0),u8 (rR l 16 1),u8 (rR l 16 2),u8 (rR l 16 3),u8 (rR l 16 4),u8 (rR l 16 5),u8 (rR l 16 6),u8 (rR l 16 7),u8 (rR l 16 8),u8 (rR l 16 9),u8 (rR l 16 10),u8 (rR l 16 11),u8 (rR l 16 12),u8 (rR l 16 13),u8 (rR l 16 14),u8 (rR l 16 15),i64 q12,u32 0,u32 0,u32 0,u16 0,nS,st (ByteArray.mk (Array.mk []))]))))))) (.br q18 (.need (ILeL [slE 1 u8 l,i64 8,i64 4] [slE 1 u8 l,i64 8,i64 4]∧ASpec prog 45 [slE 1 u8 l,i64 8,i64 4] q9) (.need (ILeL [slE 1 u8 l,i64 12,u64 (atF l 8 4)] [slE 1 u8 l,i64 12,u64 (atF l 8 4)]
 ∧ASpec prog 84 [slE 1 u8 l,i64 12,u64 (atF l 8 4)] (slE 1 u8 q17)) (.need (ILeL [slE 1 u8 l,i64 q0,i64 4] [slE 1 u8 l,i64 q0,i64 4]∧ASpec prog 45 [slE 1 u8 l,i64 q0,i64 4] (u64 q5)) (.need (ILeL [slE 1 u8 l,i64 q1,u64 q5] [slE 1 u8 l,i64 q1,u64 q5]∧ASpec prog 84 [slE 1 u8 l,i64 q1,u64 q5] (slE 1 u8 q14)) (.need (List.map u8 q14=List.map (fun n=>u8 n) q14) (.done Exit.ret (lret (.agg [u8 q2,u8 q3,u16 0,u32 0,bo false,u32 0,u8 0,u64 0,u64 0,i64 0,i64 0,u32 0,nS,u32 0,u8 0,u8 0,u8 0,u8 0,u8 0,u8 0,u8 0,u8 0,u8 0,u8 0,u8 0,u8 0,u8 0,u8 0,u8 0,u8 0,i64 0,u32 0,u32 0,u32 0,u16 q6,slE 1 u8
 q17,.v (Value.string (bstr q14))])))))))) (.br q19 (.need (ILeL [slE 1 u8 l,i64 2,i64 1] [slE 1 u8 l,i64 2,i64 1]∧ASpec prog 45 [slE 1 u8 l,i64 2,i64 1] q31) (.need (ILeL [slE 1 u8 l,i64 8,i64 4] [slE 1 u8 l,i64 8,i64 4]∧ASpec prog 45 [slE 1 u8 l,i64 8,i64 4] q9) (.loop 33 (LState.mk [(6,.imm (i64 12)),(3,.ptr 8 0),(2,.ptr 0 0),(0,.imm (slE 1 u8 l))] [(0,Entry.box 42 (.imm (.agg [u8 0,u8 0,u16 0,u32 0,bo false,u32 0,u8 0,u64 0,u64 0,i64 0,i64 0,u32 0,nS,u32 0,u8 0,u8 0,u8 0,u8 0,u8 0,u8 0,u8 0,u8 0,u8 0,u8 0,u8 0,u8 0,u8 0,u8 0,u8 0,u8 0,i64 0,u32 0,u32 0,u32 0,u16 0,nS,st
 .empty]))),(8,Entry.box 42 (.agg [.imm (u8 q2),.imm (u8 q3),.imm (u16 0),.imm (u32 0),.imm (bo q7),.imm (u32 0),.imm (u8 0),.imm (u64 0),.imm (u64 0),.imm (i64 0),.imm (i64 0),.imm (u32 q4),.imm nS,.imm (u32 0),.imm (u8 0),.imm (u8 0),.imm (u8 0),.imm (u8 0),.imm (u8 0),.imm (u8 0),.imm (u8 0),.imm (u8 0),.imm (u8 0),.imm (u8 0),.imm (u8 0),.imm (u8 0),.imm (u8 0),.imm (u8 0),.imm (u8 0),.imm (u8 0),.imm (i64 0),.imm (u32 0),.imm (u32 0),.imm (u32 0),.imm (u16 0),.imm nS,.imm (st .empty)]))] 178 44 []) (.done (Exit.exit 3) (E33 l (q20/4-1))) (.need (eqs [(q20/4-1,List.length q8)])
 (.done Exit.ret (lret (.agg [u8 q2,u8 q3,u16 0,u32 0,bo q7,u32 0,u8 0,u64 0,u64 0,i64 0,i64 0,u32 q4,.sl true false 1 q8,u32 0,u8 0,u8 0,u8 0,u8 0,u8 0,u8 0,u8 0,u8 0,u8 0,u8 0,u8 0,u8 0,u8 0,u8 0,u8 0,u8 0,i64 0,u32 0,u32 0,u32 0,u16 0,nS,st (ByteArray.mk (Array.mk []))]))))))) (.done Exit.ret (lret (.agg [u8 q2,u8 q3,u16 0,u32 0,bo false,u32 0,u8 0,u64 0,u64 0,i64 0,i64 0,u32 0,nS,u32 0,u8 0,u8 0,u8 0,u8 0,u8 0,u8 0,u8 0,u8 0,u8 0,u8 0,u8 0,u8 0,u8 0,u8 0,u8 0,u8 0,i64 0,u32 0,u32 0,u32 0,u16 0,nS,st .empty]))))))))))) (.br (decide (IntKind.wrap IntKind.u8 (atF l 1 1)=1)) (.need (ILeL [slE
 1 u8 l,i64 8,i64 4] [slE 1 u8 l,i64 8,i64 4]∧ASpec prog 45 [slE 1 u8 l,i64 8,i64 4] q9) (.done Exit.ret (lret (.agg [u8 q2,u8 q3,u16 q6,u32 q4,bo false,u32 0,u8 0,u64 0,u64 0,i64 0,i64 0,u32 0,nS,u32 0,u8 0,u8 0,u8 0,u8 0,u8 0,u8 0,u8 0,u8 0,u8 0,u8 0,u8 0,u8 0,u8 0,u8 0,u8 0,u8 0,i64 0,u32 0,u32 0,u32 0,u16 0,nS,st .empty])))) (.br q22 (.done Exit.ret (lret (.agg [u8 q2,u8 q3,u16 q6,u32 0,bo false,u32 0,u8 0,u64 0,u64 0,i64 0,i64 0,u32 0,nS,u32 0,u8 0,u8 0,u8 0,u8 0,u8 0,u8 0,u8 0,u8 0,u8 0,u8 0,u8 0,u8 0,u8 0,u8 0,u8 0,u8 0,i64 0,u32 0,u32 0,u32 0,u16 0,nS,st .empty]))) (.br q23 (.need
 (ILeL [slE 1 u8 l,i64 8,i64 1] [slE 1 u8 l,i64 8,i64 1]∧ASpec prog 45 [slE 1 u8 l,i64 8,i64 1] q29) (.need (ILeL [slE 1 u8 l,i64 16,i64 4] [slE 1 u8 l,i64 16,i64 4]∧ASpec prog 45 [slE 1 u8 l,i64 16,i64 4] q27) (.need (ILeL [slE 1 u8 l,i64 12,i64 4] [slE 1 u8 l,i64 12,i64 4]∧ASpec prog 45 [slE 1 u8 l,i64 12,i64 4] (u64 q15)) (.need (ILeL [slE 1 u8 l,i64 9,i64 1] [slE 1 u8 l,i64 9,i64 1]∧ASpec prog 45 [slE 1 u8 l,i64 9,i64 1] q30) (.need (ILeL [slE 1 u8 l,i64 10,i64 1] [slE 1 u8 l,i64 10,i64 1]∧ASpec prog 45 [slE 1 u8 l,i64 10,i64 1] q28) (.done Exit.ret (lret (.agg [u8 q2,u8 q3,u16
 0,u32 0,bo q16,u32 q10,u8 4,u64 0,u64 q15,i64 q13,i64 q11,u32 0,nS,u32 0,u8 0,u8 0,u8 0,u8 0,u8 0,u8 0,u8 0,u8 0,u8 0,u8 0,u8 0,u8 0,u8 0,u8 0,u8 0,u8 0,i64 0,u32 0,u32 0,u32 0,u16 0,nS,st .empty])))))))) (.br q24 (.need (ILeL [slE 1 u8 l,i64 8,i64 1] [slE 1 u8 l,i64 8,i64 1]∧ASpec prog 45 [slE 1 u8 l,i64 8,i64 1] q29) (.need (ILeL [slE 1 u8 l,i64 28,i64 4] [slE 1 u8 l,i64 28,i64 4]∧ASpec prog 45 [slE 1 u8 l,i64 28,i64 4] (u64 (atF l 28 4))) (.need (ILeL [slE 1 u8 l,i64 12,i64 8] [slE 1 u8 l,i64 12,i64 8]∧ASpec prog 45 [slE 1 u8 l,i64 12,i64 8] (u64 (atF l 12 8))) (.need (ILeL [slE 1 u8
 l,i64 20,i64 8] [slE 1 u8 l,i64 20,i64 8]∧ASpec prog 45 [slE 1 u8 l,i64 20,i64 8] (u64 (atF l 20 8))) (.need (ILeL [slE 1 u8 l,i64 9,i64 1] [slE 1 u8 l,i64 9,i64 1]∧ASpec prog 45 [slE 1 u8 l,i64 9,i64 1] q30) (.need (ILeL [slE 1 u8 l,i64 10,i64 1] [slE 1 u8 l,i64 10,i64 1]∧ASpec prog 45 [slE 1 u8 l,i64 10,i64 1] q28) (.done Exit.ret (lret (.agg [u8 q2,u8 q3,u16 0,u32 0,bo q16,u32 q32,u8 6,u64 (atF l 12 8),u64 (atF l 20 8),i64 q13,i64 q11,u32 0,nS,u32 0,u8 0,u8 0,u8 0,u8 0,u8 0,u8 0,u8 0,u8 0,u8 0,u8 0,u8 0,u8 0,u8 0,u8 0,u8 0,u8 0,i64 0,u32 0,u32 0,u32 0,u16 0,nS,st .empty]))))))))) (.br
 q25 (.need (ILeL [slE 1 u8 l,i64 8,i64 4] [slE 1 u8 l,i64 8,i64 4]∧ASpec prog 45 [slE 1 u8 l,i64 8,i64 4] q9) (.need (ILeL [slE 1 u8 l,i64 12,i64 4] [slE 1 u8 l,i64 12,i64 4]∧ASpec prog 45 [slE 1 u8 l,i64 12,i64 4] (u64 q15)) (.need (ILeL [slE 1 u8 l,i64 16,i64 4] [slE 1 u8 l,i64 16,i64 4]∧ASpec prog 45 [slE 1 u8 l,i64 16,i64 4] q27) (.need (ILeL [slE 1 u8 l,i64 20,i64 4] [slE 1 u8 l,i64 20,i64 4]∧ASpec prog 45 [slE 1 u8 l,i64 20,i64 4] (u64 (atF l 20 4))) (.done Exit.ret (lret (.agg [u8 q2,u8 q3,u16 q6,u32 q4,bo false,u32 0,u8 0,u64 0,u64 0,i64 0,i64 0,u32 0,nS,u32 0,u8 0,u8 0,u8 0,u8
 0,u8 0,u8 0,u8 0,u8 0,u8 0,u8 0,u8 0,u8 0,u8 0,u8 0,u8 0,u8 0,i64 0,u32 (IntKind.wrap IntKind.u32 q15),u32 q10,u32 q33,u16 0,nS,st .empty]))))))) (.br q26 (.need (ILeL [slE 1 u8 l,i64 2,i64 1] [slE 1 u8 l,i64 2,i64 1]∧ASpec prog 45 [slE 1 u8 l,i64 2,i64 1] q31) (.need (ILeL [slE 1 u8 l,i64 8,i64 4] [slE 1 u8 l,i64 8,i64 4]∧ASpec prog 45 [slE 1 u8 l,i64 8,i64 4] q9) (.need (ILeL [slE 1 u8 l,i64 12,i64 1] [slE 1 u8 l,i64 12,i64 1]∧ASpec prog 45 [slE 1 u8 l,i64 12,i64 1] (u64 (atF l 12 1))) (.loop 22 (LState.mk [(5,.imm (i64 0)),(3,.ptr 8 0),(2,.ptr 0 0),(0,.imm (slE 1 u8 l))] [(0,Entry.box
 42 (.imm (.agg [u8 0,u8 0,u16 0,u32 0,bo false,u32 0,u8 0,u64 0,u64 0,i64 0,i64 0,u32 0,nS,u32 0,u8 0,u8 0,u8 0,u8 0,u8 0,u8 0,u8 0,u8 0,u8 0,u8 0,u8 0,u8 0,u8 0,u8 0,u8 0,u8 0,i64 0,u32 0,u32 0,u32 0,u16 0,nS,st .empty]))),(8,Entry.box 42 (.agg [.imm (u8 q2),.imm (u8 q3),.imm (u16 0),.imm (u32 0),.imm (bo q7),.imm (u32 0),.imm (u8 0),.imm (u64 0),.imm (u64 0),.imm (i64 0),.imm (i64 0),.imm (u32 0),.imm nS,.imm (u32 q4),.imm (u8 0),.imm (u8 0),.imm (u8 0),.imm (u8 0),.imm (u8 0),.imm (u8 0),.imm (u8 0),.imm (u8 0),.imm (u8 0),.imm (u8 0),.imm (u8 0),.imm (u8 0),.imm (u8 0),.imm (u8 0),.imm (u8
 0),.imm (u8 0),.imm (i64 q12),.imm (u32 0),.imm (u32 0),.imm (u32 0),.imm (u16 0),.imm nS,.imm (st .empty)]))] 178 46 []) (.done (Exit.exit 1) (E22 l)) (.done Exit.ret (lret (.agg [u8 q2,u8 q3,u16 0,u32 0,bo q7,u32 0,u8 0,u64 0,u64 0,i64 0,i64 0,u32 0,nS,u32 q4,u8 (rR l 16 0),u8 (rR l 16 1),u8 (rR l 16 2),u8 (rR l 16 3),u8 (rR l 16 4),u8 (rR l 16 5),u8 (rR l 16 6),u8 (rR l 16 7),u8 (rR l 16 8),u8 (rR l 16 9),u8 (rR l 16 10),u8 (rR l 16 11),u8 (rR l 16 12),u8 (rR l 16 13),u8 (rR l 16 14),u8 (rR l 16 15),i64 q12,u32 0,u32 0,u32 0,u16 0,nS,st (ByteArray.mk (Array.mk []))]))))))) (.br q18 (.need
 (ILeL [slE 1 u8 l,i64 8,i64 4] [slE 1 u8 l,i64 8,i64 4]∧ASpec prog 45 [slE 1 u8 l,i64 8,i64 4] q9) (.need (ILeL [slE 1 u8 l,i64 12,u64 (atF l 8 4)] [slE 1 u8 l,i64 12,u64 (atF l 8 4)]∧ASpec prog 84 [slE 1 u8 l,i64 12,u64 (atF l 8 4)] (slE 1 u8 q17)) (.need (ILeL [slE 1 u8 l,i64 q0,i64 4] [slE 1 u8 l,i64 q0,i64 4]∧ASpec prog 45 [slE 1 u8 l,i64 q0,i64 4] (u64 q5)) (.need (ILeL [slE 1 u8 l,i64 q1,u64 q5] [slE 1 u8 l,i64 q1,u64 q5]∧ASpec prog 84 [slE 1 u8 l,i64 q1,u64 q5] (slE 1 u8 q14)) (.need (List.map u8 q14=List.map (fun n=>u8 n) q14) (.done Exit.ret (lret (.agg [u8 q2,u8 q3,u16
 0,u32 0,bo false,u32 0,u8 0,u64 0,u64 0,i64 0,i64 0,u32 0,nS,u32 0,u8 0,u8 0,u8 0,u8 0,u8 0,u8 0,u8 0,u8 0,u8 0,u8 0,u8 0,u8 0,u8 0,u8 0,u8 0,u8 0,i64 0,u32 0,u32 0,u32 0,u16 q6,slE 1 u8 q17,.v (Value.string (bstr q14))])))))))) (.br q19 (.need (ILeL [slE 1 u8 l,i64 2,i64 1] [slE 1 u8 l,i64 2,i64 1]∧ASpec prog 45 [slE 1 u8 l,i64 2,i64 1] q31) (.need (ILeL [slE 1 u8 l,i64 8,i64 4] [slE 1 u8 l,i64 8,i64 4]∧ASpec prog 45 [slE 1 u8 l,i64 8,i64 4] q9) (.loop 33 (LState.mk [(6,.imm (i64 12)),(3,.ptr 8 0),(2,.ptr 0 0),(0,.imm (slE 1 u8 l))] [(0,Entry.box 42 (.imm (.agg [u8 0,u8 0,u16 0,u32 0,bo
 false,u32 0,u8 0,u64 0,u64 0,i64 0,i64 0,u32 0,nS,u32 0,u8 0,u8 0,u8 0,u8 0,u8 0,u8 0,u8 0,u8 0,u8 0,u8 0,u8 0,u8 0,u8 0,u8 0,u8 0,u8 0,i64 0,u32 0,u32 0,u32 0,u16 0,nS,st .empty]))),(8,Entry.box 42 (.agg [.imm (u8 q2),.imm (u8 q3),.imm (u16 0),.imm (u32 0),.imm (bo q7),.imm (u32 0),.imm (u8 0),.imm (u64 0),.imm (u64 0),.imm (i64 0),.imm (i64 0),.imm (u32 q4),.imm nS,.imm (u32 0),.imm (u8 0),.imm (u8 0),.imm (u8 0),.imm (u8 0),.imm (u8 0),.imm (u8 0),.imm (u8 0),.imm (u8 0),.imm (u8 0),.imm (u8 0),.imm (u8 0),.imm (u8 0),.imm (u8 0),.imm (u8 0),.imm (u8 0),.imm (u8 0),.imm (i64 0),.imm (u32
 0),.imm (u32 0),.imm (u32 0),.imm (u16 0),.imm nS,.imm (st .empty)]))] 178 46 []) (.done (Exit.exit 3) (E33 l (q20/4-1))) (.need (eqs [(q20/4-1,List.length q8)]) (.done Exit.ret (lret (.agg [u8 q2,u8 q3,u16 0,u32 0,bo q7,u32 0,u8 0,u64 0,u64 0,i64 0,i64 0,u32 q4,.sl true false 1 q8,u32 0,u8 0,u8 0,u8 0,u8 0,u8 0,u8 0,u8 0,u8 0,u8 0,u8 0,u8 0,u8 0,u8 0,u8 0,u8 0,u8 0,i64 0,u32 0,u32 0,u32 0,u16 0,nS,st (ByteArray.mk (Array.mk []))]))))))) (.done Exit.ret (lret (.agg [u8 q2,u8 q3,u16 0,u32 0,bo false,u32 0,u8 0,u64 0,u64 0,i64 0,i64 0,u32 0,nS,u32 0,u8 0,u8 0,u8 0,u8 0,u8 0,u8 0,u8 0,u8
 0,u8 0,u8 0,u8 0,u8 0,u8 0,u8 0,u8 0,u8 0,i64 0,u32 0,u32 0,u32 0,u16 0,nS,st .empty]))))))))))))))):=by kernel_rfl
end Gp
namespace Gp
theorem partF_len (l:List Int)(i n:Int):(partF l i n).length≤l.length:=by
 unfold partF;split
 ·exact Nat.zero_le _
 split
 ·exact Nat.zero_le _
 ·simp;omega
theorem rrF_0 {l:List Int}(h:rrK l=0∨rrK l=1):rr0 l=rrF l:=(if_pos h).symm
theorem rrF_3 {l:List Int}(h:rrK l=3):z1 (rrV l) (rrK l) (rrX l) false 0=rrF l:=by unfold rrF;rw[if_neg (by omega),if_pos h]
theorem rrF_4 {l:List Int}(h:rrK l=4):rr4 l=rrF l:=by unfold rrF;rw[if_neg (by omega),if_neg (by omega),if_pos h]
theorem rrF_6 {l:List Int}(h:rrK l=6):rr6 l=rrF l:=by unfold rrF;rw[if_neg (by omega),if_neg (by omega),if_neg (by omega),if_pos h]
theorem rrF_7 {l:List Int}(h:rrK l=7):rr7 l=rrF l:=by unfold rrF;rw[if_neg (by omega),if_neg (by omega),if_neg (by omega),if_neg (by omega),if_pos h]
theorem rrF_9 {l:List Int}(h:rrK l=9):rr9 l=rrF l:=by unfold rrF;rw[if_neg (by omega),if_neg (by omega),if_neg (by omega),if_neg (by omega),if_neg (by omega),if_pos h]
theorem rrF_10 {l:List Int}(h:rrK l=10):rr10 l=rrF l:=by unfold rrF;rw[if_neg (by omega),if_neg (by omega),if_neg (by omega),if_neg (by omega),if_neg (by omega),if_neg (by omega),if_pos h]
theorem rrF_11 {l:List Int}(h:rrK l=11):rr11 l=rrF l:=by unfold rrF;rw[if_neg (by omega),if_neg (by omega),if_neg (by omega),if_neg (by omega),if_neg (by omega),if_neg (by omega),if_neg (by omega),if_pos h]
theorem rrF_n {l:List Int}(h:¬(rrK l=0∨rrK l=1∨rrK l=3∨rrK l=4∨rrK l=6∨rrK l=7∨rrK l=9∨rrK l=10∨rrK l=11)):z1 (rrV l) (rrK l) 0 false 0=rrF l:=by
 unfold rrF;rw[if_neg (by omega),if_neg (by omega),if_neg (by omega),if_neg (by omega),if_neg (by omega),if_neg (by omega),if_neg (by omega),if_neg (by omega)]
theorem c46 (l:List Int)(hl:l.length≤1000000)(hz8:8≤l.length):ASpec prog 46 [slE 1 u8 l] (encD (rrF l)):=by
 refine ASpec.treeW Proofs.Try.f46 (T46 l) (by kernel_rfl) (by kernel_rfl) (t46 l) ?_
 have hc:=partF_len l 12 (atF l 8 4)
 have q12:IntKind.i64.wrap (12+((List.map u8 (partF l 12 (atF l 8 4))).length:Int))=((12+(rrC l).length:Nat):Int):=by
  rw[List.length_map,IntWalk.i64_in _ (by omega)];unfold rrC;omega
 have q16:IntKind.i64.wrap (16+((List.map u8 (partF l 12 (atF l 8 4))).length:Int))=16+((rrC l).length:Int):=by
  rw[List.length_map,IntWalk.i64_in _ (by omega)];rfl
 have hcr:(rrC l).length≤l.length:=hc
 try dsimp-proj-iota-eta only
 rw[q12,q16,Int.toNat_natCast]
 refine need_sat ⟨ILeL.refl _,c45 _ _ _ ?_ ?_ ?_ ?_ ?_⟩ (need_sat ⟨ILeL.refl _,c45 _ _ _ ?_ ?_ ?_ ?_ ?_⟩ (need_sat ⟨ILeL.refl _,c45 _ _ _ ?_ ?_ ?_ ?_ ?_⟩ ⟨fun h1=>⟨fun h2=>need_sat ⟨ILeL.refl _,c45 _ _ _ ?_ ?_ ?_ ?_ ?_⟩ ⟨_,rfl,?_⟩,fun h2=>⟨fun h3=>⟨_,rfl,?_⟩,fun h3=>⟨fun h4=>need_sat ⟨ILeL.refl _,c45 _ _ _ ?_ ?_ ?_ ?_ ?_⟩ (need_sat ⟨ILeL.refl _,c45 _ _ _ ?_ ?_ ?_ ?_ ?_⟩ (need_sat ⟨ILeL.refl _,c45 _ _ _ ?_ ?_ ?_ ?_ ?_⟩ (need_sat ⟨ILeL.refl _,c45 _ _ _ ?_ ?_ ?_ ?_ ?_⟩ (need_sat ⟨ILeL.refl _,c45 _ _ _ ?_ ?_ ?_ ?_ ?_⟩ ⟨_,rfl,?_⟩)))),fun h4=>⟨fun h5=>need_sat ⟨ILeL.refl _,c45 _ _ _ ?_ ?_ ?_ ?_ ?_⟩ (need_sat ⟨ILeL.refl _,c45 _ _ _ ?_ ?_ ?_ ?_ ?_⟩ (need_sat ⟨ILeL.refl _,c45 _ _ _ ?_ ?_ ?_ ?_ ?_⟩ (need_sat ⟨ILeL.refl _,c45 _ _ _ ?_ ?_ ?_ ?_ ?_⟩ (need_sat ⟨ILeL.refl _,c45 _ _ _ ?_ ?_ ?_ ?_ ?_⟩ (need_sat ⟨ILeL.refl _,c45 _ _ _ ?_ ?_ ?_ ?_ ?_⟩ ⟨_,rfl,?_⟩))))),fun h5=>⟨fun h6=>need_sat ⟨ILeL.refl _,c45 _ _ _ ?_ ?_ ?_ ?_ ?_⟩ (need_sat ⟨ILeL.refl _,c45 _ _ _ ?_ ?_ ?_ ?_ ?_⟩ (need_sat ⟨ILeL.refl _,c45 _ _ _ ?_ ?_ ?_ ?_ ?_⟩ (need_sat ⟨ILeL.refl _,c45 _ _ _ ?_ ?_ ?_ ?_ ?_⟩ ⟨_,rfl,?_⟩))),fun h6=>⟨fun h7=>need_sat ⟨ILeL.refl _,c45 _ _ _ ?_ ?_ ?_ ?_ ?_⟩ (need_sat ⟨ILeL.refl _,c45 _ _ _ ?_ ?_ ?_ ?_ ?_⟩ (need_sat ⟨ILeL.refl _,c45 _ _ _ ?_ ?_ ?_ ?_ ?_⟩ ⟨?_,⟨_,rfl,?_⟩⟩)),fun h7=>⟨fun h8=>need_sat ⟨ILeL.refl _,c45 _ _ _ ?_ ?_ ?_ ?_ ?_⟩ (need_sat ⟨ILeL.refl _,c84 _ _ _ ?_ ?_ ?_ ?_⟩ (need_sat ⟨ILeL.refl _,c45 _ _ _ ?_ ?_ ?_ ?_ ?_⟩ (need_sat ⟨ILeL.refl _,c84 _ _ _ ?_ ?_ ?_ ?_⟩ (need_sat ?_ ⟨_,rfl,?_⟩)))),fun h8=>⟨fun h9=>need_sat ⟨ILeL.refl _,c45 _ _ _ ?_ ?_ ?_ ?_ ?_⟩ (need_sat ⟨ILeL.refl _,c45 _ _ _ ?_ ?_ ?_ ?_ ?_⟩ ⟨?_,need_sat ?_ ⟨_,rfl,?_⟩⟩),fun h9=>⟨_,rfl,?_⟩⟩⟩⟩⟩⟩⟩⟩⟩,fun h1=>⟨fun h2=>need_sat ⟨ILeL.refl _,c45 _ _ _ ?_ ?_ ?_ ?_ ?_⟩ ⟨_,rfl,?_⟩,fun h2=>⟨fun h3=>⟨_,rfl,?_⟩,fun h3=>⟨fun h4=>need_sat ⟨ILeL.refl _,c45 _ _ _ ?_ ?_ ?_ ?_ ?_⟩ (need_sat ⟨ILeL.refl _,c45 _ _ _ ?_ ?_ ?_ ?_ ?_⟩ (need_sat ⟨ILeL.refl _,c45 _ _ _ ?_ ?_ ?_ ?_ ?_⟩ (need_sat ⟨ILeL.refl _,c45 _ _ _ ?_ ?_ ?_ ?_ ?_⟩ (need_sat ⟨ILeL.refl _,c45 _ _ _ ?_ ?_ ?_ ?_ ?_⟩ ⟨_,rfl,?_⟩)))),fun h4=>⟨fun h5=>need_sat ⟨ILeL.refl _,c45 _ _ _ ?_ ?_ ?_ ?_ ?_⟩ (need_sat ⟨ILeL.refl _,c45 _ _ _ ?_ ?_ ?_ ?_ ?_⟩ (need_sat ⟨ILeL.refl _,c45 _ _ _ ?_ ?_ ?_ ?_ ?_⟩ (need_sat ⟨ILeL.refl _,c45 _ _ _ ?_ ?_ ?_ ?_ ?_⟩ (need_sat ⟨ILeL.refl _,c45 _ _ _ ?_ ?_ ?_ ?_ ?_⟩ (need_sat ⟨ILeL.refl _,c45 _ _ _ ?_ ?_ ?_ ?_ ?_⟩ ⟨_,rfl,?_⟩))))),fun h5=>⟨fun h6=>need_sat ⟨ILeL.refl _,c45 _ _ _ ?_ ?_ ?_ ?_ ?_⟩ (need_sat ⟨ILeL.refl _,c45 _ _ _ ?_ ?_ ?_ ?_ ?_⟩ (need_sat ⟨ILeL.refl _,c45 _ _ _ ?_ ?_ ?_ ?_ ?_⟩ (need_sat ⟨ILeL.refl _,c45 _ _ _ ?_ ?_ ?_ ?_ ?_⟩ ⟨_,rfl,?_⟩))),fun h6=>⟨fun h7=>need_sat ⟨ILeL.refl _,c45 _ _ _ ?_ ?_ ?_ ?_ ?_⟩ (need_sat ⟨ILeL.refl _,c45 _ _ _ ?_ ?_ ?_ ?_ ?_⟩ (need_sat ⟨ILeL.refl _,c45 _ _ _ ?_ ?_ ?_ ?_ ?_⟩ ⟨?_,⟨_,rfl,?_⟩⟩)),fun h7=>⟨fun h8=>need_sat ⟨ILeL.refl _,c45 _ _ _ ?_ ?_ ?_ ?_ ?_⟩ (need_sat ⟨ILeL.refl _,c84 _ _ _ ?_ ?_ ?_ ?_⟩ (need_sat ⟨ILeL.refl _,c45 _ _ _ ?_ ?_ ?_ ?_ ?_⟩ (need_sat ⟨ILeL.refl _,c84 _ _ _ ?_ ?_ ?_ ?_⟩ (need_sat ?_ ⟨_,rfl,?_⟩)))),fun h8=>⟨fun h9=>need_sat ⟨ILeL.refl _,c45 _ _ _ ?_ ?_ ?_ ?_ ?_⟩ (need_sat ⟨ILeL.refl _,c45 _ _ _ ?_ ?_ ?_ ?_ ?_⟩ ⟨?_,need_sat ?_ ⟨_,rfl,?_⟩⟩),fun h9=>⟨_,rfl,?_⟩⟩⟩⟩⟩⟩⟩⟩⟩⟩))
 all_goals try first
  |exact hl
  |decide
  |exact(at_rng l _ _).1
  |omega
  |exact⟨by rw[List.length_map,pvA_len],trivial⟩
  |rfl
 all_goals try simp only[decide_eq_true_eq,decide_eq_false_iff_not]at*
 all_goals have hK:rrK l=IntKind.u8.wrap (atF l 1 1):=rfl
 all_goals first
  |(exfalso;omega)
  |exact l22 l hl _ ⟨⟨rfl,rfl,rfl,rfl,trivial⟩,⟨rfl,rfl,trivial⟩,rfl,rfl,rfl⟩
  |exact .nam (τ:=I33 l 0) (.cell 8 12 50 23 1 (Nat.le_of_ble_eq_true rfl) (.more 60 (show 51≤60 by decide) (.sub ⟨⟨rfl,rfl,rfl,rfl,trivial⟩,⟨rfl,rfl,rfl,trivial⟩,rfl,rfl,rfl⟩))) (l33 l _ hl hz8 rfl _ ⟨⟨rfl,rfl,rfl,rfl,trivial⟩,⟨rfl,rfl,rfl,trivial⟩,rfl,rfl,rfl⟩)
  |(rw[←rrF_0 (l:=l) (by omega)];exact ile_pdu (rr0 l) _ _ (ile_n _ rfl) (ile_n' _ rfl))
  |(rw[←rrF_3 (l:=l) (by omega)];exact ile_pdu (z1 (rrV l) (rrK l) (rrX l) false 0) _ _ (ile_n _ rfl) (ile_n' _ rfl))
  |(rw[←rrF_4 (l:=l) (by omega)];exact ile_pdu (rr4 l) _ _ (ile_n _ rfl) (ile_n' _ rfl))
  |(rw[←rrF_6 (l:=l) (by omega)];exact ile_pdu (rr6 l) _ _ (ile_n _ rfl) (ile_n' _ rfl))
  |(rw[←rrF_7 (l:=l) (by omega)];exact ile_pdu (rr7 l) _ _ (ile_n _ rfl) (ile_n' _ rfl))
  |(rw[←rrF_9 (l:=l) (by omega)];exact ile_pdu (rr9 l) _ _ (ile_n _ rfl) (ile_n' _ rfl))
  |(rw[←rrF_10 (l:=l) (by omega)];exact ile_pdu (rr10 l) _ _ (ile_n _ rfl) (.refl _))
  |(rw[←rrF_11 (l:=l) (by omega)];exact ile_pdu (rr11 l) _ _ (.sl (fun h=>by cases h) (fun h=>by cases h) (.refl _)) (ile_n' _ rfl))
  |(rw[←rrF_n (l:=l) (by omega)];exact ile_pdu (z1 (rrV l) (rrK l) 0 false 0) _ _ (ile_n _ rfl) (ile_n' _ rfl))
end Gp
namespace Gp
def nc4 (x:Int):Orc:=.call [u64 x,i64 4] (slE 1 u8 (num x 4))
def nc8 (x:Int):Orc:=.call [u64 x,i64 8] (slE 1 u8 (num x 8))
def no4 (x:Int):Orc:=.callo [u64 x,i64 4] 5 1 ((num x 4).map u8)
def b9 (p:Pdu)(i:Nat):List Int:=num (w64 p.key.asn) 4++[IntKind.u8.wrap p.key.height]++(rootL p.key).take i
def I23 (p:Pdu)(i:Nat):LState:={t:=[(4,.imm (i64 i)),(3,.own 50 (5+i)),(1,.ptr 0 0)],s:=[(0,.box 42 (.imm (encD {p with kind:=9}))),(50,.row 5 1 ((b9 p i).map u8))],m:=168,n:=60}
def E23 (p:Pdu):LState:={t:=[(3,.own 50 21)],s:=[(50,.row 5 1 ((b9 p 16).map u8))],m:=168,n:=60}
def fin23 :Exit→Nat→Fin
 |.normal,_=>⟨[(50,70)],[4,3,1],[0,50]⟩
 |_,_=>⟨[],[3],[50]⟩
def T23r0 (p:Pdu):Tell:=
 Tell.mk (fun x x_1=>false) (fun r i=>if(r==23&&i==1)=true then Orc.look AVal.any true else Orc.no) (fun x=>Tree.fail 1000003 0) (fun x=>0) (fun x=>([],[])) (ogetO (fun r i=>if(r==23&&i==1)=true then Orc.look AVal.any true else Orc.no) []) fun x x_1=>Tree.fail 1000003 0
theorem t23r0 (p:Pdu):levLN prog Proofs.Try.f81 23 (I23 p 0) (T23r0 p) fin23=
 (let q0:=Pdu.mk p.version 9 p.session p.serial p.add p.origin p.path p.key p.refresh p.retry p.expire p.code p.copy p.text;
 Tree.need (askA (some (1=1)) (List.length (List.map u8 (b9 p 0))=5∧cellsOk (List.map u8 (b9 p 0))=true∧true=true∧6≤1000000)) (.done Exit.normal (LState.mk [(4,.imm (i64 1)),(3,.own 50 6),(1,.ptr 0 0)] [(0,Entry.box 42 (.imm (encD q0))),(50,Entry.row 5 1 (List.map u8 (b9 p 0)++[u8 q0.key.root[0]]))] 168 75 []))):=by kernel_rfl
def T23r1 (p:Pdu):Tell:=
 Tell.mk (fun x x_1=>false) (fun r i=>if(r==23&&i==1)=true then Orc.look AVal.any true else Orc.no) (fun x=>Tree.fail 1000003 0) (fun x=>0) (fun x=>([],[])) (ogetO (fun r i=>if(r==23&&i==1)=true then Orc.look AVal.any true else Orc.no) []) fun x x_1=>Tree.fail 1000003 0
theorem t23r1 (p:Pdu):levLN prog Proofs.Try.f81 23 (I23 p 1) (T23r1 p) fin23=
 (let q0:=Pdu.mk p.version 9 p.session p.serial p.add p.origin p.path p.key p.refresh p.retry p.expire p.code p.copy p.text;
 Tree.need (askA (some (1=1)) (List.length (List.map u8 (b9 p 1))=6∧cellsOk (List.map u8 (b9 p 1))=true∧true=true∧7≤1000000)) (.done Exit.normal (LState.mk [(4,.imm (i64 2)),(3,.own 50 7),(1,.ptr 0 0)] [(0,Entry.box 42 (.imm (encD q0))),(50,Entry.row 5 1 (List.map u8 (b9 p 1)++[u8 q0.key.root[1]]))] 168 75 []))):=by kernel_rfl
def T23r2 (p:Pdu):Tell:=
 Tell.mk (fun x x_1=>false) (fun r i=>if(r==23&&i==1)=true then Orc.look AVal.any true else Orc.no) (fun x=>Tree.fail 1000003 0) (fun x=>0) (fun x=>([],[])) (ogetO (fun r i=>if(r==23&&i==1)=true then Orc.look AVal.any true else Orc.no) []) fun x x_1=>Tree.fail 1000003 0
theorem t23r2 (p:Pdu):levLN prog Proofs.Try.f81 23 (I23 p 2) (T23r2 p) fin23=
 (let q0:=Pdu.mk p.version 9 p.session p.serial p.add p.origin p.path p.key p.refresh p.retry p.expire p.code p.copy p.text;
 Tree.need (askA (some (1=1)) (List.length (List.map u8 (b9 p 2))=7∧cellsOk (List.map u8 (b9 p 2))=true∧true=true∧8≤1000000)) (.done Exit.normal (LState.mk [(4,.imm (i64 3)),(3,.own 50 8),(1,.ptr 0 0)] [(0,Entry.box 42 (.imm (encD q0))),(50,Entry.row 5 1 (List.map u8 (b9 p 2)++[u8 q0.key.root[2]]))] 168 75 []))):=by kernel_rfl
def T23r3 (p:Pdu):Tell:=
 Tell.mk (fun x x_1=>false) (fun r i=>if(r==23&&i==1)=true then Orc.look AVal.any true else Orc.no) (fun x=>Tree.fail 1000003 0) (fun x=>0) (fun x=>([],[])) (ogetO (fun r i=>if(r==23&&i==1)=true then Orc.look AVal.any true else Orc.no) []) fun x x_1=>Tree.fail 1000003 0
theorem t23r3 (p:Pdu):levLN prog Proofs.Try.f81 23 (I23 p 3) (T23r3 p) fin23=
 (let q0:=Pdu.mk p.version 9 p.session p.serial p.add p.origin p.path p.key p.refresh p.retry p.expire p.code p.copy p.text;
 Tree.need (askA (some (1=1)) (List.length (List.map u8 (b9 p 3))=8∧cellsOk (List.map u8 (b9 p 3))=true∧true=true∧9≤1000000)) (.done Exit.normal (LState.mk [(4,.imm (i64 4)),(3,.own 50 9),(1,.ptr 0 0)] [(0,Entry.box 42 (.imm (encD q0))),(50,Entry.row 5 1 (List.map u8 (b9 p 3)++[u8 q0.key.root[3]]))] 168 75 []))):=by kernel_rfl
def T23r4 (p:Pdu):Tell:=
 Tell.mk (fun x x_1=>false) (fun r i=>if(r==23&&i==1)=true then Orc.look AVal.any true else Orc.no) (fun x=>Tree.fail 1000003 0) (fun x=>0) (fun x=>([],[])) (ogetO (fun r i=>if(r==23&&i==1)=true then Orc.look AVal.any true else Orc.no) []) fun x x_1=>Tree.fail 1000003 0
theorem t23r4 (p:Pdu):levLN prog Proofs.Try.f81 23 (I23 p 4) (T23r4 p) fin23=
 (let q0:=Pdu.mk p.version 9 p.session p.serial p.add p.origin p.path p.key p.refresh p.retry p.expire p.code p.copy p.text;
 Tree.need (askA (some (1=1)) (List.length (List.map u8 (b9 p 4))=9∧cellsOk (List.map u8 (b9 p 4))=true∧true=true∧10≤1000000)) (.done Exit.normal (LState.mk [(4,.imm (i64 5)),(3,.own 50 10),(1,.ptr 0 0)] [(0,Entry.box 42 (.imm (encD q0))),(50,Entry.row 5 1 (List.map u8 (b9 p 4)++[u8 q0.key.root[4]]))] 168 75 []))):=by kernel_rfl
def T23r5 (p:Pdu):Tell:=
 Tell.mk (fun x x_1=>false) (fun r i=>if(r==23&&i==1)=true then Orc.look AVal.any true else Orc.no) (fun x=>Tree.fail 1000003 0) (fun x=>0) (fun x=>([],[])) (ogetO (fun r i=>if(r==23&&i==1)=true then Orc.look AVal.any true else Orc.no) []) fun x x_1=>Tree.fail 1000003 0
theorem t23r5 (p:Pdu):levLN prog Proofs.Try.f81 23 (I23 p 5) (T23r5 p) fin23=
 (let q0:=Pdu.mk p.version 9 p.session p.serial p.add p.origin p.path p.key p.refresh p.retry p.expire p.code p.copy p.text;
 Tree.need (askA (some (1=1)) (List.length (List.map u8 (b9 p 5))=10∧cellsOk (List.map u8 (b9 p 5))=true∧true=true∧11≤1000000)) (.done Exit.normal (LState.mk [(4,.imm (i64 6)),(3,.own 50 11),(1,.ptr 0 0)] [(0,Entry.box 42 (.imm (encD q0))),(50,Entry.row 5 1 (List.map u8 (b9 p 5)++[u8 q0.key.root[5]]))] 168 75 []))):=by kernel_rfl
def T23r6 (p:Pdu):Tell:=
 Tell.mk (fun x x_1=>false) (fun r i=>if(r==23&&i==1)=true then Orc.look AVal.any true else Orc.no) (fun x=>Tree.fail 1000003 0) (fun x=>0) (fun x=>([],[])) (ogetO (fun r i=>if(r==23&&i==1)=true then Orc.look AVal.any true else Orc.no) []) fun x x_1=>Tree.fail 1000003 0
theorem t23r6 (p:Pdu):levLN prog Proofs.Try.f81 23 (I23 p 6) (T23r6 p) fin23=
 (let q0:=Pdu.mk p.version 9 p.session p.serial p.add p.origin p.path p.key p.refresh p.retry p.expire p.code p.copy p.text;
 Tree.need (askA (some (1=1)) (List.length (List.map u8 (b9 p 6))=11∧cellsOk (List.map u8 (b9 p 6))=true∧true=true∧12≤1000000)) (.done Exit.normal (LState.mk [(4,.imm (i64 7)),(3,.own 50 12),(1,.ptr 0 0)] [(0,Entry.box 42 (.imm (encD q0))),(50,Entry.row 5 1 (List.map u8 (b9 p 6)++[u8 q0.key.root[6]]))] 168 75 []))):=by kernel_rfl
def T23r7 (p:Pdu):Tell:=
 Tell.mk (fun x x_1=>false) (fun r i=>if(r==23&&i==1)=true then Orc.look AVal.any true else Orc.no) (fun x=>Tree.fail 1000003 0) (fun x=>0) (fun x=>([],[])) (ogetO (fun r i=>if(r==23&&i==1)=true then Orc.look AVal.any true else Orc.no) []) fun x x_1=>Tree.fail 1000003 0
theorem t23r7 (p:Pdu):levLN prog Proofs.Try.f81 23 (I23 p 7) (T23r7 p) fin23=
 (let q0:=Pdu.mk p.version 9 p.session p.serial p.add p.origin p.path p.key p.refresh p.retry p.expire p.code p.copy p.text;
 Tree.need (askA (some (1=1)) (List.length (List.map u8 (b9 p 7))=12∧cellsOk (List.map u8 (b9 p 7))=true∧true=true∧13≤1000000)) (.done Exit.normal (LState.mk [(4,.imm (i64 8)),(3,.own 50 13),(1,.ptr 0 0)] [(0,Entry.box 42 (.imm (encD q0))),(50,Entry.row 5 1 (List.map u8 (b9 p 7)++[u8 q0.key.root[7]]))] 168 75 []))):=by kernel_rfl
def T23r8 (p:Pdu):Tell:=
 Tell.mk (fun x x_1=>false) (fun r i=>if(r==23&&i==1)=true then Orc.look AVal.any true else Orc.no) (fun x=>Tree.fail 1000003 0) (fun x=>0) (fun x=>([],[])) (ogetO (fun r i=>if(r==23&&i==1)=true then Orc.look AVal.any true else Orc.no) []) fun x x_1=>Tree.fail 1000003 0
theorem t23r8 (p:Pdu):levLN prog Proofs.Try.f81 23 (I23 p 8) (T23r8 p) fin23=
 (let q0:=Pdu.mk p.version 9 p.session p.serial p.add p.origin p.path p.key p.refresh p.retry p.expire p.code p.copy p.text;
 Tree.need (askA (some (1=1)) (List.length (List.map u8 (b9 p 8))=13∧cellsOk (List.map u8 (b9 p 8))=true∧true=true∧14≤1000000)) (.done Exit.normal (LState.mk [(4,.imm (i64 9)),(3,.own 50 14),(1,.ptr 0 0)] [(0,Entry.box 42 (.imm (encD q0))),(50,Entry.row 5 1 (List.map u8 (b9 p 8)++[u8 q0.key.root[8]]))] 168 75 []))):=by kernel_rfl
def T23r9 (p:Pdu):Tell:=
 Tell.mk (fun x x_1=>false) (fun r i=>if(r==23&&i==1)=true then Orc.look AVal.any true else Orc.no) (fun x=>Tree.fail 1000003 0) (fun x=>0) (fun x=>([],[])) (ogetO (fun r i=>if(r==23&&i==1)=true then Orc.look AVal.any true else Orc.no) []) fun x x_1=>Tree.fail 1000003 0
theorem t23r9 (p:Pdu):levLN prog Proofs.Try.f81 23 (I23 p 9) (T23r9 p) fin23=
 (let q0:=Pdu.mk p.version 9 p.session p.serial p.add p.origin p.path p.key p.refresh p.retry p.expire p.code p.copy p.text;
 Tree.need (askA (some (1=1)) (List.length (List.map u8 (b9 p 9))=14∧cellsOk (List.map u8 (b9 p 9))=true∧true=true∧15≤1000000)) (.done Exit.normal (LState.mk [(4,.imm (i64 10)),(3,.own 50 15),(1,.ptr 0 0)] [(0,Entry.box 42 (.imm (encD q0))),(50,Entry.row 5 1 (List.map u8 (b9 p 9)++[u8 q0.key.root[9]]))] 168 75 []))):=by kernel_rfl
def T23r10 (p:Pdu):Tell:=
 Tell.mk (fun x x_1=>false) (fun r i=>if(r==23&&i==1)=true then Orc.look AVal.any true else Orc.no) (fun x=>Tree.fail 1000003 0) (fun x=>0) (fun x=>([],[])) (ogetO (fun r i=>if(r==23&&i==1)=true then Orc.look AVal.any true else Orc.no) []) fun x x_1=>Tree.fail 1000003 0
theorem t23r10 (p:Pdu):levLN prog Proofs.Try.f81 23 (I23 p 10) (T23r10 p) fin23=
 (let q0:=Pdu.mk p.version 9 p.session p.serial p.add p.origin p.path p.key p.refresh p.retry p.expire p.code p.copy p.text;
 Tree.need (askA (some (1=1)) (List.length (List.map u8 (b9 p 10))=15∧cellsOk (List.map u8 (b9 p 10))=true∧true=true∧16≤1000000)) (.done Exit.normal (LState.mk [(4,.imm (i64 11)),(3,.own 50 16),(1,.ptr 0 0)] [(0,Entry.box 42 (.imm (encD q0))),(50,Entry.row 5 1 (List.map u8 (b9 p 10)++[u8 q0.key.root[10]]))] 168 75 []))):=by kernel_rfl
def T23r11 (p:Pdu):Tell:=
 Tell.mk (fun x x_1=>false) (fun r i=>if(r==23&&i==1)=true then Orc.look AVal.any true else Orc.no) (fun x=>Tree.fail 1000003 0) (fun x=>0) (fun x=>([],[])) (ogetO (fun r i=>if(r==23&&i==1)=true then Orc.look AVal.any true else Orc.no) []) fun x x_1=>Tree.fail 1000003 0
theorem t23r11 (p:Pdu):levLN prog Proofs.Try.f81 23 (I23 p 11) (T23r11 p) fin23=
 (let q0:=Pdu.mk p.version 9 p.session p.serial p.add p.origin p.path p.key p.refresh p.retry p.expire p.code p.copy p.text;
 Tree.need (askA (some (1=1)) (List.length (List.map u8 (b9 p 11))=16∧cellsOk (List.map u8 (b9 p 11))=true∧true=true∧17≤1000000)) (.done Exit.normal (LState.mk [(4,.imm (i64 12)),(3,.own 50 17),(1,.ptr 0 0)] [(0,Entry.box 42 (.imm (encD q0))),(50,Entry.row 5 1 (List.map u8 (b9 p 11)++[u8 q0.key.root[11]]))] 168 75 []))):=by kernel_rfl
def T23r12 (p:Pdu):Tell:=
 Tell.mk (fun x x_1=>false) (fun r i=>if(r==23&&i==1)=true then Orc.look AVal.any true else Orc.no) (fun x=>Tree.fail 1000003 0) (fun x=>0) (fun x=>([],[])) (ogetO (fun r i=>if(r==23&&i==1)=true then Orc.look AVal.any true else Orc.no) []) fun x x_1=>Tree.fail 1000003 0
theorem t23r12 (p:Pdu):levLN prog Proofs.Try.f81 23 (I23 p 12) (T23r12 p) fin23=
 (let q0:=Pdu.mk p.version 9 p.session p.serial p.add p.origin p.path p.key p.refresh p.retry p.expire p.code p.copy p.text;
 Tree.need (askA (some (1=1)) (List.length (List.map u8 (b9 p 12))=17∧cellsOk (List.map u8 (b9 p 12))=true∧true=true∧18≤1000000)) (.done Exit.normal (LState.mk [(4,.imm (i64 13)),(3,.own 50 18),(1,.ptr 0 0)] [(0,Entry.box 42 (.imm (encD q0))),(50,Entry.row 5 1 (List.map u8 (b9 p 12)++[u8 q0.key.root[12]]))] 168 75 []))):=by kernel_rfl
def T23r13 (p:Pdu):Tell:=
 Tell.mk (fun x x_1=>false) (fun r i=>if(r==23&&i==1)=true then Orc.look AVal.any true else Orc.no) (fun x=>Tree.fail 1000003 0) (fun x=>0) (fun x=>([],[])) (ogetO (fun r i=>if(r==23&&i==1)=true then Orc.look AVal.any true else Orc.no) []) fun x x_1=>Tree.fail 1000003 0
theorem t23r13 (p:Pdu):levLN prog Proofs.Try.f81 23 (I23 p 13) (T23r13 p) fin23=
 (let q0:=Pdu.mk p.version 9 p.session p.serial p.add p.origin p.path p.key p.refresh p.retry p.expire p.code p.copy p.text;
 Tree.need (askA (some (1=1)) (List.length (List.map u8 (b9 p 13))=18∧cellsOk (List.map u8 (b9 p 13))=true∧true=true∧19≤1000000)) (.done Exit.normal (LState.mk [(4,.imm (i64 14)),(3,.own 50 19),(1,.ptr 0 0)] [(0,Entry.box 42 (.imm (encD q0))),(50,Entry.row 5 1 (List.map u8 (b9 p 13)++[u8 q0.key.root[13]]))] 168 75 []))):=by kernel_rfl
def T23r14 (p:Pdu):Tell:=
 Tell.mk (fun x x_1=>false) (fun r i=>if(r==23&&i==1)=true then Orc.look AVal.any true else Orc.no) (fun x=>Tree.fail 1000003 0) (fun x=>0) (fun x=>([],[])) (ogetO (fun r i=>if(r==23&&i==1)=true then Orc.look AVal.any true else Orc.no) []) fun x x_1=>Tree.fail 1000003 0
theorem t23r14 (p:Pdu):levLN prog Proofs.Try.f81 23 (I23 p 14) (T23r14 p) fin23=
 (let q0:=Pdu.mk p.version 9 p.session p.serial p.add p.origin p.path p.key p.refresh p.retry p.expire p.code p.copy p.text;
 Tree.need (askA (some (1=1)) (List.length (List.map u8 (b9 p 14))=19∧cellsOk (List.map u8 (b9 p 14))=true∧true=true∧20≤1000000)) (.done Exit.normal (LState.mk [(4,.imm (i64 15)),(3,.own 50 20),(1,.ptr 0 0)] [(0,Entry.box 42 (.imm (encD q0))),(50,Entry.row 5 1 (List.map u8 (b9 p 14)++[u8 q0.key.root[14]]))] 168 75 []))):=by kernel_rfl
def T23r15 (p:Pdu):Tell:=
 Tell.mk (fun x x_1=>false) (fun r i=>if(r==23&&i==1)=true then Orc.look AVal.any true else Orc.no) (fun x=>Tree.fail 1000003 0) (fun x=>0) (fun x=>([],[])) (ogetO (fun r i=>if(r==23&&i==1)=true then Orc.look AVal.any true else Orc.no) []) fun x x_1=>Tree.fail 1000003 0
theorem t23r15 (p:Pdu):levLN prog Proofs.Try.f81 23 (I23 p 15) (T23r15 p) fin23=
 (let q0:=Pdu.mk p.version 9 p.session p.serial p.add p.origin p.path p.key p.refresh p.retry p.expire p.code p.copy p.text;
 Tree.need (askA (some (1=1)) (List.length (List.map u8 (b9 p 15))=20∧cellsOk (List.map u8 (b9 p 15))=true∧true=true∧21≤1000000)) (.done Exit.normal (LState.mk [(4,.imm (i64 16)),(3,.own 50 21),(1,.ptr 0 0)] [(0,Entry.box 42 (.imm (encD q0))),(50,Entry.row 5 1 (List.map u8 (b9 p 15)++[u8 q0.key.root[15]]))] 168 75 []))):=by kernel_rfl
def T23r16 (p:Pdu):Tell:=
 Tell.mk (fun x x_1=>false) (fun r i=>if(r==23&&i==1)=true then Orc.look AVal.any false else Orc.no) (fun x=>Tree.fail 1000003 0) (fun x=>0) (fun x=>([],[])) (ogetO (fun r i=>if(r==23&&i==1)=true then Orc.look AVal.any false else Orc.no) []) fun x x_1=>Tree.fail 1000003 0
theorem t23r16 (p:Pdu):levLN prog Proofs.Try.f81 23 (I23 p 16) (T23r16 p) fin23=
 Tree.done (Exit.exit 1) (LState.mk [(3,.own 50 21)] [(50,Entry.row 5 1 (List.map u8 (b9 p 16)))] 168 62 []):=by kernel_rfl
def I33b (p:Pdu)(i:Nat):LState:={t:=[(5,.imm (i64 i)),(3,.own 50 (b73 p i).length),(1,.ptr 0 0)],s:=[(0,.box 42 (.imm (encD {p with kind:=11}))),(50,.row 5 1 ((b73 p i).map u8))],m:=168,n:=60}
def E33b (p:Pdu):LState:={t:=[(3,.own 50 (rs73 p).length)],s:=[(50,.row 5 1 ((rs73 p).map u8))],m:=168,n:=60}
def fin33b :Exit→Nat→Fin
 |.normal,_=>⟨[(50,75)],[5,3,1],[0,50]⟩
 |_,_=>⟨[],[3],[50]⟩
def T33b (p:Pdu)(i:Nat):Tell:=
 Tell.mk (fun x x_1=>false) (fun r j=>if(r==35&&j==8)=true then nc4 (w64 (List.getD p.path.provs i 0))else Orc.no) (fun x=>Tree.fail 1000003 0) (fun x=>0) (fun x=>([],[])) (ogetO (fun r j=>if(r==35&&j==8)=true then nc4 (w64 (List.getD p.path.provs i 0))else Orc.no) [(66,35,5,Orc.elem (u32 (List.getD (Pdu.mk p.version 11 p.session p.serial p.add p.origin p.path p.key p.refresh p.retry p.expire p.code p.copy p.text).path.provs i default)))]) fun x x_1=>Tree.fail 1000003 0
theorem t33b (p:Pdu)(i:Nat):levLN prog Proofs.Try.f81 33 (I33b p i) (T33b p i) fin33b=
 (let q0:=Pdu.mk p.version 11 p.session p.serial p.add p.origin p.path p.key p.refresh p.retry p.expire p.code p.copy p.text;let q1:=w64 (List.getD p.path.provs i 0);let q2:=List.map u8 (num q1 4);let q3:=List.map u8 (b73 p i);
 Tree.br (decide ((↑i:Int)<(↑(List.length (List.map u32 q0.path.provs)):Int))) (.need (0≤(↑i:Int)∧(List.map u32 q0.path.provs)[i]?=some (u32 (List.getD q0.path.provs i 0))) (.need (ILeL [u64 (IntKind.wrap IntKind.u64 (List.getD q0.path.provs i 0)),i64 4] [u64 q1,i64 4]∧ASpec prog 82 [u64 q1,i64 4] (slE 1 u8 (num q1 4))) (.need (askA none (List.length q3=List.length (b73 p i)∧cellsOk q3=true∧cellsOk q2=true∧List.length (b73 p i)+List.length q2≤1000000)) (.done Exit.normal (LState.mk [(5,.imm (i64 (IntKind.wrap IntKind.i64 ((↑i:Int)+1)))),(3,.own 50 (List.length
 (b73 p i)+List.length q2)),(1,.ptr 0 0)] [(0,Entry.box 42 (.imm (encD q0))),(50,Entry.row 5 1 (List.map u8 (b73 p i)++List.map u8 (num q1 4)))] 168 80 []))))) (.done (Exit.exit 3) (LState.mk [(3,.own 50 (List.length (b73 p i)))] [(50,Entry.row 5 1 q3)] 168 66 []))):=by kernel_rfl
def O81x0 (p:Pdu):Nat→Nat→Orc
 |3,0=>.look .any true
 |4,0=>.look .any false
 |6,0=>.look .any false
 |7,0=>.look .any false
 |14,0=>.look .any false
 |20,0=>.look .any false
 |26,0=>.look .any false
 |30,0=>.look .any false
 |9,2=>.look .any false
 |5,3=>no4 (w64 p.serial)
 |10,6=>nc8 p.origin.pfx.addr.hi
 |11,6=>nc8 p.origin.pfx.addr.lo
 |12,6=>nc4 p.origin.pfx.addr.lo
 |13,5=>nc4 (w64 p.origin.asn)
 |15,3=>no4 (w64 p.serial)
 |17,4=>nc4 (w64 p.refresh)
 |18,4=>nc4 (w64 p.retry)
 |19,4=>nc4 (w64 p.expire)
 |21,4=>no4 (w64 p.key.asn)
 |27,4=>no4 (w64 p.copy.length)
 |28,5=>nc4 (w64 p.text.size)
 |29,3=>.tos (bytesL p.text)
 |31,4=>no4 (w64 p.path.cust)
 |_,_=>.no
def T81x0 (p:Pdu):Tell:=
 Tell.mk (fun r i=>(r==21||r==27)&&i==4) (O81x0 p) (fun k=>if(k==23)=true then Tree.done (Exit.exit 1) (E23 p)else Tree.done (Exit.exit 3) (E33b p)) (fun x=>0) (fun k=>if(k==23)=true then([4,3,1],[0,25,28])else([5,3,1],[0,25,28])) (ogetO (O81x0 p) []) fun x k=>if(k==23)=true then Tree.done (Exit.exit 1) (E23 p)else Tree.done (Exit.exit 3) (E33b p)
theorem t81x0 (p:Pdu):levF prog Proofs.Try.f81 [encD {p with kind:=0}] (T81x0 p)=
 (let q0:=List.map u8 (num (w64 p.serial) 4);
 Tree.need (ILeL [u64 (IntKind.wrap IntKind.u64 (Pdu.mk p.version 0 p.session p.serial p.add p.origin p.path p.key p.refresh p.retry p.expire p.code p.copy p.text).serial),i64 4] [u64 (w64 p.serial),i64 4]∧OSpec prog 82 [u64 (w64 p.serial),i64 4] 5 1 q0) (.need (eqs [(List.length q0,List.length q0)]) (.done Exit.ret (lret (.sl true false 1 q0))))):=by kernel_rfl
def O81x1 (p:Pdu):Nat→Nat→Orc
 |3,0=>.look .any false
 |4,0=>.look .any true
 |6,0=>.look .any false
 |7,0=>.look .any false
 |14,0=>.look .any false
 |20,0=>.look .any false
 |26,0=>.look .any false
 |30,0=>.look .any false
 |9,2=>.look .any false
 |5,3=>no4 (w64 p.serial)
 |10,6=>nc8 p.origin.pfx.addr.hi
 |11,6=>nc8 p.origin.pfx.addr.lo
 |12,6=>nc4 p.origin.pfx.addr.lo
 |13,5=>nc4 (w64 p.origin.asn)
 |15,3=>no4 (w64 p.serial)
 |17,4=>nc4 (w64 p.refresh)
 |18,4=>nc4 (w64 p.retry)
 |19,4=>nc4 (w64 p.expire)
 |21,4=>no4 (w64 p.key.asn)
 |27,4=>no4 (w64 p.copy.length)
 |28,5=>nc4 (w64 p.text.size)
 |29,3=>.tos (bytesL p.text)
 |31,4=>no4 (w64 p.path.cust)
 |_,_=>.no
def T81x1 (p:Pdu):Tell:=
 Tell.mk (fun r i=>(r==21||r==27)&&i==4) (O81x1 p) (fun k=>if(k==23)=true then Tree.done (Exit.exit 1) (E23 p)else Tree.done (Exit.exit 3) (E33b p)) (fun x=>0) (fun k=>if(k==23)=true then([4,3,1],[0,25,28])else([5,3,1],[0,25,28])) (ogetO (O81x1 p) []) fun x k=>if(k==23)=true then Tree.done (Exit.exit 1) (E23 p)else Tree.done (Exit.exit 3) (E33b p)
theorem t81x1 (p:Pdu):levF prog Proofs.Try.f81 [encD {p with kind:=1}] (T81x1 p)=
 (let q0:=List.map u8 (num (w64 p.serial) 4);
 Tree.need (ILeL [u64 (IntKind.wrap IntKind.u64 (Pdu.mk p.version 1 p.session p.serial p.add p.origin p.path p.key p.refresh p.retry p.expire p.code p.copy p.text).serial),i64 4] [u64 (w64 p.serial),i64 4]∧OSpec prog 82 [u64 (w64 p.serial),i64 4] 5 1 q0) (.need (eqs [(List.length q0,List.length q0)]) (.done Exit.ret (lret (.sl true false 1 q0))))):=by kernel_rfl
def O81x2 (p:Pdu):Nat→Nat→Orc
 |3,0=>.look .any false
 |4,0=>.look .any false
 |6,0=>.look .any false
 |7,0=>.look .any false
 |14,0=>.look .any false
 |20,0=>.look .any false
 |26,0=>.look .any false
 |30,0=>.look .any false
 |9,2=>.look .any false
 |5,3=>no4 (w64 p.serial)
 |10,6=>nc8 p.origin.pfx.addr.hi
 |11,6=>nc8 p.origin.pfx.addr.lo
 |12,6=>nc4 p.origin.pfx.addr.lo
 |13,5=>nc4 (w64 p.origin.asn)
 |15,3=>no4 (w64 p.serial)
 |17,4=>nc4 (w64 p.refresh)
 |18,4=>nc4 (w64 p.retry)
 |19,4=>nc4 (w64 p.expire)
 |21,4=>no4 (w64 p.key.asn)
 |27,4=>no4 (w64 p.copy.length)
 |28,5=>nc4 (w64 p.text.size)
 |29,3=>.tos (bytesL p.text)
 |31,4=>no4 (w64 p.path.cust)
 |_,_=>.no
def T81x2 (p:Pdu):Tell:=
 Tell.mk (fun r i=>(r==21||r==27)&&i==4) (O81x2 p) (fun k=>if(k==23)=true then Tree.done (Exit.exit 1) (E23 p)else Tree.done (Exit.exit 3) (E33b p)) (fun x=>0) (fun k=>if(k==23)=true then([4,3,1],[0,25,28])else([5,3,1],[0,25,28])) (ogetO (O81x2 p) []) fun x k=>if(k==23)=true then Tree.done (Exit.exit 1) (E23 p)else Tree.done (Exit.exit 3) (E33b p)
theorem t81x2 (p:Pdu):levF prog Proofs.Try.f81 [encD {p with kind:=2}] (T81x2 p)=
 Tree.done Exit.ret (lret nS):=by kernel_rfl
def O81x3 (p:Pdu):Nat→Nat→Orc
 |3,0=>.look .any false
 |4,0=>.look .any false
 |6,0=>.look .any false
 |7,0=>.look .any false
 |14,0=>.look .any false
 |20,0=>.look .any false
 |26,0=>.look .any false
 |30,0=>.look .any false
 |9,2=>.look .any false
 |5,3=>no4 (w64 p.serial)
 |10,6=>nc8 p.origin.pfx.addr.hi
 |11,6=>nc8 p.origin.pfx.addr.lo
 |12,6=>nc4 p.origin.pfx.addr.lo
 |13,5=>nc4 (w64 p.origin.asn)
 |15,3=>no4 (w64 p.serial)
 |17,4=>nc4 (w64 p.refresh)
 |18,4=>nc4 (w64 p.retry)
 |19,4=>nc4 (w64 p.expire)
 |21,4=>no4 (w64 p.key.asn)
 |27,4=>no4 (w64 p.copy.length)
 |28,5=>nc4 (w64 p.text.size)
 |29,3=>.tos (bytesL p.text)
 |31,4=>no4 (w64 p.path.cust)
 |_,_=>.no
def T81x3 (p:Pdu):Tell:=
 Tell.mk (fun r i=>(r==21||r==27)&&i==4) (O81x3 p) (fun k=>if(k==23)=true then Tree.done (Exit.exit 1) (E23 p)else Tree.done (Exit.exit 3) (E33b p)) (fun x=>0) (fun k=>if(k==23)=true then([4,3,1],[0,25,28])else([5,3,1],[0,25,28])) (ogetO (O81x3 p) []) fun x k=>if(k==23)=true then Tree.done (Exit.exit 1) (E23 p)else Tree.done (Exit.exit 3) (E33b p)
theorem t81x3 (p:Pdu):levF prog Proofs.Try.f81 [encD {p with kind:=3}] (T81x3 p)=
 Tree.done Exit.ret (lret nS):=by kernel_rfl
def O81x4 (p:Pdu):Nat→Nat→Orc
 |3,0=>.look .any false
 |4,0=>.look .any false
 |6,0=>.look .any true
 |7,0=>.look .any false
 |14,0=>.look .any false
 |20,0=>.look .any false
 |26,0=>.look .any false
 |30,0=>.look .any false
 |9,2=>.look .any false
 |5,3=>no4 (w64 p.serial)
 |10,6=>nc8 p.origin.pfx.addr.hi
 |11,6=>nc8 p.origin.pfx.addr.lo
 |12,6=>nc4 p.origin.pfx.addr.lo
 |13,5=>nc4 (w64 p.origin.asn)
 |15,3=>no4 (w64 p.serial)
 |17,4=>nc4 (w64 p.refresh)
 |18,4=>nc4 (w64 p.retry)
 |19,4=>nc4 (w64 p.expire)
 |21,4=>no4 (w64 p.key.asn)
 |27,4=>no4 (w64 p.copy.length)
 |28,5=>nc4 (w64 p.text.size)
 |29,3=>.tos (bytesL p.text)
 |31,4=>no4 (w64 p.path.cust)
 |_,_=>.no
def T81x4 (p:Pdu):Tell:=
 (let q0:=Pdu.mk p.version 4 p.session p.serial p.add p.origin p.path p.key p.refresh p.retry p.expire p.code p.copy p.text;
 Tell.mk (fun r i=>(r==21||r==27)&&i==4) (O81x4 p) (fun k=>if(k==23)=true then Tree.done (Exit.exit 1) (E23 p)else Tree.done (Exit.exit 3) (E33b p)) (fun x=>0) (fun k=>if(k==23)=true then([4,3,1],[0,25,28])else([5,3,1],[0,25,28])) (ogetO (O81x4 p) [(11,8,2,Orc.call [bo q0.add] (u64 (if q0.add=true then 1 else 0)))]) fun x k=>if(k==23)=true then Tree.done (Exit.exit 1) (E23 p)else Tree.done (Exit.exit 3) (E33b p))
theorem t81x4 (p:Pdu):levF prog Proofs.Try.f81 [encD {p with kind:=4}] (T81x4 p)=
 (let q0:=Pdu.mk p.version 4 p.session p.serial p.add p.origin p.path p.key p.refresh p.retry p.expire p.code p.copy p.text;let q1:=num p.origin.pfx.addr.lo 4;let q2:=num (w64 p.origin.asn) 4;let q3:=IntKind.wrap IntKind.u8 q0.origin.pfx.len;let q4:=IntKind.wrap IntKind.u8 q0.origin.max;let q5:=List.map u8 q1;
 Tree.need (ILeL [bo q0.add] [bo q0.add]∧ASpec prog 93 [bo q0.add] (u64 (if q0.add=true then 1 else 0))) (.need (ILeL [u64 q0.origin.pfx.addr.lo,i64 4] [u64 p.origin.pfx.addr.lo,i64 4]∧ASpec prog 82 [u64 p.origin.pfx.addr.lo,i64 4] (slE 1 u8 q1)) (.need (askA none (4=4∧true=true∧cellsOk q5=true∧4+List.length q5≤1000000)) (.need (ILeL [u64 (IntKind.wrap IntKind.u64 q0.origin.asn),i64 4] [u64 (w64 p.origin.asn),i64 4]∧ASpec prog 82 [u64 (w64 p.origin.asn),i64 4] (slE 1 u8 q2)) (.need (askA none (List.length ([u8 (IntKind.wrap IntKind.u8 (if q0.add=true then 1 else 0)),u8
 q3,u8 q4,u8 0]++List.map u8 q1)=4+List.length q5∧(true&&(true&&(true&&(true&&cellsOk (List.append [] q5)))))=true∧cellsOk (List.map u8 q2)=true∧4+List.length q5+List.length (List.map u8 q2)≤1000000)) (.need (eqs [(4+List.length q5+List.length (List.map u8 q2),List.length ([u8 (IntKind.wrap IntKind.u8 (if q0.add=true then 1 else 0)),u8 q3,u8 q4,u8 0]++List.map u8 q1++List.map u8 q2))]) (.done Exit.ret (lret (.sl true false 1 ([u8 (IntKind.wrap IntKind.u8 (if q0.add=true then 1 else 0)),u8 q3,u8 q4,u8 0]++List.map u8 q1++List.map u8 q2)))))))))):=by kernel_rfl
def O81x6 (p:Pdu):Nat→Nat→Orc
 |3,0=>.look .any false
 |4,0=>.look .any false
 |6,0=>.look .any false
 |7,0=>.look .any true
 |14,0=>.look .any false
 |20,0=>.look .any false
 |26,0=>.look .any false
 |30,0=>.look .any false
 |9,2=>.look .any true
 |5,3=>no4 (w64 p.serial)
 |10,6=>nc8 p.origin.pfx.addr.hi
 |11,6=>nc8 p.origin.pfx.addr.lo
 |12,6=>nc4 p.origin.pfx.addr.lo
 |13,5=>nc4 (w64 p.origin.asn)
 |15,3=>no4 (w64 p.serial)
 |17,4=>nc4 (w64 p.refresh)
 |18,4=>nc4 (w64 p.retry)
 |19,4=>nc4 (w64 p.expire)
 |21,4=>no4 (w64 p.key.asn)
 |27,4=>no4 (w64 p.copy.length)
 |28,5=>nc4 (w64 p.text.size)
 |29,3=>.tos (bytesL p.text)
 |31,4=>no4 (w64 p.path.cust)
 |_,_=>.no
def T81x6 (p:Pdu):Tell:=
 (let q0:=Pdu.mk p.version 6 p.session p.serial p.add p.origin p.path p.key p.refresh p.retry p.expire p.code p.copy p.text;
 Tell.mk (fun r i=>(r==21||r==27)&&i==4) (O81x6 p) (fun k=>if(k==23)=true then Tree.done (Exit.exit 1) (E23 p)else Tree.done (Exit.exit 3) (E33b p)) (fun x=>0) (fun k=>if(k==23)=true then([4,3,1],[0,25,28])else([5,3,1],[0,25,28])) (ogetO (O81x6 p) [(13,8,2,Orc.call [bo q0.add] (u64 (if q0.add=true then 1 else 0)))]) fun x k=>if(k==23)=true then Tree.done (Exit.exit 1) (E23 p)else Tree.done (Exit.exit 3) (E33b p))
theorem t81x6 (p:Pdu):levF prog Proofs.Try.f81 [encD {p with kind:=6}] (T81x6 p)=
 (let q0:=Pdu.mk p.version 6 p.session p.serial p.add p.origin p.path p.key p.refresh p.retry p.expire p.code p.copy p.text;let q1:=num p.origin.pfx.addr.hi 8;let q2:=num p.origin.pfx.addr.lo 8;let q3:=IntKind.wrap IntKind.u8 q0.origin.pfx.len;let q4:=num (w64 p.origin.asn) 4;let q5:=IntKind.wrap IntKind.u8 q0.origin.max;let q6:=List.map u8 q1;let q7:=List.map u8 q2;
 Tree.need (ILeL [bo q0.add] [bo q0.add]∧ASpec prog 93 [bo q0.add] (u64 (if q0.add=true then 1 else 0))) (.need (ILeL [u64 q0.origin.pfx.addr.hi,i64 8] [u64 p.origin.pfx.addr.hi,i64 8]∧ASpec prog 82 [u64 p.origin.pfx.addr.hi,i64 8] (slE 1 u8 q1)) (.need (askA none (4=4∧true=true∧cellsOk q6=true∧4+List.length q6≤1000000)) (.need (ILeL [u64 q0.origin.pfx.addr.lo,i64 8] [u64 p.origin.pfx.addr.lo,i64 8]∧ASpec prog 82 [u64 p.origin.pfx.addr.lo,i64 8] (slE 1 u8 q2)) (.need (askA none (List.length ([u8 (IntKind.wrap IntKind.u8 (if q0.add=true then 1 else 0)),u8 q3,u8 q5,u8 0]
 ++List.map u8 q1)=4+List.length q6∧(true&&(true&&(true&&(true&&cellsOk (List.append [] q6)))))=true∧cellsOk q7=true∧4+List.length q6+List.length q7≤1000000)) (.need (ILeL [u64 (IntKind.wrap IntKind.u64 q0.origin.asn),i64 4] [u64 (w64 p.origin.asn),i64 4]∧ASpec prog 82 [u64 (w64 p.origin.asn),i64 4] (slE 1 u8 q4)) (.need (askA none (List.length ([u8 (IntKind.wrap IntKind.u8 (if q0.add=true then 1 else 0)),u8 q3,u8 q5,u8 0]++List.map u8 q1++List.map u8 q2)=4+List.length q6+List.length q7∧(true&&(true&&(true&&(true&&cellsOk (List.append
 (List.append [] q6) q7)))))=true∧cellsOk (List.map u8 q4)=true∧4+List.length q6+List.length q7+List.length (List.map u8 q4)≤1000000)) (.need (eqs [(4+List.length q6+List.length q7+List.length (List.map u8 q4),List.length ([u8 (IntKind.wrap IntKind.u8 (if q0.add=true then 1 else 0)),u8 q3,u8 q5,u8 0]++List.map u8 q1++List.map u8 q2++List.map u8 q4))]) (.done Exit.ret (lret (.sl true false 1 ([u8 (IntKind.wrap IntKind.u8 (if q0.add=true then 1 else 0)),u8 q3,u8 q5,u8 0]++List.map u8 q1++List.map u8 q2++List.map u8 q4)))))))))))):=by kernel_rfl
def O81x7 (p:Pdu):Nat→Nat→Orc
 |3,0=>.look .any false
 |4,0=>.look .any false
 |6,0=>.look .any false
 |7,0=>.look .any false
 |14,0=>.look .any true
 |20,0=>.look .any false
 |26,0=>.look .any false
 |30,0=>.look .any false
 |9,2=>.look .any false
 |5,3=>no4 (w64 p.serial)
 |10,6=>nc8 p.origin.pfx.addr.hi
 |11,6=>nc8 p.origin.pfx.addr.lo
 |12,6=>nc4 p.origin.pfx.addr.lo
 |13,5=>nc4 (w64 p.origin.asn)
 |15,3=>no4 (w64 p.serial)
 |17,4=>nc4 (w64 p.refresh)
 |18,4=>nc4 (w64 p.retry)
 |19,4=>nc4 (w64 p.expire)
 |21,4=>no4 (w64 p.key.asn)
 |27,4=>no4 (w64 p.copy.length)
 |28,5=>nc4 (w64 p.text.size)
 |29,3=>.tos (bytesL p.text)
 |31,4=>no4 (w64 p.path.cust)
 |_,_=>.no
def T81x7 (p:Pdu):Tell:=
 Tell.mk (fun r i=>(r==21||r==27)&&i==4) (O81x7 p) (fun k=>if(k==23)=true then Tree.done (Exit.exit 1) (E23 p)else Tree.done (Exit.exit 3) (E33b p)) (fun x=>0) (fun k=>if(k==23)=true then([4,3,1],[0,25,28])else([5,3,1],[0,25,28])) (ogetO (O81x7 p) []) fun x k=>if(k==23)=true then Tree.done (Exit.exit 1) (E23 p)else Tree.done (Exit.exit 3) (E33b p)
theorem t81x7 (p:Pdu):levF prog Proofs.Try.f81 [encD {p with kind:=7}] (T81x7 p)=
 (let q0:=Pdu.mk p.version 7 p.session p.serial p.add p.origin p.path p.key p.refresh p.retry p.expire p.code p.copy p.text;let q1:=List.map u8 (num (w64 p.serial) 4);let q2:=num (w64 p.refresh) 4;let q3:=num (w64 p.retry) 4;let q4:=List.map u8 (num (w64 p.serial) 4)++List.map u8 q2++List.map u8 q3++List.map u8 (num (w64 p.expire) 4);let q5:=List.map u8 q2;let q6:=List.map u8 (num (w64 p.serial) 4)++List.map u8 q2++List.map u8 q3;let q7:=List.map u8 (num (w64 p.expire) 4);let q8:=List.map u8 q3;let q9:=List.map u8 (num (w64 p.serial) 4)++List.map u8 q2;
 Tree.need (ILeL [u64 (IntKind.wrap IntKind.u64 q0.serial),i64 4] [u64 (w64 p.serial),i64 4]∧OSpec prog 82 [u64 (w64 p.serial),i64 4] 5 1 q1) (.br (decide (0<q0.version)) (.need (ILeL [u64 (IntKind.wrap IntKind.u64 q0.refresh),i64 4] [u64 (w64 p.refresh),i64 4]∧ASpec prog 82 [u64 (w64 p.refresh),i64 4] (slE 1 u8 q2)) (.need (askA none (List.length q1=List.length q1∧cellsOk q1=true∧cellsOk q5=true∧List.length q1+List.length q5≤1000000)) (.need (ILeL [u64 (IntKind.wrap IntKind.u64 q0.retry),i64 4] [u64 (w64 p.retry),i64 4]∧ASpec prog 82 [u64 (w64 p.retry),i64 4] (slE 1 u8
 q3)) (.need (askA none (List.length q9=List.length q1+List.length q5∧cellsOk q9=true∧cellsOk q8=true∧List.length q1+List.length q5+List.length q8≤1000000)) (.need (ILeL [u64 (IntKind.wrap IntKind.u64 q0.expire),i64 4] [u64 (w64 p.expire),i64 4]∧ASpec prog 82 [u64 (w64 p.expire),i64 4] (slE 1 u8 (num (w64 p.expire) 4))) (.need (askA none (List.length q6=List.length q1+List.length q5+List.length q8∧cellsOk q6=true∧cellsOk q7=true∧List.length q1+List.length q5+List.length q8+List.length q7≤1000000)) (.need (eqs [(List.length q1+List.length q5+
 List.length q8+List.length q7,List.length q4)]) (.done Exit.ret (lret (.sl true false 1 q4)))))))))) (.need (eqs [(List.length q1,List.length q1)]) (.done Exit.ret (lret (.sl true false 1 q1)))))):=by kernel_rfl
def O81x8 (p:Pdu):Nat→Nat→Orc
 |3,0=>.look .any false
 |4,0=>.look .any false
 |6,0=>.look .any false
 |7,0=>.look .any false
 |14,0=>.look .any false
 |20,0=>.look .any false
 |26,0=>.look .any false
 |30,0=>.look .any false
 |9,2=>.look .any false
 |5,3=>no4 (w64 p.serial)
 |10,6=>nc8 p.origin.pfx.addr.hi
 |11,6=>nc8 p.origin.pfx.addr.lo
 |12,6=>nc4 p.origin.pfx.addr.lo
 |13,5=>nc4 (w64 p.origin.asn)
 |15,3=>no4 (w64 p.serial)
 |17,4=>nc4 (w64 p.refresh)
 |18,4=>nc4 (w64 p.retry)
 |19,4=>nc4 (w64 p.expire)
 |21,4=>no4 (w64 p.key.asn)
 |27,4=>no4 (w64 p.copy.length)
 |28,5=>nc4 (w64 p.text.size)
 |29,3=>.tos (bytesL p.text)
 |31,4=>no4 (w64 p.path.cust)
 |_,_=>.no
def T81x8 (p:Pdu):Tell:=
 Tell.mk (fun r i=>(r==21||r==27)&&i==4) (O81x8 p) (fun k=>if(k==23)=true then Tree.done (Exit.exit 1) (E23 p)else Tree.done (Exit.exit 3) (E33b p)) (fun x=>0) (fun k=>if(k==23)=true then([4,3,1],[0,25,28])else([5,3,1],[0,25,28])) (ogetO (O81x8 p) []) fun x k=>if(k==23)=true then Tree.done (Exit.exit 1) (E23 p)else Tree.done (Exit.exit 3) (E33b p)
theorem t81x8 (p:Pdu):levF prog Proofs.Try.f81 [encD {p with kind:=8}] (T81x8 p)=
 Tree.done Exit.ret (lret nS):=by kernel_rfl
def O81x9 (p:Pdu):Nat→Nat→Orc
 |3,0=>.look .any false
 |4,0=>.look .any false
 |6,0=>.look .any false
 |7,0=>.look .any false
 |14,0=>.look .any false
 |20,0=>.look .any true
 |26,0=>.look .any false
 |30,0=>.look .any false
 |9,2=>.look .any false
 |5,3=>no4 (w64 p.serial)
 |10,6=>nc8 p.origin.pfx.addr.hi
 |11,6=>nc8 p.origin.pfx.addr.lo
 |12,6=>nc4 p.origin.pfx.addr.lo
 |13,5=>nc4 (w64 p.origin.asn)
 |15,3=>no4 (w64 p.serial)
 |17,4=>nc4 (w64 p.refresh)
 |18,4=>nc4 (w64 p.retry)
 |19,4=>nc4 (w64 p.expire)
 |21,4=>no4 (w64 p.key.asn)
 |27,4=>no4 (w64 p.copy.length)
 |28,5=>nc4 (w64 p.text.size)
 |29,3=>.tos (bytesL p.text)
 |31,4=>no4 (w64 p.path.cust)
 |_,_=>.no
def T81x9 (p:Pdu):Tell:=
 Tell.mk (fun r i=>(r==21||r==27)&&i==4) (O81x9 p) (fun k=>if(k==23)=true then Tree.done (Exit.exit 1) (E23 p)else Tree.done (Exit.exit 3) (E33b p)) (fun x=>0) (fun k=>if(k==23)=true then([4,3,1],[0,25,28])else([5,3,1],[0,25,28])) (ogetO (O81x9 p) []) fun x k=>if(k==23)=true then Tree.done (Exit.exit 1) (E23 p)else Tree.done (Exit.exit 3) (E33b p)
theorem t81x9 (p:Pdu):levF prog Proofs.Try.f81 [encD {p with kind:=9}] (T81x9 p)=
 (let q0:=Pdu.mk p.version 9 p.session p.serial p.add p.origin p.path p.key p.refresh p.retry p.expire p.code p.copy p.text;let q1:=List.map u8 (num (w64 p.key.asn) 4);
 Tree.need (ILeL [u64 (IntKind.wrap IntKind.u64 q0.key.asn),i64 4] [u64 (w64 p.key.asn),i64 4]∧OSpec prog 82 [u64 (w64 p.key.asn),i64 4] 5 1 q1) (.need (askA (some (1=1)) (List.length q1=List.length q1∧cellsOk q1=true∧true=true∧List.length q1+1≤1000000)) (.loop 23 (LState.mk [(4,.imm (i64 0)),(3,.own 28 (List.length q1+1)),(1,.ptr 0 0)] [(0,Entry.box 42 (.imm (encD q0))),(28,Entry.row 5 1 (List.map u8 (num (w64 p.key.asn) 4)++[u8 (IntKind.wrap IntKind.u8 q0.key.height)]))] 168 31 []) (.done (Exit.exit 1) (E23 p)) (.need (eqs [(21,List.length (List.map u8 (b9 p 16)))])
 (.done Exit.ret (lret (.sl true false 1 (List.map u8 (b9 p 16))))))))):=by kernel_rfl
def O81x10 (p:Pdu):Nat→Nat→Orc
 |3,0=>.look .any false
 |4,0=>.look .any false
 |6,0=>.look .any false
 |7,0=>.look .any false
 |14,0=>.look .any false
 |20,0=>.look .any false
 |26,0=>.look .any true
 |30,0=>.look .any false
 |9,2=>.look .any false
 |5,3=>no4 (w64 p.serial)
 |10,6=>nc8 p.origin.pfx.addr.hi
 |11,6=>nc8 p.origin.pfx.addr.lo
 |12,6=>nc4 p.origin.pfx.addr.lo
 |13,5=>nc4 (w64 p.origin.asn)
 |15,3=>no4 (w64 p.serial)
 |17,4=>nc4 (w64 p.refresh)
 |18,4=>nc4 (w64 p.retry)
 |19,4=>nc4 (w64 p.expire)
 |21,4=>no4 (w64 p.key.asn)
 |27,4=>no4 (w64 p.copy.length)
 |28,5=>nc4 (w64 p.text.size)
 |29,3=>.tos (bytesL p.text)
 |31,4=>no4 (w64 p.path.cust)
 |_,_=>.no
def T81x10 (p:Pdu):Tell:=
 Tell.mk (fun r i=>(r==21||r==27)&&i==4) (O81x10 p) (fun k=>if(k==23)=true then Tree.done (Exit.exit 1) (E23 p)else Tree.done (Exit.exit 3) (E33b p)) (fun x=>0) (fun k=>if(k==23)=true then([4,3,1],[0,25,28])else([5,3,1],[0,25,28])) (ogetO (O81x10 p) []) fun x k=>if(k==23)=true then Tree.done (Exit.exit 1) (E23 p)else Tree.done (Exit.exit 3) (E33b p)
theorem t81x10 (p:Pdu):levF prog Proofs.Try.f81 [encD {p with kind:=10}] (T81x10 p)=
 (let q0:=Pdu.mk p.version 10 p.session p.serial p.add p.origin p.path p.key p.refresh p.retry p.expire p.code p.copy p.text;let q1:=num (w64 (↑(List.length p.copy):Int)) 4;let q9:=w64 (↑(ByteArray.size p.text):Int);let q2:=num q9 4;let q3:=List.map u8 q0.copy;let q4:=List.map u8 q1;let q5:=List.map u8 q1++List.map u8 q0.copy++List.map u8 q2;let q6:=List.map u8 q2;let q7:=bytesL p.text;let q8:=List.map u8 q1++List.map u8 q0.copy;
 Tree.need (ILeL [u64 (IntKind.wrap IntKind.u64 (↑(List.length q3):Int)),i64 4] [u64 (w64 (↑(List.length p.copy):Int)),i64 4]∧OSpec prog 82 [u64 (w64 (↑(List.length p.copy):Int)),i64 4] 5 1 q4) (.need (askA none (List.length q4=List.length q4∧cellsOk q4=true∧cellsOk q3=true∧List.length q4+List.length q3≤1000000)) (.need (ILeL [u64 (IntKind.wrap IntKind.u64 (↑(ByteArray.size q0.text):Int)),i64 4] [u64 q9,i64 4]∧ASpec prog 82 [u64 q9,i64 4] (slE 1 u8 q2)) (.need (askA none (List.length q8=List.length q4+List.length q3∧cellsOk q8=true∧cellsOk q6=true∧
 List.length q4+List.length q3+List.length q6≤1000000)) (.need (List.map (fun b=>(↑(UInt8.toNat b):Int)) q0.text.data.toList=bytesL p.text) (.need (askA none (List.length q5=List.length q4+List.length q3+List.length q6∧cellsOk q5=true∧cellsOk (List.map (fun n=>u8 n) q7)=true∧List.length q4+List.length q3+List.length q6+List.length (List.map (fun n=>u8 n) q7)≤1000000)) (.need (eqs [(List.length q4+List.length q3+List.length q6+List.length (List.map (fun n=>u8 n) q7),List.length (List.map u8 q1++List.map u8 q0.copy++List.map u8 q2++List.map
 (fun n=>u8 n) q7))]) (.done Exit.ret (lret (.sl true false 1 (List.map u8 q1++List.map u8 q0.copy++List.map u8 q2++List.map (fun n=>u8 n) q7))))))))))):=by kernel_rfl
def O81x11 (p:Pdu):Nat→Nat→Orc
 |3,0=>.look .any false
 |4,0=>.look .any false
 |6,0=>.look .any false
 |7,0=>.look .any false
 |14,0=>.look .any false
 |20,0=>.look .any false
 |26,0=>.look .any false
 |30,0=>.look .any true
 |9,2=>.look .any false
 |5,3=>no4 (w64 p.serial)
 |10,6=>nc8 p.origin.pfx.addr.hi
 |11,6=>nc8 p.origin.pfx.addr.lo
 |12,6=>nc4 p.origin.pfx.addr.lo
 |13,5=>nc4 (w64 p.origin.asn)
 |15,3=>no4 (w64 p.serial)
 |17,4=>nc4 (w64 p.refresh)
 |18,4=>nc4 (w64 p.retry)
 |19,4=>nc4 (w64 p.expire)
 |21,4=>no4 (w64 p.key.asn)
 |27,4=>no4 (w64 p.copy.length)
 |28,5=>nc4 (w64 p.text.size)
 |29,3=>.tos (bytesL p.text)
 |31,4=>no4 (w64 p.path.cust)
 |_,_=>.no
def T81x11 (p:Pdu):Tell:=
 Tell.mk (fun r i=>(r==21||r==27)&&i==4) (O81x11 p) (fun k=>if(k==23)=true then Tree.done (Exit.exit 1) (E23 p)else Tree.done (Exit.exit 3) (E33b p)) (fun x=>0) (fun k=>if(k==23)=true then([4,3,1],[0,25,28])else([5,3,1],[0,25,28])) (ogetO (O81x11 p) []) fun x k=>if(k==23)=true then Tree.done (Exit.exit 1) (E23 p)else Tree.done (Exit.exit 3) (E33b p)
theorem t81x11 (p:Pdu):levF prog Proofs.Try.f81 [encD {p with kind:=11}] (T81x11 p)=
 (let q0:=Pdu.mk p.version 11 p.session p.serial p.add p.origin p.path p.key p.refresh p.retry p.expire p.code p.copy p.text;let q1:=List.map u8 (num (w64 p.path.cust) 4);
 Tree.need (ILeL [u64 (IntKind.wrap IntKind.u64 q0.path.cust),i64 4] [u64 (w64 p.path.cust),i64 4]∧OSpec prog 82 [u64 (w64 p.path.cust),i64 4] 5 1 q1) (.loop 33 (LState.mk [(5,.imm (i64 0)),(3,.own 25 (List.length q1)),(1,.ptr 0 0)] [(0,Entry.box 42 (.imm (encD q0))),(25,Entry.row 5 1 q1)] 168 28 []) (.done (Exit.exit 3) (E33b p)) (.need (eqs [(List.length (rs73 p),List.length (List.map u8 (rs73 p)))]) (.done Exit.ret (lret (.sl true false 1 (List.map u8 (rs73 p)))))))):=by kernel_rfl
end Gp
namespace Gp
theorem ok8 (l:List Int):cellsOk (l.map u8)=true:=cellsOk_map u8 (fun _=>rfl) l
theorem ok8f (l:List Int):cellsOk (l.map fun n=>.v (.int .u8 n))=true:=ok8 l
theorem ok8c (n:Int)(l:List IVal):cellsOk (.v (.int .u8 n)::l)=cellsOk l:=rfl
theorem ok8n :cellsOk []=true:=rfl
theorem sl_eq {f:Bool}{x:List IVal}{l:List Int}(h:x=l.map u8):ILe (.sl true f 1 x) (slE 1 u8 l):=by
 subst h
 exact .sl (fun h=>by cases h) (fun h=>by cases h) (.refl _)
theorem bytesL_len (s:ByteArray):(bytesL s).length=s.size:=by simp[bytesL]
theorem head4 (p:Pdu):flI p.add++num (w64 p.origin.pfx.len) 1++num (w64 p.origin.max) 1++num 0 1=[IntKind.u8.wrap (if p.add=true then 1 else 0),IntKind.u8.wrap p.origin.pfx.len,IntKind.u8.wrap p.origin.max,0]:=by
 have e:∀x:Int,w64 x % 256=IntKind.u8.wrap x:=fun x=>by
  show x % 18446744073709551616 % 256=x % 256
  omega
 unfold flI
 rw[num1,num1,num1,num1,e,e]
 rfl
theorem c81x0 (p:Pdu)(h1c:p.copy.length≤10000)(h2c:p.text.size≤10000):ASpec prog 81 [encD {p with kind:=0}] (slE 1 u8 (rsL {p with kind:=0})):=by
 refine ASpec.treeW Proofs.Try.f81 (T81x0 p) (by kernel_rfl) (by kernel_rfl) (t81x0 p) ?_
 refine need_sat ⟨ILeL.refl _,o82 _ _ ?_ ?_⟩ (need_sat ?_ ⟨_,rfl,?_⟩)
 all_goals try first
  |decide
  |omega
  |rfl
  |exact⟨by simp[num_len,bytesL_len];try omega,trivial⟩
  |(simp[askA,cellsOk_append,ok8,ok8f,ok8c,ok8n,num_len,bytesL_len,List.map_append];done)
  |(simp[askA,cellsOk_append,ok8,ok8f,ok8c,ok8n,num_len,bytesL_len,List.map_append];omega)
 ·refine sl_eq ?_
  rw[rs_0 (.inl rfl)]
  rfl
theorem c81x1 (p:Pdu)(h1c:p.copy.length≤10000)(h2c:p.text.size≤10000):ASpec prog 81 [encD {p with kind:=1}] (slE 1 u8 (rsL {p with kind:=1})):=by
 refine ASpec.treeW Proofs.Try.f81 (T81x1 p) (by kernel_rfl) (by kernel_rfl) (t81x1 p) ?_
 refine need_sat ⟨ILeL.refl _,o82 _ _ ?_ ?_⟩ (need_sat ?_ ⟨_,rfl,?_⟩)
 all_goals try first
  |decide
  |omega
  |rfl
  |exact⟨by simp[num_len,bytesL_len];try omega,trivial⟩
  |(simp[askA,cellsOk_append,ok8,ok8f,ok8c,ok8n,num_len,bytesL_len,List.map_append];done)
  |(simp[askA,cellsOk_append,ok8,ok8f,ok8c,ok8n,num_len,bytesL_len,List.map_append];omega)
 ·refine sl_eq ?_
  rw[rs_0 (.inr rfl)]
  rfl
theorem c81x2 (p:Pdu)(h1c:p.copy.length≤10000)(h2c:p.text.size≤10000):ASpec prog 81 [encD {p with kind:=2}] (slE 1 u8 (rsL {p with kind:=2})):=by
 refine ASpec.treeW Proofs.Try.f81 (T81x2 p) (by kernel_rfl) (by kernel_rfl) (t81x2 p) ?_
 refine⟨_,rfl,?_⟩
 all_goals try first
  |decide
  |omega
  |rfl
  |exact⟨by simp[num_len,bytesL_len];try omega,trivial⟩
  |(simp[askA,cellsOk_append,ok8,ok8f,ok8c,ok8n,num_len,bytesL_len,List.map_append];done)
  |(simp[askA,cellsOk_append,ok8,ok8f,ok8c,ok8n,num_len,bytesL_len,List.map_append];omega)
 ·rw[rs_2 (by first|exact .inl rfl|exact .inr (.inl rfl)|exact .inr (.inr rfl))];exact .nil _ _ _
theorem c81x3 (p:Pdu)(h1c:p.copy.length≤10000)(h2c:p.text.size≤10000):ASpec prog 81 [encD {p with kind:=3}] (slE 1 u8 (rsL {p with kind:=3})):=by
 refine ASpec.treeW Proofs.Try.f81 (T81x3 p) (by kernel_rfl) (by kernel_rfl) (t81x3 p) ?_
 refine⟨_,rfl,?_⟩
 all_goals try first
  |decide
  |omega
  |rfl
  |exact⟨by simp[num_len,bytesL_len];try omega,trivial⟩
  |(simp[askA,cellsOk_append,ok8,ok8f,ok8c,ok8n,num_len,bytesL_len,List.map_append];done)
  |(simp[askA,cellsOk_append,ok8,ok8f,ok8c,ok8n,num_len,bytesL_len,List.map_append];omega)
 ·rw[rs_2 (by first|exact .inl rfl|exact .inr (.inl rfl)|exact .inr (.inr rfl))];exact .nil _ _ _
theorem c81x4 (p:Pdu)(h1c:p.copy.length≤10000)(h2c:p.text.size≤10000):ASpec prog 81 [encD {p with kind:=4}] (slE 1 u8 (rsL {p with kind:=4})):=by
 refine ASpec.treeW Proofs.Try.f81 (T81x4 p) (by kernel_rfl) (by kernel_rfl) (t81x4 p) ?_
 refine need_sat ⟨ILeL.refl _,c93 _⟩ (need_sat ⟨ILeL.refl _,c82 _ _ ?_ ?_⟩ (need_sat ?_ (need_sat ⟨ILeL.refl _,c82 _ _ ?_ ?_⟩ (need_sat ?_ (need_sat ?_ ⟨_,rfl,?_⟩)))))
 all_goals try first
  |decide
  |omega
  |rfl
  |exact⟨by simp[num_len,bytesL_len];try omega,trivial⟩
  |(simp[askA,cellsOk_append,ok8,ok8f,ok8c,ok8n,num_len,bytesL_len,List.map_append];done)
  |(simp[askA,cellsOk_append,ok8,ok8f,ok8c,ok8n,num_len,bytesL_len,List.map_append];omega)
 ·refine sl_eq ?_
  rw[rs_4 (.inl rfl)]
  unfold rs57
  rw[head4,if_neg (show ¬(4:Int)=6 by decide)]
  simp only[List.map_append]
  rfl
theorem c81x6 (p:Pdu)(h1c:p.copy.length≤10000)(h2c:p.text.size≤10000):ASpec prog 81 [encD {p with kind:=6}] (slE 1 u8 (rsL {p with kind:=6})):=by
 refine ASpec.treeW Proofs.Try.f81 (T81x6 p) (by kernel_rfl) (by kernel_rfl) (t81x6 p) ?_
 refine need_sat ⟨ILeL.refl _,c93 _⟩ (need_sat ⟨ILeL.refl _,c82 _ _ ?_ ?_⟩ (need_sat ?_ (need_sat ⟨ILeL.refl _,c82 _ _ ?_ ?_⟩ (need_sat ?_ (need_sat ⟨ILeL.refl _,c82 _ _ ?_ ?_⟩ (need_sat ?_ (need_sat ?_ ⟨_,rfl,?_⟩)))))))
 all_goals try first
  |decide
  |omega
  |rfl
  |exact⟨by simp[num_len,bytesL_len];try omega,trivial⟩
  |(simp[askA,cellsOk_append,ok8,ok8f,ok8c,ok8n,num_len,bytesL_len,List.map_append];done)
  |(simp[askA,cellsOk_append,ok8,ok8f,ok8c,ok8n,num_len,bytesL_len,List.map_append];omega)
 ·refine sl_eq ?_
  rw[rs_4 (.inr rfl)]
  unfold rs57
  rw[head4,if_pos (show (6:Int)=6 from rfl)]
  simp only[List.map_append,List.append_assoc]
  rfl
theorem c81x7 (p:Pdu)(h1c:p.copy.length≤10000)(h2c:p.text.size≤10000):ASpec prog 81 [encD {p with kind:=7}] (slE 1 u8 (rsL {p with kind:=7})):=by
 refine ASpec.treeW Proofs.Try.f81 (T81x7 p) (by kernel_rfl) (by kernel_rfl) (t81x7 p) ?_
 refine need_sat ⟨ILeL.refl _,o82 _ _ ?_ ?_⟩ ⟨fun h1=>need_sat ⟨ILeL.refl _,c82 _ _ ?_ ?_⟩ (need_sat ?_ (need_sat ⟨ILeL.refl _,c82 _ _ ?_ ?_⟩ (need_sat ?_ (need_sat ⟨ILeL.refl _,c82 _ _ ?_ ?_⟩ (need_sat ?_ (need_sat ?_ ⟨_,rfl,?_⟩)))))),fun h1=>need_sat ?_ ⟨_,rfl,?_⟩⟩
 all_goals try first
  |decide
  |omega
  |rfl
  |exact⟨by simp[num_len,bytesL_len];try omega,trivial⟩
  |(simp[askA,cellsOk_append,ok8,ok8f,ok8c,ok8n,num_len,bytesL_len,List.map_append];done)
  |(simp[askA,cellsOk_append,ok8,ok8f,ok8c,ok8n,num_len,bytesL_len,List.map_append];omega)
 ·refine sl_eq ?_
  have hv:0<p.version:=of_decide_eq_true (by assumption)
  rw[rs_7 rfl];unfold rs60;rw[if_pos hv];simp only[List.map_append,List.append_assoc];rfl
 ·refine sl_eq ?_
  have hv:¬0<p.version:=of_decide_eq_false (by assumption)
  rw[rs_7 rfl];unfold rs60;rw[if_neg hv,List.append_nil];rfl
theorem c81x8 (p:Pdu)(h1c:p.copy.length≤10000)(h2c:p.text.size≤10000):ASpec prog 81 [encD {p with kind:=8}] (slE 1 u8 (rsL {p with kind:=8})):=by
 refine ASpec.treeW Proofs.Try.f81 (T81x8 p) (by kernel_rfl) (by kernel_rfl) (t81x8 p) ?_
 refine⟨_,rfl,?_⟩
 all_goals try first
  |decide
  |omega
  |rfl
  |exact⟨by simp[num_len,bytesL_len];try omega,trivial⟩
  |(simp[askA,cellsOk_append,ok8,ok8f,ok8c,ok8n,num_len,bytesL_len,List.map_append];done)
  |(simp[askA,cellsOk_append,ok8,ok8f,ok8c,ok8n,num_len,bytesL_len,List.map_append];omega)
 ·rw[rs_2 (by first|exact .inl rfl|exact .inr (.inl rfl)|exact .inr (.inr rfl))];exact .nil _ _ _
theorem c81x10 (p:Pdu)(h1c:p.copy.length≤10000)(h2c:p.text.size≤10000):ASpec prog 81 [encD {p with kind:=10}] (slE 1 u8 (rsL {p with kind:=10})):=by
 refine ASpec.treeW Proofs.Try.f81 (T81x10 p) (by kernel_rfl) (by kernel_rfl) (t81x10 p) ?_
 have eC:(List.map u8 (Pdu.mk p.version 10 p.session p.serial p.add p.origin p.path p.key p.refresh p.retry p.expire p.code p.copy p.text).copy).length=p.copy.length:=by rw[List.length_map]
 try dsimp-proj-iota-eta only
 rw[eC]
 refine need_sat ⟨(by repeat' first|exact ILeL.refl _|exact ILe.refl _|exact ILe.nil _ _ _|exact ILe.sl (fun h=>by cases h) (fun h=>h) (ILeL.refl _)|apply ILeL.cons|apply ILe.agg|apply ILe.tup),o82 _ _ ?_ ?_⟩ (need_sat ?_ (need_sat ⟨ILeL.refl _,c82 _ _ ?_ ?_⟩ (need_sat ?_ (need_sat ?_ (need_sat ?_ (need_sat ?_ ⟨_,rfl,?_⟩))))))
 all_goals try first
  |decide
  |omega
  |rfl
  |exact⟨by simp[num_len,bytesL_len];try omega,trivial⟩
  |(simp[askA,cellsOk_append,ok8,ok8f,ok8c,ok8n,num_len,bytesL_len,List.map_append];done)
  |(simp[askA,cellsOk_append,ok8,ok8f,ok8c,ok8n,num_len,bytesL_len,List.map_append];omega)
 ·refine sl_eq ?_
  rw[rs_10 rfl]
  unfold rs69
  simp only[List.map_append]<;>rfl
noncomputable def U23 (p:Pdu):Nat→Tell
 |0=>T23r0 p
 |1=>T23r1 p
 |2=>T23r2 p
 |3=>T23r3 p
 |4=>T23r4 p
 |5=>T23r5 p
 |6=>T23r6 p
 |7=>T23r7 p
 |8=>T23r8 p
 |9=>T23r9 p
 |10=>T23r10 p
 |11=>T23r11 p
 |12=>T23r12 p
 |13=>T23r13 p
 |14=>T23r14 p
 |15=>T23r15 p
 |_=>T23r16 p
theorem b9_s (p:Pdu)(i:Nat)(x:Int)(h:(rootL p.key)[i]?=some x):(b9 p i).map u8++[u8 x]=(b9 p (i+1)).map u8:=by
 unfold b9
 rw[List.take_add_one,h]
 simp only[List.map_append,List.append_assoc];rfl
theorem l23 (p:Pdu)(σ:LState)(h:LSub σ (I23 p 0)):LoopOk prog [] (bodyOf Proofs.Try.f81) 23 σ (.done (.exit 1) (E23 p)):=by
 refine LoopOk.countN 16 1 (I23 p) (E23 p) (U23 p) fin23 (by kernel_rfl) h fun i hi=>?_
 have hb:∀i:Nat,i≤16→(b9 p i).length=5+i:=fun i hi=>by simp[b9,num_len,rootL];omega
 match i,hi with
 |0,_=>
  show (levLN prog Proofs.Try.f81 23 (I23 p 0) (T23r0 p) fin23).sat _ _
  rw[t23r0]
  exact need_sat ⟨⟨by rw[List.length_map,hb 0 (by decide)],ok8 _,rfl,by decide⟩,rfl⟩ ⟨by decide,⟨rfl,rfl,rfl,trivial⟩,⟨rfl,congrArg (fun l=>some (Entry.row 5 1 l)) (b9_s p 0 _ rfl),trivial⟩,rfl,rfl,rfl⟩
 |1,_=>
  show (levLN prog Proofs.Try.f81 23 (I23 p 1) (T23r1 p) fin23).sat _ _
  rw[t23r1]
  exact need_sat ⟨⟨by rw[List.length_map,hb 1 (by decide)],ok8 _,rfl,by decide⟩,rfl⟩ ⟨by decide,⟨rfl,rfl,rfl,trivial⟩,⟨rfl,congrArg (fun l=>some (Entry.row 5 1 l)) (b9_s p 1 _ rfl),trivial⟩,rfl,rfl,rfl⟩
 |2,_=>
  show (levLN prog Proofs.Try.f81 23 (I23 p 2) (T23r2 p) fin23).sat _ _
  rw[t23r2]
  exact need_sat ⟨⟨by rw[List.length_map,hb 2 (by decide)],ok8 _,rfl,by decide⟩,rfl⟩ ⟨by decide,⟨rfl,rfl,rfl,trivial⟩,⟨rfl,congrArg (fun l=>some (Entry.row 5 1 l)) (b9_s p 2 _ rfl),trivial⟩,rfl,rfl,rfl⟩
 |3,_=>
  show (levLN prog Proofs.Try.f81 23 (I23 p 3) (T23r3 p) fin23).sat _ _
  rw[t23r3]
  exact need_sat ⟨⟨by rw[List.length_map,hb 3 (by decide)],ok8 _,rfl,by decide⟩,rfl⟩ ⟨by decide,⟨rfl,rfl,rfl,trivial⟩,⟨rfl,congrArg (fun l=>some (Entry.row 5 1 l)) (b9_s p 3 _ rfl),trivial⟩,rfl,rfl,rfl⟩
 |4,_=>
  show (levLN prog Proofs.Try.f81 23 (I23 p 4) (T23r4 p) fin23).sat _ _
  rw[t23r4]
  exact need_sat ⟨⟨by rw[List.length_map,hb 4 (by decide)],ok8 _,rfl,by decide⟩,rfl⟩ ⟨by decide,⟨rfl,rfl,rfl,trivial⟩,⟨rfl,congrArg (fun l=>some (Entry.row 5 1 l)) (b9_s p 4 _ rfl),trivial⟩,rfl,rfl,rfl⟩
 |5,_=>
  show (levLN prog Proofs.Try.f81 23 (I23 p 5) (T23r5 p) fin23).sat _ _
  rw[t23r5]
  exact need_sat ⟨⟨by rw[List.length_map,hb 5 (by decide)],ok8 _,rfl,by decide⟩,rfl⟩ ⟨by decide,⟨rfl,rfl,rfl,trivial⟩,⟨rfl,congrArg (fun l=>some (Entry.row 5 1 l)) (b9_s p 5 _ rfl),trivial⟩,rfl,rfl,rfl⟩
 |6,_=>
  show (levLN prog Proofs.Try.f81 23 (I23 p 6) (T23r6 p) fin23).sat _ _
  rw[t23r6]
  exact need_sat ⟨⟨by rw[List.length_map,hb 6 (by decide)],ok8 _,rfl,by decide⟩,rfl⟩ ⟨by decide,⟨rfl,rfl,rfl,trivial⟩,⟨rfl,congrArg (fun l=>some (Entry.row 5 1 l)) (b9_s p 6 _ rfl),trivial⟩,rfl,rfl,rfl⟩
 |7,_=>
  show (levLN prog Proofs.Try.f81 23 (I23 p 7) (T23r7 p) fin23).sat _ _
  rw[t23r7]
  exact need_sat ⟨⟨by rw[List.length_map,hb 7 (by decide)],ok8 _,rfl,by decide⟩,rfl⟩ ⟨by decide,⟨rfl,rfl,rfl,trivial⟩,⟨rfl,congrArg (fun l=>some (Entry.row 5 1 l)) (b9_s p 7 _ rfl),trivial⟩,rfl,rfl,rfl⟩
 |8,_=>
  show (levLN prog Proofs.Try.f81 23 (I23 p 8) (T23r8 p) fin23).sat _ _
  rw[t23r8]
  exact need_sat ⟨⟨by rw[List.length_map,hb 8 (by decide)],ok8 _,rfl,by decide⟩,rfl⟩ ⟨by decide,⟨rfl,rfl,rfl,trivial⟩,⟨rfl,congrArg (fun l=>some (Entry.row 5 1 l)) (b9_s p 8 _ rfl),trivial⟩,rfl,rfl,rfl⟩
 |9,_=>
  show (levLN prog Proofs.Try.f81 23 (I23 p 9) (T23r9 p) fin23).sat _ _
  rw[t23r9]
  exact need_sat ⟨⟨by rw[List.length_map,hb 9 (by decide)],ok8 _,rfl,by decide⟩,rfl⟩ ⟨by decide,⟨rfl,rfl,rfl,trivial⟩,⟨rfl,congrArg (fun l=>some (Entry.row 5 1 l)) (b9_s p 9 _ rfl),trivial⟩,rfl,rfl,rfl⟩
 |10,_=>
  show (levLN prog Proofs.Try.f81 23 (I23 p 10) (T23r10 p) fin23).sat _ _
  rw[t23r10]
  exact need_sat ⟨⟨by rw[List.length_map,hb 10 (by decide)],ok8 _,rfl,by decide⟩,rfl⟩ ⟨by decide,⟨rfl,rfl,rfl,trivial⟩,⟨rfl,congrArg (fun l=>some (Entry.row 5 1 l)) (b9_s p 10 _ rfl),trivial⟩,rfl,rfl,rfl⟩
 |11,_=>
  show (levLN prog Proofs.Try.f81 23 (I23 p 11) (T23r11 p) fin23).sat _ _
  rw[t23r11]
  exact need_sat ⟨⟨by rw[List.length_map,hb 11 (by decide)],ok8 _,rfl,by decide⟩,rfl⟩ ⟨by decide,⟨rfl,rfl,rfl,trivial⟩,⟨rfl,congrArg (fun l=>some (Entry.row 5 1 l)) (b9_s p 11 _ rfl),trivial⟩,rfl,rfl,rfl⟩
 |12,_=>
  show (levLN prog Proofs.Try.f81 23 (I23 p 12) (T23r12 p) fin23).sat _ _
  rw[t23r12]
  exact need_sat ⟨⟨by rw[List.length_map,hb 12 (by decide)],ok8 _,rfl,by decide⟩,rfl⟩ ⟨by decide,⟨rfl,rfl,rfl,trivial⟩,⟨rfl,congrArg (fun l=>some (Entry.row 5 1 l)) (b9_s p 12 _ rfl),trivial⟩,rfl,rfl,rfl⟩
 |13,_=>
  show (levLN prog Proofs.Try.f81 23 (I23 p 13) (T23r13 p) fin23).sat _ _
  rw[t23r13]
  exact need_sat ⟨⟨by rw[List.length_map,hb 13 (by decide)],ok8 _,rfl,by decide⟩,rfl⟩ ⟨by decide,⟨rfl,rfl,rfl,trivial⟩,⟨rfl,congrArg (fun l=>some (Entry.row 5 1 l)) (b9_s p 13 _ rfl),trivial⟩,rfl,rfl,rfl⟩
 |14,_=>
  show (levLN prog Proofs.Try.f81 23 (I23 p 14) (T23r14 p) fin23).sat _ _
  rw[t23r14]
  exact need_sat ⟨⟨by rw[List.length_map,hb 14 (by decide)],ok8 _,rfl,by decide⟩,rfl⟩ ⟨by decide,⟨rfl,rfl,rfl,trivial⟩,⟨rfl,congrArg (fun l=>some (Entry.row 5 1 l)) (b9_s p 14 _ rfl),trivial⟩,rfl,rfl,rfl⟩
 |15,_=>
  show (levLN prog Proofs.Try.f81 23 (I23 p 15) (T23r15 p) fin23).sat _ _
  rw[t23r15]
  exact need_sat ⟨⟨by rw[List.length_map,hb 15 (by decide)],ok8 _,rfl,by decide⟩,rfl⟩ ⟨by decide,⟨rfl,rfl,rfl,trivial⟩,⟨rfl,congrArg (fun l=>some (Entry.row 5 1 l)) (b9_s p 15 _ rfl),trivial⟩,rfl,rfl,rfl⟩
 |16,_=>
  show (levLN prog Proofs.Try.f81 23 (I23 p 16) (T23r16 p) fin23).sat _ _
  rw[t23r16]
  exact⟨rfl,by decide,⟨rfl,trivial⟩,⟨rfl,trivial⟩,rfl,rfl,rfl⟩
 |n+17,h=>omega
theorem c81x9 (p:Pdu):ASpec prog 81 [encD {p with kind:=9}] (slE 1 u8 (rsL {p with kind:=9})):=by
 refine ASpec.treeW Proofs.Try.f81 (T81x9 p) (by kernel_rfl) (by kernel_rfl) (t81x9 p) ?_
 have hb:(b9 p 16).length=21:=by simp[b9,num_len,rootL]
 refine need_sat ⟨ILeL.refl _,o82 _ _ (by decide) (by decide)⟩ (need_sat ?_ ⟨?_,need_sat ⟨by rw[List.length_map,hb],trivial⟩ ⟨_,rfl,?_⟩⟩)
 ·simp[askA,ok8,num_len]
 ·refine .nam (τ:=I23 p 0) (.more 60 (Nat.le_of_ble_eq_true rfl) (.sw 28 50 (show 28<60 by decide) (show 50<60 by decide) (.sub ?_))) (l23 p _ ⟨⟨rfl,rfl,rfl,trivial⟩,⟨rfl,rfl,trivial⟩,rfl,rfl,rfl⟩)
  refine⟨⟨rfl,?_,rfl,trivial⟩,⟨rfl,?_,trivial⟩,rfl,rfl,rfl⟩
  ·exact congrArg (AVal.own 50) (by rw[List.length_map,num_len];rfl)
  ·show some (Entry.row 5 1 (List.map u8 (num (w64 p.key.asn) 4)++[u8 (IntKind.u8.wrap p.key.height)]))=some (Entry.row 5 1 ((b9 p 0).map u8))
   unfold b9
   rw[List.take_zero,List.append_nil,List.map_append];rfl
 ·refine sl_eq ?_
  rw[rs_9 rfl]
  have e:∀x:Int,w64 x % 256=IntKind.u8.wrap x:=fun x=>by
   show x % 18446744073709551616 % 256=x % 256
   omega
  unfold rs64 b9
  rw[num1,e];rfl
theorem l33b (p:Pdu)(hp:p.path.provs.length≤100000)(σ:LState)(h:LSub σ (I33b p 0)):LoopOk prog [] (bodyOf Proofs.Try.f81) 33 σ (.done (.exit 3) (E33b p)):=by
 refine LoopOk.countN p.path.provs.length 3 (I33b p) (E33b p) (T33b p) fin33b (by kernel_rfl) h fun i hi=>?_
 rw[t33b]
 have hb:(b73 p i).length=4+4*i:=by simp[b73,num_len,pvL_len];omega
 refine⟨fun h1=>need_sat ⟨by omega,?_⟩ (need_sat ⟨ILeL.refl _,c82 _ _ (by decide) (by decide)⟩ (need_sat ⟨by rw[List.length_map],ok8 _,ok8 _,by rw[List.length_map,num_len,hb];omega⟩ ?_)),fun h1=>?_⟩
 ·have h1':i<p.path.provs.length:=by have:=of_decide_eq_true h1;rw[List.length_map]at this;exact Int.ofNat_lt.1 this
  show (List.map u32 p.path.provs)[i]?=some (u32 (p.path.provs.getD i 0))
  rw[List.getElem?_map,List.getElem?_eq_getElem h1',List.getD_eq_getElem?_getD,List.getElem?_eq_getElem h1'];rfl
 ·have h1':i<p.path.provs.length:=by have:=of_decide_eq_true h1;rw[List.length_map]at this;exact Int.ofNat_lt.1 this
  have e:b73 p i++num (w64 (p.path.provs.getD i 0)) 4=b73 p (i+1):=by rw[b73,b73,pvL_take _ _ h1',List.append_assoc]
  refine⟨h1',⟨?_,?_,rfl,trivial⟩,⟨rfl,?_,trivial⟩,rfl,rfl,rfl⟩
  ·refine congrArg (fun n=>AVal.imm (i64 n)) ?_
   rw[IntWalk.i64_in _ (by omega)];omega
  ·exact congrArg (AVal.own 50) (by rw[←e,List.length_map,List.length_append])
  ·exact congrArg (fun l=>some (Entry.row 5 1 l)) (by rw[←e,List.map_append])
 ·have h1':¬i<p.path.provs.length:=by have:=of_decide_eq_false h1;rw[List.length_map]at this;exact fun h=>this (Int.ofNat_lt.2 h)
  have:i=p.path.provs.length:=by omega
  subst this
  have e:b73 p p.path.provs.length=rs73 p:=by rw[b73,rs73,List.take_length]
  rw[e]
  exact⟨rfl,by omega,⟨rfl,trivial⟩,⟨rfl,trivial⟩,rfl,rfl,rfl⟩
theorem c81x11 (p:Pdu)(hp:p.path.provs.length≤100000):ASpec prog 81 [encD {p with kind:=11}] (slE 1 u8 (rsL {p with kind:=11})):=by
 refine ASpec.treeW Proofs.Try.f81 (T81x11 p) (by kernel_rfl) (by kernel_rfl) (t81x11 p) ?_
 refine need_sat ⟨ILeL.refl _,o82 _ _ (by decide) (by decide)⟩ ⟨?_,need_sat ⟨by rw[List.length_map],trivial⟩ ⟨_,rfl,?_⟩⟩
 ·have e:b73 p 0=num (w64 p.path.cust) 4:=by simp[b73,pvL]
  refine .nam (τ:=I33b p 0) (.more 60 (Nat.le_of_ble_eq_true rfl) (.sw 25 50 (show 25<60 by decide) (show 50<60 by decide) (.sub ?_))) (l33b p hp _ ⟨⟨rfl,rfl,rfl,trivial⟩,⟨rfl,rfl,trivial⟩,rfl,rfl,rfl⟩)
  refine⟨⟨rfl,?_,rfl,trivial⟩,⟨rfl,?_,trivial⟩,rfl,rfl,rfl⟩
  ·exact congrArg (AVal.own 50) (by rw[e,List.length_map])
  ·rw[e];rfl
 ·exact sl_eq (by rw[rs_11 rfl];rfl)
theorem with_k {p:Pdu}{k:Int}(h:p.kind=k):{p with kind:=k}=p:=by subst h;rfl
theorem c81 (p:Pdu)(hk:isK p.kind)(h1c:p.copy.length≤10000)(h2c:p.text.size≤10000)(h3c:p.path.provs.length≤10000):ASpec prog 81 [encD p] (slE 1 u8 (rsL p)):=by
 unfold isK at hk
 rcases hk with h|h|h|h|h|h|h|h|h|h|h
 ·have q:=c81x0 p h1c h2c;rwa[with_k h]at q
 ·have q:=c81x1 p h1c h2c;rwa[with_k h]at q
 ·have q:=c81x2 p h1c h2c;rwa[with_k h]at q
 ·have q:=c81x8 p h1c h2c;rwa[with_k h]at q
 ·have q:=c81x4 p h1c h2c;rwa[with_k h]at q
 ·have q:=c81x6 p h1c h2c;rwa[with_k h]at q
 ·have q:=c81x3 p h1c h2c;rwa[with_k h]at q
 ·have q:=c81x7 p h1c h2c;rwa[with_k h]at q
 ·have q:=c81x9 p;rwa[with_k h]at q
 ·have q:=c81x10 p h1c h2c;rwa[with_k h]at q
 ·have q:=c81x11 p (by omega);rwa[with_k h]at q
end Gp
namespace Gp
def T44 (p:Pdu):Tell:=
 (let q0:=IntKind.wrap IntKind.u64 (IntKind.wrap IntKind.i64 (8+(↑(List.length (List.map u8 (rsL p))):Int)));
 Tell.mk (fun r i=>r==2&&i==7) (fun r i=>if(r==2&&i==7)=true then Orc.callo [u64 (midF p),i64 2] 5 1 (List.map u8 (num (midF p) 2))else Orc.no) (fun x=>Tree.fail 1000003 0) (fun x=>0) (fun x=>([],[])) (ogetO (fun r i=>if(r==2&&i==7)=true then Orc.callo [u64 (midF p),i64 2] 5 1 (List.map u8 (num (midF p) 2))else Orc.no) [(2,1,1,Orc.call [encD p] (slE 1 u8 (rsL p))),(5,2,6,Orc.call [encD p] (u64 (midF p))),(15,3,5,Orc.call [u64 q0,i64 4] (slE 1 u8 (num q0 4)))]) fun x x_1=>Tree.fail 1000003 0)
theorem t44 (p:Pdu):levF prog Proofs.Try.f44 [encD p] (T44 p)=
 (let q4:=List.map u8 (rsL p);let q0:=IntKind.wrap IntKind.u64 (IntKind.wrap IntKind.i64 (8+(↑(List.length q4):Int)));let q3:=num (midF p) 2;let q1:=List.map u8 q3;let q2:=List.map u8 (num q0 4);
 Tree.need (ILeL [encD p] [encD p]∧ASpec prog 81 [encD p] (slE 1 u8 (rsL p))) (.need (ILeL [encD p] [encD p]∧ASpec prog 83 [encD p] (u64 (midF p))) (.need (ILeL [u64 (midF p),i64 2] [u64 (midF p),i64 2]∧OSpec prog 82 [u64 (midF p),i64 2] 5 1 q1) (.need (askA (some (List.length q1=List.length q1)) (2=2∧true=true∧cellsOk q1=true∧2+List.length q1≤1000000)) (.need (ILeL [u64 q0,i64 4] [u64 q0,i64 4]∧ASpec prog 82 [u64 q0,i64 4] (slE 1 u8 (num q0 4))) (.need (askA none (List.length ([u8 p.version,u8 p.kind]++List.map u8 q3)=2+List.length q1∧(true&&(true&&cellsOk
 (List.append [] q1)))=true∧cellsOk q2=true∧2+List.length q1+List.length q2≤1000000)) (.need (askA none (List.length ([u8 p.version,u8 p.kind]++List.map u8 q3++List.map u8 (num q0 4))=2+List.length q1+List.length q2∧(true&&(true&&cellsOk (List.append (List.append [] q1) q2)))=true∧cellsOk q4=true∧2+List.length q1+List.length q2+List.length q4≤1000000)) (.need (eqs [(2+List.length q1+List.length q2+List.length q4,List.length ([u8 p.version,u8 p.kind]++List.map u8 q3++List.map u8 (num q0 4)++List.map u8 (rsL p)))]) (.done Exit.ret (lret
 (.sl true false 1 ([u8 p.version,u8 p.kind]++List.map u8 q3++List.map u8 (num q0 4)++List.map u8 (rsL p))))))))))))):=by kernel_rfl
theorem c44 (p:Pdu)(hk:isK p.kind)(h1c:p.copy.length≤10000)(h2c:p.text.size≤10000)(h3c:p.path.provs.length≤10000):ASpec prog 44 [encD p] (slE 1 u8 (rfB p)):=by
 refine ASpec.treeW Proofs.Try.f44 (T44 p) (by kernel_rfl) (by kernel_rfl) (t44 p) ?_
 have hr:=rsL_le p
 have er:(List.map u8 (rsL p)).length=(rsL p).length:=List.length_map ..
 try dsimp-proj-iota-eta only
 rw[er]
 refine need_sat ⟨ILeL.refl _,c81 p hk h1c h2c h3c⟩ (need_sat ⟨ILeL.refl _,c83 p⟩ (need_sat ⟨ILeL.refl _,o82 _ _ (by decide) (by decide)⟩ (need_sat ?_ (need_sat ⟨ILeL.refl _,c82 _ _ (by decide) (by decide)⟩ (need_sat ?_ (need_sat ?_ (need_sat ⟨?_,trivial⟩ ⟨_,rfl,sl_eq ?_⟩)))))))
 ·simp[askA,ok8,num_len]
 ·simp[askA,ok8,num_len]
 ·simp[askA,cellsOk_append,ok8,num_len];omega
 ·simp[num_len];omega
 ·unfold rfB
  simp only[List.map_append];rfl
end Gp
namespace Gp
def ownB (l:List Int):List Int:=l.take (atF l 4 4).toNat
def T26 (l:List Int):Tell:=
 (let q0:=rrF (ownB l);
 Tell.mk (fun r i=>r==8&&i==5) (fun r i=>if(r==8&&i==4)=true then Orc.slc else if(r==9&&i==1)=true then Orc.call [slE 1 u8 (ownB l)] (encD q0)else if(r==10&&i==7)=true then Orc.call [slE 1 u8 (rfB q0),slE 1 u8 (ownB l)] (bo (decide (rfB q0=ownB l)))else Orc.no) (fun x=>Tree.fail 1000003 0) (fun x=>0) (fun x=>([],[])) (ogetO (fun r i=>if(r==8&&i==4)=true then Orc.slc else if(r==9&&i==1)=true then Orc.call [slE 1 u8 (ownB l)] (encD q0)else if(r==10&&i==7)=true then Orc.call [slE 1 u8 (rfB q0),slE 1 u8 (ownB l)] (bo
 (decide (rfB q0=ownB l)))else Orc.no) [(6,3,1,Orc.call [slE 1 u8 l,i64 4,i64 4] (u64 (atF l (Int.toNat 4) (Int.toNat 4)))),(31,10,1,Orc.call [encD q0] (i64 (refC q0))),(31,10,5,Orc.call [encD q0] (slE 1 u8 (rfB q0)))]) fun x x_1=>Tree.fail 1000003 0)
theorem t26 (l:List Int):levF prog Proofs.Try.f26 [slE 1 u8 l] (T26 l)=
 (let q0:=List.take (Int.toNat (IntKind.wrap IntKind.i64 (atF l 4 4))) (List.map u8 l);let q1:=rrF (ownB l);let q2:=List.length (List.map u8 l);
 Tree.br (decide ((↑q2:Int)<8)) (.done Exit.ret (lret (.tup [.agg [u8 0,u8 0,u16 0,u32 0,bo false,u32 0,u8 0,u64 0,u64 0,i64 0,i64 0,u32 0,nS,u32 0,u8 0,u8 0,u8 0,u8 0,u8 0,u8 0,u8 0,u8 0,u8 0,u8 0,u8 0,u8 0,u8 0,u8 0,u8 0,u8 0,i64 0,u32 0,u32 0,u32 0,u16 0,nS,st .empty],i64 0,i64 34]))) (.need (ILeL [slE 1 u8 l,i64 4,i64 4] [slE 1 u8 l,i64 4,i64 4]∧ASpec prog 45 [slE 1 u8 l,i64 4,i64 4] (u64 (atF l 4 4))) (.br (decide (atF l 4 4<8)) (.done Exit.ret (lret (.tup [.agg [u8 0,u8 0,u16 0,u32 0,bo false,u32 0,u8 0,u64 0,u64 0,i64 0,i64 0,u32 0,nS,u32 0,u8 0,u8 0,u8 0,u8 0,u8 0,u8 0,u8 0,u8
 0,u8 0,u8 0,u8 0,u8 0,u8 0,u8 0,u8 0,u8 0,i64 0,u32 0,u32 0,u32 0,u16 0,nS,st .empty],i64 0,i64 12]))) (.br (decide (4312<atF l 4 4)) (.done Exit.ret (lret (.tup [.agg [u8 0,u8 0,u16 0,u32 0,bo false,u32 0,u8 0,u64 0,u64 0,i64 0,i64 0,u32 0,nS,u32 0,u8 0,u8 0,u8 0,u8 0,u8 0,u8 0,u8 0,u8 0,u8 0,u8 0,u8 0,u8 0,u8 0,u8 0,u8 0,u8 0,i64 0,u32 0,u32 0,u32 0,u16 0,nS,st .empty],i64 0,i64 12]))) (.br (decide (IntKind.wrap IntKind.u64 (↑q2:Int)<atF l 4 4)) (.done Exit.ret (lret (.tup [.agg [u8 0,u8 0,u16 0,u32 0,bo false,u32 0,u8 0,u64 0,u64 0,i64 0,i64 0,u32 0,nS,u32 0,u8 0,u8 0,u8 0,u8 0,u8 0,u8
 0,u8 0,u8 0,u8 0,u8 0,u8 0,u8 0,u8 0,u8 0,u8 0,u8 0,i64 0,u32 0,u32 0,u32 0,u16 0,nS,st .empty],i64 0,i64 34]))) (.need ((0:Int)≤(0:Int)∧0≤IntKind.wrap IntKind.i64 (atF l 4 4)∧IntKind.wrap IntKind.i64 (atF l 4 4)≤(↑q2:Int)) (.need (askA none (0=0∧true=true∧cellsOk (List.drop 0 q0)=true∧0+List.length (List.drop 0 q0)≤1000000)) (.need (ILeL [.sl true false 1 ([]++List.drop 0 q0)] [slE 1 u8 (ownB l)]∧ASpec prog 46 [slE 1 u8 (ownB l)] (encD q1)) (.need (ILeL [encD q1] [encD q1]∧ASpec prog 15 [encD q1] (i64 (refC q1))) (.br (!decide (refC q1=0)) (.done
 Exit.ret (lret (.tup [.agg [u8 0,u8 0,u16 0,u32 0,bo false,u32 0,u8 0,u64 0,u64 0,i64 0,i64 0,u32 0,nS,u32 0,u8 0,u8 0,u8 0,u8 0,u8 0,u8 0,u8 0,u8 0,u8 0,u8 0,u8 0,u8 0,u8 0,u8 0,u8 0,u8 0,i64 0,u32 0,u32 0,u32 0,u16 0,nS,st .empty],i64 0,i64 12]))) (.need (ILeL [encD q1] [encD q1]∧ASpec prog 44 [encD q1] (slE 1 u8 (rfB q1))) (.need (ILeL [slE 1 u8 (rfB q1),.sl true false 1 ([]++List.drop 0 q0)] [slE 1 u8 (rfB q1),slE 1 u8 (ownB l)]∧ASpec prog 27 [slE 1 u8 (rfB q1),slE 1 u8 (ownB l)] (bo (decide (rfB q1=ownB l)))) (.br (!decide (rfB q1=ownB l)) (.done Exit.ret (lret (.tup [.agg [u8
 0,u8 0,u16 0,u32 0,bo false,u32 0,u8 0,u64 0,u64 0,i64 0,i64 0,u32 0,nS,u32 0,u8 0,u8 0,u8 0,u8 0,u8 0,u8 0,u8 0,u8 0,u8 0,u8 0,u8 0,u8 0,u8 0,u8 0,u8 0,u8 0,i64 0,u32 0,u32 0,u32 0,u16 0,nS,st .empty],i64 0,i64 12]))) (.done Exit.ret (lret (.tup [encD q1,i64 (IntKind.wrap IntKind.i64 (atF l 4 4)),i64 0])))))))))))))))):=by kernel_rfl
theorem rfz {l:List Int}{e:Int}(h:rfD l=(zeroP,0,e)):ILe (.tup [z42,i64 0,i64 e]) (decT (rfD l)):=by
 rw[h]
 exact .tup (.cons (ile_pdu zeroP _ _ (ile_n _ rfl) (ile_n' _ rfl)) (.refl _))
theorem rr_sz (l:List Int):(rrF l).copy.length≤l.length∧(rrF l).path.provs.length≤l.length:=by
 have z0:(0:Nat)≤l.length:=Nat.zero_le _
 unfold rrF
 repeat' split
 ·exact⟨z0,z0⟩
 ·exact⟨z0,z0⟩
 ·exact⟨z0,z0⟩
 ·exact⟨z0,z0⟩
 ·exact⟨z0,z0⟩
 ·exact⟨z0,z0⟩
 ·exact⟨partF_len l 12 _,z0⟩
 ·refine⟨z0,?_⟩
  show (pvA l ((l.length-8)/4-1)).length≤l.length
  rw[pvA_len];omega
 ·exact⟨z0,z0⟩
theorem rfD_1 {l:List Int}(h:l.length<8):rfD l=(zeroP,0,34):=if_pos h
theorem rfD_2 {l:List Int}(h:¬l.length<8)(h2:atF l 4 4<8∨4312<atF l 4 4):rfD l=(zeroP,0,12):=(if_neg h).trans (if_pos h2)
theorem rfD_3 {l:List Int}(h:¬l.length<8)(h2:¬(atF l 4 4<8∨4312<atF l 4 4))(h3:(l.length:Int)<atF l 4 4):rfD l=(zeroP,0,34):=(if_neg h).trans ((if_neg h2).trans (if_pos h3))
theorem rfD_4 {l:List Int}(h:¬l.length<8)(h2:¬(atF l 4 4<8∨4312<atF l 4 4))(h3:¬(l.length:Int)<atF l 4 4)(h4:¬(refC (rrF (ownB l))=0∧rfB (rrF (ownB l))=ownB l)):rfD l=(zeroP,0,12):=(if_neg h).trans ((if_neg h2).trans ((if_neg h3).trans (if_neg h4)))
theorem rfD_5 {l:List Int}(h:¬l.length<8)(h2:¬(atF l 4 4<8∨4312<atF l 4 4))(h3:¬(l.length:Int)<atF l 4 4)(h4:refC (rrF (ownB l))=0∧rfB (rrF (ownB l))=ownB l):rfD l=(rrF (ownB l),atF l 4 4,0):=(if_neg h).trans ((if_neg h2).trans ((if_neg h3).trans (if_pos h4)))
theorem c26 (l:List Int)(hb:byteL l)(hl:l.length≤1000000):ASpec prog 26 [slE 1 u8 l] (decT (decF l)):=by
 rw[←rfD_eq l hb]
 refine ASpec.treeW Proofs.Try.f26 (T26 l) (by kernel_rfl) (by kernel_rfl) (t26 l) ?_
 have er:=at_rng l 4 4
 have ew:IntKind.u64.wrap ((List.map u8 l).length:Int)=(l.length:Int):=by rw[List.length_map,IntWalk.u64_in _ (by omega)]
 try dsimp-proj-iota-eta only
 rw[ew,List.length_map]
 refine⟨fun h1=>⟨_,rfl,rfz (rfD_1 ?_)⟩,fun h1=>need_sat ⟨ILeL.refl _,c45 l 4 4 (by decide) (by decide) (by decide) (by decide) hl⟩ ⟨fun h2=>⟨_,rfl,rfz (rfD_2 ?_ (.inl (of_decide_eq_true h2)))⟩,fun h2=>⟨fun h3=>⟨_,rfl,rfz (rfD_2 ?_ (.inr (of_decide_eq_true h3)))⟩,fun h3=>⟨fun h4=>⟨_,rfl,rfz (rfD_3 ?_ ?_ (of_decide_eq_true h4))⟩,fun h4=>?_⟩⟩⟩⟩
 ·have:=of_decide_eq_true h1;omega
 ·have:=of_decide_eq_false h1;omega
 ·have:=of_decide_eq_false h1;omega
 ·have:=of_decide_eq_false h1;omega
 ·have:=of_decide_eq_false h2;have:=of_decide_eq_false h3;omega
 have k1:¬l.length<8:=by have:=of_decide_eq_false h1;omega
 have k2:¬(atF l 4 4<8∨4312<atF l 4 4):=by have:=of_decide_eq_false h2;have:=of_decide_eq_false h3;omega
 have k3:¬(l.length:Int)<atF l 4 4:=of_decide_eq_false h4
 have e3:IntKind.i64.wrap (atF l 4 4)=atF l 4 4:=IntWalk.i64_in _ (by omega)
 rw[e3]
 have eo:[]++List.drop 0 (List.take (atF l 4 4).toNat (List.map u8 l))=(ownB l).map u8:=by
  unfold ownB
  rw[List.drop_zero,List.nil_append,List.map_take]
 have eo':List.drop 0 (List.take (atF l 4 4).toNat (List.map u8 l))=(ownB l).map u8:=eo
 have ol:(ownB l).length=(atF l 4 4).toNat:=by unfold ownB;rw[List.length_take];omega
 have sz:=rr_sz (ownB l)
 refine need_sat ⟨by decide,by omega,by omega⟩ (need_sat ⟨rfl,rfl,by rw[eo'];exact ok8 _,by rw[eo',List.length_map];omega⟩ (need_sat ⟨.cons (sl_eq eo) (.refl _),c46 (ownB l) (by omega) (by omega)⟩ (need_sat ⟨ILeL.refl _,c15 _ (by omega) (by omega)⟩ ⟨fun h5=>⟨_,rfl,rfz (rfD_4 k1 k2 k3 fun hh=>?_)⟩,fun h5=>?_⟩)))
 ·rw[hh.1]at h5;simp at h5
 have k5:refC (rrF (ownB l))=0:=by simpa using h5
 obtain⟨s1,_,s3,_⟩:=refC_0 k5
 unfold small at s1
 refine need_sat ⟨ILeL.refl _,c44 _ (fld_k s3) (by omega) (by omega) (by omega)⟩ (need_sat ⟨.cons (.refl _) (.cons (sl_eq eo) (.refl _)),c27 _ _ ?_⟩ ⟨fun h6=>⟨_,rfl,rfz (rfD_4 k1 k2 k3 fun hh=>?_)⟩,fun h6=>⟨_,rfl,?_⟩⟩)
 ·have:=rsL_le (rrF (ownB l))
  unfold rfB
  simp[num_len];omega
 ·rw[hh.2]at h6;simp at h6
 ·have k6:rfB (rrF (ownB l))=ownB l:=by simpa using h6
  rw[rfD_5 k1 k2 k3 ⟨k5,k6⟩]
  exact .refl _
end Gp
