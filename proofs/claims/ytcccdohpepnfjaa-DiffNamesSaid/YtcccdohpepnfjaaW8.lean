/- PROVED HERE: the statement DiffNamesSaid: whatever comes in, the law returns true and each argument reads as before. No condition. -/
import Derived.Test.YtcccdohpepnfjaaW7
set_option maxRecDepth 100000
set_option maxHeartbeats 0
set_option linter.unusedVariables false
set_option linter.unusedSimpArgs false
open Go Go.Abs
noncomputable section
namespace Gp
section
variable {H:Type} {enc:TypeId×Value→H} {w:World} {base:Nat} {spare:Nat→Bool} {held:Bool}
structure Diff.rng (d:Diff):Prop where
 g:d.gone.rng
 c:d.come.rng
end
end Gp
namespace Gp
def kk (a f h:Int):RKey:=⟨a,#v[f,0,0,0,0,0,0,0,0,0,0,0,0,0,0,0],h⟩
def T22 (a f h:Int):Tell:=
 Tell.mk (fun x x_1=>false) (fun x x_1=>Orc.no) (fun x=>Tree.fail 1000003 0) (fun x=>0) (fun x=>([],[])) (fun x x_1 x_2=>Orc.no) fun x x_1=>Tree.fail 1000003 0
theorem t22 (a f h:Int):levF prog Proofs.Try.f22 [u32 a,u8 f,i64 h] (T22 a f h)=
 Tree.done Exit.ret (lret (.agg [u32 a,u8 f,u8 0,u8 0,u8 0,u8 0,u8 0,u8 0,u8 0,u8 0,u8 0,u8 0,u8 0,u8 0,u8 0,u8 0,u8 0,i64 h])):=by kernel_rfl
theorem c22 (a f h:Int):ASpec prog 22 [u32 a,u8 f,i64 h] (encK (kk a f h)):=by
 refine ASpec.treeW Proofs.Try.f22 (T22 a f h) (by kernel_rfl) (by kernel_rfl) (t22 a f h) ?_
 refine⟨_,rfl,?_⟩
 all_goals exact .refl _
def nP :Payload:={oneP [2]with keys:=[kk 1 0 4,kk 1 1 0,kk 1 1 1,kk 2 0 0]}
def nQ :Payload:={oneP [5]with origins:=[]}
def pk (l:List RKey):Payload:=⟨[],[],l⟩
def pa (l:List Attest):Payload:=⟨[],l,[]⟩
def nD :Diff:=⟨nP,nQ⟩
def nB :Diff:=⟨nQ,nP⟩
def cP (p:Payload):Diff:=⟨noP,p⟩
def oz :Origin:=⟨0,⟨0,⟨0,0⟩,0⟩,0⟩
def az :Attest:=⟨0,[]⟩
def kz :RKey:=kk 0 0 0
def big1 :Payload:=⟨List.replicate 1001 oz,[],[]⟩
def big2 :Payload:=⟨[],List.replicate 301 az,[]⟩
def big3 :Payload:=⟨[],[],List.replicate 101 kz⟩
def fullK :List RKey:=(List.range 100).map fun j:Nat=>kk j 0 0
def smB (p:Payload):Bool:=decide (p.origins.length≤3000)&&decide (p.paths.length≤3000)&&decide (p.keys.length≤3000)&&p.paths.all fun a=>decide (a.provs.length≤1000000)
theorem sm1 {p:Payload}(h:smB p=true):p.sm:=sm_of h
theorem sm2 {d:Diff}(h:(smB d.gone&&smB d.come)=true):d.sm:=by
 simp only[Bool.and_eq_true]at h;exact⟨sm1 h.1,sm1 h.2⟩
end Gp
namespace Gp
end Gp
namespace Gp
noncomputable def O6 :Nat→Nat→Orc
 |6,2=>.call [encL nP,encL nQ] (.tup [encD nD,i64 0])
 |7,2=>.call [encL nP,encD nD] (.tup [encL nQ,i64 0])
 |8,1=>.call [encD nD] (.tup [encD nB,i64 0])
 |9,2=>.call [encL nQ,encD nB] (.tup [encL nP,i64 0])
 |10,2=>.call [encD nD,encD nB] (.tup [encD noD,i64 0])
 |11,2=>.call [encL nQ,encD nD] (.tup [encL noP,i64 6])
 |12,6=>.call [encL nP,encD (cP (pa [⟨1,[7]⟩]))] (.tup [encL noP,i64 14])
 |13,6=>.call [encL nP,encD (cP (pk [kk 1 0 4]))] (.tup [encL noP,i64 14])
 |14,2=>.call [encD nD,encD nD] (.tup [encD noD,i64 6])
 |15,8=>.call [encD (cP (oneP [2])),encD (cP (pa [⟨1,[3]⟩]))] (.tup [encD noD,i64 14])
 |16,4=>.call [encL (pk [kk 1 0 5])] (i64 8)
 |16,11=>.call [encL (pk [kk 1 0 (-1)])] (i64 8)
 |16,25=>.call [encL (pk [kk 1 0 4,kk 1 0 4])] (i64 8)
 |16,30=>.call [encL (oneP [])] (i64 8)
 |16,36=>.call [encL (oneP [2,2])] (i64 8)
 |16,42=>.call [encL big1] (i64 4)
 |16,48=>.call [encL big2] (i64 4)
 |16,54=>.call [encL big3] (i64 4)
 |16,59=>.call [encL noP] (i64 0)
 |17,6=>.call [encD ⟨nP,pk [kk 2 0 0]⟩] (i64 8)
 |17,16=>.call [encD ⟨oneP [2],pa [⟨1,[3]⟩]⟩] (i64 0)
 |18,9=>.call [encL nQ,encL nQ] (bo true)
 |18,22=>.call [encL nP,encL nP] (bo true)
 |18,31=>.call [encD noD,encD noD] (bo true)
 |24,7=>.callf [243] [encL (pk fullK),encD (cP (pk [kk 100 0 0]))] (.tup [encL noP,i64 4])
 |25,0=>.call [u32 5,u32 5] (.tup [bo false,i64 0])
 |26,0=>.call [u32 0,u32 2147483647] (.tup [bo true,i64 0])
 |27,0=>.call [u32 2147483647,u32 0] (.tup [bo false,i64 0])
 |16,5=>.look .any true
 |16,12=>.look .any true
 |16,26=>.look .any true
 |16,31=>.look .any true
 |16,37=>.look .any true
 |16,43=>.look .any true
 |16,49=>.look .any true
 |16,55=>.look .any true
 |16,60=>.look .any true
 |17,7=>.look .any true
 |17,17=>.look .any true
 |18,1=>.look .any true
 |18,4=>.look .any true
 |18,13=>.look .any true
 |18,17=>.look .any true
 |18,26=>.look .any true
 |28,12=>.look .any true
 |28,16=>.look .any true
 |28,20=>.look .any true
 |28,24=>.look .any true
 |28,28=>.look .any true
 |28,32=>.look .any true
 |28,36=>.look .any true
 |28,44=>.look .any true
 |28,51=>.look .any true
 |28,40=>.eff ⟨.imm (bo true),[]⟩
 |28,55=>.eff ⟨.imm (bo true),[]⟩
 |28,47=>.eff ⟨.imm (bo true),[]⟩
 |28,2=>.eff ⟨.imm (bo true),[]⟩
 |28,5=>.eff ⟨.imm (bo true),[]⟩
 |28,8=>.eff ⟨.imm (bo true),[]⟩
 |2,1=>.call [lu32 [2]] (encL (oneP [2]))
 |4,1=>.call [lu32 [5]] (encL (oneP [5]))
 |12,2=>.call [lu32 [7]] (encL (oneP [7]))
 |15,1=>.call [lu32 [2]] (encL (oneP [2]))
 |15,4=>.call [lu32 [3]] (encL (oneP [3]))
 |16,29=>.call [lu32 []] (encL (oneP []))
 |16,35=>.call [lu32 [2,2]] (encL (oneP [2,2]))
 |17,10=>.call [lu32 [2]] (encL (oneP [2]))
 |17,12=>.call [lu32 [3]] (encL (oneP [3]))
 |3,1=>.call [u32 1,u8 0,i64 4] (encK (kk 1 0 4))
 |3,3=>.call [u32 1,u8 1,i64 0] (encK (kk 1 1 0))
 |3,5=>.call [u32 1,u8 1,i64 1] (encK (kk 1 1 1))
 |3,7=>.call [u32 2,u8 0,i64 0] (encK (kk 2 0 0))
 |16,1=>.call [u32 1,u8 0,i64 5] (encK (kk 1 0 5))
 |16,8=>.call [u32 1,u8 0,i64 (-1)] (encK (kk 1 0 (-1)))
 |24,3=>.call [u32 100,u8 0,i64 0] (encK (kk 100 0 0))
 |28,0=>.call [] (bo true)
 |_,_=>.no
def fK (n:Nat):List IVal:=(List.range n).map (fun j:Nat=>encK (kk j 0 0))++List.replicate (100-n) (encK kz)
def S6 (n:Nat)(i:Nat):LState:={t:=[(27,.own 243 100),(26,.imm (bo true)),(25,.imm (bo true)),(24,.imm (bo true)),(23,.imm (i64 14)),(21,.imm (i64 6)),(19,.imm (i64 14)),(17,.imm (i64 14)),(15,.imm (i64 6)),(1,.fn 22 [] [])],s:=[(243,.row 53 18 (fK i))],m:=333,n:=n}
def I6 (i:Nat):LState:={S6 246 i with t:=(28,.imm (i64 i))::(S6 246 i).t}
def E6 :LState:=S6 246 100
def fin6 :Exit→Fin
 |.normal=>⟨[],[28,27,26,25,24,23,21,19,17,15,1],[243]⟩
 |_=>⟨[],[27,26,25,24,23,21,19,17,15,1],[243]⟩
def T6r (i:Nat):Tell:=
 Tell.mk (fun x x_1=>false) (fun x x_1=>Orc.no) (fun x=>Tree.fail 1000003 0) (fun x=>0) (fun x=>([],[])) (oget [(250,23,5,Orc.call [u32 (IntKind.wrap IntKind.u32 (↑i:Int)),u8 0,i64 0] (encK (kk (IntKind.wrap IntKind.u32 (↑i:Int)) 0 0))),(250,23,7,Orc.elem (.tup []))]) fun x x_1=>Tree.fail 1000003 0
theorem t6r (i:Nat):levL prog Proofs.Try.f6 21 (I6 i) (T6r i) fin6=
 Tree.br (decide ((↑i:Int)<100)) (.need (ILeL [u32 (IntKind.wrap IntKind.u32 (↑i:Int)),u8 0,i64 0] [u32 (IntKind.wrap IntKind.u32 (↑i:Int)),u8 0,i64 0]∧ASpec prog 22 [u32 (IntKind.wrap IntKind.u32 (↑i:Int)),u8 0,i64 0] (encK (kk (IntKind.wrap IntKind.u32 (↑i:Int)) 0 0))) (.need (0≤(↑i:Int)∧i<100) (.need (i<List.length (fK i)) (.done Exit.normal (LState.mk [(28,.imm (i64 (IntKind.wrap IntKind.i64 ((↑i:Int)+1)))),(27,.own 243 100),(26,.imm (bo true)),(25,.imm (bo true)),(24,.imm (bo true)),(23,.imm (i64 14)),(21,.imm (i64 6)),(19,.imm (i64 14)),(17,.imm (i64
 14)),(15,.imm (i64 6)),(1,.fn 22 [] [])] [(243,Entry.row 53 18 (List.set (fK i) i (encK (kk (IntKind.wrap IntKind.u32 (↑i:Int)) 0 0))))] 333 261 []))))) (.done (Exit.exit 0) (LState.mk [(27,.own 243 100),(26,.imm (bo true)),(25,.imm (bo true)),(24,.imm (bo true)),(23,.imm (i64 14)),(21,.imm (i64 6)),(19,.imm (i64 14)),(17,.imm (i64 14)),(15,.imm (i64 6)),(1,.fn 22 [] [])] [(243,Entry.row 53 18 (fK i))] 333 250 [])):=by kernel_rfl
def T6 :Tell:=
 Tell.mk (fun r i=>decide (r<12)||r==14||r==15&&(i==0||i==3)||r==12&&i==1||r==13&&i==3||r==16&&(i==2||i==9||i==23||i==34||i==40||i==46||i==52)||r==17&&(i==3||i==9||i==11)||r==24&&i==4||r==28&&i==0||r==18&&(i==9||i==22||i==31)) O6 (fun x=>Tree.done (Exit.exit 0) E6) (fun x=>0) (fun x=>([28,27,26,25,24,23,21,19,17,15,1],[243])) (ogetO O6 [(126,16,17,Orc.ext [] (.tup [])),(126,16,21,Orc.ext [] (.tup []))]) fun x x_1=>Tree.done (Exit.exit 0) E6
theorem t6 :levF prog Proofs.Try.f6 [] T6=
 Tree.need (ILeL [.sl true true 1 [u32 2]] [lu32 [2]]∧ASpec prog 23 [lu32 [2]] (encL (oneP [2]))) (.need (ILeL [u32 1,u8 0,i64 4] [u32 1,u8 0,i64 4]∧ASpec prog 22 [u32 1,u8 0,i64 4] (encK (kk 1 0 4))) (.need (ILeL [u32 1,u8 1,i64 0] [u32 1,u8 1,i64 0]∧ASpec prog 22 [u32 1,u8 1,i64 0] (encK (kk 1 1 0))) (.need (ILeL [u32 1,u8 1,i64 1] [u32 1,u8 1,i64 1]∧ASpec prog 22 [u32 1,u8 1,i64 1] (encK (kk 1 1 1))) (.need (ILeL [u32 2,u8 0,i64 0] [u32 2,u8 0,i64 0]∧ASpec prog 22 [u32 2,u8 0,i64 0] (encK (kk 2 0 0))) (.need (ILeL [.sl true true 1 [u32 5]] [lu32 [5]]∧ASpec prog 23 [lu32 [5]] (encL
 (oneP [5]))) (.need (ILeL [.agg [slE 6 encO (oneP [2]).origins,slE 2 encT (oneP [2]).paths,.sl true true 18 [encK (kk 1 0 4),encK (kk 1 1 0),encK (kk 1 1 1),encK (kk 2 0 0)]],.agg [nS,slE 2 encT (oneP [5]).paths,slE 18 encK (oneP [5]).keys]] [encL nP,encL nQ]∧ASpec prog 24 [encL nP,encL nQ] (.tup [encD nD,i64 0])) (.need (ILeL [.agg [slE 6 encO (oneP [2]).origins,slE 2 encT (oneP [2]).paths,.sl true true 18 [encK (kk 1 0 4),encK (kk 1 1 0),encK (kk 1 1 1),encK (kk 2 0 0)]],encD nD] [encL nP,encD nD]∧ASpec prog 19 [encL nP,encD nD] (.tup [encL nQ,i64 0])) (.need (ILeL [encD nD] [encD nD]∧
 ASpec prog 25 [encD nD] (.tup [encD nB,i64 0])) (.need (ILeL [.agg [nS,slE 2 encT (oneP [5]).paths,slE 18 encK (oneP [5]).keys],encD nB] [encL nQ,encD nB]∧ASpec prog 19 [encL nQ,encD nB] (.tup [encL nP,i64 0])) (.need (ILeL [encD nD,encD nB] [encD nD,encD nB]∧ASpec prog 20 [encD nD,encD nB] (.tup [encD noD,i64 0])) (.need (ILeL [.agg [nS,slE 2 encT (oneP [5]).paths,slE 18 encK (oneP [5]).keys],encD nD] [encL nQ,encD nD]∧ASpec prog 19 [encL nQ,encD nD] (.tup [encL noP,i64 6])) (.need (ILeL [.sl true true 1 [u32 7]] [lu32 [7]]∧ASpec prog 23 [lu32 [7]] (encL (oneP [7]))) (.need (ILeL [.agg
 [slE 6 encO (oneP [2]).origins,slE 2 encT (oneP [2]).paths,.sl true true 18 [encK (kk 1 0 4),encK (kk 1 1 0),encK (kk 1 1 1),encK (kk 2 0 0)]],.agg [nS,nS,nS,nS,slE 2 encT (oneP [7]).paths,nS]] [encL nP,encD (cP (pa [Attest.mk 1 [7]]))]∧ASpec prog 19 [encL nP,encD (cP (pa [Attest.mk 1 [7]]))] (.tup [encL noP,i64 14])) (.need (ILeL [.agg [slE 6 encO (oneP [2]).origins,slE 2 encT (oneP [2]).paths,.sl true true 18 [encK (kk 1 0 4),encK (kk 1 1 0),encK (kk 1 1 1),encK (kk 2 0 0)]],.agg [nS,nS,nS,nS,nS,.sl true false 18 [encK (kk 1 0 4)]]] [encL nP,encD (cP (pk [kk 1 0 4]))]∧ASpec prog 19 [encL
 nP,encD (cP (pk [kk 1 0 4]))] (.tup [encL noP,i64 14])) (.need (ILeL [encD nD,encD nD] [encD nD,encD nD]∧ASpec prog 20 [encD nD,encD nD] (.tup [encD noD,i64 6])) (.need (ILeL [.sl true true 1 [u32 2]] [lu32 [2]]∧ASpec prog 23 [lu32 [2]] (encL (oneP [2]))) (.need (ILeL [.sl true true 1 [u32 3]] [lu32 [3]]∧ASpec prog 23 [lu32 [3]] (encL (oneP [3]))) (.need (ILeL [.agg [nS,nS,nS,slE 6 encO (oneP [2]).origins,slE 2 encT (oneP [2]).paths,slE 18 encK (oneP [2]).keys],.agg [nS,nS,nS,nS,slE 2 encT (oneP [3]).paths,nS]] [encD (cP (oneP [2])),encD (cP (pa [Attest.mk 1 [3]]))]∧ASpec prog 20 [encD
 (cP (oneP [2])),encD (cP (pa [Attest.mk 1 [3]]))] (.tup [encD noD,i64 14])) (.need (ILeL [u32 1,u8 0,i64 5] [u32 1,u8 0,i64 5]∧ASpec prog 22 [u32 1,u8 0,i64 5] (encK (kk 1 0 5))) (.need (ILeL [.agg [nS,nS,.sl true true 18 [encK (kk 1 0 5)]]] [encL (pk [kk 1 0 5])]∧ASpec prog 13 [encL (pk [kk 1 0 5])] (i64 8)) (.need (ILeL [u32 1,u8 0,i64 (-1:Int)] [u32 1,u8 0,i64 (-1:Int)]∧ASpec prog 22 [u32 1,u8 0,i64 (-1:Int)] (encK (kk 1 0 (-1:Int)))) (.need (ILeL [.agg [nS,nS,.sl true true 18 [encK (kk 1 0 (-1:Int))]]] [encL (pk [kk 1 0 (-1:Int)])]∧ASpec prog 13 [encL (pk [kk 1 0 (-1:
 Int)])] (i64 8)) (.need (ILeL [.agg [nS,nS,.sl true true 18 [encK (kk 1 0 4),encK (kk 1 0 4)]]] [encL (pk [kk 1 0 4,kk 1 0 4])]∧ASpec prog 13 [encL (pk [kk 1 0 4,kk 1 0 4])] (i64 8)) (.need (ILeL [nS] [lu32 []]∧ASpec prog 23 [lu32 []] (encL (oneP []))) (.need (ILeL [encL (oneP [])] [encL (oneP [])]∧ASpec prog 13 [encL (oneP [])] (i64 8)) (.need (ILeL [.sl true true 1 [u32 2,u32 2]] [lu32 [2,2]]∧ASpec prog 23 [lu32 [2,2]] (encL (oneP [2,2]))) (.need (ILeL [encL (oneP [2,2])] [encL (oneP [2,2])]∧ASpec prog 13 [encL (oneP [2,2])] (i64 8)) (.need (ILeL [.agg [.sl true false 6
 (List.replicate 1001 (.agg [u32 0,u8 0,u64 0,u64 0,i64 0,i64 0])),nS,nS]] [encL big1]∧ASpec prog 13 [encL big1] (i64 4)) (.need (ILeL [.agg [nS,.sl true false 2 (List.replicate 301 (.agg [u32 0,nS])),nS]] [encL big2]∧ASpec prog 13 [encL big2] (i64 4)) (.need (ILeL [.agg [nS,nS,.sl true false 18 (List.replicate 101 (.agg [u32 0,u8 0,u8 0,u8 0,u8 0,u8 0,u8 0,u8 0,u8 0,u8 0,u8 0,u8 0,u8 0,u8 0,u8 0,u8 0,u8 0,i64 0]))]] [encL big3]∧ASpec prog 13 [encL big3] (i64 4)) (.need (ILeL [.agg [nS,nS,nS]] [encL noP]∧ASpec prog 13 [encL noP] (i64 0)) (.need (ILeL [.agg [slE 6 encO (oneP
 [2]).origins,slE 2 encT (oneP [2]).paths,.sl true true 18 [encK (kk 1 0 4),encK (kk 1 1 0),encK (kk 1 1 1),encK (kk 2 0 0)],nS,nS,.sl true false 18 [encK (kk 2 0 0)]]] [encD (Diff.mk nP (pk [kk 2 0 0]))]∧ASpec prog 26 [encD (Diff.mk nP (pk [kk 2 0 0]))] (i64 8)) (.need (ILeL [.sl true true 1 [u32 2]] [lu32 [2]]∧ASpec prog 23 [lu32 [2]] (encL (oneP [2]))) (.need (ILeL [.sl true true 1 [u32 3]] [lu32 [3]]∧ASpec prog 23 [lu32 [3]] (encL (oneP [3]))) (.need (ILeL [.agg [slE 6 encO (oneP [2]).origins,slE 2 encT (oneP [2]).paths,slE 18 encK (oneP [2]).keys,nS,slE 2 encT (oneP [3]).paths,nS]]
 [encD (Diff.mk (oneP [2]) (pa [Attest.mk 1 [3]]))]∧ASpec prog 26 [encD (Diff.mk (oneP [2]) (pa [Attest.mk 1 [3]]))] (i64 0)) (.need (ILeL [encL nQ,.agg [nS,slE 2 encT (oneP [5]).paths,slE 18 encK (oneP [5]).keys]] [encL nQ,encL nQ]∧ASpec prog 16 [encL nQ,encL nQ] (bo true)) (.need (ILeL [encL nP,.agg [slE 6 encO (oneP [2]).origins,slE 2 encT (oneP [2]).paths,.sl true true 18 [encK (kk 1 0 4),encK (kk 1 1 0),encK (kk 1 1 1),encK (kk 2 0 0)]]] [encL nP,encL nP]∧ASpec prog 16 [encL nP,encL nP] (bo true)) (.need (ILeL [encD noD,.agg [nS,nS,nS,nS,nS,nS]] [encD noD,encD noD]∧ASpec prog 21
 [encD noD,encD noD] (bo true)) (.loop 21 (LState.mk [(28,.imm (i64 0)),(27,.own 243 100),(26,.imm (bo true)),(25,.imm (bo true)),(24,.imm (bo true)),(23,.imm (i64 14)),(21,.imm (i64 6)),(19,.imm (i64 14)),(17,.imm (i64 14)),(15,.imm (i64 6)),(1,.fn 22 [] [])] [(243,Entry.row 53 18 (List.replicate 100 (.agg [u32 0,u8 0,u8 0,u8 0,u8 0,u8 0,u8 0,u8 0,u8 0,u8 0,u8 0,u8 0,u8 0,u8 0,u8 0,u8 0,u8 0,i64 0])))] 333 246 []) (.done (Exit.exit 0) E6) (.need (ILeL [u32 100,u8 0,i64 0] [u32 100,u8 0,i64 0]∧ASpec prog 22 [u32 100,u8 0,i64 0] (encK (kk 100 0 0))) (.need (eqs [(100,100)]∧ILeL [.agg
 [nS,nS,.sl true false 18 (fK 100)],.agg [nS,nS,nS,nS,nS,.sl true true 18 [encK (kk 100 0 0)]]] [encL (pk fullK),encD (cP (pk [kk 100 0 0]))]∧ASpec prog 19 [encL (pk fullK),encD (cP (pk [kk 100 0 0]))] (.tup [encL noP,i64 4])) (.need (ILeL [u32 5,u32 5] [u32 5,u32 5]∧ASpec prog 11 [u32 5,u32 5] (.tup [bo false,i64 0])) (.need (ILeL [u32 0,u32 2147483647] [u32 0,u32 2147483647]∧ASpec prog 11 [u32 0,u32 2147483647] (.tup [bo true,i64 0])) (.need (ILeL [u32 2147483647,u32 0] [u32 2147483647,u32 0]∧ASpec prog 11 [u32 2147483647,u32 0] (.tup [bo false,i64 0])) (.need (ILeL [] []∧ASpec prog
 17 [] (bo true)) (.need (some (AEff.mk (.imm (bo true)) [])=some (AEff.mk (.imm (bo true)) [])) (.need (some (AEff.mk (.imm (bo true)) [])=some (AEff.mk (.imm (bo true)) [])) (.need (some (AEff.mk (.imm (bo true)) [])=some (AEff.mk (.imm (bo true)) [])) (.need (some (AEff.mk (.imm (bo true)) [])=some (AEff.mk (.imm (bo true)) [])) (.need (some (AEff.mk (.imm (bo true)) [])=some (AEff.mk (.imm (bo true)) [])) (.need (some (AEff.mk (.imm (bo true)) [])=some (AEff.mk (.imm (bo true)) [])) (.done Exit.ret (lret (bo true)))))))))))))))))))))))))))))))))))))))))))))))))))))):=by kernel_rfl
end Gp
namespace Gp
theorem ile_rep {x y:IVal}(h:ILe x y):∀n,ILeL (List.replicate n x) (List.replicate n y)
 |0=>.refl _
 |n+1=>by rw[List.replicate_succ,List.replicate_succ];exact .cons h (ile_rep h n)
theorem fK_len (i:Nat)(h:i≤100):(fK i).length=100:=by unfold fK;simp;omega
theorem fK_step (i:Nat)(h:i<100):(fK i).set i (encK (kk i 0 0))=fK (i+1):=by
 unfold fK
 have hl:((List.range i).map fun j:Nat=>encK (kk j 0 0)).length=i:=by simp
 rw[List.set_append_right _ _ (by omega),hl,Nat.sub_self,show 100-i=(100-(i+1))+1 by omega,List.replicate_succ,List.set_cons_zero,List.range_succ,List.map_append,List.append_assoc]
 rfl
theorem l6 (σ:LState)(h:LSub σ (I6 0)):LoopOk prog [] (bodyOf Proofs.Try.f6) 21 σ (.done (.exit 0) E6):=by
 refine LoopOk.count 100 0 I6 E6 T6r fin6 (by kernel_rfl) h fun i hi=>?_
 rw[t6r]
 refine⟨fun h1=>?_,fun h1=>?_⟩
 ·have h2:i<100:=by have:=of_decide_eq_true h1;omega
  have e:IntKind.u32.wrap (i:Int)=(i:Int):=by show (i:Int) % 4294967296=i;omega
  refine need_sat ⟨ILeL.refl _,c22 _ _ _⟩ (need_sat ⟨by omega,h2⟩ (need_sat (by rw[fK_len i (by omega)];exact h2) ?_))
  refine⟨by omega,⟨?_,rfl,rfl,rfl,rfl,rfl,rfl,rfl,rfl,rfl,rfl,trivial⟩,⟨?_,trivial⟩,rfl,rfl,rfl⟩
  ·refine congrArg (fun n=>AVal.imm (i64 n)) ?_
   rw[IntWalk.i64_in _ (by omega)];omega
  ·refine congrArg (fun l=>some (Entry.row 53 18 l)) ?_
   rw[e];exact fK_step i h2
 ·have h2:i=100:=by have:=of_decide_eq_false h1;omega
  subst h2
  exact⟨rfl,by omega,⟨rfl,rfl,rfl,rfl,rfl,rfl,rfl,rfl,rfl,rfl,trivial⟩,⟨rfl,trivial⟩,rfl,rfl,rfl⟩
theorem c6 :ASpec prog 6 [] (bo true):=by
 refine ASpec.treeW Proofs.Try.f6 T6 (by kernel_rfl) (by kernel_rfl) t6 ?_
 have hz:ILe (.sl true false 2 (List.replicate 301 (.agg [.v (.int .u32 0),.v (.slice none 0 0)]))) (slE 2 encT big2.paths):=by
  refine .sl (fun h=>by cases h) (fun h=>by cases h) ?_
  show ILeL _ ((List.replicate 301 az).map encT)
  rw[List.map_replicate]
  exact ile_rep (.agg (.cons (.refl _) (.cons (.nil _ _ _) (.refl _)))) 301
 refine need_sat ⟨(by repeat' first|exact ILeL.refl _|exact ILe.refl _|exact ILe.nil _ _ _|exact ILe.sl (fun h=>by cases h) (fun h=>by first|exact h|cases h) (ILeL.refl _)|assumption|apply ILeL.cons|apply ILe.agg|apply ILe.tup),c23 _⟩ (need_sat ⟨ILeL.refl _,c22 _ _ _⟩ (need_sat ⟨ILeL.refl _,c22 _ _ _⟩ (need_sat ⟨ILeL.refl _,c22 _ _ _⟩ (need_sat ⟨ILeL.refl _,c22 _ _ _⟩ (need_sat ⟨(by repeat' first|exact ILeL.refl _|exact ILe.refl _|exact ILe.nil _ _ _|exact ILe.sl (fun h=>by cases h) (fun h=>by first|exact h|cases h) (ILeL.refl _)|assumption|apply ILeL.cons|apply ILe.agg|apply ILe.tup),c23 _⟩ (need_sat ⟨(by repeat' first|exact ILeL.refl _|exact ILe.refl _|exact ILe.nil _ _ _|exact ILe.sl (fun h=>by cases h) (fun h=>by first|exact h|cases h) (ILeL.refl _)|assumption|apply ILeL.cons|apply ILe.agg|apply ILe.tup),c24 _ _ ?_ ?_⟩ (need_sat ⟨(by repeat' first|exact ILeL.refl _|exact ILe.refl _|exact ILe.nil _ _ _|exact ILe.sl (fun h=>by cases h) (fun h=>by first|exact h|cases h) (ILeL.refl _)|assumption|apply ILeL.cons|apply ILe.agg|apply ILe.tup),c19 _ _ ?_ ?_⟩ (need_sat ⟨ILeL.refl _,c25 _ ?_⟩ (need_sat ⟨(by repeat' first|exact ILeL.refl _|exact ILe.refl _|exact ILe.nil _ _ _|exact ILe.sl (fun h=>by cases h) (fun h=>by first|exact h|cases h) (ILeL.refl _)|assumption|apply ILeL.cons|apply ILe.agg|apply ILe.tup),c19 _ _ ?_ ?_⟩ (need_sat ⟨ILeL.refl _,c20 _ _ ?_ ?_⟩ (need_sat ⟨(by repeat' first|exact ILeL.refl _|exact ILe.refl _|exact ILe.nil _ _ _|exact ILe.sl (fun h=>by cases h) (fun h=>by first|exact h|cases h) (ILeL.refl _)|assumption|apply ILeL.cons|apply ILe.agg|apply ILe.tup),c19 _ _ ?_ ?_⟩ (need_sat ⟨(by repeat' first|exact ILeL.refl _|exact ILe.refl _|exact ILe.nil _ _ _|exact ILe.sl (fun h=>by cases h) (fun h=>by first|exact h|cases h) (ILeL.refl _)|assumption|apply ILeL.cons|apply ILe.agg|apply ILe.tup),c23 _⟩ (need_sat ⟨(by repeat' first|exact ILeL.refl _|exact ILe.refl _|exact ILe.nil _ _ _|exact ILe.sl (fun h=>by cases h) (fun h=>by first|exact h|cases h) (ILeL.refl _)|assumption|apply ILeL.cons|apply ILe.agg|apply ILe.tup),c19 _ _ ?_ ?_⟩ (need_sat ⟨(by repeat' first|exact ILeL.refl _|exact ILe.refl _|exact ILe.nil _ _ _|exact ILe.sl (fun h=>by cases h) (fun h=>by first|exact h|cases h) (ILeL.refl _)|assumption|apply ILeL.cons|apply ILe.agg|apply ILe.tup),c19 _ _ ?_ ?_⟩ (need_sat ⟨ILeL.refl _,c20 _ _ ?_ ?_⟩ (need_sat ⟨(by repeat' first|exact ILeL.refl _|exact ILe.refl _|exact ILe.nil _ _ _|exact ILe.sl (fun h=>by cases h) (fun h=>by first|exact h|cases h) (ILeL.refl _)|assumption|apply ILeL.cons|apply ILe.agg|apply ILe.tup),c23 _⟩ (need_sat ⟨(by repeat' first|exact ILeL.refl _|exact ILe.refl _|exact ILe.nil _ _ _|exact ILe.sl (fun h=>by cases h) (fun h=>by first|exact h|cases h) (ILeL.refl _)|assumption|apply ILeL.cons|apply ILe.agg|apply ILe.tup),c23 _⟩ (need_sat ⟨(by repeat' first|exact ILeL.refl _|exact ILe.refl _|exact ILe.nil _ _ _|exact ILe.sl (fun h=>by cases h) (fun h=>by first|exact h|cases h) (ILeL.refl _)|assumption|apply ILeL.cons|apply ILe.agg|apply ILe.tup),c20 _ _ ?_ ?_⟩ (need_sat ⟨ILeL.refl _,c22 _ _ _⟩ (need_sat ⟨(by repeat' first|exact ILeL.refl _|exact ILe.refl _|exact ILe.nil _ _ _|exact ILe.sl (fun h=>by cases h) (fun h=>by first|exact h|cases h) (ILeL.refl _)|assumption|apply ILeL.cons|apply ILe.agg|apply ILe.tup),c13 _⟩ (need_sat ⟨ILeL.refl _,c22 _ _ _⟩ (need_sat ⟨(by repeat' first|exact ILeL.refl _|exact ILe.refl _|exact ILe.nil _ _ _|exact ILe.sl (fun h=>by cases h) (fun h=>by first|exact h|cases h) (ILeL.refl _)|assumption|apply ILeL.cons|apply ILe.agg|apply ILe.tup),c13 _⟩ (need_sat ⟨(by repeat' first|exact ILeL.refl _|exact ILe.refl _|exact ILe.nil _ _ _|exact ILe.sl (fun h=>by cases h) (fun h=>by first|exact h|cases h) (ILeL.refl _)|assumption|apply ILeL.cons|apply ILe.agg|apply ILe.tup),c13 _⟩ (need_sat ⟨(by repeat' first|exact ILeL.refl _|exact ILe.refl _|exact ILe.nil _ _ _|exact ILe.sl (fun h=>by cases h) (fun h=>by first|exact h|cases h) (ILeL.refl _)|assumption|apply ILeL.cons|apply ILe.agg|apply ILe.tup),c23 _⟩ (need_sat ⟨ILeL.refl _,c13 _⟩ (need_sat ⟨(by repeat' first|exact ILeL.refl _|exact ILe.refl _|exact ILe.nil _ _ _|exact ILe.sl (fun h=>by cases h) (fun h=>by first|exact h|cases h) (ILeL.refl _)|assumption|apply ILeL.cons|apply ILe.agg|apply ILe.tup),c23 _⟩ (need_sat ⟨ILeL.refl _,c13 _⟩ (need_sat ⟨(by repeat' first|exact ILeL.refl _|exact ILe.refl _|exact ILe.nil _ _ _|exact ILe.sl (fun h=>by cases h) (fun h=>by first|exact h|cases h) (ILeL.refl _)|assumption|apply ILeL.cons|apply ILe.agg|apply ILe.tup),c13 _⟩ (need_sat ⟨(by repeat' first|exact ILeL.refl _|exact ILe.refl _|exact ILe.nil _ _ _|exact ILe.sl (fun h=>by cases h) (fun h=>by first|exact h|cases h) (ILeL.refl _)|assumption|apply ILeL.cons|apply ILe.agg|apply ILe.tup),c13 _⟩ (need_sat ⟨(by repeat' first|exact ILeL.refl _|exact ILe.refl _|exact ILe.nil _ _ _|exact ILe.sl (fun h=>by cases h) (fun h=>by first|exact h|cases h) (ILeL.refl _)|assumption|apply ILeL.cons|apply ILe.agg|apply ILe.tup),c13 _⟩ (need_sat ⟨(by repeat' first|exact ILeL.refl _|exact ILe.refl _|exact ILe.nil _ _ _|exact ILe.sl (fun h=>by cases h) (fun h=>by first|exact h|cases h) (ILeL.refl _)|assumption|apply ILeL.cons|apply ILe.agg|apply ILe.tup),c13 _⟩ (need_sat ⟨(by repeat' first|exact ILeL.refl _|exact ILe.refl _|exact ILe.nil _ _ _|exact ILe.sl (fun h=>by cases h) (fun h=>by first|exact h|cases h) (ILeL.refl _)|assumption|apply ILeL.cons|apply ILe.agg|apply ILe.tup),c26 _ ?_⟩ (need_sat ⟨(by repeat' first|exact ILeL.refl _|exact ILe.refl _|exact ILe.nil _ _ _|exact ILe.sl (fun h=>by cases h) (fun h=>by first|exact h|cases h) (ILeL.refl _)|assumption|apply ILeL.cons|apply ILe.agg|apply ILe.tup),c23 _⟩ (need_sat ⟨(by repeat' first|exact ILeL.refl _|exact ILe.refl _|exact ILe.nil _ _ _|exact ILe.sl (fun h=>by cases h) (fun h=>by first|exact h|cases h) (ILeL.refl _)|assumption|apply ILeL.cons|apply ILe.agg|apply ILe.tup),c23 _⟩ (need_sat ⟨(by repeat' first|exact ILeL.refl _|exact ILe.refl _|exact ILe.nil _ _ _|exact ILe.sl (fun h=>by cases h) (fun h=>by first|exact h|cases h) (ILeL.refl _)|assumption|apply ILeL.cons|apply ILe.agg|apply ILe.tup),c26 _ ?_⟩ (need_sat ⟨(by repeat' first|exact ILeL.refl _|exact ILe.refl _|exact ILe.nil _ _ _|exact ILe.sl (fun h=>by cases h) (fun h=>by first|exact h|cases h) (ILeL.refl _)|assumption|apply ILeL.cons|apply ILe.agg|apply ILe.tup),c16 _ _ ?_⟩ (need_sat ⟨(by repeat' first|exact ILeL.refl _|exact ILe.refl _|exact ILe.nil _ _ _|exact ILe.sl (fun h=>by cases h) (fun h=>by first|exact h|cases h) (ILeL.refl _)|assumption|apply ILeL.cons|apply ILe.agg|apply ILe.tup),c16 _ _ ?_⟩ (need_sat ⟨(by repeat' first|exact ILeL.refl _|exact ILe.refl _|exact ILe.nil _ _ _|exact ILe.sl (fun h=>by cases h) (fun h=>by first|exact h|cases h) (ILeL.refl _)|assumption|apply ILeL.cons|apply ILe.agg|apply ILe.tup),c21 _ _ ?_⟩ ⟨?_,need_sat ⟨ILeL.refl _,c22 _ _ _⟩ (need_sat ⟨?_,(by repeat' first|exact ILeL.refl _|exact ILe.refl _|exact ILe.nil _ _ _|exact ILe.sl (fun h=>by cases h) (fun h=>by first|exact h|cases h) (ILeL.refl _)|assumption|apply ILeL.cons|apply ILe.agg|apply ILe.tup),c19 _ _ ?_ ?_⟩ (need_sat ⟨ILeL.refl _,c11 _ _⟩ (need_sat ⟨ILeL.refl _,c11 _ _⟩ (need_sat ⟨ILeL.refl _,c11 _ _⟩ (need_sat ⟨ILeL.refl _,c17⟩ (need_sat ?_ (need_sat ?_ (need_sat ?_ (need_sat ?_ (need_sat ?_ (need_sat ?_ ⟨_,rfl,?_⟩)))))))))))⟩))))))))))))))))))))))))))))))))))))))
 all_goals clear hz
 all_goals try first
  |exact sm1 (by kernel_rfl)
  |exact sm2 (by kernel_rfl)
  |exact(sm1 (by kernel_rfl)).ok
  |exact .refl _
  |exact⟨rfl,trivial⟩
  |exact l6 _ ⟨⟨rfl,rfl,rfl,rfl,rfl,rfl,rfl,rfl,rfl,rfl,rfl,trivial⟩,⟨rfl,trivial⟩,rfl,rfl,rfl⟩
end Gp
namespace Gp
open Go.ChangeShapes Go.WideShapes Go.ChangeAt Go.RowKit
open Go.Proofs Go.Proofs.Ytcccdohpepnfjaa
theorem own :ownKnob prog.godebug=none:=by kernel_rfl
theorem ubool :prog.underlying 4=some .bool:=by kernel_rfl
theorem paramsL :Proofs.Try.f6.params.toList=[]:=by kernel_rfl
set_option maxRecDepth 100000 in
theorem walk (W:World):
  Calls prog 6 #[] W fun e W'=>e=.returned (.bool true)∧Below W.heap.size W W':=by
 have hm:maxLen=2^63-1:=rfl
 refine((c6).2 W (allF W) #[] (fun c b h=>h.2) (fun b h=>by cases h.1) in0).mono ?_
 rintro e W' ⟨v,F',rfl,hb,_,_,_,_,hv⟩
 rw[bo,IRep]at hv
 rw[hv.1]
 exact⟨rfl,hb⟩
set_option maxRecDepth 100000 in
theorem lifted (os:Os)(started:os.Started)(H:Type)(enc:TypeId×Value→H):
  ReturnsInHanded {} Proofs.Try.checked os 6 .any (Rows.diffNamesSpec.pre6 enc prog Proofs.Try.f6 Rows.diffNamesRow.domain false) (Rows.diffNamesSpec.post enc prog Proofs.Try.f6 false true false false):=by
 refine returnsInHanded_of_change (C:=Proofs.Try.checked) own started (by kernel_rfl) (show prog.funcs[6]?=some Proofs.Try.f6 by kernel_rfl)
  (ChangeSpec.witness6 (enc:=enc) (C:=Proofs.Try.checked) false ⟨#[],#[],[]⟩ 8 (by kernel_rfl) (by kernel_rfl) (by kernel_rfl) (by kernel_rfl)) ?_
 intro W base args ds gs before hval0 hW hcnd _
 have hval:∀(j:Nat) t v,Proofs.Try.f6.params[j]?=some t→args[j]?=some v→Value.okWide prog W .any base t v:=hval0
 have hW':=hW
 obtain⟨p,q,hA0,hV,rfl,hfz,hnd⟩:=hW
 have hA:DataW.TrodAll enc prog W 0 (fun _=>true) true Proofs.Try.f6.params.toList args.toList ds p:=hA0
 rw[paramsL]at hA
 obtain⟨hargs,rfl,rfl⟩:=trodAll_nil hA
 obtain rfl:args=#[]:=by cases args;simp_all
 obtain⟨rfl,rfl⟩:=trodVars_none hV
 clear hA0 hval0
 refine(walk W).mono fun e W'⟨he,bel⟩=>?_
 subst he
 exact⟨_,rfl,_,_,_,[],_,[],hW',trodAll_mk1 (shut_bool ubool _),
  trodAll_mk0,rfl,bel.frame _,fun h=>by cases h⟩
theorem over :Rows.diffNamesRow.holds Ytcccdohpepnfjaa.Try.pinned (OpenSpec.ofChange Rows.diffNamesSpec):=
 OpenClaim.holds_of_wide 6 Proofs.Try.f6 rfl rfl rfl rfl rfl rfl rfl ⟨rfl,rfl,rfl,rfl,rfl⟩ rfl rfl rfl rfl rfl (by kernel_rfl) (show prog.funcs[6]?=some Proofs.Try.f6 by kernel_rfl) (by kernel_rfl)
  (of_decide_eq_true (by kernel_rfl)) (by unfold Func.isWrapper;first|(rw[if_pos (by decide+kernel)];kernel_rfl)|(rw[if_neg (by decide+kernel)];exact⟨rfl,rfl⟩))
  (fun os started H enc _=>lifted os started H enc)
theorem proved :Rows.DiffNamesSaid:=over
end Gp
namespace Go.Proofs.Ytcccdohpepnfjaa
theorem diffNames_holds : Rows.DiffNamesSaid := Gp.proved
#print axioms diffNames_holds
end Go.Proofs.Ytcccdohpepnfjaa
