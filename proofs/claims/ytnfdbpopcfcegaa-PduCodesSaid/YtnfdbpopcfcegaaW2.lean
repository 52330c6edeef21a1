/- Part 2 of the walk and of the plain law of PduCuts. -/
import Derived.Test.YtnfdbpopcfcegaaW1
set_option maxRecDepth 100000
set_option maxHeartbeats 0
set_option linter.unusedVariables false
set_option linter.unusedSimpArgs false
open Go Go.Abs
noncomputable section
namespace Gp
def byV (x k:Int):Int:=IntKind.u8.wrap (x.fdiv (2^(min (IntKind.i64.wrap (8*k)).toNat 64)))
def nbI (x:Int)(n i:Nat):List Int:=(List.range i).map fun j:Nat=>byV x ((n:Int)-1-j)
theorem nbI_succ (x:Int)(n i:Nat):nbI x n (i+1)=nbI x n i++[byV x ((n:Int)-1-i)]:=by simp[nbI,List.range_succ]
theorem nbI_len (x:Int)(n i:Nat):(nbI x n i).length=i:=by simp[nbI]
def I77 (ls:Nat→Abs.Loc)(l:List Int)(x:Int)(n i:Nat):LState:={t:=[(6,.imm (i64 ((n:Int)-1-i))),(1,.imm (u64 x)),(0,.ptr 0 0)],s:=[(0,.bbox (ls 0) 92 (.agg [.own 50 (l.length+i)])),(50,.row 5 1 ((l++nbI x n i).map u8))],m:=27,n:=60}
def E77 (ls:Nat→Abs.Loc)(l:List Int)(x:Int)(n:Nat):LState:={t:=[],s:=[(0,.bbox (ls 0) 92 (.agg [.own 50 (l.length+n)])),(50,.row 5 1 ((l++nbI x n n).map u8))],m:=27,n:=60}
def fin77 :Exit→Nat→Fin
 |.normal,n=>⟨[(50,59),(n-7,50)],[6,1,0],[0,50]⟩
 |_,_=>⟨[],[],[0,50]⟩
def T77r (ls:Nat→Abs.Loc)(l:List Int)(x:Int)(n i:Nat):Tell:=
 Tell.mk (fun x x_1=>false) (fun x x_1=>Orc.no) (fun x=>Tree.fail 1000003 0) (fun x=>0) (fun x=>([],[])) (fun x x_1 x_2=>Orc.no) fun x x_1=>Tree.fail 1000003 0
theorem t77r (ls:Nat→Abs.Loc)(l:List Int)(x:Int)(n i:Nat):levLN prog Proofs.Try.f77 1 (I77 ls l x n i) (T77r ls l x n i) fin77=
 (let q0:=List.map u8 (l++nbI x n i);
 Tree.br (decide (0≤(↑n:Int)-1-(↑i:Int))) (.need (0≤IntKind.wrap IntKind.i64 (8*((↑n:Int)-1-(↑i:Int)))) (.need (askA (some (1=1)) (List.length q0=List.length l+i∧cellsOk q0=true∧true=true∧List.length l+i+1≤1000000)) (.done Exit.normal (LState.mk [(6,.imm (i64 (IntKind.wrap IntKind.i64 ((↑n:Int)-1-(↑i:Int)-1)))),(1,.imm (u64 x)),(0,.ptr 0 0)] [(0,Entry.bbox (ls 0) 92 (.agg [.own 50 (List.length l+i+1)])),(50,Entry.row 5 1 (List.map u8 (l++nbI x n i)++[u8 (IntKind.wrap IntKind.u8 (Int.fdiv x ((2:Int)^min (Int.toNat (IntKind.wrap
 IntKind.i64 (8*((↑n:Int)-1-(↑i:Int))))) 64)))]))] 27 80 [])))) (.done (Exit.exit 0) (LState.mk [] [(0,Entry.bbox (ls 0) 92 (.agg [.own 50 (List.length l+i)])),(50,Entry.row 5 1 q0)] 27 62 []))):=by kernel_rfl
def T77 (ls:Nat→Abs.Loc)(l:List Int)(x:Int)(n m:Nat):Tell:=
 Tell.mk (fun x x_1=>false) (fun x x_1=>Orc.no) (fun x_1=>Tree.done (Exit.exit 0) (E77 ls l x n)) (fun x=>0) (fun x=>([6,1,0],[0,1])) (fun x x_1 x_2=>Orc.no) fun x_1 x_2=>Tree.done (Exit.exit 0) (E77 ls l x n)
theorem t77 (ls:Nat→Abs.Loc)(l:List Int)(x:Int)(n m:Nat):levG prog Proofs.Try.f77 ls [(92,.agg [.own 1 m])] [(5,1,l.map u8)] [.ptr 0 0,.imm (u64 x),.imm (i64 n)] [(92,.agg [.own 1 (l++nbI x n n).length])] [.row 5 1 ((l++nbI x n n).map u8)] (.tup []) (T77 ls l x n m)=
 Tree.loop 1 (LState.mk [(6,.imm (i64 (IntKind.wrap IntKind.i64 ((↑n:Int)-1)))),(1,.imm (u64 x)),(0,.ptr 0 0)] [(0,Entry.bbox (ls 0) 92 (.agg [.own 1 m])),(1,Entry.row 5 1 (List.map u8 l))] 27 5 []) (.done (Exit.exit 0) (E77 ls l x n)) (.need ([(ls 0,92,AVal.agg [AVal.own 1 (List.length l+n)])]=[(ls 0,92,AVal.agg [AVal.own 1 (List.length (l++nbI x n n))])]∧ELeL [Entry.row 5 1 (List.map u8 (l++nbI x n n))] [Entry.row 5 1 (List.map u8 (l++nbI x n n))]∧ALe (.tup []) (.tup [])) (.done Exit.ret lnil)):=by kernel_rfl
def T77' (ls:Nat→Abs.Loc)(x:Int)(n:Nat):Tell:=
 Tell.mk (fun x x_1=>false) (fun x x_1=>Orc.no) (fun x_1=>Tree.done (Exit.exit 0) (E77 ls [] x n)) (fun x=>0) (fun x=>([6,1,0],[0])) (fun x x_1 x_2=>Orc.no) fun x_1 x_2=>Tree.done (Exit.exit 0) (E77 ls [] x n)
theorem t77' (ls:Nat→Abs.Loc)(x:Int)(n:Nat):levG prog Proofs.Try.f77 ls [(92,.agg [.imm (.v (.slice none 0 0))])] [] [.ptr 0 0,.imm (u64 x),.imm (i64 n)] [(92,.agg [.own 1 (nbI x n n).length])] [.row 5 1 ((nbI x n n).map u8)] (.tup []) (T77' ls x n)=
 Tree.loop 1 (LState.mk [(6,.imm (i64 (IntKind.wrap IntKind.i64 ((↑n:Int)-1)))),(1,.imm (u64 x)),(0,.ptr 0 0)] [(0,Entry.bbox (ls 0) 92 (.agg [.imm nS]))] 27 4 []) (.done (Exit.exit 0) (E77 ls [] x n)) (.need ([(ls 0,92,AVal.agg [AVal.own 1 (0+n)])]=[(ls 0,92,AVal.agg [AVal.own 1 (List.length (nbI x n n))])]∧ELeL [Entry.row 5 1 (List.map u8 ([]++nbI x n n))] [Entry.row 5 1 (List.map u8 (nbI x n n))]∧ALe (.tup []) (.tup [])) (.done Exit.ret lnil)):=by kernel_rfl
theorem l77 (ls:Nat→Abs.Loc)(l:List Int)(x:Int)(n:Nat)(hn:n≤8)(hl:l.length≤900000)(σ:LState)(h:LSub σ (I77 ls l x n 0)):LoopOk prog [] (bodyOf Proofs.Try.f77) 1 σ (.done (.exit 0) (E77 ls l x n)):=by
 refine LoopOk.countN n 0 (I77 ls l x n) (E77 ls l x n) (T77r ls l x n) fin77 (by kernel_rfl) h fun i hi=>?_
 rw[t77r]
 have e1:i<n→IntKind.i64.wrap (8*((n:Int)-1-i))=8*((n:Int)-1-i):=fun h=>IntWalk.i64_in _ (by omega)
 refine⟨fun h1=>need_sat ?_ (need_sat ?_ ?_),fun h1=>?_⟩
 ·(simp only[List.length_map,decide_eq_true_eq,decide_eq_false_iff_not,Int.toNat_natCast]at*<;>omega)
 ·exact⟨⟨by simp[nbI_len],cellsOk_map u8 (fun _=>rfl) _,rfl,by(simp only[List.length_map,decide_eq_true_eq,decide_eq_false_iff_not,Int.toNat_natCast]at*<;>omega)⟩,rfl⟩
 ·have hlt:i<n:=by(simp only[List.length_map,decide_eq_true_eq,decide_eq_false_iff_not,Int.toNat_natCast]at*<;>omega)
  refine⟨hlt,⟨?_,rfl,rfl,trivial⟩,⟨rfl,?_,trivial⟩,rfl,rfl,rfl⟩
  ·refine congrArg (fun n=>AVal.imm (i64 n)) ?_
   rw[IntWalk.i64_in _ (by omega)];omega
  ·refine congrArg (fun l=>some (Entry.row 5 1 l)) ?_
   rw[nbI_succ,←List.append_assoc,List.map_append (l₁:=l++nbI x n i)];rfl
 ·have:i=n:=by(simp only[List.length_map,decide_eq_true_eq,decide_eq_false_iff_not,Int.toNat_natCast]at*<;>omega)
  subst this
  exact⟨rfl,by omega,trivial,⟨rfl,rfl,trivial⟩,rfl,rfl,rfl⟩
theorem q77 (l:List Int)(x:Int)(n m:Nat)(hn:n≤8)(hm:m=l.length)(hl:l.length≤900000):GSpec prog 77 [(92,.agg [.own 1 m])] [(5,1,l.map u8)] [.ptr 0 0,.imm (u64 x),.imm (i64 n)] [(92,.agg [.own 1 (l++nbI x n n).length])] [.row 5 1 ((l++nbI x n n).map u8)] (.tup []):=by
 subst hm
 refine GSpec.tree Proofs.Try.f77 (fun ls=>T77 ls l x n l.length) (by kernel_rfl) (by kernel_rfl) rfl fun ls=>?_
 rw[t77]
 refine⟨?_,need_sat ?_ (trivial)⟩
 ·refine .nam (τ:=I77 ls l x n 0) (.more 60 (show 5≤60 by decide) (.sw 1 50 (show 1<60 by decide) (show 50<60 by decide) (.sub ?_))) (l77 ls l x n hn hl _ ?_)
  ·refine⟨⟨?_,rfl,rfl,trivial⟩,⟨?_,?_,trivial⟩,rfl,rfl,rfl⟩
   ·refine congrArg (fun n=>AVal.imm (i64 n)) ?_
    rw[IntWalk.i64_in _ (by omega)];omega
   ·rfl
   ·simp[nbI];rfl
  ·exact⟨⟨rfl,rfl,rfl,trivial⟩,⟨rfl,rfl,trivial⟩,rfl,rfl,rfl⟩
 ·exact⟨by simp[nbI_len],.refl _,.refl _⟩
theorem q77' (x:Int)(n:Nat)(hn:n≤8):GSpec prog 77 [(92,.agg [.imm (.v (.slice none 0 0))])] [] [.ptr 0 0,.imm (u64 x),.imm (i64 n)] [(92,.agg [.own 1 (nbI x n n).length])] [.row 5 1 ((nbI x n n).map u8)] (.tup []):=by
 refine GSpec.tree Proofs.Try.f77 (fun ls=>T77' ls x n) (by kernel_rfl) (by kernel_rfl) rfl fun ls=>?_
 rw[t77']
 refine⟨?_,need_sat ?_ (trivial)⟩
 ·refine .nam (τ:=I77 ls [] x n 0) (.cell 0 0 50 5 1 (show 4≤50 by decide) (.more 60 (show 51≤60 by decide) (.sub ?_))) (l77 ls [] x n hn (by simp) _ ?_)
  ·refine⟨⟨?_,rfl,rfl,trivial⟩,⟨rfl,rfl,trivial⟩,rfl,rfl,rfl⟩
   refine congrArg (fun n=>AVal.imm (i64 n)) ?_
   rw[IntWalk.i64_in _ (by omega)];omega
  ·exact⟨⟨rfl,rfl,rfl,trivial⟩,⟨rfl,rfl,trivial⟩,rfl,rfl,rfl⟩
 ·exact⟨by simp[nbI_len],.refl _,.refl _⟩
noncomputable def numO :{f:Int→Int→List Int//∀x n,f x n=nbI x n.toNat n.toNat}:=Classical.choice ⟨⟨fun x n=>nbI x n.toNat n.toNat,fun _ _=>rfl⟩⟩
def num (x n:Int):List Int:=numO.1 x n
theorem num_eq (x n:Int):num x n=nbI x n.toNat n.toNat:=numO.2 x n
theorem num_len (x n:Int):(num x n).length=n.toNat:=by rw[num_eq];exact nbI_len _ _ _
theorem g77 (l:List Int)(x n:Int)(m:Nat)(h0:0≤n)(hn:n≤8)(hm:m=l.length)(hl:l.length≤900000):GSpec prog 77 [(92,.agg [.own 1 m])] [(5,1,l.map u8)] [.ptr 0 0,.imm (u64 x),.imm (i64 n)] [(92,.agg [.own 1 (l++num x n).length])] [.row 5 1 ((l++num x n).map u8)] (.tup []):=by
 have:=q77 l x n.toNat m (by omega) hm hl
 rw[←num_eq]at this
 rwa[show ((n.toNat:Nat):Int)=n from by omega]at this
theorem g77' (x n:Int)(h0:0≤n)(hn:n≤8):GSpec prog 77 [(92,.agg [.imm (.v (.slice none 0 0))])] [] [.ptr 0 0,.imm (u64 x),.imm (i64 n)] [(92,.agg [.own 1 (num x n).length])] [.row 5 1 ((num x n).map u8)] (.tup []):=by
 have:=q77' x n.toNat (by omega)
 rw[←num_eq]at this
 rwa[show ((n.toNat:Nat):Int)=n from by omega]at this
def flI (b:Bool):List Int:=num (if b then 1 else 0) 1
theorem flI_len (b:Bool):(flI b).length=1:=num_len _ _
def T87 (ls:Nat→Abs.Loc)(l:List Int)(m:Nat)(b:Bool):Tell:=
 Tell.mk (fun x x_1=>false) (fun x x_1=>Orc.no) (fun x=>Tree.fail 1000003 0) (fun x=>0) (fun x=>([],[])) (oget [(3,1,1,Orc.callg [0,1] 1 [.ptr 0 0,.imm (u64 1),.imm (i64 1)] [(92,.agg [.own 1 (List.length (l++num 1 1))])] [Entry.row 5 1 (List.map u8 (l++num 1 1))] (.tup [])),(3,2,1,Orc.callg [0,1] 1 [.ptr 0 0,.imm (u64 0),.imm (i64 1)] [(92,.agg [.own 1 (List.length (l++num 0 1))])] [Entry.row 5 1 (List.map u8 (l++num 0 1))] (.tup []))]) fun x x_1=>Tree.fail 1000003 0
theorem t87 (ls:Nat→Abs.Loc)(l:List Int)(m:Nat)(b:Bool):levG prog Proofs.Try.f87 ls [(92,.agg [.own 1 m])] [(5,1,l.map u8)] [.ptr 0 0,.imm (bo b)] [(92,.agg [.own 1 (l++flI b).length])] [.row 5 1 ((l++flI b).map u8)] (.tup []) (T87 ls l m b)=
 Tree.br b (.need (ALeL [.ptr 0 0,.imm (u64 1),.imm (i64 1)] [.ptr 0 0,.imm (u64 1),.imm (i64 1)]∧GSpec prog 77 [(92,.agg [.own 1 m])] [(5,1,List.map u8 l)] [.ptr 0 0,.imm (u64 1),.imm (i64 1)] [(92,.agg [.own 1 (List.length (l++num 1 1))])] [Entry.row 5 1 (List.map u8 (l++num 1 1))] (.tup [])) (.need ([(ls 0,92,AVal.agg [AVal.own 1 (List.length (l++num 1 1))])]=[(ls 0,92,AVal.agg [AVal.own 1 (List.length (l++flI b))])]∧ELeL [Entry.row 5 1 (List.map u8 (l++num 1 1))] [Entry.row 5 1 (List.map u8 (l++flI b))]∧ALe (.tup []) (.tup [])) (.done Exit.ret lnil))) (.need (ALeL [.ptr 0
 0,.imm (u64 0),.imm (i64 1)] [.ptr 0 0,.imm (u64 0),.imm (i64 1)]∧GSpec prog 77 [(92,.agg [.own 1 m])] [(5,1,List.map u8 l)] [.ptr 0 0,.imm (u64 0),.imm (i64 1)] [(92,.agg [.own 1 (List.length (l++num 0 1))])] [Entry.row 5 1 (List.map u8 (l++num 0 1))] (.tup [])) (.need ([(ls 0,92,AVal.agg [AVal.own 1 (List.length (l++num 0 1))])]=[(ls 0,92,AVal.agg [AVal.own 1 (List.length (l++flI b))])]∧ELeL [Entry.row 5 1 (List.map u8 (l++num 0 1))] [Entry.row 5 1 (List.map u8 (l++flI b))]∧ALe (.tup []) (.tup [])) (.done Exit.ret lnil))):=by kernel_rfl
def T87' (ls:Nat→Abs.Loc)(b:Bool):Tell:=
 Tell.mk (fun x x_1=>false) (fun x x_1=>Orc.no) (fun x=>Tree.fail 1000003 0) (fun x=>0) (fun x=>([],[])) (oget [(2,1,1,Orc.callg [0] 1 [.ptr 0 0,.imm (u64 1),.imm (i64 1)] [(92,.agg [.own 1 (List.length (num 1 1))])] [Entry.row 5 1 (List.map u8 (num 1 1))] (.tup [])),(2,2,1,Orc.callg [0] 1 [.ptr 0 0,.imm (u64 0),.imm (i64 1)] [(92,.agg [.own 1 (List.length (num 0 1))])] [Entry.row 5 1 (List.map u8 (num 0 1))] (.tup []))]) fun x x_1=>Tree.fail 1000003 0
theorem t87' (ls:Nat→Abs.Loc)(b:Bool):levG prog Proofs.Try.f87 ls [(92,.agg [.imm (.v (.slice none 0 0))])] [] [.ptr 0 0,.imm (bo b)] [(92,.agg [.own 1 (flI b).length])] [.row 5 1 ((flI b).map u8)] (.tup []) (T87' ls b)=
 Tree.br b (.need (ALeL [.ptr 0 0,.imm (u64 1),.imm (i64 1)] [.ptr 0 0,.imm (u64 1),.imm (i64 1)]∧GSpec prog 77 [(92,.agg [.imm nS])] [] [.ptr 0 0,.imm (u64 1),.imm (i64 1)] [(92,.agg [.own 1 (List.length (num 1 1))])] [Entry.row 5 1 (List.map u8 (num 1 1))] (.tup [])) (.need ([(ls 0,92,AVal.agg [AVal.own 1 (List.length (num 1 1))])]=[(ls 0,92,AVal.agg [AVal.own 1 (List.length (flI b))])]∧ELeL [Entry.row 5 1 (List.map u8 (num 1 1))] [Entry.row 5 1 (List.map u8 (flI b))]∧ALe (.tup []) (.tup [])) (.done Exit.ret lnil))) (.need (ALeL [.ptr 0 0,.imm (u64 0),.imm (i64 1)] [.ptr 0 0,.imm (u64
 0),.imm (i64 1)]∧GSpec prog 77 [(92,.agg [.imm nS])] [] [.ptr 0 0,.imm (u64 0),.imm (i64 1)] [(92,.agg [.own 1 (List.length (num 0 1))])] [Entry.row 5 1 (List.map u8 (num 0 1))] (.tup [])) (.need ([(ls 0,92,AVal.agg [AVal.own 1 (List.length (num 0 1))])]=[(ls 0,92,AVal.agg [AVal.own 1 (List.length (flI b))])]∧ELeL [Entry.row 5 1 (List.map u8 (num 0 1))] [Entry.row 5 1 (List.map u8 (flI b))]∧ALe (.tup []) (.tup [])) (.done Exit.ret lnil))):=by kernel_rfl
theorem g87 (l:List Int)(m:Nat)(b:Bool)(hm:m=l.length)(hl:l.length≤900000):GSpec prog 87 [(92,.agg [.own 1 m])] [(5,1,l.map u8)] [.ptr 0 0,.imm (bo b)] [(92,.agg [.own 1 (l++flI b).length])] [.row 5 1 ((l++flI b).map u8)] (.tup []):=by
 refine GSpec.tree Proofs.Try.f87 (fun ls=>T87 ls l m b) (by kernel_rfl) (by kernel_rfl) rfl fun ls=>?_
 rw[t87]
 refine⟨fun h1=>need_sat ⟨ALeL.refl _,g77 _ _ _ _ ?_ ?_ ?_ ?_⟩ (need_sat ?_ (trivial)),fun h1=>need_sat ⟨ALeL.refl _,g77 _ _ _ _ ?_ ?_ ?_ ?_⟩ (need_sat ?_ (trivial))⟩
 all_goals first
  |assumption
  |omega
  |(subst h1;exact⟨rfl,.refl _,.refl _⟩)
theorem g87' (b:Bool):GSpec prog 87 [(92,.agg [.imm (.v (.slice none 0 0))])] [] [.ptr 0 0,.imm (bo b)] [(92,.agg [.own 1 (flI b).length])] [.row 5 1 ((flI b).map u8)] (.tup []):=by
 refine GSpec.tree Proofs.Try.f87 (fun ls=>T87' ls b) (by kernel_rfl) (by kernel_rfl) rfl fun ls=>?_
 rw[t87']
 refine⟨fun h1=>need_sat ⟨ALeL.refl _,g77' _ _ ?_ ?_⟩ (need_sat ?_ (trivial)),fun h1=>need_sat ⟨ALeL.refl _,g77' _ _ ?_ ?_⟩ (need_sat ?_ (trivial))⟩
 all_goals first
  |omega
  |(subst h1;exact⟨rfl,.refl _,.refl _⟩)
end Gp
namespace Gp
theorem _root_.Go.Abs.GSpec.rw1 {P:Program}{f:FuncId}{bx:List (Nat×AVal)}{ty k:Nat}{es es2:List IVal}{ar:List AVal}{bx2:List (Nat×AVal)}{new:List Entry}{r:AVal}(h:GSpec P f bx [(ty,k,es)] ar bx2 new r)(e:es2=es):GSpec P f bx [(ty,k,es2)] ar bx2 new r:=e ▸ h
abbrev w64 (x:Int):Int:=IntKind.u64.wrap x
theorem fin5 {l0:Abs.Loc}{a b:List Int}(h:a=b):[(l0,(92:Nat),AVal.agg [AVal.own 1 a.length])]=[(l0,92,AVal.agg [AVal.own 1 b.length])]∧ELeL [Entry.row 5 1 (a.map u8)] [Entry.row 5 1 (b.map u8)]∧ALe (.tup []) (.tup []):=by
 subst h;exact⟨rfl,.refl _,.refl _⟩
theorem fin5' {l0:Abs.Loc}{n:Nat}{es:List IVal}{a b:List Int}(hn:n=b.length)(he:es=b.map u8)(h:b=a):[(l0,(92:Nat),AVal.agg [AVal.own 1 n])]=[(l0,92,AVal.agg [AVal.own 1 a.length])]∧ELeL [Entry.row 5 1 es] [Entry.row 5 1 (a.map u8)]∧ALe (.tup []) (.tup []):=by
 subst h hn he;exact⟨rfl,.refl _,.refl _⟩
def bytesL (s:ByteArray):List Int:=s.data.toList.map fun b=>(b.toNat:Int)
def hd48 (p:Pdu):List Int:=num (w64 p.session) 2
def T48 (ls:Nat→Abs.Loc)(l:List Int)(m:Nat)(p:Pdu):Tell:=
 (let q0:=IntKind.wrap IntKind.u64 p.session;
 Tell.mk (fun x x_1=>false) (fun x x_1=>Orc.no) (fun x=>Tree.fail 1000003 0) (fun x=>0) (fun x=>([],[])) (oget [(3,1,5,Orc.callg [0,1] 1 [.ptr 0 0,.imm (u64 q0),.imm (i64 2)] [(92,.agg [.own 1 (List.length (l++num q0 2))])] [Entry.row 5 1 (List.map u8 (l++num q0 2))] (.tup []))]) fun x x_1=>Tree.fail 1000003 0)
theorem t48 (ls:Nat→Abs.Loc)(l:List Int)(m:Nat)(p:Pdu):levG prog Proofs.Try.f48 ls [(92,.agg [.own 1 m])] [(5,1,l.map u8)] [.imm (encD p),.ptr 0 0] [(92,.agg [.own 1 (l++hd48 p).length])] [.row 5 1 ((l++hd48 p).map u8)] (.tup []) (T48 ls l m p)=
 (let q0:=IntKind.wrap IntKind.u64 p.session;let q1:=l++num q0 2;
 Tree.need (ALeL [.ptr 0 0,.imm (u64 q0),.imm (i64 2)] [.ptr 0 0,.imm (u64 q0),.imm (i64 2)]∧GSpec prog 77 [(92,.agg [.own 1 m])] [(5,1,List.map u8 l)] [.ptr 0 0,.imm (u64 q0),.imm (i64 2)] [(92,.agg [.own 1 (List.length q1)])] [Entry.row 5 1 (List.map u8 q1)] (.tup [])) (.need ([(ls 0,92,AVal.agg [AVal.own 1 (List.length q1)])]=[(ls 0,92,AVal.agg [AVal.own 1 (List.length (l++hd48 p))])]∧ELeL [Entry.row 5 1 (List.map u8 q1)] [Entry.row 5 1 (List.map u8 (l++hd48 p))]∧ALe (.tup []) (.tup [])) (.done Exit.ret lnil))):=by kernel_rfl
theorem g48 (l:List Int)(m:Nat)(p:Pdu)(hm:m=l.length)(hl:l.length≤800000):GSpec prog 48 [(92,.agg [.own 1 m])] [(5,1,l.map u8)] [.imm (encD p),.ptr 0 0] [(92,.agg [.own 1 (l++hd48 p).length])] [.row 5 1 ((l++hd48 p).map u8)] (.tup []):=by
 refine GSpec.tree Proofs.Try.f48 (fun ls=>T48 ls l m p) (by kernel_rfl) (by kernel_rfl) rfl fun ls=>?_
 rw[t48]
 refine need_sat ⟨ALeL.refl _,g77 _ _ _ _ ?_ ?_ ?_ ?_⟩ (need_sat ?_ (trivial))
 all_goals first
  |assumption
  |omega
  |rfl
  |(simp[flI_len,num_len];omega)
  |(have:=hl;simp[flI_len,num_len]at*;omega)
  |exact⟨rfl,.refl _,.refl _⟩
  |exact fin5 (by simp[hd48])
def hd52 (p:Pdu):List Int:=num 0 2
def T52 (ls:Nat→Abs.Loc)(l:List Int)(m:Nat)(p:Pdu):Tell:=
 Tell.mk (fun x x_1=>false) (fun x x_1=>Orc.no) (fun x=>Tree.fail 1000003 0) (fun x=>0) (fun x=>([],[])) (oget [(3,1,1,Orc.callg [0,1] 1 [.ptr 0 0,.imm (u64 0),.imm (i64 2)] [(92,.agg [.own 1 (List.length (l++num 0 2))])] [Entry.row 5 1 (List.map u8 (l++num 0 2))] (.tup []))]) fun x x_1=>Tree.fail 1000003 0
theorem t52 (ls:Nat→Abs.Loc)(l:List Int)(m:Nat)(p:Pdu):levG prog Proofs.Try.f52 ls [(92,.agg [.own 1 m])] [(5,1,l.map u8)] [.imm (encD p),.ptr 0 0] [(92,.agg [.own 1 (l++hd52 p).length])] [.row 5 1 ((l++hd52 p).map u8)] (.tup []) (T52 ls l m p)=
 Tree.need (ALeL [.ptr 0 0,.imm (u64 0),.imm (i64 2)] [.ptr 0 0,.imm (u64 0),.imm (i64 2)]∧GSpec prog 77 [(92,.agg [.own 1 m])] [(5,1,List.map u8 l)] [.ptr 0 0,.imm (u64 0),.imm (i64 2)] [(92,.agg [.own 1 (List.length (l++num 0 2))])] [Entry.row 5 1 (List.map u8 (l++num 0 2))] (.tup [])) (.need ([(ls 0,92,AVal.agg [AVal.own 1 (List.length (l++num 0 2))])]=[(ls 0,92,AVal.agg [AVal.own 1 (List.length (l++hd52 p))])]∧ELeL [Entry.row 5 1 (List.map u8 (l++num 0 2))] [Entry.row 5 1 (List.map u8 (l++hd52 p))]∧ALe (.tup []) (.tup [])) (.done Exit.ret lnil)):=by kernel_rfl
theorem g52 (l:List Int)(m:Nat)(p:Pdu)(hm:m=l.length)(hl:l.length≤800000):GSpec prog 52 [(92,.agg [.own 1 m])] [(5,1,l.map u8)] [.imm (encD p),.ptr 0 0] [(92,.agg [.own 1 (l++hd52 p).length])] [.row 5 1 ((l++hd52 p).map u8)] (.tup []):=by
 refine GSpec.tree Proofs.Try.f52 (fun ls=>T52 ls l m p) (by kernel_rfl) (by kernel_rfl) rfl fun ls=>?_
 rw[t52]
 refine need_sat ⟨ALeL.refl _,g77 _ _ _ _ ?_ ?_ ?_ ?_⟩ (need_sat ?_ (trivial))
 all_goals first
  |assumption
  |omega
  |rfl
  |(simp[flI_len,num_len];omega)
  |(have:=hl;simp[flI_len,num_len]at*;omega)
  |exact⟨rfl,.refl _,.refl _⟩
  |exact fin5 (by simp[hd52])
def hd63 (p:Pdu):List Int:=flI p.add++num 0 1
def T63 (ls:Nat→Abs.Loc)(l:List Int)(m:Nat)(p:Pdu):Tell:=
 Tell.mk (fun x x_1=>false) (fun x x_1=>Orc.no) (fun x=>Tree.fail 1000003 0) (fun x=>0) (fun x=>([],[])) (oget [(3,1,4,Orc.callg [0,1] 1 [.ptr 0 0,.imm (bo p.add)] [(92,.agg [.own 1 (List.length (l++flI p.add))])] [Entry.row 5 1 (List.map u8 (l++flI p.add))] (.tup [])),(9,2,1,Orc.callg [0,7] 1 [.ptr 0 0,.imm (u64 0),.imm (i64 1)] [(92,.agg [.own 1 (List.length (l++flI p.add++num 0 1))])] [Entry.row 5 1 (List.map u8 (l++flI p.add++num 0 1))] (.tup []))]) fun x x_1=>Tree.fail 1000003 0
theorem t63 (ls:Nat→Abs.Loc)(l:List Int)(m:Nat)(p:Pdu):levG prog Proofs.Try.f63 ls [(92,.agg [.own 1 m])] [(5,1,l.map u8)] [.imm (encD p),.ptr 0 0] [(92,.agg [.own 1 (l++hd63 p).length])] [.row 5 1 ((l++hd63 p).map u8)] (.tup []) (T63 ls l m p)=
 (let q0:=l++flI p.add++num 0 1;let q1:=l++flI p.add;
 Tree.need (ALeL [.ptr 0 0,.imm (bo p.add)] [.ptr 0 0,.imm (bo p.add)]∧GSpec prog 87 [(92,.agg [.own 1 m])] [(5,1,List.map u8 l)] [.ptr 0 0,.imm (bo p.add)] [(92,.agg [.own 1 (List.length q1)])] [Entry.row 5 1 (List.map u8 q1)] (.tup [])) (.need (ALeL [.ptr 0 0,.imm (u64 0),.imm (i64 1)] [.ptr 0 0,.imm (u64 0),.imm (i64 1)]∧GSpec prog 77 [(92,.agg [.own 1 (List.length q1)])] [(5,1,List.map u8 q1)] [.ptr 0 0,.imm (u64 0),.imm (i64 1)] [(92,.agg [.own 1 (List.length q0)])] [Entry.row 5 1 (List.map u8 q0)] (.tup [])) (.need ([(ls 0,92,AVal.agg [AVal.own 1 (List.length q0)])]=[(ls
 0,92,AVal.agg [AVal.own 1 (List.length (l++hd63 p))])]∧ELeL [Entry.row 5 1 (List.map u8 q0)] [Entry.row 5 1 (List.map u8 (l++hd63 p))]∧ALe (.tup []) (.tup [])) (.done Exit.ret lnil)))):=by kernel_rfl
theorem g63 (l:List Int)(m:Nat)(p:Pdu)(hm:m=l.length)(hl:l.length≤800000):GSpec prog 63 [(92,.agg [.own 1 m])] [(5,1,l.map u8)] [.imm (encD p),.ptr 0 0] [(92,.agg [.own 1 (l++hd63 p).length])] [.row 5 1 ((l++hd63 p).map u8)] (.tup []):=by
 refine GSpec.tree Proofs.Try.f63 (fun ls=>T63 ls l m p) (by kernel_rfl) (by kernel_rfl) rfl fun ls=>?_
 rw[t63]
 refine need_sat ⟨ALeL.refl _,g87 _ _ _ ?_ ?_⟩ (need_sat ⟨ALeL.refl _,g77 _ _ _ _ ?_ ?_ ?_ ?_⟩ (need_sat ?_ (trivial)))
 all_goals first
  |assumption
  |omega
  |rfl
  |(simp[flI_len,num_len];omega)
  |(have:=hl;simp[flI_len,num_len]at*;omega)
  |exact⟨rfl,.refl _,.refl _⟩
  |exact fin5 (by simp[hd63])
def hd68 (p:Pdu):List Int:=num (w64 p.code) 2
def T68 (ls:Nat→Abs.Loc)(l:List Int)(m:Nat)(p:Pdu):Tell:=
 (let q0:=IntKind.wrap IntKind.u64 p.code;
 Tell.mk (fun x x_1=>false) (fun x x_1=>Orc.no) (fun x=>Tree.fail 1000003 0) (fun x=>0) (fun x=>([],[])) (oget [(3,1,5,Orc.callg [0,1] 1 [.ptr 0 0,.imm (u64 q0),.imm (i64 2)] [(92,.agg [.own 1 (List.length (l++num q0 2))])] [Entry.row 5 1 (List.map u8 (l++num q0 2))] (.tup []))]) fun x x_1=>Tree.fail 1000003 0)
theorem t68 (ls:Nat→Abs.Loc)(l:List Int)(m:Nat)(p:Pdu):levG prog Proofs.Try.f68 ls [(92,.agg [.own 1 m])] [(5,1,l.map u8)] [.imm (encD p),.ptr 0 0] [(92,.agg [.own 1 (l++hd68 p).length])] [.row 5 1 ((l++hd68 p).map u8)] (.tup []) (T68 ls l m p)=
 (let q0:=IntKind.wrap IntKind.u64 p.code;let q1:=l++num q0 2;
 Tree.need (ALeL [.ptr 0 0,.imm (u64 q0),.imm (i64 2)] [.ptr 0 0,.imm (u64 q0),.imm (i64 2)]∧GSpec prog 77 [(92,.agg [.own 1 m])] [(5,1,List.map u8 l)] [.ptr 0 0,.imm (u64 q0),.imm (i64 2)] [(92,.agg [.own 1 (List.length q1)])] [Entry.row 5 1 (List.map u8 q1)] (.tup [])) (.need ([(ls 0,92,AVal.agg [AVal.own 1 (List.length q1)])]=[(ls 0,92,AVal.agg [AVal.own 1 (List.length (l++hd68 p))])]∧ELeL [Entry.row 5 1 (List.map u8 q1)] [Entry.row 5 1 (List.map u8 (l++hd68 p))]∧ALe (.tup []) (.tup [])) (.done Exit.ret lnil))):=by kernel_rfl
theorem g68 (l:List Int)(m:Nat)(p:Pdu)(hm:m=l.length)(hl:l.length≤800000):GSpec prog 68 [(92,.agg [.own 1 m])] [(5,1,l.map u8)] [.imm (encD p),.ptr 0 0] [(92,.agg [.own 1 (l++hd68 p).length])] [.row 5 1 ((l++hd68 p).map u8)] (.tup []):=by
 refine GSpec.tree Proofs.Try.f68 (fun ls=>T68 ls l m p) (by kernel_rfl) (by kernel_rfl) rfl fun ls=>?_
 rw[t68]
 refine need_sat ⟨ALeL.refl _,g77 _ _ _ _ ?_ ?_ ?_ ?_⟩ (need_sat ?_ (trivial))
 all_goals first
  |assumption
  |omega
  |rfl
  |(simp[flI_len,num_len];omega)
  |(have:=hl;simp[flI_len,num_len]at*;omega)
  |exact⟨rfl,.refl _,.refl _⟩
  |exact fin5 (by simp[hd68])
def rs49 (p:Pdu):List Int:=num (w64 p.serial) 4
def T49 (ls:Nat→Abs.Loc)(p:Pdu):Tell:=
 (let q0:=IntKind.wrap IntKind.u64 p.serial;
 Tell.mk (fun x x_1=>false) (fun x x_1=>Orc.no) (fun x=>Tree.fail 1000003 0) (fun x=>0) (fun x=>([],[])) (oget [(2,1,5,Orc.callg [0] 1 [.ptr 0 0,.imm (u64 q0),.imm (i64 4)] [(92,.agg [.own 1 (List.length (num q0 4))])] [Entry.row 5 1 (List.map u8 (num q0 4))] (.tup []))]) fun x x_1=>Tree.fail 1000003 0)
theorem t49 (ls:Nat→Abs.Loc)(p:Pdu):levG prog Proofs.Try.f49 ls [(92,.agg [.imm (.v (.slice none 0 0))])] [] [.imm (encD p),.ptr 0 0] [(92,.agg [.own 1 (rs49 p).length])] [.row 5 1 ((rs49 p).map u8)] (.tup []) (T49 ls p)=
 (let q0:=IntKind.wrap IntKind.u64 p.serial;
 Tree.need (ALeL [.ptr 0 0,.imm (u64 q0),.imm (i64 4)] [.ptr 0 0,.imm (u64 q0),.imm (i64 4)]∧GSpec prog 77 [(92,.agg [.imm nS])] [] [.ptr 0 0,.imm (u64 q0),.imm (i64 4)] [(92,.agg [.own 1 (List.length (num q0 4))])] [Entry.row 5 1 (List.map u8 (num q0 4))] (.tup [])) (.need ([(ls 0,92,AVal.agg [AVal.own 1 (List.length (num q0 4))])]=[(ls 0,92,AVal.agg [AVal.own 1 (List.length (rs49 p))])]∧ELeL [Entry.row 5 1 (List.map u8 (num q0 4))] [Entry.row 5 1 (List.map u8 (rs49 p))]∧ALe (.tup []) (.tup [])) (.done Exit.ret lnil))):=by kernel_rfl
theorem g49 (p:Pdu):GSpec prog 49 [(92,.agg [.imm (.v (.slice none 0 0))])] [] [.imm (encD p),.ptr 0 0] [(92,.agg [.own 1 (rs49 p).length])] [.row 5 1 ((rs49 p).map u8)] (.tup []):=by
 refine GSpec.tree Proofs.Try.f49 (fun ls=>T49 ls p) (by kernel_rfl) (by kernel_rfl) rfl fun ls=>?_
 rw[t49]
 refine need_sat ⟨ALeL.refl _,g77' _ _ ?_ ?_⟩ (need_sat ?_ (trivial))
 all_goals try first
  |omega
  |rfl
  |(simp[flI_len,num_len,rs49];done)
  |(simp[flI_len,num_len,rs49];omega)
  |(simp only[decide_eq_true_eq,decide_eq_false_iff_not]at*;exfalso;omega)
  |exact⟨rfl,.refl _,.refl _⟩
def rs57 (p:Pdu):List Int:=flI p.add++num (w64 p.origin.pfx.len) 1++num (w64 p.origin.max) 1++num 0 1++(if p.kind=6 then num p.origin.pfx.addr.hi 8++num p.origin.pfx.addr.lo 8 else num p.origin.pfx.addr.lo 4)++num (w64 p.origin.asn) 4
def T57 (ls:Nat→Abs.Loc)(p:Pdu):Tell:=
 (let q0:=IntKind.wrap IntKind.u64 p.origin.pfx.len;let q1:=IntKind.wrap IntKind.u64 p.origin.max;let q2:=IntKind.wrap IntKind.u64 p.origin.asn;let q3:=flI p.add++num q0 1++num q1 1++num 0 1++num p.origin.pfx.addr.hi 8++num p.origin.pfx.addr.lo 8++num q2 4;let q4:=flI p.add++num q0 1++num q1 1++num 0 1++num p.origin.pfx.addr.hi 8++num p.origin.pfx.addr.lo 8;let q5:=flI p.add++num q0 1++num q1 1++num 0 1++num p.origin.pfx.addr.lo 4++num q2 4;let q6:=flI p.add++num q0 1++num q1 1++num 0 1++num p.origin.pfx.addr.hi 8;let q7:=flI p.add++num q0 1++num q1 1++num 0 1++num p.origin.pfx.addr.lo 4;let q8:=flI p.add++num q0 1++num q1 1++num 0 1;
 Tell.mk (fun x x_1=>false) (fun x x_1=>Orc.no) (fun x=>Tree.fail 1000003 0) (fun x=>0) (fun x=>([],[])) (oget [(2,1,4,Orc.callg [0] 1 [.ptr 0 0,.imm (bo p.add)] [(92,.agg [.own 1 (List.length (flI p.add))])] [Entry.row 5 1 (List.map u8 (flI p.add))] (.tup [])),(8,2,7,Orc.callg [0,6] 1 [.ptr 0 0,.imm (u64 q0),.imm (i64 1)] [(92,.agg [.own 1 (List.length (flI p.add++num q0 1))])] [Entry.row 5 1 (List.map u8 (flI p.add++num q0 1))] (.tup [])),(17,3,6,Orc.callg [0,15] 1 [.ptr 0 0,.imm (u64 q1),.imm (i64 1)] [(92,.agg [.own 1 (List.length (flI p.add++num q0 1++num q1 1))])]
 [Entry.row 5 1 (List.map u8 (flI p.add++num q0 1++num q1 1))] (.tup [])),(25,4,1,Orc.callg [0,23] 1 [.ptr 0 0,.imm (u64 0),.imm (i64 1)] [(92,.agg [.own 1 (List.length q8)])] [Entry.row 5 1 (List.map u8 q8)] (.tup [])),(32,6,7,Orc.callg [0,26] 1 [.ptr 0 0,.imm (u64 p.origin.pfx.addr.hi),.imm (i64 8)] [(92,.agg [.own 1 (List.length q6)])] [Entry.row 5 1 (List.map u8 q6)] (.tup [])),(32,8,7,Orc.callg [0,26] 1 [.ptr 0 0,.imm (u64 p.origin.pfx.addr.lo),.imm (i64 4)] [(92,.agg [.own 1 (List.length q7)])] [Entry.row 5 1 (List.map u8 q7)] (.tup [])),(41,7,7,Orc.callg [0,39] 1 [.ptr 0 0,.imm (u64
 p.origin.pfx.addr.lo),.imm (i64 8)] [(92,.agg [.own 1 (List.length q4)])] [Entry.row 5 1 (List.map u8 q4)] (.tup [])),(41,9,6,Orc.callg [0,39] 1 [.ptr 0 0,.imm (u64 q2),.imm (i64 4)] [(92,.agg [.own 1 (List.length q5)])] [Entry.row 5 1 (List.map u8 q5)] (.tup [])),(50,9,6,Orc.callg [0,48] 1 [.ptr 0 0,.imm (u64 q2),.imm (i64 4)] [(92,.agg [.own 1 (List.length q3)])] [Entry.row 5 1 (List.map u8 q3)] (.tup []))]) fun x x_1=>Tree.fail 1000003 0)
theorem t57 (ls:Nat→Abs.Loc)(p:Pdu):levG prog Proofs.Try.f57 ls [(92,.agg [.imm (.v (.slice none 0 0))])] [] [.imm (encD p),.ptr 0 0] [(92,.agg [.own 1 (rs57 p).length])] [.row 5 1 ((rs57 p).map u8)] (.tup []) (T57 ls p)=
 (let q0:=IntKind.wrap IntKind.u64 p.origin.pfx.len;let q1:=IntKind.wrap IntKind.u64 p.origin.max;let q2:=IntKind.wrap IntKind.u64 p.origin.asn;let q3:=flI p.add++num q0 1++num q1 1++num 0 1++num p.origin.pfx.addr.hi 8++num p.origin.pfx.addr.lo 8++num q2 4;let q4:=flI p.add++num q0 1++num q1 1++num 0 1++num p.origin.pfx.addr.hi 8++num p.origin.pfx.addr.lo 8;let q5:=flI p.add++num q0 1++num q1 1++num 0 1++num p.origin.pfx.addr.lo 4++num q2 4;let q6:=flI p.add++num q0 1++num q1 1++num 0 1++num p.origin.pfx.addr.hi 8;let q7:=flI p.add++num q0 1++num q1 1++num 0 1++num p.origin.pfx.addr.lo 4;let q8:=flI p.add++num q0 1++num q1 1++num 0 1;let q9:=u64 p.origin.pfx.addr.lo;let q10:=flI p.add++num q0 1++num q1 1;let q11:=flI p.add++num q0 1;let q12:=u64 p.origin.pfx.addr.hi;
 Tree.need (ALeL [.ptr 0 0,.imm (bo p.add)] [.ptr 0 0,.imm (bo p.add)]∧GSpec prog 87 [(92,.agg [.imm nS])] [] [.ptr 0 0,.imm (bo p.add)] [(92,.agg [.own 1 (List.length (flI p.add))])] [Entry.row 5 1 (List.map u8 (flI p.add))] (.tup [])) (.need (ALeL [.ptr 0 0,.imm (u64 q0),.imm (i64 1)] [.ptr 0 0,.imm (u64 q0),.imm (i64 1)]∧GSpec prog 77 [(92,.agg [.own 1 (List.length (flI p.add))])] [(5,1,List.map u8 (flI p.add))] [.ptr 0 0,.imm (u64 q0),.imm (i64 1)] [(92,.agg [.own 1 (List.length q11)])] [Entry.row 5 1 (List.map u8 q11)] (.tup [])) (.need (ALeL [.ptr 0 0,.imm (u64 q1),.imm (i64 1)] [.ptr
 0 0,.imm (u64 q1),.imm (i64 1)]∧GSpec prog 77 [(92,.agg [.own 1 (List.length q11)])] [(5,1,List.map u8 q11)] [.ptr 0 0,.imm (u64 q1),.imm (i64 1)] [(92,.agg [.own 1 (List.length q10)])] [Entry.row 5 1 (List.map u8 q10)] (.tup [])) (.need (ALeL [.ptr 0 0,.imm (u64 0),.imm (i64 1)] [.ptr 0 0,.imm (u64 0),.imm (i64 1)]∧GSpec prog 77 [(92,.agg [.own 1 (List.length q10)])] [(5,1,List.map u8 q10)] [.ptr 0 0,.imm (u64 0),.imm (i64 1)] [(92,.agg [.own 1 (List.length q8)])] [Entry.row 5 1 (List.map u8 q8)] (.tup [])) (.br (decide (p.kind=6)) (.need (ALeL [.ptr 0 0,.imm q12,.imm (i64 8)] [.ptr 0
 0,.imm q12,.imm (i64 8)]∧GSpec prog 77 [(92,.agg [.own 1 (List.length q8)])] [(5,1,List.map u8 q8)] [.ptr 0 0,.imm q12,.imm (i64 8)] [(92,.agg [.own 1 (List.length q6)])] [Entry.row 5 1 (List.map u8 q6)] (.tup [])) (.need (ALeL [.ptr 0 0,.imm q9,.imm (i64 8)] [.ptr 0 0,.imm q9,.imm (i64 8)]∧GSpec prog 77 [(92,.agg [.own 1 (List.length q6)])] [(5,1,List.map u8 q6)] [.ptr 0 0,.imm q9,.imm (i64 8)] [(92,.agg [.own 1 (List.length q4)])] [Entry.row 5 1 (List.map u8 q4)] (.tup [])) (.need (ALeL [.ptr 0 0,.imm (u64 q2),.imm (i64 4)] [.ptr 0 0,.imm (u64 q2),.imm (i64 4)]∧GSpec prog 77 [(92,.agg
 [.own 1 (List.length q4)])] [(5,1,List.map u8 q4)] [.ptr 0 0,.imm (u64 q2),.imm (i64 4)] [(92,.agg [.own 1 (List.length q3)])] [Entry.row 5 1 (List.map u8 q3)] (.tup [])) (.need ([(ls 0,92,AVal.agg [AVal.own 1 (List.length q3)])]=[(ls 0,92,AVal.agg [AVal.own 1 (List.length (rs57 p))])]∧ELeL [Entry.row 5 1 (List.map u8 q3)] [Entry.row 5 1 (List.map u8 (rs57 p))]∧ALe (.tup []) (.tup [])) (.done Exit.ret lnil))))) (.need (ALeL [.ptr 0 0,.imm q9,.imm (i64 4)] [.ptr 0 0,.imm q9,.imm (i64 4)]∧GSpec prog 77 [(92,.agg [.own 1 (List.length q8)])] [(5,1,List.map u8 q8)] [.ptr 0 0,.imm q9,.imm
 (i64 4)] [(92,.agg [.own 1 (List.length q7)])] [Entry.row 5 1 (List.map u8 q7)] (.tup [])) (.need (ALeL [.ptr 0 0,.imm (u64 q2),.imm (i64 4)] [.ptr 0 0,.imm (u64 q2),.imm (i64 4)]∧GSpec prog 77 [(92,.agg [.own 1 (List.length q7)])] [(5,1,List.map u8 q7)] [.ptr 0 0,.imm (u64 q2),.imm (i64 4)] [(92,.agg [.own 1 (List.length q5)])] [Entry.row 5 1 (List.map u8 q5)] (.tup [])) (.need ([(ls 0,92,AVal.agg [AVal.own 1 (List.length q5)])]=[(ls 0,92,AVal.agg [AVal.own 1 (List.length (rs57 p))])]∧ELeL [Entry.row 5 1 (List.map u8 q5)] [Entry.row 5 1 (List.map u8 (rs57 p))]∧ALe (.tup []) (.tup []))
 (.done Exit.ret lnil))))))))):=by kernel_rfl
theorem g57 (p:Pdu):GSpec prog 57 [(92,.agg [.imm (.v (.slice none 0 0))])] [] [.imm (encD p),.ptr 0 0] [(92,.agg [.own 1 (rs57 p).length])] [.row 5 1 ((rs57 p).map u8)] (.tup []):=by
 refine GSpec.tree Proofs.Try.f57 (fun ls=>T57 ls p) (by kernel_rfl) (by kernel_rfl) rfl fun ls=>?_
 rw[t57]
 refine need_sat ⟨ALeL.refl _,g87' _⟩ (need_sat ⟨ALeL.refl _,g77 _ _ _ _ ?_ ?_ ?_ ?_⟩ (need_sat ⟨ALeL.refl _,g77 _ _ _ _ ?_ ?_ ?_ ?_⟩ (need_sat ⟨ALeL.refl _,g77 _ _ _ _ ?_ ?_ ?_ ?_⟩ ⟨fun h1=>need_sat ⟨ALeL.refl _,g77 _ _ _ _ ?_ ?_ ?_ ?_⟩ (need_sat ⟨ALeL.refl _,g77 _ _ _ _ ?_ ?_ ?_ ?_⟩ (need_sat ⟨ALeL.refl _,g77 _ _ _ _ ?_ ?_ ?_ ?_⟩ (need_sat ?_ (trivial)))),fun h1=>need_sat ⟨ALeL.refl _,g77 _ _ _ _ ?_ ?_ ?_ ?_⟩ (need_sat ⟨ALeL.refl _,g77 _ _ _ _ ?_ ?_ ?_ ?_⟩ (need_sat ?_ (trivial)))⟩)))
 all_goals try first
  |omega
  |rfl
  |(simp[flI_len,num_len,rs49];done)
  |(simp[flI_len,num_len,rs49];omega)
  |(simp only[decide_eq_true_eq,decide_eq_false_iff_not]at*;exfalso;omega)
  |exact⟨rfl,.refl _,.refl _⟩
 ·simp only[decide_eq_true_eq]at h1
  exact fin5 (by simp[rs57,h1])
 ·simp only[decide_eq_false_iff_not]at h1
  exact fin5 (by simp[rs57,h1])
def rs60 (p:Pdu):List Int:=rs49 p++(if 0<p.version then num (w64 p.refresh) 4++num (w64 p.retry) 4++num (w64 p.expire) 4 else[])
def T60 (ls:Nat→Abs.Loc)(p:Pdu):Tell:=
 (let q0:=IntKind.wrap IntKind.u64 p.refresh;let q1:=IntKind.wrap IntKind.u64 p.expire;let q2:=IntKind.wrap IntKind.u64 p.retry;let q3:=rs49 p++num q0 4++num q2 4++num q1 4;
 Tell.mk (fun x x_1=>false) (fun x x_1=>Orc.no) (fun x=>Tree.fail 1000003 0) (fun x=>5) (fun x=>([],[])) (opget [(1,0),(2,2),(2,5),(2,8),(4,0),(4,1),(5,2)] [(2,1,2,Orc.callg [0] 1 [.imm (encD p),.ptr 0 0] [(92,.agg [.own 1 (List.length (rs49 p))])] [Entry.row 5 1 (List.map u8 (rs49 p))] (.tup [])),(19,4,1,Orc.ext [] (.tup [])),(26,6,3,Orc.callg [0,4] 1 [.ptr 0 0,.imm (u64 q0),.imm (i64 4)] [(92,.agg [.own 1 (List.length (rs49 p++num q0 4))])] [Entry.row 5 1 (List.map u8 (rs49 p++num q0 4))] (.tup [])),(29,4,1,Orc.ext [] (.tup [])),(34,4,1,Orc.ext [] (.tup [])),(36,6,3,Orc.callg
 [0,4] 1 [.ptr 0 0,.imm (u64 q2),.imm (i64 4)] [(92,.agg [.own 1 (List.length (rs49 p++num q2 4))])] [Entry.row 5 1 (List.map u8 (rs49 p++num q2 4))] (.tup [])),(39,4,1,Orc.ext [] (.tup [])),(41,6,3,Orc.callg [0,29] 1 [.ptr 0 0,.imm (u64 q2),.imm (i64 4)] [(92,.agg [.own 1 (List.length (rs49 p++num q0 4++num q2 4))])] [Entry.row 5 1 (List.map u8 (rs49 p++num q0 4++num q2 4))] (.tup [])),(44,4,1,Orc.ext [] (.tup [])),(46,6,3,Orc.callg [0,4] 1 [.ptr 0 0,.imm (u64 q1),.imm (i64 4)] [(92,.agg [.own 1 (List.length (rs49 p++num q1 4))])] [Entry.row 5 1 (List.map u8 (rs49 p++num q1 4))]
 (.tup [])),(49,4,1,Orc.ext [] (.tup [])),(51,6,3,Orc.callg [0,29] 1 [.ptr 0 0,.imm (u64 q1),.imm (i64 4)] [(92,.agg [.own 1 (List.length (rs49 p++num q0 4++num q1 4))])] [Entry.row 5 1 (List.map u8 (rs49 p++num q0 4++num q1 4))] (.tup [])),(56,6,3,Orc.callg [0,44] 1 [.ptr 0 0,.imm (u64 q1),.imm (i64 4)] [(92,.agg [.own 1 (List.length q3)])] [Entry.row 5 1 (List.map u8 q3)] (.tup []))]) fun x x_1=>Tree.fail 1000003 0)
theorem t60 (ls:Nat→Abs.Loc)(p:Pdu):levG prog Proofs.Try.f60 ls [(92,.agg [.imm (.v (.slice none 0 0))])] [] [.imm (encD p),.ptr 0 0] [(92,.agg [.own 1 (rs60 p).length])] [.row 5 1 ((rs60 p).map u8)] (.tup []) (T60 ls p)=
 (let q0:=IntKind.wrap IntKind.u64 p.refresh;let q1:=IntKind.wrap IntKind.u64 p.retry;let q2:=IntKind.wrap IntKind.u64 p.expire;let q3:=u32 p.expire;let q4:=decide (0<p.version);let q5:=rs49 p++num q0 4++num q1 4;let q6:=List.length (rs60 p);let q7:=List.map u8 (rs60 p);let q8:=rs49 p++num q0 4;let q9:=rs49 p++num q0 4++num q1 4++num q2 4;let q10:=Op.load 23 (Operand.tmp 22);let q11:=rs49 p++num q1 4;let q12:=List.length (rs49 p);let q13:=rs49 p++num q0 4++num q2 4;let q14:=u32 p.refresh;let q15:=List.map u8 (rs49 p);let q16:=u32 p.retry;let q17:=rs49 p++num q2 4;let q18:=List.length q8;let q19:=u8 p.version;let q20:=List.length q11;let q21:=List.map u8 q11;let q22:=List.map u8 q8;let q23:=List.length q5;let q24:=List.map u8 q5;
 Tree.need (ALeL [.imm (encD p),.ptr 0 0] [.imm (encD p),.ptr 0 0]∧GSpec prog 49 [(92,.agg [.imm nS])] [] [.imm (encD p),.ptr 0 0] [(92,.agg [.own 1 q12])] [Entry.row 5 1 q15] (.tup [])) (.br true (.need ((0:Int)≤(0:Int)∧0<3) (.br q4 (.need (ALeL [.ptr 0 0,.imm (u64 q0),.imm (i64 4)] [.ptr 0 0,.imm (u64 q0),.imm (i64 4)]∧GSpec prog 77 [(92,.agg [.own 1 q12])] [(5,1,List.map u8 (rs49 p))] [.ptr 0 0,.imm (u64 q0),.imm (i64 4)] [(92,.agg [.own 1 q18])] [Entry.row 5 1 q22] (.tup [])) (.br true (.need ((0:Int)≤(1:Int)∧1<3) (.br q4 (.need (ALeL [.ptr 0 0,.imm (u64 q1),.imm (i64
 4)] [.ptr 0 0,.imm (u64 q1),.imm (i64 4)]∧GSpec prog 77 [(92,.agg [.own 1 q18])] [(5,1,List.map u8 q8)] [.ptr 0 0,.imm (u64 q1),.imm (i64 4)] [(92,.agg [.own 1 q23])] [Entry.row 5 1 q24] (.tup [])) (.br true (.need ((0:Int)≤(2:Int)∧2<3) (.br q4 (.need (ALeL [.ptr 0 0,.imm (u64 q2),.imm (i64 4)] [.ptr 0 0,.imm (u64 q2),.imm (i64 4)]∧GSpec prog 77 [(92,.agg [.own 1 q23])] [(5,1,List.map u8 q5)] [.ptr 0 0,.imm (u64 q2),.imm (i64 4)] [(92,.agg [.own 1 (List.length q9)])] [Entry.row 5 1 (List.map u8 q9)] (.tup [])) (.br false (.need ((0:Int)≤(3:Int)∧3<3) (.stop (LState.mk
 [(22,.rptr 15 1 3 0),(21,.imm (bo false)),(20,.imm (i64 3)),(32,.imm (i64 3)),(31,.tup []),(30,.imm (u64 q2)),(29,.imm q3),(28,.ptr 0 0),(27,.imm (bo q4)),(26,.imm q19),(25,.ptr 1 0),(24,.ptr 1 0),(5,.imm q3),(23,.imm q3),(19,.imm (i64 3)),(18,.own 15 3),(17,.imm q3),(16,.ptr 1 33),(15,.ptr 1 0),(14,.imm q16),(13,.ptr 1 32),(12,.ptr 1 0),(11,.imm q14),(10,.ptr 1 31),(9,.ptr 1 0),(8,.tup []),(7,.ptr 0 0),(6,.imm (encD p)),(2,.ptr 1 0),(0,.imm (encD p)),(1,.ptr 0 0)] [(59,Entry.row 5 1 (List.map u8 q9)),(0,Entry.bbox (ls 0) 92 (.agg [.own 59 (List.length q9)])),(15,Entry.row 23 1 [u32
 p.refresh,u32 p.retry,u32 p.expire]),(1,Entry.box 85 (.imm (encD p)))] 33 64 []) 4 1 q10)) (.need ([(ls 0,92,AVal.agg [AVal.own 1 (List.length q9)])]=[(ls 0,92,AVal.agg [AVal.own 1 q6])]∧ELeL [Entry.row 5 1 (List.map u8 q9)] [Entry.row 5 1 q7]∧ALe (.tup []) (.tup [])) (.done Exit.ret lnil)))) (.br false (.need ((0:Int)≤(3:Int)∧3<3) (.stop (LState.mk [(22,.rptr 15 1 3 0),(21,.imm (bo false)),(20,.imm (i64 3)),(32,.imm (i64 3)),(27,.imm (bo q4)),(26,.imm q19),(25,.ptr 1 0),(24,.ptr 1 0),(5,.imm q3),(23,.imm q3),(31,.tup []),(30,.imm (u64 q1)),(29,.imm q16),(28,.ptr 0 0),(19,.imm
 (i64 3)),(18,.own 15 3),(17,.imm q3),(16,.ptr 1 33),(15,.ptr 1 0),(14,.imm q16),(13,.ptr 1 32),(12,.ptr 1 0),(11,.imm q14),(10,.ptr 1 31),(9,.ptr 1 0),(8,.tup []),(7,.ptr 0 0),(6,.imm (encD p)),(2,.ptr 1 0),(0,.imm (encD p)),(1,.ptr 0 0)] [(44,Entry.row 5 1 q24),(0,Entry.bbox (ls 0) 92 (.agg [.own 44 q23])),(15,Entry.row 23 1 [u32 p.refresh,u32 p.retry,u32 p.expire]),(1,Entry.box 85 (.imm (encD p)))] 33 59 []) 4 1 q10)) (.need ([(ls 0,92,AVal.agg [AVal.own 1 q23])]=[(ls 0,92,AVal.agg [AVal.own 1 q6])]∧ELeL [Entry.row 5 1 q24] [Entry.row 5 1 q7]∧ALe (.tup []) (.tup [])) (.done Exit.ret
 lnil))))) (.need ([(ls 0,92,AVal.agg [AVal.own 1 q23])]=[(ls 0,92,AVal.agg [AVal.own 1 q6])]∧ELeL [Entry.row 5 1 q24] [Entry.row 5 1 q7]∧ALe (.tup []) (.tup [])) (.done Exit.ret lnil)))) (.br true (.need ((0:Int)≤(2:Int)∧2<3) (.br q4 (.need (ALeL [.ptr 0 0,.imm (u64 q2),.imm (i64 4)] [.ptr 0 0,.imm (u64 q2),.imm (i64 4)]∧GSpec prog 77 [(92,.agg [.own 1 q18])] [(5,1,List.map u8 q8)] [.ptr 0 0,.imm (u64 q2),.imm (i64 4)] [(92,.agg [.own 1 (List.length q13)])] [Entry.row 5 1 (List.map u8 q13)] (.tup [])) (.br false (.need ((0:Int)≤(3:Int)∧3<3) (.stop (LState.mk
 [(22,.rptr 15 1 3 0),(21,.imm (bo false)),(20,.imm (i64 3)),(32,.imm (i64 3)),(31,.tup []),(30,.imm (u64 q2)),(29,.imm q3),(28,.ptr 0 0),(27,.imm (bo q4)),(26,.imm q19),(25,.ptr 1 0),(24,.ptr 1 0),(5,.imm q3),(23,.imm q3),(19,.imm (i64 3)),(18,.own 15 3),(17,.imm q3),(16,.ptr 1 33),(15,.ptr 1 0),(14,.imm q16),(13,.ptr 1 32),(12,.ptr 1 0),(11,.imm q14),(10,.ptr 1 31),(9,.ptr 1 0),(8,.tup []),(7,.ptr 0 0),(6,.imm (encD p)),(2,.ptr 1 0),(0,.imm (encD p)),(1,.ptr 0 0)] [(54,Entry.row 5 1 (List.map u8 q13)),(0,Entry.bbox (ls 0) 92 (.agg [.own 54 (List.length q13)])),(15,Entry.row 23 1 [u32
 p.refresh,u32 p.retry,u32 p.expire]),(1,Entry.box 85 (.imm (encD p)))] 33 59 []) 4 1 q10)) (.need ([(ls 0,92,AVal.agg [AVal.own 1 (List.length q13)])]=[(ls 0,92,AVal.agg [AVal.own 1 q6])]∧ELeL [Entry.row 5 1 (List.map u8 q13)] [Entry.row 5 1 q7]∧ALe (.tup []) (.tup [])) (.done Exit.ret lnil)))) (.br false (.need ((0:Int)≤(3:Int)∧3<3) (.stop (LState.mk [(22,.rptr 15 1 3 0),(21,.imm (bo false)),(20,.imm (i64 3)),(32,.imm (i64 3)),(27,.imm (bo q4)),(26,.imm q19),(25,.ptr 1 0),(24,.ptr 1 0),(5,.imm q3),(23,.imm q3),(31,.tup []),(30,.imm (u64 q0)),(29,.imm q14),(28,.ptr 0 0),(19,.imm
 (i64 3)),(18,.own 15 3),(17,.imm q3),(16,.ptr 1 33),(15,.ptr 1 0),(14,.imm q16),(13,.ptr 1 32),(12,.ptr 1 0),(11,.imm q14),(10,.ptr 1 31),(9,.ptr 1 0),(8,.tup []),(7,.ptr 0 0),(6,.imm (encD p)),(2,.ptr 1 0),(0,.imm (encD p)),(1,.ptr 0 0)] [(29,Entry.row 5 1 q22),(0,Entry.bbox (ls 0) 92 (.agg [.own 29 q18])),(15,Entry.row 23 1 [u32 p.refresh,u32 p.retry,u32 p.expire]),(1,Entry.box 85 (.imm (encD p)))] 33 54 []) 4 1 q10)) (.need ([(ls 0,92,AVal.agg [AVal.own 1 q18])]=[(ls 0,92,AVal.agg [AVal.own 1 q6])]∧ELeL [Entry.row 5 1 q22] [Entry.row 5 1 q7]∧ALe (.tup []) (.tup [])) (.done Exit.ret
 lnil))))) (.need ([(ls 0,92,AVal.agg [AVal.own 1 q18])]=[(ls 0,92,AVal.agg [AVal.own 1 q6])]∧ELeL [Entry.row 5 1 q22] [Entry.row 5 1 q7]∧ALe (.tup []) (.tup [])) (.done Exit.ret lnil))))) (.need ([(ls 0,92,AVal.agg [AVal.own 1 q18])]=[(ls 0,92,AVal.agg [AVal.own 1 q6])]∧ELeL [Entry.row 5 1 q22] [Entry.row 5 1 q7]∧ALe (.tup []) (.tup [])) (.done Exit.ret lnil)))) (.br true (.need ((0:Int)≤(1:Int)∧1<3) (.br q4 (.need (ALeL [.ptr 0 0,.imm (u64 q1),.imm (i64 4)] [.ptr 0 0,.imm (u64 q1),.imm (i64 4)]∧GSpec prog 77 [(92,.agg [.own 1 q12])] [(5,1,List.map u8 (rs49 p))] [.ptr 0
 0,.imm (u64 q1),.imm (i64 4)] [(92,.agg [.own 1 q20])] [Entry.row 5 1 q21] (.tup [])) (.br true (.need ((0:Int)≤(2:Int)∧2<3) (.br q4 (.stop (LState.mk [(30,.imm (u64 q2)),(29,.imm q3),(28,.ptr 0 0),(27,.imm (bo q4)),(26,.imm q19),(25,.ptr 1 0),(24,.ptr 1 0),(5,.imm q3),(23,.imm q3),(22,.rptr 15 1 2 0),(21,.imm (bo true)),(20,.imm (i64 2)),(32,.imm (i64 2)),(31,.tup []),(19,.imm (i64 3)),(18,.own 15 3),(17,.imm q3),(16,.ptr 1 33),(15,.ptr 1 0),(14,.imm q16),(13,.ptr 1 32),(12,.ptr 1 0),(11,.imm q14),(10,.ptr 1 31),(9,.ptr 1 0),(8,.tup []),(7,.ptr 0 0),(6,.imm (encD p)),(2,.ptr 1
 0),(0,.imm (encD p)),(1,.ptr 0 0)] [(39,Entry.row 5 1 q21),(0,Entry.bbox (ls 0) 92 (.agg [.own 39 q20])),(15,Entry.row 23 1 [u32 p.refresh,u32 p.retry,u32 p.expire]),(1,Entry.box 85 (.imm (encD p)))] 33 51 []) 6 3 (Op.call (Call.mk (Callee.value (Operand.func 77)) (Array.mk [Operand.tmp 28,Operand.tmp 30,Operand.const (Value.int IntKind.i64 4)]) (Array.mk [90,24,3])))) (.br false (.need ((0:Int)≤(3:Int)∧3<3) (.stop (LState.mk [(22,.rptr 15 1 3 0),(21,.imm (bo false)),(20,.imm (i64 3)),(32,.imm (i64 3)),(27,.imm (bo q4)),(26,.imm q19),(25,.ptr 1 0),(24,.ptr 1 0),(5,.imm q3),(23,.imm
 q3),(31,.tup []),(30,.imm (u64 q1)),(29,.imm q16),(28,.ptr 0 0),(19,.imm (i64 3)),(18,.own 15 3),(17,.imm q3),(16,.ptr 1 33),(15,.ptr 1 0),(14,.imm q16),(13,.ptr 1 32),(12,.ptr 1 0),(11,.imm q14),(10,.ptr 1 31),(9,.ptr 1 0),(8,.tup []),(7,.ptr 0 0),(6,.imm (encD p)),(2,.ptr 1 0),(0,.imm (encD p)),(1,.ptr 0 0)] [(39,Entry.row 5 1 q21),(0,Entry.bbox (ls 0) 92 (.agg [.own 39 q20])),(15,Entry.row 23 1 [u32 p.refresh,u32 p.retry,u32 p.expire]),(1,Entry.box 85 (.imm (encD p)))] 33 54 []) 4 1 q10)) (.need ([(ls 0,92,AVal.agg [AVal.own 1 q20])]=[(ls 0,92,AVal.agg [AVal.own 1 q6])]∧ELeL [Entry.row 5
 1 q21] [Entry.row 5 1 q7]∧ALe (.tup []) (.tup [])) (.done Exit.ret lnil))))) (.need ([(ls 0,92,AVal.agg [AVal.own 1 q20])]=[(ls 0,92,AVal.agg [AVal.own 1 q6])]∧ELeL [Entry.row 5 1 q21] [Entry.row 5 1 q7]∧ALe (.tup []) (.tup [])) (.done Exit.ret lnil)))) (.br true (.need ((0:Int)≤(2:Int)∧2<3) (.br q4 (.need (ALeL [.ptr 0 0,.imm (u64 q2),.imm (i64 4)] [.ptr 0 0,.imm (u64 q2),.imm (i64 4)]∧GSpec prog 77 [(92,.agg [.own 1 q12])] [(5,1,List.map u8 (rs49 p))] [.ptr 0 0,.imm (u64 q2),.imm (i64 4)] [(92,.agg [.own 1 (List.length q17)])] [Entry.row 5 1 (List.map u8 q17)] (.tup []))
 (.br false (.need ((0:Int)≤(3:Int)∧3<3) (.stop (LState.mk [(22,.rptr 15 1 3 0),(21,.imm (bo false)),(20,.imm (i64 3)),(32,.imm (i64 3)),(31,.tup []),(30,.imm (u64 q2)),(29,.imm q3),(28,.ptr 0 0),(27,.imm (bo q4)),(26,.imm q19),(25,.ptr 1 0),(24,.ptr 1 0),(5,.imm q3),(23,.imm q3),(19,.imm (i64 3)),(18,.own 15 3),(17,.imm q3),(16,.ptr 1 33),(15,.ptr 1 0),(14,.imm q16),(13,.ptr 1 32),(12,.ptr 1 0),(11,.imm q14),(10,.ptr 1 31),(9,.ptr 1 0),(8,.tup []),(7,.ptr 0 0),(6,.imm (encD p)),(2,.ptr 1 0),(0,.imm (encD p)),(1,.ptr 0 0)] [(49,Entry.row 5 1 (List.map u8 q17)),(0,Entry.bbox (ls 0) 92
 (.agg [.own 49 (List.length q17)])),(15,Entry.row 23 1 [u32 p.refresh,u32 p.retry,u32 p.expire]),(1,Entry.box 85 (.imm (encD p)))] 33 54 []) 4 1 q10)) (.need ([(ls 0,92,AVal.agg [AVal.own 1 (List.length q17)])]=[(ls 0,92,AVal.agg [AVal.own 1 q6])]∧ELeL [Entry.row 5 1 (List.map u8 q17)] [Entry.row 5 1 q7]∧ALe (.tup []) (.tup [])) (.done Exit.ret lnil)))) (.br false (.need ((0:Int)≤(3:Int)∧3<3) (.stop (LState.mk [(22,.rptr 15 1 3 0),(21,.imm (bo false)),(20,.imm (i64 3)),(32,.imm (i64 3)),(27,.imm (bo q4)),(26,.imm q19),(25,.ptr 1 0),(24,.ptr 1 0),(5,.imm q3),(23,.imm q3),(19,.imm
 (i64 3)),(18,.own 15 3),(17,.imm q3),(16,.ptr 1 33),(15,.ptr 1 0),(14,.imm q16),(13,.ptr 1 32),(12,.ptr 1 0),(11,.imm q14),(10,.ptr 1 31),(9,.ptr 1 0),(8,.tup []),(7,.ptr 0 0),(6,.imm (encD p)),(2,.ptr 1 0),(0,.imm (encD p)),(1,.ptr 0 0)] [(15,Entry.row 23 1 [u32 p.refresh,u32 p.retry,u32 p.expire]),(4,Entry.row 5 1 q15),(0,Entry.bbox (ls 0) 92 (.agg [.own 4 q12])),(1,Entry.box 85 (.imm (encD p)))] 33 49 []) 4 1 q10)) (.need ([(ls 0,92,AVal.agg [AVal.own 1 q12])]=[(ls 0,92,AVal.agg [AVal.own 1 q6])]∧ELeL [Entry.row 5 1 q15] [Entry.row 5 1 q7]∧ALe (.tup []) (.tup [])) (.done Exit.ret
 lnil))))) (.need ([(ls 0,92,AVal.agg [AVal.own 1 q12])]=[(ls 0,92,AVal.agg [AVal.own 1 q6])]∧ELeL [Entry.row 5 1 q15] [Entry.row 5 1 q7]∧ALe (.tup []) (.tup [])) (.done Exit.ret lnil))))) (.need ([(ls 0,92,AVal.agg [AVal.own 1 q12])]=[(ls 0,92,AVal.agg [AVal.own 1 q6])]∧ELeL [Entry.row 5 1 q15] [Entry.row 5 1 q7]∧ALe (.tup []) (.tup [])) (.done Exit.ret lnil))))) (.need ([(ls 0,92,AVal.agg [AVal.own 1 q12])]=[(ls 0,92,AVal.agg [AVal.own 1 q6])]∧ELeL [Entry.row 5 1 q15] [Entry.row 5 1 q7]∧ALe (.tup []) (.tup [])) (.done Exit.ret lnil)))):=by kernel_rfl
theorem g60 (p:Pdu):GSpec prog 60 [(92,.agg [.imm (.v (.slice none 0 0))])] [] [.imm (encD p),.ptr 0 0] [(92,.agg [.own 1 (rs60 p).length])] [.row 5 1 ((rs60 p).map u8)] (.tup []):=by
 refine GSpec.tree Proofs.Try.f60 (fun ls=>T60 ls p) (by kernel_rfl) (by kernel_rfl) rfl fun ls=>?_
 rw[t60]
 refine need_sat ⟨ALeL.refl _,g49 _⟩ ⟨fun _=>need_sat ?_ ⟨fun h1=>need_sat ⟨ALeL.refl _,g77 _ _ _ _ ?_ ?_ ?_ ?_⟩ ⟨fun _=>need_sat ?_ ⟨fun h2=>need_sat ⟨ALeL.refl _,g77 _ _ _ _ ?_ ?_ ?_ ?_⟩ ⟨fun _=>need_sat ?_ ⟨fun h3=>need_sat ⟨ALeL.refl _,g77 _ _ _ _ ?_ ?_ ?_ ?_⟩ ⟨fun h=>(by cases h),fun _=>need_sat ?_ (trivial)⟩,fun h3=>⟨fun h=>(by cases h),fun _=>need_sat ?_ (trivial)⟩⟩,fun h=>(by cases h)⟩,fun h2=>⟨fun _=>need_sat ?_ ⟨fun h3=>need_sat ⟨ALeL.refl _,g77 _ _ _ _ ?_ ?_ ?_ ?_⟩ ⟨fun h=>(by cases h),fun _=>need_sat ?_ (trivial)⟩,fun h3=>⟨fun h=>(by cases h),fun _=>need_sat ?_ (trivial)⟩⟩,fun h=>(by cases h)⟩⟩,fun h=>(by cases h)⟩,fun h1=>⟨fun _=>need_sat ?_ ⟨fun h2=>need_sat ⟨ALeL.refl _,g77 _ _ _ _ ?_ ?_ ?_ ?_⟩ ⟨fun _=>need_sat ?_ ⟨fun h3=>?_,fun h3=>⟨fun h=>(by cases h),fun _=>need_sat ?_ (trivial)⟩⟩,fun h=>(by cases h)⟩,fun h2=>⟨fun _=>need_sat ?_ ⟨fun h3=>need_sat ⟨ALeL.refl _,g77 _ _ _ _ ?_ ?_ ?_ ?_⟩ ⟨fun h=>(by cases h),fun _=>need_sat ?_ (trivial)⟩,fun h3=>⟨fun h=>(by cases h),fun _=>need_sat ?_ (trivial)⟩⟩,fun h=>(by cases h)⟩⟩,fun h=>(by cases h)⟩⟩,fun h=>(by cases h)⟩
 all_goals try first
  |omega
  |rfl
  |(simp[flI_len,num_len,rs49];done)
  |(simp[flI_len,num_len,rs49];omega)
  |(simp only[decide_eq_true_eq,decide_eq_false_iff_not]at*;exfalso;omega)
  |exact⟨rfl,.refl _,.refl _⟩
 ·simp only[decide_eq_true_eq]at h1
  exact fin5 (by simp[rs60,h1])
 ·simp only[decide_eq_false_iff_not]at h1
  exact fin5 (by simp only[rs60,if_neg h1,List.append_nil])
def rs64 (p:Pdu):List Int:=num (w64 p.key.asn) 4++num (w64 p.key.height) 1++rootL p.key
def T64 (ls:Nat→Abs.Loc)(p:Pdu):Tell:=
 (let q0:=IntKind.wrap IntKind.u64 p.key.asn;let q1:=IntKind.wrap IntKind.u64 p.key.height;
 Tell.mk (fun r i=>(Tell.mk (fun x x_1=>false) (fun x x_1=>Orc.no) (fun x=>Tree.fail 1000003 0) (fun x=>0) (fun x=>([],[])) (fun x x_1 x_2=>Orc.no) fun x x_1=>Tree.fail 1000003 0).fz r i||fget [(3,9)] r i) (fun x x_1=>Orc.no) (fun x=>Tree.fail 1000003 0) (fun x=>0) (fun x=>([],[])) (oget [(2,1,6,Orc.callg [0] 1 [.ptr 0 0,.imm (u64 q0),.imm (i64 4)] [(92,.agg [.own 1 (List.length (num q0 4))])] [Entry.row 5 1 (List.map u8 (num q0 4))] (.tup [])),(10,2,7,Orc.callg [0,8] 1 [.ptr 0 0,.imm (u64 q1),.imm (i64 1)] [(92,.agg [.own 1 (List.length (num q0 4++num q1 1))])]
 [Entry.row 5 1 (List.map u8 (num q0 4++num q1 1))] (.tup []))]) fun x x_1=>Tree.fail 1000003 0)
theorem t64 (ls:Nat→Abs.Loc)(p:Pdu):levG prog Proofs.Try.f64 ls [(92,.agg [.imm (.v (.slice none 0 0))])] [] [.imm (encD p),.ptr 0 0] [(92,.agg [.own 1 (rs64 p).length])] [.row 5 1 ((rs64 p).map u8)] (.tup []) (T64 ls p)=
 (let q1:=IntKind.wrap IntKind.u64 p.key.asn;let q0:=num q1 4++num (IntKind.wrap IntKind.u64 p.key.height) 1;let q2:=u64 (IntKind.wrap IntKind.u64 p.key.height);
 Tree.need (ALeL [.ptr 0 0,.imm (u64 q1),.imm (i64 4)] [.ptr 0 0,.imm (u64 q1),.imm (i64 4)]∧GSpec prog 77 [(92,.agg [.imm nS])] [] [.ptr 0 0,.imm (u64 q1),.imm (i64 4)] [(92,.agg [.own 1 (List.length (num q1 4))])] [Entry.row 5 1 (List.map u8 (num q1 4))] (.tup [])) (.need (ALeL [.ptr 0 0,.imm q2,.imm (i64 1)] [.ptr 0 0,.imm q2,.imm (i64 1)]∧GSpec prog 77 [(92,.agg [.own 1 (List.length (num q1 4))])] [(5,1,List.map u8 (num q1 4))] [.ptr 0 0,.imm q2,.imm (i64 1)] [(92,.agg [.own 1 (List.length q0)])] [Entry.row 5 1 (List.map u8 q0)] (.tup [])) (.need (askA none (List.length (List.map u8 q0)
 =List.length q0∧cellsOk (List.map u8 q0)=true∧true=true∧List.length q0+16≤1000000)) (.need ([(ls 0,92,AVal.agg [AVal.own 1 (List.length q0+16)])]=[(ls 0,92,AVal.agg [AVal.own 1 (List.length (rs64 p))])]∧ELeL [Entry.row 5 1 (List.map u8 q0++[u8 p.key.root[0],u8 p.key.root[1],u8 p.key.root[2],u8 p.key.root[3],u8 p.key.root[4],u8 p.key.root[5],u8 p.key.root[6],u8 p.key.root[7],u8 p.key.root[8],u8 p.key.root[9],u8 p.key.root[10],u8 p.key.root[11],u8 p.key.root[12],u8 p.key.root[13],u8 p.key.root[14],u8 p.key.root[15]])] [Entry.row 5 1 (List.map u8 (rs64 p))]∧ALe (.tup [])
 (.tup [])) (.done Exit.ret lnil))))):=by kernel_rfl
theorem g64 (p:Pdu):GSpec prog 64 [(92,.agg [.imm (.v (.slice none 0 0))])] [] [.imm (encD p),.ptr 0 0] [(92,.agg [.own 1 (rs64 p).length])] [.row 5 1 ((rs64 p).map u8)] (.tup []):=by
 refine GSpec.tree Proofs.Try.f64 (fun ls=>T64 ls p) (by kernel_rfl) (by kernel_rfl) rfl fun ls=>?_
 rw[t64]
 refine need_sat ⟨ALeL.refl _,g77' _ _ ?_ ?_⟩ (need_sat ⟨ALeL.refl _,g77 _ _ _ _ ?_ ?_ ?_ ?_⟩ (need_sat ?_ (need_sat ?_ (trivial))))
 all_goals try first
  |omega
  |rfl
  |(simp[flI_len,num_len,rs49];done)
  |(simp[flI_len,num_len,rs49];omega)
  |(simp only[decide_eq_true_eq,decide_eq_false_iff_not]at*;exfalso;omega)
  |exact⟨rfl,.refl _,.refl _⟩
 ·exact⟨by simp[num_len],cellsOk_map u8 (fun _=>rfl) _,rfl,by simp[num_len]⟩
 ·refine fin5' (b:=num (w64 p.key.asn) 4++num (w64 p.key.height) 1++rootL p.key) (by simp[rootL,num_len]) (by simp[rootL]) (by simp[rs64])
def rs69 (p:Pdu):List Int:=num (w64 p.copy.length) 4++p.copy++num (w64 p.text.size) 4++bytesL p.text
def T69 (ls:Nat→Abs.Loc)(p:Pdu):Tell:=
 (let q0:=IntKind.wrap IntKind.u64 (↑(List.length (List.map u8 p.copy)):Int);let q1:=IntKind.wrap IntKind.u64 (↑(ByteArray.size p.text):Int);
 Tell.mk (fun x x_1=>false) (fun x x_1=>Orc.no) (fun x=>Tree.fail 1000003 0) (fun x=>0) (fun x=>([],[])) (oget [(2,1,6,Orc.callg [0] 1 [.ptr 0 0,.imm (u64 q0),.imm (i64 4)] [(92,.agg [.own 1 (List.length (num q0 4))])] [Entry.row 5 1 (List.map u8 (num q0 4))] (.tup [])),(22,3,6,Orc.callg [0,18] 1 [.ptr 0 0,.imm (u64 q1),.imm (i64 4)] [(92,.agg [.own 1 (List.length (num q0 4++p.copy++num q1 4))])] [Entry.row 5 1 (List.map u8 (num q0 4++p.copy++num q1 4))] (.tup []))]) fun x x_1=>Tree.fail 1000003 0)
theorem t69 (ls:Nat→Abs.Loc)(p:Pdu):levG prog Proofs.Try.f69 ls [(92,.agg [.imm (.v (.slice none 0 0))])] [] [.imm (encD p),.ptr 0 0] [(92,.agg [.own 1 (rs69 p).length])] [.row 5 1 ((rs69 p).map u8)] (.tup []) (T69 ls p)=
 (let q4:=List.map u8 p.copy;let q0:=IntKind.wrap IntKind.u64 (↑(List.length q4):Int);let q1:=num q0 4++p.copy++num (IntKind.wrap IntKind.u64 (↑(ByteArray.size p.text):Int)) 4;let q2:=u64 (IntKind.wrap IntKind.u64 (↑(ByteArray.size p.text):Int));let q3:=List.map u8 (num q0 4);
 Tree.need (ALeL [.ptr 0 0,.imm (u64 q0),.imm (i64 4)] [.ptr 0 0,.imm (u64 q0),.imm (i64 4)]∧GSpec prog 77 [(92,.agg [.imm nS])] [] [.ptr 0 0,.imm (u64 q0),.imm (i64 4)] [(92,.agg [.own 1 (List.length (num q0 4))])] [Entry.row 5 1 q3] (.tup [])) (.need (askA none (List.length q3=List.length (num q0 4)∧cellsOk q3=true∧cellsOk q4=true∧List.length (num q0 4)+List.length q4≤1000000)) (.need (ALeL [.ptr 0 0,.imm q2,.imm (i64 4)] [.ptr 0 0,.imm q2,.imm (i64 4)]∧GSpec prog 77 [(92,.agg [.own 1 (List.length (num q0 4)+List.length q4)])] [(5,1,List.map u8 (num q0 4)++List.map u8
 p.copy)] [.ptr 0 0,.imm q2,.imm (i64 4)] [(92,.agg [.own 1 (List.length q1)])] [Entry.row 5 1 (List.map u8 q1)] (.tup [])) (.need (askA none (List.length (List.map u8 q1)=List.length q1∧cellsOk (List.map u8 q1)=true∧cellsOk (List.map (fun b=>u8 (↑(UInt8.toNat b):Int)) p.text.data.toList)=true∧List.length q1+List.length (List.map (fun b=>u8 (↑(UInt8.toNat b):Int)) p.text.data.toList)≤1000000)) (.need ([(ls 0,92,AVal.agg [AVal.own 1 (List.length q1+List.length (List.map (fun b=>u8 (↑(UInt8.toNat b):Int)) p.text.data.toList))])]=[(ls 0,92,AVal.agg [AVal.own 1
 (List.length (rs69 p))])]∧ELeL [Entry.row 5 1 (List.map u8 q1++List.map (fun b=>u8 (↑(UInt8.toNat b):Int)) p.text.data.toList)] [Entry.row 5 1 (List.map u8 (rs69 p))]∧ALe (.tup []) (.tup [])) (.done Exit.ret lnil)))))):=by kernel_rfl
theorem g69 (p:Pdu)(hc:p.copy.length≤100000)(ht:p.text.size≤100000):GSpec prog 69 [(92,.agg [.imm (.v (.slice none 0 0))])] [] [.imm (encD p),.ptr 0 0] [(92,.agg [.own 1 (rs69 p).length])] [.row 5 1 ((rs69 p).map u8)] (.tup []):=by
 refine GSpec.tree Proofs.Try.f69 (fun ls=>T69 ls p) (by kernel_rfl) (by kernel_rfl) rfl fun ls=>?_
 rw[t69]
 refine need_sat ⟨ALeL.refl _,g77' _ _ ?_ ?_⟩ (need_sat ?_ (need_sat ⟨ALeL.refl _,?_⟩ (need_sat ?_ (need_sat ?_ (trivial)))))
 all_goals try first
  |omega
  |rfl
  |(simp[flI_len,num_len,rs49];done)
  |(simp[flI_len,num_len,rs49];omega)
  |(simp only[decide_eq_true_eq,decide_eq_false_iff_not]at*;exfalso;omega)
  |exact⟨rfl,.refl _,.refl _⟩
 ·exact⟨by simp,cellsOk_map u8 (fun _=>rfl) _,cellsOk_map u8 (fun _=>rfl) _,by simp[num_len];omega⟩
 ·exact(g77 (num (w64 ((List.map u8 p.copy).length:Int)) 4++p.copy) _ 4 _ (by omega) (by omega) (by simp) (by simp[num_len];omega)).rw1 (by simp)
 ·exact⟨by simp,cellsOk_map u8 (fun _=>rfl) _,cellsOk_map _ (fun _=>rfl) _,by have:p.text.data.size=p.text.size:=rfl;simp[num_len];omega⟩
 ·refine fin5' (b:=num (w64 p.copy.length) 4++p.copy++num (w64 p.text.size) 4++bytesL p.text) (by simp[bytesL,num_len];omega) (by simp[bytesL,Function.comp_def,u8]) rfl
end Gp
namespace Gp
def pvL (l:List Int):List Int:=l.flatMap fun x=>num (w64 x) 4
theorem pvL_len (l:List Int):(pvL l).length=4*l.length:=by
 induction l with
 |nil=>rfl
 |cons x l ih=>simp only[pvL,List.flatMap_cons,List.length_append,num_len]at*;simp only[ih,List.length_cons];show 4+_=_;omega
theorem pvL_take (l:List Int)(i:Nat)(h:i<l.length):pvL (l.take (i+1))=pvL (l.take i)++num (w64 (l.getD i 0)) 4:=by
 rw[List.take_succ_eq_append_getElem h,pvL,List.flatMap_append]
 simp[pvL,List.getD_eq_getElem?_getD,List.getElem?_eq_getElem h]
def rs73 (p:Pdu):List Int:=num (w64 p.path.cust) 4++pvL p.path.provs
def b73 (p:Pdu)(i:Nat):List Int:=num (w64 p.path.cust) 4++pvL (p.path.provs.take i)
def I73 (ls:Nat→Abs.Loc)(p:Pdu)(i:Nat):LState:={t:=[(18,.imm (i64 i)),(17,.imm (i64 p.path.provs.length)),(16,.imm (lu32 p.path.provs)),(1,.ptr 0 0)],s:=[(0,.bbox (ls 0) 92 (.agg [.own 50 (b73 p i).length])),(50,.row 5 1 ((b73 p i).map u8))],m:=27,n:=60}
def E73 (ls:Nat→Abs.Loc)(p:Pdu):LState:={t:=[],s:=[(0,.bbox (ls 0) 92 (.agg [.own 50 (rs73 p).length])),(50,.row 5 1 ((rs73 p).map u8))],m:=27,n:=60}
def fin73 :Exit→Nat→Fin
 |.normal,n=>⟨[(50,59),(n-4,50)],[18,17,16,1],[0,50]⟩
 |_,_=>⟨[],[],[0,50]⟩
def T73r (ls:Nat→Abs.Loc)(p:Pdu)(i:Nat):Tell:=
 (let q0:=IntKind.wrap IntKind.u64 (List.getD p.path.provs i 0);
 Tell.mk (fun x x_1=>false) (fun x x_1=>Orc.no) (fun x=>Tree.fail 1000003 0) (fun x=>0) (fun x=>([],[])) (oget [(61,4,0,Orc.elem (u32 (List.getD p.path.provs i default))),(64,5,3,Orc.callg [0,50] 1 [.ptr 0 0,.imm (u64 q0),.imm (i64 4)] [(92,.agg [.own 1 (List.length (b73 p i++num q0 4))])] [Entry.row 5 1 (List.map u8 (b73 p i++num q0 4))] (.tup []))]) fun x x_1=>Tree.fail 1000003 0)
theorem t73r (ls:Nat→Abs.Loc)(p:Pdu)(i:Nat):levLN prog Proofs.Try.f73 3 (I73 ls p i) (T73r ls p i) fin73=
 (let q0:=IntKind.wrap IntKind.u64 (List.getD p.path.provs i 0);let q1:=b73 p i++num q0 4;
 Tree.br (decide ((↑i:Int)<(↑(List.length p.path.provs):Int))) (.need (0≤(↑i:Int)∧(List.map u32 p.path.provs)[i]?=some (u32 (List.getD p.path.provs i 0))) (.need (ALeL [.ptr 0 0,.imm (u64 q0),.imm (i64 4)] [.ptr 0 0,.imm (u64 q0),.imm (i64 4)]∧GSpec prog 77 [(92,.agg [.own 1 (List.length (b73 p i))])] [(5,1,List.map u8 (b73 p i))] [.ptr 0 0,.imm (u64 q0),.imm (i64 4)] [(92,.agg [.own 1 (List.length q1)])] [Entry.row 5 1 (List.map u8 q1)] (.tup [])) (.done Exit.normal (LState.mk [(18,.imm (i64 (IntKind.wrap IntKind.i64 ((↑i:Int)+1)))),(17,.imm (i64 (↑(List.length p.path.provs)
 :Int))),(16,.imm (lu32 p.path.provs)),(1,.ptr 0 0)] [(0,Entry.bbox (ls 0) 92 (.agg [.own 50 (List.length q1)])),(50,Entry.row 5 1 (List.map u8 q1))] 27 71 [])))) (.done (Exit.exit 0) (LState.mk [] [(0,Entry.bbox (ls 0) 92 (.agg [.own 50 (List.length (b73 p i))])),(50,Entry.row 5 1 (List.map u8 (b73 p i)))] 27 61 []))):=by kernel_rfl
def T73 (ls:Nat→Abs.Loc)(p:Pdu):Tell:=
 (let q0:=IntKind.wrap IntKind.u64 p.path.cust;
 Tell.mk (fun x x_1=>false) (fun x x_1=>Orc.no) (fun x=>Tree.done (Exit.exit 0) (E73 ls p)) (fun x=>0) (fun x=>([18,17,16,1],[0,1,2,3,4,5,6,7,8])) (oget [(2,1,6,Orc.callg [0] 1 [.ptr 0 0,.imm (u64 q0),.imm (i64 4)] [(92,.agg [.own 1 (List.length (num q0 4))])] [Entry.row 5 1 (List.map u8 (num q0 4))] (.tup []))]) fun x x_1=>Tree.done (Exit.exit 0) (E73 ls p))
theorem t73 (ls:Nat→Abs.Loc)(p:Pdu):levG prog Proofs.Try.f73 ls [(92,.agg [.imm (.v (.slice none 0 0))])] [] [.imm (encD p),.ptr 0 0] [(92,.agg [.own 1 (rs73 p).length])] [.row 5 1 ((rs73 p).map u8)] (.tup []) (T73 ls p)=
 (let q0:=IntKind.wrap IntKind.u64 p.path.cust;
 Tree.need (ALeL [.ptr 0 0,.imm (u64 q0),.imm (i64 4)] [.ptr 0 0,.imm (u64 q0),.imm (i64 4)]∧GSpec prog 77 [(92,.agg [.imm nS])] [] [.ptr 0 0,.imm (u64 q0),.imm (i64 4)] [(92,.agg [.own 1 (List.length (num q0 4))])] [Entry.row 5 1 (List.map u8 (num q0 4))] (.tup [])) (.loop 3 (LState.mk [(18,.imm (i64 0)),(17,.imm (i64 (↑(List.length (List.map u32 p.path.provs)):Int))),(16,.imm (lu32 p.path.provs)),(1,.ptr 0 0)] [(0,Entry.bbox (ls 0) 92 (.agg [.own 8 (List.length (num q0 4))])),(1,Entry.box 85 (.imm (encD p))),(8,Entry.row 5 1 (List.map u8 (num q0 4)))] 27 16 []) (.done (Exit.exit 0) (E73 ls
 p)) (.need ([(ls 0,92,AVal.agg [AVal.own 1 (List.length (rs73 p))])]=[(ls 0,92,AVal.agg [AVal.own 1 (List.length (rs73 p))])]∧ELeL [Entry.row 5 1 (List.map u8 (rs73 p))] [Entry.row 5 1 (List.map u8 (rs73 p))]∧ALe (.tup []) (.tup [])) (.done Exit.ret lnil)))):=by kernel_rfl
theorem l73 (ls:Nat→Abs.Loc)(p:Pdu)(hp:p.path.provs.length≤100000)(σ:LState)(h:LSub σ (I73 ls p 0)):LoopOk prog [] (bodyOf Proofs.Try.f73) 3 σ (.done (.exit 0) (E73 ls p)):=by
 refine LoopOk.countN p.path.provs.length 0 (I73 ls p) (E73 ls p) (T73r ls p) fin73 (by kernel_rfl) h fun i hi=>?_
 rw[t73r]
 have hb:(b73 p i).length=4+4*i:=by simp[b73,num_len,pvL_len];omega
 refine⟨fun h1=>need_sat (elem_need ?_) (need_sat ⟨ALeL.refl _,g77 _ _ _ _ ?_ ?_ ?_ ?_⟩ ?_),fun h1=>?_⟩
 ·(refine⟨by omega,?_,?_⟩<;>(simp only[List.length_map,decide_eq_true_eq,decide_eq_false_iff_not,Int.toNat_natCast]at*<;>omega))
 ·omega
 ·omega
 ·rfl
 ·omega
 ·have hlt:i<p.path.provs.length:=by(simp only[List.length_map,decide_eq_true_eq,decide_eq_false_iff_not,Int.toNat_natCast]at*<;>omega)
  have e:b73 p i++num (IntKind.u64.wrap (p.path.provs.getD i 0)) 4=b73 p (i+1):=by rw[b73,b73,pvL_take _ _ hlt,List.append_assoc]
  rw[e]
  refine⟨hlt,⟨?_,rfl,rfl,rfl,trivial⟩,⟨rfl,rfl,trivial⟩,rfl,rfl,rfl⟩
  exact congrArg (fun n=>AVal.imm (i64 n)) (i64_small hlt (by omega))
 ·have:i=p.path.provs.length:=by(simp only[List.length_map,decide_eq_true_eq,decide_eq_false_iff_not,Int.toNat_natCast]at*<;>omega)
  subst this
  have e:b73 p p.path.provs.length=rs73 p:=by rw[b73,rs73,List.take_length]
  rw[e]
  exact⟨rfl,by omega,trivial,⟨rfl,rfl,trivial⟩,rfl,rfl,rfl⟩
theorem g73 (p:Pdu)(hp:p.path.provs.length≤100000):GSpec prog 73 [(92,.agg [.imm (.v (.slice none 0 0))])] [] [.imm (encD p),.ptr 0 0] [(92,.agg [.own 1 (rs73 p).length])] [.row 5 1 ((rs73 p).map u8)] (.tup []):=by
 refine GSpec.tree Proofs.Try.f73 (fun ls=>T73 ls p) (by kernel_rfl) (by kernel_rfl) rfl fun ls=>?_
 rw[t73]
 refine need_sat ⟨ALeL.refl _,g77' _ _ ?_ ?_⟩ ⟨?_,need_sat ?_ (trivial)⟩
 ·omega
 ·omega
 ·have e:b73 p 0=num (w64 p.path.cust) 4:=by simp[b73,pvL]
  refine .nam (τ:=I73 ls p 0) (.more 60 (show 16≤60 by decide) (.sw 8 50 (show 8<60 by decide) (show 50<60 by decide) (.sub ?_))) (l73 ls p hp _ ?_)
  ·refine⟨⟨rfl,?_,rfl,rfl,trivial⟩,⟨?_,?_,trivial⟩,rfl,rfl,rfl⟩
   ·simp[tl,LState.swap,lrenT];rfl
   ·rw[e];rfl
   ·rw[e];rfl
  ·exact⟨⟨rfl,rfl,rfl,rfl,trivial⟩,⟨rfl,rfl,trivial⟩,rfl,rfl,rfl⟩
 ·exact⟨rfl,.refl _,.refl _⟩
end Gp
