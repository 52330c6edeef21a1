/- Part 5 of the walk and of the plain law of DiffNames. -/
import Derived.Test.YtcccdohpepnfjaaW4
import Derived.Shelf.Spec.SlicesGrow
set_option maxRecDepth 100000
set_option maxHeartbeats 0
set_option linter.unusedVariables false
set_option linter.unusedSimpArgs false
open Go Go.Abs
noncomputable section
namespace Gp
theorem sat_brd {Λ:Nat→LState→Tree→Prop}{Q:Exit→LState→Prop}{p:Prop}{_:Decidable p}{t f:Tree}(h1:p→t.sat Λ Q)(h2:¬p→f.sat Λ Q):(Tree.br (decide p) t f).sat Λ Q:=⟨fun h=>h1 (of_decide_eq_true h),fun h=>h2 (of_decide_eq_false h)⟩
theorem sat_loops {Λ:Nat→LState→Tree→Prop}{Q:Exit→LState→Prop}{b:Bool}{k:Nat}{s1 s2:LState}{L T:Tree}(h:T.sat Λ Q)(h1:b=true→Λ k s1 L)(h2:b=false→Λ k s2 L):(Tree.br b (.loop k s1 L T) (.loop k s2 L T)).sat Λ Q:=⟨fun hb=>⟨h1 hb,h⟩,fun hb=>⟨h2 hb,h⟩⟩
theorem w113n :∀N(l:List Origin)(a m b:Nat),b-a≤N→a<m→m<b→b≤l.length→l.length≤2^61→WSpec prog 113 44 6 (l.map encO) [i64 a,i64 m,i64 b,fnV 35] (.tup []) ((symF ltO a m b l).map encO)
 |0,l,a,m,b,h0,h1,h2,h3,hl=>by omega
 |N+1,l,a,m,b,h0,h1,h2,h3,hl=>by
  have ih:=w113n N
  obtain⟨s,hs⟩:∃s,s=symS ltO a m b l:=⟨_,rfl⟩
  have hb1:(if(a+b)/2<m then(a+b)/2+m-b else a)≤s∧s≤(if(a+b)/2<m then(a+b)/2 else m):=by
   rw[hs];exact bs_bnd _ _ _ _ (by split<;>omega)
  have hm0:IntKind.i64.wrap ((m:Int)-(a:Int))=((m-a:Nat):Int):=i64_sub (by omega) (by omega)
  have hm1:IntKind.i64.wrap ((b:Int)-(m:Int))=((b-m:Nat):Int):=i64_sub (by omega) (by omega)
  have hmid:=i64_half (i:=a) (j:=b) (by omega)
  have hn:IntKind.i64.wrap ((((a+b)/2:Nat):Int)+(m:Int))=(((a+b)/2+m:Nat):Int):=i64_add (by omega)
  have hq:IntKind.i64.wrap ((((a+b)/2+m:Nat):Int)-1)=(((a+b)/2+m-1:Nat):Int):=by rw[IntWalk.i64_in _ (by omega)];omega
  have s1:a≤s:=by have:=hb1.1;split at this<;>omega
  have s2:s≤m:=by have:=hb1.2;split at this<;>omega
  have s3:s≤(a+b)/2:=by have:=hb1.2;split at this<;>omega
  have e2:(a+b)/2+m-s≤b:=by have:=hb1.1;split at this<;>omega
  have he:IntKind.i64.wrap ((((a+b)/2+m:Nat):Int)-(s:Int))=(((a+b)/2+m-s:Nat):Int):=i64_sub (by omega) (by omega)
  refine WSpec.tree Proofs.Try.f113 (fun l0=>T113 l0 a m b (bs (fun h=>ltO (l.getD h default) (l.getD a default)) (b-m) m b) (bs (fun h=>!ltO (l.getD m default) (l.getD h default)) (m-a) a m) ((a+b)/2+m) ((a+b)/2) s l
   (bubU a l (bs (fun h=>ltO (l.getD h default) (l.getD a default)) (b-m) m b-1-a)) (bubD m l (m-bs (fun h=>!ltO (l.getD m default) (l.getD h default)) (m-a) a m))) (by kernel_rfl) (by kernel_rfl) (by kernel_rfl) fun l0=>?_
  rw[t113]
  have hfuel:b-a=(b-a-1)+1:=by omega
  refine⟨fun g1=>⟨?_,?_,trivial,fun _=>lretW_ex ?_ (.refl _)⟩,fun g1=>⟨fun g2=>⟨?_,?_,trivial,fun _=>lretW_ex ?_ (.refl _)⟩,fun g2=>⟨by omega,fun _=>?_⟩⟩⟩
  ·exact lA113 l0 a m b (b-m) l (by omega) (by omega) h3 hl (Nat.le_refl _) _ ⟨⟨rfl,rfl,rfl,rfl,by simp[tl],trivial⟩,⟨rfl,trivial⟩,rfl,rfl,rfl⟩
  ·have hbb:=bs_bnd (fun h=>ltO (l.getD h default) (l.getD a default)) (b-m) m b (by omega)
   exact lB113 l0 a _ l (by omega) (by omega) hl _ ⟨⟨rfl,rfl,rfl,trivial⟩,⟨rfl,trivial⟩,rfl,rfl,rfl⟩
  ·have g1:m-a=1:=by rw[hm0]at g1;simp at g1;omega
   rw[symF,hfuel,sym,if_pos g1]
  ·exact lC113 l0 m a m (m-a) l (by omega) (by omega) (by omega) hl (Nat.le_refl _) _ ⟨⟨rfl,rfl,rfl,rfl,by simp[tl],trivial⟩,⟨rfl,trivial⟩,rfl,rfl,rfl⟩
  ·have hbb:=bs_bnd (fun h=>!ltO (l.getD m default) (l.getD h default)) (m-a) a m (by omega)
   exact lD113 l0 m _ l (by omega) (by omega) hl _ ⟨⟨rfl,rfl,rfl,trivial⟩,⟨rfl,trivial⟩,rfl,rfl,rfl⟩
  ·have g1:¬m-a=1:=by rw[hm0]at g1;simp at g1;omega
   have g2:b-m=1:=by rw[hm1]at g2;simp at g2;omega
   rw[symF,hfuel,sym,if_neg g1,if_pos g2]
  ·have g1:¬m-a=1:=by rw[hm0]at g1;simp at g1;omega
   have g2:¬b-m=1:=by rw[hm1]at g2;simp at g2;omega
   have hres:symF ltO a m b l=(if(a+b)/2<(a+b)/2+m-s∧(a+b)/2+m-s<b then symF ltO ((a+b)/2) ((a+b)/2+m-s) b (if a<s∧s<(a+b)/2 then symF ltO a s ((a+b)/2) (symR m s ((a+b)/2+m-s) l)else symR m s ((a+b)/2+m-s) l)else(if a<s∧s<(a+b)/2 then symF ltO a s ((a+b)/2) (symR m s ((a+b)/2+m-s) l)else symR m s ((a+b)/2+m-s) l)):=by
    rw[symF,hfuel,sym,if_neg g1,if_neg g2]
    simp only[←hs]
    have k1:∀x,(if a<s∧s<(a+b)/2 then sym ltO (b-a-1) a s ((a+b)/2) x else x)=(if a<s∧s<(a+b)/2 then symF ltO a s ((a+b)/2) x else x):=fun x=>by
     split
     ·rename_i hc;exact symF_eq _ (by omega) hc.1 hc.2
     ·rfl
    rw[k1]
    split
    ·rename_i hc;exact symF_eq _ (by omega) hc.1 hc.2
    ·rfl
   refine sat_loops ?_ ?_ ?_
   ·simp only[he,Int.toNat_natCast,R113,symR]
    repeat' first
     |refine sat_brd (fun _=>?_) (fun _=>?_)
     |refine⟨⟨?_,ILeL.refl _,?_⟩,fun _=>?_⟩
     |refine⟨trivial,fun _=>lretW_ex ?_ (.refl _)⟩
     |fail
    all_goals try simp only[hres,R113,symR]
    all_goals repeat' split
    all_goals first
     |omega
     |rfl
     |exact w118 l s m _ (by omega) (by omega) (by omega) hl
     |exact List.length_map _
     |(rw[List.length_map,rot_length];done)
     |(rw[List.length_map,symF_length _ (by omega) (by omega) (by omega)];done)
     |(rw[List.length_map,symF_length _ (by omega) (by omega) (by rw[rot_length];omega),rot_length];done)
     |exact ih _ _ _ _ (by omega) (by omega) (by omega) (by omega) (by omega)
     |exact ih _ _ _ _ (by omega) (by omega) (by omega) (by rw[rot_length];omega) (by rw[rot_length];omega)
     |exact ih _ _ _ _ (by omega) (by omega) (by omega) (by rw[symF_length _ (by omega) (by omega) (by omega)];omega) (by rw[symF_length _ (by omega) (by omega) (by omega)];omega)
     |exact ih _ _ _ _ (by omega) (by omega) (by omega) (by rw[symF_length _ (by omega) (by omega) (by rw[rot_length];omega),rot_length];omega) (by rw[symF_length _ (by omega) (by omega) (by rw[rot_length];omega),rot_length];omega)
   ·intro g3
    have g3:(a+b)/2<m:=by have g3:=of_decide_eq_true g3;rw[hmid]at g3;omega
    have hstart:IntKind.i64.wrap ((((a+b)/2+m:Nat):Int)-(b:Int))=(((a+b)/2+m-b:Nat):Int):=i64_sub (by omega) (by omega)
    have hsd:s=bs (fun c=>!ltO (l.getD ((a+b)/2+m-1-c) default) (l.getD c default)) (b-a) ((a+b)/2+m-b) ((a+b)/2):=by rw[hs,symS,if_pos g3,if_pos g3]
    have:=lE113 l0 a m b ((a+b)/2+m-1) ((a+b)/2+m) ((a+b)/2) ((a+b)/2+m-b) ((a+b)/2) (b-a) l (by omega) (by omega) (by omega) (by omega) hl (by omega)
    rw[←hsd]at this
    refine this _ ?_
    simp only[hmid,hn,hq,hstart]
    exact⟨⟨rfl,rfl,rfl,rfl,rfl,rfl,rfl,rfl,rfl,by simp[tl],trivial⟩,⟨rfl,trivial⟩,rfl,rfl,rfl⟩
   ·intro g3
    have g3:¬(a+b)/2<m:=by have g3:=of_decide_eq_false g3;rw[hmid]at g3;omega
    have hsd:s=bs (fun c=>!ltO (l.getD ((a+b)/2+m-1-c) default) (l.getD c default)) (b-a) a m:=by rw[hs,symS,if_neg g3,if_neg g3]
    have:=lE113 l0 a m b ((a+b)/2+m-1) ((a+b)/2+m) ((a+b)/2) a m (b-a) l (by omega) (by omega) (by omega) (by omega) hl (by omega)
    rw[←hsd]at this
    refine this _ ?_
    simp only[hmid,hn,hq]
    exact⟨⟨rfl,rfl,rfl,rfl,rfl,rfl,rfl,rfl,rfl,by simp[tl],trivial⟩,⟨rfl,trivial⟩,rfl,rfl,rfl⟩
theorem w113 (l:List Origin)(a m b:Nat)(h1:a<m)(h2:m<b)(h3:b≤l.length)(hl:l.length≤2^61):WSpec prog 113 44 6 (l.map encO) [i64 a,i64 m,i64 b,fnV 35] (.tup []) ((symF ltO a m b l).map encO):=w113n (b-a) l a m b (Nat.le_refl _) h1 h2 h3 hl
theorem w113' (l:List Origin)(a m b:Int)(h0:0≤a)(h1:a<m)(h2:m<b)(h3:b≤l.length)(hl:l.length≤2^61):WSpec prog 113 44 6 (l.map encO) [i64 a,i64 m,i64 b,fnV 35] (.tup []) ((symF ltO a.toNat m.toNat b.toNat l).map encO):=by
 obtain⟨a,rfl⟩:=Int.eq_ofNat_of_zero_le h0
 obtain⟨m,rfl⟩:=Int.eq_ofNat_of_zero_le (show 0≤m by omega)
 obtain⟨b,rfl⟩:=Int.eq_ofNat_of_zero_le (show 0≤b by omega)
 exact w113 l a m b (by omega) (by omega) (by omega) hl
theorem w115n :∀N(l:List Attest)(a m b:Nat),b-a≤N→a<m→m<b→b≤l.length→l.length≤2^61→WSpec prog 115 47 2 (l.map encT) [i64 a,i64 m,i64 b,fnV 38] (.tup []) ((symF ltT a m b l).map encT)
 |0,l,a,m,b,h0,h1,h2,h3,hl=>by omega
 |N+1,l,a,m,b,h0,h1,h2,h3,hl=>by
  have ih:=w115n N
  obtain⟨s,hs⟩:∃s,s=symS ltT a m b l:=⟨_,rfl⟩
  have hb1:(if(a+b)/2<m then(a+b)/2+m-b else a)≤s∧s≤(if(a+b)/2<m then(a+b)/2 else m):=by
   rw[hs];exact bs_bnd _ _ _ _ (by split<;>omega)
  have hm0:IntKind.i64.wrap ((m:Int)-(a:Int))=((m-a:Nat):Int):=i64_sub (by omega) (by omega)
  have hm1:IntKind.i64.wrap ((b:Int)-(m:Int))=((b-m:Nat):Int):=i64_sub (by omega) (by omega)
  have hmid:=i64_half (i:=a) (j:=b) (by omega)
  have hn:IntKind.i64.wrap ((((a+b)/2:Nat):Int)+(m:Int))=(((a+b)/2+m:Nat):Int):=i64_add (by omega)
  have hq:IntKind.i64.wrap ((((a+b)/2+m:Nat):Int)-1)=(((a+b)/2+m-1:Nat):Int):=by rw[IntWalk.i64_in _ (by omega)];omega
  have s1:a≤s:=by have:=hb1.1;split at this<;>omega
  have s2:s≤m:=by have:=hb1.2;split at this<;>omega
  have s3:s≤(a+b)/2:=by have:=hb1.2;split at this<;>omega
  have e2:(a+b)/2+m-s≤b:=by have:=hb1.1;split at this<;>omega
  have he:IntKind.i64.wrap ((((a+b)/2+m:Nat):Int)-(s:Int))=(((a+b)/2+m-s:Nat):Int):=i64_sub (by omega) (by omega)
  refine WSpec.tree Proofs.Try.f115 (fun l0=>T115 l0 a m b (bs (fun h=>ltT (l.getD h default) (l.getD a default)) (b-m) m b) (bs (fun h=>!ltT (l.getD m default) (l.getD h default)) (m-a) a m) ((a+b)/2+m) ((a+b)/2) s l
   (bubU a l (bs (fun h=>ltT (l.getD h default) (l.getD a default)) (b-m) m b-1-a)) (bubD m l (m-bs (fun h=>!ltT (l.getD m default) (l.getD h default)) (m-a) a m))) (by kernel_rfl) (by kernel_rfl) (by kernel_rfl) fun l0=>?_
  rw[t115]
  have hfuel:b-a=(b-a-1)+1:=by omega
  refine⟨fun g1=>⟨?_,?_,trivial,fun _=>lretW_ex ?_ (.refl _)⟩,fun g1=>⟨fun g2=>⟨?_,?_,trivial,fun _=>lretW_ex ?_ (.refl _)⟩,fun g2=>⟨by omega,fun _=>?_⟩⟩⟩
  ·exact lA115 l0 a m b (b-m) l (by omega) (by omega) h3 hl (Nat.le_refl _) _ ⟨⟨rfl,rfl,rfl,rfl,by simp[tl],trivial⟩,⟨rfl,trivial⟩,rfl,rfl,rfl⟩
  ·have hbb:=bs_bnd (fun h=>ltT (l.getD h default) (l.getD a default)) (b-m) m b (by omega)
   exact lB115 l0 a _ l (by omega) (by omega) hl _ ⟨⟨rfl,rfl,rfl,trivial⟩,⟨rfl,trivial⟩,rfl,rfl,rfl⟩
  ·have g1:m-a=1:=by rw[hm0]at g1;simp at g1;omega
   rw[symF,hfuel,sym,if_pos g1]
  ·exact lC115 l0 m a m (m-a) l (by omega) (by omega) (by omega) hl (Nat.le_refl _) _ ⟨⟨rfl,rfl,rfl,rfl,by simp[tl],trivial⟩,⟨rfl,trivial⟩,rfl,rfl,rfl⟩
  ·have hbb:=bs_bnd (fun h=>!ltT (l.getD m default) (l.getD h default)) (m-a) a m (by omega)
   exact lD115 l0 m _ l (by omega) (by omega) hl _ ⟨⟨rfl,rfl,rfl,trivial⟩,⟨rfl,trivial⟩,rfl,rfl,rfl⟩
  ·have g1:¬m-a=1:=by rw[hm0]at g1;simp at g1;omega
   have g2:b-m=1:=by rw[hm1]at g2;simp at g2;omega
   rw[symF,hfuel,sym,if_neg g1,if_pos g2]
  ·have g1:¬m-a=1:=by rw[hm0]at g1;simp at g1;omega
   have g2:¬b-m=1:=by rw[hm1]at g2;simp at g2;omega
   have hres:symF ltT a m b l=(if(a+b)/2<(a+b)/2+m-s∧(a+b)/2+m-s<b then symF ltT ((a+b)/2) ((a+b)/2+m-s) b (if a<s∧s<(a+b)/2 then symF ltT a s ((a+b)/2) (symR m s ((a+b)/2+m-s) l)else symR m s ((a+b)/2+m-s) l)else(if a<s∧s<(a+b)/2 then symF ltT a s ((a+b)/2) (symR m s ((a+b)/2+m-s) l)else symR m s ((a+b)/2+m-s) l)):=by
    rw[symF,hfuel,sym,if_neg g1,if_neg g2]
    simp only[←hs]
    have k1:∀x,(if a<s∧s<(a+b)/2 then sym ltT (b-a-1) a s ((a+b)/2) x else x)=(if a<s∧s<(a+b)/2 then symF ltT a s ((a+b)/2) x else x):=fun x=>by
     split
     ·rename_i hc;exact symF_eq _ (by omega) hc.1 hc.2
     ·rfl
    rw[k1]
    split
    ·rename_i hc;exact symF_eq _ (by omega) hc.1 hc.2
    ·rfl
   refine sat_loops ?_ ?_ ?_
   ·simp only[he,Int.toNat_natCast,R115,symR]
    repeat' first
     |refine sat_brd (fun _=>?_) (fun _=>?_)
     |refine⟨⟨?_,ILeL.refl _,?_⟩,fun _=>?_⟩
     |refine⟨trivial,fun _=>lretW_ex ?_ (.refl _)⟩
     |fail
    all_goals try simp only[hres,R115,symR]
    all_goals repeat' split
    all_goals first
     |omega
     |rfl
     |exact w119 l s m _ (by omega) (by omega) (by omega) hl
     |exact List.length_map _
     |(rw[List.length_map,rot_length];done)
     |(rw[List.length_map,symF_length _ (by omega) (by omega) (by omega)];done)
     |(rw[List.length_map,symF_length _ (by omega) (by omega) (by rw[rot_length];omega),rot_length];done)
     |exact ih _ _ _ _ (by omega) (by omega) (by omega) (by omega) (by omega)
     |exact ih _ _ _ _ (by omega) (by omega) (by omega) (by rw[rot_length];omega) (by rw[rot_length];omega)
     |exact ih _ _ _ _ (by omega) (by omega) (by omega) (by rw[symF_length _ (by omega) (by omega) (by omega)];omega) (by rw[symF_length _ (by omega) (by omega) (by omega)];omega)
     |exact ih _ _ _ _ (by omega) (by omega) (by omega) (by rw[symF_length _ (by omega) (by omega) (by rw[rot_length];omega),rot_length];omega) (by rw[symF_length _ (by omega) (by omega) (by rw[rot_length];omega),rot_length];omega)
   ·intro g3
    have g3:(a+b)/2<m:=by have g3:=of_decide_eq_true g3;rw[hmid]at g3;omega
    have hstart:IntKind.i64.wrap ((((a+b)/2+m:Nat):Int)-(b:Int))=(((a+b)/2+m-b:Nat):Int):=i64_sub (by omega) (by omega)
    have hsd:s=bs (fun c=>!ltT (l.getD ((a+b)/2+m-1-c) default) (l.getD c default)) (b-a) ((a+b)/2+m-b) ((a+b)/2):=by rw[hs,symS,if_pos g3,if_pos g3]
    have:=lE115 l0 a m b ((a+b)/2+m-1) ((a+b)/2+m) ((a+b)/2) ((a+b)/2+m-b) ((a+b)/2) (b-a) l (by omega) (by omega) (by omega) (by omega) hl (by omega)
    rw[←hsd]at this
    refine this _ ?_
    simp only[hmid,hn,hq,hstart]
    exact⟨⟨rfl,rfl,rfl,rfl,rfl,rfl,rfl,rfl,rfl,by simp[tl],trivial⟩,⟨rfl,trivial⟩,rfl,rfl,rfl⟩
   ·intro g3
    have g3:¬(a+b)/2<m:=by have g3:=of_decide_eq_false g3;rw[hmid]at g3;omega
    have hsd:s=bs (fun c=>!ltT (l.getD ((a+b)/2+m-1-c) default) (l.getD c default)) (b-a) a m:=by rw[hs,symS,if_neg g3,if_neg g3]
    have:=lE115 l0 a m b ((a+b)/2+m-1) ((a+b)/2+m) ((a+b)/2) a m (b-a) l (by omega) (by omega) (by omega) (by omega) hl (by omega)
    rw[←hsd]at this
    refine this _ ?_
    simp only[hmid,hn,hq]
    exact⟨⟨rfl,rfl,rfl,rfl,rfl,rfl,rfl,rfl,rfl,by simp[tl],trivial⟩,⟨rfl,trivial⟩,rfl,rfl,rfl⟩
theorem w115 (l:List Attest)(a m b:Nat)(h1:a<m)(h2:m<b)(h3:b≤l.length)(hl:l.length≤2^61):WSpec prog 115 47 2 (l.map encT) [i64 a,i64 m,i64 b,fnV 38] (.tup []) ((symF ltT a m b l).map encT):=w115n (b-a) l a m b (Nat.le_refl _) h1 h2 h3 hl
theorem w115' (l:List Attest)(a m b:Int)(h0:0≤a)(h1:a<m)(h2:m<b)(h3:b≤l.length)(hl:l.length≤2^61):WSpec prog 115 47 2 (l.map encT) [i64 a,i64 m,i64 b,fnV 38] (.tup []) ((symF ltT a.toNat m.toNat b.toNat l).map encT):=by
 obtain⟨a,rfl⟩:=Int.eq_ofNat_of_zero_le h0
 obtain⟨m,rfl⟩:=Int.eq_ofNat_of_zero_le (show 0≤m by omega)
 obtain⟨b,rfl⟩:=Int.eq_ofNat_of_zero_le (show 0≤b by omega)
 exact w115 l a m b (by omega) (by omega) (by omega) hl
theorem w117n :∀N(l:List RKey)(a m b:Nat),b-a≤N→a<m→m<b→b≤l.length→l.length≤2^61→WSpec prog 117 53 18 (l.map encK) [i64 a,i64 m,i64 b,fnV 41] (.tup []) ((symF ltK a m b l).map encK)
 |0,l,a,m,b,h0,h1,h2,h3,hl=>by omega
 |N+1,l,a,m,b,h0,h1,h2,h3,hl=>by
  have ih:=w117n N
  obtain⟨s,hs⟩:∃s,s=symS ltK a m b l:=⟨_,rfl⟩
  have hb1:(if(a+b)/2<m then(a+b)/2+m-b else a)≤s∧s≤(if(a+b)/2<m then(a+b)/2 else m):=by
   rw[hs];exact bs_bnd _ _ _ _ (by split<;>omega)
  have hm0:IntKind.i64.wrap ((m:Int)-(a:Int))=((m-a:Nat):Int):=i64_sub (by omega) (by omega)
  have hm1:IntKind.i64.wrap ((b:Int)-(m:Int))=((b-m:Nat):Int):=i64_sub (by omega) (by omega)
  have hmid:=i64_half (i:=a) (j:=b) (by omega)
  have hn:IntKind.i64.wrap ((((a+b)/2:Nat):Int)+(m:Int))=(((a+b)/2+m:Nat):Int):=i64_add (by omega)
  have hq:IntKind.i64.wrap ((((a+b)/2+m:Nat):Int)-1)=(((a+b)/2+m-1:Nat):Int):=by rw[IntWalk.i64_in _ (by omega)];omega
  have s1:a≤s:=by have:=hb1.1;split at this<;>omega
  have s2:s≤m:=by have:=hb1.2;split at this<;>omega
  have s3:s≤(a+b)/2:=by have:=hb1.2;split at this<;>omega
  have e2:(a+b)/2+m-s≤b:=by have:=hb1.1;split at this<;>omega
  have he:IntKind.i64.wrap ((((a+b)/2+m:Nat):Int)-(s:Int))=(((a+b)/2+m-s:Nat):Int):=i64_sub (by omega) (by omega)
  refine WSpec.tree Proofs.Try.f117 (fun l0=>T117 l0 a m b (bs (fun h=>ltK (l.getD h default) (l.getD a default)) (b-m) m b) (bs (fun h=>!ltK (l.getD m default) (l.getD h default)) (m-a) a m) ((a+b)/2+m) ((a+b)/2) s l
   (bubU a l (bs (fun h=>ltK (l.getD h default) (l.getD a default)) (b-m) m b-1-a)) (bubD m l (m-bs (fun h=>!ltK (l.getD m default) (l.getD h default)) (m-a) a m))) (by kernel_rfl) (by kernel_rfl) (by kernel_rfl) fun l0=>?_
  rw[t117]
  have hfuel:b-a=(b-a-1)+1:=by omega
  refine⟨fun g1=>⟨?_,?_,trivial,fun _=>lretW_ex ?_ (.refl _)⟩,fun g1=>⟨fun g2=>⟨?_,?_,trivial,fun _=>lretW_ex ?_ (.refl _)⟩,fun g2=>⟨by omega,fun _=>?_⟩⟩⟩
  ·exact lA117 l0 a m b (b-m) l (by omega) (by omega) h3 hl (Nat.le_refl _) _ ⟨⟨rfl,rfl,rfl,rfl,by simp[tl],trivial⟩,⟨rfl,trivial⟩,rfl,rfl,rfl⟩
  ·have hbb:=bs_bnd (fun h=>ltK (l.getD h default) (l.getD a default)) (b-m) m b (by omega)
   exact lB117 l0 a _ l (by omega) (by omega) hl _ ⟨⟨rfl,rfl,rfl,trivial⟩,⟨rfl,trivial⟩,rfl,rfl,rfl⟩
  ·have g1:m-a=1:=by rw[hm0]at g1;simp at g1;omega
   rw[symF,hfuel,sym,if_pos g1]
  ·exact lC117 l0 m a m (m-a) l (by omega) (by omega) (by omega) hl (Nat.le_refl _) _ ⟨⟨rfl,rfl,rfl,rfl,by simp[tl],trivial⟩,⟨rfl,trivial⟩,rfl,rfl,rfl⟩
  ·have hbb:=bs_bnd (fun h=>!ltK (l.getD m default) (l.getD h default)) (m-a) a m (by omega)
   exact lD117 l0 m _ l (by omega) (by omega) hl _ ⟨⟨rfl,rfl,rfl,trivial⟩,⟨rfl,trivial⟩,rfl,rfl,rfl⟩
  ·have g1:¬m-a=1:=by rw[hm0]at g1;simp at g1;omega
   have g2:b-m=1:=by rw[hm1]at g2;simp at g2;omega
   rw[symF,hfuel,sym,if_neg g1,if_pos g2]
  ·have g1:¬m-a=1:=by rw[hm0]at g1;simp at g1;omega
   have g2:¬b-m=1:=by rw[hm1]at g2;simp at g2;omega
   have hres:symF ltK a m b l=(if(a+b)/2<(a+b)/2+m-s∧(a+b)/2+m-s<b then symF ltK ((a+b)/2) ((a+b)/2+m-s) b (if a<s∧s<(a+b)/2 then symF ltK a s ((a+b)/2) (symR m s ((a+b)/2+m-s) l)else symR m s ((a+b)/2+m-s) l)else(if a<s∧s<(a+b)/2 then symF ltK a s ((a+b)/2) (symR m s ((a+b)/2+m-s) l)else symR m s ((a+b)/2+m-s) l)):=by
    rw[symF,hfuel,sym,if_neg g1,if_neg g2]
    simp only[←hs]
    have k1:∀x,(if a<s∧s<(a+b)/2 then sym ltK (b-a-1) a s ((a+b)/2) x else x)=(if a<s∧s<(a+b)/2 then symF ltK a s ((a+b)/2) x else x):=fun x=>by
     split
     ·rename_i hc;exact symF_eq _ (by omega) hc.1 hc.2
     ·rfl
    rw[k1]
    split
    ·rename_i hc;exact symF_eq _ (by omega) hc.1 hc.2
    ·rfl
   refine sat_loops ?_ ?_ ?_
   ·simp only[he,Int.toNat_natCast,R117,symR]
    repeat' first
     |refine sat_brd (fun _=>?_) (fun _=>?_)
     |refine⟨⟨?_,ILeL.refl _,?_⟩,fun _=>?_⟩
     |refine⟨trivial,fun _=>lretW_ex ?_ (.refl _)⟩
     |fail
    all_goals try simp only[hres,R117,symR]
    all_goals repeat' split
    all_goals first
     |omega
     |rfl
     |exact w120 l s m _ (by omega) (by omega) (by omega) hl
     |exact List.length_map _
     |(rw[List.length_map,rot_length];done)
     |(rw[List.length_map,symF_length _ (by omega) (by omega) (by omega)];done)
     |(rw[List.length_map,symF_length _ (by omega) (by omega) (by rw[rot_length];omega),rot_length];done)
     |exact ih _ _ _ _ (by omega) (by omega) (by omega) (by omega) (by omega)
     |exact ih _ _ _ _ (by omega) (by omega) (by omega) (by rw[rot_length];omega) (by rw[rot_length];omega)
     |exact ih _ _ _ _ (by omega) (by omega) (by omega) (by rw[symF_length _ (by omega) (by omega) (by omega)];omega) (by rw[symF_length _ (by omega) (by omega) (by omega)];omega)
     |exact ih _ _ _ _ (by omega) (by omega) (by omega) (by rw[symF_length _ (by omega) (by omega) (by rw[rot_length];omega),rot_length];omega) (by rw[symF_length _ (by omega) (by omega) (by rw[rot_length];omega),rot_length];omega)
   ·intro g3
    have g3:(a+b)/2<m:=by have g3:=of_decide_eq_true g3;rw[hmid]at g3;omega
    have hstart:IntKind.i64.wrap ((((a+b)/2+m:Nat):Int)-(b:Int))=(((a+b)/2+m-b:Nat):Int):=i64_sub (by omega) (by omega)
    have hsd:s=bs (fun c=>!ltK (l.getD ((a+b)/2+m-1-c) default) (l.getD c default)) (b-a) ((a+b)/2+m-b) ((a+b)/2):=by rw[hs,symS,if_pos g3,if_pos g3]
    have:=lE117 l0 a m b ((a+b)/2+m-1) ((a+b)/2+m) ((a+b)/2) ((a+b)/2+m-b) ((a+b)/2) (b-a) l (by omega) (by omega) (by omega) (by omega) hl (by omega)
    rw[←hsd]at this
    refine this _ ?_
    simp only[hmid,hn,hq,hstart]
    exact⟨⟨rfl,rfl,rfl,rfl,rfl,rfl,rfl,rfl,rfl,by simp[tl],trivial⟩,⟨rfl,trivial⟩,rfl,rfl,rfl⟩
   ·intro g3
    have g3:¬(a+b)/2<m:=by have g3:=of_decide_eq_false g3;rw[hmid]at g3;omega
    have hsd:s=bs (fun c=>!ltK (l.getD ((a+b)/2+m-1-c) default) (l.getD c default)) (b-a) a m:=by rw[hs,symS,if_neg g3,if_neg g3]
    have:=lE117 l0 a m b ((a+b)/2+m-1) ((a+b)/2+m) ((a+b)/2) a m (b-a) l (by omega) (by omega) (by omega) (by omega) hl (by omega)
    rw[←hsd]at this
    refine this _ ?_
    simp only[hmid,hn,hq]
    exact⟨⟨rfl,rfl,rfl,rfl,rfl,rfl,rfl,rfl,rfl,by simp[tl],trivial⟩,⟨rfl,trivial⟩,rfl,rfl,rfl⟩
theorem w117 (l:List RKey)(a m b:Nat)(h1:a<m)(h2:m<b)(h3:b≤l.length)(hl:l.length≤2^61):WSpec prog 117 53 18 (l.map encK) [i64 a,i64 m,i64 b,fnV 41] (.tup []) ((symF ltK a m b l).map encK):=w117n (b-a) l a m b (Nat.le_refl _) h1 h2 h3 hl
theorem w117' (l:List RKey)(a m b:Int)(h0:0≤a)(h1:a<m)(h2:m<b)(h3:b≤l.length)(hl:l.length≤2^61):WSpec prog 117 53 18 (l.map encK) [i64 a,i64 m,i64 b,fnV 41] (.tup []) ((symF ltK a.toNat m.toNat b.toNat l).map encK):=by
 obtain⟨a,rfl⟩:=Int.eq_ofNat_of_zero_le h0
 obtain⟨m,rfl⟩:=Int.eq_ofNat_of_zero_le (show 0≤m by omega)
 obtain⟨b,rfl⟩:=Int.eq_ofNat_of_zero_le (show 0≤b by omega)
 exact w117 l a m b (by omega) (by omega) (by omega) hl
end Gp
namespace Gp
def IA107 (l0:Abs.Loc)(n a:Nat)(x:List Origin):LState:={t:=[(8,.imm (i64 (a+20:Nat))),(7,.imm (i64 a)),(6,.imm (i64 20)),(2,.imm (fnV 35)),(1,.imm (i64 n)),(0,.own 0 x.length)],s:=[(0,.brow l0 44 6 (x.map encO))],m:=63,n:=1}
def EA107 (l0:Abs.Loc)(n:Nat)(r:Nat×List Origin):LState:={t:=[(7,.imm (i64 r.1)),(6,.imm (i64 20)),(2,.imm (fnV 35)),(1,.imm (i64 n)),(0,.own 0 r.2.length)],s:=[(0,.brow l0 44 6 (r.2.map encO))],m:=63,n:=1}
def finA107 :Exit→Fin
 |.normal=>⟨[],[8,7,6,2,1,0],[0]⟩
 |_=>⟨[],[7,6,2,1,0],[0]⟩
def TA107r (l0:Abs.Loc)(n a:Nat)(x:List Origin):Tell:=
 Tell.mk (fun x x_1=>false) (fun x x_1=>Orc.no) (fun x=>Tree.fail 1000003 0) (fun x=>0) (fun x=>([],[])) (oget [(4,3,4,Orc.callw [i64 (↑a:Int),i64 (↑(a+20):Int),fnV 35] (.tup []) (List.map encO (ins ltO a (a+20) x)))]) fun x x_1=>Tree.fail 1000003 0
theorem tA107r (l0:Abs.Loc)(n a:Nat)(x:List Origin):levL prog Proofs.Try.f107 2 (IA107 l0 n a x) (TA107r l0 n a x) finA107=
 Tree.br (decide ((↑(a+20):Int)≤(↑n:Int))) (.need (List.length (List.map encO x)=List.length x∧ILeL [i64 (↑a:Int),i64 (↑(a+20):Int),fnV 35] [i64 (↑a:Int),i64 (↑(a+20):Int),fnV 35]∧WSpec prog 112 44 6 (List.map encO x) [i64 (↑a:Int),i64 (↑(a+20):Int),fnV 35] (.tup []) (List.map encO (ins ltO a (a+20) x))) (.done Exit.normal (LState.mk [(8,.imm (i64 (IntKind.wrap IntKind.i64 ((↑(a+20):Int)+20)))),(7,.imm (i64 (↑(a+20):Int))),(6,.imm (i64 20)),(2,.imm (fnV 35)),(1,.imm (i64 (↑n:Int))),(0,.own 0 (List.length x))] [(0,Entry.brow l0 44 6 (List.map encO
 (ins ltO a (a+20) x)))] 63 15 []))) (.done (Exit.exit 0) (LState.mk [(7,.imm (i64 (↑a:Int))),(6,.imm (i64 20)),(2,.imm (fnV 35)),(1,.imm (i64 (↑n:Int))),(0,.own 0 (List.length x))] [(0,Entry.brow l0 44 6 (List.map encO x))] 63 4 [])):=by kernel_rfl
def IB107 (l0:Abs.Loc)(n s a:Nat)(x:List Origin):LState:={t:=[(8,.imm (i64 (a+2*s:Nat))),(7,.imm (i64 a)),(6,.imm (i64 s)),(2,.imm (fnV 35)),(1,.imm (i64 n)),(0,.own 0 x.length)],s:=[(0,.brow l0 44 6 (x.map encO))],m:=63,n:=1}
def EB107 (l0:Abs.Loc)(n s:Nat)(r:Nat×List Origin):LState:={t:=[(7,.imm (i64 r.1)),(6,.imm (i64 s)),(2,.imm (fnV 35)),(1,.imm (i64 n)),(0,.own 0 r.2.length)],s:=[(0,.brow l0 44 6 (r.2.map encO))],m:=63,n:=1}
def TB107r (l0:Abs.Loc)(n s a:Nat)(x:List Origin):Tell:=
 Tell.mk (fun x x_1=>false) (fun x x_1=>Orc.no) (fun x=>Tree.fail 1000003 0) (fun x=>0) (fun x=>([],[])) (oget [(4,10,7,Orc.callw [i64 (↑a:Int),i64 (IntKind.wrap IntKind.i64 ((↑a:Int)+(↑s:Int))),i64 (↑(a+2*s):Int),fnV 35] (.tup []) (List.map encO (symF ltO (Int.toNat (↑a:Int)) (Int.toNat (IntKind.wrap IntKind.i64 ((↑a:Int)+(↑s:Int)))) (Int.toNat (↑(a+2*s):Int)) x)))]) fun x x_1=>Tree.fail 1000003 0
theorem tB107r (l0:Abs.Loc)(n s a:Nat)(x:List Origin):levL prog Proofs.Try.f107 9 (IB107 l0 n s a x) (TB107r l0 n s a x) finA107=
 Tree.br (decide ((↑(a+2*s):Int)≤(↑n:Int))) (.need (List.length (List.map encO x)=List.length x∧ILeL [i64 (↑a:Int),i64 (IntKind.wrap IntKind.i64 ((↑a:Int)+(↑s:Int))),i64 (↑(a+2*s):Int),fnV 35] [i64 (↑a:Int),i64 (IntKind.wrap IntKind.i64 ((↑a:Int)+(↑s:Int))),i64 (↑(a+2*s):Int),fnV 35]∧WSpec prog 113 44 6 (List.map encO x) [i64 (↑a:Int),i64 (IntKind.wrap IntKind.i64 ((↑a:Int)+(↑s:Int))),i64 (↑(a+2*s):Int),fnV 35] (.tup []) (List.map encO (symF ltO a (Int.toNat (IntKind.wrap IntKind.i64 ((↑a:Int)+(↑s:Int)))) (a+2*s) x))) (.done
 Exit.normal (LState.mk [(8,.imm (i64 (IntKind.wrap IntKind.i64 ((↑(a+2*s):Int)+IntKind.wrap IntKind.i64 (2*(↑s:Int)))))),(7,.imm (i64 (↑(a+2*s):Int))),(6,.imm (i64 (↑s:Int))),(2,.imm (fnV 35)),(1,.imm (i64 (↑n:Int))),(0,.own 0 (List.length x))] [(0,Entry.brow l0 44 6 (List.map encO (symF ltO a (Int.toNat (IntKind.wrap IntKind.i64 ((↑a:Int)+(↑s:Int)))) (a+2*s) x)))] 63 19 []))) (.done (Exit.exit 4) (LState.mk [(7,.imm (i64 (↑a:Int))),(6,.imm (i64 (↑s:Int))),(2,.imm (fnV 35)),(1,.imm (i64 (↑n:Int))),(0,.own 0 (List.length x))] [(0,Entry.brow l0 44 6 (List.map
 encO x))] 63 4 [])):=by kernel_rfl
def IC107 (l0:Abs.Loc)(n s:Nat)(x:List Origin):LState:={t:=[(6,.imm (i64 s)),(2,.imm (fnV 35)),(1,.imm (i64 n)),(0,.own 0 x.length)],s:=[(0,.brow l0 44 6 (x.map encO))],m:=63,n:=1}
def EC107 (l0:Abs.Loc)(x:List Origin):LState:={t:=[],s:=[(0,.brow l0 44 6 (x.map encO))],m:=63,n:=1}
def finC107 :Exit→Fin
 |.normal=>⟨[],[6,2,1,0],[0]⟩
 |_=>⟨[],[],[0]⟩
def TC107r (l0:Abs.Loc)(n s:Nat)(x:List Origin)(r:Nat×List Origin):Tell:=
 Tell.mk (fun x x_1=>false) (fun x x_1=>Orc.no) (fun x=>Tree.done (Exit.exit 4) (EB107 l0 n s r)) (fun x=>0) (fun x=>([8,7,6,2,1,0],[0])) (oget [(8,15,5,Orc.callw [i64 (↑r.fst:Int),i64 (IntKind.wrap IntKind.i64 ((↑r.fst:Int)+(↑s:Int))),i64 (↑n:Int),fnV 35] (.tup []) (List.map encO (symF ltO (Int.toNat (↑r.fst:Int)) (Int.toNat (IntKind.wrap IntKind.i64 ((↑r.fst:Int)+(↑s:Int)))) (Int.toNat (↑n:Int)) r.snd)))]) fun x x_1=>Tree.done (Exit.exit 4) (EB107 l0 n s r)
theorem tC107r (l0:Abs.Loc)(n s:Nat)(x:List Origin)(r:Nat×List Origin):levL prog Proofs.Try.f107 7 (IC107 l0 n s x) (TC107r l0 n s x r) finC107=
 Tree.br (decide ((↑s:Int)<(↑n:Int))) (.loop 9 (LState.mk [(8,.imm (i64 (IntKind.wrap IntKind.i64 (2*(↑s:Int))))),(7,.imm (i64 0)),(6,.imm (i64 (↑s:Int))),(2,.imm (fnV 35)),(1,.imm (i64 (↑n:Int))),(0,.own 0 (List.length x))] [(0,Entry.brow l0 44 6 (List.map encO x))] 63 8 []) (.done (Exit.exit 4) (EB107 l0 n s r)) (.br (decide (IntKind.wrap IntKind.i64 ((↑r.fst:Int)+(↑s:Int))<(↑n:Int))) (.need (List.length (List.map encO r.snd)=List.length r.snd∧ILeL [i64 (↑r.fst:Int),i64 (IntKind.wrap IntKind.i64 ((↑r.fst:Int)+(↑s:Int))),i64 (↑n:Int),fnV 35] [i64 (↑r.fst:
 Int),i64 (IntKind.wrap IntKind.i64 ((↑r.fst:Int)+(↑s:Int))),i64 (↑n:Int),fnV 35]∧WSpec prog 113 44 6 (List.map encO r.snd) [i64 (↑r.fst:Int),i64 (IntKind.wrap IntKind.i64 ((↑r.fst:Int)+(↑s:Int))),i64 (↑n:Int),fnV 35] (.tup []) (List.map encO (symF ltO r.fst (Int.toNat (IntKind.wrap IntKind.i64 ((↑r.fst:Int)+(↑s:Int)))) n r.snd))) (.done Exit.normal (LState.mk [(6,.imm (i64 (IntKind.wrap IntKind.i64 ((↑s:Int)*2)))),(2,.imm (fnV 35)),(1,.imm (i64 (↑n:Int))),(0,.own 0 (List.length r.snd))] [(0,Entry.brow l0 44 6 (List.map encO (symF ltO r.fst (Int.toNat
 (IntKind.wrap IntKind.i64 ((↑r.fst:Int)+(↑s:Int)))) n r.snd)))] 63 17 []))) (.done Exit.normal (LState.mk [(6,.imm (i64 (IntKind.wrap IntKind.i64 ((↑s:Int)*2)))),(2,.imm (fnV 35)),(1,.imm (i64 (↑n:Int))),(0,.own 0 (List.length r.snd))] [(0,Entry.brow l0 44 6 (List.map encO r.snd))] 63 11 [])))) (.done (Exit.exit 2) (LState.mk [] [(0,Entry.brow l0 44 6 (List.map encO x))] 63 4 [])):=by kernel_rfl
def T107 (l0:Abs.Loc)(n:Nat)(l:List Origin)(r:Nat×List Origin)(y:List Origin):Tell:=
 Tell.mk (fun x x_1=>false) (fun x x_1=>Orc.no) (fun k=>match k with|2=>Tree.done (Exit.exit 0) (EA107 l0 n r)|x=>Tree.done (Exit.exit 2) (EC107 l0 y)) (fun x=>0) (fun k=>match k with|2=>([8,7,6,2,1,0],[0])|x=>([6,2,1,0],[0])) (oget [(1,6,4,Orc.callw [i64 (↑r.fst:Int),i64 (↑n:Int),fnV 35] (.tup []) (List.map encO (ins ltO r.fst n r.snd)))]) fun x k=>match k with|2=>Tree.done (Exit.exit 0) (EA107 l0 n r)|x=>Tree.done (Exit.exit 2) (EC107 l0 y)
theorem t107 (l0:Abs.Loc)(n:Nat)(l:List Origin)(r:Nat×List Origin)(y:List Origin):levW prog Proofs.Try.f107 l0 44 6 (l.map encO) [i64 n,fnV 35] (T107 l0 n l r y)=
 Tree.loop 2 (LState.mk [(8,.imm (i64 20)),(7,.imm (i64 0)),(6,.imm (i64 20)),(2,.imm (fnV 35)),(1,.imm (i64 (↑n:Int))),(0,.own 0 (List.length (List.map encO l)))] [(0,Entry.brow l0 44 6 (List.map encO l))] 63 5 []) (.done (Exit.exit 0) (EA107 l0 n r)) (.need (List.length (List.map encO r.snd)=List.length r.snd∧ILeL [i64 (↑r.fst:Int),i64 (↑n:Int),fnV 35] [i64 (↑r.fst:Int),i64 (↑n:Int),fnV 35]∧WSpec prog 112 44 6 (List.map encO r.snd) [i64 (↑r.fst:Int),i64 (↑n:Int),fnV 35] (.tup []) (List.map encO (ins ltO r.fst n r.snd))) (.loop 7 (LState.mk [(6,.imm (i64 20)),(2,.imm (fnV
 35)),(1,.imm (i64 (↑n:Int))),(0,.own 0 (List.length r.snd))] [(0,Entry.brow l0 44 6 (List.map encO (ins ltO r.fst n r.snd)))] 63 6 []) (.done (Exit.exit 2) (EC107 l0 y)) (.need (eqs []) (.done Exit.ret (lretW l0 44 6 (.tup []) (List.map encO y)))))):=by kernel_rfl
theorem lA107 (l0:Abs.Loc)(n f:Nat)(l:List Origin)(hf:n<f)(hn:n≤l.length)(hl:l.length≤2^60)(σ:LState)(h:LSub σ (IA107 l0 n 0 l)):LoopOk prog [] (bodyOf Proofs.Try.f107) 2 σ (.done (.exit 0) (EA107 l0 n (blkE ltO n f 0 l))):=by
 refine LoopOk.of_levL (γ:={g:Nat×Nat×List Origin//g.1≤n∧n<g.1+g.2.1∧g.2.2.length=l.length∧blkE ltO n g.2.1 g.1 g.2.2=blkE ltO n f 0 l})
  (fun g=>TA107r l0 n g.1.1 g.1.2.2) finA107 (fun g=>IA107 l0 n g.1.1 g.1.2.2) (fun g=>n-g.1.1) ⟨(0,f,l),by simp,by simpa using hf,rfl,rfl⟩ (by kernel_rfl) h ?_
 rintro⟨⟨a,f',x⟩,q1,q2,q3,q4⟩
 simp only at q1 q2 q3 q4
 simp only[]
 rw[tA107r]
 cases f' with
 |zero=>omega
 |succ f'=>
  rw[blkE]at q4
  refine⟨fun h1=>need_sat ⟨(by simp),ILeL.refl _,w112 _ _ _ ?_ ?_ ?_⟩ ?_,fun h1=>?_⟩
  ·simp at h1;omega
  ·omega
  ·omega
  ·have hc:a+20≤n:=by simp at h1;omega
   rw[if_pos hc]at q4
   have hlen:=ins_length ltO a (a+20) x (by omega)
   have e5:IntKind.i64.wrap (((a+20:Nat):Int)+20)=((a+20+20:Nat):Int):=by rw[IntWalk.i64_in _ (by omega)];omega
   exact⟨⟨(a+20,f',ins ltO a (a+20) x),hc,by simp only;omega,by simp only;omega,q4⟩,by simp only;omega,⟨congrArg (fun n=>AVal.imm (i64 n)) e5,rfl,rfl,rfl,rfl,congrArg (AVal.own 0) hlen.symm,trivial⟩,⟨rfl,trivial⟩,rfl,rfl,rfl⟩
  ·have hc:¬a+20≤n:=by simp at h1;omega
   rw[if_neg hc]at q4
   rw[←q4]
   exact⟨rfl,⟨rfl,rfl,rfl,rfl,rfl,trivial⟩,⟨rfl,trivial⟩,rfl,rfl,rfl⟩
theorem lB107 (l0:Abs.Loc)(n s f:Nat)(l:List Origin)(hs:0<s)(hsn:s<n)(hf:n<f)(hn:n≤l.length)(hl:l.length≤2^60)(σ:LState)(h:LSub σ (IB107 l0 n s 0 l)):LoopOk prog [] (bodyOf Proofs.Try.f107) 9 σ (.done (.exit 4) (EB107 l0 n s (mrgE ltO n s f 0 l))):=by
 refine LoopOk.of_levL (γ:={g:Nat×Nat×List Origin//g.1≤n∧n<g.1+g.2.1∧g.2.2.length=l.length∧mrgE ltO n s g.2.1 g.1 g.2.2=mrgE ltO n s f 0 l})
  (fun g=>TB107r l0 n s g.1.1 g.1.2.2) finA107 (fun g=>IB107 l0 n s g.1.1 g.1.2.2) (fun g=>n-g.1.1) ⟨(0,f,l),by simp,by simpa using hf,rfl,rfl⟩ (by kernel_rfl) h ?_
 rintro⟨⟨a,f',x⟩,q1,q2,q3,q4⟩
 simp only at q1 q2 q3 q4
 simp only[]
 have e1:IntKind.i64.wrap ((a:Int)+(s:Int))=((a+s:Nat):Int):=i64_add (by omega)
 have e2:IntKind.i64.wrap ((2:Int)*(s:Int))=((2*s:Nat):Int):=by rw[IntWalk.i64_in _ (by omega)];omega
 rw[tB107r]
 cases f' with
 |zero=>omega
 |succ f'=>
  rw[mrgE]at q4
  refine⟨fun h1=>need_sat ⟨(by simp),ILeL.refl _,w113' _ _ _ _ ?_ ?_ ?_ ?_ ?_⟩ ?_,fun h1=>?_⟩
  ·omega
  ·rw[e1];omega
  ·rw[e1];omega
  ·simp at h1;omega
  ·omega
  ·have hc:a+2*s≤n:=by simp at h1;omega
   rw[if_pos hc]at q4
   have hlen:=symF_length ltO (l:=x) (show a<a+s by omega) (show a+s<a+2*s by omega) (by omega)
   simp only[e1,e2,Int.toNat_natCast]
   refine⟨⟨(a+2*s,f',symF ltO a (a+s) (a+2*s) x),hc,by simp only;omega,by simp only;omega,q4⟩,by simp only;omega,⟨?_,rfl,rfl,rfl,rfl,congrArg (AVal.own 0) hlen.symm,trivial⟩,⟨rfl,trivial⟩,rfl,rfl,rfl⟩
   exact congrArg (fun n=>AVal.imm (i64 n)) (i64_add (by omega))
  ·have hc:¬a+2*s≤n:=by simp at h1;omega
   rw[if_neg hc]at q4
   rw[←q4]
   exact⟨rfl,⟨rfl,rfl,rfl,rfl,rfl,trivial⟩,⟨rfl,trivial⟩,rfl,rfl,rfl⟩
theorem lC107 (l0:Abs.Loc)(n s f:Nat)(l:List Origin)(hs:0<s)(hs2:s≤2^60)(hf:n<s+f)(hn:n=l.length)(hl:l.length≤2^59)(σ:LState)(h:LSub σ (IC107 l0 n s l)):LoopOk prog [] (bodyOf Proofs.Try.f107) 7 σ (.done (.exit 2) (EC107 l0 (mrgs ltO n f s l))):=by
 refine LoopOk.of_levL (γ:={g:Nat×Nat×List Origin//0<g.1∧g.1≤2^60∧n<g.1+g.2.1∧g.2.2.length=l.length∧mrgs ltO n g.2.1 g.1 g.2.2=mrgs ltO n f s l})
  (fun g=>TC107r l0 n g.1.1 g.1.2.2 (mrgE ltO n g.1.1 (n+1) 0 g.1.2.2)) finC107 (fun g=>IC107 l0 n g.1.1 g.1.2.2) (fun g=>n-g.1.1) ⟨(s,f,l),hs,hs2,hf,rfl,rfl⟩ (by kernel_rfl) h ?_
 rintro⟨⟨s,f',x⟩,q0,q1,q2,q3,q4⟩
 simp only at q0 q1 q2 q3 q4
 simp only[]
 have e2:IntKind.i64.wrap ((2:Int)*(s:Int))=((2*s:Nat):Int):=by rw[IntWalk.i64_in _ (by omega)];omega
 have e3:IntKind.i64.wrap ((s:Int)*(2:Int))=((2*s:Nat):Int):=by rw[IntWalk.i64_in _ (by omega)];omega
 have hE:=mrgE_spec ltO n s q0 (n+1) 0 x (by omega) (by omega) (by omega)
 have hlB:=lB107 l0 n s (n+1) x q0
 have hlen:=mrg_length ltO n s q0 (l:=x) (by omega)
 generalize hr:mrgE ltO n s (n+1) 0 x=r at*
 obtain⟨r1,r2,r3⟩:=hE
 have e1:IntKind.i64.wrap ((r.1:Int)+(s:Int))=((r.1+s:Nat):Int):=i64_add (by omega)
 rw[tC107r]
 refine⟨fun h1=>⟨?_,⟨fun h2=>need_sat ⟨(by simp),ILeL.refl _,w113' _ _ _ _ ?_ ?_ ?_ ?_ ?_⟩ ?_,fun h2=>?_⟩⟩,fun h1=>?_⟩
 ·have hc:s<n:=by simp at h1;omega
  refine hlB hc (by omega) (by omega) (by omega) _ ⟨⟨?_,rfl,rfl,rfl,rfl,rfl,trivial⟩,⟨rfl,trivial⟩,rfl,rfl,rfl⟩
  exact congrArg (fun n=>AVal.imm (i64 n)) (e2.trans (by omega))
 ·omega
 ·rw[e1];omega
 ·rw[e1]at h2⊢;simp at h2;omega
 ·omega
 ·omega
 ·have hc:s<n:=by simp at h1;omega
  have hd:r.1+s<n:=by rw[e1]at h2;simp at h2;omega
  cases f' with
  |zero=>omega
  |succ f'=>
   rw[mrgs,if_pos hc]at q4
   rw[if_pos hd]at r3
   simp only[e1,e3,Int.toNat_natCast,r3]
   exact⟨⟨(2*s,f',mrg ltO n s (n+1) 0 x),by simp only;omega,by simp only;omega,by simp only;omega,by simp only;omega,q4⟩,by simp only;omega,⟨rfl,rfl,rfl,congrArg (AVal.own 0) (by rw[hlen,r2]),trivial⟩,⟨rfl,trivial⟩,rfl,rfl,rfl⟩
 ·have hc:s<n:=by simp at h1;omega
  have hd:¬r.1+s<n:=by rw[e1]at h2;simp at h2;omega
  cases f' with
  |zero=>omega
  |succ f'=>
   rw[mrgs,if_pos hc]at q4
   rw[if_neg hd]at r3
   simp only[e3,r3]
   exact⟨⟨(2*s,f',mrg ltO n s (n+1) 0 x),by simp only;omega,by simp only;omega,by simp only;omega,by simp only;omega,q4⟩,by simp only;omega,⟨rfl,rfl,rfl,rfl,trivial⟩,⟨rfl,trivial⟩,rfl,rfl,rfl⟩
 ·have hc:¬s<n:=by simp at h1;omega
  have:mrgs ltO n f' s x=x:=by
   cases f' with
   |zero=>rfl
   |succ f'=>rw[mrgs,if_neg hc]
  rw[this]at q4
  rw[←q4]
  exact⟨rfl,⟨trivial,⟨rfl,trivial⟩,rfl,rfl,rfl⟩⟩
theorem w107 (l:List Origin)(hl:l.length≤2^59):WSpec prog 107 44 6 (l.map encO) [i64 l.length,fnV 35] (.tup []) ((sorted ltO l).map encO):=by
 have hE:=blkE_spec ltO l.length (l.length+1) 0 l (Nat.le_refl _) (by omega) (by omega)
 have hA:=fun l0=>lA107 l0 l.length (l.length+1) l (by omega) (Nat.le_refl _) (by omega)
 refine WSpec.tree Proofs.Try.f107 (fun l0=>T107 l0 l.length l (blkE ltO l.length (l.length+1) 0 l) (sorted ltO l)) (by kernel_rfl) (by kernel_rfl) (by kernel_rfl) fun l0=>?_
 have hA:=hA l0
 generalize blkE ltO l.length (l.length+1) 0 l=r at*
 obtain⟨r1,r2,r3⟩:=hE
 rw[t107]
 refine⟨?_,need_sat ⟨(by simp),ILeL.refl _,w112 _ _ _ ?_ ?_ ?_⟩ ⟨?_,need_sat ?_ (lretW_ex ?_ ?_)⟩⟩
 ·exact hA _ ⟨⟨rfl,rfl,rfl,rfl,rfl,by simp[tl],trivial⟩,⟨rfl,trivial⟩,rfl,rfl,rfl⟩
 ·omega
 ·omega
 ·omega
 ·rw[r3]
  refine lC107 l0 l.length 20 (l.length+1) _ (by omega) (by omega) (by omega) ?_ ?_ _ ⟨⟨rfl,rfl,rfl,congrArg (AVal.own 0) ?_,trivial⟩,⟨rfl,trivial⟩,rfl,rfl,rfl⟩
  ·rw[insB_length]
  ·rw[insB_length];exact hl
  ·rw[insB_length,r2]
 ·exact trivial
 ·rfl
 ·exact .refl _
theorem w107' (l:List Origin)(n:Int)(hn:n=l.length)(hl:l.length≤2^59):WSpec prog 107 44 6 (l.map encO) [i64 n,fnV 35] (.tup []) ((sorted ltO l).map encO):=by
 subst hn;exact w107 l hl
def T98 (l0:Abs.Loc)(l:List Origin):Tell:=
 Tell.mk (fun x x_1=>false) (fun x x_1=>Orc.no) (fun x=>Tree.fail 1000003 0) (fun x=>0) (fun x=>([],[])) (oget [(1,0,4,Orc.callw [i64 (↑(List.length (List.map encO l)):Int),fnV 35] (.tup []) (List.map encO (sorted ltO l)))]) fun x x_1=>Tree.fail 1000003 0
theorem t98 (l0:Abs.Loc)(l:List Origin):levW prog Proofs.Try.f98 l0 44 6 (l.map encO) [fnV 35] (T98 l0 l)=
 Tree.need (List.length (List.map encO l)=List.length (List.map encO l)∧ILeL [i64 (↑(List.length (List.map encO l)):Int),fnV 35] [i64 (↑(List.length (List.map encO l)):Int),fnV 35]∧WSpec prog 107 44 6 (List.map encO l) [i64 (↑(List.length (List.map encO l)):Int),fnV 35] (.tup []) (List.map encO (sorted ltO l))) (.need (eqs []) (.done Exit.ret (lretW l0 44 6 (.tup []) (List.map encO (sorted ltO l))))):=by kernel_rfl
theorem w98 (l:List Origin)(hl:l.length≤2^59):WSpec prog 98 44 6 (l.map encO) [fnV 35] (.tup []) ((sorted ltO l).map encO):=by
 refine WSpec.tree Proofs.Try.f98 (fun l0=>T98 l0 l) (by kernel_rfl) (by kernel_rfl) (by kernel_rfl) fun l0=>?_
 rw[t98]
 refine need_sat ⟨(by simp),ILeL.refl _,w107' _ _ ?_ ?_⟩ (need_sat ?_ (lretW_ex ?_ ?_))
 ·simp
 ·exact hl
 ·exact trivial
 ·rfl
 ·exact .refl _
def IA109 (l0:Abs.Loc)(n a:Nat)(x:List Attest):LState:={t:=[(8,.imm (i64 (a+20:Nat))),(7,.imm (i64 a)),(6,.imm (i64 20)),(2,.imm (fnV 38)),(1,.imm (i64 n)),(0,.own 0 x.length)],s:=[(0,.brow l0 47 2 (x.map encT))],m:=63,n:=1}
def EA109 (l0:Abs.Loc)(n:Nat)(r:Nat×List Attest):LState:={t:=[(7,.imm (i64 r.1)),(6,.imm (i64 20)),(2,.imm (fnV 38)),(1,.imm (i64 n)),(0,.own 0 r.2.length)],s:=[(0,.brow l0 47 2 (r.2.map encT))],m:=63,n:=1}
def finA109 :Exit→Fin
 |.normal=>⟨[],[8,7,6,2,1,0],[0]⟩
 |_=>⟨[],[7,6,2,1,0],[0]⟩
def TA109r (l0:Abs.Loc)(n a:Nat)(x:List Attest):Tell:=
 Tell.mk (fun x x_1=>false) (fun x x_1=>Orc.no) (fun x=>Tree.fail 1000003 0) (fun x=>0) (fun x=>([],[])) (oget [(4,3,4,Orc.callw [i64 (↑a:Int),i64 (↑(a+20):Int),fnV 38] (.tup []) (List.map encT (ins ltT a (a+20) x)))]) fun x x_1=>Tree.fail 1000003 0
theorem tA109r (l0:Abs.Loc)(n a:Nat)(x:List Attest):levL prog Proofs.Try.f109 2 (IA109 l0 n a x) (TA109r l0 n a x) finA109=
 Tree.br (decide ((↑(a+20):Int)≤(↑n:Int))) (.need (List.length (List.map encT x)=List.length x∧ILeL [i64 (↑a:Int),i64 (↑(a+20):Int),fnV 38] [i64 (↑a:Int),i64 (↑(a+20):Int),fnV 38]∧WSpec prog 114 47 2 (List.map encT x) [i64 (↑a:Int),i64 (↑(a+20):Int),fnV 38] (.tup []) (List.map encT (ins ltT a (a+20) x))) (.done Exit.normal (LState.mk [(8,.imm (i64 (IntKind.wrap IntKind.i64 ((↑(a+20):Int)+20)))),(7,.imm (i64 (↑(a+20):Int))),(6,.imm (i64 20)),(2,.imm (fnV 38)),(1,.imm (i64 (↑n:Int))),(0,.own 0 (List.length x))] [(0,Entry.brow l0 47 2 (List.map encT
 (ins ltT a (a+20) x)))] 63 15 []))) (.done (Exit.exit 0) (LState.mk [(7,.imm (i64 (↑a:Int))),(6,.imm (i64 20)),(2,.imm (fnV 38)),(1,.imm (i64 (↑n:Int))),(0,.own 0 (List.length x))] [(0,Entry.brow l0 47 2 (List.map encT x))] 63 4 [])):=by kernel_rfl
def IB109 (l0:Abs.Loc)(n s a:Nat)(x:List Attest):LState:={t:=[(8,.imm (i64 (a+2*s:Nat))),(7,.imm (i64 a)),(6,.imm (i64 s)),(2,.imm (fnV 38)),(1,.imm (i64 n)),(0,.own 0 x.length)],s:=[(0,.brow l0 47 2 (x.map encT))],m:=63,n:=1}
def EB109 (l0:Abs.Loc)(n s:Nat)(r:Nat×List Attest):LState:={t:=[(7,.imm (i64 r.1)),(6,.imm (i64 s)),(2,.imm (fnV 38)),(1,.imm (i64 n)),(0,.own 0 r.2.length)],s:=[(0,.brow l0 47 2 (r.2.map encT))],m:=63,n:=1}
def TB109r (l0:Abs.Loc)(n s a:Nat)(x:List Attest):Tell:=
 Tell.mk (fun x x_1=>false) (fun x x_1=>Orc.no) (fun x=>Tree.fail 1000003 0) (fun x=>0) (fun x=>([],[])) (oget [(4,10,7,Orc.callw [i64 (↑a:Int),i64 (IntKind.wrap IntKind.i64 ((↑a:Int)+(↑s:Int))),i64 (↑(a+2*s):Int),fnV 38] (.tup []) (List.map encT (symF ltT (Int.toNat (↑a:Int)) (Int.toNat (IntKind.wrap IntKind.i64 ((↑a:Int)+(↑s:Int)))) (Int.toNat (↑(a+2*s):Int)) x)))]) fun x x_1=>Tree.fail 1000003 0
theorem tB109r (l0:Abs.Loc)(n s a:Nat)(x:List Attest):levL prog Proofs.Try.f109 9 (IB109 l0 n s a x) (TB109r l0 n s a x) finA109=
 Tree.br (decide ((↑(a+2*s):Int)≤(↑n:Int))) (.need (List.length (List.map encT x)=List.length x∧ILeL [i64 (↑a:Int),i64 (IntKind.wrap IntKind.i64 ((↑a:Int)+(↑s:Int))),i64 (↑(a+2*s):Int),fnV 38] [i64 (↑a:Int),i64 (IntKind.wrap IntKind.i64 ((↑a:Int)+(↑s:Int))),i64 (↑(a+2*s):Int),fnV 38]∧WSpec prog 115 47 2 (List.map encT x) [i64 (↑a:Int),i64 (IntKind.wrap IntKind.i64 ((↑a:Int)+(↑s:Int))),i64 (↑(a+2*s):Int),fnV 38] (.tup []) (List.map encT (symF ltT a (Int.toNat (IntKind.wrap IntKind.i64 ((↑a:Int)+(↑s:Int)))) (a+2*s) x))) (.done
 Exit.normal (LState.mk [(8,.imm (i64 (IntKind.wrap IntKind.i64 ((↑(a+2*s):Int)+IntKind.wrap IntKind.i64 (2*(↑s:Int)))))),(7,.imm (i64 (↑(a+2*s):Int))),(6,.imm (i64 (↑s:Int))),(2,.imm (fnV 38)),(1,.imm (i64 (↑n:Int))),(0,.own 0 (List.length x))] [(0,Entry.brow l0 47 2 (List.map encT (symF ltT a (Int.toNat (IntKind.wrap IntKind.i64 ((↑a:Int)+(↑s:Int)))) (a+2*s) x)))] 63 19 []))) (.done (Exit.exit 4) (LState.mk [(7,.imm (i64 (↑a:Int))),(6,.imm (i64 (↑s:Int))),(2,.imm (fnV 38)),(1,.imm (i64 (↑n:Int))),(0,.own 0 (List.length x))] [(0,Entry.brow l0 47 2 (List.map
 encT x))] 63 4 [])):=by kernel_rfl
def IC109 (l0:Abs.Loc)(n s:Nat)(x:List Attest):LState:={t:=[(6,.imm (i64 s)),(2,.imm (fnV 38)),(1,.imm (i64 n)),(0,.own 0 x.length)],s:=[(0,.brow l0 47 2 (x.map encT))],m:=63,n:=1}
def EC109 (l0:Abs.Loc)(x:List Attest):LState:={t:=[],s:=[(0,.brow l0 47 2 (x.map encT))],m:=63,n:=1}
def finC109 :Exit→Fin
 |.normal=>⟨[],[6,2,1,0],[0]⟩
 |_=>⟨[],[],[0]⟩
def TC109r (l0:Abs.Loc)(n s:Nat)(x:List Attest)(r:Nat×List Attest):Tell:=
 Tell.mk (fun x x_1=>false) (fun x x_1=>Orc.no) (fun x=>Tree.done (Exit.exit 4) (EB109 l0 n s r)) (fun x=>0) (fun x=>([8,7,6,2,1,0],[0])) (oget [(8,15,5,Orc.callw [i64 (↑r.fst:Int),i64 (IntKind.wrap IntKind.i64 ((↑r.fst:Int)+(↑s:Int))),i64 (↑n:Int),fnV 38] (.tup []) (List.map encT (symF ltT (Int.toNat (↑r.fst:Int)) (Int.toNat (IntKind.wrap IntKind.i64 ((↑r.fst:Int)+(↑s:Int)))) (Int.toNat (↑n:Int)) r.snd)))]) fun x x_1=>Tree.done (Exit.exit 4) (EB109 l0 n s r)
theorem tC109r (l0:Abs.Loc)(n s:Nat)(x:List Attest)(r:Nat×List Attest):levL prog Proofs.Try.f109 7 (IC109 l0 n s x) (TC109r l0 n s x r) finC109=
 Tree.br (decide ((↑s:Int)<(↑n:Int))) (.loop 9 (LState.mk [(8,.imm (i64 (IntKind.wrap IntKind.i64 (2*(↑s:Int))))),(7,.imm (i64 0)),(6,.imm (i64 (↑s:Int))),(2,.imm (fnV 38)),(1,.imm (i64 (↑n:Int))),(0,.own 0 (List.length x))] [(0,Entry.brow l0 47 2 (List.map encT x))] 63 8 []) (.done (Exit.exit 4) (EB109 l0 n s r)) (.br (decide (IntKind.wrap IntKind.i64 ((↑r.fst:Int)+(↑s:Int))<(↑n:Int))) (.need (List.length (List.map encT r.snd)=List.length r.snd∧ILeL [i64 (↑r.fst:Int),i64 (IntKind.wrap IntKind.i64 ((↑r.fst:Int)+(↑s:Int))),i64 (↑n:Int),fnV 38] [i64 (↑r.fst:
 Int),i64 (IntKind.wrap IntKind.i64 ((↑r.fst:Int)+(↑s:Int))),i64 (↑n:Int),fnV 38]∧WSpec prog 115 47 2 (List.map encT r.snd) [i64 (↑r.fst:Int),i64 (IntKind.wrap IntKind.i64 ((↑r.fst:Int)+(↑s:Int))),i64 (↑n:Int),fnV 38] (.tup []) (List.map encT (symF ltT r.fst (Int.toNat (IntKind.wrap IntKind.i64 ((↑r.fst:Int)+(↑s:Int)))) n r.snd))) (.done Exit.normal (LState.mk [(6,.imm (i64 (IntKind.wrap IntKind.i64 ((↑s:Int)*2)))),(2,.imm (fnV 38)),(1,.imm (i64 (↑n:Int))),(0,.own 0 (List.length r.snd))] [(0,Entry.brow l0 47 2 (List.map encT (symF ltT r.fst (Int.toNat
 (IntKind.wrap IntKind.i64 ((↑r.fst:Int)+(↑s:Int)))) n r.snd)))] 63 17 []))) (.done Exit.normal (LState.mk [(6,.imm (i64 (IntKind.wrap IntKind.i64 ((↑s:Int)*2)))),(2,.imm (fnV 38)),(1,.imm (i64 (↑n:Int))),(0,.own 0 (List.length r.snd))] [(0,Entry.brow l0 47 2 (List.map encT r.snd))] 63 11 [])))) (.done (Exit.exit 2) (LState.mk [] [(0,Entry.brow l0 47 2 (List.map encT x))] 63 4 [])):=by kernel_rfl
def T109 (l0:Abs.Loc)(n:Nat)(l:List Attest)(r:Nat×List Attest)(y:List Attest):Tell:=
 Tell.mk (fun x x_1=>false) (fun x x_1=>Orc.no) (fun k=>match k with|2=>Tree.done (Exit.exit 0) (EA109 l0 n r)|x=>Tree.done (Exit.exit 2) (EC109 l0 y)) (fun x=>0) (fun k=>match k with|2=>([8,7,6,2,1,0],[0])|x=>([6,2,1,0],[0])) (oget [(1,6,4,Orc.callw [i64 (↑r.fst:Int),i64 (↑n:Int),fnV 38] (.tup []) (List.map encT (ins ltT r.fst n r.snd)))]) fun x k=>match k with|2=>Tree.done (Exit.exit 0) (EA109 l0 n r)|x=>Tree.done (Exit.exit 2) (EC109 l0 y)
theorem t109 (l0:Abs.Loc)(n:Nat)(l:List Attest)(r:Nat×List Attest)(y:List Attest):levW prog Proofs.Try.f109 l0 47 2 (l.map encT) [i64 n,fnV 38] (T109 l0 n l r y)=
 Tree.loop 2 (LState.mk [(8,.imm (i64 20)),(7,.imm (i64 0)),(6,.imm (i64 20)),(2,.imm (fnV 38)),(1,.imm (i64 (↑n:Int))),(0,.own 0 (List.length (List.map encT l)))] [(0,Entry.brow l0 47 2 (List.map encT l))] 63 5 []) (.done (Exit.exit 0) (EA109 l0 n r)) (.need (List.length (List.map encT r.snd)=List.length r.snd∧ILeL [i64 (↑r.fst:Int),i64 (↑n:Int),fnV 38] [i64 (↑r.fst:Int),i64 (↑n:Int),fnV 38]∧WSpec prog 114 47 2 (List.map encT r.snd) [i64 (↑r.fst:Int),i64 (↑n:Int),fnV 38] (.tup []) (List.map encT (ins ltT r.fst n r.snd))) (.loop 7 (LState.mk [(6,.imm (i64 20)),(2,.imm (fnV
 38)),(1,.imm (i64 (↑n:Int))),(0,.own 0 (List.length r.snd))] [(0,Entry.brow l0 47 2 (List.map encT (ins ltT r.fst n r.snd)))] 63 6 []) (.done (Exit.exit 2) (EC109 l0 y)) (.need (eqs []) (.done Exit.ret (lretW l0 47 2 (.tup []) (List.map encT y)))))):=by kernel_rfl
theorem lA109 (l0:Abs.Loc)(n f:Nat)(l:List Attest)(hf:n<f)(hn:n≤l.length)(hl:l.length≤2^60)(σ:LState)(h:LSub σ (IA109 l0 n 0 l)):LoopOk prog [] (bodyOf Proofs.Try.f109) 2 σ (.done (.exit 0) (EA109 l0 n (blkE ltT n f 0 l))):=by
 refine LoopOk.of_levL (γ:={g:Nat×Nat×List Attest//g.1≤n∧n<g.1+g.2.1∧g.2.2.length=l.length∧blkE ltT n g.2.1 g.1 g.2.2=blkE ltT n f 0 l})
  (fun g=>TA109r l0 n g.1.1 g.1.2.2) finA109 (fun g=>IA109 l0 n g.1.1 g.1.2.2) (fun g=>n-g.1.1) ⟨(0,f,l),by simp,by simpa using hf,rfl,rfl⟩ (by kernel_rfl) h ?_
 rintro⟨⟨a,f',x⟩,q1,q2,q3,q4⟩
 simp only at q1 q2 q3 q4
 simp only[]
 rw[tA109r]
 cases f' with
 |zero=>omega
 |succ f'=>
  rw[blkE]at q4
  refine⟨fun h1=>need_sat ⟨(by simp),ILeL.refl _,w114 _ _ _ ?_ ?_ ?_⟩ ?_,fun h1=>?_⟩
  ·simp at h1;omega
  ·omega
  ·omega
  ·have hc:a+20≤n:=by simp at h1;omega
   rw[if_pos hc]at q4
   have hlen:=ins_length ltT a (a+20) x (by omega)
   have e5:IntKind.i64.wrap (((a+20:Nat):Int)+20)=((a+20+20:Nat):Int):=by rw[IntWalk.i64_in _ (by omega)];omega
   exact⟨⟨(a+20,f',ins ltT a (a+20) x),hc,by simp only;omega,by simp only;omega,q4⟩,by simp only;omega,⟨congrArg (fun n=>AVal.imm (i64 n)) e5,rfl,rfl,rfl,rfl,congrArg (AVal.own 0) hlen.symm,trivial⟩,⟨rfl,trivial⟩,rfl,rfl,rfl⟩
  ·have hc:¬a+20≤n:=by simp at h1;omega
   rw[if_neg hc]at q4
   rw[←q4]
   exact⟨rfl,⟨rfl,rfl,rfl,rfl,rfl,trivial⟩,⟨rfl,trivial⟩,rfl,rfl,rfl⟩
theorem lB109 (l0:Abs.Loc)(n s f:Nat)(l:List Attest)(hs:0<s)(hsn:s<n)(hf:n<f)(hn:n≤l.length)(hl:l.length≤2^60)(σ:LState)(h:LSub σ (IB109 l0 n s 0 l)):LoopOk prog [] (bodyOf Proofs.Try.f109) 9 σ (.done (.exit 4) (EB109 l0 n s (mrgE ltT n s f 0 l))):=by
 refine LoopOk.of_levL (γ:={g:Nat×Nat×List Attest//g.1≤n∧n<g.1+g.2.1∧g.2.2.length=l.length∧mrgE ltT n s g.2.1 g.1 g.2.2=mrgE ltT n s f 0 l})
  (fun g=>TB109r l0 n s g.1.1 g.1.2.2) finA109 (fun g=>IB109 l0 n s g.1.1 g.1.2.2) (fun g=>n-g.1.1) ⟨(0,f,l),by simp,by simpa using hf,rfl,rfl⟩ (by kernel_rfl) h ?_
 rintro⟨⟨a,f',x⟩,q1,q2,q3,q4⟩
 simp only at q1 q2 q3 q4
 simp only[]
 have e1:IntKind.i64.wrap ((a:Int)+(s:Int))=((a+s:Nat):Int):=i64_add (by omega)
 have e2:IntKind.i64.wrap ((2:Int)*(s:Int))=((2*s:Nat):Int):=by rw[IntWalk.i64_in _ (by omega)];omega
 rw[tB109r]
 cases f' with
 |zero=>omega
 |succ f'=>
  rw[mrgE]at q4
  refine⟨fun h1=>need_sat ⟨(by simp),ILeL.refl _,w115' _ _ _ _ ?_ ?_ ?_ ?_ ?_⟩ ?_,fun h1=>?_⟩
  ·omega
  ·rw[e1];omega
  ·rw[e1];omega
  ·simp at h1;omega
  ·omega
  ·have hc:a+2*s≤n:=by simp at h1;omega
   rw[if_pos hc]at q4
   have hlen:=symF_length ltT (l:=x) (show a<a+s by omega) (show a+s<a+2*s by omega) (by omega)
   simp only[e1,e2,Int.toNat_natCast]
   refine⟨⟨(a+2*s,f',symF ltT a (a+s) (a+2*s) x),hc,by simp only;omega,by simp only;omega,q4⟩,by simp only;omega,⟨?_,rfl,rfl,rfl,rfl,congrArg (AVal.own 0) hlen.symm,trivial⟩,⟨rfl,trivial⟩,rfl,rfl,rfl⟩
   exact congrArg (fun n=>AVal.imm (i64 n)) (i64_add (by omega))
  ·have hc:¬a+2*s≤n:=by simp at h1;omega
   rw[if_neg hc]at q4
   rw[←q4]
   exact⟨rfl,⟨rfl,rfl,rfl,rfl,rfl,trivial⟩,⟨rfl,trivial⟩,rfl,rfl,rfl⟩
theorem lC109 (l0:Abs.Loc)(n s f:Nat)(l:List Attest)(hs:0<s)(hs2:s≤2^60)(hf:n<s+f)(hn:n=l.length)(hl:l.length≤2^59)(σ:LState)(h:LSub σ (IC109 l0 n s l)):LoopOk prog [] (bodyOf Proofs.Try.f109) 7 σ (.done (.exit 2) (EC109 l0 (mrgs ltT n f s l))):=by
 refine LoopOk.of_levL (γ:={g:Nat×Nat×List Attest//0<g.1∧g.1≤2^60∧n<g.1+g.2.1∧g.2.2.length=l.length∧mrgs ltT n g.2.1 g.1 g.2.2=mrgs ltT n f s l})
  (fun g=>TC109r l0 n g.1.1 g.1.2.2 (mrgE ltT n g.1.1 (n+1) 0 g.1.2.2)) finC109 (fun g=>IC109 l0 n g.1.1 g.1.2.2) (fun g=>n-g.1.1) ⟨(s,f,l),hs,hs2,hf,rfl,rfl⟩ (by kernel_rfl) h ?_
 rintro⟨⟨s,f',x⟩,q0,q1,q2,q3,q4⟩
 simp only at q0 q1 q2 q3 q4
 simp only[]
 have e2:IntKind.i64.wrap ((2:Int)*(s:Int))=((2*s:Nat):Int):=by rw[IntWalk.i64_in _ (by omega)];omega
 have e3:IntKind.i64.wrap ((s:Int)*(2:Int))=((2*s:Nat):Int):=by rw[IntWalk.i64_in _ (by omega)];omega
 have hE:=mrgE_spec ltT n s q0 (n+1) 0 x (by omega) (by omega) (by omega)
 have hlB:=lB109 l0 n s (n+1) x q0
 have hlen:=mrg_length ltT n s q0 (l:=x) (by omega)
 generalize hr:mrgE ltT n s (n+1) 0 x=r at*
 obtain⟨r1,r2,r3⟩:=hE
 have e1:IntKind.i64.wrap ((r.1:Int)+(s:Int))=((r.1+s:Nat):Int):=i64_add (by omega)
 rw[tC109r]
 refine⟨fun h1=>⟨?_,⟨fun h2=>need_sat ⟨(by simp),ILeL.refl _,w115' _ _ _ _ ?_ ?_ ?_ ?_ ?_⟩ ?_,fun h2=>?_⟩⟩,fun h1=>?_⟩
 ·have hc:s<n:=by simp at h1;omega
  refine hlB hc (by omega) (by omega) (by omega) _ ⟨⟨?_,rfl,rfl,rfl,rfl,rfl,trivial⟩,⟨rfl,trivial⟩,rfl,rfl,rfl⟩
  exact congrArg (fun n=>AVal.imm (i64 n)) (e2.trans (by omega))
 ·omega
 ·rw[e1];omega
 ·rw[e1]at h2⊢;simp at h2;omega
 ·omega
 ·omega
 ·have hc:s<n:=by simp at h1;omega
  have hd:r.1+s<n:=by rw[e1]at h2;simp at h2;omega
  cases f' with
  |zero=>omega
  |succ f'=>
   rw[mrgs,if_pos hc]at q4
   rw[if_pos hd]at r3
   simp only[e1,e3,Int.toNat_natCast,r3]
   exact⟨⟨(2*s,f',mrg ltT n s (n+1) 0 x),by simp only;omega,by simp only;omega,by simp only;omega,by simp only;omega,q4⟩,by simp only;omega,⟨rfl,rfl,rfl,congrArg (AVal.own 0) (by rw[hlen,r2]),trivial⟩,⟨rfl,trivial⟩,rfl,rfl,rfl⟩
 ·have hc:s<n:=by simp at h1;omega
  have hd:¬r.1+s<n:=by rw[e1]at h2;simp at h2;omega
  cases f' with
  |zero=>omega
  |succ f'=>
   rw[mrgs,if_pos hc]at q4
   rw[if_neg hd]at r3
   simp only[e3,r3]
   exact⟨⟨(2*s,f',mrg ltT n s (n+1) 0 x),by simp only;omega,by simp only;omega,by simp only;omega,by simp only;omega,q4⟩,by simp only;omega,⟨rfl,rfl,rfl,rfl,trivial⟩,⟨rfl,trivial⟩,rfl,rfl,rfl⟩
 ·have hc:¬s<n:=by simp at h1;omega
  have:mrgs ltT n f' s x=x:=by
   cases f' with
   |zero=>rfl
   |succ f'=>rw[mrgs,if_neg hc]
  rw[this]at q4
  rw[←q4]
  exact⟨rfl,⟨trivial,⟨rfl,trivial⟩,rfl,rfl,rfl⟩⟩
theorem w109 (l:List Attest)(hl:l.length≤2^59):WSpec prog 109 47 2 (l.map encT) [i64 l.length,fnV 38] (.tup []) ((sorted ltT l).map encT):=by
 have hE:=blkE_spec ltT l.length (l.length+1) 0 l (Nat.le_refl _) (by omega) (by omega)
 have hA:=fun l0=>lA109 l0 l.length (l.length+1) l (by omega) (Nat.le_refl _) (by omega)
 refine WSpec.tree Proofs.Try.f109 (fun l0=>T109 l0 l.length l (blkE ltT l.length (l.length+1) 0 l) (sorted ltT l)) (by kernel_rfl) (by kernel_rfl) (by kernel_rfl) fun l0=>?_
 have hA:=hA l0
 generalize blkE ltT l.length (l.length+1) 0 l=r at*
 obtain⟨r1,r2,r3⟩:=hE
 rw[t109]
 refine⟨?_,need_sat ⟨(by simp),ILeL.refl _,w114 _ _ _ ?_ ?_ ?_⟩ ⟨?_,need_sat ?_ (lretW_ex ?_ ?_)⟩⟩
 ·exact hA _ ⟨⟨rfl,rfl,rfl,rfl,rfl,by simp[tl],trivial⟩,⟨rfl,trivial⟩,rfl,rfl,rfl⟩
 ·omega
 ·omega
 ·omega
 ·rw[r3]
  refine lC109 l0 l.length 20 (l.length+1) _ (by omega) (by omega) (by omega) ?_ ?_ _ ⟨⟨rfl,rfl,rfl,congrArg (AVal.own 0) ?_,trivial⟩,⟨rfl,trivial⟩,rfl,rfl,rfl⟩
  ·rw[insB_length]
  ·rw[insB_length];exact hl
  ·rw[insB_length,r2]
 ·exact trivial
 ·rfl
 ·exact .refl _
theorem w109' (l:List Attest)(n:Int)(hn:n=l.length)(hl:l.length≤2^59):WSpec prog 109 47 2 (l.map encT) [i64 n,fnV 38] (.tup []) ((sorted ltT l).map encT):=by
 subst hn;exact w109 l hl
def T100 (l0:Abs.Loc)(l:List Attest):Tell:=
 Tell.mk (fun x x_1=>false) (fun x x_1=>Orc.no) (fun x=>Tree.fail 1000003 0) (fun x=>0) (fun x=>([],[])) (oget [(1,0,4,Orc.callw [i64 (↑(List.length (List.map encT l)):Int),fnV 38] (.tup []) (List.map encT (sorted ltT l)))]) fun x x_1=>Tree.fail 1000003 0
theorem t100 (l0:Abs.Loc)(l:List Attest):levW prog Proofs.Try.f100 l0 47 2 (l.map encT) [fnV 38] (T100 l0 l)=
 Tree.need (List.length (List.map encT l)=List.length (List.map encT l)∧ILeL [i64 (↑(List.length (List.map encT l)):Int),fnV 38] [i64 (↑(List.length (List.map encT l)):Int),fnV 38]∧WSpec prog 109 47 2 (List.map encT l) [i64 (↑(List.length (List.map encT l)):Int),fnV 38] (.tup []) (List.map encT (sorted ltT l))) (.need (eqs []) (.done Exit.ret (lretW l0 47 2 (.tup []) (List.map encT (sorted ltT l))))):=by kernel_rfl
theorem w100 (l:List Attest)(hl:l.length≤2^59):WSpec prog 100 47 2 (l.map encT) [fnV 38] (.tup []) ((sorted ltT l).map encT):=by
 refine WSpec.tree Proofs.Try.f100 (fun l0=>T100 l0 l) (by kernel_rfl) (by kernel_rfl) (by kernel_rfl) fun l0=>?_
 rw[t100]
 refine need_sat ⟨(by simp),ILeL.refl _,w109' _ _ ?_ ?_⟩ (need_sat ?_ (lretW_ex ?_ ?_))
 ·simp
 ·exact hl
 ·exact trivial
 ·rfl
 ·exact .refl _
def IA111 (l0:Abs.Loc)(n a:Nat)(x:List RKey):LState:={t:=[(8,.imm (i64 (a+20:Nat))),(7,.imm (i64 a)),(6,.imm (i64 20)),(2,.imm (fnV 41)),(1,.imm (i64 n)),(0,.own 0 x.length)],s:=[(0,.brow l0 53 18 (x.map encK))],m:=63,n:=1}
def EA111 (l0:Abs.Loc)(n:Nat)(r:Nat×List RKey):LState:={t:=[(7,.imm (i64 r.1)),(6,.imm (i64 20)),(2,.imm (fnV 41)),(1,.imm (i64 n)),(0,.own 0 r.2.length)],s:=[(0,.brow l0 53 18 (r.2.map encK))],m:=63,n:=1}
def finA111 :Exit→Fin
 |.normal=>⟨[],[8,7,6,2,1,0],[0]⟩
 |_=>⟨[],[7,6,2,1,0],[0]⟩
def TA111r (l0:Abs.Loc)(n a:Nat)(x:List RKey):Tell:=
 Tell.mk (fun x x_1=>false) (fun x x_1=>Orc.no) (fun x=>Tree.fail 1000003 0) (fun x=>0) (fun x=>([],[])) (oget [(4,3,4,Orc.callw [i64 (↑a:Int),i64 (↑(a+20):Int),fnV 41] (.tup []) (List.map encK (ins ltK a (a+20) x)))]) fun x x_1=>Tree.fail 1000003 0
theorem tA111r (l0:Abs.Loc)(n a:Nat)(x:List RKey):levL prog Proofs.Try.f111 2 (IA111 l0 n a x) (TA111r l0 n a x) finA111=
 Tree.br (decide ((↑(a+20):Int)≤(↑n:Int))) (.need (List.length (List.map encK x)=List.length x∧ILeL [i64 (↑a:Int),i64 (↑(a+20):Int),fnV 41] [i64 (↑a:Int),i64 (↑(a+20):Int),fnV 41]∧WSpec prog 116 53 18 (List.map encK x) [i64 (↑a:Int),i64 (↑(a+20):Int),fnV 41] (.tup []) (List.map encK (ins ltK a (a+20) x))) (.done Exit.normal (LState.mk [(8,.imm (i64 (IntKind.wrap IntKind.i64 ((↑(a+20):Int)+20)))),(7,.imm (i64 (↑(a+20):Int))),(6,.imm (i64 20)),(2,.imm (fnV 41)),(1,.imm (i64 (↑n:Int))),(0,.own 0 (List.length x))] [(0,Entry.brow l0 53 18 (List.map encK
 (ins ltK a (a+20) x)))] 63 15 []))) (.done (Exit.exit 0) (LState.mk [(7,.imm (i64 (↑a:Int))),(6,.imm (i64 20)),(2,.imm (fnV 41)),(1,.imm (i64 (↑n:Int))),(0,.own 0 (List.length x))] [(0,Entry.brow l0 53 18 (List.map encK x))] 63 4 [])):=by kernel_rfl
def IB111 (l0:Abs.Loc)(n s a:Nat)(x:List RKey):LState:={t:=[(8,.imm (i64 (a+2*s:Nat))),(7,.imm (i64 a)),(6,.imm (i64 s)),(2,.imm (fnV 41)),(1,.imm (i64 n)),(0,.own 0 x.length)],s:=[(0,.brow l0 53 18 (x.map encK))],m:=63,n:=1}
def EB111 (l0:Abs.Loc)(n s:Nat)(r:Nat×List RKey):LState:={t:=[(7,.imm (i64 r.1)),(6,.imm (i64 s)),(2,.imm (fnV 41)),(1,.imm (i64 n)),(0,.own 0 r.2.length)],s:=[(0,.brow l0 53 18 (r.2.map encK))],m:=63,n:=1}
def TB111r (l0:Abs.Loc)(n s a:Nat)(x:List RKey):Tell:=
 Tell.mk (fun x x_1=>false) (fun x x_1=>Orc.no) (fun x=>Tree.fail 1000003 0) (fun x=>0) (fun x=>([],[])) (oget [(4,10,7,Orc.callw [i64 (↑a:Int),i64 (IntKind.wrap IntKind.i64 ((↑a:Int)+(↑s:Int))),i64 (↑(a+2*s):Int),fnV 41] (.tup []) (List.map encK (symF ltK (Int.toNat (↑a:Int)) (Int.toNat (IntKind.wrap IntKind.i64 ((↑a:Int)+(↑s:Int)))) (Int.toNat (↑(a+2*s):Int)) x)))]) fun x x_1=>Tree.fail 1000003 0
theorem tB111r (l0:Abs.Loc)(n s a:Nat)(x:List RKey):levL prog Proofs.Try.f111 9 (IB111 l0 n s a x) (TB111r l0 n s a x) finA111=
 Tree.br (decide ((↑(a+2*s):Int)≤(↑n:Int))) (.need (List.length (List.map encK x)=List.length x∧ILeL [i64 (↑a:Int),i64 (IntKind.wrap IntKind.i64 ((↑a:Int)+(↑s:Int))),i64 (↑(a+2*s):Int),fnV 41] [i64 (↑a:Int),i64 (IntKind.wrap IntKind.i64 ((↑a:Int)+(↑s:Int))),i64 (↑(a+2*s):Int),fnV 41]∧WSpec prog 117 53 18 (List.map encK x) [i64 (↑a:Int),i64 (IntKind.wrap IntKind.i64 ((↑a:Int)+(↑s:Int))),i64 (↑(a+2*s):Int),fnV 41] (.tup []) (List.map encK (symF ltK a (Int.toNat (IntKind.wrap IntKind.i64 ((↑a:Int)+(↑s:Int)))) (a+2*s) x))) (.done
 Exit.normal (LState.mk [(8,.imm (i64 (IntKind.wrap IntKind.i64 ((↑(a+2*s):Int)+IntKind.wrap IntKind.i64 (2*(↑s:Int)))))),(7,.imm (i64 (↑(a+2*s):Int))),(6,.imm (i64 (↑s:Int))),(2,.imm (fnV 41)),(1,.imm (i64 (↑n:Int))),(0,.own 0 (List.length x))] [(0,Entry.brow l0 53 18 (List.map encK (symF ltK a (Int.toNat (IntKind.wrap IntKind.i64 ((↑a:Int)+(↑s:Int)))) (a+2*s) x)))] 63 19 []))) (.done (Exit.exit 4) (LState.mk [(7,.imm (i64 (↑a:Int))),(6,.imm (i64 (↑s:Int))),(2,.imm (fnV 41)),(1,.imm (i64 (↑n:Int))),(0,.own 0 (List.length x))] [(0,Entry.brow l0 53 18
 (List.map encK x))] 63 4 [])):=by kernel_rfl
def IC111 (l0:Abs.Loc)(n s:Nat)(x:List RKey):LState:={t:=[(6,.imm (i64 s)),(2,.imm (fnV 41)),(1,.imm (i64 n)),(0,.own 0 x.length)],s:=[(0,.brow l0 53 18 (x.map encK))],m:=63,n:=1}
def EC111 (l0:Abs.Loc)(x:List RKey):LState:={t:=[],s:=[(0,.brow l0 53 18 (x.map encK))],m:=63,n:=1}
def finC111 :Exit→Fin
 |.normal=>⟨[],[6,2,1,0],[0]⟩
 |_=>⟨[],[],[0]⟩
def TC111r (l0:Abs.Loc)(n s:Nat)(x:List RKey)(r:Nat×List RKey):Tell:=
 Tell.mk (fun x x_1=>false) (fun x x_1=>Orc.no) (fun x=>Tree.done (Exit.exit 4) (EB111 l0 n s r)) (fun x=>0) (fun x=>([8,7,6,2,1,0],[0])) (oget [(8,15,5,Orc.callw [i64 (↑r.fst:Int),i64 (IntKind.wrap IntKind.i64 ((↑r.fst:Int)+(↑s:Int))),i64 (↑n:Int),fnV 41] (.tup []) (List.map encK (symF ltK (Int.toNat (↑r.fst:Int)) (Int.toNat (IntKind.wrap IntKind.i64 ((↑r.fst:Int)+(↑s:Int)))) (Int.toNat (↑n:Int)) r.snd)))]) fun x x_1=>Tree.done (Exit.exit 4) (EB111 l0 n s r)
theorem tC111r (l0:Abs.Loc)(n s:Nat)(x:List RKey)(r:Nat×List RKey):levL prog Proofs.Try.f111 7 (IC111 l0 n s x) (TC111r l0 n s x r) finC111=
 Tree.br (decide ((↑s:Int)<(↑n:Int))) (.loop 9 (LState.mk [(8,.imm (i64 (IntKind.wrap IntKind.i64 (2*(↑s:Int))))),(7,.imm (i64 0)),(6,.imm (i64 (↑s:Int))),(2,.imm (fnV 41)),(1,.imm (i64 (↑n:Int))),(0,.own 0 (List.length x))] [(0,Entry.brow l0 53 18 (List.map encK x))] 63 8 []) (.done (Exit.exit 4) (EB111 l0 n s r)) (.br (decide (IntKind.wrap IntKind.i64 ((↑r.fst:Int)+(↑s:Int))<(↑n:Int))) (.need (List.length (List.map encK r.snd)=List.length r.snd∧ILeL [i64 (↑r.fst:Int),i64 (IntKind.wrap IntKind.i64 ((↑r.fst:Int)+(↑s:Int))),i64 (↑n:Int),fnV 41] [i64 (↑r.fst:
 Int),i64 (IntKind.wrap IntKind.i64 ((↑r.fst:Int)+(↑s:Int))),i64 (↑n:Int),fnV 41]∧WSpec prog 117 53 18 (List.map encK r.snd) [i64 (↑r.fst:Int),i64 (IntKind.wrap IntKind.i64 ((↑r.fst:Int)+(↑s:Int))),i64 (↑n:Int),fnV 41] (.tup []) (List.map encK (symF ltK r.fst (Int.toNat (IntKind.wrap IntKind.i64 ((↑r.fst:Int)+(↑s:Int)))) n r.snd))) (.done Exit.normal (LState.mk [(6,.imm (i64 (IntKind.wrap IntKind.i64 ((↑s:Int)*2)))),(2,.imm (fnV 41)),(1,.imm (i64 (↑n:Int))),(0,.own 0 (List.length r.snd))] [(0,Entry.brow l0 53 18 (List.map encK (symF ltK r.fst (Int.toNat
 (IntKind.wrap IntKind.i64 ((↑r.fst:Int)+(↑s:Int)))) n r.snd)))] 63 17 []))) (.done Exit.normal (LState.mk [(6,.imm (i64 (IntKind.wrap IntKind.i64 ((↑s:Int)*2)))),(2,.imm (fnV 41)),(1,.imm (i64 (↑n:Int))),(0,.own 0 (List.length r.snd))] [(0,Entry.brow l0 53 18 (List.map encK r.snd))] 63 11 [])))) (.done (Exit.exit 2) (LState.mk [] [(0,Entry.brow l0 53 18 (List.map encK x))] 63 4 [])):=by kernel_rfl
def T111 (l0:Abs.Loc)(n:Nat)(l:List RKey)(r:Nat×List RKey)(y:List RKey):Tell:=
 Tell.mk (fun x x_1=>false) (fun x x_1=>Orc.no) (fun k=>match k with|2=>Tree.done (Exit.exit 0) (EA111 l0 n r)|x=>Tree.done (Exit.exit 2) (EC111 l0 y)) (fun x=>0) (fun k=>match k with|2=>([8,7,6,2,1,0],[0])|x=>([6,2,1,0],[0])) (oget [(1,6,4,Orc.callw [i64 (↑r.fst:Int),i64 (↑n:Int),fnV 41] (.tup []) (List.map encK (ins ltK r.fst n r.snd)))]) fun x k=>match k with|2=>Tree.done (Exit.exit 0) (EA111 l0 n r)|x=>Tree.done (Exit.exit 2) (EC111 l0 y)
theorem t111 (l0:Abs.Loc)(n:Nat)(l:List RKey)(r:Nat×List RKey)(y:List RKey):levW prog Proofs.Try.f111 l0 53 18 (l.map encK) [i64 n,fnV 41] (T111 l0 n l r y)=
 Tree.loop 2 (LState.mk [(8,.imm (i64 20)),(7,.imm (i64 0)),(6,.imm (i64 20)),(2,.imm (fnV 41)),(1,.imm (i64 (↑n:Int))),(0,.own 0 (List.length (List.map encK l)))] [(0,Entry.brow l0 53 18 (List.map encK l))] 63 5 []) (.done (Exit.exit 0) (EA111 l0 n r)) (.need (List.length (List.map encK r.snd)=List.length r.snd∧ILeL [i64 (↑r.fst:Int),i64 (↑n:Int),fnV 41] [i64 (↑r.fst:Int),i64 (↑n:Int),fnV 41]∧WSpec prog 116 53 18 (List.map encK r.snd) [i64 (↑r.fst:Int),i64 (↑n:Int),fnV 41] (.tup []) (List.map encK (ins ltK r.fst n r.snd))) (.loop 7 (LState.mk [(6,.imm (i64 20)),(2,.imm (fnV
 41)),(1,.imm (i64 (↑n:Int))),(0,.own 0 (List.length r.snd))] [(0,Entry.brow l0 53 18 (List.map encK (ins ltK r.fst n r.snd)))] 63 6 []) (.done (Exit.exit 2) (EC111 l0 y)) (.need (eqs []) (.done Exit.ret (lretW l0 53 18 (.tup []) (List.map encK y)))))):=by kernel_rfl
theorem lA111 (l0:Abs.Loc)(n f:Nat)(l:List RKey)(hf:n<f)(hn:n≤l.length)(hl:l.length≤2^60)(σ:LState)(h:LSub σ (IA111 l0 n 0 l)):LoopOk prog [] (bodyOf Proofs.Try.f111) 2 σ (.done (.exit 0) (EA111 l0 n (blkE ltK n f 0 l))):=by
 refine LoopOk.of_levL (γ:={g:Nat×Nat×List RKey//g.1≤n∧n<g.1+g.2.1∧g.2.2.length=l.length∧blkE ltK n g.2.1 g.1 g.2.2=blkE ltK n f 0 l})
  (fun g=>TA111r l0 n g.1.1 g.1.2.2) finA111 (fun g=>IA111 l0 n g.1.1 g.1.2.2) (fun g=>n-g.1.1) ⟨(0,f,l),by simp,by simpa using hf,rfl,rfl⟩ (by kernel_rfl) h ?_
 rintro⟨⟨a,f',x⟩,q1,q2,q3,q4⟩
 simp only at q1 q2 q3 q4
 simp only[]
 rw[tA111r]
 cases f' with
 |zero=>omega
 |succ f'=>
  rw[blkE]at q4
  refine⟨fun h1=>need_sat ⟨(by simp),ILeL.refl _,w116 _ _ _ ?_ ?_ ?_⟩ ?_,fun h1=>?_⟩
  ·simp at h1;omega
  ·omega
  ·omega
  ·have hc:a+20≤n:=by simp at h1;omega
   rw[if_pos hc]at q4
   have hlen:=ins_length ltK a (a+20) x (by omega)
   have e5:IntKind.i64.wrap (((a+20:Nat):Int)+20)=((a+20+20:Nat):Int):=by rw[IntWalk.i64_in _ (by omega)];omega
   exact⟨⟨(a+20,f',ins ltK a (a+20) x),hc,by simp only;omega,by simp only;omega,q4⟩,by simp only;omega,⟨congrArg (fun n=>AVal.imm (i64 n)) e5,rfl,rfl,rfl,rfl,congrArg (AVal.own 0) hlen.symm,trivial⟩,⟨rfl,trivial⟩,rfl,rfl,rfl⟩
  ·have hc:¬a+20≤n:=by simp at h1;omega
   rw[if_neg hc]at q4
   rw[←q4]
   exact⟨rfl,⟨rfl,rfl,rfl,rfl,rfl,trivial⟩,⟨rfl,trivial⟩,rfl,rfl,rfl⟩
theorem lB111 (l0:Abs.Loc)(n s f:Nat)(l:List RKey)(hs:0<s)(hsn:s<n)(hf:n<f)(hn:n≤l.length)(hl:l.length≤2^60)(σ:LState)(h:LSub σ (IB111 l0 n s 0 l)):LoopOk prog [] (bodyOf Proofs.Try.f111) 9 σ (.done (.exit 4) (EB111 l0 n s (mrgE ltK n s f 0 l))):=by
 refine LoopOk.of_levL (γ:={g:Nat×Nat×List RKey//g.1≤n∧n<g.1+g.2.1∧g.2.2.length=l.length∧mrgE ltK n s g.2.1 g.1 g.2.2=mrgE ltK n s f 0 l})
  (fun g=>TB111r l0 n s g.1.1 g.1.2.2) finA111 (fun g=>IB111 l0 n s g.1.1 g.1.2.2) (fun g=>n-g.1.1) ⟨(0,f,l),by simp,by simpa using hf,rfl,rfl⟩ (by kernel_rfl) h ?_
 rintro⟨⟨a,f',x⟩,q1,q2,q3,q4⟩
 simp only at q1 q2 q3 q4
 simp only[]
 have e1:IntKind.i64.wrap ((a:Int)+(s:Int))=((a+s:Nat):Int):=i64_add (by omega)
 have e2:IntKind.i64.wrap ((2:Int)*(s:Int))=((2*s:Nat):Int):=by rw[IntWalk.i64_in _ (by omega)];omega
 rw[tB111r]
 cases f' with
 |zero=>omega
 |succ f'=>
  rw[mrgE]at q4
  refine⟨fun h1=>need_sat ⟨(by simp),ILeL.refl _,w117' _ _ _ _ ?_ ?_ ?_ ?_ ?_⟩ ?_,fun h1=>?_⟩
  ·omega
  ·rw[e1];omega
  ·rw[e1];omega
  ·simp at h1;omega
  ·omega
  ·have hc:a+2*s≤n:=by simp at h1;omega
   rw[if_pos hc]at q4
   have hlen:=symF_length ltK (l:=x) (show a<a+s by omega) (show a+s<a+2*s by omega) (by omega)
   simp only[e1,e2,Int.toNat_natCast]
   refine⟨⟨(a+2*s,f',symF ltK a (a+s) (a+2*s) x),hc,by simp only;omega,by simp only;omega,q4⟩,by simp only;omega,⟨?_,rfl,rfl,rfl,rfl,congrArg (AVal.own 0) hlen.symm,trivial⟩,⟨rfl,trivial⟩,rfl,rfl,rfl⟩
   exact congrArg (fun n=>AVal.imm (i64 n)) (i64_add (by omega))
  ·have hc:¬a+2*s≤n:=by simp at h1;omega
   rw[if_neg hc]at q4
   rw[←q4]
   exact⟨rfl,⟨rfl,rfl,rfl,rfl,rfl,trivial⟩,⟨rfl,trivial⟩,rfl,rfl,rfl⟩
theorem lC111 (l0:Abs.Loc)(n s f:Nat)(l:List RKey)(hs:0<s)(hs2:s≤2^60)(hf:n<s+f)(hn:n=l.length)(hl:l.length≤2^59)(σ:LState)(h:LSub σ (IC111 l0 n s l)):LoopOk prog [] (bodyOf Proofs.Try.f111) 7 σ (.done (.exit 2) (EC111 l0 (mrgs ltK n f s l))):=by
 refine LoopOk.of_levL (γ:={g:Nat×Nat×List RKey//0<g.1∧g.1≤2^60∧n<g.1+g.2.1∧g.2.2.length=l.length∧mrgs ltK n g.2.1 g.1 g.2.2=mrgs ltK n f s l})
  (fun g=>TC111r l0 n g.1.1 g.1.2.2 (mrgE ltK n g.1.1 (n+1) 0 g.1.2.2)) finC111 (fun g=>IC111 l0 n g.1.1 g.1.2.2) (fun g=>n-g.1.1) ⟨(s,f,l),hs,hs2,hf,rfl,rfl⟩ (by kernel_rfl) h ?_
 rintro⟨⟨s,f',x⟩,q0,q1,q2,q3,q4⟩
 simp only at q0 q1 q2 q3 q4
 simp only[]
 have e2:IntKind.i64.wrap ((2:Int)*(s:Int))=((2*s:Nat):Int):=by rw[IntWalk.i64_in _ (by omega)];omega
 have e3:IntKind.i64.wrap ((s:Int)*(2:Int))=((2*s:Nat):Int):=by rw[IntWalk.i64_in _ (by omega)];omega
 have hE:=mrgE_spec ltK n s q0 (n+1) 0 x (by omega) (by omega) (by omega)
 have hlB:=lB111 l0 n s (n+1) x q0
 have hlen:=mrg_length ltK n s q0 (l:=x) (by omega)
 generalize hr:mrgE ltK n s (n+1) 0 x=r at*
 obtain⟨r1,r2,r3⟩:=hE
 have e1:IntKind.i64.wrap ((r.1:Int)+(s:Int))=((r.1+s:Nat):Int):=i64_add (by omega)
 rw[tC111r]
 refine⟨fun h1=>⟨?_,⟨fun h2=>need_sat ⟨(by simp),ILeL.refl _,w117' _ _ _ _ ?_ ?_ ?_ ?_ ?_⟩ ?_,fun h2=>?_⟩⟩,fun h1=>?_⟩
 ·have hc:s<n:=by simp at h1;omega
  refine hlB hc (by omega) (by omega) (by omega) _ ⟨⟨?_,rfl,rfl,rfl,rfl,rfl,trivial⟩,⟨rfl,trivial⟩,rfl,rfl,rfl⟩
  exact congrArg (fun n=>AVal.imm (i64 n)) (e2.trans (by omega))
 ·omega
 ·rw[e1];omega
 ·rw[e1]at h2⊢;simp at h2;omega
 ·omega
 ·omega
 ·have hc:s<n:=by simp at h1;omega
  have hd:r.1+s<n:=by rw[e1]at h2;simp at h2;omega
  cases f' with
  |zero=>omega
  |succ f'=>
   rw[mrgs,if_pos hc]at q4
   rw[if_pos hd]at r3
   simp only[e1,e3,Int.toNat_natCast,r3]
   exact⟨⟨(2*s,f',mrg ltK n s (n+1) 0 x),by simp only;omega,by simp only;omega,by simp only;omega,by simp only;omega,q4⟩,by simp only;omega,⟨rfl,rfl,rfl,congrArg (AVal.own 0) (by rw[hlen,r2]),trivial⟩,⟨rfl,trivial⟩,rfl,rfl,rfl⟩
 ·have hc:s<n:=by simp at h1;omega
  have hd:¬r.1+s<n:=by rw[e1]at h2;simp at h2;omega
  cases f' with
  |zero=>omega
  |succ f'=>
   rw[mrgs,if_pos hc]at q4
   rw[if_neg hd]at r3
   simp only[e3,r3]
   exact⟨⟨(2*s,f',mrg ltK n s (n+1) 0 x),by simp only;omega,by simp only;omega,by simp only;omega,by simp only;omega,q4⟩,by simp only;omega,⟨rfl,rfl,rfl,rfl,trivial⟩,⟨rfl,trivial⟩,rfl,rfl,rfl⟩
 ·have hc:¬s<n:=by simp at h1;omega
  have:mrgs ltK n f' s x=x:=by
   cases f' with
   |zero=>rfl
   |succ f'=>rw[mrgs,if_neg hc]
  rw[this]at q4
  rw[←q4]
  exact⟨rfl,⟨trivial,⟨rfl,trivial⟩,rfl,rfl,rfl⟩⟩
theorem w111 (l:List RKey)(hl:l.length≤2^59):WSpec prog 111 53 18 (l.map encK) [i64 l.length,fnV 41] (.tup []) ((sorted ltK l).map encK):=by
 have hE:=blkE_spec ltK l.length (l.length+1) 0 l (Nat.le_refl _) (by omega) (by omega)
 have hA:=fun l0=>lA111 l0 l.length (l.length+1) l (by omega) (Nat.le_refl _) (by omega)
 refine WSpec.tree Proofs.Try.f111 (fun l0=>T111 l0 l.length l (blkE ltK l.length (l.length+1) 0 l) (sorted ltK l)) (by kernel_rfl) (by kernel_rfl) (by kernel_rfl) fun l0=>?_
 have hA:=hA l0
 generalize blkE ltK l.length (l.length+1) 0 l=r at*
 obtain⟨r1,r2,r3⟩:=hE
 rw[t111]
 refine⟨?_,need_sat ⟨(by simp),ILeL.refl _,w116 _ _ _ ?_ ?_ ?_⟩ ⟨?_,need_sat ?_ (lretW_ex ?_ ?_)⟩⟩
 ·exact hA _ ⟨⟨rfl,rfl,rfl,rfl,rfl,by simp[tl],trivial⟩,⟨rfl,trivial⟩,rfl,rfl,rfl⟩
 ·omega
 ·omega
 ·omega
 ·rw[r3]
  refine lC111 l0 l.length 20 (l.length+1) _ (by omega) (by omega) (by omega) ?_ ?_ _ ⟨⟨rfl,rfl,rfl,congrArg (AVal.own 0) ?_,trivial⟩,⟨rfl,trivial⟩,rfl,rfl,rfl⟩
  ·rw[insB_length]
  ·rw[insB_length];exact hl
  ·rw[insB_length,r2]
 ·exact trivial
 ·rfl
 ·exact .refl _
theorem w111' (l:List RKey)(n:Int)(hn:n=l.length)(hl:l.length≤2^59):WSpec prog 111 53 18 (l.map encK) [i64 n,fnV 41] (.tup []) ((sorted ltK l).map encK):=by
 subst hn;exact w111 l hl
def T102 (l0:Abs.Loc)(l:List RKey):Tell:=
 Tell.mk (fun x x_1=>false) (fun x x_1=>Orc.no) (fun x=>Tree.fail 1000003 0) (fun x=>0) (fun x=>([],[])) (oget [(1,0,4,Orc.callw [i64 (↑(List.length (List.map encK l)):Int),fnV 41] (.tup []) (List.map encK (sorted ltK l)))]) fun x x_1=>Tree.fail 1000003 0
theorem t102 (l0:Abs.Loc)(l:List RKey):levW prog Proofs.Try.f102 l0 53 18 (l.map encK) [fnV 41] (T102 l0 l)=
 Tree.need (List.length (List.map encK l)=List.length (List.map encK l)∧ILeL [i64 (↑(List.length (List.map encK l)):Int),fnV 41] [i64 (↑(List.length (List.map encK l)):Int),fnV 41]∧WSpec prog 111 53 18 (List.map encK l) [i64 (↑(List.length (List.map encK l)):Int),fnV 41] (.tup []) (List.map encK (sorted ltK l))) (.need (eqs []) (.done Exit.ret (lretW l0 53 18 (.tup []) (List.map encK (sorted ltK l))))):=by kernel_rfl
theorem w102 (l:List RKey)(hl:l.length≤2^59):WSpec prog 102 53 18 (l.map encK) [fnV 41] (.tup []) ((sorted ltK l).map encK):=by
 refine WSpec.tree Proofs.Try.f102 (fun l0=>T102 l0 l) (by kernel_rfl) (by kernel_rfl) (by kernel_rfl) fun l0=>?_
 rw[t102]
 refine need_sat ⟨(by simp),ILeL.refl _,w111' _ _ ?_ ?_⟩ (need_sat ?_ (lretW_ex ?_ ?_))
 ·simp
 ·exact hl
 ·exact trivial
 ·rfl
 ·exact .refl _
end Gp
namespace Gp
theorem heap_alloc_size (w:World)(o:Obj):(w.alloc o).heap.size=w.heap.size+1:=by simp
def renGO :Shelf.Ren:=⟨fun x=>match x with|4=>106|n=>n,fun x=>match x with|22=>22|25=>44|n=>n,fun n=>n⟩
theorem growXO :Proofs.Lays8.n4 prog renGO where
 mixed:=by kernel_rfl
 f4:=⟨"slices.Grow[[]gatepath/api.Origin,gatepath/api.Origin]",by decide,Proofs.Try.func106.trans (congrArg some (by kernel_rfl))⟩
 t0:=Proofs.Try.underlying0
 a0:=Proofs.Try.isAgg0
 z0:=Proofs.Try.sizeOf0
 v0:=Proofs.Try.zeroValue0
 t3:=Proofs.Try.underlying3
 a3:=Proofs.Try.isAgg3
 z3:=Proofs.Try.sizeOf3
 v3:=Proofs.Try.zeroValue3
 t4:=Proofs.Try.underlying4
 a4:=Proofs.Try.isAgg4
 z4:=Proofs.Try.sizeOf4
 v4:=Proofs.Try.zeroValue4
 t9:=Proofs.Try.underlying9
 a9:=Proofs.Try.isAgg9
 z9:=Proofs.Try.sizeOf9
 v9:=Proofs.Try.zeroValue9
 t20:=Proofs.Try.underlying20
 a20:=Proofs.Try.isAgg20
 z20:=Proofs.Try.sizeOf20
 v20:=Proofs.Try.zeroValue20
 t22:=Proofs.Try.underlying22
 a22:=Proofs.Try.isAgg22
 z22:=Proofs.Try.sizeOf22
 v22:=Proofs.Try.zeroValue22
theorem o106 (n:Nat)(hn:n≤1000000):OSpec prog 106 [.v (.slice none 0 0),i64 n] 44 6 []:=by
 refine⟨by kernel_rfl,fun w F vs hF hcol hargs=>?_⟩
 have hvs:vs=#[.slice none 0 0,.int .i64 n]:=by
  rw[IRepL]at hargs
  obtain⟨u,us,h1,h2,h3⟩:=hargs
  rw[IRepL]at h3
  obtain⟨u',us',h4,h5,h6⟩:=h3
  rw[IRepL]at h6
  rw[IRep]at h2
  rw[i64,IRep]at h5
  rw[←Array.toList_inj,h1,h4,h6,h2.1,h5.1]
 subst hvs
 by_cases h0:n=0
 ·subst h0
  refine(Proofs.Any8.slices_Grow_room growXO none 0 0 0 w (by omega) (by omega) (by omega) (by omega)).mono ?_
  rintro e w' ⟨rfl,rfl⟩
  exact⟨⟨0,0,0,true,none⟩,F,rfl,⟨rfl,rfl,rfl,Nat.le_refl _,fun _ _=>rfl⟩,fun _ _ h=>h,fun _ _ h=>.inl h,hF,hcol,.inl ⟨rfl,rfl⟩,fun h=>by cases h⟩
 ·obtain⟨i0,z,hi0,hs0,hk0,hb0,hz0,hzc⟩:=tel_spec (show tel prog 44 6=true by kernel_rfl)
  refine(Proofs.Any8.slices_Grow_grow growXO i0 z hi0 hz0 (by omega) none 0 0 n [] w (by omega) (by omega) ?_ (by omega) (by simp) (fun _=>rfl) (fun a h=>by cases h)).mono ?_
  ·have:n*i0.bytes≤1000000*65536:=Nat.mul_le_mul hn hb0
   rw[Nat.zero_add];omega
  rintro e w' ⟨rfl,rfl⟩
  rw[Nat.zero_add]
  have hge:n≤grownCap w n 0 44:=grownCap_ge w _ _ _
  refine⟨⟨w.heap.size,0,grownCap w n 0 44,false,none⟩,F,rfl,⟨rfl,rfl,rfl,by rw[heap_alloc_size];exact Nat.le_succ _,fun b hb=>?_⟩,fun _ _ h=>h,fun _ _ h=>.inl h,fun c b h=>?_,hcol,.inr ⟨rfl,#[]++Builtin.zeroCells z.cells (n-0)++Builtin.zeroCells z.cells (grownCap w n 0 44-n),(0,0),[],?_,?_,?_,Nat.zero_le _,rfl,trivial⟩,fun _=>⟨Nat.le_refl _,fun c h=>?_⟩⟩
  ·exact heap_alloc_old w.drew _ hb
  ·have:=hF c b h;rw[heap_alloc_size];show b<w.heap.size+1;omega
  ·exact heap_alloc_new w.drew _
  ·intro j _;simp
  ·simp only[Array.size_append,size_zeroCells,hzc,Nat.sub_zero]
   have:grownCap w n 0 44*6=n*6+(grownCap w n 0 44-n)*6:=by rw[←Nat.add_mul];congr 1;omega
   simp;omega
  ·have:=hF c w.heap.size h;omega
theorem o106' (n:Int)(h0:0≤n)(hn:n≤1000000):OSpec prog 106 [.v (.slice none 0 0),i64 n] 44 6 []:=by
 obtain⟨n,rfl⟩:=Int.eq_ofNat_of_zero_le h0
 exact o106 n (by omega)
def T97 (A B:List Origin):Tell:=
 Tell.mk (fun x x_1=>false) (fun x x_1=>Orc.no) (fun x=>Tree.fail 1000003 0) (fun x=>3) (fun x=>([],[])) (oget [(6,4,0,Orc.ext [] (.tup [])),(19,4,0,Orc.ext [] (.tup [])),(32,9,1,Orc.callo [nS,i64 (IntKind.wrap IntKind.i64 (IntKind.wrap IntKind.i64 (0+(↑(List.length (List.map encO A)):Int))+(↑(List.length (List.map encO B)):Int)))] 44 6 []),(39,12,0,Orc.ext [] (.tup [])),(49,12,0,Orc.ext [] (.tup []))]) fun x x_1=>Tree.fail 1000003 0
theorem t97 (A B:List Origin):levO prog Proofs.Try.f97 [.sl false false 1 [slE 6 encO A,slE 6 encO B]] (T97 A B)=
 Tree.br true (.br (decide (IntKind.wrap IntKind.i64 (0+(↑(List.length (List.map encO A)):Int))<0)) (.fail 1000006 1) (.br true (.br (decide (IntKind.wrap IntKind.i64 (IntKind.wrap IntKind.i64 (0+(↑(List.length (List.map encO A)):Int))+(↑(List.length (List.map encO B)):Int))<0)) (.fail 1000006 1) (.br false (.stop (LState.mk [(12,.imm (bo false)),(11,.imm (i64 2)),(22,.imm (i64 2)),(20,.imm (bo (decide (IntKind.wrap IntKind.i64 (IntKind.wrap IntKind.i64 (0+(↑(List.length (List.map encO A)):Int))+(↑(List.length (List.map encO B)):Int))<0)))),(19,.imm (i64 (IntKind.wrap
 IntKind.i64 (IntKind.wrap IntKind.i64 (0+(↑(List.length (List.map encO A)):Int))+(↑(List.length (List.map encO B)):Int))))),(3,.imm (i64 (IntKind.wrap IntKind.i64 (IntKind.wrap IntKind.i64 (0+(↑(List.length (List.map encO A)):Int))+(↑(List.length (List.map encO B)):Int))))),(18,.imm (i64 (IntKind.wrap IntKind.i64 (IntKind.wrap IntKind.i64 (0+(↑(List.length (List.map encO A)):Int))+(↑(List.length (List.map encO B)):Int))))),(17,.imm (i64 (↑(List.length (List.map encO B)):Int))),(16,.imm (slE 6 encO B)),(15,.imm (i64 (IntKind.wrap IntKind.i64 (0+(↑(List.length
 (List.map encO A)):Int))))),(5,.imm (slE 6 encO B)),(14,.imm (slE 6 encO B)),(13,.ref false (slE 6 encO B) 0),(10,.imm (i64 2)),(9,.imm (.sl false false 1 [slE 6 encO A,slE 6 encO B])),(2,.imm nS),(0,.imm (.sl false false 1 [slE 6 encO A,slE 6 encO B]))] [] 36 32 []) 4 0 (Op.indexAddr 146 (Operand.tmp 9) (Operand.tmp 11))) (.need (ILeL [nS,i64 (IntKind.wrap IntKind.i64 (IntKind.wrap IntKind.i64 (0+(↑(List.length (List.map encO A)):Int))+(↑(List.length (List.map encO B)):Int)))] [nS,i64 (IntKind.wrap IntKind.i64 (IntKind.wrap IntKind.i64 (0+(↑(List.length (List.map encO A)):Int))+
 (↑(List.length (List.map encO B)):Int)))]∧OSpec prog 106 [nS,i64 (IntKind.wrap IntKind.i64 (IntKind.wrap IntKind.i64 (0+(↑(List.length (List.map encO A)):Int))+(↑(List.length (List.map encO B)):Int)))] 44 6 []) (.br true (.need (askA none (0=0∧true=true∧cellsOk (List.map encO A)=true∧0+List.length (List.map encO A)≤1000000)) (.br true (.need (askA none (List.length ([]++List.map encO A)=0+List.length (List.map encO A)∧cellsOk ([]++List.map encO A)=true∧cellsOk (List.map encO B)=true∧0+List.length (List.map encO A)+List.length (List.map encO B)≤
 1000000)) (.br false (.stop (LState.mk [(28,.imm (bo false)),(27,.imm (i64 2)),(34,.imm (i64 2)),(6,.own 54 (0+List.length (List.map encO A)+List.length (List.map encO B))),(33,.own 54 (0+List.length (List.map encO A)+List.length (List.map encO B))),(32,.imm (slE 6 encO B)),(31,.own 44 (0+List.length (List.map encO A))),(8,.imm (slE 6 encO B)),(30,.imm (slE 6 encO B)),(29,.ref false (slE 6 encO B) 0),(26,.imm (i64 2)),(25,.imm (.sl false false 1 [slE 6 encO A,slE 6 encO B])),(24,.own 33 0),(23,.imm (i64 (IntKind.wrap IntKind.i64 (IntKind.wrap IntKind.i64 (0+(↑(List.length (List.map
 encO A)):Int))+(↑(List.length (List.map encO B)):Int))))),(12,.imm (bo false)),(11,.imm (i64 2)),(22,.imm (i64 2)),(20,.imm (bo (decide (IntKind.wrap IntKind.i64 (IntKind.wrap IntKind.i64 (0+(↑(List.length (List.map encO A)):Int))+(↑(List.length (List.map encO B)):Int))<0)))),(19,.imm (i64 (IntKind.wrap IntKind.i64 (IntKind.wrap IntKind.i64 (0+(↑(List.length (List.map encO A)):Int))+(↑(List.length (List.map encO B)):Int))))),(3,.imm (i64 (IntKind.wrap IntKind.i64 (IntKind.wrap IntKind.i64 (0+(↑(List.length (List.map encO A)):Int))+(↑(List.length (List.map encO B))
 :Int))))),(18,.imm (i64 (IntKind.wrap IntKind.i64 (IntKind.wrap IntKind.i64 (0+(↑(List.length (List.map encO A)):Int))+(↑(List.length (List.map encO B)):Int))))),(17,.imm (i64 (↑(List.length (List.map encO B)):Int))),(16,.imm (slE 6 encO B)),(15,.imm (i64 (IntKind.wrap IntKind.i64 (0+(↑(List.length (List.map encO A)):Int))))),(5,.imm (slE 6 encO B)),(14,.imm (slE 6 encO B)),(13,.ref false (slE 6 encO B) 0),(10,.imm (i64 2)),(9,.imm (.sl false false 1 [slE 6 encO A,slE 6 encO B])),(2,.imm nS),(0,.imm (.sl false false 1 [slE 6 encO A,slE 6 encO B]))] [(54,Entry.row 44 6 ([]++
 List.map encO A++List.map encO B))] 36 59 []) 12 0 (Op.indexAddr 146 (Operand.tmp 25) (Operand.tmp 27))) (.need (List.length ([]++List.map encO A++List.map encO B)=0+List.length (List.map encO A)+List.length (List.map encO B)) (.done Exit.ret (lretO 44 6 ([]++List.map encO A++List.map encO B)))))) (.need (List.length ([]++List.map encO A)=0+List.length (List.map encO A)) (.done Exit.ret (lretO 44 6 ([]++List.map encO A)))))) (.need (0=0) (.done Exit.ret (lretO 44 6 []))))))) (.stop (LState.mk [(23,.imm (i64 (IntKind.wrap IntKind.i64 (0+(↑(List.length (List.map encO
 A)):Int))))),(12,.imm (bo true)),(11,.imm (i64 1)),(22,.imm (i64 1)),(20,.imm (bo (decide (IntKind.wrap IntKind.i64 (0+(↑(List.length (List.map encO A)):Int))<0)))),(19,.imm (i64 (IntKind.wrap IntKind.i64 (0+(↑(List.length (List.map encO A)):Int))))),(3,.imm (i64 (IntKind.wrap IntKind.i64 (0+(↑(List.length (List.map encO A)):Int))))),(18,.imm (i64 (IntKind.wrap IntKind.i64 (0+(↑(List.length (List.map encO A)):Int))))),(17,.imm (i64 (↑(List.length (List.map encO A)):Int))),(16,.imm (slE 6 encO A)),(15,.imm (i64 0)),(5,.imm (slE 6 encO A)),(14,.imm (slE 6 encO A)),(13,.ref
 false (slE 6 encO A) 0),(10,.imm (i64 2)),(9,.imm (.sl false false 1 [slE 6 encO A,slE 6 encO B])),(2,.imm nS),(0,.imm (.sl false false 1 [slE 6 encO A,slE 6 encO B]))] [] 36 19 []) 9 1 (Op.call (Call.mk (Callee.value (Operand.func 106)) (Array.mk [Operand.const (Value.slice none 0 0),Operand.tmp 23]) (Array.mk [22,3])))))) (.stop (LState.mk [(23,.imm (i64 0)),(12,.imm (bo true)),(11,.imm (i64 0)),(10,.imm (i64 2)),(9,.imm (.sl false false 1 [slE 6 encO A,slE 6 encO B])),(3,.imm (i64 0)),(2,.imm nS),(0,.imm (.sl false false 1 [slE 6 encO A,slE 6 encO B]))] [] 36 6 []) 9 1 (Op.call (Call.mk
 (Callee.value (Operand.func 106)) (Array.mk [Operand.const (Value.slice none 0 0),Operand.tmp 23]) (Array.mk [22,3])))):=by kernel_rfl
theorem o97 (A B:List Origin)(hA:A.length≤400000)(hB:B.length≤400000):OSpec prog 97 [.sl false false 1 [slE 6 encO A,slE 6 encO B]] 44 6 ((A++B).map encO):=by
 have e1:IntKind.i64.wrap ((0:Int)+((A.map encO).length:Int))=(A.length:Int):=by rw[List.length_map,IntWalk.i64_in _ (by omega)];omega
 have e2:IntKind.i64.wrap ((A.length:Int)+((B.map encO).length:Int))=((A.length+B.length:Nat):Int):=by rw[List.length_map,IntWalk.i64_in _ (by omega)];omega
 refine OSpec.tree Proofs.Try.f97 (T97 A B) (by kernel_rfl) (by kernel_rfl) ?_
 rw[t97]
 simp only[e1,e2]
 refine⟨fun _=>⟨fun h1=>?_,fun h1=>⟨fun _=>⟨fun h2=>?_,fun h2=>⟨fun h=>(by cases h),fun _=>need_sat ⟨ILeL.refl _,o106' _ ?_ ?_⟩ ⟨fun _=>need_sat ?_ ⟨fun _=>need_sat ?_ ⟨fun h=>(by cases h),fun _=>need_sat ?_ (.inl (lretO_ex ?_))⟩,fun h=>(by cases h)⟩,fun h=>(by cases h)⟩⟩⟩,fun h=>(by cases h)⟩⟩,fun h=>(by cases h)⟩
 ·simp at h1;omega
 ·simp at h2;omega
 ·omega
 ·omega
 ·exact⟨trivial,trivial,cellsOk_map encO (fun _=>rfl) _,by simp;omega⟩
 ·exact⟨by simp,cellsOk_map encO (fun _=>rfl) _,cellsOk_map encO (fun _=>rfl) _,by simp;omega⟩
 ·simp
 ·simp
def renGT :Shelf.Ren:=⟨fun x=>match x with|4=>108|n=>n,fun x=>match x with|22=>23|25=>47|n=>n,fun n=>n⟩
theorem growXT :Proofs.Lays8.n4 prog renGT where
 mixed:=by kernel_rfl
 f4:=⟨"slices.Grow[[]gatepath/api.Attest,gatepath/api.Attest]",by decide,Proofs.Try.func108.trans (congrArg some (by kernel_rfl))⟩
 t0:=Proofs.Try.underlying0
 a0:=Proofs.Try.isAgg0
 z0:=Proofs.Try.sizeOf0
 v0:=Proofs.Try.zeroValue0
 t3:=Proofs.Try.underlying3
 a3:=Proofs.Try.isAgg3
 z3:=Proofs.Try.sizeOf3
 v3:=Proofs.Try.zeroValue3
 t4:=Proofs.Try.underlying4
 a4:=Proofs.Try.isAgg4
 z4:=Proofs.Try.sizeOf4
 v4:=Proofs.Try.zeroValue4
 t9:=Proofs.Try.underlying9
 a9:=Proofs.Try.isAgg9
 z9:=Proofs.Try.sizeOf9
 v9:=Proofs.Try.zeroValue9
 t20:=Proofs.Try.underlying20
 a20:=Proofs.Try.isAgg20
 z20:=Proofs.Try.sizeOf20
 v20:=Proofs.Try.zeroValue20
 t22:=Proofs.Try.underlying23
 a22:=Proofs.Try.isAgg23
 z22:=Proofs.Try.sizeOf23
 v22:=Proofs.Try.zeroValue23
theorem o108 (n:Nat)(hn:n≤1000000):OSpec prog 108 [.v (.slice none 0 0),i64 n] 47 2 []:=by
 refine⟨by kernel_rfl,fun w F vs hF hcol hargs=>?_⟩
 have hvs:vs=#[.slice none 0 0,.int .i64 n]:=by
  rw[IRepL]at hargs
  obtain⟨u,us,h1,h2,h3⟩:=hargs
  rw[IRepL]at h3
  obtain⟨u',us',h4,h5,h6⟩:=h3
  rw[IRepL]at h6
  rw[IRep]at h2
  rw[i64,IRep]at h5
  rw[←Array.toList_inj,h1,h4,h6,h2.1,h5.1]
 subst hvs
 by_cases h0:n=0
 ·subst h0
  refine(Proofs.Any8.slices_Grow_room growXT none 0 0 0 w (by omega) (by omega) (by omega) (by omega)).mono ?_
  rintro e w' ⟨rfl,rfl⟩
  exact⟨⟨0,0,0,true,none⟩,F,rfl,⟨rfl,rfl,rfl,Nat.le_refl _,fun _ _=>rfl⟩,fun _ _ h=>h,fun _ _ h=>.inl h,hF,hcol,.inl ⟨rfl,rfl⟩,fun h=>by cases h⟩
 ·obtain⟨i0,z,hi0,hs0,hk0,hb0,hz0,hzc⟩:=tel_spec (show tel prog 47 2=true by kernel_rfl)
  refine(Proofs.Any8.slices_Grow_grow growXT i0 z hi0 hz0 (by omega) none 0 0 n [] w (by omega) (by omega) ?_ (by omega) (by simp) (fun _=>rfl) (fun a h=>by cases h)).mono ?_
  ·have:n*i0.bytes≤1000000*65536:=Nat.mul_le_mul hn hb0
   rw[Nat.zero_add];omega
  rintro e w' ⟨rfl,rfl⟩
  rw[Nat.zero_add]
  have hge:n≤grownCap w n 0 47:=grownCap_ge w _ _ _
  refine⟨⟨w.heap.size,0,grownCap w n 0 47,false,none⟩,F,rfl,⟨rfl,rfl,rfl,by rw[heap_alloc_size];exact Nat.le_succ _,fun b hb=>?_⟩,fun _ _ h=>h,fun _ _ h=>.inl h,fun c b h=>?_,hcol,.inr ⟨rfl,#[]++Builtin.zeroCells z.cells (n-0)++Builtin.zeroCells z.cells (grownCap w n 0 47-n),(0,0),[],?_,?_,?_,Nat.zero_le _,rfl,trivial⟩,fun _=>⟨Nat.le_refl _,fun c h=>?_⟩⟩
  ·exact heap_alloc_old w.drew _ hb
  ·have:=hF c b h;rw[heap_alloc_size];show b<w.heap.size+1;omega
  ·exact heap_alloc_new w.drew _
  ·intro j _;simp
  ·simp only[Array.size_append,size_zeroCells,hzc,Nat.sub_zero]
   have:grownCap w n 0 47*2=n*2+(grownCap w n 0 47-n)*2:=by rw[←Nat.add_mul];congr 1;omega
   simp;omega
  ·have:=hF c w.heap.size h;omega
theorem o108' (n:Int)(h0:0≤n)(hn:n≤1000000):OSpec prog 108 [.v (.slice none 0 0),i64 n] 47 2 []:=by
 obtain⟨n,rfl⟩:=Int.eq_ofNat_of_zero_le h0
 exact o108 n (by omega)
def T99 (A B:List Attest):Tell:=
 Tell.mk (fun x x_1=>false) (fun x x_1=>Orc.no) (fun x=>Tree.fail 1000003 0) (fun x=>3) (fun x=>([],[])) (oget [(6,4,0,Orc.ext [] (.tup [])),(19,4,0,Orc.ext [] (.tup [])),(32,9,1,Orc.callo [nS,i64 (IntKind.wrap IntKind.i64 (IntKind.wrap IntKind.i64 (0+(↑(List.length (List.map encT A)):Int))+(↑(List.length (List.map encT B)):Int)))] 47 2 []),(39,12,0,Orc.ext [] (.tup [])),(49,12,0,Orc.ext [] (.tup []))]) fun x x_1=>Tree.fail 1000003 0
theorem t99 (A B:List Attest):levO prog Proofs.Try.f99 [.sl false false 1 [slE 2 encT A,slE 2 encT B]] (T99 A B)=
 Tree.br true (.br (decide (IntKind.wrap IntKind.i64 (0+(↑(List.length (List.map encT A)):Int))<0)) (.fail 1000006 1) (.br true (.br (decide (IntKind.wrap IntKind.i64 (IntKind.wrap IntKind.i64 (0+(↑(List.length (List.map encT A)):Int))+(↑(List.length (List.map encT B)):Int))<0)) (.fail 1000006 1) (.br false (.stop (LState.mk [(12,.imm (bo false)),(11,.imm (i64 2)),(22,.imm (i64 2)),(20,.imm (bo (decide (IntKind.wrap IntKind.i64 (IntKind.wrap IntKind.i64 (0+(↑(List.length (List.map encT A)):Int))+(↑(List.length (List.map encT B)):Int))<0)))),(19,.imm (i64 (IntKind.wrap
 IntKind.i64 (IntKind.wrap IntKind.i64 (0+(↑(List.length (List.map encT A)):Int))+(↑(List.length (List.map encT B)):Int))))),(3,.imm (i64 (IntKind.wrap IntKind.i64 (IntKind.wrap IntKind.i64 (0+(↑(List.length (List.map encT A)):Int))+(↑(List.length (List.map encT B)):Int))))),(18,.imm (i64 (IntKind.wrap IntKind.i64 (IntKind.wrap IntKind.i64 (0+(↑(List.length (List.map encT A)):Int))+(↑(List.length (List.map encT B)):Int))))),(17,.imm (i64 (↑(List.length (List.map encT B)):Int))),(16,.imm (slE 2 encT B)),(15,.imm (i64 (IntKind.wrap IntKind.i64 (0+(↑(List.length
 (List.map encT A)):Int))))),(5,.imm (slE 2 encT B)),(14,.imm (slE 2 encT B)),(13,.ref false (slE 2 encT B) 0),(10,.imm (i64 2)),(9,.imm (.sl false false 1 [slE 2 encT A,slE 2 encT B])),(2,.imm nS),(0,.imm (.sl false false 1 [slE 2 encT A,slE 2 encT B]))] [] 36 32 []) 4 0 (Op.indexAddr 149 (Operand.tmp 9) (Operand.tmp 11))) (.need (ILeL [nS,i64 (IntKind.wrap IntKind.i64 (IntKind.wrap IntKind.i64 (0+(↑(List.length (List.map encT A)):Int))+(↑(List.length (List.map encT B)):Int)))] [nS,i64 (IntKind.wrap IntKind.i64 (IntKind.wrap IntKind.i64 (0+(↑(List.length (List.map encT A)):Int))+
 (↑(List.length (List.map encT B)):Int)))]∧OSpec prog 108 [nS,i64 (IntKind.wrap IntKind.i64 (IntKind.wrap IntKind.i64 (0+(↑(List.length (List.map encT A)):Int))+(↑(List.length (List.map encT B)):Int)))] 47 2 []) (.br true (.need (askA none (0=0∧true=true∧cellsOk (List.map encT A)=true∧0+List.length (List.map encT A)≤1000000)) (.br true (.need (askA none (List.length ([]++List.map encT A)=0+List.length (List.map encT A)∧cellsOk ([]++List.map encT A)=true∧cellsOk (List.map encT B)=true∧0+List.length (List.map encT A)+List.length (List.map encT B)≤
 1000000)) (.br false (.stop (LState.mk [(28,.imm (bo false)),(27,.imm (i64 2)),(34,.imm (i64 2)),(6,.own 54 (0+List.length (List.map encT A)+List.length (List.map encT B))),(33,.own 54 (0+List.length (List.map encT A)+List.length (List.map encT B))),(32,.imm (slE 2 encT B)),(31,.own 44 (0+List.length (List.map encT A))),(8,.imm (slE 2 encT B)),(30,.imm (slE 2 encT B)),(29,.ref false (slE 2 encT B) 0),(26,.imm (i64 2)),(25,.imm (.sl false false 1 [slE 2 encT A,slE 2 encT B])),(24,.own 33 0),(23,.imm (i64 (IntKind.wrap IntKind.i64 (IntKind.wrap IntKind.i64 (0+(↑(List.length (List.map
 encT A)):Int))+(↑(List.length (List.map encT B)):Int))))),(12,.imm (bo false)),(11,.imm (i64 2)),(22,.imm (i64 2)),(20,.imm (bo (decide (IntKind.wrap IntKind.i64 (IntKind.wrap IntKind.i64 (0+(↑(List.length (List.map encT A)):Int))+(↑(List.length (List.map encT B)):Int))<0)))),(19,.imm (i64 (IntKind.wrap IntKind.i64 (IntKind.wrap IntKind.i64 (0+(↑(List.length (List.map encT A)):Int))+(↑(List.length (List.map encT B)):Int))))),(3,.imm (i64 (IntKind.wrap IntKind.i64 (IntKind.wrap IntKind.i64 (0+(↑(List.length (List.map encT A)):Int))+(↑(List.length (List.map encT B))
 :Int))))),(18,.imm (i64 (IntKind.wrap IntKind.i64 (IntKind.wrap IntKind.i64 (0+(↑(List.length (List.map encT A)):Int))+(↑(List.length (List.map encT B)):Int))))),(17,.imm (i64 (↑(List.length (List.map encT B)):Int))),(16,.imm (slE 2 encT B)),(15,.imm (i64 (IntKind.wrap IntKind.i64 (0+(↑(List.length (List.map encT A)):Int))))),(5,.imm (slE 2 encT B)),(14,.imm (slE 2 encT B)),(13,.ref false (slE 2 encT B) 0),(10,.imm (i64 2)),(9,.imm (.sl false false 1 [slE 2 encT A,slE 2 encT B])),(2,.imm nS),(0,.imm (.sl false false 1 [slE 2 encT A,slE 2 encT B]))] [(54,Entry.row 47 2 ([]++
 List.map encT A++List.map encT B))] 36 59 []) 12 0 (Op.indexAddr 149 (Operand.tmp 25) (Operand.tmp 27))) (.need (List.length ([]++List.map encT A++List.map encT B)=0+List.length (List.map encT A)+List.length (List.map encT B)) (.done Exit.ret (lretO 47 2 ([]++List.map encT A++List.map encT B)))))) (.need (List.length ([]++List.map encT A)=0+List.length (List.map encT A)) (.done Exit.ret (lretO 47 2 ([]++List.map encT A)))))) (.need (0=0) (.done Exit.ret (lretO 47 2 []))))))) (.stop (LState.mk [(23,.imm (i64 (IntKind.wrap IntKind.i64 (0+(↑(List.length (List.map encT
 A)):Int))))),(12,.imm (bo true)),(11,.imm (i64 1)),(22,.imm (i64 1)),(20,.imm (bo (decide (IntKind.wrap IntKind.i64 (0+(↑(List.length (List.map encT A)):Int))<0)))),(19,.imm (i64 (IntKind.wrap IntKind.i64 (0+(↑(List.length (List.map encT A)):Int))))),(3,.imm (i64 (IntKind.wrap IntKind.i64 (0+(↑(List.length (List.map encT A)):Int))))),(18,.imm (i64 (IntKind.wrap IntKind.i64 (0+(↑(List.length (List.map encT A)):Int))))),(17,.imm (i64 (↑(List.length (List.map encT A)):Int))),(16,.imm (slE 2 encT A)),(15,.imm (i64 0)),(5,.imm (slE 2 encT A)),(14,.imm (slE 2 encT A)),(13,.ref
 false (slE 2 encT A) 0),(10,.imm (i64 2)),(9,.imm (.sl false false 1 [slE 2 encT A,slE 2 encT B])),(2,.imm nS),(0,.imm (.sl false false 1 [slE 2 encT A,slE 2 encT B]))] [] 36 19 []) 9 1 (Op.call (Call.mk (Callee.value (Operand.func 108)) (Array.mk [Operand.const (Value.slice none 0 0),Operand.tmp 23]) (Array.mk [23,3])))))) (.stop (LState.mk [(23,.imm (i64 0)),(12,.imm (bo true)),(11,.imm (i64 0)),(10,.imm (i64 2)),(9,.imm (.sl false false 1 [slE 2 encT A,slE 2 encT B])),(3,.imm (i64 0)),(2,.imm nS),(0,.imm (.sl false false 1 [slE 2 encT A,slE 2 encT B]))] [] 36 6 []) 9 1 (Op.call (Call.mk
 (Callee.value (Operand.func 108)) (Array.mk [Operand.const (Value.slice none 0 0),Operand.tmp 23]) (Array.mk [23,3])))):=by kernel_rfl
theorem o99 (A B:List Attest)(hA:A.length≤400000)(hB:B.length≤400000):OSpec prog 99 [.sl false false 1 [slE 2 encT A,slE 2 encT B]] 47 2 ((A++B).map encT):=by
 have e1:IntKind.i64.wrap ((0:Int)+((A.map encT).length:Int))=(A.length:Int):=by rw[List.length_map,IntWalk.i64_in _ (by omega)];omega
 have e2:IntKind.i64.wrap ((A.length:Int)+((B.map encT).length:Int))=((A.length+B.length:Nat):Int):=by rw[List.length_map,IntWalk.i64_in _ (by omega)];omega
 refine OSpec.tree Proofs.Try.f99 (T99 A B) (by kernel_rfl) (by kernel_rfl) ?_
 rw[t99]
 simp only[e1,e2]
 refine⟨fun _=>⟨fun h1=>?_,fun h1=>⟨fun _=>⟨fun h2=>?_,fun h2=>⟨fun h=>(by cases h),fun _=>need_sat ⟨ILeL.refl _,o108' _ ?_ ?_⟩ ⟨fun _=>need_sat ?_ ⟨fun _=>need_sat ?_ ⟨fun h=>(by cases h),fun _=>need_sat ?_ (.inl (lretO_ex ?_))⟩,fun h=>(by cases h)⟩,fun h=>(by cases h)⟩⟩⟩,fun h=>(by cases h)⟩⟩,fun h=>(by cases h)⟩
 ·simp at h1;omega
 ·simp at h2;omega
 ·omega
 ·omega
 ·exact⟨trivial,trivial,cellsOk_map encT (fun _=>rfl) _,by simp;omega⟩
 ·exact⟨by simp,cellsOk_map encT (fun _=>rfl) _,cellsOk_map encT (fun _=>rfl) _,by simp;omega⟩
 ·simp
 ·simp
def renGK :Shelf.Ren:=⟨fun x=>match x with|4=>110|n=>n,fun x=>match x with|22=>24|25=>53|n=>n,fun n=>n⟩
theorem growXK :Proofs.Lays8.n4 prog renGK where
 mixed:=by kernel_rfl
 f4:=⟨"slices.Grow[[]gatepath/api.RouterKey,gatepath/api.RouterKey]",by decide,Proofs.Try.func110.trans (congrArg some (by kernel_rfl))⟩
 t0:=Proofs.Try.underlying0
 a0:=Proofs.Try.isAgg0
 z0:=Proofs.Try.sizeOf0
 v0:=Proofs.Try.zeroValue0
 t3:=Proofs.Try.underlying3
 a3:=Proofs.Try.isAgg3
 z3:=Proofs.Try.sizeOf3
 v3:=Proofs.Try.zeroValue3
 t4:=Proofs.Try.underlying4
 a4:=Proofs.Try.isAgg4
 z4:=Proofs.Try.sizeOf4
 v4:=Proofs.Try.zeroValue4
 t9:=Proofs.Try.underlying9
 a9:=Proofs.Try.isAgg9
 z9:=Proofs.Try.sizeOf9
 v9:=Proofs.Try.zeroValue9
 t20:=Proofs.Try.underlying20
 a20:=Proofs.Try.isAgg20
 z20:=Proofs.Try.sizeOf20
 v20:=Proofs.Try.zeroValue20
 t22:=Proofs.Try.underlying24
 a22:=Proofs.Try.isAgg24
 z22:=Proofs.Try.sizeOf24
 v22:=Proofs.Try.zeroValue24
theorem o110 (n:Nat)(hn:n≤1000000):OSpec prog 110 [.v (.slice none 0 0),i64 n] 53 18 []:=by
 refine⟨by kernel_rfl,fun w F vs hF hcol hargs=>?_⟩
 have hvs:vs=#[.slice none 0 0,.int .i64 n]:=by
  rw[IRepL]at hargs
  obtain⟨u,us,h1,h2,h3⟩:=hargs
  rw[IRepL]at h3
  obtain⟨u',us',h4,h5,h6⟩:=h3
  rw[IRepL]at h6
  rw[IRep]at h2
  rw[i64,IRep]at h5
  rw[←Array.toList_inj,h1,h4,h6,h2.1,h5.1]
 subst hvs
 by_cases h0:n=0
 ·subst h0
  refine(Proofs.Any8.slices_Grow_room growXK none 0 0 0 w (by omega) (by omega) (by omega) (by omega)).mono ?_
  rintro e w' ⟨rfl,rfl⟩
  exact⟨⟨0,0,0,true,none⟩,F,rfl,⟨rfl,rfl,rfl,Nat.le_refl _,fun _ _=>rfl⟩,fun _ _ h=>h,fun _ _ h=>.inl h,hF,hcol,.inl ⟨rfl,rfl⟩,fun h=>by cases h⟩
 ·obtain⟨i0,z,hi0,hs0,hk0,hb0,hz0,hzc⟩:=tel_spec (show tel prog 53 18=true by kernel_rfl)
  refine(Proofs.Any8.slices_Grow_grow growXK i0 z hi0 hz0 (by omega) none 0 0 n [] w (by omega) (by omega) ?_ (by omega) (by simp) (fun _=>rfl) (fun a h=>by cases h)).mono ?_
  ·have:n*i0.bytes≤1000000*65536:=Nat.mul_le_mul hn hb0
   rw[Nat.zero_add];omega
  rintro e w' ⟨rfl,rfl⟩
  rw[Nat.zero_add]
  have hge:n≤grownCap w n 0 53:=grownCap_ge w _ _ _
  refine⟨⟨w.heap.size,0,grownCap w n 0 53,false,none⟩,F,rfl,⟨rfl,rfl,rfl,by rw[heap_alloc_size];exact Nat.le_succ _,fun b hb=>?_⟩,fun _ _ h=>h,fun _ _ h=>.inl h,fun c b h=>?_,hcol,.inr ⟨rfl,#[]++Builtin.zeroCells z.cells (n-0)++Builtin.zeroCells z.cells (grownCap w n 0 53-n),(0,0),[],?_,?_,?_,Nat.zero_le _,rfl,trivial⟩,fun _=>⟨Nat.le_refl _,fun c h=>?_⟩⟩
  ·exact heap_alloc_old w.drew _ hb
  ·have:=hF c b h;rw[heap_alloc_size];show b<w.heap.size+1;omega
  ·exact heap_alloc_new w.drew _
  ·intro j _;simp
  ·simp only[Array.size_append,size_zeroCells,hzc,Nat.sub_zero]
   have:grownCap w n 0 53*18=n*18+(grownCap w n 0 53-n)*18:=by rw[←Nat.add_mul];congr 1;omega
   simp;omega
  ·have:=hF c w.heap.size h;omega
theorem o110' (n:Int)(h0:0≤n)(hn:n≤1000000):OSpec prog 110 [.v (.slice none 0 0),i64 n] 53 18 []:=by
 obtain⟨n,rfl⟩:=Int.eq_ofNat_of_zero_le h0
 exact o110 n (by omega)
def T101 (A B:List RKey):Tell:=
 Tell.mk (fun x x_1=>false) (fun x x_1=>Orc.no) (fun x=>Tree.fail 1000003 0) (fun x=>3) (fun x=>([],[])) (oget [(6,4,0,Orc.ext [] (.tup [])),(19,4,0,Orc.ext [] (.tup [])),(32,9,1,Orc.callo [nS,i64 (IntKind.wrap IntKind.i64 (IntKind.wrap IntKind.i64 (0+(↑(List.length (List.map encK A)):Int))+(↑(List.length (List.map encK B)):Int)))] 53 18 []),(39,12,0,Orc.ext [] (.tup [])),(49,12,0,Orc.ext [] (.tup []))]) fun x x_1=>Tree.fail 1000003 0
theorem t101 (A B:List RKey):levO prog Proofs.Try.f101 [.sl false false 1 [slE 18 encK A,slE 18 encK B]] (T101 A B)=
 Tree.br true (.br (decide (IntKind.wrap IntKind.i64 (0+(↑(List.length (List.map encK A)):Int))<0)) (.fail 1000006 1) (.br true (.br (decide (IntKind.wrap IntKind.i64 (IntKind.wrap IntKind.i64 (0+(↑(List.length (List.map encK A)):Int))+(↑(List.length (List.map encK B)):Int))<0)) (.fail 1000006 1) (.br false (.stop (LState.mk [(12,.imm (bo false)),(11,.imm (i64 2)),(22,.imm (i64 2)),(20,.imm (bo (decide (IntKind.wrap IntKind.i64 (IntKind.wrap IntKind.i64 (0+(↑(List.length (List.map encK A)):Int))+(↑(List.length (List.map encK B)):Int))<0)))),(19,.imm (i64 (IntKind.wrap
 IntKind.i64 (IntKind.wrap IntKind.i64 (0+(↑(List.length (List.map encK A)):Int))+(↑(List.length (List.map encK B)):Int))))),(3,.imm (i64 (IntKind.wrap IntKind.i64 (IntKind.wrap IntKind.i64 (0+(↑(List.length (List.map encK A)):Int))+(↑(List.length (List.map encK B)):Int))))),(18,.imm (i64 (IntKind.wrap IntKind.i64 (IntKind.wrap IntKind.i64 (0+(↑(List.length (List.map encK A)):Int))+(↑(List.length (List.map encK B)):Int))))),(17,.imm (i64 (↑(List.length (List.map encK B)):Int))),(16,.imm (slE 18 encK B)),(15,.imm (i64 (IntKind.wrap IntKind.i64 (0+(↑(List.length
 (List.map encK A)):Int))))),(5,.imm (slE 18 encK B)),(14,.imm (slE 18 encK B)),(13,.ref false (slE 18 encK B) 0),(10,.imm (i64 2)),(9,.imm (.sl false false 1 [slE 18 encK A,slE 18 encK B])),(2,.imm nS),(0,.imm (.sl false false 1 [slE 18 encK A,slE 18 encK B]))] [] 36 32 []) 4 0 (Op.indexAddr 152 (Operand.tmp 9) (Operand.tmp 11))) (.need (ILeL [nS,i64 (IntKind.wrap IntKind.i64 (IntKind.wrap IntKind.i64 (0+(↑(List.length (List.map encK A)):Int))+(↑(List.length (List.map encK B)):Int)))] [nS,i64 (IntKind.wrap IntKind.i64 (IntKind.wrap IntKind.i64 (0+(↑(List.length (List.map encK A)):
 Int))+(↑(List.length (List.map encK B)):Int)))]∧OSpec prog 110 [nS,i64 (IntKind.wrap IntKind.i64 (IntKind.wrap IntKind.i64 (0+(↑(List.length (List.map encK A)):Int))+(↑(List.length (List.map encK B)):Int)))] 53 18 []) (.br true (.need (askA none (0=0∧true=true∧cellsOk (List.map encK A)=true∧0+List.length (List.map encK A)≤1000000)) (.br true (.need (askA none (List.length ([]++List.map encK A)=0+List.length (List.map encK A)∧cellsOk ([]++List.map encK A)=true∧cellsOk (List.map encK B)=true∧0+List.length (List.map encK A)+List.length (List.map
 encK B)≤1000000)) (.br false (.stop (LState.mk [(28,.imm (bo false)),(27,.imm (i64 2)),(34,.imm (i64 2)),(6,.own 54 (0+List.length (List.map encK A)+List.length (List.map encK B))),(33,.own 54 (0+List.length (List.map encK A)+List.length (List.map encK B))),(32,.imm (slE 18 encK B)),(31,.own 44 (0+List.length (List.map encK A))),(8,.imm (slE 18 encK B)),(30,.imm (slE 18 encK B)),(29,.ref false (slE 18 encK B) 0),(26,.imm (i64 2)),(25,.imm (.sl false false 1 [slE 18 encK A,slE 18 encK B])),(24,.own 33 0),(23,.imm (i64 (IntKind.wrap IntKind.i64 (IntKind.wrap IntKind.i64 (0+
 (↑(List.length (List.map encK A)):Int))+(↑(List.length (List.map encK B)):Int))))),(12,.imm (bo false)),(11,.imm (i64 2)),(22,.imm (i64 2)),(20,.imm (bo (decide (IntKind.wrap IntKind.i64 (IntKind.wrap IntKind.i64 (0+(↑(List.length (List.map encK A)):Int))+(↑(List.length (List.map encK B)):Int))<0)))),(19,.imm (i64 (IntKind.wrap IntKind.i64 (IntKind.wrap IntKind.i64 (0+(↑(List.length (List.map encK A)):Int))+(↑(List.length (List.map encK B)):Int))))),(3,.imm (i64 (IntKind.wrap IntKind.i64 (IntKind.wrap IntKind.i64 (0+(↑(List.length (List.map encK A)):Int))+
 (↑(List.length (List.map encK B)):Int))))),(18,.imm (i64 (IntKind.wrap IntKind.i64 (IntKind.wrap IntKind.i64 (0+(↑(List.length (List.map encK A)):Int))+(↑(List.length (List.map encK B)):Int))))),(17,.imm (i64 (↑(List.length (List.map encK B)):Int))),(16,.imm (slE 18 encK B)),(15,.imm (i64 (IntKind.wrap IntKind.i64 (0+(↑(List.length (List.map encK A)):Int))))),(5,.imm (slE 18 encK B)),(14,.imm (slE 18 encK B)),(13,.ref false (slE 18 encK B) 0),(10,.imm (i64 2)),(9,.imm (.sl false false 1 [slE 18 encK A,slE 18 encK B])),(2,.imm nS),(0,.imm (.sl false false 1 [slE 18 encK A,slE 18
 encK B]))] [(54,Entry.row 53 18 ([]++List.map encK A++List.map encK B))] 36 59 []) 12 0 (Op.indexAddr 152 (Operand.tmp 25) (Operand.tmp 27))) (.need (List.length ([]++List.map encK A++List.map encK B)=0+List.length (List.map encK A)+List.length (List.map encK B)) (.done Exit.ret (lretO 53 18 ([]++List.map encK A++List.map encK B)))))) (.need (List.length ([]++List.map encK A)=0+List.length (List.map encK A)) (.done Exit.ret (lretO 53 18 ([]++List.map encK A)))))) (.need (0=0) (.done Exit.ret (lretO 53 18 []))))))) (.stop (LState.mk [(23,.imm (i64 (IntKind.wrap
 IntKind.i64 (0+(↑(List.length (List.map encK A)):Int))))),(12,.imm (bo true)),(11,.imm (i64 1)),(22,.imm (i64 1)),(20,.imm (bo (decide (IntKind.wrap IntKind.i64 (0+(↑(List.length (List.map encK A)):Int))<0)))),(19,.imm (i64 (IntKind.wrap IntKind.i64 (0+(↑(List.length (List.map encK A)):Int))))),(3,.imm (i64 (IntKind.wrap IntKind.i64 (0+(↑(List.length (List.map encK A)):Int))))),(18,.imm (i64 (IntKind.wrap IntKind.i64 (0+(↑(List.length (List.map encK A)):Int))))),(17,.imm (i64 (↑(List.length (List.map encK A)):Int))),(16,.imm (slE 18 encK A)),(15,.imm (i64 0)),(5,.imm
 (slE 18 encK A)),(14,.imm (slE 18 encK A)),(13,.ref false (slE 18 encK A) 0),(10,.imm (i64 2)),(9,.imm (.sl false false 1 [slE 18 encK A,slE 18 encK B])),(2,.imm nS),(0,.imm (.sl false false 1 [slE 18 encK A,slE 18 encK B]))] [] 36 19 []) 9 1 (Op.call (Call.mk (Callee.value (Operand.func 110)) (Array.mk [Operand.const (Value.slice none 0 0),Operand.tmp 23]) (Array.mk [24,3])))))) (.stop (LState.mk [(23,.imm (i64 0)),(12,.imm (bo true)),(11,.imm (i64 0)),(10,.imm (i64 2)),(9,.imm (.sl false false 1 [slE 18 encK A,slE 18 encK B])),(3,.imm (i64 0)),(2,.imm nS),(0,.imm (.sl false false 1 [slE 18
 encK A,slE 18 encK B]))] [] 36 6 []) 9 1 (Op.call (Call.mk (Callee.value (Operand.func 110)) (Array.mk [Operand.const (Value.slice none 0 0),Operand.tmp 23]) (Array.mk [24,3])))):=by kernel_rfl
theorem o101 (A B:List RKey)(hA:A.length≤400000)(hB:B.length≤400000):OSpec prog 101 [.sl false false 1 [slE 18 encK A,slE 18 encK B]] 53 18 ((A++B).map encK):=by
 have e1:IntKind.i64.wrap ((0:Int)+((A.map encK).length:Int))=(A.length:Int):=by rw[List.length_map,IntWalk.i64_in _ (by omega)];omega
 have e2:IntKind.i64.wrap ((A.length:Int)+((B.map encK).length:Int))=((A.length+B.length:Nat):Int):=by rw[List.length_map,IntWalk.i64_in _ (by omega)];omega
 refine OSpec.tree Proofs.Try.f101 (T101 A B) (by kernel_rfl) (by kernel_rfl) ?_
 rw[t101]
 simp only[e1,e2]
 refine⟨fun _=>⟨fun h1=>?_,fun h1=>⟨fun _=>⟨fun h2=>?_,fun h2=>⟨fun h=>(by cases h),fun _=>need_sat ⟨ILeL.refl _,o110' _ ?_ ?_⟩ ⟨fun _=>need_sat ?_ ⟨fun _=>need_sat ?_ ⟨fun h=>(by cases h),fun _=>need_sat ?_ (.inl (lretO_ex ?_))⟩,fun h=>(by cases h)⟩,fun h=>(by cases h)⟩⟩⟩,fun h=>(by cases h)⟩⟩,fun h=>(by cases h)⟩
 ·simp at h1;omega
 ·simp at h2;omega
 ·omega
 ·omega
 ·exact⟨trivial,trivial,cellsOk_map encK (fun _=>rfl) _,by simp;omega⟩
 ·exact⟨by simp,cellsOk_map encK (fun _=>rfl) _,cellsOk_map encK (fun _=>rfl) _,by simp;omega⟩
 ·simp
 ·simp
end Gp
