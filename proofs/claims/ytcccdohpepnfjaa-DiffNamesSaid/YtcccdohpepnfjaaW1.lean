/- Part 1 of the walk and of the plain law of DiffNames. -/
import Derived.Test.YtcccdohpepnfjaaFw5
import Derived.Test.YtcccdohpepnfjaaChecked
import Derived.KernelRfl
import Derived.IntWalk
import Derived.Lib.BytesEntry
import Derived.Lib.Bytealg
import Derived.Laws.Externs
set_option maxRecDepth 100000
set_option maxHeartbeats 0
set_option linter.unusedVariables false
set_option linter.unusedSimpArgs false
open Go Go.Abs
namespace Gp
def nS :IVal:=.v (.slice none 0 0)
section
variable {α:Type} [Inhabited α]
def swp (l:List α)(i j:Nat):List α:=(l.set i (l.getD j default)).set j (l.getD i default)
theorem swp_length (l:List α)(i j:Nat):(swp l i j).length=l.length:=by simp[swp]
theorem swp_getD {l:List α}{i j:Nat}(hi:i<l.length)(hj:j<l.length)(x:Nat):(swp l i j).getD x default=if x=j then l.getD i default else if x=i then l.getD j default else l.getD x default:=by
 simp only[swp,List.getD_eq_getElem?_getD,List.getElem?_set,List.length_set]
 by_cases h1:j=x
 ·subst h1;simp[hj]
 ·have h1':¬x=j:=fun e=>h1 e.symm
  by_cases h2:i=x
  ·subst h2;simp[hi,h1,h1']
  ·have h2':¬x=i:=fun e=>h2 e.symm
   simp[h1,h2,h1',h2']
theorem swp_perm {l:List α}{i j:Nat}(hi:i<l.length)(hj:j<l.length):(swp l i j).Perm l:=by
 have:=List.set_set_perm hi hj
 simpa[swp,List.getD_eq_getElem?_getD,List.getElem?_eq_getElem hi,List.getElem?_eq_getElem hj]using this
def swR (l:List α)(a b:Nat):Nat→List α
 |0=>l
 |n+1=>swp (swR l a b n) (a+n) (b+n)
theorem swR_length (l:List α)(a b:Nat):∀n,(swR l a b n).length=l.length
 |0=>rfl
 |n+1=>by rw[swR,swp_length,swR_length]
theorem swR_perm (l:List α)(a b:Nat):∀n,a+n≤l.length→b+n≤l.length→(swR l a b n).Perm l
 |0,_,_=>.refl _
 |n+1,h1,h2=>by
  rw[swR]
  exact(swp_perm (by rw[swR_length];omega) (by rw[swR_length];omega)).trans (swR_perm l a b n (by omega) (by omega))
theorem swR_getD (l:List α)(a b:Nat):∀n,a+n≤b→b+n≤l.length→∀x,(swR l a b n).getD x default=if a≤x∧x<a+n then l.getD (b+(x-a)) default else if b≤x∧x<b+n then l.getD (a+(x-b)) default else l.getD x default
 |0,_,_,x=>by rw[swR,if_neg (by omega),if_neg (by omega)]
 |n+1,h1,h2,x=>by
  have ih:=swR_getD l a b n (by omega) (by omega)
  rw[swR,swp_getD (by rw[swR_length];omega) (by rw[swR_length];omega),ih,ih,ih]
  (repeat' split)<;>first|rfl|omega|(congr 1;omega)
def rot (m:Nat):Nat→Nat→Nat→List α→List α
 |0,_,_,l=>l
 |f+1,i,j,l=>if i=j then swR l (m-i) m i else if j<i then rot m f (i-j) j (swR l (m-i) m j)else rot m f i (j-i) (swR l (m-i) (m+j-i) i)
theorem rot_length (m:Nat):∀f i j(l:List α),(rot m f i j l).length=l.length
 |0,_,_,_=>rfl
 |f+1,i,j,l=>by
  rw[rot]
  split
  ·rw[swR_length]
  ·split
   ·rw[rot_length,swR_length]
   ·rw[rot_length,swR_length]
theorem rot_perm (m:Nat):∀f i j(l:List α),i≤m→m+j≤l.length→(rot m f i j l).Perm l
 |0,_,_,_,_,_=>.refl _
 |f+1,i,j,l,h1,h2=>by
  rw[rot]
  split
  ·exact swR_perm _ _ _ _ (by omega) (by omega)
  ·split
   ·exact(rot_perm m f _ _ _ (by omega) (by rw[swR_length];omega)).trans (swR_perm _ _ _ _ (by omega) (by omega))
   ·exact(rot_perm m f _ _ _ (by omega) (by rw[swR_length];omega)).trans (swR_perm _ _ _ _ (by omega) (by omega))
theorem rot_getD (m:Nat):∀f i j(l:List α),0<i→0<j→i+j≤f→i≤m→m+j≤l.length→∀x,(rot m f i j l).getD x default=if m-i≤x∧x<m-i+j then l.getD (x+i) default else if m-i+j≤x∧x<m+j then l.getD (x-j) default else l.getD x default
 |0,i,j,l,h1,h2,h3,_,_,x=>by omega
 |f+1,i,j,l,h1,h2,h3,h4,h5,x=>by
  rw[rot]
  by_cases e:i=j
  ·subst e
   rw[if_pos rfl,swR_getD _ _ _ _ (by omega) (by omega)]
   (repeat' split)<;>first|rfl|omega|(congr 1;omega)
  ·rw[if_neg e]
   by_cases e2:j<i
   ·rw[if_pos e2,rot_getD m f _ _ _ (by omega) h2 (by omega) (by omega) (by rw[swR_length];omega)]
    simp only[swR_getD l (m-i) m j (by omega) (by omega)]
    (repeat' split)<;>first|rfl|omega|(congr 1;omega)
   ·rw[if_neg e2,rot_getD m f _ _ _ h1 (by omega) (by omega) (by omega) (by rw[swR_length];omega)]
    simp only[swR_getD l (m-i) (m+j-i) i (by omega) (by omega)]
    (repeat' split)<;>first|rfl|omega|(congr 1;omega)
def rotE (m:Nat):Nat→Nat→Nat→List α→Nat×List α
 |0,i,_,l=>(i,l)
 |f+1,i,j,l=>if i=j then(i,l)else if j<i then rotE m f (i-j) j (swR l (m-i) m j)else rotE m f i (j-i) (swR l (m-i) (m+j-i) i)
theorem rotE_spec (m:Nat):∀f i j(l:List α),0<i→0<j→i+j≤f→i≤m→m+j≤l.length→
  0<(rotE m f i j l).1∧(rotE m f i j l).1≤m∧m+(rotE m f i j l).1≤l.length∧(rotE m f i j l).2.length=l.length∧swR (rotE m f i j l).2 (m-(rotE m f i j l).1) m (rotE m f i j l).1=rot m f i j l
 |0,i,j,l,h1,h2,h3,_,_=>by omega
 |f+1,i,j,l,h1,h2,h3,h4,h5=>by
  rw[rotE,rot]
  by_cases e:i=j
  ·subst e;rw[if_pos rfl,if_pos rfl];exact⟨h1,h4,h5,rfl,rfl⟩
  ·rw[if_neg e,if_neg e]
   by_cases e2:j<i
   ·rw[if_pos e2,if_pos e2]
    have:=rotE_spec m f (i-j) j (swR l (m-i) m j) (by omega) h2 (by omega) (by omega) (by rw[swR_length];omega)
    rw[swR_length]at this;exact this
   ·rw[if_neg e2,if_neg e2]
    have:=rotE_spec m f i (j-i) (swR l (m-i) (m+j-i) i) h1 (by omega) (by omega) (by omega) (by rw[swR_length];omega)
    rw[swR_length]at this;exact this
structure Tot (lt:α→α→Bool):Prop where
 asy:∀x y,lt x y=true→lt y x=false
 tr:∀x y z,lt y x=false→lt z y=false→lt z x=false
theorem Tot.rfl' {β:Type}{lt:β→β→Bool}(h:Tot lt)(x:β):lt x x=false:=by
 cases hx:lt x x with
 |false=>rfl
 |true=>have:=h.asy _ _ hx;rw[hx]at this;exact this
def Srt (lt:α→α→Bool)(l:List α)(a b:Nat):Prop:=∀x y,a≤x→x<y→y<b→lt (l.getD y default) (l.getD x default)=false
theorem Srt.le {lt:α→α→Bool}(ht:Tot lt){l:List α}{a b x y:Nat}(h:Srt lt l a b)(h1:a≤x)(h2:x≤y)(h3:y<b):lt (l.getD y default) (l.getD x default)=false:=by
 by_cases e:x=y
 ·subst e;exact ht.rfl' _
 ·exact h x y h1 (by omega) h3
structure Seg (l' l:List α)(a b:Nat):Prop where
 out:∀x,x<a∨b≤x→l'.getD x default=l.getD x default
 inn:∀x,a≤x→x<b→∃y,a≤y∧y<b∧l'.getD x default=l.getD y default
 perm:l'.Perm l
theorem Seg.len {l' l:List α}{a b:Nat}(h:Seg l' l a b):l'.length=l.length:=h.perm.length_eq
theorem Seg.refl (l:List α)(a b:Nat):Seg l l a b:=⟨fun _ _=>rfl,fun x h1 h2=>⟨x,h1,h2,rfl⟩,.refl _⟩
theorem Seg.trans {l l' l'':List α}{a b:Nat}(h:Seg l'' l' a b)(h':Seg l' l a b):Seg l'' l a b:=
 ⟨fun x hx=>(h.out x hx).trans (h'.out x hx),fun x h1 h2=>by
  obtain⟨y,y1,y2,y3⟩:=h.inn x h1 h2
  obtain⟨z,z1,z2,z3⟩:=h'.inn y y1 y2
  exact⟨z,z1,z2,y3.trans z3⟩,h.perm.trans h'.perm⟩
theorem Seg.wide {l l':List α}{a b a' b':Nat}(h:Seg l' l a b)(h1:a'≤a)(h2:b≤b'):Seg l' l a' b':=
 ⟨fun x hx=>h.out x (by omega),fun x g1 g2=>by
  by_cases hx:a≤x∧x<b
  ·obtain⟨y,y1,y2,y3⟩:=h.inn x hx.1 hx.2
   exact⟨y,by omega,by omega,y3⟩
  ·exact⟨x,g1,g2,h.out x (by omega)⟩,h.perm⟩
theorem Seg.swp {l:List α}{i j a b:Nat}(hi:i<l.length)(hj:j<l.length)(h1:a≤i)(h2:i<b)(h3:a≤j)(h4:j<b):Seg (swp l i j) l a b:=
 ⟨fun x hx=>by rw[swp_getD hi hj,if_neg (by omega),if_neg (by omega)],fun x g1 g2=>by
  rw[swp_getD hi hj]
  split
  ·exact⟨i,h1,h2,rfl⟩
  ·split
   ·exact⟨j,h3,h4,rfl⟩
   ·exact⟨x,g1,g2,rfl⟩,swp_perm hi hj⟩
theorem Seg.srt {lt:α→α→Bool}{l l':List α}{a b c d:Nat}(h:Seg l' l a b)(hd:d≤a∨b≤c)(hs:Srt lt l c d):Srt lt l' c d:=fun x y h1 h2 h3=>by
 rw[h.out x (by omega),h.out y (by omega)];exact hs x y h1 h2 h3
def bs (p:Nat→Bool):Nat→Nat→Nat→Nat
 |0,i,_=>i
 |f+1,i,j=>if i<j then(if p ((i+j)/2)=true then bs p f ((i+j)/2+1) j else bs p f i ((i+j)/2))else i
theorem bs_spec (p:Nat→Bool):∀f i j,j-i≤f→i≤j→(∀x y,i≤x→x≤y→y<j→p y=true→p x=true)→
  i≤bs p f i j∧bs p f i j≤j∧(∀x,i≤x→x<bs p f i j→p x=true)∧(∀x,bs p f i j≤x→x<j→p x=false)
 |0,i,j,h1,h2,h3=>by
  have e:i=j:=by omega
  subst e
  exact⟨Nat.le_refl _,Nat.le_refl _,fun x h4 h5=>by simp only[bs]at h5;omega,fun x h4 h5=>by simp only[bs]at h4;omega⟩
 |f+1,i,j,h1,h2,h3=>by
  rw[bs]
  by_cases hij:i<j
  ·rw[if_pos hij]
   cases hp:p ((i+j)/2)with
   |true=>
    rw[if_pos rfl]
    obtain⟨g1,g2,g3,g4⟩:=bs_spec p f ((i+j)/2+1) j (by omega) (by omega) (fun x y a1 a2 a3 a4=>h3 x y (by omega) a2 a3 a4)
    refine⟨by omega,g2,fun x a1 a2=>?_,g4⟩
    by_cases hx:(i+j)/2+1≤x
    ·exact g3 x hx a2
    ·exact h3 x _ a1 (by omega) (by omega) hp
   |false=>
    rw[if_neg (by simp)]
    obtain⟨g1,g2,g3,g4⟩:=bs_spec p f i ((i+j)/2) (by omega) (by omega) (fun x y a1 a2 a3 a4=>h3 x y a1 a2 (by omega) a4)
    refine⟨g1,by omega,g3,fun x a1 a2=>?_⟩
    by_cases hx:x<(i+j)/2
    ·exact g4 x a1 hx
    ·cases hpx:p x with
     |false=>rfl
     |true=>have:=h3 ((i+j)/2) x (by omega) (by omega) a2 hpx;rw[hp]at this;exact this.symm
  ·rw[if_neg hij]
   exact⟨Nat.le_refl _,by omega,fun x h4 h5=>by omega,fun x h4 h5=>by omega⟩
theorem bs_bnd (p:Nat→Bool):∀f i j,i≤j→i≤bs p f i j∧bs p f i j≤j
 |0,i,j,h=>⟨Nat.le_refl _,h⟩
 |f+1,i,j,h=>by
  rw[bs]
  split
  ·split
   ·have:=bs_bnd p f ((i+j)/2+1) j (by omega);omega
   ·have:=bs_bnd p f i ((i+j)/2) (by omega);omega
  ·exact⟨Nat.le_refl _,h⟩
def insJ (lt:α→α→Bool)(a:Nat):Nat→List α→List α
 |0,l=>l
 |j+1,l=>if a<j+1∧lt (l.getD (j+1) default) (l.getD j default)=true then insJ lt a j (swp l (j+1) j)else l
def insR (lt:α→α→Bool)(a:Nat)(l:List α):Nat→List α
 |0=>l
 |n+1=>insJ lt a (a+1+n) (insR lt a l n)
def ins (lt:α→α→Bool)(a b:Nat)(l:List α):List α:=insR lt a l (b-(a+1))
theorem insJ_seg (lt:α→α→Bool)(a:Nat):∀j(l:List α) b,j<b→b≤l.length→Seg (insJ lt a j l) l a b
 |0,l,b,_,_=>.refl _ _ _
 |j+1,l,b,h1,h2=>by
  rw[insJ]
  split
  ·rename_i h
   exact(insJ_seg lt a j _ b (by omega) (by rw[swp_length];omega)).trans (.swp (by omega) (by omega) (by omega) (by omega) (by omega) (by omega))
  ·exact .refl _ _ _
theorem insJ_srt {lt:α→α→Bool}(ht:Tot lt)(a:Nat):∀j(l:List α) b,a≤j→j<b→b≤l.length→
  (∀x y,a≤x→x<y→y<b→x≠j→y≠j→lt (l.getD y default) (l.getD x default)=false)→(∀y,j<y→y<b→lt (l.getD y default) (l.getD j default)=false)→Srt lt (insJ lt a j l) a b
 |0,l,b,h0,h1,h2,h3,h4=>by
  rw[insJ]
  intro x y g1 g2 g3
  by_cases hx:x=0
  ·subst hx;exact h4 y g2 g3
  ·exact h3 x y g1 g2 g3 hx (by omega)
 |j+1,l,b,h0,h1,h2,h3,h4=>by
  rw[insJ]
  by_cases hc:a<j+1∧lt (l.getD (j+1) default) (l.getD j default)=true
  ·rw[if_pos hc]
   have sw:=swp_getD (l:=l) (i:=j+1) (j:=j) (by omega) (by omega)
   refine insJ_srt ht a j _ b (by omega) (by omega) (by rw[swp_length];omega) (fun x y g1 g2 g3 g4 g5=>?_) (fun y g1 g2=>?_)
   ·rw[sw,sw]
    by_cases hy:y=j+1
    ·subst hy
     rw[if_neg (by omega),if_pos rfl,if_neg g4,if_neg (by omega)]
     exact h3 x j g1 (by omega) (by omega) (by omega) (by omega)
    ·rw[if_neg g5,if_neg hy,if_neg g4]
     by_cases hx:x=j+1
     ·subst hx
      rw[if_pos rfl]
      exact h3 j y (by omega) (by omega) g3 (by omega) hy
     ·rw[if_neg hx];exact h3 x y g1 g2 g3 hx hy
   ·rw[sw,sw,if_neg (by omega),if_pos rfl]
    by_cases hy:y=j+1
    ·rw[if_pos hy];exact ht.asy _ _ hc.2
    ·rw[if_neg hy];exact h4 y (by omega) g2
  ·rw[if_neg hc]
   intro x y g1 g2 g3
   by_cases hx:x=j+1
   ·subst hx;exact h4 y g2 g3
   ·by_cases hy:y=j+1
    ·subst hy
     have hj:lt (l.getD (j+1) default) (l.getD j default)=false:=by
      cases hl:lt (l.getD (j+1) default) (l.getD j default)with
      |false=>rfl
      |true=>exact absurd ⟨by omega,hl⟩ hc
     by_cases hxj:x=j
     ·subst hxj;exact hj
     ·exact ht.tr _ _ _ (h3 x j g1 (by omega) (by omega) hx (by omega)) hj
    ·exact h3 x y g1 g2 g3 hx hy
theorem insR_spec {lt:α→α→Bool}(ht:Tot lt)(a:Nat)(l:List α):∀n,a+1+n≤l.length→Seg (insR lt a l n) l a (a+1+n)∧Srt lt (insR lt a l n) a (a+1+n)
 |0,h=>⟨.refl _ _ _,fun x y h1 h2 h3=>by omega⟩
 |n+1,h=>by
  obtain⟨g1,g2⟩:=insR_spec ht a l n (by omega)
  have hl:=g1.len
  rw[insR]
  refine⟨(insJ_seg lt a _ _ _ (by omega) (by omega)).trans (g1.wide (by omega) (by omega)),insJ_srt ht a _ _ _ (by omega) (by omega) (by omega) (fun x y h1 h2 h3 h4 h5=>g2 x y h1 h2 (by omega)) (fun y h1 h2=>by omega)⟩
theorem ins_spec {lt:α→α→Bool}(ht:Tot lt){a b:Nat}{l:List α}(h:b≤l.length):Seg (ins lt a b l) l a b∧Srt lt (ins lt a b l) a b:=by
 unfold ins
 by_cases hab:a+1≤b
 ·have:=insR_spec ht a l (b-(a+1)) (by omega)
  rw[show a+1+(b-(a+1))=b by omega]at this
  exact this
 ·rw[show b-(a+1)=0 by omega]
  exact⟨.refl _ _ _,fun x y h1 h2 h3=>by omega⟩
theorem ins_length (lt:α→α→Bool)(a b:Nat)(l:List α)(h:b≤l.length):(ins lt a b l).length=l.length:=by
 have key:∀n,a+1+n≤l.length→(insR lt a l n).length=l.length:=by
  intro n
  induction n with
  |zero=>intro _;rfl
  |succ n ih=>intro h;rw[insR,(insJ_seg lt a (a+1+n) (insR lt a l n) (a+1+n+1) (by omega) (by rw[ih (by omega)];omega)).len];exact ih (by omega)
 unfold ins
 by_cases hab:a+1≤b
 ·exact key _ (by omega)
 ·rw[show b-(a+1)=0 by omega];rfl
theorem insR_length (lt:α→α→Bool)(a:Nat)(l:List α):∀n,a+1+n≤l.length→(insR lt a l n).length=l.length
 |0,_=>rfl
 |n+1,h=>by
  have ih:=insR_length lt a l n (by omega)
  rw[insR,(insJ_seg lt a (a+1+n) (insR lt a l n) (a+1+n+1) (by omega) (by omega)).len,ih]
def bubU (a:Nat)(l:List α):Nat→List α
 |0=>l
 |n+1=>swp (bubU a l n) (a+n) (a+n+1)
def bubD (m:Nat)(l:List α):Nat→List α
 |0=>l
 |n+1=>swp (bubD m l n) (m-n) (m-n-1)
theorem bubU_spec (a:Nat)(l:List α):∀n,a+n<l.length→Seg (bubU a l n) l a (a+n+1)∧∀x,(bubU a l n).getD x default=if a≤x∧x<a+n then l.getD (x+1) default else if x=a+n then l.getD a default else l.getD x default
 |0,h=>⟨.refl _ _ _,fun x=>by rw[bubU,if_neg (by omega)];split<;>first|rfl|(congr 1)|(congr 1;omega)⟩
 |n+1,h=>by
  obtain⟨g1,g2⟩:=bubU_spec a l n (by omega)
  have hl:=g1.len
  refine⟨(Seg.swp (by omega) (by omega) (by omega) (by omega) (by omega) (by omega)).trans (g1.wide (by omega) (by omega)),fun x=>?_⟩
  rw[bubU,swp_getD (by omega) (by omega),g2,g2,g2]
  (repeat' split)<;>first|rfl|omega|(congr 1;omega)
theorem bubD_spec (m:Nat)(l:List α)(hm:m<l.length):∀n,n≤m→Seg (bubD m l n) l (m-n) (m+1)∧∀x,(bubD m l n).getD x default=if m-n<x∧x≤m then l.getD (x-1) default else if x=m-n then l.getD m default else l.getD x default
 |0,h=>⟨.refl _ _ _,fun x=>by rw[bubD,if_neg (by omega)];split<;>first|rfl|(congr 1)|(congr 1;omega)⟩
 |n+1,h=>by
  obtain⟨g1,g2⟩:=bubD_spec m l hm n (by omega)
  have hl:=g1.len
  refine⟨(Seg.swp (by omega) (by omega) (by omega) (by omega) (by omega) (by omega)).trans (g1.wide (by omega) (by omega)),fun x=>?_⟩
  rw[bubD,swp_getD (by omega) (by omega),g2,g2,g2]
  (repeat' split)<;>first|rfl|omega|(congr 1;omega)
def symS (lt:α→α→Bool)(a m b:Nat)(l:List α):Nat:=
 bs (fun c=>!lt (l.getD ((a+b)/2+m-1-c) default) (l.getD c default)) (b-a) (if(a+b)/2<m then(a+b)/2+m-b else a) (if(a+b)/2<m then(a+b)/2 else m)
def symR (m s e:Nat)(l:List α):List α:=if s<m∧m<e then rot m (e-s) (m-s) (e-m) l else l
def sym (lt:α→α→Bool):Nat→Nat→Nat→Nat→List α→List α
 |0,_,_,_,l=>l
 |f+1,a,m,b,l=>
  if m-a=1 then bubU a l (bs (fun h=>lt (l.getD h default) (l.getD a default)) (b-m) m b-1-a)
  else if b-m=1 then bubD m l (m-bs (fun h=>!lt (l.getD m default) (l.getD h default)) (m-a) a m)
  else
   let s:=symS lt a m b l
   let e:=(a+b)/2+m-s
   let l1:=symR m s e l
   let l2:=if a<s∧s<(a+b)/2 then sym lt f a s ((a+b)/2) l1 else l1
   if(a+b)/2<e∧e<b then sym lt f ((a+b)/2) e b l2 else l2
theorem sym_fuel (lt:α→α→Bool):∀f a m b(l:List α),b-a≤f→a<m→m<b→sym lt (f+1) a m b l=sym lt f a m b l
 |0,a,m,b,l,h,h1,h2=>by omega
 |f+1,a,m,b,l,h,h1,h2=>by
  have ih:∀a' m' b'(l':List α),b'-a'≤f→a'<m'→m'<b'→sym lt (f+1) a' m' b' l'=sym lt f a' m' b' l':=fun a' m' b' l'=>sym_fuel lt f a' m' b' l'
  rw[sym,sym.eq_def lt (f+1)]
  simp only
  by_cases c1:m-a=1
  ·rw[if_pos c1,if_pos c1]
  ·rw[if_neg c1,if_neg c1]
   by_cases c2:b-m=1
   ·rw[if_pos c2,if_pos c2]
   ·rw[if_neg c2,if_neg c2]
    have e1:∀x,(if a<symS lt a m b l∧symS lt a m b l<(a+b)/2 then sym lt (f+1) a (symS lt a m b l) ((a+b)/2) x else x)=(if a<symS lt a m b l∧symS lt a m b l<(a+b)/2 then sym lt f a (symS lt a m b l) ((a+b)/2) x else x):=by
     intro x
     split
     ·rename_i hc;exact ih _ _ _ _ (by omega) hc.1 hc.2
     ·rfl
    rw[e1]
    split
    ·rename_i hc;exact ih _ _ _ _ (by omega) hc.1 hc.2
    ·rfl
def symF (lt:α→α→Bool)(a m b:Nat)(l:List α):List α:=sym lt (b-a) a m b l
theorem symF_eq (lt:α→α→Bool){f a m b:Nat}{l:List α}(h:b-a≤f)(h1:a<m)(h2:m<b):sym lt f a m b l=symF lt a m b l:=by
 unfold symF
 obtain⟨d,rfl⟩:∃d,f=b-a+d:=⟨f-(b-a),by omega⟩
 clear h
 induction d with
 |zero=>rfl
 |succ d ih=>rw[show b-a+(d+1)=(b-a+d)+1 by omega,sym_fuel lt _ _ _ _ _ (by omega) h1 h2,ih]
theorem symR_spec {m s e:Nat}{l:List α}(h1:s≤m)(h2:m≤e)(h3:e≤l.length):Seg (symR m s e l) l s e∧∀x,(symR m s e l).getD x default=if s≤x∧x<s+(e-m)then l.getD (x+(m-s)) default else if s+(e-m)≤x∧x<e then l.getD (x-(e-m)) default else l.getD x default:=by
 have key:∀x,(symR m s e l).getD x default=if s≤x∧x<s+(e-m)then l.getD (x+(m-s)) default else if s+(e-m)≤x∧x<e then l.getD (x-(e-m)) default else l.getD x default:=by
  intro x
  unfold symR
  by_cases hc:s<m∧m<e
  ·rw[if_pos hc,rot_getD m _ _ _ _ (by omega) (by omega) (by omega) (by omega) (by omega)]
   (repeat' split)<;>first|rfl|omega|(congr 1;omega)
  ·rw[if_neg hc]
   (repeat' split)<;>first|rfl|omega|(congr 1;omega)
 refine⟨⟨fun x hx=>?_,fun x g1 g2=>?_,?_⟩,key⟩
 ·rw[key,if_neg (by omega),if_neg (by omega)]
 ·rw[key]
  split
  ·exact⟨x+(m-s),by omega,by omega,rfl⟩
  ·split
   ·exact⟨x-(e-m),by omega,by omega,rfl⟩
   ·exact⟨x,g1,g2,rfl⟩
 ·unfold symR
  split
  ·exact rot_perm _ _ _ _ _ (by omega) (by omega)
  ·exact .refl _
theorem sym_length (lt:α→α→Bool):∀f a m b(l:List α),a<m→m<b→b≤l.length→(sym lt f a m b l).length=l.length
 |0,a,m,b,l,_,_,_=>rfl
 |f+1,a,m,b,l,h1,h2,h3=>by
  rw[sym]
  split
  ·have:=bs_bnd (fun h=>lt (l.getD h default) (l.getD a default)) (b-m) m b (by omega)
   exact(bubU_spec a l _ (by omega)).1.len
  ·split
   ·exact(bubD_spec m l (by omega) _ (by omega)).1.len
   ·have hb1:(if(a+b)/2<m then(a+b)/2+m-b else a)≤symS lt a m b l∧symS lt a m b l≤(if(a+b)/2<m then(a+b)/2 else m):=bs_bnd _ _ _ _ (by split<;>omega)
    generalize symS lt a m b l=s at*
    have s1:a≤s:=by have:=hb1.1;split at this<;>omega
    have s2:s≤m:=by have:=hb1.2;split at this<;>omega
    have s3:s≤(a+b)/2:=by have:=hb1.2;split at this<;>omega
    have e2:(a+b)/2+m-s≤b:=by have:=hb1.1;split at this<;>omega
    simp only
    have k1:=(symR_spec (l:=l) s2 (show m≤(a+b)/2+m-s by omega) (by omega)).1.len
    generalize symR m s ((a+b)/2+m-s) l=l1 at*
    have k2:(if a<s∧s<(a+b)/2 then sym lt f a s ((a+b)/2) l1 else l1).length=l.length:=by
     split
     ·rename_i hc;rw[sym_length lt f _ _ _ _ hc.1 hc.2 (by omega),k1]
     ·exact k1
    generalize (if a<s∧s<(a+b)/2 then sym lt f a s ((a+b)/2) l1 else l1)=l2 at*
    split
    ·rename_i hc;rw[sym_length lt f _ _ _ _ hc.1 hc.2 (by omega),k2]
    ·exact k2
theorem symF_length (lt:α→α→Bool){a m b:Nat}{l:List α}(h1:a<m)(h2:m<b)(h3:b≤l.length):(symF lt a m b l).length=l.length:=sym_length lt _ _ _ _ _ h1 h2 h3
theorem sym_spec {lt:α→α→Bool}(ht:Tot lt):∀f a m b(l:List α),b-a≤f→a<m→m<b→b≤l.length→Srt lt l a m→Srt lt l m b→Seg (sym lt f a m b l) l a b∧Srt lt (sym lt f a m b l) a b
 |0,a,m,b,l,h1,h2,h3,_,_,_=>by omega
 |f+1,a,m,b,l,h1,h2,h3,h4,sA,sB=>by
  rw[sym]
  by_cases c1:m-a=1
  ·rw[if_pos c1]
   have hm:m=a+1:=by omega
   subst hm
   obtain⟨g1,g2,g3,g4⟩:=bs_spec (fun h=>lt (l.getD h default) (l.getD a default)) (b-(a+1)) (a+1) b (Nat.le_refl _) (by omega) (fun x y a1 a2 a3 a4=>by
    cases hx:lt (l.getD x default) (l.getD a default)with
    |true=>rfl
    |false=>
     have:=ht.tr _ _ _ hx (sB.le ht a1 a2 a3)
     rw[this]at a4;cases a4)
   generalize bs (fun h=>lt (l.getD h default) (l.getD a default)) (b-(a+1)) (a+1) b=i at*
   obtain⟨k1,k2⟩:=bubU_spec a l (i-1-a) (by omega)
   refine⟨k1.wide (Nat.le_refl _) (by omega),fun x y q1 q2 q3=>?_⟩
   rw[k2,k2]
   by_cases y1:y<a+(i-1-a)
   ·rw[if_pos (by omega),if_pos (by omega)];exact sB _ _ (by omega) (by omega) (by omega)
   ·rw[if_neg (by omega)]
    by_cases y2:y=a+(i-1-a)
    ·rw[if_pos y2,if_pos (by omega)];exact ht.asy _ _ (g3 (x+1) (by omega) (by omega))
    ·rw[if_neg y2]
     by_cases x1:x<a+(i-1-a)
     ·rw[if_pos (by omega)];exact sB _ _ (by omega) (by omega) q3
     ·rw[if_neg (by omega)]
      by_cases x2:x=a+(i-1-a)
      ·rw[if_pos x2];exact g4 y (by omega) q3
      ·rw[if_neg x2];exact sB _ _ (by omega) q2 q3
  ·rw[if_neg c1]
   by_cases c2:b-m=1
   ·rw[if_pos c2]
    have hb:b=m+1:=by omega
    subst hb
    obtain⟨g1,g2,g3,g4⟩:=bs_spec (fun h=>!lt (l.getD m default) (l.getD h default)) (m-a) a m (Nat.le_refl _) (by omega) (fun x y a1 a2 a3 a4=>by
     simp only[Bool.not_eq_true']at*
     exact ht.tr _ _ _ (sA.le ht a1 a2 a3) a4)
    generalize bs (fun h=>!lt (l.getD m default) (l.getD h default)) (m-a) a m=i at*
    obtain⟨k1,k2⟩:=bubD_spec m l (by omega) (m-i) (by omega)
    refine⟨k1.wide (by omega) (by omega),fun x y q1 q2 q3=>?_⟩
    rw[k2,k2]
    by_cases x1:m-(m-i)<x
    ·rw[if_pos (by omega),if_pos (by omega)];exact sA _ _ (by omega) (by omega) (by omega)
    ·rw[if_neg (c:=m-(m-i)<x∧x≤m) (by omega)]
     by_cases x2:x=m-(m-i)
     ·rw[if_pos x2,if_pos (by omega)]
      have:=g4 (y-1) (by omega) (by omega)
      simp only[Bool.not_eq_false']at this
      exact ht.asy _ _ this
     ·rw[if_neg x2]
      by_cases y1:m-(m-i)<y
      ·rw[if_pos (by omega)];exact sA _ _ q1 (by omega) (by omega)
      ·rw[if_neg (by omega)]
       by_cases y2:y=m-(m-i)
       ·rw[if_pos y2]
        have:=g3 x q1 (by omega)
        simp only[Bool.not_eq_true']at this
        exact this
       ·rw[if_neg y2];exact sA _ _ q1 q2 (by omega)
   ·rw[if_neg c2]
    have hs0:(a+b)/2≤(a+b)/2:=Nat.le_refl _
    obtain⟨g1,g2,g3,g4⟩:=bs_spec (fun c=>!lt (l.getD ((a+b)/2+m-1-c) default) (l.getD c default)) (b-a) (if(a+b)/2<m then(a+b)/2+m-b else a) (if(a+b)/2<m then(a+b)/2 else m)
     (by split<;>omega) (by split<;>omega) (fun x y a1 a2 a3 a4=>by
      simp only[Bool.not_eq_true']at*
      have b1:a≤x:=by split at a1<;>omega
      have b2:y<m:=by split at a3<;>omega
      have b3:(a+b)/2+m-1-x<b:=by split at a1<;>omega
      have b4:m≤(a+b)/2+m-1-y:=by split at a3<;>omega
      exact ht.tr _ _ _ (sA.le ht b1 a2 b2) (ht.tr _ _ _ a4 (sB.le ht b4 (by omega) b3)))
    change _≤symS lt a m b l at g1
    change symS lt a m b l≤_ at g2
    change ∀x,_≤x→x<symS lt a m b l→_ at g3
    change ∀x,symS lt a m b l≤x→_ at g4
    generalize symS lt a m b l=s at*
    have s1:a≤s:=by split at g1<;>omega
    have s2:s≤m:=by split at g2<;>omega
    have s3:s≤(a+b)/2:=by split at g2<;>omega
    have e1:m≤(a+b)/2+m-s:=by omega
    have e2:(a+b)/2+m-s≤b:=by split at g1<;>omega
    have e3:(a+b)/2≤(a+b)/2+m-s:=by omega
    simp only
    obtain⟨k1,k2⟩:=symR_spec (l:=l) s2 e1 (by omega)
    have hse:s+((a+b)/2+m-s-m)=(a+b)/2:=by omega
    rw[hse]at k2
    generalize symR m s ((a+b)/2+m-s) l=l1 at*
    have hm1:a<(a+b)/2:=by omega
    have hm2:(a+b)/2<b:=by omega
    have hmid:∀x,x<s→s<m→s-1+1=s:=by omega
    -- what lies across
    have cross:∀x y,a≤x→x<(a+b)/2→(a+b)/2≤y→y<b→lt (l1.getD y default) (l1.getD x default)=false:=by
     intro x y q1 q2 q3 q4
     rw[k2,k2]
     have AD:∀u v,a≤u→u<s→(a+b)/2+m-s≤v→v<b→lt (l.getD v default) (l.getD u default)=false:=by
      intro u v u1 u2 v1 v2
      have hs1:(if(a+b)/2<m then(a+b)/2+m-b else a)≤s-1:=by split<;>split at g1<;>omega
      have:=g3 (s-1) hs1 (by omega)
      simp only[Bool.not_eq_true']at this
      rw[show (a+b)/2+m-1-(s-1)=(a+b)/2+m-s by omega]at this
      exact ht.tr _ _ _ (sA.le ht u1 (by omega) (by omega)) (ht.tr _ _ _ this (sB.le ht (by omega) v1 v2))
     have BC:∀u v,m≤u→u<(a+b)/2+m-s→s≤v→v<m→lt (l.getD v default) (l.getD u default)=false:=by
      intro u v u1 u2 v1 v2
      have hs1:s<(if(a+b)/2<m then(a+b)/2 else m):=by split<;>split at g2<;>omega
      have:=g4 s (Nat.le_refl _) hs1
      simp only[Bool.not_eq_false']at this
      have:=ht.asy _ _ this
      exact ht.tr _ _ _ (sB.le ht u1 (by omega) (by omega)) (ht.tr _ _ _ this (sA.le ht s1 v1 v2))
     by_cases x1:s≤x
     ·rw[if_neg (c:=s≤y∧y<(a+b)/2) (by omega),if_pos (c:=s≤x∧x<(a+b)/2) (by omega)]
      split
      ·exact BC _ _ (by omega) (by omega) (by omega) (by omega)
      ·exact sB _ _ (by omega) (by omega) q4
     ·rw[if_neg (c:=s≤y∧y<(a+b)/2) (by omega),if_neg (c:=s≤x∧x<(a+b)/2) (by omega),if_neg (c:=(a+b)/2≤x∧x<(a+b)/2+m-s) (by omega)]
      split
      ·exact sA _ _ q1 (by omega) (by omega)
      ·exact AD _ _ q1 (by omega) (by omega) q4
    have sr1:Srt lt l1 a s:=fun x y q1 q2 q3=>by rw[k1.out x (by omega),k1.out y (by omega)];exact sA x y q1 q2 (by omega)
    have sr2:Srt lt l1 s ((a+b)/2):=fun x y q1 q2 q3=>by rw[k2,k2,if_pos (by omega),if_pos (by omega)];exact sB _ _ (by omega) (by omega) (by omega)
    have sr3:Srt lt l1 ((a+b)/2) ((a+b)/2+m-s):=fun x y q1 q2 q3=>by rw[k2,k2,if_neg (by omega),if_pos (by omega),if_neg (by omega),if_pos (by omega)];exact sA _ _ (by omega) (by omega) (by omega)
    have sr4:Srt lt l1 ((a+b)/2+m-s) b:=fun x y q1 q2 q3=>by rw[k1.out x (by omega),k1.out y (by omega)];exact sB x y (by omega) q2 q3
    have hl1:=k1.len
    -- the left half
    have left:Seg (if a<s∧s<(a+b)/2 then sym lt f a s ((a+b)/2) l1 else l1) l1 a ((a+b)/2)∧Srt lt (if a<s∧s<(a+b)/2 then sym lt f a s ((a+b)/2) l1 else l1) a ((a+b)/2):=by
     by_cases hc:a<s∧s<(a+b)/2
     ·rw[if_pos hc];exact sym_spec ht f a s _ l1 (by omega) hc.1 hc.2 (by omega) sr1 sr2
     ·rw[if_neg hc]
      refine⟨.refl _ _ _,?_⟩
      by_cases h5:a<s
      ·have:s=(a+b)/2:=by omega
       rw[this]at sr1;exact sr1
      ·have:s=a:=by omega
       rw[this]at sr2;exact sr2
    generalize (if a<s∧s<(a+b)/2 then sym lt f a s ((a+b)/2) l1 else l1)=l2 at*
    obtain⟨L1,L2⟩:=left
    have hl2:=L1.len
    have sr3':=L1.srt (lt:=lt) (c:=(a+b)/2) (d:=(a+b)/2+m-s) (by omega) sr3
    have sr4':=L1.srt (lt:=lt) (c:=(a+b)/2+m-s) (d:=b) (by omega) sr4
    have right:Seg (if(a+b)/2<(a+b)/2+m-s∧(a+b)/2+m-s<b then sym lt f ((a+b)/2) ((a+b)/2+m-s) b l2 else l2) l2 ((a+b)/2) b∧Srt lt (if(a+b)/2<(a+b)/2+m-s∧(a+b)/2+m-s<b then sym lt f ((a+b)/2) ((a+b)/2+m-s) b l2 else l2) ((a+b)/2) b:=by
     by_cases hc:(a+b)/2<(a+b)/2+m-s∧(a+b)/2+m-s<b
     ·rw[if_pos hc];exact sym_spec ht f _ _ _ l2 (by omega) hc.1 hc.2 (by omega) sr3' sr4'
     ·rw[if_neg hc]
      refine⟨.refl _ _ _,?_⟩
      by_cases h5:(a+b)/2<(a+b)/2+m-s
      ·have:(a+b)/2+m-s=b:=by omega
       rw[this]at sr3';exact sr3'
      ·have:(a+b)/2+m-s=(a+b)/2:=by omega
       rw[this]at sr4';exact sr4'
    generalize (if(a+b)/2<(a+b)/2+m-s∧(a+b)/2+m-s<b then sym lt f ((a+b)/2) ((a+b)/2+m-s) b l2 else l2)=l3 at*
    obtain⟨R1,R2⟩:=right
    refine⟨(R1.wide (by omega) (Nat.le_refl _)).trans ((L1.wide (Nat.le_refl _) (by omega)).trans (k1.wide s1 e2)),fun x y q1 q2 q3=>?_⟩
    by_cases y1:y<(a+b)/2
    ·rw[R1.out x (by omega),R1.out y (by omega)];exact L2 x y q1 q2 y1
    ·by_cases x1:(a+b)/2≤x
     ·exact R2 x y x1 q2 q3
     ·obtain⟨y',y1',y2',y3'⟩:=R1.inn y (by omega) q3
      obtain⟨x',x1',x2',x3'⟩:=L1.inn x q1 (by omega)
      rw[R1.out x (by omega),y3',x3',L1.out y' (by omega)]
      exact cross x' y' x1' x2' y1' y2'
def insB (lt:α→α→Bool)(n:Nat):Nat→Nat→List α→List α
 |0,_,l=>l
 |f+1,a,l=>if a+20≤n then insB lt n f (a+20) (ins lt a (a+20) l)else ins lt a n l
def mrg (lt:α→α→Bool)(n s:Nat):Nat→Nat→List α→List α
 |0,_,l=>l
 |f+1,a,l=>if a+2*s≤n then mrg lt n s f (a+2*s) (sym lt (2*s) a (a+s) (a+2*s) l)else if a+s<n then sym lt (n-a) a (a+s) n l else l
def mrgs (lt:α→α→Bool)(n:Nat):Nat→Nat→List α→List α
 |0,_,l=>l
 |f+1,s,l=>if s<n then mrgs lt n f (2*s) (mrg lt n s (n+1) 0 l)else l
def sorted (lt:α→α→Bool)(l:List α):List α:=mrgs lt l.length (l.length+1) 20 (insB lt l.length (l.length+1) 0 l)
def Blk (lt:α→α→Bool)(l:List α)(a s n:Nat):Prop:=∀k x y,a+k*s≤x→x<y→y<a+(k+1)*s→y<n→lt (l.getD y default) (l.getD x default)=false
theorem Blk.at {lt:α→α→Bool}{l:List α}{a s n:Nat}(h:Blk lt l a s n)(k:Nat){c d:Nat}(hc:a+k*s≤c)(hd:d≤a+(k+1)*s)(hn:d≤n):Srt lt l c d:=fun x y h1 h2 h3=>h k x y (by omega) h2 (by omega) (by omega)
theorem Blk.tail {lt:α→α→Bool}{l:List α}{a s n:Nat}(h:Blk lt l a s n)(c:Nat):Blk lt l (a+c*s) s n:=fun k x y h1 h2 h3 h4=>h (c+k) x y (by rw[Nat.add_mul];omega) h2 (by rw[Nat.add_assoc c k 1,Nat.add_mul c];omega) h4
theorem Blk.keep {lt:α→α→Bool}{l l':List α}{a s n b:Nat}(h:Blk lt l a s n)(hl:∀x,a≤x→x<n→l'.getD x default=l.getD x default):Blk lt l' a s n:=fun k x y h1 h2 h3 h4=>by
 have:a≤x:=Nat.le_trans (Nat.le_add_right _ _) h1
 rw[hl x this (by omega),hl y (by omega) h4];exact h k x y h1 h2 h3 h4
theorem Blk.cons {lt:α→α→Bool}{l:List α}{a s n:Nat}(h1:Srt lt l a (min (a+s) n))(h2:Blk lt l (a+s) s n):Blk lt l a s n:=fun k x y g1 g2 g3 g4=>by
 cases k with
 |zero=>exact h1 x y (by omega) g2 (by omega)
 |succ k=>exact h2 k x y (by rw[Nat.add_mul]at g1;omega) g2 (by rw[Nat.add_mul (k+1)]at g3;omega) g4
theorem Blk.nil {lt:α→α→Bool}{l:List α}{a s n:Nat}(h:n≤a+1):Blk lt l a s n:=fun k x y g1 g2 g3 g4=>by
 have:a≤x:=Nat.le_trans (Nat.le_add_right _ _) g1
 omega
theorem insB_spec {lt:α→α→Bool}(ht:Tot lt)(n:Nat):∀f a(l:List α),n≤l.length→n<a+f→Seg (insB lt n f a l) l a (max a n)∧Blk lt (insB lt n f a l) a 20 n
 |0,a,l,h1,h2=>⟨.refl _ _ _,.nil (by omega)⟩
 |f+1,a,l,h1,h2=>by
  rw[insB]
  by_cases hc:a+20≤n
  ·rw[if_pos hc]
   obtain⟨g1,g2⟩:=ins_spec ht (a:=a) (b:=a+20) (l:=l) (by omega)
   obtain⟨g3,g4⟩:=insB_spec ht n f (a+20) (ins lt a (a+20) l) (by have:=g1.len;omega) (by omega)
   refine⟨(g3.wide (by omega) (by omega)).trans (g1.wide (Nat.le_refl _) (by omega)),.cons ?_ g4⟩
   rw[Nat.min_eq_left hc]
   exact g3.srt (by omega) g2
  ·rw[if_neg hc]
   obtain⟨g1,g2⟩:=ins_spec ht (a:=a) (b:=n) (l:=l) h1
   exact⟨g1.wide (Nat.le_refl _) (by omega),.cons (by rw[Nat.min_eq_right (by omega)];exact g2) (.nil (by omega))⟩
theorem mrg_spec {lt:α→α→Bool}(ht:Tot lt)(n s:Nat)(hs:0<s):∀f a(l:List α),n≤l.length→n<a+f→Blk lt l a s n→Seg (mrg lt n s f a l) l a (max a n)∧Blk lt (mrg lt n s f a l) a (2*s) n
 |0,a,l,h1,h2,hb=>⟨.refl _ _ _,.nil (by omega)⟩
 |f+1,a,l,h1,h2,hb=>by
  rw[mrg]
  by_cases hc:a+2*s≤n
  ·rw[if_pos hc]
   obtain⟨g1,g2⟩:=sym_spec ht (2*s) a (a+s) (a+2*s) l (by omega) (by omega) (by omega) (by omega) (hb.at 0 (by omega) (by omega) (by omega)) (hb.at 1 (by omega) (by omega) (by omega))
   obtain⟨g3,g4⟩:=mrg_spec ht n s hs f (a+2*s) (sym lt (2*s) a (a+s) (a+2*s) l) (by have:=g1.len;omega) (by omega) ((hb.tail 2).keep (b:=0) (fun x hx _=>g1.out x (by omega)))
   refine⟨(g3.wide (by omega) (by omega)).trans (g1.wide (Nat.le_refl _) (by omega)),.cons ?_ g4⟩
   rw[Nat.min_eq_left hc]
   exact g3.srt (by omega) g2
  ·rw[if_neg hc]
   by_cases hd:a+s<n
   ·rw[if_pos hd]
    obtain⟨g1,g2⟩:=sym_spec ht (n-a) a (a+s) n l (by omega) (by omega) (by omega) (by omega) (hb.at 0 (by omega) (by omega) (by omega)) (hb.at 1 (by omega) (by omega) (by omega))
    exact⟨g1.wide (Nat.le_refl _) (by omega),.cons (by rw[Nat.min_eq_right (by omega)];exact g2) (.nil (by omega))⟩
   ·rw[if_neg hd]
    exact⟨.refl _ _ _,.cons (by rw[Nat.min_eq_right (by omega)];exact hb.at 0 (by omega) (by omega) (by omega)) (.nil (by omega))⟩
theorem mrgs_spec {lt:α→α→Bool}(ht:Tot lt)(n:Nat):∀f s(l:List α),n≤l.length→0<s→n<s+f→Blk lt l 0 s n→Seg (mrgs lt n f s l) l 0 n∧Srt lt (mrgs lt n f s l) 0 n
 |0,s,l,h1,h2,h3,hb=>⟨.refl _ _ _,hb.at 0 (by omega) (by omega) (by omega)⟩
 |f+1,s,l,h1,h2,h3,hb=>by
  rw[mrgs]
  by_cases hc:s<n
  ·rw[if_pos hc]
   obtain⟨g1,g2⟩:=mrg_spec ht n s h2 (n+1) 0 l h1 (by omega) hb
   rw[Nat.max_eq_right (by omega)]at g1
   obtain⟨g3,g4⟩:=mrgs_spec ht n f (2*s) (mrg lt n s (n+1) 0 l) (by have:=g1.len;omega) (by omega) (by omega) g2
   exact⟨g3.trans g1,g4⟩
  ·rw[if_neg hc]
   exact⟨.refl _ _ _,hb.at 0 (by omega) (by omega) (by omega)⟩
theorem sorted_spec {lt:α→α→Bool}(ht:Tot lt)(l:List α):(sorted lt l).Perm l∧Srt lt (sorted lt l) 0 l.length:=by
 unfold sorted
 obtain⟨g1,g2⟩:=insB_spec ht l.length (l.length+1) 0 l (Nat.le_refl _) (by omega)
 obtain⟨g3,g4⟩:=mrgs_spec ht l.length (l.length+1) 20 (insB lt l.length (l.length+1) 0 l) (by have:=g1.len;omega) (by omega) (by omega) g2
 exact⟨g3.perm.trans g1.perm,g4⟩
def blkE (lt:α→α→Bool)(n:Nat):Nat→Nat→List α→Nat×List α
 |0,a,l=>(a,l)
 |f+1,a,l=>if a+20≤n then blkE lt n f (a+20) (ins lt a (a+20) l)else(a,l)
theorem blkE_spec (lt:α→α→Bool)(n:Nat):∀f a(l:List α),n≤l.length→n<a+f→a≤n→(blkE lt n f a l).1≤n∧(blkE lt n f a l).2.length=l.length∧ins lt (blkE lt n f a l).1 n (blkE lt n f a l).2=insB lt n f a l
 |0,a,l,h1,h2,h3=>by omega
 |f+1,a,l,h1,h2,h3=>by
  rw[blkE,insB]
  by_cases hc:a+20≤n
  ·rw[if_pos hc,if_pos hc]
   have hl:=ins_length lt a (a+20) l (by omega)
   have:=blkE_spec lt n f (a+20) (ins lt a (a+20) l) (by omega) (by omega) hc
   rw[hl]at this;exact this
  ·rw[if_neg hc,if_neg hc]
   exact⟨h3,rfl,rfl⟩
def mrgE (lt:α→α→Bool)(n s:Nat):Nat→Nat→List α→Nat×List α
 |0,a,l=>(a,l)
 |f+1,a,l=>if a+2*s≤n then mrgE lt n s f (a+2*s) (symF lt a (a+s) (a+2*s) l)else(a,l)
theorem mrgE_spec (lt:α→α→Bool)(n s:Nat)(hs:0<s):∀f a(l:List α),n≤l.length→n<a+f→a≤n→(mrgE lt n s f a l).1≤n∧(mrgE lt n s f a l).2.length=l.length∧
   (if(mrgE lt n s f a l).1+s<n then symF lt (mrgE lt n s f a l).1 ((mrgE lt n s f a l).1+s) n (mrgE lt n s f a l).2 else(mrgE lt n s f a l).2)=mrg lt n s f a l
 |0,a,l,h1,h2,h3=>by omega
 |f+1,a,l,h1,h2,h3=>by
  rw[mrgE,mrg]
  by_cases hc:a+2*s≤n
  ·rw[if_pos hc,if_pos hc]
   have hl:=symF_length lt (l:=l) (show a<a+s by omega) (show a+s<a+2*s by omega) (by omega)
   have:=mrgE_spec lt n s hs f (a+2*s) (symF lt a (a+s) (a+2*s) l) (by omega) (by omega) hc
   rw[hl]at this
   rw[symF_eq lt (by omega) (by omega) (by omega)];exact this
  ·rw[if_neg hc,if_neg hc]
   exact⟨h3,rfl,rfl⟩
theorem mrg_length (lt:α→α→Bool)(n s:Nat)(hs:0<s){l:List α}(h:n≤l.length):(mrg lt n s (n+1) 0 l).length=l.length:=by
 obtain⟨g1,g2,g3⟩:=mrgE_spec lt n s hs (n+1) 0 l h (by omega) (by omega)
 rw[←g3]
 split
 ·rename_i hc;rw[symF_length lt (by omega) hc (by omega),g2]
 ·exact g2
theorem mrgs_length (lt:α→α→Bool)(n:Nat):∀f s(l:List α),0<s→n≤l.length→(mrgs lt n f s l).length=l.length
 |0,s,l,_,_=>rfl
 |f+1,s,l,h1,h2=>by
  rw[mrgs]
  split
  ·have:=mrg_length lt n s h1 h2
   rw[mrgs_length lt n f (2*s) _ (by omega) (by omega),this]
  ·rfl
theorem insB_length (lt:α→α→Bool){l:List α}:(insB lt l.length (l.length+1) 0 l).length=l.length:=by
 obtain⟨g1,g2,g3⟩:=blkE_spec lt l.length (l.length+1) 0 l (Nat.le_refl _) (by omega) (by omega)
 rw[←g3,ins_length lt _ _ _ (by omega),g2]
theorem sorted_length (lt:α→α→Bool)(l:List α):(sorted lt l).length=l.length:=by
 rw[sorted,mrgs_length lt _ _ _ _ (by omega) (by rw[insB_length];exact Nat.le_refl _),insB_length]
end
end Gp
namespace Gp
structure Addr where
 hi:Int
 lo:Int
 deriving DecidableEq,Inhabited
structure Pfx where
 fam:Int
 addr:Addr
 len:Int
 deriving DecidableEq,Inhabited
structure Origin where
 asn:Int
 pfx:Pfx
 max:Int
 deriving DecidableEq,Inhabited
structure Attest where
 cust:Int
 provs:List Int
 deriving DecidableEq,Inhabited
def u8 (n:Int):IVal:=.v (.int .u8 n)
def u32 (n:Int):IVal:=.v (.int .u32 n)
def u64 (n:Int):IVal:=.v (.int .u64 n)
def i64 (n:Int):IVal:=.v (.int .i64 n)
def bo (b:Bool):IVal:=.v (.bool b)
def encA (a:Addr):IVal:=.agg [u64 a.hi,u64 a.lo]
def encP (p:Pfx):IVal:=.agg [u8 p.fam,u64 p.addr.hi,u64 p.addr.lo,i64 p.len]
def encO (o:Origin):IVal:=.agg [u32 o.asn,u8 o.pfx.fam,u64 o.pfx.addr.hi,u64 o.pfx.addr.lo,i64 o.pfx.len,i64 o.max]
noncomputable abbrev prog :=Proofs.Try.prog
theorem t82 (a:Int):levF prog Proofs.Try.f82 [u32 a] {}=
 Tree.done Exit.ret (lret (.v (Value.bool !decide (a=a)))):=by kernel_rfl
theorem c82 (a:Int):ASpec prog 82 [u32 a] (bo false):=by
 refine ASpec.tree Proofs.Try.f82 {} (by kernel_rfl) (by kernel_rfl) (t82 _) ?_
 simp[Tree.sat,bo]
theorem t83 (a:Int):levF prog Proofs.Try.f83 [u8 a] {}=
 Tree.done Exit.ret (lret (.v (Value.bool !decide (a=a)))):=by kernel_rfl
theorem c83 (a:Int):ASpec prog 83 [u8 a] (bo false):=by
 refine ASpec.tree Proofs.Try.f83 {} (by kernel_rfl) (by kernel_rfl) (t83 _) ?_
 simp[Tree.sat,bo]
theorem t85 (a:Int):levF prog Proofs.Try.f85 [i64 a] {}=
 Tree.done Exit.ret (lret (.v (Value.bool !decide (a=a)))):=by kernel_rfl
theorem c85 (a:Int):ASpec prog 85 [i64 a] (bo false):=by
 refine ASpec.tree Proofs.Try.f85 {} (by kernel_rfl) (by kernel_rfl) (t85 _) ?_
 simp[Tree.sat,bo]
theorem t103 (a:Int):levF prog Proofs.Try.f103 [u64 a] {}=
 Tree.done Exit.ret (lret (.v (Value.bool !decide (a=a)))):=by kernel_rfl
theorem c103 (a:Int):ASpec prog 103 [u64 a] (bo false):=by
 refine ASpec.tree Proofs.Try.f103 {} (by kernel_rfl) (by kernel_rfl) (t103 _) ?_
 simp[Tree.sat,bo]
def cmpI (a b:Int):Int:=if a<b then-1 else if b<a then 1 else 0
def Tcmp (e:Int→IVal)(a b:Int):Tell:={O:=fun r i=>match r,i with|1,1=>.call [e a] (bo false)|2,1=>.call [e b] (bo false)|_,_=>.no}
theorem t62 (a b:Int):levF prog Proofs.Try.f62 [u32 a,u32 b] (Tcmp u32 a b)=
 Tree.need (ILeL [u32 a] [u32 a]∧ASpec prog 82 [u32 a] (bo false)) (.need (ILeL [u32 b] [u32 b]∧ASpec prog 82 [u32 b] (bo false)) (.br false (.br false (.done Exit.ret (lret (i64 0))) (.done Exit.ret (lret (i64 (-1:Int))))) (.br false (.done Exit.ret (lret (i64 1))) (.br (decide (a<b)) (.done Exit.ret (lret (i64 (-1:Int)))) (.br (decide (b<a)) (.done Exit.ret (lret (i64 1))) (.done Exit.ret (lret (i64 0)))))))):=by kernel_rfl
theorem c62 (a b:Int):ASpec prog 62 [u32 a,u32 b] (i64 (cmpI a b)):=by
 refine ASpec.tree Proofs.Try.f62 (Tcmp u32 a b) (by kernel_rfl) (by kernel_rfl) (t62 a b) ?_
 refine⟨⟨ILeL.refl _,c82 a⟩,fun _=>⟨⟨ILeL.refl _,c82 b⟩,fun _=>?_⟩⟩
 simp only[Tree.sat,i64,cmpI]
 grind
theorem t63 (a b:Int):levF prog Proofs.Try.f63 [u8 a,u8 b] (Tcmp u8 a b)=
 Tree.need (ILeL [u8 a] [u8 a]∧ASpec prog 83 [u8 a] (bo false)) (.need (ILeL [u8 b] [u8 b]∧ASpec prog 83 [u8 b] (bo false)) (.br false (.br false (.done Exit.ret (lret (i64 0))) (.done Exit.ret (lret (i64 (-1:Int))))) (.br false (.done Exit.ret (lret (i64 1))) (.br (decide (a<b)) (.done Exit.ret (lret (i64 (-1:Int)))) (.br (decide (b<a)) (.done Exit.ret (lret (i64 1))) (.done Exit.ret (lret (i64 0)))))))):=by kernel_rfl
theorem c63 (a b:Int):ASpec prog 63 [u8 a,u8 b] (i64 (cmpI a b)):=by
 refine ASpec.tree Proofs.Try.f63 (Tcmp u8 a b) (by kernel_rfl) (by kernel_rfl) (t63 a b) ?_
 refine⟨⟨ILeL.refl _,c83 a⟩,fun _=>⟨⟨ILeL.refl _,c83 b⟩,fun _=>?_⟩⟩
 simp only[Tree.sat,i64,cmpI]
 grind
theorem t65 (a b:Int):levF prog Proofs.Try.f65 [i64 a,i64 b] (Tcmp i64 a b)=
 Tree.need (ILeL [i64 a] [i64 a]∧ASpec prog 85 [i64 a] (bo false)) (.need (ILeL [i64 b] [i64 b]∧ASpec prog 85 [i64 b] (bo false)) (.br false (.br false (.done Exit.ret (lret (i64 0))) (.done Exit.ret (lret (i64 (-1:Int))))) (.br false (.done Exit.ret (lret (i64 1))) (.br (decide (a<b)) (.done Exit.ret (lret (i64 (-1:Int)))) (.br (decide (b<a)) (.done Exit.ret (lret (i64 1))) (.done Exit.ret (lret (i64 0)))))))):=by kernel_rfl
theorem c65 (a b:Int):ASpec prog 65 [i64 a,i64 b] (i64 (cmpI a b)):=by
 refine ASpec.tree Proofs.Try.f65 (Tcmp i64 a b) (by kernel_rfl) (by kernel_rfl) (t65 a b) ?_
 refine⟨⟨ILeL.refl _,c85 a⟩,fun _=>⟨⟨ILeL.refl _,c85 b⟩,fun _=>?_⟩⟩
 simp only[Tree.sat,i64,cmpI]
 grind
theorem t84 (a b:Int):levF prog Proofs.Try.f84 [u64 a,u64 b] (Tcmp u64 a b)=
 Tree.need (ILeL [u64 a] [u64 a]∧ASpec prog 103 [u64 a] (bo false)) (.need (ILeL [u64 b] [u64 b]∧ASpec prog 103 [u64 b] (bo false)) (.br false (.br false (.done Exit.ret (lret (i64 0))) (.done Exit.ret (lret (i64 (-1:Int))))) (.br false (.done Exit.ret (lret (i64 1))) (.br (decide (a<b)) (.done Exit.ret (lret (i64 (-1:Int)))) (.br (decide (b<a)) (.done Exit.ret (lret (i64 1))) (.done Exit.ret (lret (i64 0)))))))):=by kernel_rfl
theorem c84 (a b:Int):ASpec prog 84 [u64 a,u64 b] (i64 (cmpI a b)):=by
 refine ASpec.tree Proofs.Try.f84 (Tcmp u64 a b) (by kernel_rfl) (by kernel_rfl) (t84 a b) ?_
 refine⟨⟨ILeL.refl _,c103 a⟩,fun _=>⟨⟨ILeL.refl _,c103 b⟩,fun _=>?_⟩⟩
 simp only[Tree.sat,i64,cmpI]
 grind
def cmpA (a b:Addr):Int:=if cmpI a.hi b.hi≠0 then cmpI a.hi b.hi else cmpI a.lo b.lo
def T64 (a b:Addr):Tell:={O:=fun r i=>match r,i with|1,4=>.call [u64 a.hi,u64 b.hi] (i64 (cmpI a.hi b.hi))|4,4=>.call [u64 a.lo,u64 b.lo] (i64 (cmpI a.lo b.lo))|_,_=>.no}
theorem t64 (a b:Addr):levF prog Proofs.Try.f64 [encA a,encA b] (T64 a b)=
 Tree.need (ILeL [u64 a.hi,u64 b.hi] [u64 a.hi,u64 b.hi]∧ASpec prog 84 [u64 a.hi,u64 b.hi] (i64 (cmpI a.hi b.hi))) (.br (!decide (cmpI a.hi b.hi=0)) (.done Exit.ret (lret (i64 (cmpI a.hi b.hi)))) (.need (ILeL [u64 a.lo,u64 b.lo] [u64 a.lo,u64 b.lo]∧ASpec prog 84 [u64 a.lo,u64 b.lo] (i64 (cmpI a.lo b.lo))) (.done Exit.ret (lret (i64 (cmpI a.lo b.lo)))))):=by kernel_rfl
theorem c64 (a b:Addr):ASpec prog 64 [encA a,encA b] (i64 (cmpA a b)):=by
 refine ASpec.tree Proofs.Try.f64 (T64 a b) (by kernel_rfl) (by kernel_rfl) (t64 a b) ?_
 refine⟨⟨ILeL.refl _,c84 _ _⟩,fun _=>?_⟩
 simp only[Tree.sat,i64,cmpA]
 have:=c84 a.lo b.lo
 grind [ILeL.refl,i64]
def orI :List Int→Int
 |[]=>0
 |x::l=>if x≠0 then x else orI l
def sl1 (l:List IVal):IVal:=.sl false false 1 l
def I61 (l:List Int)(i:Nat):LState:={t:=[(8,.imm (i64 i)),(7,.imm (i64 l.length)),(6,.imm (sl1 (l.map i64))),(3,.imm (i64 0))],s:=[],m:=18,n:=0}
def L61 (l:List Int):Tree:=.br (decide (orI l=0)) (.done (.exit 0) {t:=[(3,.imm (i64 0))],s:=[],m:=18,n:=0}) (.done .ret {t:=[(2,.imm (i64 (orI l)))],s:=[],m:=18,n:=0})
def T61 (l:List Int):Tell:={Lp:=fun _=>L61 l,lv:=fun _=>([8,7,6,3],[])}
def T61r (l:List Int)(i:Nat):Tell:={O:=fun r j=>match r,j with|4,0=>.elem (i64 (l.getD i 0))|_,_=>.no}
def fin61 :Exit→Fin
 |.normal=>⟨[],[8,7,6,3],[]⟩
 |.ret=>⟨[],[2],[]⟩
 |_=>⟨[],[3],[]⟩
theorem t61r (l:List Int)(i:Nat):levL prog Proofs.Try.f61 3 (I61 l i) (T61r l i) fin61=
 Tree.br (decide ((↑i:Int)<(↑(List.length l):Int))) (.need (0≤(↑i:Int)∧(List.map i64 l)[Int.toNat (↑i:Int)]?=some (i64 (List.getD l i 0))) (.br (!decide (List.getD l i (0:Int)=(0:Int))) (.done Exit.ret (LState.mk [(2,.imm (i64 (List.getD l i 0)))] [] 18 9 [])) (.done Exit.normal (LState.mk [(8,.imm (i64 (IntKind.wrap IntKind.i64 ((↑i:Int)+1)))),(7,.imm (i64 (↑(List.length l):Int))),(6,.imm (sl1 (List.map i64 l))),(3,.imm (i64 0))] [] 18 9 [])))) (.done (Exit.exit 0) (LState.mk [(3,.imm (i64 0))] [] 18 1 [])):=by kernel_rfl
theorem t61 (l:List Int):levF prog Proofs.Try.f61 [sl1 (l.map i64)] (T61 l)=
 Tree.loop 3 (LState.mk [(8,.imm (i64 0)),(7,.imm (i64 (↑(List.length (List.map i64 l)):Int))),(6,.imm (sl1 (List.map i64 l))),(3,.imm (i64 0))] [] 18 5 []) (.br (decide (orI l=0)) (.done (Exit.exit 0) (LState.mk [(3,.imm (i64 0))] [] 18 0 [])) (.done Exit.ret (LState.mk [(2,.imm (i64 (orI l)))] [] 18 0 []))) (.br (decide (orI l=0)) (.done Exit.ret (lret (i64 0))) (.done Exit.ret (lret (i64 (orI l))))):=by kernel_rfl
theorem getD_map {α:Type}(f:α→IVal)(l:List α)(i:Nat)(d:α)(h:i<l.length):(l.map f)[i]?=some (f (l.getD i d)):=by
 simp[List.getElem?_eq_getElem h,List.getD_eq_getElem?_getD]
theorem i64_small {n:Nat}{l:Nat}(h:n<l)(hl:l≤2^62):IntKind.i64.wrap ((n:Int)+1)=((n+1:Nat):Int):=by
 rw[IntWalk.i64_in _ (by omega)];omega
theorem orI_drop (l:List Int)(i:Nat)(h:∀j,j<i→l.getD j 0=0):orI l=orI (l.drop i):=by
 induction i generalizing l with
 |zero=>rfl
 |succ i ih=>
  cases l with
  |nil=>rfl
  |cons x l=>
   have h0:x=0:=by simpa using h 0 (by omega)
   simp only[orI,h0,ne_eq,not_true_eq_false,if_false,List.drop_succ_cons]
   exact ih l (fun j hj=>by simpa using h (j+1) (by omega))
theorem l61 (l:List Int)(hl:l.length≤2^62)(σ:LState)(h:LSub σ (I61 l 0)):LoopOk prog [] (bodyOf Proofs.Try.f61) 3 σ (L61 l):=by
 refine LoopOk.of_levL (γ:={i:Nat//i≤l.length∧∀j,j<i→l.getD j 0=0}) (fun g=>T61r l g.1) fin61 (fun g=>I61 l g.1) (fun g=>l.length-g.1) ⟨0,by omega,by omega⟩ (by kernel_rfl) h ?_
 rintro⟨i,hi,hz⟩
 rw[t61r]
 have hd:=orI_drop l i hz
 refine⟨fun hb=>⟨⟨by omega,?_⟩,fun _=>⟨fun hb2=>?_,fun hb2=>?_⟩⟩,fun hb=>?_⟩
 ·rw[Int.toNat_natCast];exact getD_map _ _ _ _ (by simpa using hb)
 ·have hlt:i<l.length:=by simpa using hb
  rw[List.drop_eq_getElem_cons hlt]at hd
  have hx:l.getD i 0=l[i]:=by simp[List.getD_eq_getElem?_getD,List.getElem?_eq_getElem hlt]
  have hne:l[i]≠0:=by rw[←hx];intro h0;simp only[h0]at hb2;cases hb2
  simp only[orI,hne,ne_eq,not_false_eq_true,if_true]at hd
  simp[Tree.sat,L61,Tree.has,LSub,tsub,ssub,tl,linT,linS,ainB,hd,hne,hx,-List.getD_eq_getElem?_getD]
 ·have hlt:i<l.length:=by simpa using hb
  have hx:l.getD i 0=0:=by simpa using hb2
  refine⟨⟨i+1,by omega,fun j hj=>?_⟩,by simp only;omega,?_⟩
  ·by_cases hji:j=i
   ·rw[hji];exact hx
   ·exact hz j (by omega)
  ·simp[I61,LSub,tsub,ssub,tl,linT,linS,ainB,i64,i64_small hlt hl]
 ·have hge:l.length≤i:=by simpa using hb
  rw[List.drop_eq_nil_of_le hge]at hd
  simp[Tree.sat,L61,Tree.has,LSub,tsub,ssub,tl,linT,linS,ainB,hd,orI]
theorem c61 (l:List Int)(hl:l.length≤2^62):ASpec prog 61 [sl1 (l.map i64)] (i64 (orI l)):=by
 refine ASpec.tree Proofs.Try.f61 (T61 l) (by kernel_rfl) (by kernel_rfl) (t61 l) ?_
 refine⟨l61 l hl _ ?_,?_⟩
 ·simp[I61,LSub,tsub,ssub,tl,linT,linS,ainB,i64]
 ·refine⟨fun h=>?_,fun h=>rfl⟩
  have h0:orI l=0:=by simpa using h
  rw[h0];rfl
def width (f:Int):Int:=if f=4 then 32 else if f=6 then 128 else 0
theorem t86 (f:Int):levF prog Proofs.Try.f86 [u8 f] {}=
 Tree.br (decide (f=4)) (.done Exit.ret (lret (i64 32))) (.br (decide (f=6)) (.done Exit.ret (lret (i64 128))) (.done Exit.ret (lret (i64 0)))):=by kernel_rfl
theorem c86 (f:Int):ASpec prog 86 [u8 f] (i64 (width f)):=by
 refine ASpec.tree Proofs.Try.f86 {} (by kernel_rfl) (by kernel_rfl) (t86 f) ?_
 simp only[Tree.sat,i64,width];grind
def andA (a b:Addr):Addr:=⟨ibits .u64 (· &&& ·) a.hi b.hi,ibits .u64 (· &&& ·) a.lo b.lo⟩
theorem t88 (a b:Addr):levF prog Proofs.Try.f88 [encA a,encA b] {}=
 Tree.done Exit.ret (lret (.agg [u64 (ibits IntKind.u64 (fun x1 x2=>x1&&& x2) a.hi b.hi),u64 (ibits IntKind.u64 (fun x1 x2=>x1&&& x2) a.lo b.lo)])):=by kernel_rfl
theorem c88 (a b:Addr):ASpec prog 88 [encA a,encA b] (encA (andA a b)):=by
 refine ASpec.tree Proofs.Try.f88 {} (by kernel_rfl) (by kernel_rfl) (t88 a b) ?_
 rfl
def ckA (f:Int)(a:Addr):Bool:=decide (f=6)||(decide (f=4)&&decide (a.hi=0)&&decide (a.lo<4294967296))
theorem t87 (f:Int)(a:Addr):levF prog Proofs.Try.f87 [u8 f,encA a] {}=
 Tree.br (decide (f=6)) (.done Exit.ret (lret (bo true))) (.br (decide (f=4)) (.br (decide (a.hi=0)) (.done Exit.ret (lret (bo (decide (a.lo<4294967296))))) (.done Exit.ret (lret (bo false)))) (.done Exit.ret (lret (bo false)))):=by kernel_rfl
theorem c87 (f:Int)(a:Addr):ASpec prog 87 [u8 f,encA a] (bo (ckA f a)):=by
 refine ASpec.tree Proofs.Try.f87 {} (by kernel_rfl) (by kernel_rfl) (t87 f a) ?_
 simp only[Tree.sat,bo,ckA];grind
def ones :Int:=18446744073709551615
def shl64 (a n:Int):Int:=IntKind.u64.wrap (a*2^(min n.toNat 64))
def maskM (f m:Int):Addr:=
 if 64≤m then(if f=4 then⟨0,ibits .u64 (· &&& ·) 0 4294967295⟩else⟨shl64 ones (m-64),0⟩)else if f=4 then⟨0,ibits .u64 (· &&& ·) (shl64 ones m) 4294967295⟩else⟨ones,shl64 ones m⟩
def mask (f n:Int):Addr:=maskM f (width f-n)
def T89 (f:Int):Tell:={O:=fun r i=>match r,i with|1,1=>.call [u8 f] (i64 (width f))|_,_=>.no}
theorem t89 (f n:Int):levF prog Proofs.Try.f89 [u8 f,i64 n] (T89 f)=
 Tree.need (ILeL [u8 f] [u8 f]∧ASpec prog 86 [u8 f] (i64 (width f))) (.br (decide (64≤IntKind.wrap IntKind.i64 (width f-n))) (.need (0≤IntKind.wrap IntKind.i64 (IntKind.wrap IntKind.i64 (width f-n)-64)) (.br (decide (f=4)) (.done Exit.ret (lret (.agg [u64 0,u64 (ibits IntKind.u64 (fun x1 x2=>x1&&& x2) 0 4294967295)]))) (.done Exit.ret (lret (.agg [u64 (IntKind.wrap IntKind.u64 ((18446744073709551615:Int)*(2:Int)^min (Int.toNat (IntKind.wrap IntKind.i64 (IntKind.wrap IntKind.i64 (width f-n)-64))) 64)),u64 0]))))) (.need (0≤IntKind.wrap IntKind.i64 (width f-n))
 (.br (decide (f=4)) (.done Exit.ret (lret (.agg [u64 0,u64 (ibits IntKind.u64 (fun x1 x2=>x1&&& x2) (IntKind.wrap IntKind.u64 ((18446744073709551615:Int)*(2:Int)^min (Int.toNat (IntKind.wrap IntKind.i64 (width f-n))) 64)) 4294967295)]))) (.done Exit.ret (lret (.agg [u64 18446744073709551615,u64 (IntKind.wrap IntKind.u64 ((18446744073709551615:Int)*(2:Int)^min (Int.toNat (IntKind.wrap IntKind.i64 (width f-n))) 64))])))))):=by kernel_rfl
theorem width_le (f:Int):width f≤128:=by
 unfold width
 by_cases h:f=4
 ·simp[h]
 ·by_cases h6:f=6<;>simp[h,h6]
theorem c89 (f n:Int)(h:0≤n)(h':n≤width f):ASpec prog 89 [u8 f,i64 n] (encA (mask f n)):=by
 refine ASpec.tree Proofs.Try.f89 (T89 f) (by kernel_rfl) (by kernel_rfl) (t89 f n) ?_
 have hw:width f≤128:=width_le f
 have e1:IntKind.i64.wrap (width f-n)=width f-n:=IntWalk.i64_in _ (by omega)
 refine⟨⟨ILeL.refl _,c86 f⟩,fun _=>?_⟩
 rw[e1]
 refine⟨fun hb=>?_,fun hb=>?_⟩
 ·have hb:64≤width f-n:=by simpa using hb
  have e2:IntKind.i64.wrap (width f-n-64)=width f-n-64:=IntWalk.i64_in _ (by omega)
  rw[e2]
  refine⟨by omega,fun _=>⟨fun h4=>?_,fun h4=>?_⟩⟩
  ·have hm:mask f n=⟨0,ibits .u64 (· &&& ·) 0 4294967295⟩:=by unfold mask maskM;rw[if_pos hb,if_pos (by simpa using h4)]
   rw[hm];rfl
  ·have hm:mask f n=⟨shl64 ones (width f-n-64),0⟩:=by unfold mask maskM;rw[if_pos hb,if_neg (by simpa using h4)]
   rw[hm];rfl
 ·have hb:¬64≤width f-n:=by simpa using hb
  refine⟨by omega,fun _=>⟨fun h4=>?_,fun h4=>?_⟩⟩
  ·have hm:mask f n=⟨0,ibits .u64 (· &&& ·) (shl64 ones (width f-n)) 4294967295⟩:=by unfold mask maskM;rw[if_neg hb,if_pos (by simpa using h4)]
   rw[hm];rfl
  ·have hm:mask f n=⟨ones,shl64 ones (width f-n)⟩:=by unfold mask maskM;rw[if_neg hb,if_neg (by simpa using h4)]
   rw[hm];rfl
def ckP (p:Pfx):Int:=
 if width p.fam=0 then 2 else if ckA p.fam p.addr=true∧0≤p.len∧p.len≤width p.fam∧andA p.addr (mask p.fam p.len)=p.addr then 0 else 8
def T66 (p:Pfx):Tell:={O:=fun r i=>match r,i with
 |1,2=>.call [u8 p.fam] (i64 (width p.fam))|3,4=>.call [u8 p.fam,encA p.addr] (bo (ckA p.fam p.addr))|3,16=>.call [u8 p.fam] (i64 (width p.fam))|3,26=>.call [u8 p.fam,i64 p.len] (encA (mask p.fam p.len))
 |3,27=>.call [encA p.addr,encA (mask p.fam p.len)] (encA (andA p.addr (mask p.fam p.len)))|_,_=>.no}
theorem t66 (p:Pfx):levF prog Proofs.Try.f66 [encP p] (T66 p)=
 Tree.need (ILeL [u8 p.fam] [u8 p.fam]∧ASpec prog 86 [u8 p.fam] (i64 (width p.fam))) (.br (decide (width p.fam=0)) (.done Exit.ret (lret (i64 2))) (.need (ILeL [u8 p.fam,.agg [u64 p.addr.hi,u64 p.addr.lo]] [u8 p.fam,encA p.addr]∧ASpec prog 87 [u8 p.fam,encA p.addr] (bo (ckA p.fam p.addr))) (.br (!ckA p.fam p.addr) (.done Exit.ret (lret (i64 8))) (.br (decide (p.len<0)) (.done Exit.ret (lret (i64 8))) (.need (ILeL [u8 p.fam] [u8 p.fam]∧ASpec prog 86 [u8 p.fam] (i64 (width p.fam))) (.br (decide (width p.fam<p.len)) (.done Exit.ret (lret (i64 8))) (.need (ILeL [u8 p.fam,i64 p.len] [u8
 p.fam,i64 p.len]∧ASpec prog 89 [u8 p.fam,i64 p.len] (encA (mask p.fam p.len))) (.need (ILeL [.agg [u64 p.addr.hi,u64 p.addr.lo],encA (mask p.fam p.len)] [encA p.addr,encA (mask p.fam p.len)]∧ASpec prog 88 [encA p.addr,encA (mask p.fam p.len)] (encA (andA p.addr (mask p.fam p.len)))) (.br (if BinOp.neq=BinOp.neq then !(decide ((andA p.addr (mask p.fam p.len)).hi=p.addr.hi)&&(decide ((andA p.addr (mask p.fam p.len)).lo=p.addr.lo)&&true))else decide ((andA p.addr (mask p.fam p.len)).hi=p.addr.hi)&&(decide ((andA p.addr (mask p.fam p.len)).lo=p.addr.lo)&&true)) (.done
 Exit.ret (lret (i64 8))) (.done Exit.ret (lret (i64 0)))))))))))):=by kernel_rfl
def cmpO (a b:Origin):Int:=orI [cmpI a.asn b.asn,cmpI a.pfx.fam b.pfx.fam,cmpA a.pfx.addr b.pfx.addr,cmpI a.pfx.len b.pfx.len,cmpI a.max b.max]
def T35 (a b:Origin):Tell:={O:=fun r i=>match r,i with
 |1,4=>.call [u32 a.asn,u32 b.asn] (i64 (cmpI a.asn b.asn))|1,11=>.call [u8 a.pfx.fam,u8 b.pfx.fam] (i64 (cmpI a.pfx.fam b.pfx.fam))|1,18=>.call [encA a.pfx.addr,encA b.pfx.addr] (i64 (cmpA a.pfx.addr b.pfx.addr))
 |1,25=>.call [i64 a.pfx.len,i64 b.pfx.len] (i64 (cmpI a.pfx.len b.pfx.len))|1,30=>.call [i64 a.max,i64 b.max] (i64 (cmpI a.max b.max))
 |1,32=>.call [sl1 ([cmpI a.asn b.asn,cmpI a.pfx.fam b.pfx.fam,cmpA a.pfx.addr b.pfx.addr,cmpI a.pfx.len b.pfx.len,cmpI a.max b.max].map i64)] (i64 (cmpO a b))|_,_=>.no}
theorem t35 (a b:Origin):levF prog Proofs.Try.f35 [encO a,encO b] (T35 a b)=
 Tree.need (ILeL [u32 a.asn,u32 b.asn] [u32 a.asn,u32 b.asn]∧ASpec prog 62 [u32 a.asn,u32 b.asn] (i64 (cmpI a.asn b.asn))) (.need (ILeL [u8 a.pfx.fam,u8 b.pfx.fam] [u8 a.pfx.fam,u8 b.pfx.fam]∧ASpec prog 63 [u8 a.pfx.fam,u8 b.pfx.fam] (i64 (cmpI a.pfx.fam b.pfx.fam))) (.need (ILeL [.agg [u64 a.pfx.addr.hi,u64 a.pfx.addr.lo],.agg [u64 b.pfx.addr.hi,u64 b.pfx.addr.lo]] [encA a.pfx.addr,encA b.pfx.addr]∧ASpec prog 64 [encA a.pfx.addr,encA b.pfx.addr] (i64 (cmpA a.pfx.addr b.pfx.addr))) (.need (ILeL [i64 a.pfx.len,i64 b.pfx.len] [i64 a.pfx.len,i64 b.pfx.len]∧ASpec prog 65 [i64 a.pfx.len,i64
 b.pfx.len] (i64 (cmpI a.pfx.len b.pfx.len))) (.need (ILeL [i64 a.max,i64 b.max] [i64 a.max,i64 b.max]∧ASpec prog 65 [i64 a.max,i64 b.max] (i64 (cmpI a.max b.max))) (.need (ILeL [.sl false false 1 [i64 (cmpI a.asn b.asn),i64 (cmpI a.pfx.fam b.pfx.fam),i64 (cmpA a.pfx.addr b.pfx.addr),i64 (cmpI a.pfx.len b.pfx.len),i64 (cmpI a.max b.max)]] [sl1 [i64 (cmpI a.asn b.asn),i64 (cmpI a.pfx.fam b.pfx.fam),i64 (cmpA a.pfx.addr b.pfx.addr),i64 (cmpI a.pfx.len b.pfx.len),i64 (cmpI a.max b.max)]]∧ASpec prog 61 [sl1 [i64 (cmpI a.asn b.asn),i64 (cmpI a.pfx.fam b.pfx.fam),i64 (cmpA a.pfx.addr
 b.pfx.addr),i64 (cmpI a.pfx.len b.pfx.len),i64 (cmpI a.max b.max)]] (i64 (cmpO a b))∧true=true) (.done Exit.ret (lret (i64 (cmpO a b))))))))):=by kernel_rfl
theorem c66 (p:Pfx):ASpec prog 66 [encP p] (i64 (ckP p)):=by
 refine ASpec.tree Proofs.Try.f66 (T66 p) (by kernel_rfl) (by kernel_rfl) (t66 p) ?_
 refine⟨⟨ILeL.refl _,c86 _⟩,fun _=>⟨fun h1=>?_,fun h1=>⟨⟨ILeL.refl _,c87 _ _⟩,fun _=>⟨fun h2=>?_,fun h2=>⟨fun h3=>?_,fun h3=>⟨⟨ILeL.refl _,c86 _⟩,fun _=>⟨fun h4=>?_,fun h4=>?_⟩⟩⟩⟩⟩⟩⟩
 ·simp at h1;simp[Tree.sat,ckP,h1,i64]
 ·simp at h1 h2;simp[Tree.sat,ckP,h1,h2,i64]
 ·simp at h1 h2 h3;simp[Tree.sat,ckP,h1,i64];grind
 ·simp at h1 h2 h3 h4;simp[Tree.sat,ckP,h1,i64];grind
 ·simp at h1 h2 h3 h4
  refine⟨⟨ILeL.refl _,c89 _ _ h3 h4⟩,fun _=>⟨⟨ILeL.refl _,c88 _ _⟩,fun _=>?_⟩⟩
  have:∀a b:Addr,a=b↔a.hi=b.hi∧a.lo=b.lo:=by intro a b;cases a;cases b;simp
  simp[Tree.sat,ckP,h1,h2,h3,h4,i64,this]
  grind
theorem c35 (a b:Origin):ASpec prog 35 [encO a,encO b] (i64 (cmpO a b)):=by
 refine ASpec.tree Proofs.Try.f35 (T35 a b) (by kernel_rfl) (by kernel_rfl) (t35 a b) ?_
 refine⟨⟨ILeL.refl _,c62 _ _⟩,fun _=>⟨⟨ILeL.refl _,c63 _ _⟩,fun _=>⟨⟨ILeL.refl _,c64 _ _⟩,fun _=>⟨⟨ILeL.refl _,c65 _ _⟩,fun _=>⟨⟨ILeL.refl _,c65 _ _⟩,fun _=>⟨⟨ILeL.refl _,c61 [cmpI a.asn b.asn,cmpI a.pfx.fam b.pfx.fam,cmpA a.pfx.addr b.pfx.addr,cmpI a.pfx.len b.pfx.len,cmpI a.max b.max] (by simp),rfl⟩,fun _=>rfl⟩⟩⟩⟩⟩⟩
def lu32 (l:List Int):IVal:=sl1 (l.map u32)
def encT (a:Attest):IVal:=.agg [u32 a.cust,lu32 a.provs]
def isAt (l:List Int)(x:Int)(i:Nat):Bool:=decide (x=l.getD i 0)
def I104 (l:List Int)(x:Int)(i:Nat):LState:={t:=[(8,.imm (i64 i)),(7,.imm (i64 l.length)),(0,.imm (lu32 l)),(1,.imm (u32 x))],s:=[],m:=19,n:=0}
def R104 (i:Nat):LState:={t:=[(4,.imm (i64 i))],s:=[],m:=19,n:=0}
def E104 :LState:={t:=[],s:=[],m:=19,n:=0}
def T104 (l:List Int)(x:Int):Tell:={Lp:=fun _=>Lfirst (isAt l x) l.length 0 R104 E104,lv:=fun _=>([8,7,0,1],[])}
def T104r (l:List Int)(i:Nat):Tell:={O:=fun r j=>match r,j with|4,3=>.elem (u32 (l.getD i 0))|_,_=>.no}
def fin104 :Exit→Fin
 |.normal=>⟨[],[8,7,0,1],[]⟩
 |.ret=>⟨[],[4],[]⟩
 |_=>⟨[],[],[]⟩
theorem t104r (l:List Int)(x:Int)(i:Nat):levL prog Proofs.Try.f104 2 (I104 l x i) (T104r l i) fin104=
 Tree.br (decide ((↑i:Int)<(↑(List.length l):Int))) (.need (0≤(↑i:Int)∧(List.map u32 l)[Int.toNat (↑i:Int)]?=some (u32 (List.getD l i 0))) (.br (decide (x=List.getD l i 0)) (.done Exit.ret (LState.mk [(4,.imm (i64 (↑i:Int)))] [] 19 11 [])) (.done Exit.normal (LState.mk [(8,.imm (i64 (IntKind.wrap IntKind.i64 ((↑i:Int)+1)))),(7,.imm (i64 (↑(List.length l):Int))),(0,.imm (lu32 l)),(1,.imm (u32 x))] [] 19 11 [])))) (.done (Exit.exit 0) (LState.mk [] [] 19 1 [])):=by kernel_rfl
theorem t104 (l:List Int)(x:Int):levF prog Proofs.Try.f104 [lu32 l,u32 x] (T104 l x)=
 Tree.loop 2 (LState.mk [(8,.imm (i64 0)),(7,.imm (i64 (↑(List.length (List.map u32 l)):Int))),(0,.imm (lu32 l)),(1,.imm (u32 x))] [] 19 4 []) (.br (anyI (isAt l x) 0 (List.length l)) (.done Exit.ret (R104 (firstI (isAt l x) 0 (List.length l)))) (.done (Exit.exit 0) E104)) (.br (anyI (isAt l x) 0 (List.length l)) (.done Exit.ret (lret (i64 (↑(firstI (isAt l x) 0 (List.length l)):Int)))) (.done Exit.ret (lret (i64 (-1:Int))))):=by kernel_rfl
def indexI (l:List Int)(x:Int):Int:=if anyI (isAt l x) 0 l.length=true then firstI (isAt l x) 0 l.length else-1
theorem l104 (l:List Int)(x:Int)(hl:l.length≤2^62)(σ:LState)(h:LSub σ (I104 l x 0)):LoopOk prog [] (bodyOf Proofs.Try.f104) 2 σ (Lfirst (isAt l x) l.length 0 R104 E104):=by
 refine LoopOk.first (isAt l x) l.length 0 (I104 l x) R104 E104 (T104r l) fin104 (by kernel_rfl) h fun i hi hz=>?_
 rw[t104r]
 refine⟨fun hb=>?_,fun hb=>?_⟩
 ·have hlt:i<l.length:=by simpa using hb
  refine⟨⟨by omega,by rw[Int.toNat_natCast];exact getD_map _ _ _ _ hlt⟩,fun _=>⟨fun hb2=>?_,fun hb2=>?_⟩⟩
  ·exact⟨hlt,hb2,by simp[R104,LSub,tsub,ssub,tl,linT,linS,ainB]⟩
  ·exact⟨hlt,hb2,by simp[I104,LSub,tsub,ssub,tl,linT,linS,ainB,i64,i64_small hlt hl]⟩
 ·have hge:l.length≤i:=by simpa using hb
  exact⟨rfl,hge,by simp[E104,LSub,tsub,ssub,linT,linS]⟩
theorem c104 (l:List Int)(x:Int)(hl:l.length≤2^62):ASpec prog 104 [lu32 l,u32 x] (i64 (indexI l x)):=by
 refine ASpec.tree Proofs.Try.f104 (T104 l x) (by kernel_rfl) (by kernel_rfl) (t104 l x) ?_
 refine⟨l104 l x hl _ ?_,?_⟩
 ·simp[I104,LSub,tsub,ssub,tl,linT,linS,ainB,i64,lu32]
 ·simp only[Tree.sat,indexI]
  grind [i64]
theorem index_iff (l:List Int)(x:Int):(0≤indexI l x)↔x∈l:=by
 unfold indexI
 split
 ·rename_i h
  refine⟨fun _=>?_,fun _=>by omega⟩
  obtain⟨i,hi,hp⟩:=anyI_iff.1 h
  simp only[isAt,decide_eq_true_eq,List.getD_eq_getElem?_getD,List.getElem?_eq_getElem hi,Option.getD_some]at hp
  rw[hp];exact List.getElem_mem hi
 ·rename_i h
  refine⟨fun h=>by omega,fun hm=>?_⟩
  obtain⟨i,hi,hx⟩:=List.mem_iff_getElem.1 hm
  exact absurd (anyI_iff.2 ⟨i,hi,by simp[isAt,List.getD_eq_getElem?_getD,List.getElem?_eq_getElem hi,hx]⟩) h
def T90 (l:List Int)(x:Int):Tell:={O:=fun r j=>match r,j with|1,2=>.call [lu32 l,u32 x] (i64 (indexI l x))|_,_=>.no}
theorem t90 (l:List Int)(x:Int):levF prog Proofs.Try.f90 [lu32 l,u32 x] (T90 l x)=
 Tree.need (ILeL [lu32 l,u32 x] [lu32 l,u32 x]∧ASpec prog 104 [lu32 l,u32 x] (i64 (indexI l x))) (.done Exit.ret (lret (bo (decide (0≤indexI l x))))):=by kernel_rfl
theorem c90 (l:List Int)(x:Int)(hl:l.length≤2^62):ASpec prog 90 [lu32 l,u32 x] (bo (decide (x∈l))):=by
 refine ASpec.tree Proofs.Try.f90 (T90 l x) (by kernel_rfl) (by kernel_rfl) (t90 l x) ?_
 refine⟨⟨ILeL.refl _,c104 l x hl⟩,fun _=>?_⟩
 simp only[Tree.sat,bo]
 refine lret_inj ?_
 simp[index_iff]
def strict (l:List Int):Nat→Bool
 |0=>true
 |i+1=>strict l i&&decide (l.getD i 0<l.getD (i+1) 0)
def b67 (a:Attest):Bool:=decide (0<a.cust)&&decide (0<(a.provs.length:Int))&&!decide (a.cust∈a.provs)
def d67 (a:Attest):Bool:=b67 a&&(decide ((a.provs.length:Int)=1)||decide (0<a.provs.getD 0 0))
def I67 (a:Attest)(i:Nat):LState:={t:=[(4,.imm (i64 (i+1:Nat))),(3,.imm (bo (d67 a&&strict a.provs i))),(1,.ptr 0 0)],s:=[(0,.box 106 (.imm (encT a)))],m:=64,n:=1}
def E67 (a:Attest):LState:={t:=[(3,.imm (bo (d67 a&&strict a.provs (a.provs.length-1))))],s:=[],m:=64,n:=1}
def T67 (a:Attest):Tell:={O:=fun r j=>match r,j with|3,14=>.call [lu32 a.provs,u32 a.cust] (bo (decide (a.cust∈a.provs)))|4,9=>.elem (u32 (a.provs.getD 0 0))|_,_=>.no,Lp:=fun _=>.done (.exit 0) (E67 a),lv:=fun _=>([4,3,1],[0])}
def T67r (a:Attest)(i:Nat):Tell:={O:=fun r j=>match r,j with|8,6=>.elem (u32 (a.provs.getD i 0))|8,11=>.elem (u32 (a.provs.getD (i+1) 0))|_,_=>.no}
def fin67 :Exit→Fin
 |.normal=>⟨[],[4,3,1],[0]⟩
 |_=>⟨[],[3],[]⟩
theorem t67r (a:Attest)(i:Nat):levL prog Proofs.Try.f67 6 (I67 a i) (T67r a i) fin67=
 Tree.br (decide ((↑(i+1):Int)<(↑(List.length (List.map u32 a.provs)):Int))) (.br (d67 a&&strict a.provs i) (.need (0≤IntKind.wrap IntKind.i64 ((↑(i+1):Int)-1)∧(List.map u32 a.provs)[Int.toNat (IntKind.wrap IntKind.i64 ((↑(i+1):Int)-1))]?=some (u32 (List.getD a.provs i 0))) (.need (0≤(↑(i+1):Int)∧(List.map u32 a.provs)[Int.toNat (↑(i+1):Int)]?=some (u32 (List.getD a.provs (i+1) 0))) (.done Exit.normal (LState.mk [(4,.imm (i64 (IntKind.wrap IntKind.i64 ((↑(i+1):Int)+1)))),(3,.imm (bo (decide (List.getD a.provs i 0<List.getD a.provs (i+1)
 0)))),(1,.ptr 0 0)] [(0,Entry.box 106 (.imm (encT a)))] 64 25 [])))) (.done Exit.normal (LState.mk [(4,.imm (i64 (IntKind.wrap IntKind.i64 ((↑(i+1):Int)+1)))),(3,.imm (bo false)),(1,.ptr 0 0)] [(0,Entry.box 106 (.imm (encT a)))] 64 25 []))) (.done (Exit.exit 0) (LState.mk [(3,.imm (bo (d67 a&&strict a.provs i)))] [] 64 6 [])):=by kernel_rfl
theorem t67 (a:Attest):levF prog Proofs.Try.f67 [encT a] (T67 a)=
 Tree.br (decide (50<(↑(List.length (List.map u32 a.provs)):Int))) (.done Exit.ret (lret (i64 4))) (.br (decide (0<a.cust)) (.br (decide (0<(↑(List.length (List.map u32 a.provs)):Int))) (.need (ILeL [lu32 a.provs,u32 a.cust] [lu32 a.provs,u32 a.cust]∧ASpec prog 90 [lu32 a.provs,u32 a.cust] (bo (decide (a.cust∈a.provs)))) (.br (!decide (a.cust∈a.provs)) (.br (decide ((↑(List.length (List.map u32 a.provs)):Int)=1)) (.loop 6 (LState.mk [(4,.imm (i64 1)),(3,.imm (bo true)),(1,.ptr 0 0)] [(0,Entry.box 106 (.imm (encT a)))] 64 40 []) (.done (Exit.exit 0) (E67 a)) (.br (!(d67 a&&
 strict a.provs (List.length a.provs-1))) (.done Exit.ret (lret (i64 8))) (.done Exit.ret (lret (i64 0))))) (.need ((0:Int)≤(0:Int)∧(List.map u32 a.provs)[0]?=some (u32 (List.getD a.provs 0 0))) (.loop 6 (LState.mk [(4,.imm (i64 1)),(3,.imm (bo (decide (0<List.getD a.provs 0 0)))),(1,.ptr 0 0)] [(0,Entry.box 106 (.imm (encT a)))] 64 40 []) (.done (Exit.exit 0) (E67 a)) (.br (!(d67 a&&strict a.provs (List.length a.provs-1))) (.done Exit.ret (lret (i64 8))) (.done Exit.ret (lret (i64 0))))))) (.loop 6 (LState.mk [(4,.imm (i64 1)),(3,.imm (bo false)),(1,.ptr 0 0)] [(0,Entry.box
 106 (.imm (encT a)))] 64 40 []) (.done (Exit.exit 0) (E67 a)) (.br (!(d67 a&&strict a.provs (List.length a.provs-1))) (.done Exit.ret (lret (i64 8))) (.done Exit.ret (lret (i64 0))))))) (.loop 6 (LState.mk [(4,.imm (i64 1)),(3,.imm (bo false)),(1,.ptr 0 0)] [(0,Entry.box 106 (.imm (encT a)))] 64 40 []) (.done (Exit.exit 0) (E67 a)) (.br (!(d67 a&&strict a.provs (List.length a.provs-1))) (.done Exit.ret (lret (i64 8))) (.done Exit.ret (lret (i64 0)))))) (.loop 6 (LState.mk [(4,.imm (i64 1)),(3,.imm (bo false)),(1,.ptr 0 0)] [(0,Entry.box 106 (.imm (encT a)))] 64 40 []) (.done (Exit.exit
 0) (E67 a)) (.br (!(d67 a&&strict a.provs (List.length a.provs-1))) (.done Exit.ret (lret (i64 8))) (.done Exit.ret (lret (i64 0)))))):=by kernel_rfl
theorem l67 (a:Attest)(hl:a.provs.length≤2^62)(σ:LState)(h:LSub σ (I67 a 0)):LoopOk prog [] (bodyOf Proofs.Try.f67) 6 σ (.done (.exit 0) (E67 a)):=by
 refine LoopOk.of_levL (γ:={i:Nat//i≤a.provs.length-1}) (fun g=>T67r a g.1) fin67 (fun g=>I67 a g.1) (fun g=>a.provs.length-g.1) ⟨0,by omega⟩ (by kernel_rfl) h ?_
 rintro⟨i,hi⟩
 rw[t67r]
 refine⟨fun hb=>?_,fun hb=>?_⟩
 ·have hlt:i+1<a.provs.length:=by simp at hb;omega
  have e2:IntKind.i64.wrap ((i:Int)+1+1)=(i:Int)+1+1:=IntWalk.i64_in _ (by omega)
  have e1:IntKind.i64.wrap (((i+1:Nat):Int)-1)=(i:Int):=by rw[IntWalk.i64_in _ (by omega)];omega
  refine⟨fun hc=>⟨⟨?_,?_⟩,fun _=>⟨⟨by omega,?_⟩,fun _=>?_⟩⟩,fun hc=>?_⟩
  ·simp only[e1];omega
  ·simp only[e1,Int.toNat_natCast];exact getD_map _ _ _ _ (by omega)
  ·rw[Int.toNat_natCast];exact getD_map _ _ _ _ hlt
  ·refine⟨⟨i+1,by omega⟩,by simp only;omega,?_⟩
   simp only at hc
   simp[I67,LSub,tsub,ssub,tl,sl,linT,linS,ainB,i64,bo,e2,strict,-List.getD_eq_getElem?_getD]
   simp at hc
   simp[hc]
  ·refine⟨⟨i+1,by omega⟩,by simp only;omega,?_⟩
   simp only at hc
   simp[I67,LSub,tsub,ssub,tl,sl,linT,linS,ainB,i64,bo,e2,strict,-List.getD_eq_getElem?_getD]
   cases hd:d67 a<;>simp_all
 ·have hge:i=a.provs.length-1:=by simp at hb;omega
  subst hge
  exact⟨rfl,by simp[E67,LSub,tsub,ssub,tl,linT,linS,ainB]⟩
def ckPr (a:Attest):Int:=if 50<a.provs.length then 4 else if(d67 a&&strict a.provs (a.provs.length-1))=true then 0 else 8
theorem c67 (a:Attest):ASpec prog 67 [encT a] (i64 (ckPr a)):=by
 refine ASpec.tree Proofs.Try.f67 (T67 a) (by kernel_rfl) (by kernel_rfl) (t67 a) ?_
 refine⟨fun h=>?_,fun h=>?_⟩
 ·have:50<a.provs.length:=by simp at h;omega
  simp[Tree.sat,ckPr,this,i64]
 ·have hle:a.provs.length≤50:=by simp at h;omega
  have hl:a.provs.length≤2^62:=by omega
  have fin:∀s:LState,s.t=[(4,.imm (i64 1)),(3,.imm (bo (d67 a))),(1,.ptr 0 0)]→s.s=[(0,.box 106 (.imm (encT a)))]→s.m=64→LoopOk prog [] (bodyOf Proofs.Try.f67) 6 s (.done (.exit 0) (E67 a)):=by
   intro s h1 h2 h3
   refine l67 a hl s ?_
   simp[I67,LSub,tsub,ssub,tl,sl,linT,linS,ainB,h1,h2,h3,strict]
  have last:(Tree.br (!(d67 a&&strict a.provs (a.provs.length-1))) (Tree.done Exit.ret (lret (IVal.v (Value.int IntKind.i64 8)))) (Tree.done Exit.ret (lret (IVal.v (Value.int IntKind.i64 0))))).sat (LoopOk prog [] (bodyOf Proofs.Try.f67)) (fun _ s=>s=lret (i64 (ckPr a))):=by
   have hn:¬50<a.provs.length:=by omega
   cases hh:(d67 a&&strict a.provs (a.provs.length-1))with
   |false=>exact⟨fun _=>(by simp only[Tree.sat,ckPr,if_neg hn,hh];rfl),fun hx=>by cases hx⟩
   |true=>exact⟨fun hx=>(by cases hx),fun _=>by simp only[Tree.sat,ckPr,if_neg hn,hh];rfl⟩
  refine⟨fun h1=>⟨fun h2=>⟨⟨ILeL.refl _,c90 _ _ hl⟩,fun _=>⟨fun h3=>⟨fun h4=>⟨fin _ ?_ rfl rfl,last⟩,fun h4=>⟨⟨by decide,?_⟩,fun _=>⟨fin _ ?_ rfl rfl,last⟩⟩⟩,fun h3=>⟨fin _ ?_ rfl rfl,last⟩⟩⟩,fun h2=>⟨fin _ ?_ rfl rfl,last⟩⟩,fun h1=>⟨fin _ ?_ rfl rfl,last⟩⟩
  ·have:d67 a=true:=by simp[d67,b67]at*;grind
   rw[this]<;>rfl
  ·exact getD_map _ _ _ _ (by simp at h2;omega)
  ·have:d67 a=decide (0<a.provs.getD 0 0):=by simp[d67,b67]at*;grind
   rw[this]<;>rfl
  ·have:d67 a=false:=by simp[d67,b67]at*;grind
   rw[this]<;>rfl
  ·have:d67 a=false:=by simp[d67,b67]at*;grind
   rw[this]<;>rfl
  ·have:d67 a=false:=by simp[d67,b67]at*;grind
   rw[this]<;>rfl
end Gp
namespace Gp
structure RKey where
 asn:Int
 root:Vector Int 16
 height:Int
 deriving DecidableEq,Inhabited
def rootL (k:RKey):List Int:=[k.root[0],k.root[1],k.root[2],k.root[3],k.root[4],k.root[5],k.root[6],k.root[7],k.root[8],k.root[9],k.root[10],k.root[11],k.root[12],k.root[13],k.root[14],k.root[15]]
def encK (k:RKey):IVal:=.agg [u32 k.asn,u8 k.root[0],u8 k.root[1],u8 k.root[2],u8 k.root[3],u8 k.root[4],u8 k.root[5],u8 k.root[6],u8 k.root[7],u8 k.root[8],u8 k.root[9],u8 k.root[10],u8 k.root[11],u8 k.root[12],u8 k.root[13],u8 k.root[14],u8 k.root[15],i64 k.height]
def goodO (o:Origin):Bool:=decide (ckP o.pfx=0)&&decide (o.pfx.len≤o.max)&&decide (o.max≤if o.pfx.fam=6 then 128 else 32)
def T36 (o:Origin):Tell:={O:=fun r i=>match r,i with|4,2=>.call [encP o.pfx] (i64 (ckP o.pfx))|_,_=>.no}
theorem t36 (o:Origin):levF prog Proofs.Try.f36 [encO o] (T36 o)=
 Tree.br (decide (o.pfx.fam=6)) (.need (ILeL [.agg [u8 o.pfx.fam,u64 o.pfx.addr.hi,u64 o.pfx.addr.lo,i64 o.pfx.len]] [encP o.pfx]∧ASpec prog 66 [encP o.pfx] (i64 (ckP o.pfx))) (.br (decide (ckP o.pfx=0)) (.br (decide (o.pfx.len≤o.max)) (.done Exit.ret (lret (bo (decide (o.max≤128))))) (.done Exit.ret (lret (bo false)))) (.done Exit.ret (lret (bo false))))) (.need (ILeL [.agg [u8 o.pfx.fam,u64 o.pfx.addr.hi,u64 o.pfx.addr.lo,i64 o.pfx.len]] [encP o.pfx]∧ASpec prog 66 [encP o.pfx] (i64 (ckP o.pfx))) (.br (decide (ckP o.pfx=0)) (.br (decide (o.pfx.len≤o.max)) (.done Exit.ret (lret
 (bo (decide (o.max≤32))))) (.done Exit.ret (lret (bo false)))) (.done Exit.ret (lret (bo false))))):=by kernel_rfl
def T38 (a b:Attest):Tell:={O:=fun r i=>match r,i with|1,4=>.call [u32 a.cust,u32 b.cust] (i64 (cmpI a.cust b.cust))|_,_=>.no}
theorem t38 (a b:Attest):levF prog Proofs.Try.f38 [encT a,encT b] (T38 a b)=
 Tree.need (ILeL [u32 a.cust,u32 b.cust] [u32 a.cust,u32 b.cust]∧ASpec prog 62 [u32 a.cust,u32 b.cust] (i64 (cmpI a.cust b.cust))) (.done Exit.ret (lret (i64 (cmpI a.cust b.cust)))):=by kernel_rfl
theorem c38 (a b:Attest):ASpec prog 38 [encT a,encT b] (i64 (cmpI a.cust b.cust)):=by
 refine ASpec.tree Proofs.Try.f38 (T38 a b) (by kernel_rfl) (by kernel_rfl) (t38 a b) ?_
 exact⟨⟨ILeL.refl _,c62 _ _⟩,fun _=>rfl⟩
def T39 (a:Attest):Tell:={O:=fun r i=>match r,i with|1,5=>.call [encT a] (i64 (ckPr a))|_,_=>.no}
theorem t39 (a:Attest):levF prog Proofs.Try.f39 [encT a] (T39 a)=
 Tree.need (ILeL [.agg [u32 a.cust,lu32 a.provs]] [encT a]∧ASpec prog 67 [encT a] (i64 (ckPr a))) (.done Exit.ret (lret (bo (decide (ckPr a=0))))):=by kernel_rfl
theorem c39 (a:Attest):ASpec prog 39 [encT a] (bo (decide (ckPr a=0))):=by
 refine ASpec.tree Proofs.Try.f39 (T39 a) (by kernel_rfl) (by kernel_rfl) (t39 a) ?_
 exact⟨⟨ILeL.refl _,c67 _⟩,fun _=>rfl⟩
theorem t42 (k:RKey):levF prog Proofs.Try.f42 [encK k] {}=
 Tree.br (decide (0≤k.height)) (.done Exit.ret (lret (bo (decide (k.height≤4))))) (.done Exit.ret (lret (bo false))):=by kernel_rfl
theorem c42 (k:RKey):ASpec prog 42 [encK k] (bo (decide (0≤k.height)&&decide (k.height≤4))):=by
 refine ASpec.tree Proofs.Try.f42 {} (by kernel_rfl) (by kernel_rfl) (t42 k) ?_
 simp only[Tree.sat,bo];grind
theorem t33 (a:Attest):levF prog Proofs.Try.f33 [encT a] {}=
 Tree.done Exit.ret (lret (bo (decide (50<(↑(List.length (List.map u32 a.provs)):Int))))):=by kernel_rfl
theorem c33 (a:Attest):ASpec prog 33 [encT a] (bo (decide (50<(a.provs.length:Int)))):=by
 refine ASpec.tree Proofs.Try.f33 {} (by kernel_rfl) (by kernel_rfl) (t33 a) ?_
 simp[Tree.sat,bo]
variable {α:Type}
def fnV (f:Nat):IVal:=.v (.func (.func f) #[] #[])
def slE (k:Nat)(e:α→IVal)(l:List α):IVal:=.sl false false k (l.map e)
def bad (order:α→α→Int)(good:α→Bool)(d:α)(l:List α)(i:Nat):Bool:=!good (l.getD i d)||(decide (0<i)&&decide (0≤order (l.getD (i-1) d) (l.getD i d)))
def IR (k:Nat)(e:α→IVal)(fo fg:Nat)(l:List α)(i:Nat):LState:={t:=[(11,.imm (i64 i)),(10,.imm (i64 l.length)),(9,.imm (slE k e l)),(2,.imm (fnV fg)),(1,.imm (fnV fo)),(0,.imm (slE k e l))],s:=[],m:=36,n:=0}
def RR (_:Nat):LState:={t:=[(6,.imm (bo false))],s:=[],m:=36,n:=0}
def ER :LState:={t:=[],s:=[],m:=36,n:=0}
def TR (k:Nat)(e:α→IVal)(order:α→α→Int)(good:α→Bool)(d:α)(l:List α):Tell:={Lp:=fun _=>Lfirst (bad order good d l) l.length 0 RR ER,lv:=fun _=>([11,10,9,2,1,0],[])}
def TRr (e:α→IVal)(order:α→α→Int)(good:α→Bool)(d:α)(l:List α)(i:Nat):Tell:={O:=fun r j=>match r,j with
 |3,1=>.elem (e (l.getD i d))|4,2=>.call [e (l.getD i d)] (bo (good (l.getD i d)))|4,12=>.elem (e (l.getD (i-1) d))|4,15=>.call [e (l.getD (i-1) d),e (l.getD i d)] (i64 (order (l.getD (i-1) d) (l.getD i d)))|_,_=>.no}
def finR :Exit→Fin
 |.normal=>⟨[],[11,10,9,2,1,0],[]⟩
 |.ret=>⟨[],[6],[]⟩
 |_=>⟨[],[],[]⟩
def RT (k:Nat)(e:α→IVal)(fo fg:Nat)(order:α→α→Int)(good:α→Bool)(d:α)(l:List α)(i:Nat):Tree:=
 let nx:LState:=⟨[(11,.imm (.v (.int .i64 (IntKind.i64.wrap ((i:Int)+1))))),(10,.imm (i64 l.length)),(9,.imm (slE k e l)),(2,.imm (fnV fg)),(1,.imm (fnV fo)),(0,.imm (slE k e l))],[],36,28,[]⟩
 let no:Tree:=.done .ret ⟨[(6,.imm (.v (.bool false)))],[],36,27,[]⟩
 .br (decide ((i:Int)<(l.length:Int)))
  (.need (0≤(i:Int)∧(l.map e)[Int.toNat (i:Int)]?=some (e (l.getD i d)))
   (.need (ILeL [e (l.getD i d)] [e (l.getD i d)]∧ASpec prog fg [e (l.getD i d)] (bo (good (l.getD i d))))
    (.br (!good (l.getD i d)) no
     (.br (decide ((0:Int)<(i:Int)))
      (.need (0≤IntKind.i64.wrap ((i:Int)-1)∧(l.map e)[Int.toNat (IntKind.i64.wrap ((i:Int)-1))]?=some (e (l.getD (i-1) d)))
       (.need (ILeL [e (l.getD (i-1) d),e (l.getD i d)] [e (l.getD (i-1) d),e (l.getD i d)]∧ASpec prog fo [e (l.getD (i-1) d),e (l.getD i d)] (i64 (order (l.getD (i-1) d) (l.getD i d))))
        (.br (decide ((0:Int)≤order (l.getD (i-1) d) (l.getD i d))) no (.done .normal nx))))
      (.done .normal nx)))))
  (.done (.exit 0) ⟨[],[],36,1,[]⟩)
theorem rising_loop {fn:Func}{k:Nat}{e:α→IVal}{fo fg:Nat}{order:α→α→Int}{good:α→Bool}{d:α}{l:List α}(ht:∀i,levL prog fn 2 (IR k e fo fg l i) (TRr e order good d l i) finR=RT k e fo fg order good d l i)
  (h1:loopOne (bodyOf fn) 2=true)(hg:∀a,ASpec prog fg [e a] (bo (good a)))(ho:∀a b,ASpec prog fo [e a,e b] (i64 (order a b)))(hl:l.length≤2^62)(σ:LState)(h:LSub σ (IR k e fo fg l 0)):
  LoopOk prog [] (bodyOf fn) 2 σ (Lfirst (bad order good d l) l.length 0 RR ER):=by
 refine LoopOk.first (bad order good d l) l.length 0 (IR k e fo fg l) RR ER (TRr e order good d l) finR h1 h fun i hi hz=>?_
 rw[ht]
 refine⟨fun hb=>?_,fun hb=>?_⟩
 ·have hlt:i<l.length:=by simpa using hb
  have hno:∀b,bad order good d l i=b→b=true→Tree.sat (LoopOk prog [] (bodyOf fn)) (Qfirst (bad order good d l) l.length 0 (IR k e fo fg l) RR ER i) (.done .ret ⟨[(6,.imm (.v (.bool false)))],[],36,27,[]⟩):=by
   intro b h1 h2
   exact⟨hlt,by rw[h1,h2],by simp[RR,LSub,tsub,ssub,tl,linT,linS,ainB,bo]⟩
  have hnx:bad order good d l i=false→Tree.sat (LoopOk prog [] (bodyOf fn)) (Qfirst (bad order good d l) l.length 0 (IR k e fo fg l) RR ER i) (.done .normal ⟨[(11,.imm (.v (.int .i64 (IntKind.i64.wrap ((i:Int)+1))))),(10,.imm (i64 l.length)),(9,.imm (slE k e l)),(2,.imm (fnV fg)),(1,.imm (fnV fo)),(0,.imm (slE k e l))],[],36,28,[]⟩):=by
   intro h2
   exact⟨hlt,h2,by simp[IR,LSub,tsub,ssub,tl,linT,linS,ainB,i64,i64_small hlt hl]⟩
  refine⟨⟨by omega,by rw[Int.toNat_natCast];exact getD_map _ _ _ _ hlt⟩,fun _=>⟨⟨ILeL.refl _,hg _⟩,fun _=>⟨fun h2=>hno _ rfl ?_,fun h2=>⟨fun h3=>?_,fun h3=>hnx ?_⟩⟩⟩⟩
  ·unfold bad;rw[h2];rfl
  ·have h0:0<i:=by simpa using h3
   have e1:IntKind.i64.wrap ((i:Int)-1)=((i-1:Nat):Int):=by rw[IntWalk.i64_in _ (by omega)];omega
   refine⟨⟨by rw[e1];omega,by rw[e1,Int.toNat_natCast];exact getD_map _ _ _ _ (by omega)⟩,fun _=>⟨⟨ILeL.refl _,ho _ _⟩,fun _=>⟨fun h4=>hno _ rfl ?_,fun h4=>hnx ?_⟩⟩⟩
   ·unfold bad;simp only[h4,decide_eq_true h0];simp
   ·unfold bad;simp only[h4,h2];simp
  ·have h0:¬0<i:=by simpa using h3
   unfold bad;simp only[h2,decide_eq_false h0];rfl
 ·have hge:l.length≤i:=by simpa using hb
  exact⟨rfl,hge,by simp[ER,LSub,tsub,ssub,linT,linS]⟩
def risingB (order:α→α→Int)(good:α→Bool)(d:α)(l:List α):Bool:=!anyI (bad order good d l) 0 l.length
def FT (k:Nat)(e:α→IVal)(fo fg:Nat)(order:α→α→Int)(good:α→Bool)(d:α)(l:List α):Tree:=
 .loop 2 ⟨[(11,.imm (.v (.int .i64 0))),(10,.imm (.v (.int .i64 ((l.map e).length:Int)))),(9,.imm (slE k e l)),(2,.imm (fnV fg)),(1,.imm (fnV fo)),(0,.imm (slE k e l))],[],36,4,[]⟩ (Lfirst (bad order good d l) l.length 0 RR ER)
  (.br (anyI (bad order good d l) 0 l.length) (.done .ret (lret (bo false))) (.done .ret (lret (.v (.bool true)))))
theorem rising_spec {f:Nat}{fn:Func}{k:Nat}{e:α→IVal}{fo fg:Nat}{order:α→α→Int}{good:α→Bool}{d:α}{l:List α}(hf:prog.funcs[f]?=some fn)(hk:okF fn 3=true)
  (ht:∀i,levL prog fn 2 (IR k e fo fg l i) (TRr e order good d l i) finR=RT k e fo fg order good d l i)(h1:loopOne (bodyOf fn) 2=true)(h2:levF prog fn [slE k e l,fnV fo,fnV fg] (TR k e order good d l)=FT k e fo fg order good d l)
  (hg:∀a,ASpec prog fg [e a] (bo (good a)))(ho:∀a b,ASpec prog fo [e a,e b] (i64 (order a b)))(hl:l.length≤2^62):ASpec prog f [slE k e l,fnV fo,fnV fg] (bo (risingB order good d l)):=by
 refine ASpec.tree fn (TR k e order good d l) hf hk h2 ⟨rising_loop ht h1 hg ho hl _ ?_,fun hx=>?_,fun hx=>?_⟩
 ·simp[IR,LSub,tsub,ssub,tl,linT,linS,ainB,i64]
 ·simp only[Tree.sat,risingB,hx];rfl
 ·simp only[Tree.sat,risingB,hx];rfl
theorem c36 (o:Origin):ASpec prog 36 [encO o] (bo (goodO o)):=by
 refine ASpec.tree Proofs.Try.f36 (T36 o) (by kernel_rfl) (by kernel_rfl) (t36 o) ?_
 have hc:=c66 o.pfx
 refine⟨fun h=>⟨⟨ILeL.refl _,hc⟩,fun _=>?_⟩,fun h=>⟨⟨ILeL.refl _,hc⟩,fun _=>?_⟩⟩
 ·simp at h;simp only[Tree.sat,goodO,bo,h];grind
 ·simp at h;simp only[Tree.sat,goodO,bo,h];grind
theorem t34 (l:List Origin):levF prog Proofs.Try.f34 [slE 6 encO l,fnV 35,fnV 36] (TR 6 encO cmpO goodO default l)=FT 6 encO 35 36 cmpO goodO default l:=by kernel_rfl
theorem t34r (l:List Origin)(i:Nat):levL prog Proofs.Try.f34 2 (IR 6 encO 35 36 l i) (TRr encO cmpO goodO default l i) finR=RT 6 encO 35 36 cmpO goodO default l i:=by kernel_rfl
theorem c34 (l:List Origin)(hl:l.length≤2^62):ASpec prog 34 [slE 6 encO l,fnV 35,fnV 36] (bo (risingB cmpO goodO default l)):=
 rising_spec (by kernel_rfl) (by kernel_rfl) (t34r l) (by kernel_rfl) (t34 l) c36 c35 hl
def cmpT (a b:Attest):Int:=cmpI a.cust b.cust
def goodT (a:Attest):Bool:=decide (ckPr a=0)
theorem t37 (l:List Attest):levF prog Proofs.Try.f37 [slE 2 encT l,fnV 38,fnV 39] (TR 2 encT cmpT goodT default l)=FT 2 encT 38 39 cmpT goodT default l:=by kernel_rfl
theorem t37r (l:List Attest)(i:Nat):levL prog Proofs.Try.f37 2 (IR 2 encT 38 39 l i) (TRr encT cmpT goodT default l i) finR=RT 2 encT 38 39 cmpT goodT default l i:=by kernel_rfl
theorem c37 (l:List Attest)(hl:l.length≤2^62):ASpec prog 37 [slE 2 encT l,fnV 38,fnV 39] (bo (risingB cmpT goodT default l)):=
 rising_spec (by kernel_rfl) (by kernel_rfl) (t37r l) (by kernel_rfl) (t37 l) c39 c38 hl
end Gp
namespace Gp
variable {α:Type}
def diffAt (ne:α→α→Bool)(d:α)(l r:List α)(i:Nat):Bool:=ne (l.getD i d) (r.getD i d)
def IQ (k:Nat)(e:α→IVal)(l r:List α)(i:Nat):LState:={t:=[(13,.imm (i64 i)),(12,.imm (i64 l.length)),(0,.imm (slE k e l)),(1,.imm (slE k e r))],s:=[],m:=26,n:=0}
def RQ (_:Nat):LState:={t:=[(4,.imm (bo false))],s:=[],m:=26,n:=0}
def EQ :LState:={t:=[],s:=[],m:=26,n:=0}
def TQ (ne:α→α→Bool)(d:α)(l r:List α):Tell:={Lp:=fun _=>Lfirst (diffAt ne d l r) l.length 0 RQ EQ,lv:=fun _=>([13,12,0,1],[])}
def TQr (e:α→IVal)(d:α)(l r:List α)(i:Nat):Tell:={O:=fun r' j=>match r',j with
 |6,2=>.elem (e (l.getD i d))|6,6=>.elem (e (r.getD i d))|_,_=>.no}
def finQ :Exit→Fin
 |.normal=>⟨[],[13,12,0,1],[]⟩
 |.ret=>⟨[],[4],[]⟩
 |_=>⟨[],[],[]⟩
def QT (k:Nat)(e:α→IVal)(ne:α→α→Bool)(d:α)(l r:List α)(i:Nat):Tree:=
 .br (decide ((i:Int)<(l.length:Int)))
  (.need (0≤(i:Int)∧(l.map e)[Int.toNat (i:Int)]?=some (e (l.getD i d)))
   (.need (0≤(i:Int)∧(r.map e)[Int.toNat (i:Int)]?=some (e (r.getD i d)))
    (.br (ne (l.getD i d) (r.getD i d)) (.done .ret ⟨[(4,.imm (.v (.bool false)))],[],26,13,[]⟩)
     (.done .normal ⟨[(13,.imm (.v (.int .i64 (IntKind.i64.wrap ((i:Int)+1))))),(12,.imm (i64 l.length)),(0,.imm (slE k e l)),(1,.imm (slE k e r))],[],26,14,[]⟩))))
  (.done (.exit 0) ⟨[],[],26,1,[]⟩)
def QF (k:Nat)(e:α→IVal)(ne:α→α→Bool)(d:α)(l r:List α):Tree:=
 .br (!decide (((l.map e).length:Int)=((r.map e).length:Int))) (.done .ret (lret (.v (.bool false))))
  (.loop 4 ⟨[(13,.imm (.v (.int .i64 0))),(12,.imm (.v (.int .i64 ((l.map e).length:Int)))),(0,.imm (slE k e l)),(1,.imm (slE k e r))],[],26,9,[]⟩ (Lfirst (diffAt ne d l r) l.length 0 RQ EQ)
   (.br (anyI (diffAt ne d l r) 0 l.length) (.done .ret (lret (bo false))) (.done .ret (lret (.v (.bool true))))))
theorem equal_loop {fn:Func}{k:Nat}{e:α→IVal}{ne:α→α→Bool}{d:α}{l r:List α}(hlr:l.length=r.length)(ht:∀i,levL prog fn 4 (IQ k e l r i) (TQr e d l r i) finQ=QT k e ne d l r i)
  (h1:loopOne (bodyOf fn) 4=true)(hl:l.length≤2^62)(σ:LState)(h:LSub σ (IQ k e l r 0)):LoopOk prog [] (bodyOf fn) 4 σ (Lfirst (diffAt ne d l r) l.length 0 RQ EQ):=by
 refine LoopOk.first (diffAt ne d l r) l.length 0 (IQ k e l r) RQ EQ (TQr e d l r) finQ h1 h fun i hi hz=>?_
 rw[ht]
 refine⟨fun hb=>?_,fun hb=>?_⟩
 ·have hlt:i<l.length:=by simpa using hb
  refine⟨⟨by omega,by rw[Int.toNat_natCast];exact getD_map _ _ _ _ hlt⟩,fun _=>⟨⟨by omega,by rw[Int.toNat_natCast];exact getD_map _ _ _ _ (by omega)⟩,fun _=>⟨fun h2=>⟨hlt,h2,?_⟩,fun h2=>⟨hlt,h2,?_⟩⟩⟩⟩
  ·simp[RQ,LSub,tsub,ssub,tl,linT,linS,ainB,bo]
  ·simp[IQ,LSub,tsub,ssub,tl,linT,linS,ainB,i64,i64_small hlt hl]
 ·have hge:l.length≤i:=by simpa using hb
  exact⟨rfl,hge,by simp[EQ,LSub,tsub,ssub,linT,linS]⟩
def sameL (ne:α→α→Bool)(d:α)(l r:List α):Bool:=decide (l.length=r.length)&&!anyI (diffAt ne d l r) 0 l.length
theorem equal_spec {f:Nat}{fn:Func}{k:Nat}{e:α→IVal}{ne:α→α→Bool}{d:α}{l r:List α}(hf:prog.funcs[f]?=some fn)(hk:okF fn 2=true)
  (ht:∀i,levL prog fn 4 (IQ k e l r i) (TQr e d l r i) finQ=QT k e ne d l r i)(h1:loopOne (bodyOf fn) 4=true)(h2:levF prog fn [slE k e l,slE k e r] (TQ ne d l r)=QF k e ne d l r)(hl:l.length≤2^62):
  ASpec prog f [slE k e l,slE k e r] (bo (sameL ne d l r)):=by
 refine ASpec.tree fn (TQ ne d l r) hf hk h2 ⟨fun hx=>?_,fun hx=>?_⟩
 ·have:¬l.length=r.length:=by simp at hx;omega
  simp[Tree.sat,sameL,this,bo]
 ·have hlr:l.length=r.length:=by simp at hx;omega
  refine⟨equal_loop hlr ht h1 hl _ ?_,fun hy=>?_,fun hy=>?_⟩
  ·simp[IQ,LSub,tsub,ssub,tl,linT,linS,ainB,i64]
  ·rw[show sameL ne d l r=false from by unfold sameL;rw[hy];simp];rfl
  ·rw[show sameL ne d l r=true from by unfold sameL;rw[hy];simp[hlr]];rfl
theorem sameL_iff {ne:α→α→Bool}{d:α}{l r:List α}(hne:∀a b,ne a b=false↔a=b):sameL ne d l r=true↔l=r:=by
 unfold sameL
 simp only[Bool.and_eq_true,decide_eq_true_eq,Bool.not_eq_true']
 constructor
 ·rintro⟨h1,h2⟩
  refine List.ext_getElem h1 fun i h3 h4=>?_
  have:diffAt ne d l r i=false:=by
   cases hd:diffAt ne d l r i with
   |false=>rfl
   |true=>rw[anyI_iff.2 ⟨i,h3,hd⟩]at h2;cases h2
  have:=(hne _ _).1 this
  simpa[List.getD_eq_getElem?_getD,List.getElem?_eq_getElem h3,List.getElem?_eq_getElem h4]using this
 ·rintro rfl
  refine⟨rfl,?_⟩
  cases ha:anyI (diffAt ne d l l) 0 l.length with
  |false=>rfl
  |true=>obtain⟨i,_,hp⟩:=anyI_iff.1 ha;rw[diffAt,(hne _ _).2 rfl]at hp;cases hp
def neO (a b:Origin):Bool:=!(decide (a.asn=b.asn)&&(decide (a.pfx.fam=b.pfx.fam)&&(decide (a.pfx.addr.hi=b.pfx.addr.hi)&&(decide (a.pfx.addr.lo=b.pfx.addr.lo)&&(decide (a.pfx.len=b.pfx.len)&&(decide (a.max=b.max)&&true))))))
def neI (a b:Int):Bool:=!decide (a=b)
theorem neO_iff (a b:Origin):neO a b=false↔a=b:=by
 obtain⟨_,⟨_,⟨_,_⟩,_⟩,_⟩:=a;obtain⟨_,⟨_,⟨_,_⟩,_⟩,_⟩:=b
 simp[neO,and_assoc]
theorem t73 (l r:List Int):levF prog Proofs.Try.f73 [slE 1 u32 l,slE 1 u32 r] (TQ neI 0 l r)=QF 1 u32 neI 0 l r:=by kernel_rfl
theorem t73r (l r:List Int)(i:Nat):levL prog Proofs.Try.f73 4 (IQ 1 u32 l r i) (TQr u32 0 l r i) finQ=QT 1 u32 neI 0 l r i:=by kernel_rfl
theorem c73 (l r:List Int)(hl:l.length≤2^62):ASpec prog 73 [slE 1 u32 l,slE 1 u32 r] (bo (decide (l=r))):=by
 have:=equal_spec (f:=73) (by kernel_rfl) (by kernel_rfl) (t73r l r) (by kernel_rfl) (t73 l r) hl
 rwa[show sameL neI 0 l r=decide (l=r)from by rw[Bool.eq_iff_iff,sameL_iff (fun a b=>by simp[neI])];simp]at this
def neK (a b:RKey):Bool:=!(decide (a.asn=b.asn)&&(decide (a.root[0]=b.root[0])&&(decide (a.root[1]=b.root[1])&&(decide (a.root[2]=b.root[2])&&(decide (a.root[3]=b.root[3])&&(decide (a.root[4]=b.root[4])&&(decide (a.root[5]=b.root[5])&&(decide (a.root[6]=b.root[6])&&(decide (a.root[7]=b.root[7])&&(decide (a.root[8]=b.root[8])&&(decide (a.root[9]=b.root[9])&&(decide (a.root[10]=b.root[10])&&(decide (a.root[11]=b.root[11])&&(decide (a.root[12]=b.root[12])&&(decide (a.root[13]=b.root[13])&&(decide (a.root[14]=b.root[14])&&(decide (a.root[15]=b.root[15])&&(decide (a.height=b.height)&&true))))))))))))))))))
theorem neK_iff (a b:RKey):neK a b=false↔a=b:=by
 obtain⟨x,v,y⟩:=a;obtain⟨x',v',y'⟩:=b
 simp only[neK,Bool.not_eq_false',Bool.and_eq_true,decide_eq_true_eq,and_true,RKey.mk.injEq]
 constructor
 ·rintro⟨h,h0,h1,h2,h3,h4,h5,h6,h7,h8,h9,h10,h11,h12,h13,h14,h15,hh⟩
  refine⟨h,Vector.ext fun i hi=>?_,hh⟩
  match i,hi with
  |0,_=>exact h0
  |1,_=>exact h1
  |2,_=>exact h2
  |3,_=>exact h3
  |4,_=>exact h4
  |5,_=>exact h5
  |6,_=>exact h6
  |7,_=>exact h7
  |8,_=>exact h8
  |9,_=>exact h9
  |10,_=>exact h10
  |11,_=>exact h11
  |12,_=>exact h12
  |13,_=>exact h13
  |14,_=>exact h14
  |15,_=>exact h15
  |n+16,hn=>omega
 ·rintro⟨rfl,rfl,rfl⟩;simp
def T50 (a b:Attest):Tell:={O:=fun r i=>match r,i with|1,10=>.call [lu32 a.provs,lu32 b.provs] (bo (decide (a.provs=b.provs)))|_,_=>.no}
theorem t50 (a b:Attest):levF prog Proofs.Try.f50 [encT a,encT b] (T50 a b)=
 Tree.br (decide (a.cust=b.cust)) (.need (ILeL [lu32 a.provs,lu32 b.provs] [lu32 a.provs,lu32 b.provs]∧ASpec prog 73 [lu32 a.provs,lu32 b.provs] (bo (decide (a.provs=b.provs)))) (.done Exit.ret (lret (bo (decide (a.provs=b.provs)))))) (.done Exit.ret (lret (bo false))):=by kernel_rfl
theorem c50 (a b:Attest)(hl:a.provs.length≤2^62):ASpec prog 50 [encT a,encT b] (bo (decide (a=b))):=by
 refine ASpec.tree Proofs.Try.f50 (T50 a b) (by kernel_rfl) (by kernel_rfl) (t50 a b) ?_
 obtain⟨c,p⟩:=a;obtain⟨c',p'⟩:=b
 refine⟨fun h=>⟨⟨ILeL.refl _,c73 _ _ hl⟩,fun _=>?_⟩,fun h=>?_⟩
 ·have hc:c=c':=by simpa using h
  subst hc
  show lret (bo (decide (p=p')))=_
  simp
 ·have hc:¬c=c':=by simpa using h
  show lret (bo false)=_
  simp[hc]
end Gp
namespace Gp
variable {α:Type}
def slF (k:Nat)(e:α→IVal)(l:List α):IVal:=.sl true false k (l.map e)
def CT (k:Nat)(e:α→IVal)(l:List α):Tree:=
 .alt (l.map e).isEmpty (.done .ret (lret (.v (.slice none 0 0)))) (.need (cellsOk []=true∧cellsOk (l.map e)=true∧([]:List IVal).length+(l.map e).length≤lim) (.done .ret (lret (.sl true false k ([]++l.map e)))))
def TC :Tell:={fz:=fun _ _=>true}
theorem clone_spec {f:Nat}{fn:Func}{k:Nat}{e:α→IVal}{l:List α}(hf:prog.funcs[f]?=some fn)(hk:okF fn 1=true)(ht:levF prog fn [slE k e l] TC=CT k e l)(he:∀x,(icells (e x)).isSome=true)(hl:l.length≤1000000):
  ASpec prog f [slE k e l] (slF k e l):=by
 refine ASpec.treeW fn TC hf hk ht ⟨fun h=>?_,⟨rfl,cellsOk_map e he l,by simp[lim];exact hl⟩,fun _=>⟨_,rfl,ILe.refl _⟩⟩
 have:l=[]:=by simpa using h
 subst this
 exact⟨_,rfl,ILe.nil _ _ _⟩
theorem c29 (l:List Origin)(hl:l.length≤1000000):ASpec prog 29 [slE 6 encO l] (slF 6 encO l):=clone_spec (fn:=Proofs.Try.f29) (by kernel_rfl) (by kernel_rfl) (by kernel_rfl) (fun _=>rfl) hl
theorem c30 (l:List RKey)(hl:l.length≤1000000):ASpec prog 30 [slE 18 encK l] (slF 18 encK l):=clone_spec (fn:=Proofs.Try.f30) (by kernel_rfl) (by kernel_rfl) (by kernel_rfl) (fun _=>rfl) hl
theorem c59 (l:List Int)(hl:l.length≤1000000):ASpec prog 59 [slE 1 u32 l] (slF 1 u32 l):=clone_spec (fn:=Proofs.Try.f59) (by kernel_rfl) (by kernel_rfl) (by kernel_rfl) (fun _=>rfl) hl
def okT (a:Attest):Prop:=a.provs.length≤1000000
theorem getD_mem (l:List Attest)(i:Nat)(h:i<l.length):l.getD i default∈l:=by
 simp[List.getD_eq_getElem?_getD,List.getElem?_eq_getElem h]
structure Payload where
 origins:List Origin
 paths:List Attest
 keys:List RKey
 deriving DecidableEq,Inhabited
def encL (p:Payload):IVal:=.agg [slE 6 encO p.origins,slE 2 encT p.paths,slE 18 encK p.keys]
structure Payload.ok (p:Payload):Prop where
 o:p.origins.length≤100000
 t:p.paths.length≤100000
 k:p.keys.length≤100000
 p:∀a∈p.paths,okT a
def T31 (a:Attest):Tell:={O:=fun r j=>match r,j with|1,2=>.call [lu32 a.provs] (slF 1 u32 a.provs)|_,_=>.no}
theorem t31 (a:Attest):levF prog Proofs.Try.f31 [encT a] (T31 a)=
 Tree.need (ILeL [lu32 a.provs] [lu32 a.provs]∧ASpec prog 59 [lu32 a.provs] (slF 1 u32 a.provs)) (.done Exit.ret (lret (.agg [u32 a.cust,slF 1 u32 a.provs]))):=by kernel_rfl
theorem c31 (a:Attest)(h:okT a):ASpec prog 31 [encT a] (encT a):=by
 refine ASpec.treeW Proofs.Try.f31 (T31 a) (by kernel_rfl) (by kernel_rfl) (t31 a) ⟨⟨ILeL.refl _,c59 _ h⟩,fun _=>⟨_,rfl,?_⟩⟩
 exact ILe.agg (.cons (.refl _) (.cons (.sl (fun h=>by cases h) (fun h=>h) (.refl _)) (.refl _)))
def B10 (p:Payload)(c:AVal):Entry:=.box 26 (.agg [.imm (slF 6 encO p.origins),c,.imm (slF 18 encK p.keys)])
def Z10 :Entry:=.box 26 (.imm (.agg [.v (.slice none 0 0),.v (.slice none 0 0),.v (.slice none 0 0)]))
def I10a (p:Payload):LState:={t:=[(16,.imm (i64 0)),(15,.imm (i64 p.paths.length)),(14,.imm (slE 2 encT p.paths)),(3,.ptr 9 0),(2,.ptr 1 0)],s:=[(9,B10 p (.imm (.v (.slice none 0 0)))),(1,Z10)],m:=29,n:=60}
def I10s (p:Payload)(i:Nat):LState:={t:=[(16,.imm (i64 i)),(15,.imm (i64 p.paths.length)),(14,.imm (slE 2 encT p.paths)),(3,.ptr 9 0),(2,.ptr 1 0)],s:=[(9,B10 p (.own 50 i)),(50,.row 47 2 ((p.paths.take i).map encT)),(1,Z10)],m:=29,n:=60}
def I10 (p:Payload)(i:Nat):LState:=if i=0 then I10a p else I10s p i
def T10r (p:Payload)(i:Nat):Tell:={O:=fun r j=>match r,j with|4,0=>.elem (encT (p.paths.getD i default))|5,3=>.call [encT (p.paths.getD i default)] (encT (p.paths.getD i default))|_,_=>.no,fz:=fun r j=>match r,j with|5,4=>true|_,_=>false}
def fin10 :Exit→Fin
 |.normal=>⟨[(50,59),(70,50)],[16,15,14,3,2],[9,50,1]⟩
 |_=>⟨[],[3,2],[9,50,1]⟩
theorem t10r0 (p:Payload):levL prog Proofs.Try.f10 3 (I10a p) (T10r p 0) fin10=
 Tree.br (decide (0<(↑(List.length p.paths):Int))) (.need ((0:Int)≤(0:Int)∧(List.map encT p.paths)[0]?=some (encT (List.getD p.paths 0 default))) (.need (ILeL [encT (List.getD p.paths 0 default)] [encT (List.getD p.paths 0 default)]∧ASpec prog 31 [encT (List.getD p.paths 0 default)] (encT (List.getD p.paths 0 default))) (.need (askA none (true=true∧1≤1000000)) (.done Exit.normal (LState.mk [(16,.imm (i64 1)),(15,.imm (i64 (↑(List.length p.paths):Int))),(14,.imm (slE 2 encT p.paths)),(3,.ptr 9 0),(2,.ptr 1 0)] [(9,Entry.box 26 (.agg [.imm (slF 6 encO p.origins),.own 50
 1,.imm (slF 18 encK p.keys)])),(50,Entry.row 47 2 [encT (List.getD p.paths 0 default)]),(1,Entry.box 26 (.imm (.agg [nS,nS,nS])))] 29 75 []))))) (.done (Exit.exit 0) (LState.mk [(3,.ptr 9 0),(2,.ptr 1 0)] [(9,B10 p (.imm nS)),(1,Z10)] 29 61 [])):=by kernel_rfl
theorem t10r1 (p:Payload)(i:Nat):levL prog Proofs.Try.f10 3 (I10s p i) (T10r p i) fin10=
 Tree.br (decide ((↑i:Int)<(↑(List.length p.paths):Int))) (.need (0≤(↑i:Int)∧(List.map encT p.paths)[Int.toNat (↑i:Int)]?=some (encT (List.getD p.paths i default))) (.need (ILeL [encT (List.getD p.paths i default)] [encT (List.getD p.paths i default)]∧ASpec prog 31 [encT (List.getD p.paths i default)] (encT (List.getD p.paths i default))) (.need (askA none (List.length (List.map encT (List.take i p.paths))=i∧cellsOk (List.map encT (List.take i p.paths))=true∧true=true∧i+1≤1000000)) (.done Exit.normal (LState.mk [(16,.imm (i64 (IntKind.wrap IntKind.i64 ((↑i:
 Int)+1)))),(15,.imm (i64 (↑(List.length p.paths):Int))),(14,.imm (slE 2 encT p.paths)),(3,.ptr 9 0),(2,.ptr 1 0)] [(9,Entry.box 26 (.agg [.imm (slF 6 encO p.origins),.own 50 (i+1),.imm (slF 18 encK p.keys)])),(50,Entry.row 47 2 (List.map encT (List.take i p.paths)++[encT (List.getD p.paths i default)])),(1,Entry.box 26 (.imm (.agg [nS,nS,nS])))] 29 75 []))))) (.done (Exit.exit 0) (LState.mk [(3,.ptr 9 0),(2,.ptr 1 0)] [(9,B10 p (.own 50 i)),(50,Entry.row 47 2 (List.map encT (List.take i p.paths))),(1,Z10)] 29 61 [])):=by kernel_rfl
def L10 (p:Payload):Tree:=.br p.paths.isEmpty (.done (.exit 0) {t:=[(3,.ptr 9 0),(2,.ptr 1 0)],s:=[(9,B10 p (.imm (.v (.slice none 0 0)))),(1,Z10)],m:=29,n:=60})
 (.done (.exit 0) {t:=[(3,.ptr 9 0),(2,.ptr 1 0)],s:=[(9,B10 p (.own 50 p.paths.length)),(50,.row 47 2 (p.paths.map encT)),(1,Z10)],m:=29,n:=60})
def T10 (p:Payload):Tell:={O:=fun r j=>match r,j with|1,2=>.call [slE 6 encO p.origins] (slF 6 encO p.origins)|1,5=>.call [slE 18 encK p.keys] (slF 18 encK p.keys)|_,_=>.no,lv:=fun _=>([16,15,14,3,2],[9,1]),Lp:=fun _=>L10 p}
theorem t10x (p:Payload):levF prog Proofs.Try.f10 [encL p] (T10 p)=
 Tree.need (ILeL [slE 6 encO p.origins] [slE 6 encO p.origins]∧ASpec prog 29 [slE 6 encO p.origins] (slF 6 encO p.origins)) (.need (ILeL [slE 18 encK p.keys] [slE 18 encK p.keys]∧ASpec prog 30 [slE 18 encK p.keys] (slF 18 encK p.keys)) (.loop 3 (LState.mk [(16,.imm (i64 0)),(15,.imm (i64 (↑(List.length (List.map encT p.paths)):Int))),(14,.imm (slE 2 encT p.paths)),(3,.ptr 9 0),(2,.ptr 1 0)] [(9,Entry.box 26 (.agg [.imm (slF 6 encO p.origins),.imm nS,.imm (slF 18 encK p.keys)])),(1,Entry.box 26 (.imm (.agg [nS,nS,nS])))] 29 15 []) (.br (List.isEmpty p.paths) (.done (Exit.exit 0) (LState.mk
 [(3,.ptr 9 0),(2,.ptr 1 0)] [(9,B10 p (.imm nS)),(1,Z10)] 29 60 [])) (.done (Exit.exit 0) (LState.mk [(3,.ptr 9 0),(2,.ptr 1 0)] [(9,B10 p (.own 50 (List.length p.paths))),(50,Entry.row 47 2 (List.map encT p.paths)),(1,Z10)] 29 60 []))) (.br (List.isEmpty p.paths) (.done Exit.ret (lret (.agg [slF 6 encO p.origins,nS,slF 18 encK p.keys]))) (.need (eqs [(List.length p.paths,List.length (List.map encT p.paths))]) (.done Exit.ret (lret (.agg [slF 6 encO p.origins,.sl true false 2 (List.map encT p.paths),slF 18 encK p.keys]))))))):=by kernel_rfl
theorem take_succ (p:Payload)(i:Nat)(h:i<p.paths.length):(p.paths.take i).map encT++[encT (p.paths.getD i default)]=(p.paths.take (i+1)).map encT:=by
 rw[List.take_add_one,List.map_append]
 simp[List.getD_eq_getElem?_getD,List.getElem?_eq_getElem h]
theorem l10 (p:Payload)(hp:p.ok)(σ:LState)(h:LSub σ (I10a p)):LoopOk prog [] (bodyOf Proofs.Try.f10) 3 σ (L10 p):=by
 have hT:=hp.t
 refine LoopOk.of_levL (γ:={i:Nat//i≤p.paths.length}) (fun g=>T10r p g.1) fin10 (fun g=>I10 p g.1) (fun g=>p.paths.length-g.1) ⟨0,by omega⟩ (by kernel_rfl) h ?_
 rintro⟨i,hi⟩
 have nx:∀(s:LState),i<p.paths.length→s.t=[(16,.imm (i64 (i+1:Nat))),(15,.imm (i64 p.paths.length)),(14,.imm (slE 2 encT p.paths)),(3,.ptr 9 0),(2,.ptr 1 0)]→s.s=[(9,B10 p (.own 50 (i+1))),(50,.row 47 2 ((p.paths.take (i+1)).map encT)),(1,Z10)]→s.m=29→
   ∃g':{i:Nat//i≤p.paths.length},p.paths.length-g'.1<p.paths.length-i∧LSub s (I10 p g'.1):=by
  intro s hlt h1 h2 h3
  refine⟨⟨i+1,by omega⟩,by simp only;omega,?_⟩
  simp[I10,I10s,B10,Z10,LSub,tsub,ssub,tl,sl,linT,linS,ainB,ainBL,h1,h2,h3]
 by_cases h0:i=0
 ·subst h0
  show Tree.sat _ _ (levL prog Proofs.Try.f10 3 (I10a p) (T10r p 0) fin10)
  rw[t10r0]
  refine⟨fun hb=>?_,fun hb=>?_⟩
  ·have hlt:0<p.paths.length:=by simpa using hb
   refine⟨⟨by decide,getD_map _ _ _ _ hlt⟩,fun _=>⟨⟨ILeL.refl _,c31 _ (hp.p _ (getD_mem _ _ hlt))⟩,fun _=>⟨⟨rfl,by decide⟩,fun _=>?_⟩⟩⟩
   refine nx _ hlt rfl ?_ rfl
   rw[←take_succ p 0 hlt];rfl
  ·have he:p.paths=[]:=by simpa using hb
   refine⟨fun _=>⟨rfl,?_⟩,fun hx=>by rw[he]at hx;cases hx⟩
   simp[LSub,tsub,ssub,tl,sl,linT,linS,ainB,ainBL,B10,Z10]<;>rfl
 ·have hI:I10 p i=I10s p i:=by unfold I10;rw[if_neg h0]
  show Tree.sat _ _ (levL prog Proofs.Try.f10 3 (I10 p i) (T10r p i) fin10)
  rw[hI,t10r1]
  refine⟨fun hb=>?_,fun hb=>?_⟩
  ·have hlt:i<p.paths.length:=by simpa using hb
   refine⟨⟨by omega,by rw[Int.toNat_natCast];exact getD_map _ _ _ _ hlt⟩,fun _=>⟨⟨ILeL.refl _,c31 _ (hp.p _ (getD_mem _ _ hlt))⟩,fun _=>⟨⟨by simp;omega,cellsOk_map encT (fun _=>rfl) _,rfl,by omega⟩,fun _=>?_⟩⟩⟩
   refine nx _ hlt ?_ ?_ rfl
   ·simp only[i64_small hlt (by omega)]<;>rfl
   ·simp only[take_succ p i hlt]<;>rfl
  ·have he:i=p.paths.length:=by simp at hb;omega
   subst he
   refine⟨fun hx=>?_,fun _=>⟨rfl,?_⟩⟩
   ·exact absurd (by simpa using hx) (fun hn:p.paths=[]=>h0 (by rw[hn];rfl))
   ·simp[LSub,tsub,ssub,tl,sl,linT,linS,ainB,ainBL,B10,Z10]<;>rfl
theorem c10 (p:Payload)(hp:p.ok):ASpec prog 10 [encL p] (encL p):=by
 have h1:=hp.o;have h2:=hp.k
 have hF:∀(d d':IVal),ILe d d'→ILe (.agg [slF 6 encO p.origins,d,slF 18 encK p.keys]) (.agg [slE 6 encO p.origins,d',slE 18 encK p.keys]):=by
  intro d d' h
  exact .agg (.cons (.sl (fun h=>by cases h) (fun h=>h) (.refl _)) (.cons h (.cons (.sl (fun h=>by cases h) (fun h=>h) (.refl _)) (.refl _))))
 refine ASpec.treeW Proofs.Try.f10 (T10 p) (by kernel_rfl) (by kernel_rfl) (t10x p) ⟨⟨ILeL.refl _,c29 _ (by omega)⟩,fun _=>⟨⟨ILeL.refl _,c30 _ (by omega)⟩,fun _=>⟨l10 p hp _ ?_,fun he=>⟨_,rfl,?_⟩,fun he=>⟨⟨by simp,trivial⟩,fun _=>⟨_,rfl,?_⟩⟩⟩⟩⟩
 ·simp[I10a,B10,Z10,LSub,tsub,ssub,tl,sl,linT,linS,ainB,ainBL,i64]<;>rfl
 ·have:p.paths=[]:=by simpa using he
  rw[show encL p=.agg [slE 6 encO p.origins,slE 2 encT [],slE 18 encK p.keys]from by rw[encL,this]]
  exact hF _ _ (.nil _ _ _)
 ·exact hF _ _ (.sl (fun h=>by cases h) (fun h=>h) (.refl _))
end Gp
namespace Gp
def sizeP (p:Payload):Int:=(p.origins.length:Int)+p.paths.length+p.keys.length
structure Timers where
 refresh:Int
 retry:Int
 expire:Int
 deriving DecidableEq,Inhabited
def manyB (a:Attest):Bool:=decide (50<(a.provs.length:Int))
def manyAt (l:List Attest)(i:Nat):Bool:=manyB (l.getD i default)
def I60 (l:List Attest)(i:Nat):LState:={t:=[(8,.imm (i64 i)),(7,.imm (i64 l.length)),(0,.imm (slE 2 encT l)),(1,.imm (fnV 33))],s:=[],m:=19,n:=0}
def T60 (l:List Attest):Tell:={Lp:=fun _=>Lfirst (manyAt l) l.length 0 R104 E104,lv:=fun _=>([8,7,0,1],[])}
def T60r (l:List Attest)(i:Nat):Tell:={O:=fun r j=>match r,j with|4,3=>.elem (encT (l.getD i default))|4,5=>.call [encT (l.getD i default)] (bo (manyB (l.getD i default)))|_,_=>.no}
theorem t60r (l:List Attest)(i:Nat):levL prog Proofs.Try.f60 2 (I60 l i) (T60r l i) fin104=
 Tree.br (decide ((↑i:Int)<(↑(List.length l):Int))) (.need (0≤(↑i:Int)∧(List.map encT l)[Int.toNat (↑i:Int)]?=some (encT (List.getD l i default))) (.need (ILeL [encT (List.getD l i default)] [encT (List.getD l i default)]∧ASpec prog 33 [encT (List.getD l i default)] (bo (manyB (List.getD l i default)))) (.br (manyB (List.getD l i default)) (.done Exit.ret (LState.mk [(4,.imm (i64 (↑i:Int)))] [] 19 11 [])) (.done Exit.normal (LState.mk [(8,.imm (i64 (IntKind.wrap IntKind.i64 ((↑i:Int)+1)))),(7,.imm (i64 (↑(List.length l):Int))),(0,.imm (slE 2 encT l)),(1,.imm (fnV 33))]
 [] 19 11 []))))) (.done (Exit.exit 0) (LState.mk [] [] 19 1 [])):=by kernel_rfl
theorem t60 (l:List Attest):levF prog Proofs.Try.f60 [slE 2 encT l,fnV 33] (T60 l)=
 Tree.loop 2 (LState.mk [(8,.imm (i64 0)),(7,.imm (i64 (↑(List.length (List.map encT l)):Int))),(0,.imm (slE 2 encT l)),(1,.imm (fnV 33))] [] 19 4 []) (.br (anyI (manyAt l) 0 (List.length l)) (.done Exit.ret (R104 (firstI (manyAt l) 0 (List.length l)))) (.done (Exit.exit 0) E104)) (.br (anyI (manyAt l) 0 (List.length l)) (.done Exit.ret (lret (i64 (↑(firstI (manyAt l) 0 (List.length l)):Int)))) (.done Exit.ret (lret (i64 (-1:Int))))):=by kernel_rfl
def index76 (l:List Attest):Int:=if anyI (manyAt l) 0 l.length=true then firstI (manyAt l) 0 l.length else-1
theorem l60 (l:List Attest)(hl:l.length≤2^62)(σ:LState)(h:LSub σ (I60 l 0)):LoopOk prog [] (bodyOf Proofs.Try.f60) 2 σ (Lfirst (manyAt l) l.length 0 R104 E104):=by
 refine LoopOk.first (manyAt l) l.length 0 (I60 l) R104 E104 (T60r l) fin104 (by kernel_rfl) h fun i hi hz=>?_
 rw[t60r]
 refine⟨fun hb=>?_,fun hb=>?_⟩
 ·have hlt:i<l.length:=by simpa using hb
  refine⟨⟨by omega,by rw[Int.toNat_natCast];exact getD_map _ _ _ _ hlt⟩,fun _=>⟨⟨ILeL.refl _,c33 _⟩,fun _=>⟨fun hb2=>?_,fun hb2=>?_⟩⟩⟩
  ·exact⟨hlt,hb2,by simp[R104,LSub,tsub,ssub,tl,linT,linS,ainB]⟩
  ·exact⟨hlt,hb2,by simp[I60,LSub,tsub,ssub,tl,linT,linS,ainB,i64,i64_small hlt hl]⟩
 ·have hge:l.length≤i:=by simpa using hb
  exact⟨rfl,hge,by simp[E104,LSub,tsub,ssub,linT,linS]⟩
theorem c60 (l:List Attest)(hl:l.length≤2^62):ASpec prog 60 [slE 2 encT l,fnV 33] (i64 (index76 l)):=by
 refine ASpec.tree Proofs.Try.f60 (T60 l) (by kernel_rfl) (by kernel_rfl) (t60 l) ⟨l60 l hl _ ?_,fun h=>?_,fun h=>?_⟩
 ·simp[I60,LSub,tsub,ssub,tl,linT,linS,ainB,i64]
 ·rw[show index76 l=firstI (manyAt l) 0 l.length from by unfold index76;rw[h];rfl];rfl
 ·rw[show index76 l=-1 from by unfold index76;rw[h];rfl];rfl
def T32 (l:List Attest):Tell:={O:=fun r j=>match r,j with|1,2=>.call [slE 2 encT l,fnV 33] (i64 (index76 l))|_,_=>.no}
theorem t32 (l:List Attest):levF prog Proofs.Try.f32 [slE 2 encT l,fnV 33] (T32 l)=
 Tree.need (ILeL [slE 2 encT l,fnV 33] [slE 2 encT l,fnV 33]∧ASpec prog 60 [slE 2 encT l,fnV 33] (i64 (index76 l))) (.done Exit.ret (lret (bo (decide (0≤index76 l))))):=by kernel_rfl
theorem index76_iff (l:List Attest):(0≤index76 l)↔∃a∈l,50<a.provs.length:=by
 unfold index76
 split
 ·rename_i h
  refine⟨fun _=>?_,fun _=>by omega⟩
  obtain⟨i,hi,hp⟩:=anyI_iff.1 h
  refine⟨_,getD_mem l i hi,?_⟩
  simp only[manyAt,manyB,decide_eq_true_eq]at hp;omega
 ·rename_i h
  refine⟨fun h=>by omega,fun⟨a,hm,ha⟩=>?_⟩
  obtain⟨i,hi,hx⟩:=List.mem_iff_getElem.1 hm
  refine absurd (anyI_iff.2 ⟨i,hi,?_⟩) h
  simp[manyAt,manyB,List.getD_eq_getElem?_getD,List.getElem?_eq_getElem hi,hx];omega
theorem c32 (l:List Attest)(hl:l.length≤2^62):ASpec prog 32 [slE 2 encT l,fnV 33] (bo (decide (∃a∈l,50<a.provs.length))):=by
 refine ASpec.tree Proofs.Try.f32 (T32 l) (by kernel_rfl) (by kernel_rfl) (t32 l) ⟨⟨ILeL.refl _,c60 l hl⟩,fun _=>?_⟩
 refine lret_inj ?_
 simp[bo,index76_iff]
end Gp
namespace Gp
open Go Go.Abs Go.RowKit
theorem bytes_cells {w:World}{F:Foot}{b off ty:Nat}{cs:Array Value}{fr:Nat×Nat}{l:List Int}{vs:List Value}(hb:w.heap[b]?=some (.cells cs ty fr))(hr:IRepL w F (l.map u8) vs)(hl:Lay cs off 1 vs):
  ∀(j:Nat)(x:Int),l[j]?=some x→w.cell? ((⟨b,off,none⟩:Go.Addr).add j)=some (.int .u8 x):=by
 intro j x hj
 have h1:(l.map u8)[j]?=some (u8 x):=by simp[hj]
 obtain⟨u,h2,h3⟩:=hr.at h1
 rw[u8,IRep]at h3
 obtain⟨rfl,_⟩:=h3
 obtain⟨h4,h5⟩:=hl.at h2
 rw[show (⟨b,off,none⟩:Go.Addr).add j=⟨b,off+j,none⟩from by simp[Go.Addr.add],cell_of_row w b (off+j) cs ty fr hb]
 have h6:cs[off+j]?=some (.int .u8 x):=by
  have h7:((cs.toList.drop (off+j*1)).take 1)[0]?=some (.int .u8 x):=by rw[←h5];rfl
  simpa using h7
 exact h6
theorem bytes_rep {P:Program}{w:World}{F:Foot}{l:List Int}{u:Value}(h:IRep w F (sl1 (l.map u8)) u):(Extern.Bytes.bytesOf u).run P w=.ok ⟨(Lib.bytesOf l).toArray⟩ w:=by
 rw[sl1,IRep]at h
 obtain⟨a,cap,rfl,_,_,h4⟩:=h
 rw[List.length_map]
 cases l with
 |nil=>cases a<;>simp[Extern.Bytes.bytesOf,Extern.Bytes.loadBytes,Lib.bytesOf]<;>rfl
 |cons x l=>
  obtain⟨b,off,cs,ty,fr,vs,rfl,_,hb,hr,hl⟩:=h4 (by simp)
  have:=Lib.run_loadBytesX (P:=P) (w:=w) (x::l) ⟨b,off,none⟩ .empty (bytes_cells hb hr hl)
  simp only[Extern.Bytes.bytesOf]
  rw[this];simp
def cmpB (a b:List Int):Int:=Lib.compareBytes (Lib.bytesOf a) (Lib.bytesOf b)
def lu8 (l:List Int):IVal:=sl1 (l.map u8)
theorem x91 (a b:List Int):XSpec prog 91 [lu8 a,lu8 b] (i64 (cmpB a b)):=by
 intro w F vs h
 rw[IRepL]at h
 obtain⟨u,us,e,h1,h2⟩:=h
 rw[IRepL]at h2
 obtain⟨v,us',rfl,h3,h4⟩:=h2
 rw[IRepL]at h4
 subst h4
 obtain rfl:vs=#[u,v]:=by rw[←Array.toList_inj];exact e
 refine⟨.int .i64 (cmpB a b),?_,by rw[i64,IRep];exact⟨rfl,rfl⟩⟩
 rw[run_callFunc_extern (fn:=Proofs.Try.f91) (by kernel_rfl) (by kernel_rfl) (by kernel_rfl) (by kernel_rfl) (e:=Extern.BytealgCompare.compare) (by kernel_rfl)]
 have:(Extern.BytealgCompare.compare #[u,v]).run prog w=.ok (.int .i64 (cmpB a b)) w:=by
  change Sem.run prog (do pure (goInt (Extern.BytealgCompare.cmp (←Extern.Bytes.bytesOf u) (←Extern.Bytes.bytesOf v)))) w=_
  simp only[Sem.run_bind,bytes_rep h1,bytes_rep h3,Result.andThen,Sem.run_pure]
  rw[Lib.cmp_eq];rfl
 rw[this];rfl
def T68 (a b:List Int):Tell:={O:=fun r i=>match r,i with|1,2=>.ext [lu8 a,lu8 b] (i64 (cmpB a b))|_,_=>.no}
theorem t68 (a b:List Int):levF prog Proofs.Try.f68 [lu8 a,lu8 b] (T68 a b)=
 Tree.need (ILeL [lu8 a,lu8 b] [lu8 a,lu8 b]∧XSpec prog 91 [lu8 a,lu8 b] (i64 (cmpB a b))∧true=true) (.done Exit.ret (lret (i64 (cmpB a b)))):=by kernel_rfl
theorem c68 (a b:List Int):ASpec prog 68 [lu8 a,lu8 b] (i64 (cmpB a b)):=by
 refine ASpec.tree Proofs.Try.f68 (T68 a b) (by kernel_rfl) (by kernel_rfl) (t68 a b) ?_
 exact⟨⟨ILeL.refl _,x91 a b,rfl⟩,fun _=>rfl⟩
def cmpK (a b:RKey):Int:=orI [cmpI a.asn b.asn,cmpB (rootL a) (rootL b),cmpI a.height b.height]
def T41 (a b:RKey):Tell:={O:=fun r i=>match r,i with
 |1,4=>.call [u32 a.asn,u32 b.asn] (i64 (cmpI a.asn b.asn))|1,11=>.call [lu8 (rootL a),lu8 (rootL b)] (i64 (cmpB (rootL a) (rootL b)))|1,18=>.call [i64 a.height,i64 b.height] (i64 (cmpI a.height b.height))
 |1,20=>.call [sl1 ([cmpI a.asn b.asn,cmpB (rootL a) (rootL b),cmpI a.height b.height].map i64)] (i64 (cmpK a b))|_,_=>.no,fz:=fun _ j=>match j with|7=>true|10=>true|_=>false}
theorem t41 (a b:RKey):levF prog Proofs.Try.f41 [encK a,encK b] (T41 a b)=
 Tree.need (ILeL [u32 a.asn,u32 b.asn] [u32 a.asn,u32 b.asn]∧ASpec prog 62 [u32 a.asn,u32 b.asn] (i64 (cmpI a.asn b.asn))) (.need (ILeL [.sl false false 1 [u8 a.root[0],u8 a.root[1],u8 a.root[2],u8 a.root[3],u8 a.root[4],u8 a.root[5],u8 a.root[6],u8 a.root[7],u8 a.root[8],u8 a.root[9],u8 a.root[10],u8 a.root[11],u8 a.root[12],u8 a.root[13],u8 a.root[14],u8 a.root[15]],.sl false false 1 [u8 b.root[0],u8 b.root[1],u8 b.root[2],u8 b.root[3],u8 b.root[4],u8 b.root[5],u8 b.root[6],u8 b.root[7],u8 b.root[8],u8 b.root[9],u8 b.root[10],u8 b.root[11],u8 b.root[12],u8 b.root[13],u8 b.root[14],u8
 b.root[15]]] [lu8 (rootL a),lu8 (rootL b)]∧ASpec prog 68 [lu8 (rootL a),lu8 (rootL b)] (i64 (cmpB (rootL a) (rootL b)))∧true=true) (.need (ILeL [i64 a.height,i64 b.height] [i64 a.height,i64 b.height]∧ASpec prog 65 [i64 a.height,i64 b.height] (i64 (cmpI a.height b.height))) (.need (ILeL [.sl false false 1 [i64 (cmpI a.asn b.asn),i64 (cmpB (rootL a) (rootL b)),i64 (cmpI a.height b.height)]] [sl1 [i64 (cmpI a.asn b.asn),i64 (cmpB (rootL a) (rootL b)),i64 (cmpI a.height b.height)]]∧ASpec prog 61 [sl1 [i64 (cmpI a.asn b.asn),i64 (cmpB (rootL a) (rootL b)),i64 (cmpI a.height b.height)]]
 (i64 (cmpK a b))∧true=true) (.done Exit.ret (lret (i64 (cmpK a b))))))):=by kernel_rfl
theorem c41 (a b:RKey):ASpec prog 41 [encK a,encK b] (i64 (cmpK a b)):=by
 refine ASpec.tree Proofs.Try.f41 (T41 a b) (by kernel_rfl) (by kernel_rfl) (t41 a b) ?_
 exact⟨⟨ILeL.refl _,c62 _ _⟩,fun _=>⟨⟨ILeL.refl _,c68 _ _,rfl⟩,fun _=>⟨⟨ILeL.refl _,c65 _ _⟩,fun _=>⟨⟨ILeL.refl _,c61 [cmpI a.asn b.asn,cmpB (rootL a) (rootL b),cmpI a.height b.height] (by simp),rfl⟩,fun _=>rfl⟩⟩⟩⟩
def goodK (k:RKey):Bool:=decide (0≤k.height)&&decide (k.height≤4)
theorem t40 (l:List RKey):levF prog Proofs.Try.f40 [slE 18 encK l,fnV 41,fnV 42] (TR 18 encK cmpK goodK default l)=FT 18 encK 41 42 cmpK goodK default l:=by kernel_rfl
theorem t40r (l:List RKey)(i:Nat):levL prog Proofs.Try.f40 2 (IR 18 encK 41 42 l i) (TRr encK cmpK goodK default l i) finR=RT 18 encK 41 42 cmpK goodK default l i:=by kernel_rfl
theorem c40 (l:List RKey)(hl:l.length≤2^62):ASpec prog 40 [slE 18 encK l,fnV 41,fnV 42] (bo (risingB cmpK goodK default l)):=
 rising_spec (by kernel_rfl) (by kernel_rfl) (t40r l) (by kernel_rfl) (t40 l) c42 c41 hl
end Gp
namespace Gp
def manyP (p:Payload):Bool:=decide (∃a∈p.paths,50<a.provs.length)
def ckL (p:Payload):Int:=
 if 1000<p.origins.length∨300<p.paths.length∨100<p.keys.length∨manyP p=true then 4
 else if(risingB cmpO goodO default p.origins&&risingB cmpT goodT default p.paths&&risingB cmpK goodK default p.keys)=true then 0 else 8
def T13 (p:Payload):Tell:={O:=fun r i=>match r,i with
 |3,2=>.call [slE 2 encT p.paths,fnV 33] (bo (manyP p))|5,2=>.call [slE 6 encO p.origins,fnV 35,fnV 36] (bo (risingB cmpO goodO default p.origins))|5,7=>.call [slE 2 encT p.paths,fnV 38,fnV 39] (bo (risingB cmpT goodT default p.paths))
 |5,13=>.call [slE 18 encK p.keys,fnV 41,fnV 42] (bo (risingB cmpK goodK default p.keys))|_,_=>.no}
theorem t13 (p:Payload):levF prog Proofs.Try.f13 [encL p] (T13 p)=
 Tree.br (decide (1000<(↑(List.length (List.map encO p.origins)):Int))) (.done Exit.ret (lret (i64 4))) (.br (decide (300<(↑(List.length (List.map encT p.paths)):Int))) (.done Exit.ret (lret (i64 4))) (.br (decide (100<(↑(List.length (List.map encK p.keys)):Int))) (.done Exit.ret (lret (i64 4))) (.need (ILeL [slE 2 encT p.paths,.v (Value.func (Fn.func 33) (Array.mk []) (Array.mk []))] [slE 2 encT p.paths,fnV 33]∧ASpec prog 32 [slE 2 encT p.paths,fnV 33] (bo (manyP p))) (.br (manyP p) (.done Exit.ret (lret (i64 4))) (.need (ILeL [slE 6 encO p.origins,.v (Value.func (Fn.func 35)
 (Array.mk []) (Array.mk [])),.v (Value.func (Fn.func 36) (Array.mk []) (Array.mk []))] [slE 6 encO p.origins,fnV 35,fnV 36]∧ASpec prog 34 [slE 6 encO p.origins,fnV 35,fnV 36] (bo (risingB cmpO goodO default p.origins))) (.br (!risingB cmpO goodO default p.origins) (.done Exit.ret (lret (i64 8))) (.need (ILeL [slE 2 encT p.paths,.v (Value.func (Fn.func 38) (Array.mk []) (Array.mk [])),.v (Value.func (Fn.func 39) (Array.mk []) (Array.mk []))] [slE 2 encT p.paths,fnV 38,fnV 39]∧ASpec prog 37 [slE 2 encT p.paths,fnV 38,fnV 39] (bo (risingB cmpT goodT default p.paths))) (.br (!risingB cmpT goodT
 default p.paths) (.done Exit.ret (lret (i64 8))) (.need (ILeL [slE 18 encK p.keys,.v (Value.func (Fn.func 41) (Array.mk []) (Array.mk [])),.v (Value.func (Fn.func 42) (Array.mk []) (Array.mk []))] [slE 18 encK p.keys,fnV 41,fnV 42]∧ASpec prog 40 [slE 18 encK p.keys,fnV 41,fnV 42] (bo (risingB cmpK goodK default p.keys))) (.br (!risingB cmpK goodK default p.keys) (.done Exit.ret (lret (i64 8))) (.done Exit.ret (lret (i64 0))))))))))))):=by kernel_rfl
theorem c13 (p:Payload):ASpec prog 13 [encL p] (i64 (ckL p)):=by
 refine ASpec.tree Proofs.Try.f13 (T13 p) (by kernel_rfl) (by kernel_rfl) (t13 p) ?_
 have hf:∀b,ckL p=b→lret (.v (.int .i64 b))=lret (i64 (ckL p)):=by intro b h;rw[h];rfl
 refine⟨fun h=>hf _ ?_,fun h1=>⟨fun h=>hf _ ?_,fun h2=>⟨fun h=>hf _ ?_,fun h3=>?_⟩⟩⟩
 ·simp at h;unfold ckL;rw[if_pos (.inl (by omega))]
 ·simp at h;unfold ckL;rw[if_pos (.inr (.inl (by omega)))]
 ·simp at h;unfold ckL;rw[if_pos (.inr (.inr (.inl (by omega))))]
 ·simp at h1 h2 h3
  refine⟨⟨ILeL.refl _,c32 _ (by omega)⟩,fun _=>⟨fun h=>hf _ ?_,fun h4=>?_⟩⟩
  ·unfold ckL;rw[if_pos (.inr (.inr (.inr h)))]
  ·have hn:¬(1000<p.origins.length∨300<p.paths.length∨100<p.keys.length∨manyP p=true):=by
    rw[h4];rintro(h|h|h|h)
    ·omega
    ·omega
    ·omega
    ·cases h
   refine⟨⟨ILeL.refl _,c34 _ (by omega)⟩,fun _=>⟨fun h5=>hf _ ?_,fun h5=>⟨⟨ILeL.refl _,c37 _ (by omega)⟩,fun _=>⟨fun h6=>hf _ ?_,fun h6=>⟨⟨ILeL.refl _,c40 _ (by omega)⟩,fun _=>⟨fun h7=>hf _ ?_,fun h7=>hf _ ?_⟩⟩⟩⟩⟩⟩
   ·unfold ckL;rw[if_neg hn];simp at h5;simp[h5]
   ·unfold ckL;rw[if_neg hn];simp at h6;simp[h6]
   ·unfold ckL;rw[if_neg hn];simp at h7;simp[h7]
   ·unfold ckL;rw[if_neg hn];simp at h5 h6 h7;simp[h5,h6,h7]
end Gp
namespace Gp
end Gp
namespace Gp
theorem ile_i64 {a b:Int}(h:a=b):ILe (.v (.int .i64 a)) (i64 b):=h ▸ ILe.refl _
theorem ile_bo {a b:Bool}(h:a=b):ILe (.v (.bool a)) (bo b):=h ▸ ILe.refl _
end Gp
