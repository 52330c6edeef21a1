/- Part 3 of the framework: values as data, own memory, and code reckoned whole. No statement is proved here. -/
import Derived.Test.YtcccdohpepnfjaaFw2
import Derived.Laws.StructEq
import Derived.Laws.Cover3
import Derived.MapKept
import Derived.Laws.MakeOwn
import Derived.Laws.BytesString
import Derived.Deep.LoopGhost
import Derived.Laws.ResultCell
set_option linter.unusedVariables false
set_option linter.unusedSimpArgs false
namespace Go.Abs
open Go.RowKit
variable {P:Program}
def leafs (P:Program):Nat→TypeId→Option (List TypeDesc)
 |0,_=>none
 |d+1,t=>match P.underlying t with
  |some (.int k)=>some [.int k]
  |some .bool=>some [.bool]
  |some .string=>some [.string]
  |some (.struct fs)=>if P.stoodInHeld t then none else
   fs.toList.foldl (fun acc f=>match acc,leafs P d f.type with
    |some l,some l'=>if f.name≠ "_" ∧f.offset=l.length∧(P.info? f.type).map (·.size)=some l'.length then some (l++l')else none
    |_,_=>none) (some [])
  |some (.array n e)=>match leafs P d e with
   |some l=>if(P.info? e).map (·.size)=some l.length then some (List.replicate n l).flatten else none
   |none=>none
  |_=>none
def fits :List TypeDesc→List Value→Bool
 |[],[]=>true
 |.int k::l,.int k' _::xs=>decide (k=k')&&fits l xs
 |.bool::l,.bool _::xs=>fits l xs
 |.string::l,.string _::xs=>fits l xs
 |_,_=>false
def eqv :Value→Value→Bool
 |.int _ a,.int _ b=>decide (a=b)
 |.bool a,.bool b=>a==b
 |.string a,.string b=>a==b
 |_,_=>false
def eqvL :List Value→List Value→Bool
 |[],[]=>true
 |x::xs,y::ys=>eqv x y&&eqvL xs ys
 |_,_=>false
theorem fits_append :∀{l l':List TypeDesc}{xs:List Value},fits (l++l') xs=true→∃a b,xs=a++b∧a.length=l.length∧fits l a=true∧fits l' b=true
 |[],l',xs,h=>⟨[],xs,rfl,rfl,rfl,h⟩
 |d::l,l',xs,h=>by
  cases xs with
  |nil=>simp[fits]at h
  |cons x xs=>
   cases d<;>cases x<;>simp[fits]at h
   all_goals
    obtain⟨a,b,rfl,h1,h2,h3⟩:=fits_append (l:=l) (l':=l') (xs:=xs) (by first|exact h.2|exact h)
    refine⟨_::a,b,rfl,by simp[h1],?_,h3⟩
    simp[fits,h2,h]
theorem fits_length :∀{l:List TypeDesc}{xs:List Value},fits l xs=true→xs.length=l.length
 |[],xs,h=>by cases xs<;>simp_all[fits]
 |d::l,xs,h=>by
  cases xs with
  |nil=>simp[fits]at h
  |cons x xs=>
   cases d<;>cases x<;>simp[fits]at h
   all_goals
    have:=fits_length (l:=l) (xs:=xs) (by first|exact h.2|exact h)
    simp[this]
theorem eqvL_append :∀{a b a' b':List Value},a.length=a'.length→eqvL (a++b) (a'++b')=(eqvL a a'&&eqvL b b')
 |[],b,a',b',h=>by
  cases a' with
  |nil=>simp[eqvL]
  |cons _ _=>simp at h
 |x::a,b,a',b',h=>by
  cases a' with
  |nil=>simp at h
  |cons y a'=>simp[eqvL,eqvL_append (a:=a) (a':=a') (by simpa using h),Bool.and_assoc]
def mkT (P:Program)(t:TypeId)(xs:List Value):Value:=mkV ((P.underlying t).any (·.isRow)) xs
theorem run_part {t:TypeId}{n off:Nat}{cs:Array Value}{w:World}(hu:(P.underlying t).isSome=true)(hi:(P.info? t).map (·.size)=some n)(ho:off+n≤cs.size)(h1:(P.underlying t).any (·.isRow)=false→n=1):
  (part t cs off).run P w=.ok (mkT P t ((cs.toList.drop off).take n)) w:=by
 obtain⟨d,hd⟩:=Option.isSome_iff_exists.1 hu
 simp only[Option.map_eq_some_iff]at hi
 obtain⟨i,hi,hn⟩:=hi
 have hld:tld P t=some (d.isRow,n):=by simp[tld,hd,hi,hn]
 cases hr:d.isRow with
 |true=>
  rw[hr]at hld
  have:cs.extract off (off+n)=((cs.toList.drop off).take n).toArray:=by
   apply Array.ext'
   simp[List.take_drop]
  simp[part,run_isAgg hld,run_sizeOf hld,mkT,hd,hr,mkV,this]
 |false=>
  rw[hr]at hld
  obtain rfl:n=1:=h1 (by simp[hd,hr])
  have hlt:off<cs.size:=by omega
  have he:(cs.toList.drop off).take 1=[cs[off]]:=by
   rw[List.drop_eq_getElem_cons (by simpa using hlt)];simp
  simp[part,run_isAgg hld,mkT,hd,hr,mkV,he,hlt]
theorem leafs_some {d t:Nat}{l:List TypeDesc}(h:leafs P d t=some l):(P.underlying t).isSome=true∧((P.underlying t).any (·.isRow)=false→l.length=1):=by
 cases d with
 |zero=>simp[leafs]at h
 |succ d=>
  unfold leafs at h
  split at h<;>rename_i hu<;>simp_all[TypeDesc.isRow]<;>(try(subst h;rfl))
theorem run_equal :∀(d t:Nat)(l:List TypeDesc),leafs P d t=some l→∀(xs ys:List Value)(w:World),fits l xs=true→fits l ys=true→
  ∀e,d≤e→(Op.equalIn e t (mkT P t xs) (mkT P t ys)).run P w=.ok (eqvL xs ys) w:=by
 intro d
 induction d with
 |zero=>intro t l h;simp[leafs]at h
 |succ d ih=>
  intro t l h xs ys w hx hy e he
  obtain⟨e,rfl⟩:∃e',e=e'+1:=⟨e-1,by omega⟩
  unfold leafs at h
  split at h
  ·rename_i k hu
   simp only[Option.some.injEq]at h;subst h
   cases xs with
   |nil=>simp[fits]at hx
   |cons x xs=>
    cases ys with
    |nil=>simp[fits]at hy
    |cons y ys=>
     cases x<;>simp[fits]at hx
     cases y<;>simp[fits]at hy
     obtain⟨rfl,hx⟩:=hx
     obtain⟨hk,hy⟩:=hy
     subst hk
     cases xs with
     |cons _ _=>simp[fits]at hx
     |nil=>
      cases ys with
      |cons _ _=>simp[fits]at hy
      |nil=>
       simp only[mkT,hu,Option.any_some,TypeDesc.isRow,mkV,Bool.false_eq_true,if_false,List.headD_cons]
       rw[run_equalIn_int w e t _ _ _ _ hu]
       simp[eqvL,eqv];rw[Bool.eq_iff_iff];simp
  ·rename_i hu
   simp only[Option.some.injEq]at h;subst h
   cases xs with
   |nil=>simp[fits]at hx
   |cons x xs=>
    cases ys with
    |nil=>simp[fits]at hy
    |cons y ys=>
     cases x<;>simp[fits]at hx
     cases y<;>simp[fits]at hy
     cases xs with
     |cons _ _=>simp[fits]at hx
     |nil=>
      cases ys with
      |cons _ _=>simp[fits]at hy
      |nil=>
       simp only[mkT,hu,Option.any_some,TypeDesc.isRow,mkV,Bool.false_eq_true,if_false,List.headD_cons]
       rw[run_equalIn_bool' w e t _ _ hu]
       simp[eqvL,eqv]
  ·rename_i hu
   simp only[Option.some.injEq]at h;subst h
   cases xs with
   |nil=>simp[fits]at hx
   |cons x xs=>
    cases ys with
    |nil=>simp[fits]at hy
    |cons y ys=>
     cases x<;>simp[fits]at hx
     cases y<;>simp[fits]at hy
     cases xs with
     |cons _ _=>simp[fits]at hx
     |nil=>
      cases ys with
      |cons _ _=>simp[fits]at hy
      |nil=>
       simp only[mkT,hu,Option.any_some,TypeDesc.isRow,mkV,Bool.false_eq_true,if_false,List.headD_cons]
       rw[run_equalIn_string w e t _ _ hu]
       simp[eqvL,eqv,beq_toListBytes]
  ·rename_i fs hu
   split at h
   ·cases h
   ·rename_i hst
    have hf:P.fieldsOf t=fs:=by simp[Program.fieldsOf,hu]
    have hmx:∀zs,mkT P t zs=.agg zs.toArray:=fun zs=>by simp[mkT,hu,TypeDesc.isRow,mkV]
    rw[hmx,hmx,run_equalIn_struct w e t _ _ (by rw[hf];exact hu) (by simpa using hst),hf]
    have key:∀(gs:List Field)(l0 l:List TypeDesc),gs.foldl (fun acc f=>match acc,leafs P d f.type with
       |some l,some l'=>if f.name≠ "_" ∧f.offset=l.length∧(P.info? f.type).map (·.size)=some l'.length then some (l++l')else none
       |_,_=>none) (some l0)=some l→
      ∀(x0 y0 x1 y1:List Value),x0.length=l0.length→y0.length=l0.length→xs=x0++x1→ys=y0++y1→(∀l1,l=l0++l1→fits l1 x1=true∧fits l1 y1=true)→(∃l1,l=l0++l1)→
      (Op.eqFields e xs.toArray ys.toArray gs).run P w=.ok (eqvL x1 y1) w:=by
     intro gs
     induction gs with
     |nil=>
      intro l0 l hl x0 y0 x1 y1 _ _ _ _ hfit _
      simp only[List.foldl_nil,Option.some.injEq]at hl
      subst hl
      obtain⟨h1,h2⟩:=hfit [] (by simp)
      have e1:=fits_length h1
      have e2:=fits_length h2
      have:x1=[]:=List.length_eq_zero_iff.1 e1
      subst this
      have:y1=[]:=List.length_eq_zero_iff.1 e2
      subst this
      simp[Op.eqFields,eqvL]
     |cons f gs ihg=>
      intro l0 l hl x0 y0 x1 y1 hx0 hy0 hxs hys hfit hex
      have hnone:∀gs:List Field,gs.foldl (fun acc f=>match acc,leafs P d f.type with
       |some l,some l'=>if f.name≠ "_" ∧f.offset=l.length∧(P.info? f.type).map (·.size)=some l'.length then some (l++l')else none
       |_,_=>none) none=none:=by
       intro gs;induction gs with
       |nil=>rfl
       |cons g gs ih=>simpa using ih
      simp only[List.foldl_cons]at hl
      cases hlf:leafs P d f.type with
      |none=>simp only[hlf]at hl;rw[hnone]at hl;cases hl
      |some l'=>
       simp only[hlf]at hl
       split at hl
       ·rename_i hc
        obtain⟨c1,c2,c3⟩:=hc
        have hpre:∀(gs:List Field)(l0 l:List TypeDesc),gs.foldl (fun acc f=>match acc,leafs P d f.type with
          |some l,some l'=>if f.name≠ "_" ∧f.offset=l.length∧(P.info? f.type).map (·.size)=some l'.length then some (l++l')else none
          |_,_=>none) (some l0)=some l→∃l1,l=l0++l1:=by
         intro gs
         induction gs with
         |nil=>intro l0 l h;simp only[List.foldl_nil,Option.some.injEq]at h;exact⟨[],by simp[h]⟩
         |cons g gs ih=>
          intro l0 l h
          simp only[List.foldl_cons]at h
          cases hg:leafs P d g.type with
          |none=>simp only[hg]at h;rw[hnone]at h;cases h
          |some lg=>
           simp only[hg]at h
           split at h
           ·obtain⟨l1,h1⟩:=ih _ _ h
            exact⟨lg++l1,by rw[h1];simp⟩
           ·rw[hnone]at h;cases h
        obtain⟨l2,hl2⟩:=hpre _ _ _ hl
        obtain⟨f1,f2⟩:=hfit (l'++l2) (by rw[hl2];simp)
        obtain⟨xa,xb,rfl,xl,xf1,xf2⟩:=fits_append f1
        obtain⟨ya,yb,rfl,yl,yf1,yf2⟩:=fits_append f2
        obtain⟨s1,s2⟩:=leafs_some hlf
        have hpx:(part f.type xs.toArray f.offset).run P w=.ok (mkT P f.type xa) w:=by
         rw[run_part (n:=l'.length) s1 c3 (by rw[hxs,c2];simp[hx0];omega) s2]
         congr 2
         rw[hxs,c2,←hx0]
         simp[←xl]
        have hpy:(part f.type ys.toArray f.offset).run P w=.ok (mkT P f.type ya) w:=by
         rw[run_part (n:=l'.length) s1 c3 (by rw[hys,c2];simp[hy0];omega) s2]
         congr 2
         rw[hys,c2,←hy0]
         simp[←yl]
        have hrest:=ihg (l0++l') l hl (x0++xa) (y0++ya) xb yb (by simp[hx0,xl]) (by simp[hy0,yl]) (by rw[hxs];simp) (by rw[hys];simp)
         (fun l1 h1=>by
          have:l1=l2:=by rw[hl2]at h1;exact(List.append_cancel_left h1).symm
          subst this
          exact⟨xf2,yf2⟩) ⟨l2,hl2⟩
        simp only[Op.eqFields,if_pos c1,Sem.run_bind,hpx,hpy,Result.andThen_ok,ih f.type l' hlf xa ya w xf1 yf1 e (by omega)]
        rw[eqvL_append (by rw[xl,yl])]
        cases eqvL xa ya
        ·simp
        ·simp[hrest]
       ·rw[hnone]at hl;cases hl
    exact key fs.toList [] l h [] [] xs ys rfl rfl (by simp) (by simp) (fun l1 h1=>by simp at h1;subst h1;exact⟨hx,hy⟩) ⟨l,by simp⟩
  ·rename_i n el hu
   split at h
   ·rename_i l' hl'
    split at h
    ·rename_i hsz
     simp only[Option.some.injEq]at h;subst h
     have hmx:∀zs,mkT P t zs=.agg zs.toArray:=fun zs=>by simp[mkT,hu,TypeDesc.isRow,mkV]
     obtain⟨s1,s2⟩:=leafs_some hl'
     obtain⟨i,hi,hin⟩:=Option.map_eq_some_iff.1 hsz
     have hso:(sizeOf el).run P w=.ok l'.length w:=by simp[sizeOf,typeInfo,hi,hin]
     rw[hmx,hmx]
     simp only[Op.equalIn,Sem.run_bind,run_underlying hu,Result.andThen_ok,hso]
     rw[Std.Legacy.Range.forIn_eq_forIn_range']
     have key:∀(m s:Nat)(x0 y0 x1 y1:List Value),x0.length=s*l'.length→y0.length=s*l'.length→xs=x0++x1→ys=y0++y1→fits (List.replicate m l').flatten x1=true→fits (List.replicate m l').flatten y1=true→
       (Sem.run P (forIn (List.range' s m 1) ((none,()):Option Bool×Unit) fun i __s=>do
        let __do_lift ←part el xs.toArray (i*l'.length)
        let __do_lift_1 ←part el ys.toArray (i*l'.length)
        let __do_lift ←Op.equalIn e el __do_lift __do_lift_1
        if(!__do_lift)=true then pure (ForInStep.done (some false,()))else pure (ForInStep.yield (none,()))) w)=.ok ((if eqvL x1 y1 then none else some false),()) w:=by
      intro m
      induction m with
      |zero=>
       intro s x0 y0 x1 y1 _ _ _ _ f1 f2
       have e1:=fits_length f1
       have e2:=fits_length f2
       have:x1=[]:=List.length_eq_zero_iff.1 (by simpa using e1)
       subst this
       have:y1=[]:=List.length_eq_zero_iff.1 (by simpa using e2)
       subst this
       simp[eqvL]
      |succ m ihm=>
       intro s x0 y0 x1 y1 hx0 hy0 hxs hys f1 f2
       rw[List.replicate_succ,List.flatten_cons]at f1 f2
       obtain⟨xa,xb,rfl,xl,xf1,xf2⟩:=fits_append f1
       obtain⟨ya,yb,rfl,yl,yf1,yf2⟩:=fits_append f2
       have hpx:(part el xs.toArray (s*l'.length)).run P w=.ok (mkT P el xa) w:=by
        rw[run_part (n:=l'.length) s1 hsz (by rw[hxs];simp[hx0];omega) s2]
        congr 2
        rw[hxs,←hx0]
        simp[←xl]
       have hpy:(part el ys.toArray (s*l'.length)).run P w=.ok (mkT P el ya) w:=by
        rw[run_part (n:=l'.length) s1 hsz (by rw[hys];simp[hy0];omega) s2]
        congr 2
        rw[hys,←hy0]
        simp[←yl]
       have hrest:=ihm (s+1) (x0++xa) (y0++ya) xb yb (by simp[hx0,xl,Nat.add_mul]) (by simp[hy0,yl,Nat.add_mul]) (by rw[hxs];simp) (by rw[hys];simp) xf2 yf2
       rw[List.range'_succ,List.forIn_cons]
       simp only[Sem.run_bind,hpx,hpy,Result.andThen_ok,ih el l' hl' xa ya w xf1 yf1 e (by omega)]
       rw[eqvL_append (by rw[xl,yl])]
       cases eqvL xa ya
       ·simp
       ·simp only[Bool.not_true,Bool.false_eq_true,if_false,Sem.run_pure,Result.andThen_ok,Bool.true_and]
        exact hrest
     have:=key n 0 [] [] xs ys (by simp) (by simp) (by simp) (by simp) hx hy
     have hsn:([:n]:Std.Legacy.Range).size=n:=by simp[Std.Legacy.Range.size]
     show ((Sem.run P (forIn (List.range' 0 ([:n]:Std.Legacy.Range).size 1) _ _) w).andThen _)=_
     rw[hsn,this]
     cases eqvL xs ys<;>simp
    ·cases h
   ·cases h
  ·cases h
def ibits (k:IntKind)(f:BitVec k.bits→BitVec k.bits→BitVec k.bits)(a b:Int):Int:=k.wrap (f (BitVec.ofInt k.bits a) (BitVec.ofInt k.bits b)).toNat
def abin (P:Program)(op:BinOp)(t:TypeId):Value→Value→Option Value
 |.int k a,.int k' b=>match op with
  |.shl=>if 0≤b then some (.int k (k.wrap (a*2^(min b.toNat k.bits))))else none
  |.shr=>if 0≤b then some (.int k (a.fdiv (2^(min b.toNat k.bits))))else none
  |_=>if k=k' then(match op with
   |.add=>some (.int k (k.wrap (a+b)))
   |.sub=>some (.int k (k.wrap (a-b)))
   |.mul=>some (.int k (k.wrap (a*b)))
   |.quo=>if b=0 then none else some (.int k (k.wrap (a.tdiv b)))
   |.rem=>if b=0 then none else some (.int k (a.tmod b))
   |.and=>some (.int k (ibits k (· &&& ·) a b))
   |.or=>some (.int k (ibits k (· ||| ·) a b))
   |.xor=>some (.int k (ibits k (· ^^^ ·) a b))
   |.eql=>some (.bool (decide (a=b)))
   |.neq=>some (.bool (!decide (a=b)))
   |.lss=>some (.bool (decide (a<b)))
   |.leq=>some (.bool (decide (a≤b)))
   |.gtr=>some (.bool (decide (b<a)))
   |.geq=>some (.bool (decide (b≤a)))
   |_=>none)else none
 |.bool a,.bool b=>match P.underlying t with
  |some .bool=>(match op with
   |.eql=>some (.bool (a==b))
   |.neq=>some (.bool (!(a==b)))
   |_=>none)
  |_=>none
 |.string a,.string b=>match op with
  |.eql=>some (.bool (a==b))
  |.neq=>some (.bool (!(a==b)))
  |_=>none
 |_,_=>none
theorem run_abin {op:BinOp}{t:TypeId}{x y r:Value}(ox oy:Operand)(h:abin P op t x y=some r)(w:World):(do eqGuard op t ox oy x y;binOp op t x y:Sem Value).run P w=.ok r w:=by
 unfold abin at h
 split at h
 ·rename_i k a k' b
  have hg:eqGuard op t ox oy (.int k a) (.int k' b)=pure ():=by unfold eqGuard;split<;>rfl
  rw[hg]
  clear hg
  simp only[Sem.run_bind,Sem.run_pure,Result.andThen_ok]
  cases op<;>simp only at h
  case shl=>
   split at h
   ·rename_i hb
    simp only[Option.some.injEq]at h;subst h
    have:¬b<0:=by omega
    simp[binOp,Op.shift,this]
   ·cases h
  case shr=>
   split at h
   ·rename_i hb
    simp only[Option.some.injEq]at h;subst h
    have:¬b<0:=by omega
    simp[binOp,Op.shift,this]
   ·cases h
  all_goals
   split at h
   ·rename_i hk
    subst hk
    first
     |(cases h;done)
     |(simp only[Option.some.injEq]at h;subst h;first
       |(simp[binOp,Op.intArith];done)
       |(simp[binOp,Op.intBits,ibits];done)
       |(simp[binOp,Op.intCmp];done)
       |(simp[binOp,Op.intCmp];rw[Bool.eq_iff_iff];simp[bne_iff_ne];done))
     |(split at h
       ·cases h
       ·rename_i hb
        simp only[Option.some.injEq]at h;subst h
        simp[binOp,Op.intDiv,hb])
   ·cases h
 ·rename_i a b
  have hg:eqGuard op t ox oy (.bool a) (.bool b)=pure ():=by unfold eqGuard;split<;>rfl
  rw[hg]
  split at h
  ·rename_i hu
   split at h
   ·simp only[Option.some.injEq]at h;subst h
    simp[binOp,Op.equal,Op.maxDepth,run_equalIn_bool' _ _ _ _ _ hu]
   ·simp only[Option.some.injEq]at h;subst h
    simp[binOp,Op.equal,Op.maxDepth,run_equalIn_bool' _ _ _ _ _ hu]
   ·cases h
  ·cases h
 ·rename_i a b
  have hg:eqGuard op t ox oy (.string a) (.string b)=pure ():=by unfold eqGuard;split<;>rfl
  rw[hg]
  split at h
  ·simp only[Option.some.injEq]at h;subst h
   simp[binOp,Op.stringOp,beq_toListBytes]
  ·simp only[Option.some.injEq]at h;subst h
   simp[binOp,Op.stringOp,beq_toListBytes]
  ·cases h
 ·cases h
section
variable {K K':Nat→Prop} {ι ι':Nat→Loc} {F F':Foot} {σ σ':AState} {a a':Act} {w w':World}
theorem goes_binOp (hR:Rel K ι F σ a w){o:Oper}{op:BinOp}{t t':TypeId}{x y:Operand}(ho:o.op=.binOp op t x y t')(hd:∀i,o.dst=some i→i<σ.m)(hK:∀i,K i→K' i)
  {u v r:Value}(hx:σ.ev x=.imm (.v u))(hy:σ.ev y=.imm (.v v))(h:abin P op t u v=some r):Goes P o a w K ι F σ K' (σ.app o.dst ⟨.imm (.v r),[]⟩):=by
 have e1:=(hR.ev x).2
 have e2:=(hR.ev y).2
 rw[hx,ARep,IRep]at e1
 rw[hy,ARep,IRep]at e2
 refine Goes.same hR (u:=r) ?_ hd hK (by rw[AIn];trivial) ?_
 ·have:=run_abin (P:=P) x y h w
  rw[←e1.1,←e2.1]at this
  simp only[execOp,ho,Sem.run_bind,this,Result.andThen_ok,Sem.run_pure]
 ·rw[ARep,IRep]
  refine⟨rfl,?_⟩
  unfold abin at h
  repeat' split at h
  all_goals first
   |(cases h;done)
   |(cases h;rfl)
def valsL :List AVal→Option (List Value)
 |[]=>some []
 |.imm (.v x)::xs=>match valsL xs with|some vs=>some (x::vs)|none=>none
 |_=>none
theorem valsL_spec :∀{cs:List AVal}{vs us:List Value},valsL cs=some vs→ARepL w F ι cs us→us=vs
 |[],vs,us,h,hr=>by simp[valsL]at h;subst h;rw[ARepL]at hr;exact hr
 |c::cs,vs,us,h,hr=>by
  rw[ARepL]at hr
  obtain⟨u,us',rfl,h1,h2⟩:=hr
  unfold valsL at h
  split at h
  ·rename_i heq;cases heq
  ·rename_i x xs heq
   obtain⟨rfl,rfl⟩:=List.cons.inj heq
   split at h
   ·rename_i vs' hvs
    simp only[Option.some.injEq]at h;subst h
    rw[ARep,IRep]at h1
    rw[h1.1,valsL_spec hvs h2]
   ·cases h
  ·cases h
theorem goes_eqStruct (hR:Rel K ι F σ a w){o:Oper}{neg:Bool}{t t':TypeId}{x y:Operand}(ho:o.op=.binOp (if neg then .neq else .eql) t x y t')(hd:∀i,o.dst=some i→i<σ.m)(hK:∀i,K i→K' i)
  {l:List TypeDesc}{xs ys:List Value}{cx cy:List AVal}{n:Nat}(hl:leafs P 20 t=some l)(hg:P.eqGuardType P.depth t=false)(ht:tld P t=some (true,n))
  (hsx:ashape (σ.ev x)=some (true,n))(hsy:ashape (σ.ev y)=some (true,n))(hcx:acells (σ.ev x)=some cx)(hcy:acells (σ.ev y)=some cy)(hx:valsL cx=some xs)(hy:valsL cy=some ys)(hfx:fits l xs=true)(hfy:fits l ys=true):
  Goes P o a w K ι F σ K' (σ.app o.dst ⟨.imm (.v (.bool (if neg then !eqvL xs ys else eqvL xs ys))),[]⟩):=by
 have e1:=(hR.ev x).2
 have e2:=(hR.ev y).2
 obtain⟨p1,p2,p3⟩:=ashape_spec hsx e1
 obtain⟨q1,q2,q3⟩:=ashape_spec hsy e2
 have v1:=valsL_spec hx (acells_spec hcx e1)
 have v2:=valsL_spec hy (acells_spec hcy e2)
 rw[v1]at p2
 rw[v2]at q2
 obtain⟨d,i,hu,hi,hr,_⟩:=tld_spec ht
 have hm:∀zs,mkT P t zs=mkV true zs:=fun zs=>by simp[mkT,hu,hr]
 have hrun:=run_equal (P:=P) 20 t l hl xs ys w hfx hfy 10000 (by omega)
 rw[hm,hm,p2,q2]at hrun
 have hax:a.eval x=.agg xs.toArray:=by rw[←p2];rfl
 have hay:a.eval y=.agg ys.toArray:=by rw[←q2];rfl
 rw[hax,hay]at hrun
 refine Goes.same hR (u:=.bool (if neg then !eqvL xs ys else eqvL xs ys)) ?_ hd hK (by rw[AIn];trivial) (by rw[ARep,IRep];exact⟨rfl,rfl⟩)
 cases neg
 ·have ho':o.op=.binOp .eql t x y t':=by simpa using ho
  simp only[execOp,ho',hax,hay,Sem.run_bind,run_eqGuard_agg w .eql t x y _ _ hg,Result.andThen_ok,run_eql_struct,hrun,Sem.run_pure]
  simp
 ·have ho':o.op=.binOp .neq t x y t':=by simpa using ho
  simp only[execOp,ho',hax,hay,Sem.run_bind,run_eqGuard_agg w .neq t x y _ _ hg,Result.andThen_ok,run_neq_struct,hrun,Sem.run_pure]
  simp
def aun :UnOp→Value→Option Value
 |.not,.bool b=>some (.bool (!b))
 |.neg,.int k n=>some (.int k (k.wrap (0-n)))
 |.xor,.int k n=>some (.int k (ibits k (· ^^^ ·) (if k.signed then-1 else k.max) n))
 |_,_=>none
theorem goes_unOp (hR:Rel K ι F σ a w){o:Oper}{op:UnOp}{t:TypeId}{x:Operand}(ho:o.op=.unOp op t x)(hd:∀i,o.dst=some i→i<σ.m)(hK:∀i,K i→K' i)
  {u r:Value}(hx:σ.ev x=.imm (.v u))(h:aun op u=some r):Goes P o a w K ι F σ K' (σ.app o.dst ⟨.imm (.v r),[]⟩):=by
 have e1:=(hR.ev x).2
 rw[hx,ARep,IRep]at e1
 unfold aun at h
 split at h<;>(try cases h)<;>(refine Goes.same hR (u:=_) (by simp only[execOp,ho,e1.1,Op.unary,Op.intArith,Op.intBits];rfl) hd hK (by rw[AIn];trivial) (by rw[ARep,IRep];exact⟨rfl,rfl⟩))
def tint (P:Program)(t:TypeId):Option IntKind:=
 match P.underlying t with
 |some (.int k)=>some k
 |_=>none
theorem goes_convInt (hR:Rel K ι F σ a w){o:Oper}{s t:TypeId}{x:Operand}(ho:o.op=.convert s t x)(hd:∀i,o.dst=some i→i<σ.m)(hK:∀i,K i→K' i)
  {k ks:IntKind}{n:Int}(hx:σ.ev x=.imm (.v (.int ks n)))(hs:(P.underlying s).isSome=true)(ht:tint P t=some k):Goes P o a w K ι F σ K' (σ.app o.dst ⟨.imm (.v (.int k (k.wrap n))),[]⟩):=by
 have e1:=(hR.ev x).2
 rw[hx,ARep,IRep]at e1
 unfold tint at ht
 split at ht
 ·rename_i k' hu
  simp only[Option.some.injEq]at ht;subst ht
  obtain⟨d,hd'⟩:=Option.isSome_iff_exists.1 hs
  refine Goes.same hR (u:=.int k' (k'.wrap n)) ?_ hd hK (by rw[AIn];trivial) (by rw[ARep,IRep];exact⟨rfl,rfl⟩)
  simp[execOp,ho,convert,run_underlying hd',run_underlying hu,e1.1,Conv.intToInt]
 ·cases ht
theorem run_eqNil {t t':TypeId}{o:Oper}{x y:Operand}(ho:o.op=.binOp .eql t x y t')(ht:tlen P t=some true){ad:Option Addr}{l c:Nat}(hx:a.eval x=.slice ad l c)(hy:a.eval y=.slice none 0 0):
  (execOp a.eval o).run P w=.ok (.value (.bool ad.isNone)) w:=by
 obtain⟨e,hu⟩:∃e,P.underlying t=some (.slice e):=by
  unfold tlen at ht
  split at ht
  ·rename_i e hu;exact⟨e,hu⟩
  ·cases ht
  ·cases ht
 have he:=run_equal_slice_nil w t e ad l c hu
 simp[execOp,ho,hx,hy,eqGuard,binOp,he]
def aNil (x y:AVal):Option AVal:=
 match y with
 |.imm (.v (.slice none 0 0))=>match x with
  |.imm (.sl _ _ _ es)=>some (.ub es.isEmpty)
  |.imm (.v (.slice none 0 0))=>some (.imm (.v (.bool true)))
  |.own _ n=>some (.ub (n==0))
  |_=>none
 |_=>none
theorem goes_eqNil (hR:Rel K ι F σ a w){o:Oper}{t t':TypeId}{x y:Operand}{r:AVal}(ho:o.op=.binOp .eql t x y t')(hd:∀i,o.dst=some i→i<σ.m)(hK:∀i,K i→K' i)(ht:tlen P t=some true)(h:aNil (σ.ev x) (σ.ev y)=some r):
  Goes P o a w K ι F σ K' (σ.app o.dst ⟨r,[]⟩):=by
 unfold aNil at h
 split at h
 ·rename_i hy
  have hyv:=(hR.ev y).2
  rw[hy,ARep,IRep]at hyv
  have hxv:=(hR.ev x).2
  split at h
  ·rename_i c f k es hx
   simp only[Option.some.injEq]at h;subst h
   rw[hx,ARep,IRep]at hxv
   obtain⟨ad,cap,e1,_,_,e4⟩:=hxv
   refine Goes.same hR (u:=.bool ad.isNone) (run_eqNil ho ht e1 hyv.1) hd hK (by rw[AIn];trivial) ?_
   rw[ARep]
   refine⟨_,rfl,fun hn=>?_⟩
   cases es with
   |nil=>rfl
   |cons d ds=>
    obtain⟨b,off,cs,ty,fr,vs,h1,_⟩:=e4 (by simp)
    rw[h1]at hn;cases hn
  ·rename_i hx
   simp only[Option.some.injEq]at h;subst h
   rw[hx,ARep,IRep]at hxv
   refine Goes.same hR (u:=.bool true) ?_ hd hK (by rw[AIn];trivial) (by rw[ARep,IRep];exact⟨rfl,rfl⟩)
   have:=run_eqNil (P:=P) (a:=a) (w:=w) ho ht hxv.1 hyv.1
   simpa using this
  ·rename_i id n hx
   simp only[Option.some.injEq]at h;subst h
   rw[hx,ARep]at hxv
   obtain⟨e1,e2⟩:=hxv
   unfold Loc.val at e1
   split at e1
   ·rename_i hnil
    refine Goes.same hR (u:=.bool (ι id).z.isNone) ?_ hd hK (by rw[AIn];trivial) (by rw[ARep];exact⟨_,rfl,fun _=>by simp[e2 hnil]⟩)
    have:=run_eqNil (P:=P) (a:=a) (w:=w) ho ht e1 hyv.1
    simpa using this
   ·refine Goes.same hR (u:=.bool false) ?_ hd hK (by rw[AIn];trivial) (by rw[ARep];exact⟨_,rfl,fun h=>by cases h⟩)
    have:=run_eqNil (P:=P) (a:=a) (w:=w) ho ht e1 hyv.1
    simpa using this
  ·cases h
 ·cases h
def amax :Builtin→Value→Value→Option Value
 |.max,.int k x,.int k' y=>if k=k' then some (.int k (if y>x then y else x))else none
 |.min,.int k x,.int k' y=>if k=k' then some (.int k (if y<x then y else x))else none
 |_,_,_=>none
theorem goes_max (hR:Rel K ι F σ a w){o:Oper}{b:Builtin}{x y:Operand}{ts:Array TypeId}{u v r:Value}(ho:o.op=.call {callee:=.builtin b,args:=#[x,y],argTypes:=ts})(hd:∀i,o.dst=some i→i<σ.m)(hK:∀i,K i→K' i)
  (hx:σ.ev x=.imm (.v u))(hy:σ.ev y=.imm (.v v))(h:amax b u v=some r):Goes P o a w K ι F σ K' (σ.app o.dst ⟨.imm (.v r),[]⟩):=by
 have hxv:=(hR.ev x).2
 have hyv:=(hR.ev y).2
 rw[hx,ARep,IRep]at hxv
 rw[hy,ARep,IRep]at hyv
 unfold amax at h
 split at h
 ·split at h
  ·rename_i hk
   simp only[Option.some.injEq]at h;subst h
   refine Goes.same hR (u:=_) ?_ hd hK (by rw[AIn];trivial) (by rw[ARep,IRep];exact⟨rfl,rfl⟩)
   simp[execOp,ho,resolve,invoke,builtin,Builtin.max_,Builtin.max2,hxv.1,hyv.1]
  ·cases h
 ·split at h
  ·rename_i hk
   simp only[Option.some.injEq]at h;subst h
   refine Goes.same hR (u:=_) ?_ hd hK (by rw[AIn];trivial) (by rw[ARep,IRep];exact⟨rfl,rfl⟩)
   simp[execOp,ho,resolve,invoke,builtin,Builtin.min_,Builtin.min2,hxv.1,hyv.1]
  ·cases h
 ·cases h
end
end Go.Abs
namespace Go.Abs
open Go.RowKit
variable {P:Program}
def tmap (P:Program)(t:TypeId):Option (IntKind×Nat):=
 match P.underlying t with
 |some (.map kt et)=>match P.underlying kt with
  |some (.int k)=>some (k,et)
  |_=>none
 |_=>none
theorem tmap_spec {t et:Nat}{kd:IntKind}(h:tmap P t=some (kd,et)):∃kt,P.underlying t=some (.map kt et)∧P.underlying kt=some (.int kd):=by
 unfold tmap at h
 split at h
 ·rename_i kt et' h1
  split at h
  ·rename_i k h2
   simp only[Option.some.injEq,Prod.mk.injEq]at h
   obtain⟨rfl,rfl⟩:=h
   exact⟨kt,h1,h2⟩
  ·cases h
 ·cases h
def keysOk (kd:IntKind)(ks:List Value):Bool:=ks.all fun|.int k _=>k==kd|_=>false
def keyNew (n:Int)(ks:List Value):Bool:=ks.all fun|.int _ a=>n != a|_=>false
def alook :List Value→List AVal→Int→AVal→AVal×Bool
 |.int _ a::ks,x::xs,n,z=>if n=a then(x,true)else alook ks xs n z
 |_,_,_,z=>(z,false)
section
variable {K K':Nat→Prop} {ι:Nat→Loc} {F F':Foot} {σ:AState} {a:Act} {w w':World}
theorem Rel.turn (h:Rel K ι F σ a w){id:Nat}{e0 e1:Entry}(he:σ.s id=some e0)(hin:EIn K e1)(hos:w'.os=w.os)(htape:w'.tape=w.tape)(hout:w'.output=w.output)(hsz:w.heap.size≤w'.heap.size)
  (hfr:∀b,b<w.heap.size→((ι id).nil=true∨b≠(ι id).blk)→w'.heap[b]?=w.heap[b]?)(hm:∀c b,F c b→F' c b)(hs:∀c b,F' c b→F c b∨w.heap.size≤b)(hl:∀c b,F' c b→b<w'.heap.size)(hc:∀b,F' true b→F' false b)
  (hr:ERep w' F' ι (ι id) e1):Rel K ι F' {σ with s:=ups σ.s [(id,some e1)]} a w'∧Ext K ι F σ w K ι F' {σ with s:=ups σ.s [(id,some e1)]} w':=by
 have hoff:∀c b,F c b→(ι id).nil=true∨b≠(ι id).blk:=by
  intro c b hF
  cases hn:(ι id).nil with
  |true=>exact .inl rfl
  |false=>exact .inr fun e=>h.off (ι id).blk ⟨id,e0,he,hn,rfl⟩ c (e ▸ hF)
 have hkeep:Keeps F w w':=fun c b hF=>hfr b (h.foot c b hF) (hoff c b hF)
 have hO:∀b,Owned ι {σ with s:=ups σ.s [(id,some e1)]} b→Owned ι σ b:=by
  rintro b ⟨i,e,h1,h2⟩
  by_cases hi:i=id
  ·subst hi;exact⟨i,e0,he,h2⟩
  ·simp only[ups,if_neg hi]at h1;exact⟨i,e,h1,h2⟩
 refine⟨⟨h.size,fun i=>⟨(h.tmp i).1,ARep.keep hkeep hm (fun _ _=>rfl) _ _ (h.tmp i).1 (h.tmp i).2⟩,fun i e hi=>?_,fun b hb c hF=>?_,fun i j ei ej hi hj=>?_,hl,hc⟩,
  ⟨hos,htape,hout,hsz,fun b hb hn=>hfr b hb ?_,fun b hb=>.inl (hO b hb),hm,fun c b h=>(hs c b h).imp_right .inl,fun _ _=>rfl,fun _ h=>h⟩⟩
 ·by_cases hid:i=id
  ·subst hid
   simp only[ups,if_true,Option.some.injEq]at hi;subst hi
   exact⟨(h.ent i e0 he).1,hin,hr⟩
  ·simp only[ups,if_neg hid]at hi
   obtain⟨g1,g2,g3⟩:=h.ent i e hi
   refine⟨g1,g2,ERep.keep hkeep hm (fun _ _=>rfl) (fun hn=>hfr _ (g3.lt hn) ?_) e g2 g3⟩
   cases hn':(ι id).nil with
   |true=>exact .inl rfl
   |false=>exact .inr fun e'=>hid (h.sep i id e e0 hi he hn hn' e')
 ·have hb':=hO b hb
  rcases hs c b hF with h1|h1
  ·exact h.off b hb' c h1
  ·have:=h.owned_lt hb';omega
 ·have key:∀i e,(ups σ.s [(id,some e1)]) i=some e→∃e',σ.s i=some e':=by
   intro i e hi
   by_cases hid:i=id
   ·subst hid;exact⟨e0,he⟩
   ·simp only[ups,if_neg hid]at hi;exact⟨e,hi⟩
  obtain⟨ei',k1⟩:=key i ei hi
  obtain⟨ej',k2⟩:=key j ej hj
  exact h.sep i j ei' ej' k1 k2
 ·cases hn':(ι id).nil with
  |true=>exact .inl rfl
  |false=>exact .inr fun e'=>hn ⟨id,e0,he,hn',e'.symm⟩
end
section
variable {K K':Nat→Prop} {ι ι':Nat→Loc} {F F':Foot} {σ σ':AState} {a a':Act} {w w':World}
theorem findNow_spec {kd kd0:IntKind}{n:Int}{z:AVal}:∀(es:List MapEntry)(xs:List AVal)(i:Nat),keysOk kd (es.map (·.key))=true→ARepL w F ι xs (es.map (·.val))→
  ∃r,Instr.findNow (.int kd0) (.int kd n) es i=some r∧(((alook (es.map (·.key)) xs n z).2=true∧∃j v,r=some (j,v)∧ARep w F ι (alook (es.map (·.key)) xs n z).1 v∧(alook (es.map (·.key)) xs n z).1∈xs)∨
   ((alook (es.map (·.key)) xs n z).2=false∧r=none∧(alook (es.map (·.key)) xs n z).1=z))
 |[],xs,i,_,_=>⟨none,rfl,.inr (by cases xs<;>exact⟨rfl,rfl,rfl⟩)⟩
 |e::es,xs,i,hk,hx=>by
  cases xs with
  |nil=>rw[ARepL]at hx;cases hx
  |cons x xs=>
   rw[List.map_cons,ARepL]at hx
   obtain⟨u,us',e0,hx1,hx2⟩:=hx
   simp only[List.cons.injEq]at e0
   obtain⟨rfl,rfl⟩:=e0
   rw[List.map_cons,keysOk,List.all_cons,Bool.and_eq_true]at hk
   obtain⟨k1,k2⟩:=hk
   split at k1
   ·rename_i k b hkey
    have hkk:k=kd:=by simpa using k1
    subst hkk
    by_cases hn:n=b
    ·refine⟨some (i,e.val),?_,.inl ?_⟩
     ·rw[Instr.findNow,hkey];simp[Instr.sameNow,hn]
     ·rw[List.map_cons,hkey,alook,if_pos hn]
      exact⟨rfl,i,e.val,rfl,hx1,List.mem_cons_self ..⟩
    ·obtain⟨r,h1,h2⟩:=findNow_spec (kd:=k) (kd0:=kd0) (n:=n) (z:=z) es xs (i+1) k2 hx2
     refine⟨r,?_,?_⟩
     ·rw[Instr.findNow,hkey]
      have:(n==b)=false:=by simpa using hn
      simp only[Instr.sameNow,if_true,this]
      exact h1
     ·rw[List.map_cons,hkey,alook,if_neg hn]
      rcases h2 with⟨g1,j,v,g2,g3,g4⟩|h2
      ·exact .inl ⟨g1,j,v,g2,g3,List.mem_cons_of_mem _ g4⟩
      ·exact .inr h2
   ·cases k1
theorem AInL.mem :∀{xs:List AVal}{x:AVal},AInL K xs→x∈xs→AIn K x
 |y::xs,x,h,hx=>by
  rw[AInL]at h
  rcases List.mem_cons.1 hx with rfl|hx
  ·exact h.1
  ·exact AInL.mem h.2 hx
def amapOf (σ:AState):AVal→Option (List Value×List AVal)
 |.mp id=>match σ.s id with
  |some (.map kvs)=>some (kvs.map (·.1),kvs.map (·.2))
  |_=>none
 |.imm (.map ks ds)=>some (ks,ds.map .imm)
 |_=>none
theorem amapOf_spec (hR:Rel K ι F σ a w){x:AVal}{u:Value}{ks:List Value}{xs:List AVal}(h:amapOf σ x=some (ks,xs))(hx:AIn K x)(hr:ARep w F ι x u):
  AInL K xs∧∃b es ck,u=.map (some b)∧w.heap[b]?=some (.map es ck)∧es.toList.map (·.key)=ks∧ARepL w F ι xs (es.toList.map (·.val)):=by
 unfold amapOf at h
 split at h
 ·rename_i id
  split at h
  ·rename_i kvs he
   simp only[Option.some.injEq,Prod.mk.injEq]at h
   obtain⟨rfl,rfl⟩:=h
   obtain⟨_,h2,_,es,ck,e1,e2,e3⟩:=hR.ent id _ he
   rw[ARep]at hr
   exact⟨h2,_,es,ck,hr,e1,e2,e3⟩
  ·cases h
 ·rename_i ks' ds
  simp only[Option.some.injEq,Prod.mk.injEq]at h
  obtain⟨rfl,rfl⟩:=h
  rw[ARep,IRep]at hr
  obtain⟨b,es,ck,e1,_,e3,e4,e5⟩:=hr
  exact⟨AInL.imm ds,b,es,ck,e1,e3,e4,ARepL.imm e5⟩
 ·cases h
theorem tz_spec {t:Nat}{x:AVal}(h:tz P t=some x)(K:Nat→Prop)(w:World)(F:Foot)(ι:Nat→Loc):∃z,(zeroValue t).run P w=.ok z w∧AIn K x∧ARep w F ι x z:=by
 unfold tz at h
 split at h
 ·rename_i i hi
  split at h
  ·rename_i z hz
   simp only[Option.some.injEq]at h
   subst h
   exact⟨z,by simp[zeroValue,typeInfo,hi,hz],(ofValue_spec (w:=w) (F:=F) (ι:=ι) K z).1,(ofValue_spec K z).2⟩
  ·cases h
 ·cases h
theorem goes_lookup (hR:Rel K ι F σ a w){o:Oper}{t:TypeId}{m k:Operand}{ok:Bool}(ho:o.op=.lookup t m k ok)(hd:∀i,o.dst=some i→i<σ.m)(hK:∀i,K i→K' i)
  {kd:IntKind}{et:Nat}{n:Int}{z x:AVal}{b:Bool}{ks:List Value}{xs:List AVal}(ht:tmap P t=some (kd,et))(hz:tz P et=some z)(hk:σ.ev k=.imm (.v (.int kd n)))(hm:amapOf σ (σ.ev m)=some (ks,xs))(hks:keysOk kd ks=true)
  (hl:alook ks xs n z=(x,b)):Goes P o a w K ι F σ K' (σ.app o.dst ⟨if ok=true then .tup [x,.imm (.v (.bool b))]else x,[]⟩):=by
 obtain⟨kt,u1,u2⟩:=tmap_spec ht
 obtain⟨m1,m2⟩:=hR.ev m
 obtain⟨q1,blk,es,ck,q2,q3,q4,q5⟩:=amapOf_spec hR hm m1 m2
 have hkv:=(hR.ev k).2
 rw[hk,ARep,IRep]at hkv
 obtain⟨zv,z1,z2,z3⟩:=tz_spec hz K w F ι
 subst q4
 obtain⟨r,g1,g2⟩:=findNow_spec (w:=w) (F:=F) (ι:=ι) (kd:=kd) (kd0:=kd) (n:=n) (z:=z) es.toList xs 0 hks q5
 rw[hl]at g2
 have hx:∃v,(match r with|some (_,v)=>(pure (v,true):Sem (Value×Bool))|none=>do pure (←zeroValue et,false)).run P w=.ok (v,b) w∧AIn K x∧ARep w F ι x v:=by
  rcases g2 with⟨e1,j,v,rfl,e2,e3⟩|⟨e1,rfl,e2⟩
  ·simp only at e1 e2 e3
   subst e1
   exact⟨v,rfl,AInL.mem q1 e3,e2⟩
  ·simp only at e1 e2
   subst e1 e2
   exact⟨zv,by simp only[Sem.run_bind,z1,Result.andThen,Sem.run_pure],z2,z3⟩
 obtain⟨v,v1,v2,v3⟩:=hx
 have hrun:(Instr.lookup t (a.eval m) (a.eval k) ok).run P w=.ok (if ok=true then .tuple #[v,.bool b]else v) w:=by
  rw[q2,hkv.1]
  have hc:∀b',(Instr.checkKey b' 10000 kt (.int kd n)).run P w=.ok () w:=fun b'=>MapKept.run_checkKey u2 (by simp[MapKept.IsKey]) b' 9999
  rcases g2 with⟨e1,j,v',rfl,e2,e3⟩|⟨e1,rfl,e2⟩
  ·simp only[Sem.run_pure,Result.ok.injEq,Prod.mk.injEq]at v1
   obtain⟨⟨rfl,rfl⟩,_⟩:=v1
   simp[Instr.lookup,run_underlying u1,MapKept.run_getObj_map q3,hc,MapKept.run_findKey u2 g1,Result.andThen]
  ·simp only[Sem.run_bind,z1,Result.andThen,Sem.run_pure,Result.ok.injEq,Prod.mk.injEq]at v1
   obtain⟨⟨rfl,rfl⟩,_⟩:=v1
   simp[Instr.lookup,run_underlying u1,MapKept.run_getObj_map q3,hc,MapKept.run_findKey u2 g1,Result.andThen,z1]
 refine Goes.same hR (u:=if ok=true then .tuple #[v,.bool b]else v) (by simp only[execOp,ho];rw[Sem.run_bind,hrun];rfl) hd hK ?_ ?_
 ·split
  ·rw[AIn,AInL,AInL,AInL,AIn];exact⟨v2,trivial,trivial⟩
  ·exact v2
 ·split
  ·rw[ARep]
   refine⟨_,rfl,?_⟩
   rw[ARepL]
   refine⟨v,[.bool b],rfl,v3,?_⟩
   rw[ARepL]
   refine⟨.bool b,[],rfl,by rw[ARep,IRep];exact⟨rfl,rfl⟩,by rw[ARepL]⟩
  ·exact v3
theorem goes_insert (hR:Rel K ι F σ a w){o:Oper}{t:TypeId}{m k x:Operand}(ho:o.op=.insert t m k x)(hd:∀i,o.dst=some i→i<σ.m)(hK:∀i,K i→K' i)
  {kd:IntKind}{et id:Nat}{n:Int}{kvs:List (Value×AVal)}(ht:tmap P t=some (kd,et))(hk:σ.ev k=.imm (.v (.int kd n)))(hm:σ.ev m=.mp id)(he:σ.s id=some (.map kvs))(hks:keysOk kd (kvs.map (·.1))=true)(hnew:keyNew n (kvs.map (·.1))=true):
  Goes P o a w K ι F σ K' (σ.app o.dst ⟨.any,[(id,some (.map (kvs++[(.int kd n,σ.ev x)])))]⟩):=by
 obtain⟨kt,u1,u2⟩:=tmap_spec ht
 have m2:=(hR.ev m).2
 rw[hm,ARep]at m2
 obtain⟨g1,g2,g3,es,ck,e1,e2,e3⟩:=hR.ent id _ he
 have hkv:=(hR.ev k).2
 rw[hk,ARep,IRep]at hkv
 obtain⟨x1,x2⟩:=hR.ev x
 obtain⟨r,f1,f2⟩:=findNow_spec (w:=w) (F:=F) (ι:=ι) (kd:=kd) (kd0:=kd) (n:=n) (z:=.any) es.toList (kvs.map (·.2)) 0 (by rw[e2];exact hks) e3
 have hnone:∀(ks:List Value)(xs:List AVal),keyNew n ks=true→(alook ks xs n .any).2=false:=by
  intro ks
  induction ks with
  |nil=>intro xs _;cases xs<;>rfl
  |cons k ks ih=>
   intro xs hk
   rw[keyNew,List.all_cons,Bool.and_eq_true]at hk
   cases xs with
   |nil=>cases k<;>rfl
   |cons y ys=>
    cases k with
    |int kd' b=>
     rw[alook,if_neg (by simpa using hk.1)];exact ih ys hk.2
    |_=>rfl
 have hr:r=none:=by
  rcases f2 with⟨q,_⟩|⟨_,q,_⟩
  ·rw[e2,hnone _ _ hnew]at q;cases q
  ·exact q
 subst hr
 have hlt:=(Array.getElem?_eq_some_iff.1 e1).1
 have hrun:(Instr.mapUpdate t (a.eval m) (a.eval k) (a.eval x)).run P w=.ok () {w with heap:=w.heap.setIfInBounds (ι id).blk (.map (es.push {key:=.int kd n,val:=a.eval x,born:=ck}) (ck+1))}:=by
  rw[m2,hkv.1]
  have hc:∀b',(Instr.checkKey b' 10000 kt (.int kd n)).run P w=.ok () w:=fun b'=>MapKept.run_checkKey u2 (by simp[MapKept.IsKey]) b' 9999
  simp[Instr.mapUpdate,run_underlying u1,MapKept.run_getObj_map e1,hc,MapKept.run_findKey u2 f1,MapKept.run_setObj_map _ e1,Result.andThen]
 have hkeep:Keeps F w {w with heap:=w.heap.setIfInBounds (ι id).blk (.map (es.push {key:=.int kd n,val:=a.eval x,born:=ck}) (ck+1))}:=fun c b hb=>by
  show (w.heap.setIfInBounds (ι id).blk _)[b]?=_
  rw[Array.getElem?_setIfInBounds,if_neg]
  intro e
  exact hR.off _ ⟨id,_,he,g3,e⟩ c hb
 have hfr:∀b,b<w.heap.size→((ι id).nil=true∨b≠(ι id).blk)→({w with heap:=w.heap.setIfInBounds (ι id).blk (.map (es.push {key:=.int kd n,val:=a.eval x,born:=ck}) (ck+1))}:World).heap[b]?=w.heap[b]?:=fun b hb hne=>by
  show (w.heap.setIfInBounds (ι id).blk _)[b]?=_
  rw[Array.getElem?_setIfInBounds,if_neg]
  rcases hne with hne|hne
  ·rw[g3]at hne;cases hne
  ·exact fun e=>hne e.symm
 have hrep:ERep {w with heap:=w.heap.setIfInBounds (ι id).blk (.map (es.push {key:=.int kd n,val:=a.eval x,born:=ck}) (ck+1))} F ι (ι id) (.map (kvs++[(.int kd n,σ.ev x)])):=by
  refine⟨g3,es.push {key:=.int kd n,val:=a.eval x,born:=ck},ck+1,?_,by simp[e2],?_⟩
  ·show (w.heap.setIfInBounds (ι id).blk _)[(ι id).blk]?=_
   rw[Array.getElem?_setIfInBounds,if_pos rfl,if_pos hlt]
  ·simp only[Array.toList_push,List.map_append,List.map_cons,List.map_nil]
   refine(ARepL.keep hkeep (fun _ _ h=>h) (fun _ _=>rfl) _ _ g2 e3).append ?_
   rw[ARepL]
   exact⟨_,[],rfl,ARep.keep hkeep (fun _ _ h=>h) (fun _ _=>rfl) _ _ x1 x2,by rw[ARepL]⟩
 obtain⟨r1,r2⟩:=hR.turn (w':={w with heap:=w.heap.setIfInBounds (ι id).blk (.map (es.push {key:=.int kd n,val:=a.eval x,born:=ck}) (ck+1))}) (F':=F) he (e1:=.map (kvs++[(.int kd n,σ.ev x)])) (by rw[EIn,List.map_append];exact g2.append (by rw[List.map_cons,List.map_nil,AInL,AInL];exact⟨x1,trivial⟩)) rfl rfl rfl (by simp) hfr (fun _ _ h=>h) (fun _ _ h=>.inl h)
  (fun c b h=>by simpa using hR.foot c b h) hR.col hrep
 have hgo:=(Goes.skip (K':=K) (o:=o) (a:=a) (w:=w) (K:=K) (ι:=ι) (F:=F) (σ:=σ) (σ1:={σ with s:=ups σ.s [(id,some (.map (kvs++[(.int kd n,σ.ev x)])))]}) (P:=P) (by simp only[execOp,ho];rw[Sem.run_bind,hrun];rfl) hd rfl ⟨ι,F,r1,r2⟩)
 intro next Q hn
 exact hgo next Q fun ι' F' a' w' h1 h2 h3=>hn ι' F' a' w' (h1.mono hK) h2 (h3.more hK)
theorem goes_makeMap (hR:Rel K ι F σ a w){o:Oper}{t:TypeId}(ho:o.op=.makeMap t none)(j:Nat)(hj:¬K j)(hd:∀i,o.dst=some i→i<σ.m):
  Goes P o a w K ι F σ (fun i=>K i∨i=j) (σ.app o.dst ⟨.mp j,[(j,some (.map []))]⟩):=by
 obtain⟨r1,r2⟩:=hR.alloc j hj (.map #[] 0) ⟨w.heap.size,0,0,false,none⟩ (fun _=>rfl) (.map []) (by rw[EIn];exact trivial) ⟨rfl,#[],0,heap_alloc_new w _,rfl,by simp[ARepL]⟩
 refine Goes.of (σ1:={σ with s:=ups σ.s [(j,some (.map []))]}) (u:=.map (some w.heap.size)) ?_ hd rfl ⟨_,F,r1,r2,by rw[AIn];exact .inr rfl,by rw[ARep];simp⟩
 simp[execOp,ho,Instr.makeMap]
end
end Go.Abs
namespace Go.Abs
open Go.RowKit
variable {P:Program}
def tzb (P:Program)(t:TypeId):Option (IVal×Nat):=
 match P.info? t with
 |some i=>match i.zero with
  |some z=>match aimm (ofValue z)with
   |some d=>some (d,i.bytes)
   |none=>none
  |none=>none
 |none=>none
section
variable {K K':Nat→Prop} {ι ι':Nat→Loc} {F F':Foot} {σ σ':AState} {a a':Act} {w w':World}
theorem IRepL.replicate {d:IVal}{z:Value}(h:IRep w F d z):∀n:Nat,IRepL w F (List.replicate n d) (List.replicate n z)
 |0=>by rw[List.replicate_zero,List.replicate_zero,IRepL]
 |n+1=>by rw[List.replicate_succ,List.replicate_succ,IRepL];exact⟨z,_,rfl,h,IRepL.replicate h n⟩
theorem goes_makeSlice (hR:Rel K ι F σ a w){o:Oper}{t:TypeId}{l c:Operand}(ho:o.op=.makeSlice t l c)(j:Nat)(hj:¬K j)(hd:∀i,o.dst=some i→i<σ.m)
  {e k by':Nat}{n:Int}{d:IVal}{kl kc:IntKind}(hsl:tsl P t=some (e,k))(hk:0<k)(hz:tzb P e=some (d,by'))(hw:(ishape d).map (·.2)=some k)(h0:0≤n)(hb:(by':Int)*n≤281474976710656)(hsm:n≤9223372036854775807)
  (hl:σ.ev l=.imm (.v (.int kl n)))(hc:σ.ev c=.imm (.v (.int kc n))):
  Goes P o a w K ι F σ (fun i=>K i∨i=j) (σ.app o.dst ⟨.own j n.toNat,[(j,some (.row e k (List.replicate n.toNat d)))]⟩):=by
 obtain⟨hu,inf,hinf,hks⟩:=tsl_spec hsl
 unfold tzb at hz
 rw[hinf]at hz
 simp only at hz
 split at hz
 ·rename_i z hz1
  split at hz
  ·rename_i d' hd'
   simp only[Option.some.injEq,Prod.mk.injEq]at hz
   obtain⟨rfl,rfl⟩:=hz
   have hrep:IRep w F d' z:=aimm_spec hd' (ofValue_spec (w:=w) (F:=F) (ι:=ι) K z).2
   simp only[Option.map_eq_some_iff]at hw
   obtain⟨⟨ag,k'⟩,hs1,hs2⟩:=hw
   simp only at hs2;subst hs2
   have hsz:=(ishape_spec hs1 hrep).1
   have e1:=(hR.ev l).2
   have e2:=(hR.ev c).2
   rw[hl,ARep,IRep]at e1
   rw[hc,ARep,IRep]at e2
   have hrun:=run_make (P:=P) w t e inf z hu hinf hz1 kl kc n n h0 (Int.le_refl _) hb hsm
   refine goes_row hR j hj hd (n:=n.toNat) (cap:=n.toNat) (vs:=List.replicate n.toNat z) (c:=madeCells z.cells (n.toNat*inf.size)) (by simp) (Nat.le_refl _) (by rw[size_madeCells,hks];exact Nat.le_refl _) (IRepL.replicate hrep _) ?_ ?_
   ·refine Lay.of_cells _ 0 (fun v hv=>?_) (fun i v jj hi hjj=>?_) (by simp[size_madeCells,hks])
    ·obtain⟨_,rfl⟩:=List.mem_replicate.1 hv;exact hsz
    ·have hil:i<n.toNat:=by have:=(List.getElem?_eq_some_iff.1 hi).1;simpa using this
     have hv:v=z:=by rw[List.getElem?_replicate,if_pos hil]at hi;simpa using hi.symm
     subst hv
     have h1:i*k'+jj<n.toNat*k':=by
      have:(i+1)*k'≤n.toNat*k':=Nat.mul_le_mul_right k' hil
      rw[Nat.add_mul,Nat.one_mul]at this
      omega
     have h4:(i*k'+jj) % k'=jj:=by rw[Nat.mul_comm,Nat.mul_add_mod,Nat.mod_eq_of_lt hjj]
     rw[Nat.zero_add,madeCells,hks,hsz]
     simp only[Array.getElem?_map,Array.getElem?_range,h1,if_true,Option.map_some,h4]
     rw[Array.getElem?_eq_getElem (by omega),getElem!_pos v.cells jj (by omega)]
   ·simp[execOp,ho,e1.1,e2.1,hrun,Sem.run_bind,Result.andThen]
  ·cases hz
 ·cases hz
end
end Go.Abs
namespace Go.Abs
open Go.RowKit
variable {P:Program}
def bstr (l:List Int):ByteArray:=l.foldl (fun r n=>r.push (UInt8.ofNat n.toNat)) ByteArray.empty
def byI (n:Int):IVal:=.v (.int .u8 n)
def tbs (P:Program)(s t:TypeId):Bool:=
 match P.underlying s,P.underlying t with
 |some (.slice e),some .string=>match P.underlying e with
  |some (.int .u8)=>true
  |_=>false
 |_,_=>false
section
variable {K K':Nat→Prop} {ι ι':Nat→Loc} {F F':Foot} {σ σ':AState} {a a':Act} {w w':World}
theorem bytes_lay :∀{l:List Int}{vs:List Value}{c:Array Value}{off:Nat},IRepL w F (l.map byI) vs→Lay c off 1 vs→(c.toList.drop off).take l.length=l.map (Value.int .u8)
 |[],vs,c,off,_,_=>by simp
 |n::l,vs,c,off,h,hl=>by
  rw[List.map_cons,IRepL]at h
  obtain⟨x,xs,rfl,h1,h2⟩:=h
  obtain⟨l1,l2,l3⟩:=hl
  rw[byI,IRep]at h1
  have ih:=bytes_lay h2 l3
  rw[List.length_cons,Nat.add_comm l.length 1,List.take_add,List.drop_drop,ih,←l2,h1.1]
  rfl
theorem goes_toStr (hR:Rel K ι F σ a w){o:Oper}{s t:TypeId}{x:Operand}(ho:o.op=.convert s t x)(hd:∀i,o.dst=some i→i<σ.m)(hK:∀i,K i→K' i)
  {c f:Bool}{l:List Int}(ht:tbs P s t=true)(hx:σ.ev x=.imm (.sl c f 1 (l.map byI))):Goes P o a w K ι F σ K' (σ.app o.dst ⟨.imm (.v (.string (bstr l))),[]⟩):=by
 unfold tbs at ht
 split at ht
 ·rename_i e hs hstr
  split at ht
  ·rename_i he
   have e2:=(hR.ev x).2
   rw[hx,ARep,IRep]at e2
   obtain⟨ad,cap,e1,_,_,e4⟩:=e2
   have hrun:(Conv.bytesToString (a.eval x)).run P w=.ok (.string (bstr l)) w:=by
    rw[e1,List.length_map]
    cases ad with
    |none=>
     have:l=[]:=by
      cases l with
      |nil=>rfl
      |cons n l=>
       obtain⟨b,off,cs,ty,fr,vs,h0,_⟩:=e4 (by simp)
       cases h0
     subst this
     rfl
    |some ad=>
     refine run_bytesToString w ad l.length cap l ?_
     cases l with
     |nil=>simp[loadCells,loadCellsFrom]
     |cons n l=>
      obtain⟨b,off,cs,ty,fr,vs,h0,h1,h2,h3,h4⟩:=e4 (by simp)
      simp only[Option.some.injEq]at h0
      subst h0
      have hvl:=h3.length
      rw[List.length_map]at hvl
      have hoff:off≤cs.size:=by
       cases vs with
       |nil=>simp at hvl
       |cons v vs=>have:=h4.1;omega
      have hsz:=Lay.size hoff h4
      rw[Nat.mul_one,hvl]at hsz
      rw[loadCells_row h2 hsz,bytes_lay h3 h4]
   refine Goes.same hR (u:=.string (bstr l)) ?_ hd hK (by rw[AIn];trivial) (by rw[ARep,IRep];exact⟨rfl,rfl⟩)
   rw[e1]at hrun
   simp only[execOp,ho]
   rw[Sem.run_bind,e1,run_convert_bytes_string w s t e _ _ _ hs he hstr,hrun]
   rfl
  ·cases ht
 ·cases ht
theorem byI_rep :∀l:List Int,ARepL w F ι ((l.map byI).map .imm) (l.map (Value.int .u8))
 |[]=>by rw[List.map_nil,List.map_nil,List.map_nil,ARepL]
 |n::l=>by rw[List.map_cons,List.map_cons,List.map_cons,ARepL];exact⟨_,_,rfl,by rw[ARep,byI,IRep];exact⟨rfl,rfl⟩,byI_rep l⟩
theorem goes_copy (hR:Rel K ι F σ a w){o:Oper}{t0 t1:TypeId}{x y:Operand}(ho:o.op=.call {callee:=.builtin .copy,args:=#[x,y],argTypes:=#[t0,t1]})(hd:∀i,o.dst=some i→i<σ.m)(hK:∀i,K i→K' i)
  {e id off n ty:Nat}{x0:AVal}{cs:List AVal}{l:List Int}(hsl:tsl P t0=some (e,1))(hx:σ.ev x=.win id off n)(hb:boxOf (σ.s id)=some (ty,x0))(hcs:acells x0=some cs)
  (hnews:asrc σ 1 (σ.ev y)=some (l.map byI))(hn:l.length=n)(hle:off+n≤cs.length):
  Goes P o a w K ι F σ K' (σ.app o.dst ⟨.imm (.v (.int .i64 n)),[(id,some (putB (.agg (cs.take off++(l.map byI).map .imm++cs.drop (off+n))) (σ.s id)))]⟩):=by
 obtain⟨hu,inf,hinf,hks⟩:=tsl_spec hsl
 obtain⟨hx1,hx2⟩:=hR.ev x
 obtain⟨hy1,hy2⟩:=hR.ev y
 rw[hx,ARep]at hx2
 obtain⟨cap,hxv,hcap⟩:=hx2
 obtain⟨e0,he0,p1,p2,p3,p4⟩:=boxOf_some hb
 obtain⟨g1,g2',gE⟩:=hR.ent id _ he0
 obtain⟨hnl,u,g3,g4⟩:=p1 _ _ _ _ gE
 have g2:=p3 _ g2'
 have q1:=acells_spec hcs g4
 have ql:=q1.length
 simp only[Array.length_toList]at ql
 obtain⟨cells,vs,hS⟩:=asrc_spec (P:=P) hR (by decide) hy1 hy2 hnews (fun d hd=>by obtain⟨m,_,rfl⟩:=List.mem_map.1 hd;rfl)
 have hsz:=hS.size
 rw[List.length_map,Nat.mul_one]at hsz
 have hcells:cells.toList=l.map (Value.int .u8):=by
  have:=bytes_lay hS.rep hS.lay
  rw[List.drop_zero,List.take_of_length_le (by simp[hsz])]at this
  exact this
 have h1:∀v∈l.map (Value.int .u8),v.oneCell'=true:=by
  intro v hv
  obtain⟨m,_,rfl⟩:=List.mem_map.1 hv
  rfl
 have hst:=run_stores (P:=P) (ι id).blk off ty (0,0) (l.map (Value.int .u8)) 0 u.cells w g3 (by intro j _;simp) (by simp;omega) h1
 obtain⟨c',hc'⟩:∃c':Array Value,c'=(u.cells.toList.take off++l.map (Value.int .u8)++u.cells.toList.drop (off+n)).toArray:=⟨_,rfl⟩
 have hrun:(execOp a.eval o).run P w=.ok (.value (.int .i64 n)) (w.setRow (ι id).blk c'):=by
  have e1:=hS.len w
  have e2:=hS.runs w rfl
  rw[List.length_map,hn]at e1 e2
  simp only[List.length_map,hn,Nat.add_zero]at hst
  simp[execOp,ho,resolve,invoke,builtin,Builtin.copy_,run_underlying hu,hxv,e1,sizeOf,typeInfo,hinf,hks,e2,hcells,hst,goInt,hc']
 have hkeep:Keeps F w (w.setRow (ι id).blk c'):=fun cl b hb=>setRow_other _ _ _ _ (fun e'=>hR.off _ ⟨id,_,he0,hnl,rfl⟩ cl (e' ▸ hb))
 have hin:AIn K (.agg (cs.take off++(l.map byI).map .imm++cs.drop (off+n))):=by
  rw[AIn]
  exact(((acells_in hcs g2).take _).append (AInL.imm _)).append ((acells_in hcs g2).drop _)
 have hrep:ARep w F ι (.agg (cs.take off++(l.map byI).map .imm++cs.drop (off+n))) (.agg c'):=by
  rw[ARep,hc']
  exact⟨_,rfl,by simpa using((q1.take off).append (byI_rep l)).append (q1.drop (off+n))⟩
 obtain⟨r1,r2⟩:=hR.write id _ (putB (.agg (cs.take off++(l.map byI).map .imm++cs.drop (off+n))) (σ.s id)) he0 hnl c' (p4 _ _ hin)
  (p2 _ _ _ _ _ _ _ _ gE ⟨.agg c',setRow_heap w _ _ _ _ _ g3,ARep.keep hkeep (fun _ _ hb=>hb) (fun _ _=>rfl) _ _ hin hrep⟩)
 exact Goes.of (σ1:={σ with s:=ups σ.s [(id,some (putB (.agg (cs.take off++(l.map byI).map .imm++cs.drop (off+n))) (σ.s id)))]}) hrun hd rfl ⟨ι,F,r1.mono hK,r2.more hK,by rw[AIn];trivial,by rw[ARep,IRep];exact⟨rfl,rfl⟩⟩
end
end Go.Abs
namespace Go.Abs
open Go.RowKit
variable {P:Program}
def isPtr :AVal→Bool
 |.ptr _ _=>true
 |.rptr _ _ _ _=>true
 |.ref _ _ _=>true
 |.fn _ _ _=>true
 |_=>false
def oneVal :AVal→Option Value
 |.imm (.v x)=>some x
 |_=>none
def aBinOp (P:Program)(op:BinOp)(t:TypeId)(x y:AVal):Option AVal:=
 match oneVal x,oneVal y with
 |some u,some v=>(abin P op t u v).map fun r=>.imm (.v r)
 |_,_=>
  if op=.eql∨op=.neq then
   match leafs P 20 t,tld P t,acells x,acells y with
   |some l,some (true,n),some cx,some cy=>
    if P.eqGuardType P.depth t=false∧ashape x=some (true,n)∧ashape y=some (true,n)then
     match valsL cx,valsL cy with
     |some xs,some ys=>if fits l xs=true∧fits l ys=true then some (.imm (.v (.bool (if op=.neq then !eqvL xs ys else eqvL xs ys))))else none
     |_,_=>none
    else none
   |_,_,_,_=>none
  else none
def cellsOk :List IVal→Bool
 |[]=>true
 |d::ds=>(icells d).isSome&&cellsOk ds
theorem cellsOk_spec :∀{es:List IVal},cellsOk es=true→∀d∈es,(icells d).isSome=true
 |[],_,d,hd=>by simp at hd
 |e::es,h,d,hd=>by
  simp only[cellsOk,Bool.and_eq_true]at h
  rcases List.mem_cons.1 hd with rfl|hd
  ·exact h.1
  ·exact cellsOk_spec h.2 d hd
theorem cellsOk_map {α:Type}(f:α→IVal)(h:∀x,(icells (f x)).isSome=true)(l:List α):cellsOk (l.map f)=true:=by
 induction l with
 |nil=>rfl
 |cons x l ih=>simp[cellsOk,ih,h]
def wide (k:Nat):List IVal→Bool
 |[]=>true
 |d::ds=>decide ((ishape d).map (·.2)=some k)&&wide k ds
theorem wide_spec :∀{k:Nat}{es:List IVal},wide k es=true→es.all (fun d=>(ishape d).map (·.2)=some k)=true
 |k,[],_=>rfl
 |k,d::ds,h=>by
  simp only[wide,Bool.and_eq_true,decide_eq_true_eq]at h
  simp only[List.all_cons,Bool.and_eq_true,decide_eq_true_eq]
  exact⟨h.1,wide_spec h.2⟩
def aappend (P:Program)(fz:Bool)(j:Nat)(σ:AState)(t0 t1:TypeId)(s x:AVal):Option AEff:=
 match tsl P t0 with
 |some (e,k)=>match asrc σ k x with
  |some news=>if tsrc P t1=true∧tel P e k=true∧cellsOk news=true then
    match s with
    |.own id n=>match σ.s id with
     |some (.row e' k' es)=>if e'=e∧k'=k∧es.length=n∧cellsOk es=true∧n+news.length≤lim then
       (if fz then some ⟨.imm (.sl true false k (es++news)),[(id,none),(j,some (.row e k (es++news))),(j,none)]⟩
        else some ⟨.own j (n+news.length),[(id,none),(j,some (.row e k (es++news)))]⟩)else none
     |_=>none
    |.imm (.v (.slice none 0 0))=>if news.length≤lim then
      (if fz then some ⟨.imm (.sl true false k news),[(j,some (.row e k news)),(j,none)]⟩else some ⟨.own j news.length,[(j,some (.row e k news))]⟩)else none
    |.imm (.sl c true k' es)=>if k'=k∧cellsOk es=true∧es.length+news.length≤lim then some ⟨.imm (.sl (c||es.isEmpty) false k (es++news)),[]⟩else none
    |_=>none
   else none
  |none=>none
 |none=>none
def aNilOp (P:Program)(op:BinOp)(t:TypeId)(x y:AVal):Option AVal:=
 match op with
 |.eql=>if tlen P t=some true then aNil x y else none
 |_=>none
def aevOp (P:Program)(fz:Bool)(j:Nat)(σ:AState):Op→Option AEff
 |.move x=>some ⟨σ.ev x,[]⟩
 |.assign x=>some ⟨σ.ev x,[]⟩
 |.pick c x y=>match oneVal (σ.ev c)with
  |some (.bool t)=>some ⟨sel t (σ.ev x) (σ.ev y),[]⟩
  |_=>none
 |.box ty x=>some ⟨.ptr j 0,[(j,some (.box ty (σ.ev x)))]⟩
 |.alloc ty=>match tz P ty with
  |some x=>some ⟨.ptr j 0,[(j,some (.box ty x))]⟩
  |none=>none
 |.nilCheck x=>if isPtr (σ.ev x)=true then some ⟨σ.ev x,[]⟩else none
 |.load t x=>match aload P σ t (σ.ev x)with
  |some y=>some ⟨y,[]⟩
  |none=>none
 |.store t x y=>match astore P σ t (σ.ev x) (σ.ev y)with
  |some (id,e)=>some ⟨.any,[(id,some e)]⟩
  |none=>none
 |.fieldAddr s x f=>match afld P s f (σ.ev x)with
  |some y=>some ⟨y,[]⟩
  |none=>none
 |.indexAddr t x ix=>match oneVal (σ.ev ix)with
  |some (.int _ n)=>if 0≤n then(match aidx P t (σ.ev x) n.toNat with
   |some y=>some ⟨y,[]⟩
   |none=>none)else none
  |_=>none
 |.field s x f=>match afield P s f (σ.ev x)with
  |some y=>some ⟨y,[]⟩
  |none=>none
 |.extract x i=>match aext (σ.ev x) i with
  |some y=>some ⟨y,[]⟩
  |none=>none
 |.makeFunc (.func f) fs cs=>some ⟨.fn f (fs.toList.map σ.ev) (cs.toList.map σ.ev),[]⟩
 |.makeInterface t x=>match amkI P t (σ.ev x)with
  |some y=>some ⟨y,[]⟩
  |none=>none
 |.typeAssert x _ t ok=>match atas P t ok (σ.ev x)with
  |some y=>some ⟨y,[]⟩
  |none=>none
 |.build t parts=>match abuild P t (parts.toList.map fun p=>(p.1,σ.ev p.2))with
  |some y=>some ⟨y,[]⟩
  |none=>none
 |.buildSlice t len parts=>match tsl P t,aimmL (parts.toList.map fun p=>σ.ev p.2)with
  |some (e,k),some es=>if 0<k∧(tz P e).isSome=true∧parts.toList.map (·.1)=List.range len∧len*k≤2^24∧wide k es=true then
    (if fz then(if len=0 then some ⟨.imm (.sl true true k []),[(j,some (.row e k [])),(j,none)]⟩else some ⟨.imm (.sl true true k es),[(j,some (.row e k es)),(j,none)]⟩)else some ⟨.own j len,[(j,some (.row e k es))]⟩)else none
  |_,_=>none
 |.binOp op t x y _=>match aNilOp P op t (σ.ev x) (σ.ev y)with
  |some r=>some ⟨r,[]⟩
  |none=>match aBinOp P op t (σ.ev x) (σ.ev y)with
   |some y=>some ⟨y,[]⟩
   |none=>none
 |.unOp op _ x=>match oneVal (σ.ev x)with
  |some u=>match aun op u with
   |some r=>some ⟨.imm (.v r),[]⟩
   |none=>none
  |none=>none
 |.convert s t x=>match oneVal (σ.ev x),tint P t with
  |some (.int _ n),some k=>if(P.underlying s).isSome=true then some ⟨.imm (.v (.int k (k.wrap n))),[]⟩else none
  |_,_=>none
 |.makeMap _ none=>some ⟨.mp j,[(j,some (.map []))]⟩
 |.makeSlice t l c=>match tsl P t,oneVal (σ.ev l)with
  |some (e,k),some (.int kl n)=>match tzb P e,oneVal (σ.ev c)with
   |some (d,by'),some (.int kc n')=>if n'=n∧0<k∧(ishape d).map (·.2)=some k∧0≤n∧(by':Int)*n≤281474976710656∧n≤9223372036854775807 then
     (if fz then some ⟨.imm (.sl true false k (List.replicate n.toNat d)),[(j,some (.row e k (List.replicate n.toNat d))),(j,none)]⟩else some ⟨.own j n.toNat,[(j,some (.row e k (List.replicate n.toNat d)))]⟩)else none
   |_,_=>none
  |_,_=>none
 |.insert t m k x=>match tmap P t,oneVal (σ.ev k),σ.ev m with
  |some (kd,_),some (.int kd' n),.mp id=>match σ.s id with
   |some (.map kvs)=>if kd'=kd∧keysOk kd (kvs.map (·.1))=true∧keyNew n (kvs.map (·.1))=true then some ⟨.any,[(id,some (.map (kvs++[(.int kd n,σ.ev x)])))]⟩else none
   |_=>none
  |_,_,_=>none
 |.slice t x lo hi mx=>match bnd σ lo,bnd σ hi,bnd σ mx with
  |some l,some h,some m=>if(mx.isSome=true→hi.isSome=true)∧(m.isSome=true→h.isSome=true)then
    match σ.ev x with
    |.own id n=>match σ.s id,tsl P t with
     |some (.row e k es),some (_,k')=>if fz=false∧mx.isNone=true∧k'=k∧es.length=n∧l.getD 0≤h.getD n∧h.getD n≤n then
       some ⟨.own j (h.getD n-l.getD 0),[(id,none),(j,some (.row e k ((es.take (h.getD n)).drop (l.getD 0))))]⟩else none
     |_,_=>none
    |y=>match aslice P t y l h m with
     |some z=>some ⟨z,[]⟩
     |none=>none
   else none
  |_,_,_=>none
 |.call c=>match c with
  |{callee:=.builtin .len,args:=⟨[x]⟩,argTypes:=⟨[t]⟩}=>match alen (σ.ev x)with
   |some n=>if tlen P t=some (!isStr (σ.ev x))then some ⟨.imm (.v (.int .i64 n)),[]⟩else none
   |none=>none
  |{callee:=.builtin .append,args:=⟨[s,x]⟩,argTypes:=⟨[t0,t1]⟩}=>aappend P fz j σ t0 t1 (σ.ev s) (σ.ev x)
  |{callee:=.builtin b,args:=⟨[x,y]⟩,argTypes:=_}=>match oneVal (σ.ev x),oneVal (σ.ev y)with
   |some u,some v=>match amax b u v with
    |some r=>some ⟨.imm (.v r),[]⟩
    |none=>none
   |_,_=>none
  |_=>none
 |_=>none
section
variable {K K':Nat→Prop} {ι ι':Nat→Loc} {F F':Foot} {σ σ':AState} {a a':Act} {w w':World}
theorem oneVal_spec {x:AVal}{u:Value}(h:oneVal x=some u):x=.imm (.v u):=by
 unfold oneVal at h
 split at h
 ·simp only[Option.some.injEq]at h;subst h;rfl
 ·cases h
theorem goes_ev (hR:Rel K ι F σ a w){o:Oper}{fz:Bool}{j:Nat}{E:AEff}(hj:¬K j)(hd:∀i,o.dst=some i→i<σ.m)(h:aevOp P fz j σ o.op=some E):
  Goes P o a w K ι F σ (fun i=>K i∨i=j) (σ.app o.dst E):=by
 have hK:∀i,K i→(fun i=>K i∨i=j) i:=fun i hi=>.inl hi
 have hjs:σ.s j=none:=by
  cases hs:σ.s j with
  |none=>rfl
  |some e=>exact absurd (hR.ent j e hs).1 hj
 cases ho:o.op with
 |move x=>rw[ho]at h;simp only[aevOp,Option.some.injEq]at h;subst h;exact goes_move hR (.inl ho) hd hK
 |assign x=>rw[ho]at h;simp only[aevOp,Option.some.injEq]at h;subst h;exact goes_move hR (.inr ho) hd hK
 |pick c x y=>
  rw[ho]at h;simp only[aevOp]at h
  split at h
  ·rename_i t ht;simp only[Option.some.injEq]at h;subst h;exact goes_pick hR ho hd hK (oneVal_spec ht)
  ·cases h
 |box ty x=>rw[ho]at h;simp only[aevOp,Option.some.injEq]at h;subst h;exact goes_box hR ho j hj hd
 |alloc ty=>
  rw[ho]at h;simp only[aevOp]at h
  split at h
  ·rename_i x hx;simp only[Option.some.injEq]at h;subst h;exact goes_alloc hR ho j hj hd hx
  ·cases h
 |nilCheck x=>
  rw[ho]at h;simp only[aevOp]at h
  split at h
  ·rename_i hp;simp only[Option.some.injEq]at h;subst h
   refine goes_nilCheck hR ho hd hK ?_
   unfold isPtr at hp
   split at hp<;>simp_all
  ·cases h
 |load t x=>
  rw[ho]at h;simp only[aevOp]at h
  split at h
  ·rename_i y hy;simp only[Option.some.injEq]at h;subst h;exact goes_load hR ho hd hK hy
  ·cases h
 |store t x y=>
  rw[ho]at h;simp only[aevOp]at h
  split at h
  ·rename_i id e hy;simp only[Option.some.injEq]at h;subst h;exact goes_store hR ho hd hK hy
  ·cases h
 |fieldAddr s x f=>
  rw[ho]at h;simp only[aevOp]at h
  split at h
  ·rename_i y hy;simp only[Option.some.injEq]at h;subst h;exact goes_fieldAddr hR ho hd hK hy
  ·cases h
 |indexAddr t x ix=>
  rw[ho]at h;simp only[aevOp]at h
  split at h
  ·rename_i k n hn
   split at h
   ·rename_i h0
    split at h
    ·rename_i y hy;simp only[Option.some.injEq]at h;subst h;exact goes_indexAddr hR ho hd hK (oneVal_spec hn) h0 hy
    ·cases h
   ·cases h
  ·cases h
 |field s x f=>
  rw[ho]at h;simp only[aevOp]at h
  split at h
  ·rename_i y hy;simp only[Option.some.injEq]at h;subst h;exact goes_field hR ho hd hK hy
  ·cases h
 |extract x i=>
  rw[ho]at h;simp only[aevOp]at h
  split at h
  ·rename_i y hy;simp only[Option.some.injEq]at h;subst h;exact goes_extract hR ho hd hK hy
  ·cases h
 |makeFunc fn fs cs=>
  rw[ho]at h
  cases fn with
  |func f=>simp only[aevOp,Option.some.injEq]at h;subst h;exact goes_makeFunc hR ho hd hK
  |_=>simp[aevOp]at h
 |makeInterface t x=>
  rw[ho]at h;simp only[aevOp]at h
  split at h
  ·rename_i y hy;simp only[Option.some.injEq]at h;subst h;exact goes_makeInterface hR ho hd hK hy
  ·cases h
 |typeAssert x s t ok=>
  rw[ho]at h;simp only[aevOp]at h
  split at h
  ·rename_i y hy;simp only[Option.some.injEq]at h;subst h;exact goes_typeAssert hR ho hd hK hy
  ·cases h
 |build t parts=>
  rw[ho]at h;simp only[aevOp]at h
  split at h
  ·rename_i y hy;simp only[Option.some.injEq]at h;subst h;exact goes_build hR ho hd hK hy
  ·cases h
 |buildSlice t len parts=>
  rw[ho]at h;simp only[aevOp]at h
  split at h
  ·rename_i e k es hsl hes
   split at h
   ·rename_i hc
    obtain⟨c1,c2,c3,c4,c5⟩:=hc
    have hg:=goes_buildSlice hR ho j hj hd hsl c1 c2 c3 c4 hes (wide_spec c5)
    split at h
    ·split at h
     ·rename_i hl0
      subst hl0
      simp only[Option.some.injEq]at h;subst h
      exact goes_buildNil hR ho j hj hd hsl c1 c2 c3 c4 hes (wide_spec c5)
     simp only[Option.some.injEq]at h;subst h
     exact goes_buildFull hR ho j hj hd hsl c1 c2 c3 c4 hes (wide_spec c5)
    ·simp only[Option.some.injEq]at h;subst h;exact hg
   ·cases h
  ·cases h
 |binOp op t x y t'=>
  rw[ho]at h;simp only[aevOp]at h
  split at h
  ·rename_i r hr
   simp only[Option.some.injEq]at h;subst h
   unfold aNilOp at hr
   split at hr
   ·split at hr
    ·rename_i ht;exact goes_eqNil hR ho hd hK ht hr
    ·cases hr
   ·cases hr
  rename_i hnn
  clear hnn
  split at h
  ·rename_i r hr
   simp only[Option.some.injEq]at h;subst h
   unfold aBinOp at hr
   split at hr
   ·rename_i u v hu hv
    simp only[Option.map_eq_some_iff]at hr
    obtain⟨r',h1,rfl⟩:=hr
    exact goes_binOp hR ho hd hK (oneVal_spec hu) (oneVal_spec hv) h1
   ·split at hr
    ·rename_i hop
     split at hr
     ·rename_i l n cx cy hl ht hcx hcy
      split at hr
      ·rename_i hc
       obtain⟨c1,c2,c3⟩:=hc
       split at hr
       ·rename_i xs ys hxs hys
        split at hr
        ·rename_i hf
         simp only[Option.some.injEq]at hr;subst hr
         rcases hop with rfl|rfl
         ·have:=goes_eqStruct hR (neg:=false) (by simpa using ho) hd hK hl c1 ht c2 c3 hcx hcy hxs hys hf.1 hf.2
          simpa using this
         ·have:=goes_eqStruct hR (neg:=true) (by simpa using ho) hd hK hl c1 ht c2 c3 hcx hcy hxs hys hf.1 hf.2
          simpa using this
        ·cases hr
       ·cases hr
      ·cases hr
     ·cases hr
    ·cases hr
  ·cases h
 |unOp op t x=>
  rw[ho]at h;simp only[aevOp]at h
  split at h
  ·rename_i u hu
   split at h
   ·rename_i r hr;simp only[Option.some.injEq]at h;subst h;exact goes_unOp hR ho hd hK (oneVal_spec hu) hr
   ·cases h
  ·cases h
 |convert s t x=>
  rw[ho]at h;simp only[aevOp]at h
  split at h
  ·rename_i k0 n k hn hk
   split at h
   ·rename_i hs;simp only[Option.some.injEq]at h;subst h;exact goes_convInt hR ho hd hK (oneVal_spec hn) hs hk
   ·cases h
  ·cases h
 |makeMap t h0=>
  rw[ho]at h
  cases h0 with
  |none=>simp only[aevOp,Option.some.injEq]at h;subst h;exact goes_makeMap hR ho j hj hd
  |some _=>simp[aevOp]at h
 |makeSlice t l c=>
  rw[ho]at h;simp only[aevOp]at h
  split at h
  ·rename_i e k kl n hsl hn
   split at h
   ·rename_i d by' kc n' hz hn'
    split at h
    ·rename_i hc
     obtain⟨rfl,c2,c3,c4,c5,c6⟩:=hc
     have hg:=goes_makeSlice hR ho j hj hd hsl c2 hz c3 c4 c5 c6 (oneVal_spec hn) (oneVal_spec hn')
     split at h
     ·simp only[Option.some.injEq]at h;subst h
      exact Goes.frozen (ty:=e) (k:=k) hd (by simp) (by simp[ups]) hg
     ·simp only[Option.some.injEq]at h;subst h;exact hg
    ·cases h
   ·cases h
  ·cases h
 |insert t m k x=>
  rw[ho]at h;simp only[aevOp]at h
  split at h
  ·rename_i kd et kd' n id ht hk hm
   split at h
   ·rename_i kvs he
    split at h
    ·rename_i hc
     obtain⟨rfl,c2,c3⟩:=hc
     simp only[Option.some.injEq]at h;subst h
     exact goes_insert hR ho hd hK ht (oneVal_spec hk) hm he c2 c3
    ·cases h
   ·cases h
  ·cases h
 |slice t x lo hi mx=>
  rw[ho]at h;simp only[aevOp]at h
  split at h
  ·rename_i l hh m hl hhi hm
   split at h
   ·rename_i hc
    split at h
    ·rename_i id n hx
     split at h
     ·rename_i e k es e' k' he hsl
      split at h
      ·rename_i hc2
       obtain⟨_,c1,rfl,c3,c4,c5⟩:=hc2
       simp only[Option.some.injEq]at h;subst h
       have hmx:mx=none:=by simpa using c1
       subst hmx
       exact goes_slice_own hR ho hd j hj hl hhi hx he c3 ⟨e',hsl⟩ c4 c5
      ·cases h
     ·cases h
    ·split at h
     ·rename_i z hz;simp only[Option.some.injEq]at h;subst h
      exact goes_slice hR ho hd hK hl hhi hm hc.1 hc.2 hz
     ·cases h
   ·cases h
  ·cases h
 |call c=>
  rw[ho]at h;simp only[aevOp]at h
  split at h
  ·rename_i x t
   split at h
   ·rename_i n hn
    split at h
    ·rename_i ht;simp only[Option.some.injEq]at h;subst h;exact goes_len hR ho hd hK ht hn
    ·cases h
   ·cases h
  ·rename_i s x t0 t1
   unfold aappend at h
   split at h
   ·rename_i e k hsl
    split at h
    ·rename_i news hsrc
     split at h
     ·rename_i hc
      obtain⟨c1,c2,c3⟩:=hc
      split at h
      ·rename_i id n hs
       split at h
       ·rename_i e' k' es he
        split at h
        ·rename_i hc2
         obtain⟨rfl,rfl,d3,d4,d5⟩:=hc2
         have hg:=goes_append_own hR ho hd j hj hs he d3 hsl c1 c2 hsrc (cellsOk_spec d4) (cellsOk_spec c3) d5
         split at h
         ·simp only[Option.some.injEq]at h;subst h
          have hji:¬j=id:=fun hh=>hj (hh ▸ (hR.ent id _ he).1)
          exact Goes.frozen (ty:=e') (k:=k') hd (by simp[d3]) (by simp[ups]) hg
         ·simp only[Option.some.injEq]at h;subst h;exact hg
        ·cases h
       ·cases h
      ·rename_i hs
       split at h
       ·rename_i hlim
        have hg:=goes_append_nil hR ho hd j hj hs hsl c1 c2 hsrc (cellsOk_spec c3) hlim
        split at h
        ·simp only[Option.some.injEq]at h;subst h;exact Goes.frozen (ty:=e) (k:=k) hd rfl (by simp[ups]) hg
        ·simp only[Option.some.injEq]at h;subst h;exact hg
       ·cases h
      ·rename_i c' k' es hs
       split at h
       ·rename_i hc2
        obtain⟨rfl,d2,d3⟩:=hc2
        simp only[Option.some.injEq]at h;subst h
        exact goes_append_full hR ho hd j hj hjs hs hsl c1 c2 hsrc (cellsOk_spec d2) (cellsOk_spec c3) d3
       ·cases h
      ·cases h
     ·cases h
    ·cases h
   ·cases h
  ·rename_i b x y ts _ _
   split at h
   ·rename_i u v hu hv
    split at h
    ·rename_i r hr;simp only[Option.some.injEq]at h;subst h;exact goes_max hR ho hd hK (oneVal_spec hu) (oneVal_spec hv) hr
    ·cases h
   ·cases h
  ·cases h
 |_=>rw[ho]at h;simp[aevOp]at h
end
end Go.Abs
namespace Go.Abs
open Go.RowKit
variable {P:Program}
mutual
inductive ILe :IVal→IVal→Prop
 |refl (d:IVal):ILe d d
 |nil (c f:Bool) (k:Nat):ILe (.v (.slice none 0 0)) (.sl c f k [])
 |sl {c f c' f':Bool} {k:Nat} {es es':List IVal}:(c'=true→c=true)→(f'=true→f=true)→ILeL es es'→ILe (.sl c f k es) (.sl c' f' k es')
 |agg {ds ds':List IVal}:ILeL ds ds'→ILe (.agg ds) (.agg ds')
 |tup {ds ds':List IVal}:ILeL ds ds'→ILe (.tup ds) (.tup ds')
inductive ILeL :List IVal→List IVal→Prop
 |refl (ds:List IVal):ILeL ds ds
 |cons {d d':IVal} {ds ds':List IVal}:ILe d d'→ILeL ds ds'→ILeL (d::ds) (d'::ds')
end
theorem col_le {F:Foot}(hc:∀b,F true b→F false b){c c':Bool}(h:c'=true→c=true){b:Nat}(hb:F c b):F c' b:=by
 cases c' with
 |true=>rw[h rfl]at hb;exact hb
 |false=>cases c with
  |true=>exact hc b hb
  |false=>exact hb
theorem ILe.one {d d':IVal}(h:ILe d d'):ione d=ione d':=by cases h<;>rfl
mutual
theorem ILe.rep {w:World}{F:Foot}(hc:∀b,F true b→F false b):∀{d d':IVal}{u:Value},ILe d d'→IRep w F d u→IRep w F d' u
 |_,_,_,.refl _,h=>h
 |_,_,_,.nil c f k,h=>by
  rw[IRep]at*
  exact⟨none,0,h.1,by simp,by simp,fun hne=>absurd rfl hne⟩
 |_,_,_,.sl h1 h2 h3,h=>by
  rw[IRep]at*
  obtain⟨ad,cap,e1,e2,e3,e4⟩:=h
  have hl:=h3.length
  refine⟨ad,cap,by rw[←hl];exact e1,fun hf=>by rw[←hl];exact e2 (h2 hf),by rw[←hl];exact e3,fun hne=>?_⟩
  obtain⟨b,off,cs,ty,fr,vs,g1,g2,g3,g4,g5⟩:=e4 (by rintro rfl;exact hne (List.length_eq_zero_iff.1 hl.symm))
  refine⟨b,off,cs,ty,fr,vs,g1,?_,g3,ILeL.rep hc h3 g4,g5⟩
  exact col_le hc h1 g2
 |_,_,_,.agg h1,h=>by
  rw[IRep]at*
  obtain⟨vs,e1,e2,e3⟩:=h
  exact⟨vs,e1,ILeL.rep hc h1 e2,by rw[←h1.ones];exact e3⟩
 |_,_,_,.tup h1,h=>by
  rw[IRep]at*
  obtain⟨vs,e1,e2⟩:=h
  exact⟨vs,e1,ILeL.rep hc h1 e2⟩
theorem ILeL.rep {w:World}{F:Foot}(hc:∀b,F true b→F false b):∀{ds ds':List IVal}{us:List Value},ILeL ds ds'→IRepL w F ds us→IRepL w F ds' us
 |_,_,_,.refl _,h=>h
 |_,_,_,.cons h1 h2,h=>by
  rw[IRepL]at*
  obtain⟨u,us',e,h3,h4⟩:=h
  exact⟨u,us',e,ILe.rep hc h1 h3,ILeL.rep hc h2 h4⟩
theorem ILeL.length :∀{ds ds':List IVal},ILeL ds ds'→ds.length=ds'.length
 |_,_,.refl _=>rfl
 |_,_,.cons _ h2=>by simp[ILeL.length h2]
theorem ILeL.ones :∀{ds ds':List IVal},ILeL ds ds'→ds.all ione=ds'.all ione
 |_,_,.refl _=>rfl
 |_,_,.cons h1 h2=>by simp[ILeL.ones h2,h1.one]
end
def callable (P:Program)(f:FuncId):Bool:=
 match P.funcs[f]? with
 |some fn=>fn.name != "runtime.NumGoroutine" &&fn.body.isSome
 |none=>false
def ASpec (P:Program)(f:FuncId)(args:List IVal)(r:IVal):Prop:=
 callable P f=true∧∀(w:World)(F:Foot)(vs:Array Value),(∀c b,F c b→b<w.heap.size)→(∀b,F true b→F false b)→IRepL w F args vs.toList→
  Calls P f vs w fun e w'=>∃v F',e=.returned v∧Below w.heap.size w w'∧(∀c b,F c b→F' c b)∧(∀c b,F' c b→F c b∨w.heap.size≤b)∧(∀c b,F' c b→b<w'.heap.size)∧(∀b,F' true b→F' false b)∧IRep w' F' r v
section
variable {K K':Nat→Prop} {ι ι':Nat→Loc} {F F':Foot} {σ σ':AState} {a a':Act} {w w':World}
theorem Rel.grow (hR:Rel K ι F σ a w)(hb:Below w.heap.size w w'){F1:Foot}(hm:∀c b,F c b→F1 c b)(hs:∀c b,F1 c b→F c b∨w.heap.size≤b)(hl:∀c b,F1 c b→b<w'.heap.size)(hc:∀b,F1 true b→F1 false b):
  Rel K ι F1 σ a w'∧Ext K ι F σ w K ι F1 σ w':=by
 have hkeep:Keeps F w w':=fun c b h=>hb.block b (hR.foot c b h)
 refine⟨⟨hR.size,fun i=>⟨(hR.tmp i).1,ARep.keep hkeep hm (fun _ _=>rfl) _ _ (hR.tmp i).1 (hR.tmp i).2⟩,
  fun id e he=>⟨(hR.ent id e he).1,(hR.ent id e he).2.1,ERep.keep hkeep hm (fun _ _=>rfl) (fun hn=>hb.block _ ((hR.ent id e he).2.2.lt hn)) e (hR.ent id e he).2.1 (hR.ent id e he).2.2⟩,
  fun b ho c hF=>?_,hR.sep,hl,hc⟩,⟨hb.os,hb.tape,hb.output,hb.size,fun b hlt _=>hb.block b hlt,fun _ h=>.inl h,hm,fun c b h=>(hs c b h).elim .inl (fun h=>.inr (.inl h)),fun _ _=>rfl,fun _ h=>h⟩⟩
 rcases hs c b hF with h|h
 ·exact hR.off b ho c h
 ·have:=hR.owned_lt ho;omega
def XSpec (P:Program)(f:FuncId)(ds:List IVal)(r:IVal):Prop:=
 ∀(w:World)(F:Foot)(vs:Array Value),IRepL w F ds vs.toList→∃u,(callFunc f vs).run P w=.ok (.value u) w∧IRep w F r u
theorem exec_callX {o:Oper}{fo:Operand}{args:Array Operand}{tys:Array TypeId}{f:FuncId}{va vc:Array Value}{u:Value}(ho:o.op=.call {callee:=.value fo,args,argTypes:=tys})(hf:a.eval fo=.func (.func f) va vc)(hc:(callFunc f (va++args.map a.eval++vc)).run P w=.ok (.value u) w):
  (execOp a.eval o).run P w=.ok (.value u) w:=by
 rw[Array.append_assoc]at hc
 simp[execOp,ho,resolve,hf,Deferred.ofValue,invoke,hc]
theorem exec_call {o:Oper}{fo:Operand}{args:Array Operand}{tys:Array TypeId}{f:FuncId}{va vc:Array Value}(ho:o.op=.call {callee:=.value fo,args,argTypes:=tys})(hf:a.eval fo=.func (.func f) va vc)(hc:callable P f=true):
  (execOp a.eval o).run P w=.ok (.enter f (va++args.map a.eval++vc)) w:=by
 unfold callable at hc
 split at hc
 ·rename_i fn hfn
  simp only[Bool.and_eq_true,bne_iff_ne,ne_eq]at hc
  obtain⟨b,hb⟩:=Option.isSome_iff_exists.1 hc.2
  simp[execOp,ho,resolve,hf,Deferred.ofValue,invoke,callFunc,hfn,hc.1,hb]
 ·cases hc
def iflat :IVal→Bool
 |.v _=>true
 |.tup ds=>ds.all fun|.v _=>true|_=>false
 |_=>false
theorem iflat_rep {w w':World}{F F':Foot}{d:IVal}{u:Value}(h:iflat d=true)(hr:IRep w F d u):IRep w' F' d u:=by
 cases d with
 |v x=>rw[IRep]at*;exact hr
 |tup ds=>
  rw[IRep]at*
  obtain⟨vs,e1,e2⟩:=hr
  refine⟨vs,e1,?_⟩
  have key:∀(ds:List IVal)(us:List Value),(ds.all fun|.v _=>true|_=>false)=true→IRepL w F ds us→IRepL w' F' ds us:=by
   intro ds
   induction ds with
   |nil=>intro us _ h;rw[IRepL]at*;exact h
   |cons d ds ih=>
    intro us hall h
    simp only[List.all_cons,Bool.and_eq_true]at hall
    rw[IRepL]at*
    obtain⟨u,us',e,h1,h2⟩:=h
    refine⟨u,us',e,?_,ih us' hall.2 h2⟩
    cases d<;>simp at hall
    rw[IRep]at*;exact h1
  exact key ds _ (by simpa[iflat]using h) e2
 |_=>cases h
mutual
def alend (σ:AState):AVal→Option IVal
 |.imm d=>some d
 |.own id n=>match σ.s id with
  |some (.row _ k es)=>if es.length=n then some (.sl false false k es)else none
  |_=>none
 |.win id off n=>match σ.s id with
  |some (.box _ x)=>match acells x with
   |some cs=>if off+n≤cs.length then(match aimmL ((cs.drop off).take n)with|some ds=>if ds.all ione=true then some (.sl false false 1 ds)else none|none=>none)else none
   |none=>none
  |_=>none
 |.agg cs=>match alendL σ cs with
  |some ds=>if ds.all ione=true then some (.agg ds)else none
  |none=>none
 |_=>none
def alendL (σ:AState):List AVal→Option (List IVal)
 |[]=>some []
 |x::xs=>match alend σ x,alendL σ xs with
  |some d,some ds=>some (d::ds)
  |_,_=>none
end
def Lent (F:Foot)(ι:Nat→Loc)(σ:AState):Foot:=fun c b=>F c b∨(c=false∧Owned ι σ b)
mutual
theorem alend_spec (hR:Rel K ι F σ a w):∀{x:AVal}{d:IVal}{u:Value},alend σ x=some d→ARep w F ι x u→IRep w (Lent F ι σ) d u
 |.imm d',d,u,h,hr=>by
  simp only[alend,Option.some.injEq]at h;subst h;rw[ARep]at hr
  exact IRep.keep (w:=w) (fun _ _ _=>rfl) (fun _ _ hb=>.inl hb) _ _ hr
 |.own id n,d,u,h,hr=>by
  rw[alend]at h
  split at h
  ·rename_i ty k es he
   split at h
   ·rename_i hn
    simp only[Option.some.injEq]at h;subst h
    rw[ARep]at hr
    obtain⟨e1,e2⟩:=hr
    obtain⟨_,_,hE⟩:=hR.ent id _ he
    rw[IRep]
    rcases hE with⟨hnil,rfl⟩|⟨hnn,c,fr,vs,h1,h2,h3,h4,h5,h6⟩
    ·exact⟨(ι id).z,0,by rw[e1,←hn];simp[Loc.val,hnil],by simp,by simp,fun hne=>absurd rfl hne⟩
    ·exact⟨some ⟨(ι id).blk,(ι id).off,none⟩,(ι id).cap,by rw[e1,←hn];simp[Loc.val,hnn],by simp,h4,fun _=>⟨_,_,c,ty,fr,vs,rfl,.inr ⟨rfl,id,_,he,hnn,rfl⟩,h1,h5.keep (w:=w) (fun _ _ _=>rfl) (fun _ _ hb=>.inl hb),h6⟩⟩
   ·cases h
  ·cases h
 |.win id off n,d,u,h,hr=>by
  rw[alend]at h
  split at h
  ·rename_i ty x he
   split at h
   ·rename_i cs hcs
    split at h
    ·rename_i hle
     split at h
     ·rename_i ds hds
      split at h
      ·rename_i hall
       simp only[Option.some.injEq]at h;subst h
       obtain⟨_,_,hn,v,g3,g4⟩:=hR.ent id _ he
       rw[ARep]at hr
       obtain⟨cap,e1,e2⟩:=hr
       have hc:=acells_spec hcs g4
       have hcl:=hc.length
       have hd:=aimmL_spec hds ((hc.drop off).take n)
       have hdl:=hd.length
       have hnl:ds.length=n:=by rw[←hdl];simp at hcl⊢;omega
       rw[IRep]
       refine⟨_,cap,by rw[hnl];exact e1,by simp,by rw[hnl];exact e2,fun hne=>⟨_,off,v.cells,ty,(0,0),_,rfl,.inr ⟨rfl,id,_,he,hn,rfl⟩,g3,hd.keep (w:=w) (fun _ _ _=>rfl) (fun _ _ hb=>.inl hb),?_⟩⟩
       have one:∀(i:Nat)(x:Value),((v.cells.toList.drop off).take n)[i]?=some x→x.cells.size=1∧x.cells[0]?=some x:=by
        intro i x hi
        have hil:i<ds.length:=by rw[←hdl];exact(List.getElem?_eq_some_iff.1 hi).1
        obtain⟨u',q1,q2⟩:=hd.at (List.getElem?_eq_getElem hil)
        rw[hi]at q1;simp only[Option.some.injEq]at q1;subst q1
        have:=ione_spec (List.all_eq_true.1 hall ds[i] (List.getElem_mem hil)) q2
        cases x<;>simp_all[Value.cells,Value.oneCell']
       refine Lay.of_cells _ off (fun x hx=>?_) (fun i x j hi hj=>?_) (by simp at hcl⊢;omega)
       ·obtain⟨i,hi⟩:=List.mem_iff_getElem?.1 hx
        exact(one i x hi).1
       ·obtain rfl:j=0:=by omega
        rw[(one i x hi).2,←hi,List.getElem?_take_of_lt (by have:=(List.getElem?_eq_some_iff.1 hi).1;simp at this;omega),List.getElem?_drop]
        simp
      ·cases h
     ·cases h
    ·cases h
   ·cases h
  ·cases h
 |.agg cs,d,u,h,hr=>by
  rw[alend]at h
  split at h
  ·rename_i ds hds
   split at h
   ·rename_i hall
    simp only[Option.some.injEq]at h;subst h
    rw[ARep]at hr;rw[IRep]
    obtain⟨vs,h1,h2⟩:=hr
    exact⟨vs,h1,alendL_spec hR hds h2,hall⟩
   ·cases h
  ·cases h
 |.any,_,_,h,_=>by simp[alend]at h
 |.ub _,_,_,h,_=>by simp[alend]at h
 |.ptr _ _,_,_,h,_=>by simp[alend]at h
 |.rptr _ _ _ _,_,_,h,_=>by simp[alend]at h
 |.ref _ _ _,_,_,h,_=>by simp[alend]at h
 |.mp _,_,_,h,_=>by simp[alend]at h
 |.tup _,_,_,h,_=>by simp[alend]at h
 |.fn _ _ _,_,_,h,_=>by simp[alend]at h
theorem alendL_spec (hR:Rel K ι F σ a w):∀{xs:List AVal}{ds:List IVal}{us:List Value},alendL σ xs=some ds→ARepL w F ι xs us→IRepL w (Lent F ι σ) ds us
 |[],ds,us,h,hr=>by rw[alendL]at h;simp only[Option.some.injEq]at h;subst h;rw[ARepL]at hr;rw[IRepL];exact hr
 |x::xs,ds,us,h,hr=>by
  rw[alendL]at h
  split at h
  ·rename_i d ds' h1 h2
   simp only[Option.some.injEq]at h;subst h
   rw[ARepL]at hr;rw[IRepL]
   obtain⟨u,us',e,h3,h4⟩:=hr
   exact⟨u,us',e,alend_spec hR h1 h3,alendL_spec hR h2 h4⟩
  ·cases h
end
theorem goes_call (hR:Rel K ι F σ a w){o:Oper}{fo:Operand}{args:Array Operand}{tys:Array TypeId}{f:FuncId}{fst cap:List AVal}{ds' ds:List IVal}{r:IVal}
  (ho:o.op=.call {callee:=.value fo,args,argTypes:=tys})(hd:∀i,o.dst=some i→i<σ.m)(hK:∀i,K i→K' i)(hf:σ.ev fo=.fn f fst cap)(hx:aimmL (fst++args.toList.map σ.ev++cap)=some ds')(hle:ILeL ds' ds)(hs:ASpec P f ds r):
  Goes P o a w K ι F σ K' (σ.app o.dst ⟨.imm r,[]⟩):=by
 intro next Q hnext
 have hfo:=(hR.ev fo).2
 rw[hf,ARep]at hfo
 obtain⟨va,vc,e1,e2,e3⟩:=hfo
 have hargs:=(hR.evs args.toList).2
 have hrep:=hle.rep hR.col (aimmL_spec hx ((e2.append hargs).append e3))
 unfold Oper.wp
 rw[exec_call ho e1 hs.1,Oper.upon_enter]
 refine(hs.2 w F (va++args.map a.eval++vc) hR.foot hR.col (by simpa using hrep)).mono ?_
 rintro e w' ⟨v,F',rfl,h1,h2,h3,h4,h5,h6⟩
 obtain⟨r1,r2⟩:=hR.grow h1 h2 h3 h4 h5
 exact hnext ι F' _ _ ((r1.mono hK).put o.dst (.imm r) v hd (by rw[AIn];trivial) (by rw[ARep];exact h6)) (Act.put_defers _ _ _) ((r2.more hK).app _ _)
theorem goes_callL (hR:Rel K ι F σ a w){o:Oper}{fo:Operand}{args:Array Operand}{tys:Array TypeId}{f:FuncId}{fst cap:List AVal}{ds' ds:List IVal}{r:IVal}
  (ho:o.op=.call {callee:=.value fo,args,argTypes:=tys})(hd:∀i,o.dst=some i→i<σ.m)(hK:∀i,K i→K' i)(hf:σ.ev fo=.fn f fst cap)(hx:alendL σ (fst++args.toList.map σ.ev++cap)=some ds')(hle:ILeL ds' ds)(hs:ASpec P f ds r)(hfl:iflat r=true):
  Goes P o a w K ι F σ K' (σ.app o.dst ⟨.imm r,[]⟩):=by
 intro next Q hnext
 have hfo:=(hR.ev fo).2
 rw[hf,ARep]at hfo
 obtain⟨va,vc,e1,e2,e3⟩:=hfo
 have hargs:=(hR.evs args.toList).2
 have hfoot:∀c b,Lent F ι σ c b→b<w.heap.size:=by
  rintro c b (h|⟨_,h⟩)
  ·exact hR.foot c b h
  ·exact hR.owned_lt h
 have hcol:∀b,Lent F ι σ true b→Lent F ι σ false b:=by
  rintro b (h|⟨h,_⟩)
  ·exact .inl (hR.col b h)
  ·cases h
 have hrep:=hle.rep hcol (alendL_spec hR hx ((e2.append hargs).append e3))
 unfold Oper.wp
 rw[exec_call ho e1 hs.1,Oper.upon_enter]
 refine(hs.2 w (Lent F ι σ) (va++args.map a.eval++vc) hfoot hcol (by simpa using hrep)).mono ?_
 rintro e w' ⟨v,F',rfl,h1,h2,h3,h4,h5,h6⟩
 obtain⟨r1,r2⟩:=hR.grow h1 (F1:=F) (fun _ _ h=>h) (fun _ _ h=>.inl h) (fun c b h=>Nat.lt_of_lt_of_le (hR.foot c b h) h1.size) hR.col
 exact hnext ι F _ _ ((r1.mono hK).put o.dst (.imm r) v hd (by rw[AIn];trivial) (by rw[ARep];exact iflat_rep hfl h6)) (Act.put_defers _ _ _) ((r2.more hK).app _ _)
def SStep (P:Program)(j:Nat)(o:Oper)(σ:AState)(E:AEff):Prop:=
 (∀K:Nat→Prop,(∀i,AIn K (σ.t i))→(∀id e,σ.s id=some e→K id∧EIn K e)→AIn (fun i=>K i∨i=j) E.v∧∀id e,(id,some e)∈E.s→(K id∨id=j)∧EIn (fun i=>K i∨i=j) e)∧
 ∀σ':AState,(∀x∈o.op.operands.toList,σ'.ev x=σ.ev x)→σ'.s=σ.s→σ'.m=σ.m→∀(K:Nat→Prop)(ι:Nat→Loc)(F:Foot)(a:Act)(w:World),Rel K ι F σ' a w→¬K j→(∀i,o.dst=some i→i<σ'.m)→
  Goes P o a w K ι F σ' (fun i=>K i∨i=j) (σ'.app o.dst E)
inductive AStep (P:Program)(fz:Nat→Bool)(base i:Nat)(o:Oper)(σ:AState):AEff→Prop
 |ev {E:AEff}:aevOp P (fz i) (base+i) σ o.op=some E→AStep P fz base i o σ E
 |call {fo:Operand} {args:Array Operand} {tys:Array TypeId} {f:FuncId} {fst cap:List AVal} {ds' ds:List IVal} {r:IVal}:o.op=.call {callee:=.value fo,args,argTypes:=tys}→σ.ev fo=.fn f fst cap→
   aimmL (fst++args.toList.map σ.ev++cap)=some ds'→ILeL ds' ds→ASpec P f ds r→AStep P fz base i o σ ⟨.imm r,[]⟩
 |callL {fo:Operand} {args:Array Operand} {tys:Array TypeId} {f:FuncId} {fst cap:List AVal} {ds' ds:List IVal} {r:IVal}:o.op=.call {callee:=.value fo,args,argTypes:=tys}→σ.ev fo=.fn f fst cap→
   alendL σ (fst++args.toList.map σ.ev++cap)=some ds'→ILeL ds' ds→ASpec P f ds r→iflat r=true→AStep P fz base i o σ ⟨.imm r,[]⟩
 |sem {E:AEff}:SStep P (base+i) o σ E→AStep P fz base i o σ E
theorem AStep.goes {fz:Nat→Bool}{base i:Nat}{o:Oper}{E:AEff}(h:AStep P fz base i o σ E)(hR:Rel K ι F σ a w)(hj:¬K (base+i))(hd:∀i,o.dst=some i→i<σ.m):
  Goes P o a w K ι F σ (fun k=>K k∨k=base+i) (σ.app o.dst E):=by
 cases h with
 |ev h=>exact goes_ev hR hj hd h
 |call h1 h2 h3 h4 h5=>exact goes_call hR h1 hd (fun _ h=>.inl h) h2 h3 h4 h5
 |callL h1 h2 h3 h4 h5 h6=>exact goes_callL hR h1 hd (fun _ h=>.inl h) h2 h3 h4 h5 h6
 |sem h=>exact h.2 σ (fun _ _=>rfl) rfl rfl K ι F a w hR hj hd
end
end Go.Abs
namespace Go.Abs
open Go.RowKit
variable {P:Program}
def gval (ops:List Oper)(σ:AState)(g:Nat):Option Bool:=
 match ops[g]? with
 |some og=>match og.dst with
  |some d=>match σ.t d with
   |.imm (.v (.bool b))=>some b
   |_=>none
  |none=>none
 |none=>none
def AYield (P:Program)(fz:Nat→Bool)(base:Nat)(ops:List Oper)(i:Nat)(o:Oper)(σ:AState)(E:AEff):Prop:=
 match o.guard with
 |none=>AStep P fz base i o σ E
 |some (g,want)=>∃b E',gval ops σ g=some b∧E'.s=[]∧(b=want→AStep P fz base i o σ E')∧E=⟨gd b want E'.v,[]⟩
def arun (P:Program)(fz:Nat→Bool)(base:Nat)(ops:List Oper):Nat→List Oper→AState→(AState→Prop)→Prop
 |_,[],σ,Q=>Q σ
 |i,o::rest,σ,Q=>∃E,AYield P fz base ops i o σ E∧arun P fz base ops (i+1) rest (σ.app o.dst E) Q
section
variable {fz:Nat→Bool} {base:Nat} {ops:List Oper}
end
structure Pass (ι:Nat→Loc)(F:Foot)(σ:AState)(w:World)(ι':Nat→Loc)(F':Foot)(σ':AState)(w':World):Prop where
 os:w'.os=w.os
 tape:w'.tape=w.tape
 output:w'.output=w.output
 size:w.heap.size≤w'.heap.size
 frame:∀b,b<w.heap.size→¬Owned ι σ b→w'.heap[b]?=w.heap[b]?
 own:∀b,Owned ι' σ' b→Owned ι σ b∨w.heap.size≤b
 mono:∀c b,F c b→F' c b
 src:∀c b,F' c b→F c b∨w.heap.size≤b∨Owned ι σ b
theorem Ext.pass {K K':Nat→Prop}{ι ι':Nat→Loc}{F F':Foot}{σ σ':AState}{w w':World}(h:Ext K ι F σ w K' ι' F' σ' w'):Pass ι F σ w ι' F' σ' w':=
 ⟨h.os,h.tape,h.output,h.size,h.frame,h.own,h.mono,h.src⟩
theorem Pass.refl (ι:Nat→Loc)(F:Foot)(σ:AState)(w:World):Pass ι F σ w ι F σ w:=
 ⟨rfl,rfl,rfl,Nat.le_refl _,fun _ _ _=>rfl,fun _ h=>.inl h,fun _ _ h=>h,fun _ _ h=>.inl h⟩
theorem Pass.trans {ι ι' ι'':Nat→Loc}{F F' F'':Foot}{σ σ' σ'':AState}{w w' w'':World}(h:Pass ι F σ w ι' F' σ' w')(h':Pass ι' F' σ' w' ι'' F'' σ'' w''):Pass ι F σ w ι'' F'' σ'' w'' where
 os:=h'.os.trans h.os
 tape:=h'.tape.trans h.tape
 output:=h'.output.trans h.output
 size:=Nat.le_trans h.size h'.size
 frame b hb ho:=by
  rw[h'.frame b (Nat.lt_of_lt_of_le hb h.size) (fun hc=>(h.own b hc).elim ho (fun hge=>by omega)),h.frame b hb ho]
 own b hb:=by
  rcases h'.own b hb with h1|h1
  ·exact h.own b h1
  ·exact .inr (Nat.le_trans h.size h1)
 mono c b hb:=h'.mono c b (h.mono c b hb)
 src c b hb:=by
  rcases h'.src c b hb with h1|h1|h1
  ·exact h.src c b h1
  ·exact .inr (.inl (Nat.le_trans h.size h1))
  ·rcases h.own b h1 with h2|h2
   ·exact .inr (.inr h2)
   ·exact .inr (.inl h2)
def below (n:Nat):Nat→Prop:=fun i=>i<n
def AWp (P:Program)(D:List Deferred)(c:Code)(Q:Exit→AState→Prop)(σ:AState):Prop:=
 ∀(ι:Nat→Loc)(F:Foot)(a:Act)(w:World),Rel (below σ.n) ι F σ a w→a.defers=D→
  c.wp P (fun e a' w'=>∃ι' F' σ',Q e σ'∧Rel (below σ'.n) ι' F' σ' a' w'∧a'.defers=D∧Pass ι F σ w ι' F' σ' w') a w
section
variable {D:List Deferred} {Q Q':Exit→AState→Prop} {σ:AState} {c x y:Code}
theorem AWp.mono (h:AWp P D c Q σ)(hq:∀e σ',Q e σ'→Q' e σ'):AWp P D c Q' σ:=
 fun ι F a w hR hD=>wp_mono (h ι F a w hR hD) fun _ _ _⟨ι',F',σ',h1,h2⟩=>⟨ι',F',σ',hq _ _ h1,h2⟩
theorem AWp.skip (h:Q .normal σ):AWp P D .skip Q σ:=fun ι F _ _ hR hD=>wp_skip ⟨ι,F,σ,h,hR,hD,Pass.refl _ _ _ _⟩
theorem AWp.exit {id:Nat}(h:Q (.exit id) σ):AWp P D (.exit id) Q σ:=fun ι F _ _ hR hD=>wp_exit ⟨ι,F,σ,h,hR,hD,Pass.refl _ _ _ _⟩
theorem AWp.ret (h:Q .ret σ):AWp P D .ret Q σ:=fun ι F _ _ hR hD=>wp_ret ⟨ι,F,σ,h,hR,hD,Pass.refl _ _ _ _⟩
theorem AWp.label {l:Nat}(h:Q .normal σ):AWp P D (.label l) Q σ:=fun ι F _ _ hR hD=>wp_label ⟨ι,F,σ,h,hR,hD,Pass.refl _ _ _ _⟩
def aseq (next:AState→Prop)(Q:Exit→AState→Prop):Exit→AState→Prop
 |.normal,σ=>next σ
 |e,σ=>Q e σ
theorem AWp.seq (h:AWp P D x (aseq (AWp P D y Q) Q) σ):AWp P D (.seq x y) Q σ:=by
 intro ι F a w hR hD
 refine wp_seq (wp_mono (h ι F a w hR hD) ?_)
 rintro e a' w' ⟨ι',F',σ',h1,h2,h3,h4⟩
 cases e with
 |normal=>
  refine wp_mono (h1 ι' F' a' w' h2 h3) ?_
  rintro e a'' w'' ⟨ι'',F'',σ'',g1,g2,g3,g4⟩
  exact⟨ι'',F'',σ'',g1,g2,g3,h4.trans g4⟩
 |_=>exact⟨ι',F',σ',h1,h2,h3,h4⟩
theorem AWp.cond {b:Operand}{t:Bool}(hb:σ.ev b=.imm (.v (.bool t)))(ht:t=true→AWp P D x Q σ)(hf:t=false→AWp P D y Q σ):AWp P D (.cond b x y) Q σ:=by
 intro ι F a w hR hD
 have hv:=(hR.ev b).2
 rw[hb,ARep,IRep]at hv
 exact wp_cond_split hv.1 (fun h=>ht h ι F a w hR hD) (fun h=>hf h ι F a w hR hD)
def ablock (id:Nat)(Q:Exit→AState→Prop):Exit→AState→Prop
 |.exit id',σ=>if id'=id then Q .normal σ else Q (.exit id') σ
 |e,σ=>Q e σ
theorem AWp.block {id:Nat}(h:AWp P D c (ablock id Q) σ):AWp P D (.block id c) Q σ:=by
 intro ι F a w hR hD
 refine wp_block (wp_mono (h ι F a w hR hD) ?_)
 rintro e a' w' ⟨ι',F',σ',h1,h2,h3,h4⟩
 cases e with
 |exit id'=>
  simp only[Exit.inBlock,ablock]at*
  split at h1
  ·rename_i hid;rw[if_pos hid];exact⟨ι',F',σ',h1,h2,h3,h4⟩
  ·rename_i hid;rw[if_neg hid];exact⟨ι',F',σ',h1,h2,h3,h4⟩
 |_=>exact⟨ι',F',σ',h1,h2,h3,h4⟩
structure Sub (σ σ':AState):Prop where
 t:∀i,σ'.t i=.any∨σ'.t i=σ.t i
 s:∀i e,σ'.s i=some e→σ.s i=some e
 m:σ'.m=σ.m
 n:σ.n≤σ'.n
theorem Rel.sub {K:Nat→Prop}{ι:Nat→Loc}{F:Foot}{σ σ':AState}{a:Act}{w:World}(hR:Rel K ι F σ a w)(h:Sub σ σ'):Rel K ι F σ' a w:=
 ⟨by rw[h.m];exact hR.size,fun i=>by
   rcases h.t i with h|h
   ·rw[h];exact⟨by rw[AIn];trivial,by rw[ARep];trivial⟩
   ·rw[h];exact hR.tmp i,
  fun id e he=>hR.ent id e (h.s id e he),fun b⟨id,e,h1,h2⟩=>hR.off b ⟨id,e,h.s id e h1,h2⟩,fun i j ei ej hi hj=>hR.sep i j ei ej (h.s i ei hi) (h.s j ej hj),hR.foot,hR.col⟩
theorem Ext.sub {K:Nat→Prop}{ι:Nat→Loc}{F:Foot}{σ σ':AState}{w:World}{K':Nat→Prop}(h:Sub σ σ')(hK:∀i,K i→K' i):Ext K ι F σ w K' ι F σ' w:=
 ⟨rfl,rfl,rfl,Nat.le_refl _,fun _ _ _=>rfl,fun _⟨id,e,h1,h2⟩=>.inl ⟨id,e,h.s id e h1,h2⟩,fun _ _ h=>h,fun _ _ h=>.inl h,fun _ _=>rfl,hK⟩
theorem AWp.sub {σ':AState}(h:Sub σ σ')(hc:AWp P D c Q σ'):AWp P D c Q σ:=by
 intro ι F a w hR hD
 have hK:∀i,below σ.n i→below σ'.n i:=fun i hi=>Nat.lt_of_lt_of_le hi h.n
 refine wp_mono (hc ι F a w ((hR.sub h).mono hK) hD) ?_
 rintro e a' w' ⟨ι',F',σ'',h1,h2,h3,h4⟩
 exact⟨ι',F',σ'',h1,h2,h3,(Ext.sub (ι:=ι) (F:=F) (w:=w) h hK).pass.trans h4⟩
def AState.keep (σ:AState)(lt ls:List Nat):AState:=
 {σ with t:=tl (lt.map fun i=>(i,σ.t i)),s:=fun i=>if ls.contains i=true then σ.s i else none}
theorem tl_map (f:Nat→AVal):∀(l:List Nat)(i:Nat),tl (l.map fun i=>(i,f i)) i=.any∨tl (l.map fun i=>(i,f i)) i=f i
 |[],i=>.inl rfl
 |d::l,i=>by
  simp only[List.map_cons,tl]
  by_cases h:i=d
  ·rw[if_pos h,h];exact .inr rfl
  ·rw[if_neg h];exact tl_map f l i
theorem AState.keep_sub (σ:AState)(lt ls:List Nat):Sub σ (σ.keep lt ls):=
 ⟨fun i=>tl_map σ.t lt i,fun i e h=>(by simp only[AState.keep]at h;split at h;exact h;cases h),rfl,Nat.le_refl _⟩
theorem AWp.keep (lt ls:List Nat)(h:AWp P D c Q (σ.keep lt ls)):AWp P D c Q σ:=AWp.sub (σ.keep_sub lt ls) h
theorem AWp.loop {γ:Type}(I:γ→AState)(μ:γ→Nat)(g:γ)(hg:Sub σ (I g))(round:∀g,AWp P D c (aseq (fun σ'=>∃g',μ g'<μ g∧Sub σ' (I g')) Q) (I g)):AWp P D (.loop c) Q σ:=by
 intro ι F a w hR hD
 have hK0:∀i,below σ.n i→below (I g).n i:=fun i hi=>Nat.lt_of_lt_of_le hi hg.n
 refine wp_loop_ghost (fun n a' w'=>∃g' ι' F',μ g'=n∧Rel (below (I g').n) ι' F' (I g') a' w'∧a'.defers=D∧Pass ι F σ w ι' F' (I g') w') (μ g)
  ⟨g,ι,F,rfl,(hR.sub hg).mono hK0,hD,(Ext.sub (ι:=ι) (F:=F) (w:=w) hg hK0).pass⟩ ?_
 rintro n a' w' ⟨g',ι',F',rfl,h1,h2,h3⟩
 refine wp_mono (round g' ι' F' a' w' h1 h2) ?_
 rintro e a'' w'' ⟨ι'',F'',σ'',g1,g2,g3,g4⟩
 cases e with
 |normal=>
  obtain⟨g'',k1,k2⟩:=g1
  have hK:∀i,below σ''.n i→below (I g'').n i:=fun i hi=>Nat.lt_of_lt_of_le hi k2.n
  exact⟨μ g'',k1,g'',ι'',F'',rfl,(g2.sub k2).mono hK,g3,(h3.trans g4).trans (Ext.sub (ι:=ι'') (F:=F'') (w:=w'') k2 hK).pass⟩
 |_=>exact⟨ι'',F'',σ'',g1,g2,g3,h3.trans g4⟩
theorem run_ops {fz:Nat→Bool}{base:Nat}{ops:List Oper}(hdst:∀o∈ops,∀d,o.dst=some d→d<σ.m){R:Exit→Act→World→Prop}:
  ∀(l:List Oper)(i:Nat)(σ1:AState)(Qa:AState→Prop)(ι:Nat→Loc)(F:Foot)(a:Act)(w:World),(∀j,l[j]?=ops[i+j]?)→σ1.m=σ.m→arun P fz base ops i l σ1 Qa→Rel (below (base+i)) ι F σ1 a w→
   (∀ι' F' σ' a' w',Qa σ'→Rel (below (base+(i+l.length))) ι' F' σ' a' w'→a'.defers=a.defers→Ext (below (base+i)) ι F σ1 w (below (base+(i+l.length))) ι' F' σ' w'→R .normal a' w')→
   wpList P ops.toArray R l a w
 |[],i,σ1,Qa,ι,F,a,w,_,_,h,hR,hq=>hq ι F σ1 a w h (by simpa using hR) rfl (by simpa using Ext.refl _ _ _ _ _)
 |o::l,i,σ1,Qa,ι,F,a,w,hl,hm,h,hR,hq=>by
  obtain⟨E,hy,hn⟩:=h
  have ho:ops[i]?=some o:=by simpa using(hl 0).symm
  have homem:o∈ops:=List.mem_iff_getElem?.2 ⟨i,ho⟩
  have hd:∀d,o.dst=some d→d<σ1.m:=fun d hd=>by rw[hm];exact hdst o homem d hd
  have hj:¬below (base+i) (base+i):=by unfold below;omega
  have hK:∀k,(below (base+i) k∨k=base+i)→below (base+(i+1)) k:=by intro k hk;unfold below at*;omega
  have hlen:i+1+l.length=i+(o::l).length:=by simp;omega
  have rest:∀(ι':Nat→Loc)(F':Foot)(E:AEff)(a':Act)(w':World),arun P fz base ops (i+1) l (σ1.app o.dst E) Qa→Rel (fun k=>below (base+i) k∨k=base+i) ι' F' (σ1.app o.dst E) a' w'→a'.defers=a.defers→
    Ext (below (base+i)) ι F σ1 w (fun k=>below (base+i) k∨k=base+i) ι' F' (σ1.app o.dst E) w'→wpList P ops.toArray R l a' w':=by
   intro ι' F' E a' w' hn h1 h2 h3
   refine run_ops hdst l (i+1) (σ1.app o.dst E) Qa ι' F' a' w' (fun j=>by have:=hl (j+1);simpa[Nat.add_assoc,Nat.add_comm 1 j]using this) hm hn (h1.mono hK) ?_
   intro ι'' F'' σ'' a'' w'' g1 g2 g3 g4
   rw[hlen]at g2 g4
   exact hq ι'' F'' σ'' a'' w'' g1 g2 (g3.trans h2) ((h3.more hK).trans g4)
  unfold AYield at hy
  unfold wpList
  cases hg:o.guard with
  |none=>
   rw[hg]at hy
   rw[if_pos (by simp[Region.wanted,hg])]
   exact .inl (hy.goes hR hj hd _ _ (fun ι' F' a' w' h1 h2 h3=>rest ι' F' E a' w' hn h1 h2 h3))
  |some gw=>
   obtain⟨g,want⟩:=gw
   rw[hg]at hy
   obtain⟨b,E',e1,e2,e3,rfl⟩:=hy
   have hyb:yielded ops.toArray a.tmps g=some b:=by
    unfold gval at e1
    split at e1
    ·rename_i og hog
     split at e1
     ·rename_i d hdst'
      split at e1
      ·rename_i b' hb'
       simp only[Option.some.injEq]at e1;subst e1
       have:=(hR.tmp d).2
       rw[hb',ARep,IRep]at this
       have hlt:d<a.tmps.size:=by
        rw[hR.size,hm];exact hdst og (List.mem_iff_getElem?.2 ⟨g,hog⟩) d hdst'
       have hv:a.tmps[d]?=some (.bool b'):=by
        have h1:=this.1
        simp only[Array.getD_eq_getD_getElem?,Array.getElem?_eq_getElem hlt,Option.getD_some]at h1
        rw[Array.getElem?_eq_getElem hlt,h1]
       simp[yielded,hog,hdst',hv]
      ·cases e1
     ·cases e1
    ·cases e1
   have hw:Region.wanted o (yielded ops.toArray a.tmps)=decide (b=want):=by
    simp only[Region.wanted,hg,hyb]
    rw[Bool.eq_iff_iff];simp
   by_cases hbw:b=want
   ·rw[if_pos (by rw[hw];simpa using hbw)]
    have hgd:(⟨gd b want E'.v,[]⟩:AEff)=E':=by cases E';simp_all[gd]
    rw[hgd]at hn
    exact .inl ((e3 hbw).goes hR hj hd _ _ (fun ι' F' a' w' h1 h2 h3=>rest ι' F' E' a' w' hn h1 h2 h3))
   ·rw[if_neg (by rw[hw];simpa using hbw)]
    have hgd:gd b want E'.v=.any:=by simp[gd,hbw]
    rw[hgd]at hn
    have hRp:=(hR.put o.dst .any undef hd (by rw[AIn];trivial) (by rw[ARep];trivial)).mono (K':=fun k=>below (base+i) k∨k=base+i) (fun _ h=>.inl h)
    exact rest ι F ⟨.any,[]⟩ _ _ hn hRp (Act.put_defers _ _ _) (((Ext.refl _ ι F σ1 w).more (fun _ h=>.inl h)).app _ _)
def dsts (m:Nat)(ops:List Oper):Bool:=ops.all fun o=>match o.dst with|some d=>decide (d<m)|none=>true
theorem dsts_spec {m:Nat}{ops:List Oper}(h:dsts m ops=true):∀o∈ops,∀d,o.dst=some d→d<m:=by
 intro o ho d hd
 have:=List.all_eq_true.1 h o ho
 simpa[hd]using this
theorem AWp.region {id:Nat}{l:List Oper}{Q:Exit→AState→Prop}(fz:Nat→Bool)(hd:dsts σ.m l=true)(h:arun P fz σ.n l 0 l σ fun σ'=>Q .normal {σ' with n:=σ.n+l.length}):AWp P D (.region id l.toArray false) Q σ:=by
 intro ι F a w hR hD
 refine wp_region_lit (run_ops (dsts_spec hd) l 0 σ _ ι F a w (by simp) rfl h (by simpa using hR) ?_)
 intro ι' F' σ' a' w' h1 h2 h3 h4
 simp only[Nat.zero_add,Nat.add_zero]at h2 h4
 refine⟨ι',F',{σ' with n:=σ.n+l.length},h1,⟨h2.size,h2.tmp,h2.ent,h2.off,h2.sep,h2.foot,h2.col⟩,h3.trans hD,⟨h4.os,h4.tape,h4.output,h4.size,h4.frame,h4.own,h4.mono,h4.src⟩⟩
end
end Go.Abs
