/- Part 2 of the framework: values as data, own memory, and code reckoned whole. No statement is proved here. -/
import Derived.Test.YtcccdohpepnfjaaFw1
import Derived.Great.FillDense
import Derived.Deep.AppendSrc
set_option linter.unusedVariables false
set_option linter.unusedSimpArgs false
namespace Go.Abs
open Go.RowKit
variable {P:Program}
section
variable {K K':Nat→Prop} {ι ι':Nat→Loc} {F F':Foot} {σ σ':AState} {a a':Act} {w w':World}
theorem goes_new (hR:Rel K ι F σ a w){o:Oper}{ty:TypeId}{u:Value}{x:AVal}(j:Nat)(hj:¬K j)(hd:∀i,o.dst=some i→i<σ.m)
  (hrun:(execOp a.eval o).run P w=.ok (.value (.pointer (some ⟨w.heap.size,0,none⟩))) (w.alloc (.cells u.cells ty)))(hx:AIn K x)(hu:ARep w F ι x u):
  Goes P o a w K ι F σ (fun i=>K i∨i=j) (σ.app o.dst ⟨.ptr j 0,[(j,some (.box ty x))]⟩):=by
 have hkeep:Keeps F w (w.alloc (.cells u.cells ty)):=fun c b hb=>heap_alloc_old w _ b (hR.foot c b hb)
 have henv:∀id,K id→(fun i=>if i=j then(⟨w.heap.size,0,0,false,none⟩:Loc)else ι i) id=ι id:=fun id hid=>by
  show (if id=j then _ else ι id)=ι id
  rw[if_neg (fun ee:id=j=>hj (by rw[←ee];exact hid))]
 obtain⟨r1,r2⟩:=hR.alloc j hj (.cells u.cells ty) ⟨w.heap.size,0,0,false,none⟩ (fun _=>rfl) (.box ty x) (AIn.mono (fun _ h=>.inl h) x hx)
  ⟨rfl,u,heap_alloc_new w _,ARep.keep hkeep (fun _ _ hb=>hb) henv x u hx hu⟩
 exact Goes.of (σ1:={σ with s:=ups σ.s [(j,some (.box ty x))]}) hrun hd rfl ⟨_,F,r1,r2,by rw[AIn];exact .inr rfl,by rw[ARep];simp⟩
theorem goes_box (hR:Rel K ι F σ a w){o:Oper}{ty:TypeId}{x:Operand}(ho:o.op=.box ty x)(j:Nat)(hj:¬K j)(hd:∀i,o.dst=some i→i<σ.m):
  Goes P o a w K ι F σ (fun i=>K i∨i=j) (σ.app o.dst ⟨.ptr j 0,[(j,some (.box ty (σ.ev x)))]⟩):=by
 obtain⟨h1,h2⟩:=hR.ev x
 refine goes_new hR j hj hd (u:=a.eval x) ?_ h1 h2
 simp[execOp,ho,Instr.box,newVar,newRow]
def tz (P:Program)(t:TypeId):Option AVal:=
 match P.info? t with
 |some i=>match i.zero with
  |some z=>some (ofValue z)
  |none=>none
 |none=>none
theorem goes_alloc (hR:Rel K ι F σ a w){o:Oper}{ty:TypeId}(ho:o.op=.alloc ty)(j:Nat)(hj:¬K j)(hd:∀i,o.dst=some i→i<σ.m){x:AVal}(hz:tz P ty=some x):
  Goes P o a w K ι F σ (fun i=>K i∨i=j) (σ.app o.dst ⟨.ptr j 0,[(j,some (.box ty x))]⟩):=by
 unfold tz at hz
 split at hz
 ·rename_i i hi
  split at hz
  ·rename_i z hz'
   simp only[Option.some.injEq]at hz
   subst hz
   refine goes_new hR j hj hd (u:=z) ?_ (ofValue_spec (w:=w) (F:=F) (ι:=ι) K z).1 (ofValue_spec K z).2
   simp[execOp,ho,Instr.alloc,zeroValue,typeInfo,hi,hz',newVar,newRow]
  ·cases hz
 ·cases hz
theorem goes_move (hR:Rel K ι F σ a w){o:Oper}{x:Operand}(ho:o.op=.move x∨o.op=.assign x)(hd:∀i,o.dst=some i→i<σ.m)(hK:∀i,K i→K' i):
  Goes P o a w K ι F σ K' (σ.app o.dst ⟨σ.ev x,[]⟩):=by
 obtain⟨h1,h2⟩:=hR.ev x
 refine Goes.same hR (u:=a.eval x) ?_ hd hK h1 h2
 rcases ho with ho|ho<;>simp[execOp,ho]
def gd (b:Bool)(want:Bool)(x:AVal):AVal:=if b=want then x else .any
def sel (t:Bool)(x y:AVal):AVal:=if t=true then x else y
theorem goes_pick (hR:Rel K ι F σ a w){o:Oper}{c x y:Operand}(ho:o.op=.pick c x y)(hd:∀i,o.dst=some i→i<σ.m)(hK:∀i,K i→K' i){t:Bool}
  (hc:σ.ev c=.imm (.v (.bool t))):Goes P o a w K ι F σ K' (σ.app o.dst ⟨sel t (σ.ev x) (σ.ev y),[]⟩):=by
 have hcv:=(hR.ev c).2
 rw[hc,ARep,IRep]at hcv
 cases t with
 |true=>
  refine Goes.same hR (u:=a.eval x) ?_ hd hK (by simpa[sel]using(hR.ev x).1) (by simpa[sel]using(hR.ev x).2)
  simp[execOp,ho,hcv.1,asBool]
 |false=>
  refine Goes.same hR (u:=a.eval y) ?_ hd hK (by simpa[sel]using(hR.ev y).1) (by simpa[sel]using(hR.ev y).2)
  simp[execOp,ho,hcv.1,asBool]
theorem goes_nilCheck (hR:Rel K ι F σ a w){o:Oper}{x:Operand}(ho:o.op=.nilCheck x)(hd:∀i,o.dst=some i→i<σ.m)(hK:∀i,K i→K' i)
  (hx:(match σ.ev x with|.ptr _ _=>true|.rptr _ _ _ _=>true|.ref _ _ _=>true|.fn _ _ _=>true|_=>false)=true):Goes P o a w K ι F σ K' (σ.app o.dst ⟨σ.ev x,[]⟩):=by
 obtain⟨h1,h2⟩:=hR.ev x
 refine Goes.same hR (u:=a.eval x) ?_ hd hK h1 h2
 split at hx
 ·rename_i e;rw[e,ARep]at h2;simp[execOp,ho,h2]
 ·rename_i e;rw[e,ARep]at h2;simp[execOp,ho,h2]
 ·rename_i e;rw[e,ARep]at h2;obtain⟨b,o',cs,ty,fr,v,e1,_⟩:=h2;simp[execOp,ho,e1]
 ·rename_i e;rw[e,ARep]at h2;obtain⟨va,vc,e1,_⟩:=h2;simp[execOp,ho,e1]
 ·cases hx
def aext (x:AVal)(i:Nat):Option AVal:=
 match x with
 |.tup cs=>cs[i]?
 |.imm (.tup ds)=>(ds[i]?).map .imm
 |_=>none
theorem goes_extract (hR:Rel K ι F σ a w){o:Oper}{x:Operand}{i:Nat}(ho:o.op=.extract x i)(hd:∀i,o.dst=some i→i<σ.m)(hK:∀i,K i→K' i)
  {y:AVal}(h:aext (σ.ev x) i=some y):Goes P o a w K ι F σ K' (σ.app o.dst ⟨y,[]⟩):=by
 obtain⟨h1,h2⟩:=hR.ev x
 unfold aext at h
 split at h
 ·rename_i cs hx
  rw[hx]at h1 h2
  rw[ARep]at h2;rw[AIn]at h1
  obtain⟨vs,e1,e2⟩:=h2
  obtain⟨u,hu,hr⟩:=e2.at h
  refine Goes.same hR (u:=u) ?_ hd hK (h1.at h) hr
  have hu':vs[i]?=some u:=by simpa using hu
  simp[execOp,ho,e1,Instr.extract,hu']
 ·rename_i ds hx
  simp only[Option.map_eq_some_iff]at h
  obtain⟨d,hd',rfl⟩:=h
  rw[hx]at h1 h2
  rw[ARep,IRep]at h2
  obtain⟨vs,e1,e2⟩:=h2
  obtain⟨u,hu,hr⟩:=e2.at hd'
  refine Goes.same hR (u:=u) ?_ hd hK (by rw[AIn];trivial) (by rw[ARep];exact hr)
  have hu':vs[i]?=some u:=by simpa using hu
  simp[execOp,ho,e1,Instr.extract,hu']
 ·cases h
theorem goes_makeFunc (hR:Rel K ι F σ a w){o:Oper}{f:Nat}{fs cs:Array Operand}(ho:o.op=.makeFunc (.func f) fs cs)(hd:∀i,o.dst=some i→i<σ.m)(hK:∀i,K i→K' i):
  Goes P o a w K ι F σ K' (σ.app o.dst ⟨.fn f (fs.toList.map σ.ev) (cs.toList.map σ.ev),[]⟩):=by
 obtain⟨h1,h2⟩:=hR.evs fs.toList
 obtain⟨h3,h4⟩:=hR.evs cs.toList
 refine Goes.same hR (u:=.func (.func f) (fs.map a.eval) (cs.map a.eval)) ?_ hd hK (by rw[AIn];exact⟨h1,h3⟩) (by rw[ARep];exact⟨_,_,rfl,by simpa using h2,by simpa using h4⟩)
 simp[execOp,ho,Instr.makeFunc]
def amkI (P:Program)(t:TypeId)(x:AVal):Option AVal:=
 match P.underlying t with
 |none=>none
 |some (.interface _)=>none
 |some _=>match x with
  |.imm (.v v)=>some (.imm (.v (.iface t v)))
  |.imm (.agg [])=>some (.imm (.v (.iface t (.agg #[]))))
  |.agg []=>some (.imm (.v (.iface t (.agg #[]))))
  |_=>none
theorem goes_makeInterface (hR:Rel K ι F σ a w){o:Oper}{t:TypeId}{x:Operand}(ho:o.op=.makeInterface t x)(hd:∀i,o.dst=some i→i<σ.m)(hK:∀i,K i→K' i)
  {y:AVal}(h:amkI P t (σ.ev x)=some y):Goes P o a w K ι F σ K' (σ.app o.dst ⟨y,[]⟩):=by
 obtain⟨h1,h2⟩:=hR.ev x
 unfold amkI at h
 split at h
 ·cases h
 ·cases h
 ·rename_i u hne hu
  have hrun:∀v,a.eval x=v→(execOp a.eval o).run P w=.ok (.value (.iface t v)) w:=by
   intro v hv
   cases u with
   |interface ms=>exact absurd rfl (hne ms)
   |_=>simp[execOp,ho,Instr.makeInterface,run_underlying hu,hv]
  split at h
  ·rename_i v hx
   simp only[Option.some.injEq]at h;subst h
   rw[hx,ARep,IRep]at h2
   exact Goes.same hR (hrun _ h2.1) hd hK (by rw[AIn];trivial) (by rw[ARep,IRep];exact⟨rfl,rfl⟩)
  ·rename_i hx
   simp only[Option.some.injEq]at h;subst h
   rw[hx,ARep,IRep]at h2
   obtain⟨vs,e1,e2,_⟩:=h2
   rw[IRepL]at e2
   have:vs=#[]:=by simpa using e2
   subst this
   exact Goes.same hR (hrun _ e1) hd hK (by rw[AIn];trivial) (by rw[ARep,IRep];exact⟨rfl,rfl⟩)
  ·rename_i hx
   simp only[Option.some.injEq]at h;subst h
   rw[hx,ARep]at h2
   obtain⟨vs,e1,e2⟩:=h2
   rw[ARepL]at e2
   have:vs=#[]:=by simpa using e2
   subst this
   exact Goes.same hR (hrun _ e1) hd hK (by rw[AIn];trivial) (by rw[ARep,IRep];exact⟨rfl,rfl⟩)
  ·cases h
def ivv :Value→Option IVal
 |.agg cs=>if cs.size=0 then some (.agg [])else none
 |.tuple _=>none
 |v=>some (.v v)
theorem ivv_spec {v:Value}{d:IVal}(h:ivv v=some d):IRep w F d v:=by
 unfold ivv at h
 split at h
 ·split at h
  ·rename_i cs hc
   simp only[Option.some.injEq]at h;subst h
   rw[IRep];exact⟨_,rfl,by rw[IRepL,Array.size_eq_zero_iff.1 hc],rfl⟩
  ·cases h
 ·cases h
 ·rename_i h1 h2
  simp only[Option.some.injEq]at h;subst h
  rw[IRep];exact⟨rfl,by cases v<;>first|rfl|exact(h1 _ rfl).elim|exact(h2 _ rfl).elim⟩
def atas (P:Program)(t:TypeId)(ok:Bool)(x:AVal):Option AVal:=
 match P.underlying t with
 |none=>none
 |some (.interface _)=>none
 |some _=>match ok,x with
  |true,.imm (.v (.iface t' v))=>if t'=t then(ivv v).map fun d=>.tup [.imm d,.imm (.v (.bool true))]else none
  |_,_=>none
theorem goes_typeAssert (hR:Rel K ι F σ a w){o:Oper}{t s:TypeId}{ok:Bool}{x:Operand}(ho:o.op=.typeAssert x s t ok)(hd:∀i,o.dst=some i→i<σ.m)(hK:∀i,K i→K' i)
  {y:AVal}(h:atas P t ok (σ.ev x)=some y):Goes P o a w K ι F σ K' (σ.app o.dst ⟨y,[]⟩):=by
 obtain⟨h1,h2⟩:=hR.ev x
 unfold atas at h
 split at h
 ·cases h
 ·cases h
 ·rename_i u hne hu
  split at h
  ·rename_i t' v hx
   split at h
   ·rename_i ht
    subst ht
    obtain⟨d,hd',rfl⟩:=Option.map_eq_some_iff.1 h
    rw[hx,ARep,IRep]at h2
    refine Goes.same hR (u:=.tuple #[v,.bool true]) ?_ hd hK (by rw[AIn];exact⟨by rw[AIn];trivial,by rw[AInL];exact⟨by rw[AIn];trivial,trivial⟩⟩) ?_
    ·cases u with
     |interface ms=>exact absurd rfl (hne ms)
     |_=>simp[execOp,ho,Instr.typeAssert,run_underlying hu,h2.1]
    ·rw[ARep]
     refine⟨_,rfl,?_⟩
     rw[ARepL];refine⟨v,_,rfl,by rw[ARep];exact ivv_spec hd',?_⟩
     rw[ARepL];exact⟨_,_,rfl,by rw[ARep,IRep];exact⟨rfl,rfl⟩,by rw[ARepL]⟩
   ·cases h
  ·cases h
def tfldT (P:Program)(s:TypeId)(f:Nat):Option (Nat×Nat):=
 match P.underlying s with
 |some (.struct fs)=>(fs[f]?).map fun fd=>(fd.offset,fd.type)
 |_=>none
def afield (P:Program)(s:TypeId)(f:Nat)(x:AVal):Option AVal:=
 match tfldT P s f,ashape x,acells x with
 |some (off,t),some (true,_),some cs=>match tld P t with
  |some (ag,k)=>if off+k≤cs.length then mkA ag ((cs.drop off).take k)else none
  |none=>none
 |_,_,_=>none
theorem goes_field (hR:Rel K ι F σ a w){o:Oper}{s:TypeId}{x:Operand}{f:Nat}(ho:o.op=.field s x f)(hd:∀i,o.dst=some i→i<σ.m)(hK:∀i,K i→K' i)
  {y:AVal}(h:afield P s f (σ.ev x)=some y):Goes P o a w K ι F σ K' (σ.app o.dst ⟨y,[]⟩):=by
 obtain⟨h1,h2⟩:=hR.ev x
 unfold afield at h
 split at h
 ·rename_i off t n cs hf hs hc
  split at h
  ·rename_i ag k hld
   split at h
   ·rename_i hle
    have hcl:=acells_spec hc h2
    have hlen:=hcl.length
    obtain⟨g1,g2,g3⟩:=ashape_spec hs h2
    obtain⟨vs,hvs⟩:∃vs:Array Value,a.eval x=.agg vs:=⟨_,by rw[←g2];rfl⟩
    unfold tfldT at hf
    split at hf
    ·rename_i fs hu
     simp only[Option.map_eq_some_iff,Prod.mk.injEq]at hf
     obtain⟨fd,hfd,rfl,rfl⟩:=hf
     rw[hvs]at hcl hlen
     simp only[Value.cells,Array.length_toList]at hcl hlen
     have hrun:(execOp a.eval o).run P w=.ok (.value (mkV ag ((vs.toList.drop fd.offset).take k))) w:=by
      cases ag with
      |true=>
       have:(vs.extract fd.offset (fd.offset+k))=((vs.toList.drop fd.offset).take k).toArray:=by
        apply Array.ext'
        simp[List.take_drop]
       simp[execOp,ho,Instr.field,run_underlying hu,hfd,hvs,asAgg,part,run_isAgg hld,run_sizeOf hld,mkV,this]
      |false=>
       have hk1:k=1:=mkA_len h (by simp;omega) rfl
       subst hk1
       have hlt:fd.offset<vs.size:=by omega
       have he:(vs.toList.drop fd.offset).take 1=[vs[fd.offset]]:=by
        rw[List.drop_eq_getElem_cons (by simpa using hlt)];simp
       simp[execOp,ho,Instr.field,run_underlying hu,hfd,hvs,asAgg,part,run_isAgg hld,mkV,he,hlt]
     exact Goes.same hR hrun hd hK (mkA_in h (((acells_in hc h1).drop _).take _)) (mkA_spec h ((hcl.drop _).take _))
    ·cases hf
   ·cases h
  ·cases h
 ·cases h
def alen (x:AVal):Option Nat:=
 match x with
 |.imm (.sl _ _ _ es)=>some es.length
 |.imm (.v (.slice none n _))=>some n
 |.imm (.v (.string s))=>some s.size
 |.own _ n=>some n
 |.win _ _ n=>some n
 |_=>none
def isStr :AVal→Bool
 |.imm (.v (.string _))=>true
 |_=>false
def tlen (P:Program)(t:TypeId):Option Bool:=
 match P.underlying t with
 |some (.slice _)=>some true
 |some .string=>some false
 |_=>none
theorem goes_len (hR:Rel K ι F σ a w){o:Oper}{t:TypeId}{x:Operand}(ho:o.op=.call {callee:=.builtin .len,args:=#[x],argTypes:=#[t]})(hd:∀i,o.dst=some i→i<σ.m)(hK:∀i,K i→K' i)
  {n:Nat}(hs:tlen P t=some (!isStr (σ.ev x)))(h:alen (σ.ev x)=some n):Goes P o a w K ι F σ K' (σ.app o.dst ⟨.imm (.v (.int .i64 n)),[]⟩):=by
 obtain⟨h1,h2⟩:=hR.ev x
 unfold tlen at hs
 have hout:ARep w F ι (.imm (.v (.int .i64 n))) (.int .i64 n):=by rw[ARep,IRep];exact⟨rfl,rfl⟩
 refine Goes.same hR (u:=.int .i64 n) ?_ hd hK (by rw[AIn];trivial) hout
 split at hs
 ·rename_i e hu
  have key:∀ad len cap,a.eval x=.slice ad len cap→len=n→(execOp a.eval o).run P w=.ok (.value (.int .i64 n)) w:=by
   intro ad len cap hx hl
   simp[execOp,ho,resolve,invoke,builtin,Builtin.len_,run_underlying hu,hx,hl,goInt]
  unfold alen at h
  split at h
  ·rename_i hx;simp only[Option.some.injEq]at h
   rw[hx,ARep,IRep]at h2;obtain⟨ad,cap,e1,_⟩:=h2
   exact key _ _ _ e1 h
  ·rename_i hx;simp only[Option.some.injEq]at h
   rw[hx,ARep,IRep]at h2
   exact key _ _ _ h2.1 h
  ·rename_i hx;rw[hx]at hs;simp[isStr]at hs
  ·rename_i hx;simp only[Option.some.injEq]at h
   rw[hx,ARep]at h2
   obtain⟨e1,e2⟩:=h2
   unfold Loc.val at e1
   split at e1
   ·rename_i hn;exact key _ _ _ e1 (by rw[←h,e2 hn])
   ·exact key _ _ _ e1 h
  ·rename_i hx;simp only[Option.some.injEq]at h
   rw[hx,ARep]at h2;obtain⟨cap,e1,_⟩:=h2
   exact key _ _ _ e1 h
  ·cases h
 ·rename_i hu
  have hs':isStr (σ.ev x)=true:=by simpa using hs
  unfold isStr at hs'
  split at hs'
  ·rename_i s hx
   rw[hx,ARep,IRep]at h2
   rw[hx]at h
   simp only[alen,Option.some.injEq]at h
   simp[execOp,ho,resolve,invoke,builtin,Builtin.len_,run_underlying hu,h2.1,h,goInt]
  ·cases hs'
 ·cases hs
end
end Go.Abs
namespace Go.Abs
open Go.RowKit
variable {P:Program}
section
variable {K K':Nat→Prop} {ι ι':Nat→Loc} {F F':Foot} {σ σ':AState} {a a':Act} {w w':World}
def afill (place:Nat→Option (Nat×Nat))(cs:List AVal):List (Nat×AVal)→Option (List AVal)
 |[]=>some cs
 |(i,x)::r=>
  match place i,acells x with
  |some (off,k),some xs=>if xs.length=k∧off+k≤cs.length then afill place (cs.take off++xs++cs.drop (off+k)) r else none
  |_,_=>none
def tplaces (P:Program)(t:TypeId):Option (List (Nat×Nat)):=
 match P.underlying t with
 |some (.struct fields)=>fields.toList.mapM (fun f=>(P.info? f.type).map fun i=>(f.offset,i.size))
 |_=>none
def abuild (P:Program)(t:TypeId)(parts:List (Nat×AVal)):Option AVal:=
 match tz P t with
 |none=>none
 |some z=>match acells z with
  |none=>none
  |some cs=>match tplaces P t with
   |some places=>(afill (fun i=>places[i]?) cs parts).map .agg
   |none=>match tarr P t with
    |some (_,k)=>(afill (fun i=>some (i*k,k)) cs parts).map .agg
    |none=>none
theorem fill_cells (off k:Nat)(v:Value)(cs:Array Value)(hv:v.cells.size=k)(hk:off+k≤cs.size):
  (v.cells.zipIdx.foldl (fun cs(x:Value×Nat)=>cs.setIfInBounds (off+x.2) x.1) cs).toList=cs.toList.take off++v.cells.toList++cs.toList.drop (off+k):=by
 obtain⟨h1,h2⟩:=Go.Great.foldl_set off v.cells.toList 0 cs
 have e:(v.cells.zipIdx.foldl (fun cs(x:Value×Nat)=>cs.setIfInBounds (off+x.2) x.1) cs)=((v.cells.toList.zipIdx 0).foldl (fun cs(x:Value×Nat)=>cs.setIfInBounds (off+x.2) x.1) cs):=by
  rw[←Array.foldl_toList,Array.toList_zipIdx]
 rw[e]
 apply List.ext_getElem?
 intro j
 have:=h2 j
 simp only[Array.length_toList,hv,Nat.add_zero]at this
 rw[Array.getElem?_toList,this]
 have hl:v.cells.toList.length=k:=by simpa using hv
 by_cases hj:off≤j∧j<off+k
 ·rw[if_pos ⟨hj.1,hj.2,by omega⟩,List.append_assoc,List.getElem?_append_right (by simp;omega),List.getElem?_append_left (by simp;omega)]
  congr 1
  simp;omega
 ·rw[if_neg (by omega)]
  rw[list_splice_get cs.toList v.cells.toList off k j hl (by simpa using hk) (by omega)]
  simp
theorem afill_spec {place place':Nat→Option (Nat×Nat)}(hp:∀i p,place i=some p→place' i=some p):∀{parts:List (Nat×AVal)}{vparts:List (Nat×Value)}{cs cs':List AVal}{us:Array Value},
  afill place cs parts=some cs'→ARepL w F ι cs us.toList→vparts.map (·.1)=parts.map (·.1)→ARepL w F ι (parts.map (·.2)) (vparts.map (·.2))→
  ∃us',Instr.fill place' us vparts=some us'∧ARepL w F ι cs' us'.toList
 |[],vparts,cs,cs',us,h,hr,hi,hx=>by
  have:vparts=[]:=by simpa using hi
  subst this
  simp only[afill,Option.some.injEq]at h;subst h
  exact⟨us,rfl,hr⟩
 |(i,x)::parts,[],_,_,_,_,_,hi,_=>by simp at hi
 |(i,x)::parts,(i',v)::vparts,cs,cs',us,h,hr,hi,hx=>by
  simp only[List.map_cons,List.cons.injEq]at hi
  obtain⟨rfl,hi⟩:=hi
  simp only[List.map_cons]at hx
  rw[ARepL]at hx
  obtain⟨u,us1,e,hx1,hx2⟩:=hx
  obtain⟨rfl,rfl⟩:=List.cons.inj e
  unfold afill at h
  split at h
  ·rename_i off k xs hpl hxs
   split at h
   ·rename_i hk
    have hc:=acells_spec hxs hx1
    have hl:=hc.length
    have hv:v.cells.size=k:=by simpa[hk.1]using hl
    have hus:=hr.length
    have hle:off+k≤us.size:=by simp at hus;omega
    have hf:=fill_cells off k v us hv hle
    obtain⟨us',h1,h2⟩:=afill_spec hp (us:=v.cells.zipIdx.foldl (fun cs(x:Value×Nat)=>cs.setIfInBounds (off+x.2) x.1) us) h (by rw[hf];exact((hr.take off).append hc).append (hr.drop (off+k))) hi hx2
    refine⟨us',?_,h2⟩
    rw[Instr.fill,hp _ _ hpl]
    simp only[hv]
    rw[if_neg (by simp;omega)]
    exact h1
   ·cases h
  ·cases h
theorem goes_build (hR:Rel K ι F σ a w){o:Oper}{t:TypeId}{parts:Array (Nat×Operand)}(ho:o.op=.build t parts)(hd:∀i,o.dst=some i→i<σ.m)(hK:∀i,K i→K' i)
  {y:AVal}(h:abuild P t (parts.toList.map fun p=>(p.1,σ.ev p.2))=some y):Goes P o a w K ι F σ K' (σ.app o.dst ⟨y,[]⟩):=by
 have hev:∀l:List (Nat×Operand),AInL K (l.map fun p=>σ.ev p.2)∧ARepL w F ι (l.map fun p=>σ.ev p.2) (l.map fun p=>a.eval p.2):=by
  intro l
  have:=hR.evs (l.map (·.2))
  simpa[List.map_map,Function.comp_def]using this
 have hin:∀(place:Nat→Option (Nat×Nat))(l:List (Nat×Operand))(cs cs':List AVal),AInL K cs→afill place cs (l.map fun p=>(p.1,σ.ev p.2))=some cs'→AInL K cs':=by
  intro place l
  induction l with
  |nil=>intro cs cs' hc h;simp only[List.map_nil,afill,Option.some.injEq]at h;subst h;exact hc
  |cons p l ih=>
   intro cs cs' hc h
   simp only[List.map_cons,afill]at h
   split at h
   ·rename_i off k xs _ hxs
    split at h
    ·exact ih _ _ (((hc.take _).append (acells_in hxs (hR.ev p.2).1)).append (hc.drop _)) h
    ·cases h
   ·cases h
 unfold abuild at h
 split at h
 ·cases h
 ·rename_i z hz
  split at h
  ·cases h
  ·rename_i cs hcs
   unfold tz at hz
   split at hz
   ·rename_i it hit
    split at hz
    ·rename_i zv hzv
     simp only[Option.some.injEq]at hz
     subst hz
     have hz1:=acells_in (K:=K) hcs (ofValue_spec (w:=w) (F:=F) (ι:=ι) K zv).1
     have hz2:=acells_spec hcs (ofValue_spec (w:=w) (F:=F) (ι:=ι) K zv).2
     have fin:∀(place place':Nat→Option (Nat×Nat))(cs':List AVal),afill place cs (parts.toList.map fun p=>(p.1,σ.ev p.2))=some cs'→(∀i p,place i=some p→place' i=some p)→
       (∀us',Instr.fill place' zv.cells (parts.map fun(i,x)=>(i,a.eval x)).toList=some us'→P.built t (parts.map fun(i,x)=>(i,a.eval x)).toList=some us')→
       Goes P o a w K ι F σ K' (σ.app o.dst ⟨.agg cs',[]⟩):=by
      intro place place' cs' hf hp hb
      obtain⟨us',h1,h2⟩:=afill_spec hp (vparts:=(parts.map fun(i,x)=>(i,a.eval x)).toList) hf hz2 (by simp[List.map_map,Function.comp_def]) (by simpa[List.map_map,Function.comp_def]using(hev parts.toList).2)
      refine Goes.same hR (u:=.agg us') ?_ hd hK (by rw[AIn];exact hin _ _ _ _ hz1 hf) (by rw[ARep];exact⟨us',rfl,h2⟩)
      have:=run_build (P:=P) w t _ us' (hb us' h1)
      simp[execOp,ho,this]
     split at h
     ·rename_i places hpl
      simp only[Option.map_eq_some_iff]at h
      obtain⟨cs',hf,rfl⟩:=h
      refine fin _ (fun i=>places.toArray[i]?) cs' hf (fun i p hi=>by simpa using hi) (fun us' hus=>?_)
      unfold tplaces at hpl
      split at hpl
      ·rename_i fields hu
       simpa[Program.built,hit,hu,hzv,hpl]using hus
      ·cases hpl
     ·split at h
      ·rename_i n k har
       simp only[Option.map_eq_some_iff]at h
       obtain⟨cs',hf,rfl⟩:=h
       obtain⟨e,hu,ie,hie,hk⟩:=tarr_spec har
       refine fin _ (fun i=>some (i*k,k)) cs' hf (fun i p hi=>hi) (fun us' hus=>?_)
       rw[←hk]at hus
       simpa[Program.built,hit,hu,hzv,hie]using hus
      ·cases h
    ·cases hz
   ·cases hz
theorem Lay.of_cells {k:Nat}{c:Array Value}:∀(vs:List Value)(off:Nat),(∀v∈vs,v.cells.size=k)→(∀i v j,vs[i]?=some v→j<k→c[off+i*k+j]?=v.cells[j]?)→off+vs.length*k≤c.size→Lay c off k vs
 |[],_,_,_,_=>trivial
 |x::xs,off,h1,h2,h3=>by
  have hlen:(x::xs).length*k=k+xs.length*k:=by simp[Nat.add_mul];omega
  refine⟨by omega,?_,Lay.of_cells xs (off+k) (fun v hv=>h1 v (by simp[hv])) (fun i v j hi hj=>?_) (by omega)⟩
  ·have hx:x.cells.size=k:=h1 x (by simp)
   apply List.ext_getElem?
   intro j
   simp only[List.getElem?_take,List.getElem?_drop]
   split
   ·rename_i hj
    have:=h2 0 x j (by simp) hj
    simp only[Nat.zero_mul,Nat.add_zero]at this
    simpa using this.symm
   ·rw[List.getElem?_eq_none];simp;omega
  ·have:=h2 (i+1) v j (by simpa using hi) hj
   rw[←this]
   congr 1
   rw[Nat.add_mul,Nat.one_mul];omega
theorem Rel.newRow (hR:Rel K ι F σ a w)(j:Nat)(hj:¬K j)(ty k n cap:Nat)(es:List IVal)(vs:List Value)(c:Array Value)(hl:es.length=n)(hc:n≤cap)(hs:cap*k≤c.size)(hr:IRepL w F es vs)(hlay:Lay c 0 k vs):
  Rel (fun i=>K i∨i=j) (fun i=>if i=j then⟨w.heap.size,0,cap,false,none⟩else ι i) F {σ with s:=ups σ.s [(j,some (.row ty k es))]} a (w.alloc (.cells c ty))∧
  Ext K ι F σ w (fun i=>K i∨i=j) (fun i=>if i=j then⟨w.heap.size,0,cap,false,none⟩else ι i) F {σ with s:=ups σ.s [(j,some (.row ty k es))]} (w.alloc (.cells c ty)):=by
 have hkeep:Keeps F w (w.alloc (.cells c ty)):=fun cl b hb=>heap_alloc_old w _ b (hR.foot cl b hb)
 exact hR.alloc j hj (.cells c ty) ⟨w.heap.size,0,cap,false,none⟩ (fun _=>rfl) (.row ty k es) trivial
  (.inr ⟨rfl,c,(0,0),vs,heap_alloc_new w _,fun j _=>by simp,by simpa using hs,by show es.length≤cap;omega,hr.keep hkeep (fun _ _ hb=>hb),hlay⟩)
theorem goes_row (hR:Rel K ι F σ a w){o:Oper}(j:Nat)(hj:¬K j)(hd:∀i,o.dst=some i→i<σ.m){ty k n cap:Nat}{es:List IVal}{vs:List Value}{c:Array Value}
  (hl:es.length=n)(hc:n≤cap)(hs:cap*k≤c.size)(hr:IRepL w F es vs)(hlay:Lay c 0 k vs)
  (hrun:(execOp a.eval o).run P w=.ok (.value (.slice (some ⟨w.heap.size,0,none⟩) n cap)) (w.alloc (.cells c ty))):
  Goes P o a w K ι F σ (fun i=>K i∨i=j) (σ.app o.dst ⟨.own j n,[(j,some (.row ty k es))]⟩):=by
 obtain⟨r1,r2⟩:=hR.newRow j hj ty k n cap es vs c hl hc hs hr hlay
 exact Goes.of (σ1:={σ with s:=ups σ.s [(j,some (.row ty k es))]}) hrun hd rfl ⟨_,F,r1,r2,by rw[AIn];exact .inr rfl,by rw[ARep];simp[Loc.val]⟩
theorem Goes.frozen {o:Oper}{d:Option Nat}{j n ty k:Nat}{es:List IVal}{l:List (Nat×Option Entry)}(hd:∀i,d=some i→i<σ.m)(hl:es.length=n)(hes:ups σ.s l j=some (.row ty k es))
  (h:Goes P o a w K ι F σ K' (σ.app d ⟨.own j n,l⟩)):Goes P o a w K ι F σ K' (σ.app d ⟨.imm (.sl true false k es),l++[(j,none)]⟩):=by
 intro next Q hnext
 refine h next Q (fun ι' F' a' w' hR hdf hE=>?_)
 have he:(σ.app d ⟨.own j n,l⟩).s j=some (.row ty k es):=hes
 obtain⟨F'',g1,g2,g3⟩:=hR.freeze j ty k es he
 have hups:∀(s:Nat→Option Entry)(l:List (Nat×Option Entry)),ups s (l++[(j,none)])=ups (ups s l) [(j,none)]:=by
  intro s l
  induction l generalizing s with
  |nil=>rfl
  |cons p l ih=>simp only[List.cons_append,ups];exact ih _
 refine hnext ι' F'' a' w' ?_ hdf ?_
 ·have hs:(σ.app d ⟨.imm (.sl true false k es),l++[(j,none)]⟩).s=ups (ups σ.s l) [(j,none)]:=hups σ.s l
  refine⟨g1.size,fun i=>?_,?_,?_,?_,g1.foot,g1.col⟩
  ·have:=g1.tmp i
   cases d with
   |none=>simpa[AState.app,put_none]using this
   |some d=>
    simp only[AState.app,put_some]at this⊢
    by_cases hi:i=d
    ·rw[if_pos hi]at this⊢
     refine⟨by rw[AIn];trivial,?_⟩
     obtain⟨_,h2⟩:=this
     rw[ARep]at h2
     rw[ARep,h2.1,←hl]
     exact g3
    ·rw[if_neg hi]at this⊢
     exact this
  ·intro id e h;rw[hs]at h;exact g1.ent id e h
  ·rintro b ⟨id,e,h1,h2,h3⟩;rw[hs]at h1;exact g1.off b ⟨id,e,h1,h2,h3⟩
  ·intro i i' e e' h1 h2;rw[hs]at h1 h2;exact g1.sep i i' e e' h1 h2
 ·have:=hE.trans g2
  refine⟨this.os,this.tape,this.output,this.size,this.frame,fun b hb=>this.own b ?_,this.mono,this.src,this.env,this.names⟩
  obtain⟨id,e,h1,h2,h3⟩:=hb
  refine⟨id,e,?_,h2,h3⟩
  rw[←h1]
  exact congrFun (hups σ.s l).symm id
theorem run_buildSlice (hR:Rel K ι F σ a w){o:Oper}{t len:Nat}{parts:Array (Nat×Operand)}(ho:o.op=.buildSlice t len parts)
  {e k:Nat}{es:List IVal}(hsl:tsl P t=some (e,k))(hk:0<k)(hz:(tz P e).isSome=true)(hix:parts.toList.map (·.1)=List.range len)(hsm:len*k≤2^24)
  (hes:aimmL (parts.toList.map fun p=>σ.ev p.2)=some es)(hwd:es.all (fun d=>(ishape d).map (·.2)=some k)=true):
  ∃(vs:List Value)(c:Array Value),es.length=len∧len*k≤c.size∧IRepL w F es vs∧Lay c 0 k vs∧(execOp a.eval o).run P w=.ok (.value (.slice (some ⟨w.heap.size,0,none⟩) len len)) (w.alloc (.cells c e)):=by
 obtain⟨hu,inf,hinf,hks⟩:=tsl_spec hsl
 obtain⟨vs,hvs⟩:∃vs:List Value,vs=parts.toList.map fun p=>a.eval p.2:=⟨_,rfl⟩
 have hrep:IRepL w F es vs:=by
  have:=(hR.evs (parts.toList.map (·.2))).2
  rw[List.map_map,List.map_map]at this
  rw[hvs]
  exact aimmL_spec hes this
 have hlen:vs.length=len:=by rw[hvs];have:=congrArg List.length hix;simpa using this
 have hsize:∀v∈vs,v.cells.size=k:=by
  intro v hv
  obtain⟨i,hi⟩:=List.mem_iff_getElem?.1 hv
  have hil:i<es.length:=by rw[←hrep.length];exact(List.getElem?_eq_some_iff.1 hi).1
  obtain⟨u,h1,h2⟩:=hrep.at (List.getElem?_eq_getElem hil)
  rw[hi]at h1
  simp only[Option.some.injEq]at h1
  subst h1
  have:=List.all_eq_true.1 hwd es[i] (List.getElem_mem hil)
  simp only[decide_eq_true_eq,Option.map_eq_some_iff]at this
  obtain⟨⟨ag,k'⟩,hs,hk'⟩:=this
  simp only at hk'
  rw[←hk']
  exact(ishape_spec hs h2).1
 have hz':∃zv,inf.zero=some zv:=by
  unfold tz at hz
  rw[hinf]at hz
  split at hz
  ·rename_i i hi
   simp only[Option.some.injEq]at hi
   subst hi
   split at hz
   ·rename_i z hz';exact⟨z,hz'⟩
   ·cases hz
  ·cases hz
 obtain⟨zv,hzv⟩:=hz'
 have hparts:(parts.map fun(i,x)=>(i,a.eval x)).toList=(vs.zipIdx 0).map fun x=>(x.2,x.1):=by
  apply List.ext_getElem?
  intro i
  have h1:(parts.toList.map (·.1))[i]?=(List.range len)[i]?:=by rw[hix]
  simp only[List.getElem?_map]at h1
  simp only[Array.toList_map,List.getElem?_map,List.getElem?_zipIdx,hvs]
  cases hp:parts.toList[i]? with
  |none=>simp
  |some p=>
   rw[hp]at h1
   have hlt:i<len:=by
    rcases Nat.lt_or_ge i len with h|h
    ·exact h
    ·rw[List.getElem?_eq_none (by simpa using h)]at h1;simp at h1
   rw[List.getElem?_range hlt]at h1
   simp at h1
   simp[h1]
 obtain⟨r,hr,hrs,hrk⟩:=Go.Great.fill_dense hk vs 0 ((Array.range (len*k)).map (zv.cells[· % zv.cells.size]!)) hsize (by simp[hlen])
 have hlay:Lay r 0 k vs:=by
  refine Lay.of_cells vs 0 hsize (fun i v jj hi hjj=>?_) (by rw[hrs];simp[hlen])
  have hil:i<vs.length:=(List.getElem?_eq_some_iff.1 hi).1
  have h1:i*k+jj<vs.length*k:=by
   have:(i+1)*k≤vs.length*k:=Nat.mul_le_mul_right k hil
   rw[Nat.add_mul,Nat.one_mul]at this
   omega
  have h2:=hrk (i*k+jj)
  rw[if_pos (by simp;omega)]at h2
  have h3:(i*k+jj)/k=i:=by rw[Nat.mul_comm,Nat.mul_add_div hk,Nat.div_eq_of_lt hjj];omega
  have h4:(i*k+jj) % k=jj:=by rw[Nat.mul_comm,Nat.mul_add_mod,Nat.mod_eq_of_lt hjj]
  rw[h3,h4]at h2
  simpa[hi]using h2
 refine⟨vs,r,by rw[←hrep.length,hlen],by rw[hrs];simp,hrep,hlay,?_⟩
 have hno:¬(len*k>2^24):=by omega
 have hfill:Instr.fill (fun i=>some (i*k,k)) ((Array.range (len*k)).map (zv.cells[· % zv.cells.size]!)) (parts.map fun(i,x)=>(i,a.eval x)).toList=some r:=by rw[hparts];exact hr
 have hsz:(sizeOf e).run P w=.ok k w:=by simp[sizeOf,typeInfo,hinf,hks]
 have hzr:(zeroValue e).run P w=.ok zv w:=by simp[zeroValue,typeInfo,hinf,hzv]
 by_cases h0:len*k=0
 ·have hl0:len=0:=by
   rcases Nat.mul_eq_zero.1 h0 with h|h
   ·exact h
   ·omega
  subst hl0
  have hvs0:vs=[]:=List.length_eq_zero_iff.1 hlen
  have hp0:parts=#[]:=by
   apply Array.eq_empty_of_size_eq_zero
   have:=congrArg List.length hix
   simpa using this
  subst hp0
  have hr0:r=#[]:=Array.eq_empty_of_size_eq_zero (by rw[hrs];simp)
  subst hr0
  have hrange:Array.range 0=#[]:=by apply Array.eq_empty_of_size_eq_zero;simp
  simp[execOp,ho,Instr.buildSlice,run_underlying hu,hsz,Instr.fill,newRow,hrange]
 ·simp only[execOp,ho,Instr.buildSlice,run_underlying hu,hsz,Sem.run_bind,Sem.run_pure,Result.andThen_ok,Sem.run_ite,if_neg hno,if_neg h0,hzr,hfill,newRow,run_newObj]
  simp
theorem goes_buildSlice (hR:Rel K ι F σ a w){o:Oper}{t len:Nat}{parts:Array (Nat×Operand)}(ho:o.op=.buildSlice t len parts)(j:Nat)(hj:¬K j)(hd:∀i,o.dst=some i→i<σ.m)
  {e k:Nat}{es:List IVal}(hsl:tsl P t=some (e,k))(hk:0<k)(hz:(tz P e).isSome=true)(hix:parts.toList.map (·.1)=List.range len)(hsm:len*k≤2^24)
  (hes:aimmL (parts.toList.map fun p=>σ.ev p.2)=some es)(hwd:es.all (fun d=>(ishape d).map (·.2)=some k)=true):
  Goes P o a w K ι F σ (fun i=>K i∨i=j) (σ.app o.dst ⟨.own j len,[(j,some (.row e k es))]⟩):=by
 obtain⟨vs,c,h1,h2,h3,h4,h5⟩:=run_buildSlice hR ho hsl hk hz hix hsm hes hwd
 exact goes_row hR j hj hd (cap:=len) (c:=c) h1 (Nat.le_refl _) h2 h3 h4 h5
theorem goes_buildNil (hR:Rel K ι F σ a w){o:Oper}{t:Nat}{parts:Array (Nat×Operand)}(ho:o.op=.buildSlice t 0 parts)(j:Nat)(hj:¬K j)(hd:∀i,o.dst=some i→i<σ.m)
  {e k:Nat}{es:List IVal}(hsl:tsl P t=some (e,k))(hk:0<k)(hz:(tz P e).isSome=true)(hix:parts.toList.map (·.1)=List.range 0)(hsm:0*k≤2^24)
  (hes:aimmL (parts.toList.map fun p=>σ.ev p.2)=some es)(hwd:es.all (fun d=>(ishape d).map (·.2)=some k)=true):
  Goes P o a w K ι F σ (fun i=>K i∨i=j) (σ.app o.dst ⟨.imm (.sl true true k []),[(j,some (.row e k [])),(j,none)]⟩):=by
 obtain⟨vs,c,h1,h2,h3,h4,h5⟩:=run_buildSlice hR ho hsl hk hz hix hsm hes hwd
 obtain rfl:es=[]:=List.length_eq_zero_iff.1 h1
 obtain⟨r1,r2⟩:=hR.newRow j hj e k 0 0 [] vs c rfl (Nat.le_refl _) h2 h3 h4
 obtain⟨r3,r4⟩:=r1.drop j
 have:=Goes.of (P:=P) (F:=F) (ι:=ι) (K:=K) (σ:=σ) (σ1:={σ with s:=ups σ.s [(j,some (.row e k [])),(j,none)]}) (x:=.imm (.sl true true k [])) h5 hd rfl ⟨_,F,r3,r2.trans r4,by rw[AIn];trivial,by rw[ARep,IRep];exact⟨_,0,rfl,fun _=>rfl,Nat.le_refl _,fun h=>absurd rfl h⟩⟩
 exact this
theorem goes_buildFull (hR:Rel K ι F σ a w){o:Oper}{t len:Nat}{parts:Array (Nat×Operand)}(ho:o.op=.buildSlice t len parts)(j:Nat)(hj:¬K j)(hd:∀i,o.dst=some i→i<σ.m)
  {e k:Nat}{es:List IVal}(hsl:tsl P t=some (e,k))(hk:0<k)(hz:(tz P e).isSome=true)(hix:parts.toList.map (·.1)=List.range len)(hsm:len*k≤2^24)
  (hes:aimmL (parts.toList.map fun p=>σ.ev p.2)=some es)(hwd:es.all (fun d=>(ishape d).map (·.2)=some k)=true):
  Goes P o a w K ι F σ (fun i=>K i∨i=j) (σ.app o.dst ⟨.imm (.sl true true k es),[(j,some (.row e k es)),(j,none)]⟩):=by
 obtain⟨vs,c,h1,h2,h3,h4,h5⟩:=run_buildSlice hR ho hsl hk hz hix hsm hes hwd
 obtain⟨r1,r2⟩:=hR.newRow j hj e k len len es vs c h1 (Nat.le_refl _) h2 h3 h4
 obtain⟨F',g1,g2,g3⟩:=r1.freeze j e k es (by simp[ups])
 refine Goes.of (P:=P) (F:=F) (ι:=ι) (K:=K) (σ:=σ) (σ1:={σ with s:=ups σ.s [(j,some (.row e k es)),(j,none)]}) (x:=.imm (.sl true true k es)) h5 hd rfl ⟨_,F',g1,r2.trans g2,by rw[AIn];trivial,?_⟩
 rw[ARep]
 rw[IRep]at g3⊢
 obtain⟨ad,cap,e1,e2,e3,e4⟩:=g3
 simp only[if_true,Loc.val,h1]at e1
 simp only[Bool.false_eq_true,if_false,Value.slice.injEq]at e1
 obtain⟨rfl,e1,rfl⟩:=e1
 exact⟨_,len,by rw[h1],fun _=>h1.symm,by omega,e4⟩
end
end Go.Abs
namespace Go.Abs
open Go.RowKit
variable {P:Program}
section
variable {K K':Nat→Prop} {ι ι':Nat→Loc} {F F':Foot} {σ σ':AState} {a a':Act} {w w':World}
def bnd1 (σ:AState)(x:Operand):Option Nat:=
 match σ.ev x with
 |.imm (.v (.int _ n))=>if 0≤n then some n.toNat else none
 |_=>none
def bnd (σ:AState):Option Operand→Option (Option Nat)
 |none=>some none
 |some x=>(bnd1 σ x).map some
theorem bnd_some (hR:Rel K ι F σ a w){x:Operand}{n:Nat}(h:bnd1 σ x=some n):∃k,a.eval x=.int k n:=by
 unfold bnd1 at h
 split at h
 ·rename_i k m hx
  split at h
  ·rename_i hm
   simp only[Option.some.injEq]at h
   have:=(hR.ev x).2
   rw[hx,ARep,IRep]at this
   exact⟨k,by rw[this.1,←h];simp;omega⟩
  ·cases h
 ·cases h
theorem bnd_cases {x:Option Operand}{l:Option Nat}(h:bnd σ x=some l):(x=none∧l=none)∨∃y n,x=some y∧l=some n∧bnd1 σ y=some n:=by
 cases x with
 |none=>simp[bnd]at h;exact .inl ⟨rfl,h.symm⟩
 |some y=>
  simp only[bnd,Option.map_eq_some_iff]at h
  obtain⟨n,h1,rfl⟩:=h
  exact .inr ⟨y,n,rfl,rfl,h1⟩
theorem run_sliceBound {v:Value}{k:IntKind}{n y:Nat}{code:BoundsCode}(hv:v=.int k n)(h:n≤y):(Instr.sliceBound v y code).run P w=.ok n w:=by
 subst hv
 simp[Instr.sliceBound,asIntOf,h]
theorem run_sliceBounds (hR:Rel K ι F σ a w){lo hi mx:Option Operand}{isS:Bool}{len cap:Nat}{l h m:Option Nat}(hl:bnd σ lo=some l)(hh:bnd σ hi=some h)(hm:bnd σ mx=some m)
  (h1:m.getD cap≤cap)(h2:h.getD len≤m.getD cap)(h3:l.getD 0≤h.getD len)(h4:mx.isSome=true→hi.isSome=true):
  (Instr.sliceBounds isS len cap (lo.map a.eval) (hi.map a.eval) (mx.map a.eval)).run P w=.ok (l.getD 0,h.getD len,m.getD cap) w:=by
 rcases bnd_cases hl with⟨rfl,rfl⟩|⟨xl,nl,rfl,rfl,el⟩<;>rcases bnd_cases hh with⟨rfl,rfl⟩|⟨xh,nh,rfl,rfl,eh⟩<;>rcases bnd_cases hm with⟨rfl,rfl⟩|⟨xm,nm,rfl,rfl,em⟩
 all_goals simp only[Option.getD_none,Option.getD_some,Option.isSome_some,Option.isSome_none,Option.map_some,Option.map_none]at h1 h2 h3 h4⊢
 ·simp[Instr.sliceBounds]
 ·simp at h4
 ·obtain⟨k,hk⟩:=bnd_some hR eh
  simp[Instr.sliceBounds,run_sliceBound hk h2]
 ·obtain⟨k,hk⟩:=bnd_some hR eh
  obtain⟨k',hk'⟩:=bnd_some hR em
  simp[Instr.sliceBounds,run_sliceBound hk h2,run_sliceBound hk' h1]
 ·obtain⟨k,hk⟩:=bnd_some hR el
  simp[Instr.sliceBounds,run_sliceBound hk h3]
 ·simp at h4
 ·obtain⟨k,hk⟩:=bnd_some hR eh
  obtain⟨k',hk'⟩:=bnd_some hR el
  simp[Instr.sliceBounds,run_sliceBound hk h2,run_sliceBound hk' h3]
 ·obtain⟨k,hk⟩:=bnd_some hR eh
  obtain⟨k',hk'⟩:=bnd_some hR el
  obtain⟨k'',hk''⟩:=bnd_some hR em
  simp[Instr.sliceBounds,run_sliceBound hk h2,run_sliceBound hk' h3,run_sliceBound hk'' h1]
def aslice (P:Program)(t:TypeId)(x:AVal)(l h m:Option Nat):Option AVal:=
 match tsl P t with
 |some (_,k)=>match x with
  |.imm (.sl c _ k' es)=>
   if k'=k∧l.getD 0≤h.getD es.length∧h.getD es.length≤es.length∧(m=none∨m=h)then some (.imm (.sl c m.isSome k ((es.take (h.getD es.length)).drop (l.getD 0))))else none
  |.win id off n=>if l.getD 0<h.getD n∧h.getD n≤n∧m=none∧k=1 then some (.win id (off+l.getD 0) (h.getD n-l.getD 0))else none
  |_=>none
 |none=>match tarr P t with
  |some (n,k)=>match x with
   |.ptr id off=>if k=1∧l.getD 0≤h.getD n∧h.getD n≤n∧m=none∧l.getD 0<n then some (.win id (off+l.getD 0) (h.getD n-l.getD 0))else none
   |_=>none
  |none=>match P.underlying t,x with
   |some .string,.imm (.v (.string s))=>if l.getD 0≤h.getD s.size∧h.getD s.size≤s.size∧m=none then some (.imm (.v (.string (s.extract (l.getD 0) (h.getD s.size)))))else none
   |_,_=>none
theorem goes_slice (hR:Rel K ι F σ a w){o:Oper}{t:TypeId}{x:Operand}{lo hi mx:Option Operand}(ho:o.op=.slice t x lo hi mx)(hd:∀i,o.dst=some i→i<σ.m)(hK:∀i,K i→K' i)
  {l h m:Option Nat}(hl:bnd σ lo=some l)(hh:bnd σ hi=some h)(hm:bnd σ mx=some m)(h4:mx.isSome=true→hi.isSome=true)(hms:m.isSome=true→h.isSome=true)
  {y:AVal}(hy:aslice P t (σ.ev x) l h m=some y):Goes P o a w K ι F σ K' (σ.app o.dst ⟨y,[]⟩):=by
 obtain⟨e1,e2⟩:=hR.ev x
 unfold aslice at hy
 split at hy
 ·rename_i e k hsl
  obtain⟨hu,inf,hinf,hks⟩:=tsl_spec hsl
  have hsz:(sizeOf e).run P w=.ok k w:=by simp[sizeOf,typeInfo,hinf,hks]
  have key:∀ad len cap,a.eval x=.slice ad len cap→l.getD 0≤h.getD len→h.getD len≤m.getD cap→m.getD cap≤cap→
    (execOp a.eval o).run P w=.ok (.value (.slice (if m.getD cap=l.getD 0 then ad else ad.map (·.add (l.getD 0*k))) (h.getD len-l.getD 0) (m.getD cap-l.getD 0))) w:=by
   intro ad len cap hx h1 h2 h3
   have hb:=run_sliceBounds (P:=P) hR (isS:=true) (len:=len) (cap:=cap) hl hh hm h3 h2 h1 h4
   simp[execOp,ho,Instr.sliceAt,run_underlying hu,Instr.slice,hx,hb,hsz]
  split at hy
  ·rename_i c f k' es hx
   split at hy
   ·rename_i hc
    obtain⟨rfl,h1,h2,h3⟩:=hc
    simp only[Option.some.injEq]at hy;subst hy
    rw[hx]at e2
    rw[ARep,IRep]at e2
    obtain⟨ad,cap,f1,f2,f3,f4⟩:=e2
    have hmc:h.getD es.length≤m.getD cap∧m.getD cap≤cap:=by
     rcases h3 with rfl|rfl
     ·simp;omega
     ·cases m with
      |none=>simp;omega
      |some q=>simp at h2⊢;omega
    refine Goes.same hR (key _ _ _ f1 h1 hmc.1 hmc.2) hd hK (by rw[AIn];trivial) ?_
    have hlen:((es.take (h.getD es.length)).drop (l.getD 0)).length=h.getD es.length-l.getD 0:=by simp;omega
    rw[ARep,IRep,hlen]
    refine⟨_,_,rfl,fun hs=>?_,by omega,fun hne=>?_⟩
    ·rcases h3 with rfl|rfl
     ·simp at hs
     ·cases m with
      |none=>simp at hs
      |some q=>simp
    ·have hgt:l.getD 0<h.getD es.length:=by
      rcases Nat.lt_or_ge (l.getD 0) (h.getD es.length)with h|h
      ·exact h
      ·exact absurd (List.length_eq_zero_iff.1 (by rw[hlen];omega)) hne
     obtain⟨b,off,cs,ty,fr,vs,rfl,g2,g3,g4,g5⟩:=f4 (by rintro rfl;exact hne (by simp))
     refine⟨b,off+l.getD 0*k',cs,ty,fr,(vs.take (h.getD es.length)).drop (l.getD 0),?_,g2,g3,(g4.take _).drop _,(g5.take _).drop _⟩
     rw[if_neg (by omega)]
     simp[Addr.add_mk]
   ·cases hy
  ·rename_i id off n hx
   split at hy
   ·rename_i hc
    obtain⟨h1,h2,rfl,rfl⟩:=hc
    simp only[Option.some.injEq]at hy;subst hy
    rw[hx]at e1 e2
    rw[ARep]at e2
    obtain⟨cap,f1,f2⟩:=e2
    refine Goes.same hR (key _ _ _ f1 (by omega) (by simp;omega) (by simp)) hd hK e1 ?_
    rw[ARep]
    by_cases hc:cap=l.getD 0
    ·omega
    ·refine⟨cap-l.getD 0,?_,by omega⟩
     simp[hc,Addr.add_mk]
   ·cases hy
  ·cases hy
 ·rename_i hns
  split at hy
  ·rename_i n k har
   obtain⟨e,hu,inf,hinf,hks⟩:=tarr_spec har
   have hsz:(sizeOf e).run P w=.ok k w:=by simp[sizeOf,typeInfo,hinf,hks]
   split at hy
   ·rename_i id off hx
    split at hy
    ·rename_i hc
     obtain⟨rfl,h1,h2,rfl,h3⟩:=hc
     simp only[Option.some.injEq]at hy;subst hy
     rw[hx]at e1 e2
     rw[ARep]at e2
     have hb:=run_sliceBounds (P:=P) hR (isS:=false) (len:=n) (cap:=n) hl hh hm (by simp) (by simpa using h2) h1 h4
     have hne:¬n=l.getD 0:=by omega
     simp only[Option.getD_none]at hb
     refine Goes.same hR (u:=.slice (some ⟨(ι id).blk,off+l.getD 0,none⟩) (h.getD n-l.getD 0) (n-l.getD 0)) ?_ hd hK e1 (by rw[ARep];exact⟨_,rfl,by omega⟩)
     simp[execOp,ho,Instr.sliceAt,run_underlying hu,e2,Instr.sureAddr,hb,hsz,hne,Addr.add_mk]
    ·cases hy
   ·cases hy
  ·split at hy
   ·rename_i s hu hx
    split at hy
    ·rename_i hc
     obtain⟨h1,h2,rfl⟩:=hc
     simp only[Option.some.injEq]at hy;subst hy
     rw[hx]at e2
     rw[ARep,IRep]at e2
     have hmx:mx=none:=by
      rcases bnd_cases hm with⟨rfl,_⟩|⟨_,_,_,h',_⟩
      ·rfl
      ·cases h'
     subst hmx
     have hb:=run_sliceBounds (P:=P) hR (isS:=false) (len:=s.size) (cap:=s.size) (mx:=none) hl hh hm (by simp) (by simpa using h2) h1 (by simp)
     simp only[Option.getD_none,Option.map_none]at hb
     refine Goes.same hR (u:=.string (s.extract (l.getD 0) (h.getD s.size))) ?_ hd hK (by rw[AIn];trivial) (by rw[ARep,IRep];exact⟨rfl,rfl⟩)
     simp[execOp,ho,Instr.sliceAt,run_underlying hu,Instr.slice,e2.1,hb]
    ·cases hy
   ·cases hy
end
end Go.Abs
namespace Go.Abs
open Go.RowKit
variable {P:Program}
section
variable {K K':Nat→Prop} {ι ι':Nat→Loc} {F F':Foot} {σ σ':AState} {a a':Act} {w w':World}
def bytesI (s:ByteArray):List IVal:=s.data.toList.map fun b=>.v (.int .u8 b.toNat)
def asrc (σ:AState)(k:Nat):AVal→Option (List IVal)
 |.imm (.sl _ _ k' es)=>if k'=k then some es else none
 |.imm (.v (.slice none 0 0))=>some []
 |.imm (.v (.string s))=>if k=1 then some (bytesI s)else none
 |.own id n=>match σ.s id with
  |some (.row _ k' es)=>if k'=k∧es.length=n then some es else none
  |_=>none
 |.win id off n=>match σ.s id with
  |some (.box _ x)=>match acells x with
   |some cs=>if k=1∧off+n≤cs.length then(match aimmL ((cs.drop off).take n)with|some ds=>if ds.all ione then some ds else none|none=>none)else none
   |none=>none
  |_=>none
 |_=>none
theorem loadCells_row {b off n ty:Nat}{c:Array Value}{fr:Nat×Nat}(hb:w.heap[b]?=some (.cells c ty fr))(hn:off+n≤c.size):
  (loadCells ⟨b,off,none⟩ n).run P w=.ok ((c.toList.drop off).take n).toArray w:=by
 have hl:((c.toList.drop off).take n).length=n:=by simp;omega
 have:=run_loadCells_list (P:=P) w ⟨b,off,none⟩ ((c.toList.drop off).take n) (fun j v hv=>by rw[Addr.add_mk];exact rangeAt_of hb j v hv)
 rw[hl]at this
 exact this
theorem Lay.shift {c c':Array Value}{k:Nat}(hk:0<k)(off off':Nat):∀{vs:List Value}(i:Nat),Lay c (off+i) k vs→(∀j,j<i+vs.length*k→c'[off'+j]?=c[off+j]?)→Lay c' (off'+i) k vs
 |[],_,_,_=>trivial
 |x::xs,i,h,hs=>by
  obtain⟨h1,h2,h3⟩:=h
  have hlen:(x::xs).length*k=k+xs.length*k:=by simp[Nat.add_mul];omega
  have hlt:∀j,j<k→off'+i+j<c'.size:=by
   intro j hj
   have:=hs (i+j) (by rw[hlen];omega)
   rcases Nat.lt_or_ge (off'+i+j) c'.size with h|h
   ·exact h
   ·rw[Array.getElem?_eq_none (by omega)]at this
    have hc:off+(i+j)<c.size:=by omega
    simp[hc]at this
  refine⟨?_,?_,?_⟩
  ·have:=hlt (k-1) (by omega);omega
  ·rw[h2]
   apply List.ext_getElem?
   intro j
   simp only[List.getElem?_take,List.getElem?_drop]
   split
   ·have:=hs (i+j) (by rw[hlen];omega)
    simp only[Array.getElem?_toList]
    rw[Nat.add_assoc,Nat.add_assoc]
    exact this.symm
   ·rfl
  ·rw[Nat.add_assoc]at h3⊢
   exact Lay.shift hk off off' (i+k) h3 (fun j hj=>hs j (by rw[hlen];omega))
theorem Lay.size :∀{c:Array Value}{k:Nat}{vs:List Value}{off:Nat},off≤c.size→Lay c off k vs→off+vs.length*k≤c.size
 |c,k,[],off,h0,_=>by simpa using h0
 |c,k,x::xs,off,_,h=>by
  have:=Lay.size h.1 h.2.2
  simp[Nat.add_mul]at this⊢;omega
structure ASrc (P:Program)(w:World)(F:Foot)(v:Value)(k:Nat)(es:List IVal)(cells:Array Value)(vs:List Value):Prop where
 len:∀w':World,(Builtin.lenOf v).run P w'=.ok es.length w'
 runs:∀w':World,w'.heap=w.heap→(Builtin.firstCells k es.length v).run P w'=.ok cells w'
 size:cells.size=es.length*k
 rep:IRepL w F es vs
 lay:Lay cells 0 k vs
 one:∀u∈cells.toList,u.oneCell'=true
theorem lay_one :∀{es:List IVal}{vs:List Value}{c:Array Value}{k off:Nat},IRepL w F es vs→Lay c off k vs→(∀d∈es,(icells d).isSome=true)→∀u∈(c.toList.drop off).take (vs.length*k),u.oneCell'=true
 |[],vs,c,k,off,h,_,_=>by rw[IRepL]at h;subst h;simp
 |d::es,vs,c,k,off,h,hl,hd=>by
  rw[IRepL]at h
  obtain⟨x,xs,rfl,h1,h2⟩:=h
  obtain⟨l1,l2,l3⟩:=hl
  intro u hu
  have hlen:(x::xs).length*k=k+xs.length*k:=by simp[Nat.add_mul];omega
  rw[hlen,List.take_add,List.mem_append]at hu
  rcases hu with hu|hu
  ·rw[←l2]at hu
   obtain⟨ds,hds⟩:=Option.isSome_iff_exists.1 (hd d (by simp))
   have g1:=icells_spec hds h1
   have g2:=icells_ione hds h1
   have:ARepL w F (fun _=>(default:Loc)) (ds.map .imm) x.cells.toList:=ARepL.imm g1
   exact aones_spec (cs:=ds.map .imm) (by simpa[List.all_map,Function.comp_def,aone]using g2) this u hu
  ·rw[List.drop_drop]at hu
   exact lay_one h2 l3 (fun d hd'=>hd d (by simp[hd'])) u hu
theorem asrc_spec (hR:Rel K ι F σ a w){k:Nat}(hk:0<k){x:AVal}{v:Value}(hx:AIn K x)(hv:ARep w F ι x v){es:List IVal}(h:asrc σ k x=some es)(hes:∀d∈es,(icells d).isSome=true):
  ∃cells vs,ASrc P w F v k es cells vs:=by
 have row:∀(b off len cap ty:Nat)(c:Array Value)(fr:Nat×Nat)(vs:List Value),v=.slice (some ⟨b,off,none⟩) len cap→len=es.length→off≤c.size→w.heap[b]?=some (.cells c ty fr)→IRepL w F es vs→Lay c off k vs→∃cells vs,ASrc P w F v k es cells vs:=by
  intro b off len cap ty c fr vs hv hlen hoff hb hr hl
  have hvl:=hr.length
  have hsz:=Lay.size hoff hl
  subst hlen
  refine⟨((c.toList.drop off).take (es.length*k)).toArray,vs,by rw[hv];exact fun _=>rfl,by rw[hv];exact fun w' hw'=>loadCells_row (by rw[hw'];exact hb) (by rw[←hvl];exact hsz),by simp;rw[←hvl];omega,hr,?_,?_⟩
  ·refine Lay.shift hk off 0 (i:=0) hl (fun j hj=>?_)
   simp only[Nat.zero_add]at hj⊢
   rw[List.getElem?_toArray,List.getElem?_take_of_lt (by rw[←hvl];exact hj),List.getElem?_drop]
   simp
  ·have:=lay_one hr hl hes
   rw[hvl]at this
   simpa using this
 unfold asrc at h
 split at h
 ·rename_i c f k' es'
  split at h
  ·rename_i hkk
   subst hkk
   simp only[Option.some.injEq]at h;subst h
   rw[ARep,IRep]at hv
   obtain⟨ad,cap,e1,e2,e3,e4⟩:=hv
   by_cases hne:es'=[]
   ·subst hne
    subst e1
    refine⟨#[],[],fun _=>rfl,fun _ _=>?_,by simp,by rw[IRepL],trivial,by simp⟩
    cases ad with
    |none=>rfl
    |some ad=>simp[Builtin.firstCells,loadCells,loadCellsFrom]
   ·obtain⟨b,off,cs,ty,fr,vs,rfl,g2,g3,g4,g5⟩:=e4 hne
    have hvs:vs≠[]:=by rintro rfl;exact hne (List.length_eq_zero_iff.1 (by rw[←g4.length];rfl))
    refine row b off _ cap ty cs fr vs e1 rfl ?_ g3 g4 g5
    cases vs with
    |nil=>exact absurd rfl hvs
    |cons x xs=>have:=g5.1;omega
  ·cases h
 ·simp only[Option.some.injEq]at h;subst h
  rw[ARep,IRep]at hv
  rw[hv.1]
  exact⟨#[],[],fun _=>rfl,fun _ _=>rfl,by simp,by rw[IRepL],trivial,by simp⟩
 ·rename_i s
  split at h
  ·rename_i hk1
   subst hk1
   simp only[Option.some.injEq]at h;subst h
   rw[ARep,IRep]at hv
   rw[hv.1]
   have hlen:(bytesI s).length=s.size:=by simp[bytesI]
   have hrep:∀l:List UInt8,IRepL w F (l.map fun b=>.v (.int .u8 b.toNat)) (l.map fun b=>.int .u8 b.toNat):=by
    intro l
    induction l with
    |nil=>simp[IRepL]
    |cons b l ih=>simp only[List.map_cons];rw[IRepL];exact⟨_,_,rfl,by rw[IRep];exact⟨rfl,rfl⟩,ih⟩
   refine⟨s.data.map (fun b:UInt8=>(.int .u8 ((b.toNat:Nat):Int):Value)),s.data.toList.map (fun b:UInt8=>(.int .u8 ((b.toNat:Nat):Int):Value)),?_,?_,by simp[bytesI],hrep s.data.toList,?_,?_⟩
   ·intro w';simp[Builtin.lenOf,hlen]
   ·intro w' _;rw[hlen]
    have:s.extract 0 s.size=s:=by
     apply ByteArray.ext
     simp
    simp[Builtin.firstCells,this]
   ·refine Lay.of_cells _ 0 (fun v hv=>?_) (fun i v j hi hj=>?_) (by simp)
    ·simp only[List.mem_map]at hv;obtain⟨b,_,rfl⟩:=hv;rfl
    ·obtain rfl:j=0:=by omega
     simp only[List.getElem?_map,Option.map_eq_some_iff]at hi
     obtain⟨b,hb,rfl⟩:=hi
     have hb':s.data[i]?=some b:=by simpa using hb
     simp[hb',Value.cells]
   ·intro u hu
    simp at hu
    obtain⟨b,_,rfl⟩:=hu
    rfl
  ·cases h
 ·rename_i id n
  split at h
  ·rename_i ty k' es' he
   split at h
   ·rename_i hc
    obtain⟨rfl,rfl⟩:=hc
    simp only[Option.some.injEq]at h;subst h
    rw[ARep]at hv
    obtain⟨e1,e2⟩:=hv
    obtain⟨_,_,hr⟩:=hR.ent id _ he
    rcases hr with⟨hn,rfl⟩|⟨hn,c,fr,vs,h1,h2,h3,h4,h5,h6⟩
    ·rw[e1]
     refine⟨#[],[],fun _=>by simp[Loc.val,hn,Builtin.lenOf],fun w0 _=>?_,by simp,by rw[IRepL],trivial,by simp⟩
     cases hz:(ι id).z with
     |none=>simp[Loc.val,hn,hz,Builtin.firstCells]
     |some ad=>
      have:=run_loadCells_list (P:=P) w0 ad [] (fun j v hv=>by simp at hv)
      simp only[List.length_nil]at this
      simp[Loc.val,hn,hz,Builtin.firstCells,this]
    ·exact row (ι id).blk (ι id).off _ (ι id).cap ty c fr vs (by rw[e1];simp[Loc.val,hn]) rfl (by omega) h1 h5 h6
   ·cases h
  ·cases h
 ·rename_i id off n
  split at h
  ·rename_i ty x he
   split at h
   ·rename_i cs hcs
    split at h
    ·rename_i hc
     obtain⟨rfl,hle⟩:=hc
     split at h
     ·rename_i ds hds
      split at h
      ·rename_i hone
       simp only[Option.some.injEq]at h;subst h
       obtain⟨_,_,hn,u,g3,g4⟩:=hR.ent id _ he
       rw[ARep]at hv
       obtain⟨cap,e1,e2⟩:=hv
       have hc:=acells_spec hcs g4
       have hcl:=hc.length
       have hd:=aimmL_spec hds ((hc.drop off).take n)
       have hdl:=hd.length
       have hnl:ds.length=n:=by rw[←hdl];simp at hcl⊢;omega
       refine row _ off n cap ty u.cells (0,0) _ e1 hnl.symm (by simp at hcl;omega) g3 hd ?_
       have hall:=hone
       refine Lay.of_cells _ off (fun v hv=>?_) (fun i v j hi hj=>?_) (by simp at hcl⊢;omega)
       ·obtain⟨i,hi⟩:=List.mem_iff_getElem?.1 hv
        have hil:i<ds.length:=by rw[←hdl];exact(List.getElem?_eq_some_iff.1 hi).1
        obtain⟨u',q1,q2⟩:=hd.at (List.getElem?_eq_getElem hil)
        rw[hi]at q1;simp only[Option.some.injEq]at q1;subst q1
        have:=ione_spec (List.all_eq_true.1 hall ds[i] (List.getElem_mem hil)) q2
        cases v<;>simp_all[Value.cells,Value.oneCell']
       ·obtain rfl:j=0:=by omega
        have hil:i<ds.length:=by rw[←hdl];exact(List.getElem?_eq_some_iff.1 hi).1
        obtain⟨u',q1,q2⟩:=hd.at (List.getElem?_eq_getElem hil)
        rw[hi]at q1;simp only[Option.some.injEq]at q1;subst q1
        have h1:=ione_spec (List.all_eq_true.1 hall ds[i] (List.getElem_mem hil)) q2
        have hv0:v.cells[0]?=some v:=by cases v<;>simp_all[Value.cells,Value.oneCell']
        rw[hv0,←hi,List.getElem?_take_of_lt (by omega),List.getElem?_drop]
        simp
      ·cases h
     ·cases h
    ·cases h
   ·cases h
  ·cases h
 ·cases h
theorem Rel.move (hR:Rel K ι F σ a w)(id j:Nat)(hj:¬K j)(e e':Entry)(he:σ.s id=some e)(l':Loc)(hb:l'.nil=false→(ι id).nil=false∧l'.blk=(ι id).blk)(hin:EIn (fun i=>K i∨i=j) e')
  (hr:ERep w F (fun i=>if i=j then l' else ι i) l' e'):
  Rel (fun i=>K i∨i=j) (fun i=>if i=j then l' else ι i) F {σ with s:=ups σ.s [(id,none),(j,some e')]} a w∧
  Ext K ι F σ w (fun i=>K i∨i=j) (fun i=>if i=j then l' else ι i) F {σ with s:=ups σ.s [(id,none),(j,some e')]} w:=by
 have hji:id≠j:=fun h=>hj (h ▸ (hR.ent id e he).1)
 have henv:∀i,K i→(fun i=>if i=j then l' else ι i) i=ι i:=fun i hi=>by
  show (if i=j then l' else ι i)=ι i
  rw[if_neg (fun ee:i=j=>hj (by rw[←ee];exact hi))]
 have hkeep:Keeps F w w:=fun _ _ _=>rfl
 have hs:∀i x,ups σ.s [(id,none),(j,some e')] i=some x→(i=j∧x=e')∨(i≠j∧i≠id∧σ.s i=some x):=by
  intro i x hx
  simp only[ups]at hx
  by_cases h1:i=j
  ·subst h1;simp at hx;exact .inl ⟨rfl,hx.symm⟩
  ·rw[if_neg h1]at hx
   by_cases h2:i=id
   ·subst h2;simp at hx
   ·rw[if_neg h2]at hx;exact .inr ⟨h1,h2,hx⟩
 have hown:∀b,Owned (fun i=>if i=j then l' else ι i) {σ with s:=ups σ.s [(id,none),(j,some e')]} b→Owned ι σ b:=by
  rintro b ⟨i,x,h1,h2,h3⟩
  rcases hs i x h1 with⟨rfl,rfl⟩|⟨h4,h5,h6⟩
  ·simp only[if_true]at h2 h3
   obtain⟨g1,g2⟩:=hb h2
   exact⟨id,e,he,g1,by rw[←g2];exact h3⟩
  ·simp only[if_neg h4]at h2 h3
   exact⟨i,x,h6,h2,h3⟩
 refine⟨⟨hR.size,fun i=>?_,fun i x hx=>?_,fun b hb'=>hR.off b (hown b hb'),?_,hR.foot,hR.col⟩,
  ⟨rfl,rfl,rfl,Nat.le_refl _,fun _ _ _=>rfl,fun b hb'=>.inl (hown b hb'),fun _ _ hb=>hb,fun _ _ hb=>.inl hb,henv,fun _ hi=>.inl hi⟩⟩
 ·exact⟨AIn.mono (fun _ hi=>.inl hi) _ (hR.tmp i).1,ARep.keep hkeep (fun _ _ hb=>hb) henv _ _ (hR.tmp i).1 (hR.tmp i).2⟩
 ·rcases hs i x hx with⟨rfl,rfl⟩|⟨h4,h5,h6⟩
  ·exact⟨.inr rfl,hin,by simpa using hr⟩
  ·obtain⟨g1,g2,g3⟩:=hR.ent i x h6
   refine⟨.inl g1,EIn.mono (fun _ hi=>.inl hi) _ g2,?_⟩
   simp only[if_neg h4]
   exact ERep.keep hkeep (fun _ _ hb=>hb) henv (fun _=>rfl) x g2 g3
 ·intro i k ei ek hi hk hni hnk heq
  rcases hs i ei hi with⟨rfl,rfl⟩|⟨h4,h5,h6⟩<;>rcases hs k ek hk with⟨rfl,rfl⟩|⟨h4',h5',h6'⟩
  ·rfl
  ·simp only[if_true,if_neg h4']at hni hnk heq
   obtain⟨g1,g2⟩:=hb hni
   exact absurd (hR.sep id k e ek he h6' g1 hnk (by rw[←g2];exact heq)) (fun h=>h5' h.symm)
  ·simp only[if_true,if_neg h4]at hni hnk heq
   obtain⟨g1,g2⟩:=hb hnk
   exact absurd (hR.sep i id ei e h6 he hni g1 (by rw[←g2];exact heq)) h5
  ·simp only[if_neg h4,if_neg h4']at hni hnk heq
   exact hR.sep i k ei ek h6 h6' hni hnk heq
def tel (P:Program)(e k:Nat):Bool:=
 match P.info? e with
 |some i=>decide (i.size=k∧0<k∧i.bytes≤65536)&&(match i.zero with|some z=>decide (z.cells.size=k)|none=>false)
 |none=>false
theorem tel_spec {e k:Nat}(h:tel P e k=true):∃i z,P.info? e=some i∧i.size=k∧0<k∧i.bytes≤65536∧i.zero=some z∧z.cells.size=k:=by
 unfold tel at h
 split at h
 ·rename_i i hi
  simp only[Bool.and_eq_true,decide_eq_true_eq]at h
  obtain⟨⟨h1,h2,h3⟩,h4⟩:=h
  split at h4
  ·rename_i z hz;simp only[decide_eq_true_eq]at h4;exact⟨i,z,hi,h1,h2,h3,hz,h4⟩
  ·cases h4
 ·cases h
theorem growBy_le (need:Nat):∀(r c:Nat),c≤need→Builtin.growBy need r c≤2*need+192
 |0,c,h=>by simp[Builtin.growBy];omega
 |r+1,c,h=>by
  unfold Builtin.growBy
  split
  ·omega
  ·rename_i hc
   by_cases h':c+(c+768)/4≤need
   ·exact growBy_le need r _ h'
   ·cases r with
    |zero=>simp[Builtin.growBy];omega
    |succ r=>unfold Builtin.growBy;rw[if_pos (by omega)];omega
theorem nextcap_le {need cap:Nat}(h:cap<need):Builtin.nextslicecap need cap≤2*need+192:=by
 unfold Builtin.nextslicecap
 split
 ·omega
 ·split
  ·omega
  ·exact growBy_le need 4 cap (by omega)
abbrev lim :Nat:=1000000
def tsrc (P:Program)(t:TypeId):Bool:=
 match P.underlying t with
 |some (.slice _)=>true
 |some .string=>true
 |_=>false
theorem tsrc_spec {t:TypeId}(h:tsrc P t=true):(∃e',P.underlying t=some (.slice e'))∨P.underlying t=some .string:=by
 unfold tsrc at h
 split at h
 ·rename_i e he;exact .inl ⟨e,he⟩
 ·rename_i he;exact .inr he
 ·cases h
theorem run_append_stay {t0 t1 ty:TypeId}{e k:Nat}{inf:TypeInfo}{x:Value}{news:List IVal}{cells:Array Value}{vs:List Value}{base:Option Addr}{n cap:Nat}(hu:P.underlying t0=some (.slice e))(ht:tsrc P t1=true)
  (hi:P.info? e=some inf)(hk:inf.size=k)(hx:ASrc P w F x k news cells vs)(hz:news.length=0)(hle:n≤cap):
  (Builtin.append_ #[t0,t1] ty #[.slice base n cap,x]).run P w=.ok (.slice base n cap) w:=by
 have hc0:cells=#[]:=Array.eq_empty_of_size_eq_zero (by rw[hx.size,hz];simp)
 have hc:=hx.runs w rfl
 have hl:=hx.len w
 rw[hz]at hc hl
 rw[hc0]at hc
 have hle':n+0≤cap:=hle
 rcases tsrc_spec ht with⟨e',hke⟩|hke<;>cases base<;>simp[Builtin.append_,run_underlying hu,run_underlying hke,sizeOf,typeInfo,hi,hk,hl,hc,hle,storeCells]
theorem run_append_room {t0 t1 ty:TypeId}{e k:Nat}{inf:TypeInfo}{x:Value}{news:List IVal}{cells:Array Value}{vs:List Value}{b off n cap et:Nat}{c:Array Value}{fr:Nat×Nat}(hu:P.underlying t0=some (.slice e))(ht:tsrc P t1=true)
  (hi:P.info? e=some inf)(hk:inf.size=k)(hx:ASrc P w F x k news cells vs)(hb:w.heap[b]?=some (.cells c et fr))(hz:∀j,j<c.size→¬(fr.1≤j∧j<fr.2))(hcap:off+cap*k≤c.size)(hroom:n+news.length≤cap):
  (Builtin.append_ #[t0,t1] ty #[.slice (some ⟨b,off,none⟩) n cap,x]).run P w=
   .ok (.slice (some ⟨b,off,none⟩) (n+news.length) cap) (w.setRow b (c.toList.take (off+n*k)++cells.toList++c.toList.drop (off+n*k+news.length*k)).toArray):=by
 have h1:(n+news.length)*k≤cap*k:=Nat.mul_le_mul_right k hroom
 rw[Nat.add_mul]at h1
 have hst:=run_stores (P:=P) b (off+n*k) et fr cells.toList 0 c w hb hz (by simp[hx.size];omega) hx.one
 simp only[Nat.add_zero,Array.length_toList,hx.size]at hst
 rcases tsrc_spec ht with⟨e',hke⟩|hke<;>simp[Builtin.append_,run_underlying hu,run_underlying hke,sizeOf,typeInfo,hi,hk,hx.len,hroom,hx.runs w rfl,Addr.add_mk,hst]
theorem run_append_grow {t0 t1 ty:TypeId}{e k:Nat}{x:Value}{es news:List IVal}{old cells:Array Value}{vo vs:List Value}{base:Option Addr}{n cap:Nat}(hu:P.underlying t0=some (.slice e))(ht:tsrc P t1=true)
  (hte:tel P e k=true)(ho:ASrc P w F (.slice base n cap) k es old vo)(hx:ASrc P w F x k news cells vs)(hlen:es.length=n)(hcap:cap<n+news.length)(hlim:n+news.length≤lim):
  ∃(nc:Nat)(rest:Array Value),n+news.length≤nc∧(old++cells++rest).size=nc*k∧
   (Builtin.append_ #[t0,t1] ty #[.slice base n cap,x]).run P w=.ok (.slice (some ⟨w.heap.size,0,none⟩) (n+news.length) nc) (w.drew.alloc (.cells (old++cells++rest) e)):=by
 obtain⟨i,z,hi,hk,hk0,hby,hz,hzc⟩:=tel_spec hte
 have hnc:=nextcap_le hcap
 have hmul:Builtin.nextslicecap (n+news.length) cap*i.bytes≤(2*1000000+192)*65536:=Nat.mul_le_mul (by unfold lim at hlim;omega) hby
 have hn:¬(n+news.length≤cap):=by omega
 have h63':¬(9223372036854775807<((n:Int)+(news.length:Int))):=by unfold lim at hlim;omega
 have h48':¬(281474976710656<Builtin.nextslicecap (n+news.length) cap*i.bytes):=by omega
 have hnc2:n+news.length≤grownCap w (n+news.length) cap e:=by simp only[grownCap,Question.cut];omega
 refine⟨grownCap w (n+news.length) cap e,Builtin.zeroCells z.cells (grownCap w (n+news.length) cap e-(n+news.length)),hnc2,?_,?_⟩
 ·have h1:=ho.size
  have h2:=hx.size
  rw[hlen]at h1
  simp only[Array.size_append,h1,h2,Builtin.zeroCells,Array.size_map,Array.size_range,hzc]
  rw[←Nat.add_mul,←Nat.add_mul]
  congr 1
  omega
 ·have hoc:=ho.runs w.drew rfl
  have hxc:=hx.runs w.drew rfl
  rw[hlen]at hoc
  subst hk
  rcases tsrc_spec ht with⟨e',hke⟩|hke<;>
   simp[Builtin.append_,run_underlying hu,run_underlying hke,sizeOf,typeInfo,zeroValue,hi,hz,hx.len,hn,h63',h48',Question.forced,hxc,hoc,newRow,grownCap]
theorem Lay.join {k:Nat}(hk:0<k){c1 c2 rest:Array Value}{vs us:List Value}(h1:Lay c1 0 k vs)(h2:Lay c2 0 k us)(hs1:c1.size=vs.length*k)(hs2:c2.size=us.length*k):Lay (c1++c2++rest) 0 k (vs++us):=by
 refine Lay.append (Lay.same hk h1 (fun j _ hj=>?_)) ?_
 ·rw[Array.append_assoc,Array.getElem?_append_left (by omega)]
 ·have:=Lay.shift hk 0 (vs.length*k) (c':=c1++c2++rest) (i:=0) h2 (fun j hj=>?_)
  ·simpa using this
  ·simp only[Nat.zero_add]at hj⊢
   rw[Array.append_assoc,Array.getElem?_append_right (by omega),Array.getElem?_append_left (by omega)]
   congr 1;omega
theorem goes_append_own (hR:Rel K ι F σ a w){o:Oper}{t0 t1:TypeId}{s x:Operand}(ho:o.op=.call {callee:=.builtin .append,args:=#[s,x],argTypes:=#[t0,t1]})(hd:∀i,o.dst=some i→i<σ.m)
  (j:Nat)(hj:¬K j){id n e k:Nat}{es news:List IVal}(hs:σ.ev s=.own id n)(he:σ.s id=some (.row e k es))(hn:es.length=n)(hsl:tsl P t0=some (e,k))(ht:tsrc P t1=true)(hte:tel P e k=true)
  (hx:asrc σ k (σ.ev x)=some news)(hes:∀d∈es,(icells d).isSome=true)(hns:∀d∈news,(icells d).isSome=true)(hlim:n+news.length≤lim):
  Goes P o a w K ι F σ (fun i=>K i∨i=j) (σ.app o.dst ⟨.own j (n+news.length),[(id,none),(j,some (.row e k (es++news)))]⟩):=by
 obtain⟨hu,inf,hinf,hks⟩:=tsl_spec hsl
 have hk0:0<k:=(tel_spec hte).choose_spec.choose_spec.2.2.1
 obtain⟨s1,s2⟩:=hR.ev s
 obtain⟨x1,x2⟩:=hR.ev x
 obtain⟨cells,vs,hsrc⟩:=asrc_spec (P:=P) hR hk0 x1 x2 hx hns
 have hself:asrc σ k (σ.ev s)=some es:=by rw[hs];simp[asrc,he,hn]
 obtain⟨old,vo,hold⟩:=asrc_spec (P:=P) hR hk0 s1 s2 hself hes
 have hs2:=s2
 rw[hs,ARep]at hs2
 obtain⟨e1,e2⟩:=hs2
 obtain⟨hKid,_,hr⟩:=hR.ent id _ he
 have hji:¬id=j:=fun h=>hj (h ▸ hKid)
 have hexec:(execOp a.eval o).run P w=((Builtin.append_ #[t0,t1] o.type #[a.eval s,a.eval x]).run P w).andThen fun u w'=>.ok (.value u) w':=by
  simp[execOp,ho,resolve,invoke,builtin]
 -- a new row
 have grow:∀base cap,a.eval s=.slice base n cap→cap<n+news.length→
   Goes P o a w K ι F σ (fun i=>K i∨i=j) (σ.app o.dst ⟨.own j (n+news.length),[(id,none),(j,some (.row e k (es++news)))]⟩):=by
  intro base cap hb hc
  rw[hb]at hold
  obtain⟨nc,rest,g1,g2,g3⟩:=run_append_grow (ty:=o.type) hu ht hte hold hsrc hn hc hlim
  obtain⟨d1,d2⟩:=hR.drop id
  obtain⟨dr1,dr2⟩:=d1.drew (w.drawn+1)
  have hkeepD:Keeps F w w.drew:=fun _ _ _=>rfl
  have hrep:IRepL w.drew F (es++news) (vo++vs):=(hold.rep.append hsrc.rep).keep hkeepD (fun _ _ hb=>hb)
  obtain⟨r1,r2⟩:=dr1.newRow j hj e k (n+news.length) nc (es++news) (vo++vs) (old++cells++rest) (by simp[hn]) g1 (by rw[g2];exact Nat.le_refl _) hrep
   (Lay.join hk0 hold.lay hsrc.lay (by rw[hold.size,hold.rep.length]) (by rw[hsrc.size,hsrc.rep.length]))
  have hEq:(({({σ with s:=ups σ.s [(id,none)]}:AState)with s:=ups (ups σ.s [(id,none)]) [(j,some (.row e k (es++news)))]}:AState))={σ with s:=ups σ.s [(id,none),(j,some (.row e k (es++news)))]}:=rfl
  refine Goes.of (σ1:={σ with s:=ups σ.s [(id,none),(j,some (.row e k (es++news)))]}) (u:=.slice (some ⟨w.heap.size,0,none⟩) (n+news.length) nc) (w1:=w.drew.alloc (.cells (old++cells++rest) e)) ?_ hd rfl
   ⟨_,F,r1,(d2.trans dr2).trans r2,by rw[AIn];exact .inr rfl,by rw[ARep];exact⟨by simp[Loc.val],by simp⟩⟩
  rw[hexec,hb,g3]
  rfl
 rcases hr with⟨hnil,rfl⟩|⟨hnn,c,fr,vc,h1,h2,h3,h4,h5,h6⟩
 ·have hv:a.eval s=.slice (ι id).z 0 0:=by rw[e1];simp[Loc.val,hnil]
  simp at hn
  subst hn
  by_cases hz:news.length=0
  ·have hnews:news=[]:=List.length_eq_zero_iff.1 hz
   subst hnews
   have hrun:=run_append_stay (ty:=o.type) (base:=(ι id).z) (n:=0) (cap:=0) hu ht hinf hks hsrc rfl (Nat.le_refl _)
   obtain⟨r1,r2⟩:=hR.move id j hj _ (.row e k ([]++[])) he (ι id) (fun h=>by rw[hnil]at h;cases h) trivial (.inl ⟨hnil,rfl⟩)
   refine Goes.of (σ1:={σ with s:=ups σ.s [(id,none),(j,some (.row e k ([]++[])))]}) (u:=.slice (ι id).z 0 0) (w1:=w) ?_ hd rfl ⟨_,F,r1,r2,by rw[AIn];exact .inr rfl,by rw[ARep];simp[Loc.val,hnil]⟩
   rw[hexec,hv,hrun]
   rfl
  ·exact grow (ι id).z 0 hv (by omega)
 ·have hv:a.eval s=.slice (some ⟨(ι id).blk,(ι id).off,none⟩) n (ι id).cap:=by rw[e1];simp[Loc.val,hnn]
  by_cases hroom:n+news.length≤(ι id).cap
  ·have hrun:=run_append_room (ty:=o.type) hu ht hinf hks hsrc h1 h2 h3 hroom
   have hmul:(n+news.length)*k≤(ι id).cap*k:=Nat.mul_le_mul_right k hroom
   rw[Nat.add_mul]at hmul
   generalize hc':(c.toList.take ((ι id).off+n*k)++cells.toList++c.toList.drop ((ι id).off+n*k+news.length*k)).toArray=c' at hrun
   have hcl:c'.toList=c.toList.take ((ι id).off+n*k)++cells.toList++c.toList.drop ((ι id).off+n*k+news.length*k):=by rw[←hc']
   have hcs:cells.toList.length=news.length*k:=by simpa using hsrc.size
   have hsize:c'.size=c.size:=by rw[←hc'];simp[hsrc.size];omega
   have hvl:=h5.length
   have hkeep:Keeps F w (w.setRow (ι id).blk c'):=fun cl b hb=>setRow_other _ _ _ _ (fun e'=>hR.off _ ⟨id,_,he,hnn,rfl⟩ cl (e' ▸ hb))
   have hout:∀jj,(jj<(ι id).off+n*k∨(ι id).off+n*k+news.length*k≤jj)→c'[jj]?=c[jj]?:=by
    intro jj hjj
    have:=list_splice_get c.toList cells.toList ((ι id).off+n*k) (news.length*k) jj hcs (by simp;omega) hjj
    rw[←hcl]at this
    simpa using this
   have hmid:(c'.toList.drop ((ι id).off+n*k)).take (news.length*k)=cells.toList:=by
    rw[hcl];exact list_splice_mid c.toList cells.toList _ _ hcs (by simp;omega)
   have hlay:Lay c' (ι id).off k (vc++vs):=by
    refine Lay.append (Lay.same hk0 h6 (fun jj _ hj2=>hout jj (.inl (by rw[hvl,hn]at hj2;omega)))) ?_
    rw[hvl,hn]
    have:=Lay.shift hk0 0 ((ι id).off+n*k) (c':=c') (i:=0) hsrc.lay (fun jj hjj=>?_)
    ·simpa using this
    ·rw[hsrc.rep.length]at hjj
     simp only[Nat.zero_add]at hjj⊢
     have:=congrArg (fun l=>l[jj]?) hmid
     simp only[List.getElem?_take_of_lt hjj,List.getElem?_drop]at this
     simpa using this
   obtain⟨r1,r2⟩:=hR.write id _ (.row e k (es++news)) he hnn c' trivial
    (.inr ⟨hnn,c',fr,vc++vs,setRow_heap w _ _ _ _ _ h1,by rw[hsize];exact h2,by rw[hsize];exact h3,by simp[hn];exact hroom,(h5.append hsrc.rep).keep hkeep (fun _ _ hb=>hb),hlay⟩)
   obtain⟨q1,q2,q3⟩:=r1.ent id (.row e k (es++news)) (by simp[ups])
   obtain⟨m1,m2⟩:=r1.move id j hj (.row e k (es++news)) (.row e k (es++news)) (by simp[ups]) (ι id) (fun _=>⟨hnn,rfl⟩) trivial
    (ERep.keep (w:=w.setRow (ι id).blk c') (K:=K) (fun _ _ _=>rfl) (fun _ _ hb=>hb) (fun i hi=>by show (if i=j then _ else ι i)=ι i;rw[if_neg (fun ee:i=j=>hj (by rw[←ee];exact hi))]) (fun _=>rfl) _ q2 q3)
   have hups:ups (ups σ.s [(id,some (.row e k (es++news)))]) [(id,none),(j,some (.row e k (es++news)))]=ups σ.s [(id,none),(j,some (.row e k (es++news)))]:=by
    funext i
    simp only[ups]
    by_cases h1:i=j
    ·simp[h1]
    ·by_cases h2:i=id
     ·simp[h2]
     ·simp[h1,h2]
   simp only[hups]at m1 m2
   refine Goes.of (σ1:={σ with s:=ups σ.s [(id,none),(j,some (.row e k (es++news)))]}) (u:=.slice (some ⟨(ι id).blk,(ι id).off,none⟩) (n+news.length) (ι id).cap) (w1:=w.setRow (ι id).blk c') ?_ hd rfl
    ⟨_,F,m1,r2.trans m2,by rw[AIn];exact .inr rfl,by rw[ARep];simp[Loc.val,hnn]⟩
   rw[hexec,hv,hrun]
   rfl
  ·exact grow _ _ hv (by omega)
end
end Go.Abs
namespace Go.Abs
open Go.RowKit
variable {P:Program}
section
variable {K K':Nat→Prop} {ι ι':Nat→Loc} {F F':Foot} {σ σ':AState} {a a':Act} {w w':World}
theorem exec_append {o:Oper}{t0 t1:TypeId}{s x:Operand}(ho:o.op=.call {callee:=.builtin .append,args:=#[s,x],argTypes:=#[t0,t1]}):
  (execOp a.eval o).run P w=((Builtin.append_ #[t0,t1] o.type #[a.eval s,a.eval x]).run P w).andThen fun u w'=>.ok (.value u) w':=by
 simp[execOp,ho,resolve,invoke,builtin]
theorem grow_row (hR:Rel K ι F σ a w){t0 t1 ty:TypeId}{e k:Nat}{x:Value}{es news:List IVal}{old cells:Array Value}{vo vs:List Value}{base:Option Addr}{n cap:Nat}(hu:P.underlying t0=some (.slice e))(ht:tsrc P t1=true)
  (hte:tel P e k=true)(hold:ASrc P w F (.slice base n cap) k es old vo)(hsrc:ASrc P w F x k news cells vs)(hn:es.length=n)(hc:cap<n+news.length)(hlim:n+news.length≤lim)(j:Nat)(hj:¬K j):
  ∃nc c,(Builtin.append_ #[t0,t1] ty #[.slice base n cap,x]).run P w=.ok (.slice (some ⟨w.heap.size,0,none⟩) (n+news.length) nc) (w.drew.alloc (.cells c e))∧
   Rel (fun i=>K i∨i=j) (fun i=>if i=j then⟨w.heap.size,0,nc,false,none⟩else ι i) F {σ with s:=ups σ.s [(j,some (.row e k (es++news)))]} a (w.drew.alloc (.cells c e))∧
   Ext K ι F σ w (fun i=>K i∨i=j) (fun i=>if i=j then⟨w.heap.size,0,nc,false,none⟩else ι i) F {σ with s:=ups σ.s [(j,some (.row e k (es++news)))]} (w.drew.alloc (.cells c e)):=by
 have hk0:0<k:=(tel_spec hte).choose_spec.choose_spec.2.2.1
 obtain⟨nc,rest,g1,g2,g3⟩:=run_append_grow (ty:=ty) hu ht hte hold hsrc hn hc hlim
 obtain⟨dr1,dr2⟩:=hR.drew (w.drawn+1)
 have hkeepD:Keeps F w w.drew:=fun _ _ _=>rfl
 have hrep:IRepL w.drew F (es++news) (vo++vs):=(hold.rep.append hsrc.rep).keep hkeepD (fun _ _ hb=>hb)
 obtain⟨r1,r2⟩:=dr1.newRow j hj e k (n+news.length) nc (es++news) (vo++vs) (old++cells++rest) (by simp[hn]) g1 (by rw[g2];exact Nat.le_refl _) hrep
  (Lay.join hk0 hold.lay hsrc.lay (by rw[hold.size,hold.rep.length]) (by rw[hsrc.size,hsrc.rep.length]))
 exact⟨nc,_,g3,r1,dr2.trans r2⟩
theorem goes_append_nil (hR:Rel K ι F σ a w){o:Oper}{t0 t1:TypeId}{s x:Operand}(ho:o.op=.call {callee:=.builtin .append,args:=#[s,x],argTypes:=#[t0,t1]})(hd:∀i,o.dst=some i→i<σ.m)
  (j:Nat)(hj:¬K j){e k:Nat}{news:List IVal}(hs:σ.ev s=.imm (.v (.slice none 0 0)))(hsl:tsl P t0=some (e,k))(ht:tsrc P t1=true)(hte:tel P e k=true)
  (hx:asrc σ k (σ.ev x)=some news)(hns:∀d∈news,(icells d).isSome=true)(hlim:news.length≤lim):
  Goes P o a w K ι F σ (fun i=>K i∨i=j) (σ.app o.dst ⟨.own j news.length,[(j,some (.row e k news))]⟩):=by
 obtain⟨hu,inf,hinf,hks⟩:=tsl_spec hsl
 have hk0:0<k:=(tel_spec hte).choose_spec.choose_spec.2.2.1
 obtain⟨s1,s2⟩:=hR.ev s
 obtain⟨x1,x2⟩:=hR.ev x
 obtain⟨cells,vs,hsrc⟩:=asrc_spec (P:=P) hR hk0 x1 x2 hx hns
 rw[hs,ARep,IRep]at s2
 have hv:=s2.1
 by_cases hz:news.length=0
 ·have hnews:news=[]:=List.length_eq_zero_iff.1 hz
  subst hnews
  have hrun:=run_append_stay (ty:=o.type) (base:=none) (n:=0) (cap:=0) hu ht hinf hks hsrc rfl (Nat.le_refl _)
  obtain⟨r1,r2⟩:=hR.name j hj e k
  refine Goes.of (σ1:={σ with s:=ups σ.s [(j,some (.row e k []))]}) (u:=.slice none 0 0) (w1:=w) ?_ hd rfl ⟨_,F,r1,r2,by rw[AIn];exact .inr rfl,by rw[ARep];simp[Loc.val]⟩
  rw[exec_append ho,hv,hrun]
  rfl
 ·have hold:ASrc P w F (.slice none 0 0) k [] #[] []:=⟨fun _=>rfl,fun _ _=>rfl,by simp,by rw[IRepL],trivial,by simp⟩
  obtain⟨nc,c,g1,g2,g3⟩:=grow_row (ty:=o.type) hR hu ht hte hold hsrc rfl (by omega) (by simpa using hlim) j hj
  simp only[Nat.zero_add,List.nil_append]at g1 g2 g3
  refine Goes.of (σ1:={σ with s:=ups σ.s [(j,some (.row e k news))]}) (u:=.slice (some ⟨w.heap.size,0,none⟩) news.length nc) (w1:=w.drew.alloc (.cells c e)) ?_ hd rfl ⟨_,F,g2,g3,by rw[AIn];exact .inr rfl,by rw[ARep];simp[Loc.val]⟩
  rw[exec_append ho,hv,g1]
  rfl
theorem goes_append_full0 (hR:Rel K ι F σ a w){o:Oper}{t0 t1:TypeId}{s x:Operand}(ho:o.op=.call {callee:=.builtin .append,args:=#[s,x],argTypes:=#[t0,t1]})(hd:∀i,o.dst=some i→i<σ.m)
  (j:Nat)(hj:¬K j){e k k':Nat}{c:Bool}{news:List IVal}(hs:σ.ev s=.imm (.sl c true k' []))(hsl:tsl P t0=some (e,k))(ht:tsrc P t1=true)(hte:tel P e k=true)
  (hx:asrc σ k (σ.ev x)=some news)(hns:∀d∈news,(icells d).isSome=true)(hlim:news.length≤lim):
  Goes P o a w K ι F σ (fun i=>K i∨i=j) (σ.app o.dst ⟨.own j news.length,[(j,some (.row e k news))]⟩):=by
 obtain⟨hu,inf,hinf,hks⟩:=tsl_spec hsl
 have hk0:0<k:=(tel_spec hte).choose_spec.choose_spec.2.2.1
 obtain⟨s1,s2⟩:=hR.ev s
 obtain⟨x1,x2⟩:=hR.ev x
 obtain⟨cells,vs,hsrc⟩:=asrc_spec (P:=P) hR hk0 x1 x2 hx hns
 rw[hs,ARep,IRep]at s2
 obtain⟨z,cap,hv,hc,_⟩:=s2
 have hc:=hc rfl
 simp only[List.length_nil]at hc hv
 subst hc
 by_cases hz:news.length=0
 ·have hnews:news=[]:=List.length_eq_zero_iff.1 hz
  subst hnews
  have hrun:=run_append_stay (ty:=o.type) (base:=z) (n:=0) (cap:=0) hu ht hinf hks hsrc rfl (Nat.le_refl _)
  obtain⟨r1,r2⟩:=hR.nameZ j hj e k z
  refine Goes.of (σ1:={σ with s:=ups σ.s [(j,some (.row e k []))]}) (u:=.slice z 0 0) (w1:=w) ?_ hd rfl ⟨_,F,r1,r2,by rw[AIn];exact .inr rfl,by rw[ARep];simp[Loc.val]⟩
  rw[exec_append ho,hv,hrun]
  rfl
 ·have hold:ASrc P w F (.slice z 0 0) k [] #[] []:=by
   refine⟨fun _=>rfl,fun w0 _=>?_,by simp,by rw[IRepL],trivial,by simp⟩
   cases z with
   |none=>rfl
   |some ad=>
    have:=run_loadCells_list (P:=P) w0 ad [] (fun j v hv=>by simp at hv)
    simp only[List.length_nil]at this
    simp[Builtin.firstCells,this]
  obtain⟨nc,c,g1,g2,g3⟩:=grow_row (ty:=o.type) hR hu ht hte hold hsrc rfl (by omega) (by simpa using hlim) j hj
  simp only[Nat.zero_add,List.nil_append]at g1 g2 g3
  refine Goes.of (σ1:={σ with s:=ups σ.s [(j,some (.row e k news))]}) (u:=.slice (some ⟨w.heap.size,0,none⟩) news.length nc) (w1:=w.drew.alloc (.cells c e)) ?_ hd rfl ⟨_,F,g2,g3,by rw[AIn];exact .inr rfl,by rw[ARep];simp[Loc.val]⟩
  rw[exec_append ho,hv,g1]
  rfl
theorem asrc_full {w:World}{F:Foot}{c f:Bool}{k:Nat}{es:List IVal}{u:Value}(hu:IRep w F (.sl c f k es) u)(c':Bool)(h:es=[]∨c'=c):IRep w F (.sl c' false k es) u:=by
 rw[IRep]at*
 obtain⟨ad,cap,e1,e2,e3,e4⟩:=hu
 refine⟨ad,cap,e1,by simp,e3,fun hne=>?_⟩
 rcases h with rfl|rfl
 ·exact absurd rfl hne
 ·exact e4 hne
theorem goes_append_full (hR:Rel K ι F σ a w){o:Oper}{t0 t1:TypeId}{s x:Operand}(ho:o.op=.call {callee:=.builtin .append,args:=#[s,x],argTypes:=#[t0,t1]})(hd:∀i,o.dst=some i→i<σ.m)
  (j:Nat)(hj:¬K j)(hjs:σ.s j=none){c:Bool}{e k:Nat}{es news:List IVal}(hs:σ.ev s=.imm (.sl c true k es))(hsl:tsl P t0=some (e,k))(ht:tsrc P t1=true)(hte:tel P e k=true)
  (hx:asrc σ k (σ.ev x)=some news)(hes:∀d∈es,(icells d).isSome=true)(hns:∀d∈news,(icells d).isSome=true)(hlim:es.length+news.length≤lim):
  Goes P o a w K ι F σ (fun i=>K i∨i=j) (σ.app o.dst ⟨.imm (.sl (c||es.isEmpty) false k (es++news)),[]⟩):=by
 obtain⟨hu,inf,hinf,hks⟩:=tsl_spec hsl
 have hk0:0<k:=(tel_spec hte).choose_spec.choose_spec.2.2.1
 obtain⟨s1,s2⟩:=hR.ev s
 obtain⟨x1,x2⟩:=hR.ev x
 obtain⟨cells,vs,hsrc⟩:=asrc_spec (P:=P) hR hk0 x1 x2 hx hns
 have hself:asrc σ k (σ.ev s)=some es:=by rw[hs];simp[asrc]
 obtain⟨old,vo,hold⟩:=asrc_spec (P:=P) hR hk0 s1 s2 hself hes
 have hs2:=s2
 rw[hs,ARep]at hs2
 have hs3:=hs2
 rw[IRep]at hs2
 obtain⟨ad,cap,e1,e2,e3,e4⟩:=hs2
 have hcap:=e2 rfl
 by_cases hz:news.length=0
 ·have hnews:news=[]:=List.length_eq_zero_iff.1 hz
  subst hnews
  have hrun:=run_append_stay (ty:=o.type) (base:=ad) (n:=es.length) (cap:=cap) hu ht hinf hks hsrc rfl e3
  rw[List.append_nil]
  refine Goes.same hR (u:=.slice ad es.length cap) ?_ hd (fun _ h=>.inl h) (by rw[AIn];trivial) ?_
  ·rw[exec_append ho,e1,hrun];rfl
  ·rw[←e1,ARep]
   refine asrc_full hs3 _ ?_
   cases es with
   |nil=>exact .inl rfl
   |cons _ _=>exact .inr (by simp)
 ·rw[e1]at hold
  obtain⟨nc,cc,g1,g2,g3⟩:=grow_row (ty:=o.type) hR hu ht hte hold hsrc rfl (by omega) hlim j hj
  obtain⟨F',f1,f2,f3⟩:=g2.freeze j e k (es++news) (by simp[ups])
  have hups:ups (ups σ.s [(j,some (.row e k (es++news)))]) [(j,none)]=σ.s:=by
   funext i
   simp only[ups]
   by_cases h1:i=j
   ·simp[h1,hjs]
   ·simp[h1]
  simp only[hups]at f1 f2
  refine Goes.of (σ1:=σ) (u:=.slice (some ⟨w.heap.size,0,none⟩) (es.length+news.length) nc) (w1:=w.drew.alloc (.cells cc e)) ?_ hd rfl
   ⟨_,F',f1,g3.trans f2,by rw[AIn];trivial,?_⟩
  ·rw[exec_append ho,e1,g1];rfl
  ·rw[ARep]
   have h1:(⟨w.heap.size,0,nc,false,none⟩:Loc).val (es++news).length=.slice (some ⟨w.heap.size,0,none⟩) (es.length+news.length) nc:=by simp[Loc.val]
   simp only[if_true,h1]at f3
   rw[IRep]at f3⊢
   obtain⟨ad',cap',q1,q2,q3,q4⟩:=f3
   refine⟨ad',cap',q1,by simp,q3,fun hne=>?_⟩
   obtain⟨b,off,cs,ty,fr,vs',p1,p2,p3⟩:=q4 hne
   refine⟨b,off,cs,ty,fr,vs',p1,?_,p3⟩
   cases hcl:(c||es.isEmpty)with
   |true=>exact p2
   |false=>exact f1.col _ p2
theorem goes_slice_own (hR:Rel K ι F σ a w){o:Oper}{t:TypeId}{x:Operand}{lo hi:Option Operand}(ho:o.op=.slice t x lo hi none)(hd:∀i,o.dst=some i→i<σ.m)(j:Nat)(hj:¬K j)
  {l h:Option Nat}(hl:bnd σ lo=some l)(hh:bnd σ hi=some h){id n e k:Nat}{es:List IVal}(hx:σ.ev x=.own id n)(he:σ.s id=some (.row e k es))(hn:es.length=n)(hsl:∃e',tsl P t=some (e',k))
  (h1:l.getD 0≤h.getD n)(h2:h.getD n≤n):
  Goes P o a w K ι F σ (fun i=>K i∨i=j) (σ.app o.dst ⟨.own j (h.getD n-l.getD 0),[(id,none),(j,some (.row e k ((es.take (h.getD n)).drop (l.getD 0))))]⟩):=by
 obtain⟨e',hsl⟩:=hsl
 obtain⟨hu,inf,hinf,hks⟩:=tsl_spec hsl
 have hsz:(sizeOf e').run P w=.ok k w:=by simp[sizeOf,typeInfo,hinf,hks]
 obtain⟨x1,x2⟩:=hR.ev x
 rw[hx,ARep]at x2
 obtain⟨e1,e2⟩:=x2
 obtain⟨hKid,_,hr⟩:=hR.ent id _ he
 have key:∀ad len cap,a.eval x=.slice ad len cap→len=n→n≤cap→
   (execOp a.eval o).run P w=.ok (.value (.slice (if cap=l.getD 0 then ad else ad.map (·.add (l.getD 0*k))) (h.getD n-l.getD 0) (cap-l.getD 0))) w:=by
  intro ad len cap hv hlen hc
  subst hlen
  have hb:=run_sliceBounds (P:=P) hR (isS:=true) (len:=len) (cap:=cap) (mx:=none) (m:=none) hl hh rfl (by simp) (by simp;omega) h1 (by simp)
  simp only[Option.getD_none,Option.map_none]at hb
  simp[execOp,ho,Instr.sliceAt,run_underlying hu,Instr.slice,hv,hb,hsz]
 rcases hr with⟨hnil,rfl⟩|⟨hnn,c,fr,vc,q1,q2,q3,q4,q5,q6⟩
 ·simp at hn
  subst hn
  have hv:a.eval x=.slice (ι id).z 0 0:=by rw[e1];simp[Loc.val,hnil]
  obtain⟨r1,r2⟩:=hR.move id j hj _ (.row e k ((([]:List IVal).take (h.getD 0)).drop (l.getD 0))) he (ι id) (fun h=>by rw[hnil]at h;cases h) trivial (.inl ⟨hnil,by simp⟩)
  refine Goes.of (σ1:={σ with s:=ups σ.s [(id,none),(j,some (.row e k ((([]:List IVal).take (h.getD 0)).drop (l.getD 0))))]}) (key (ι id).z 0 0 hv rfl (Nat.le_refl _)) hd rfl ⟨_,F,r1,r2,by rw[AIn];exact .inr rfl,?_⟩
  rw[ARep]
  have hl0:l.getD 0=0:=by omega
  have hh0:h.getD 0=0:=by omega
  simp only[if_true,Loc.val,hl0,hh0,hnil]
  simp
 ·have hv:a.eval x=.slice (some ⟨(ι id).blk,(ι id).off,none⟩) n (ι id).cap:=by rw[e1];simp[Loc.val,hnn]
  have hcap:n≤(ι id).cap:=by omega
  have hvl:=q5.length
  have g1:(if(ι id).cap=l.getD 0 then(ι id).off else(ι id).off+l.getD 0*k)+((ι id).cap-l.getD 0)*k≤c.size:=by
   have:(ι id).cap*k=l.getD 0*k+((ι id).cap-l.getD 0)*k:=by rw[←Nat.add_mul];congr 1;omega
   split<;>omega
  have g2:Lay c (if(ι id).cap=l.getD 0 then(ι id).off else(ι id).off+l.getD 0*k) k ((vc.take (h.getD n)).drop (l.getD 0)):=by
   split
   ·rename_i hc
    have:(vc.take (h.getD n)).drop (l.getD 0)=[]:=by
     apply List.drop_of_length_le
     simp;omega
    rw[this];trivial
   ·exact(q6.take _).drop _
  have g3:((es.take (h.getD n)).drop (l.getD 0)).length≤(ι id).cap-l.getD 0:=by simp;omega
  obtain⟨r1,r2⟩:=hR.move id j hj _ (.row e k ((es.take (h.getD n)).drop (l.getD 0))) he
   ⟨(ι id).blk,(if(ι id).cap=l.getD 0 then(ι id).off else(ι id).off+l.getD 0*k),(ι id).cap-l.getD 0,false,none⟩ (fun _=>⟨hnn,rfl⟩) trivial
   (.inr ⟨rfl,c,fr,(vc.take (h.getD n)).drop (l.getD 0),q1,q2,g1,g3,((q5.take _).drop _).keep (fun _ _ _=>rfl) (fun _ _ hb=>hb),g2⟩)
  refine Goes.of (σ1:={σ with s:=ups σ.s [(id,none),(j,some (.row e k ((es.take (h.getD n)).drop (l.getD 0))))]}) (key _ _ _ hv rfl hcap) hd rfl ⟨_,F,r1,r2,by rw[AIn];exact .inr rfl,?_⟩
  rw[ARep]
  simp only[if_true,Loc.val]
  refine⟨?_,by simp⟩
  by_cases hc:(ι id).cap=l.getD 0
  ·simp[hc]
  ·simp[hc,Addr.add_mk]
end
end Go.Abs
