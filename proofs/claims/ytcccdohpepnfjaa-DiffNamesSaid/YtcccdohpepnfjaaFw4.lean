/- Part 4 of the framework: values as data, own memory, and code reckoned whole. No statement is proved here. -/
import Derived.Test.YtcccdohpepnfjaaFw3
import Derived.Lib.ConvBytes
set_option linter.unusedVariables false
set_option linter.unusedSimpArgs false
namespace Go.Abs
open Go.RowKit
variable {P:Program}
def ares1 (P:Program)(σ:AState):ResultVar→Option AVal
 |.tmp t=>some (σ.t t)
 |.cell a t=>aload P σ t (σ.t a)
def aresL (P:Program)(σ:AState):List ResultVar→Option (List AVal)
 |[]=>some []
 |r::rs=>match ares1 P σ r,aresL P σ rs with
  |some x,some xs=>some (x::xs)
  |_,_=>none
theorem run_ptr {t:TypeId}{v u:Value}{w:World}(h:(Instr.loadAt t v).run P w=.ok u w):(do loadVar t (←asAddr v):Sem Value).run P w=.ok u w:=by
 cases v with
 |pointer p=>
  cases p with
  |some a=>simpa[Instr.loadAt,Instr.sureAddr,asAddr]using h
  |none=>simp[Instr.loadAt,Instr.sureAddr]at h
 |_=>simp[Instr.loadAt,Instr.sureAddr]at h
def resOne (tmps:Array Value):ResultVar→Sem Value
 |.tmp t=>pure (tmps.getD t undef)
 |.cell p t=>do loadVar t (←asAddr (tmps.getD p undef))
theorem results_eq (fn:Func)(tmps:Array Value):results fn tmps=(do let vs ←fn.results.mapM (resOne tmps);pure (if h:vs.size=1 then vs[0]else .tuple vs)):=by
 unfold results
 congr 1
section
variable {K:Nat→Prop} {ι:Nat→Loc} {F:Foot} {σ:AState} {a:Act} {w:World}
theorem ares1_spec (hR:Rel K ι F σ a w){r:ResultVar}{x:AVal}(h:ares1 P σ r=some x):
  ∃u,(resOne a.tmps r).run P w=.ok u w∧ARep w F ι x u:=by
 cases r with
 |tmp t=>simp only[ares1,Option.some.injEq]at h;subst h;exact⟨_,by simp[resOne],(hR.tmp t).2⟩
 |cell p t=>
  obtain⟨u,h1,h2,_⟩:=run_aload hR (hR.tmp p).1 (hR.tmp p).2 h
  exact⟨u,run_ptr h1,h2⟩
theorem aresL_spec (hR:Rel K ι F σ a w):∀{rs:List ResultVar}{xs:List AVal},aresL P σ rs=some xs→
  ∃us,(rs.mapM (resOne a.tmps)).run P w=.ok us w∧ARepL w F ι xs us
 |[],xs,h=>by simp only[aresL,Option.some.injEq]at h;subst h;exact⟨[],by simp,by rw[ARepL]⟩
 |r::rs,xs,h=>by
  rw[aresL]at h
  split at h
  ·rename_i x xs' h1 h2
   simp only[Option.some.injEq]at h;subst h
   obtain⟨u,g1,g2⟩:=ares1_spec hR h1
   obtain⟨us,g3,g4⟩:=aresL_spec hR h2
   refine⟨u::us,?_,by rw[ARepL];exact⟨u,us,rfl,g2,g4⟩⟩
   rw[List.mapM_cons]
   simp only[Sem.run_bind,g1,g3,Result.andThen,Sem.run_pure]
  ·cases h
end
mutual
def afz (σ:AState):AVal→Option (List (Nat×Nat)×IVal)
 |.imm d=>some ([],d)
 |.fn f [] []=>some ([],.v (.func (.func f) #[] #[]))
 |.mp id=>match σ.s id with
  |some (.map kvs)=>match aimmL (kvs.map (·.2))with
   |some ds=>some ([],.map (kvs.map (·.1)) ds)
   |none=>none
  |_=>none
 |.own id n=>match σ.s id with
  |some (.row _ k es)=>some ([(n,es.length)],.sl true false k es)
  |_=>none
 |.agg cs=>match afzL σ cs with
  |some (o,ds)=>if ds.all ione=true then some (o,.agg ds)else none
  |none=>none
 |.tup cs=>match afzL σ cs with
  |some (o,ds)=>some (o,.tup ds)
  |none=>none
 |_=>none
def afzL (σ:AState):List AVal→Option (List (Nat×Nat)×List IVal)
 |[]=>some ([],[])
 |x::xs=>match afz σ x,afzL σ xs with
  |some (o,d),some (o',ds)=>some (o++o',d::ds)
  |_,_=>none
end
def eqs :List (Nat×Nat)→Prop
 |[]=>True
 |(a,b)::l=>a=b∧eqs l
theorem eqs_append :∀{a b:List (Nat×Nat)},eqs (a++b)↔eqs a∧eqs b
 |[],b=>by simp[eqs]
 |(x,y)::a,b=>by simp[eqs,eqs_append (a:=a) (b:=b),and_assoc]
def Frz (F:Foot)(ι:Nat→Loc)(σ:AState):Foot:=fun c b=>F c b∨Owned ι σ b
section
variable {K:Nat→Prop} {ι:Nat→Loc} {F:Foot} {σ:AState} {a:Act} {w:World}
mutual
theorem afz_spec (hR:Rel K ι F σ a w):∀{x:AVal}{o:List (Nat×Nat)}{d:IVal}{u:Value},afz σ x=some (o,d)→eqs o→ARep w F ι x u→IRep w (Frz F ι σ) d u
 |.imm d',o,d,u,h,_,hr=>by
  simp only[afz,Option.some.injEq,Prod.mk.injEq]at h;obtain⟨rfl,rfl⟩:=h;rw[ARep]at hr
  exact IRep.keep (w:=w) (fun _ _ _=>rfl) (fun _ _ hb=>.inl hb) _ _ hr
 |.own id n,o,d,u,h,ho,hr=>by
  rw[afz]at h
  split at h
  ·rename_i ty k es he
   simp only[Option.some.injEq,Prod.mk.injEq]at h;obtain⟨rfl,rfl⟩:=h
   have hn:n=es.length:=ho.1
   rw[ARep]at hr
   obtain⟨e1,e2⟩:=hr
   obtain⟨_,_,hE⟩:=hR.ent id _ he
   rw[IRep]
   rcases hE with⟨hnil,rfl⟩|⟨hnn,c,fr,vs,h1,h2,h3,h4,h5,h6⟩
   ·exact⟨(ι id).z,0,by rw[e1,hn];simp[Loc.val,hnil],by simp,by simp,fun hne=>absurd rfl hne⟩
   ·exact⟨some ⟨(ι id).blk,(ι id).off,none⟩,(ι id).cap,by rw[e1,hn];simp[Loc.val,hnn],by simp,h4,fun _=>⟨_,_,c,ty,fr,vs,rfl,.inr ⟨id,_,he,hnn,rfl⟩,h1,h5.keep (w:=w) (fun _ _ _=>rfl) (fun _ _ hb=>.inl hb),h6⟩⟩
  ·cases h
 |.agg cs,o,d,u,h,ho,hr=>by
  rw[afz]at h
  split at h
  ·rename_i o' ds hds
   split at h
   ·rename_i hall
    simp only[Option.some.injEq,Prod.mk.injEq]at h;obtain⟨rfl,rfl⟩:=h
    rw[ARep]at hr;rw[IRep]
    obtain⟨vs,h1,h2⟩:=hr
    exact⟨vs,h1,afzL_spec hR hds ho h2,hall⟩
   ·cases h
  ·cases h
 |.tup cs,o,d,u,h,ho,hr=>by
  rw[afz]at h
  split at h
  ·rename_i o' ds hds
   simp only[Option.some.injEq,Prod.mk.injEq]at h;obtain⟨rfl,rfl⟩:=h
   rw[ARep]at hr;rw[IRep]
   obtain⟨vs,h1,h2⟩:=hr
   exact⟨vs,h1,afzL_spec hR hds ho h2⟩
  ·cases h
 |.any,_,_,_,h,_,_=>by simp[afz]at h
 |.ub _,_,_,_,h,_,_=>by simp[afz]at h
 |.ptr _ _,_,_,_,h,_,_=>by simp[afz]at h
 |.rptr _ _ _ _,_,_,_,h,_,_=>by simp[afz]at h
 |.ref _ _ _,_,_,_,h,_,_=>by simp[afz]at h
 |.win _ _ _,_,_,_,h,_,_=>by simp[afz]at h
 |.mp id,o,d,u,h,_,hr=>by
  rw[afz]at h
  split at h
  ·rename_i kvs he
   split at h
   ·rename_i ds hds
    simp only[Option.some.injEq,Prod.mk.injEq]at h;obtain⟨rfl,rfl⟩:=h
    rw[ARep]at hr
    obtain⟨_,_,hn,es,ck,e1,e2,e3⟩:=hR.ent id _ he
    rw[IRep]
    exact⟨(ι id).blk,es,ck,hr,.inr ⟨id,_,he,hn,rfl⟩,e1,e2,(aimmL_spec hds e3).keep (w:=w) (fun _ _ _=>rfl) (fun _ _ hb=>.inl hb) _ _⟩
   ·cases h
  ·cases h
 |.fn f [] [],o,d,u,h,_,hr=>by
  simp only[afz,Option.some.injEq,Prod.mk.injEq]at h;obtain⟨rfl,rfl⟩:=h
  rw[ARep]at hr;obtain⟨va,vc,rfl,h1,h2⟩:=hr
  rw[ARepL]at h1 h2
  have e1:va=#[]:=by simpa using h1
  have e2:vc=#[]:=by simpa using h2
  rw[IRep];exact⟨by rw[e1,e2],rfl⟩
 |.fn _ (_::_) _,_,_,_,h,_,_=>by simp[afz]at h
 |.fn _ [] (_::_),_,_,_,h,_,_=>by simp[afz]at h
theorem afzL_spec (hR:Rel K ι F σ a w):∀{xs:List AVal}{o:List (Nat×Nat)}{ds:List IVal}{us:List Value},afzL σ xs=some (o,ds)→eqs o→ARepL w F ι xs us→IRepL w (Frz F ι σ) ds us
 |[],o,ds,us,h,_,hr=>by rw[afzL]at h;simp only[Option.some.injEq,Prod.mk.injEq]at h;obtain⟨rfl,rfl⟩:=h;rw[ARepL]at hr;rw[IRepL];exact hr
 |x::xs,o,ds,us,h,ho,hr=>by
  rw[afzL]at h
  split at h
  ·rename_i o1 d o2 ds' h1 h2
   simp only[Option.some.injEq,Prod.mk.injEq]at h;obtain⟨rfl,rfl⟩:=h
   have ho:=eqs_append.1 ho
   rw[ARepL]at hr;rw[IRepL]
   obtain⟨u,us',e,h3,h4⟩:=hr
   exact⟨u,us',e,afz_spec hR h1 ho.1 h3,afzL_spec hR h2 ho.2 h4⟩
  ·cases h
end
def packI :List IVal→IVal
 |[d]=>d
 |ds=>.tup ds
def afin (P:Program)(σ:AState)(rs:List ResultVar):Option (List (Nat×Nat)×IVal):=
 match aresL P σ rs with
 |some xs=>match afzL σ xs with
  |some (o,ds)=>some (o,packI ds)
  |none=>none
 |none=>none
theorem afin_spec (hR:Rel K ι F σ a w){fn:Func}{o:List (Nat×Nat)}{d:IVal}(h:afin P σ fn.results.toList=some (o,d))(ho:eqs o):∃u,(results fn a.tmps).run P w=.ok u w∧IRep w (Frz F ι σ) d u:=by
 unfold afin at h
 split at h
 ·rename_i xs hxs
  obtain⟨us,h1,h2⟩:=aresL_spec hR hxs
  have hrun:(results fn a.tmps).run P w=.ok (if h:us.toArray.size=1 then us.toArray[0]else .tuple us.toArray) w:=by
   rw[results_eq,Array.mapM_eq_mapM_toList]
   simp only[Sem.run_bind,Sem.run_map,h1,Result.andThen,Sem.run_pure]
  split at h
  ·rename_i o' ds hd
   simp only[Option.some.injEq,Prod.mk.injEq]at h;obtain⟨rfl,rfl⟩:=h
   have h3:=afzL_spec hR hd ho h2
   unfold packI
   split
   ·rw[IRepL]at h3
    obtain⟨u,us',rfl,g1,g2⟩:=h3
    rw[IRepL]at g2;subst g2
    exact⟨u,by rw[hrun];simp,g1⟩
   ·rename_i hne
    refine⟨.tuple us.toArray,?_,by rw[IRep];exact⟨_,rfl,by simpa using h3⟩⟩
    rw[hrun,dif_neg]
    have:=h3.length
    intro hc
    have h1l:ds.length=1:=by simpa[this]using hc
    match ds,h1l with
    |[d'],_=>exact hne d' rfl
  ·cases h
 ·cases h
end
def astart (args:List IVal)(m:Nat):AState:={t:=fun i=>match args[i]? with|some d=>.imm d|none=>.any,s:=fun _=>none,m,n:=0}
def AEnd (P:Program)(rs:List ResultVar)(r:IVal):Exit→AState→Prop
 |.normal,σ|.ret,σ=>∃o d,afin P σ rs=some (o,d)∧eqs o∧ILe d r
 |_,_=>False
theorem ASpec.of_body {f:FuncId}{fn:Func}{c:Code}{args:List IVal}{r:IVal}(hf:P.funcs[f]?=some fn)(hb:fn.body=some c)(hn:(fn.name != "runtime.NumGoroutine")=true)(hl:args.length≤fn.ntmps)
  (h:AWp P [] c (AEnd P fn.results.toList r) (astart args fn.ntmps)):ASpec P f args r:=by
 refine⟨by simp[callable,hf,hb]at*;exact hn,fun w F vs hF hcol hargs=>calls_of_wp hf hb ?_⟩
 have hlen:=hargs.length
 simp only[Array.length_toList]at hlen
 refine wp_mono (h (fun _=>default) F _ w ⟨?_,fun i=>?_,fun id e he=>?_,fun b hb=>?_,fun i j ei ej hi=>?_,hF,hcol⟩ rfl) ?_
 ·simp[astart];omega
 ·simp only[astart]
  cases hi:args[i]? with
  |none=>exact⟨by rw[AIn];trivial,by rw[ARep];trivial⟩
  |some d=>
   refine⟨by rw[AIn];trivial,?_⟩
   obtain⟨u,h1,h2⟩:=hargs.at hi
   rw[ARep]
   have:(vs++Array.replicate (fn.ntmps-vs.size) undef).getD i undef=u:=by
    have h3:vs[i]?=some u:=by simpa using h1
    have hlt:=(Array.getElem?_eq_some_iff.1 h3).1
    have h4:vs[i]=u:=by rw[Array.getElem?_eq_getElem hlt]at h3;exact Option.some.inj h3
    simp[Array.getElem?_append,hlt,h4]
   rw[this];exact h2
 ·simp[astart]at he
 ·obtain⟨id,e,he,_⟩:=hb;simp[astart]at he
 ·simp[astart]at hi
 ·rintro e a' w' ⟨ι',F',σ',h1,h2,h3,h4⟩
  have fin:(∃o d,afin P σ' fn.results.toList=some (o,d)∧eqs o∧ILe d r)→a'.defers=[]∧∃v,(results fn a'.tmps).run P w'=.ok v w'∧∃v' F'',Ending.returned v=.returned v'∧Below w.heap.size w w'∧(∀c b,F c b→F'' c b)∧(∀c b,F'' c b→F c b∨w.heap.size≤b)∧(∀c b,F'' c b→b<w'.heap.size)∧(∀b,F'' true b→F'' false b)∧IRep w' F'' r v':=by
   rintro⟨o,d,hr,ho,hle⟩
   obtain⟨u,g1,g2⟩:=afin_spec h2 hr ho
   have none:∀b,¬Owned (fun _=>default) (astart args fn.ntmps) b:=by rintro b ⟨id,e,he,_⟩;simp[astart]at he
   have hc:∀b,Frz F' ι' σ' true b→Frz F' ι' σ' false b:=fun b h=>h.imp_left (h2.col b)
   refine⟨h3,u,g1,u,Frz F' ι' σ',rfl,⟨h4.os,h4.tape,h4.output,h4.size,fun b hb=>h4.frame b hb (none b)⟩,fun c b h=>.inl (h4.mono c b h),fun c b h=>?_,fun c b h=>h.elim (h2.foot c b) h2.owned_lt,hc,hle.rep hc g2⟩
   rcases h with h|h
   ·exact(h4.src c b h).elim .inl (fun h=>h.elim .inr (fun h=>absurd h (none b)))
   ·exact(h4.own b h).elim (fun h=>absurd h (none b)) .inr
  cases e with
  |normal=>exact fin h1
  |ret=>exact fin h1
  |_=>exact h1.elim
end Go.Abs
namespace Go.Abs
open Go.RowKit
variable {P:Program}
mutual
def ren (f:Nat→Nat):AVal→AVal
 |.any=>.any
 |.ub c=>.ub c
 |.imm d=>.imm d
 |.ptr id off=>.ptr (f id) off
 |.rptr id k i off=>.rptr (f id) k i off
 |.ref c d off=>.ref c d off
 |.own id n=>.own (f id) n
 |.win id off n=>.win (f id) off n
 |.mp id=>.mp (f id)
 |.agg ds=>.agg (renL f ds)
 |.tup ds=>.tup (renL f ds)
 |.fn g a c=>.fn g (renL f a) (renL f c)
def renL (f:Nat→Nat):List AVal→List AVal
 |[]=>[]
 |d::ds=>ren f d::renL f ds
end
mutual
theorem ren_in {K:Nat→Prop}{f:Nat→Nat}(hK:∀i,K i→K (f i)):∀{x:AVal},AIn K x→AIn K (ren f x)
 |.any,h=>by rw[ren];exact h
 |.ub _,h=>by rw[ren];exact h
 |.imm _,h=>by rw[ren];rw[AIn];trivial
 |.ptr _ _,h=>by rw[ren];rw[AIn]at*;exact hK _ h
 |.rptr _ _ _ _,h=>by rw[ren];rw[AIn]at*;exact hK _ h
 |.ref _ _ _,h=>by rw[ren];rw[AIn];trivial
 |.own _ _,h=>by rw[ren];rw[AIn]at*;exact hK _ h
 |.win _ _ _,h=>by rw[ren];rw[AIn]at*;exact hK _ h
 |.mp _,h=>by rw[ren];rw[AIn]at*;exact hK _ h
 |.agg ds,h=>by rw[ren];rw[AIn]at*;exact renL_in hK h
 |.tup ds,h=>by rw[ren];rw[AIn]at*;exact renL_in hK h
 |.fn _ a c,h=>by rw[ren];rw[AIn]at*;exact⟨renL_in hK h.1,renL_in hK h.2⟩
theorem renL_in {K:Nat→Prop}{f:Nat→Nat}(hK:∀i,K i→K (f i)):∀{xs:List AVal},AInL K xs→AInL K (renL f xs)
 |[],h=>by rw[renL];exact h
 |d::ds,h=>by rw[renL];rw[AInL]at*;exact⟨ren_in hK h.1,renL_in hK h.2⟩
end
mutual
theorem ren_rep {w:World}{F:Foot}{ι:Nat→Loc}{f:Nat→Nat}(hf:∀i,f (f i)=i):∀{x:AVal}{u:Value},ARep w F ι x u→ARep w F (fun i=>ι (f i)) (ren f x) u
 |.any,_,h=>by rw[ren,ARep];trivial
 |.ub _,_,h=>by rw[ren];rw[ARep]at*;exact h
 |.imm _,_,h=>by rw[ren];rw[ARep]at*;exact h
 |.ptr _ _,_,h=>by rw[ren];rw[ARep]at*;rw[hf];exact h
 |.rptr _ _ _ _,_,h=>by rw[ren];rw[ARep]at*;rw[hf];exact h
 |.ref _ _ _,_,h=>by rw[ren];rw[ARep]at*;exact h
 |.own _ _,_,h=>by rw[ren];rw[ARep]at*;rw[hf];exact h
 |.win _ _ _,_,h=>by rw[ren];rw[ARep]at*;rw[hf];exact h
 |.mp _,_,h=>by rw[ren];rw[ARep]at*;rw[hf];exact h
 |.agg ds,_,h=>by rw[ren];rw[ARep]at*;obtain⟨vs,e,h⟩:=h;exact⟨vs,e,renL_rep hf h⟩
 |.tup ds,_,h=>by rw[ren];rw[ARep]at*;obtain⟨vs,e,h⟩:=h;exact⟨vs,e,renL_rep hf h⟩
 |.fn _ a c,_,h=>by rw[ren];rw[ARep]at*;obtain⟨va,vc,e,h1,h2⟩:=h;exact⟨va,vc,e,renL_rep hf h1,renL_rep hf h2⟩
theorem renL_rep {w:World}{F:Foot}{ι:Nat→Loc}{f:Nat→Nat}(hf:∀i,f (f i)=i):∀{xs:List AVal}{us:List Value},ARepL w F ι xs us→ARepL w F (fun i=>ι (f i)) (renL f xs) us
 |[],_,h=>by rw[renL];rw[ARepL]at*;exact h
 |d::ds,_,h=>by rw[renL];rw[ARepL]at*;obtain⟨u,us',e,h1,h2⟩:=h;exact⟨u,us',e,ren_rep hf h1,renL_rep hf h2⟩
end
def renM (f:Nat→Nat)(kvs:List (Value×AVal)):List (Value×AVal):=kvs.map fun p=>(p.1,ren f p.2)
theorem renM_fst (f:Nat→Nat)(kvs:List (Value×AVal)):(renM f kvs).map (·.1)=kvs.map (·.1):=by rw[renM,List.map_map];rfl
theorem renM_snd (f:Nat→Nat):∀kvs:List (Value×AVal),(renM f kvs).map (·.2)=renL f (kvs.map (·.2))
 |[]=>by rw[renM];simp[renL]
 |p::kvs=>by rw[List.map_cons,renL,←renM_snd f kvs];rfl
def renE (f:Nat→Nat):Entry→Entry
 |.box ty x=>.box ty (ren f x)
 |.bbox l ty x=>.bbox l ty (ren f x)
 |.map kvs=>.map (renM f kvs)
 |e=>e
def AState.ren (σ:AState)(f:Nat→Nat):AState:={σ with t:=fun i=>Abs.ren f (σ.t i),s:=fun i=>(σ.s (f i)).map (renE f)}
theorem AState.ren_owned {σ:AState}{ι:Nat→Loc}{f:Nat→Nat}(hf:∀i,f (f i)=i){b:Nat}:Owned (fun i=>ι (f i)) (σ.ren f) b↔Owned ι σ b:=by
 constructor
 ·rintro⟨id,e,h1,h2⟩
  obtain⟨e',h3,_⟩:=Option.map_eq_some_iff.1 h1
  exact⟨f id,e',h3,h2⟩
 ·rintro⟨id,e,h1,h2⟩
  exact⟨f id,renE f e,by simp only[AState.ren,hf];rw[h1];rfl,by simpa only[hf]using h2⟩
theorem Rel.ren {K:Nat→Prop}{ι:Nat→Loc}{F:Foot}{σ:AState}{a:Act}{w:World}(hR:Rel K ι F σ a w){f:Nat→Nat}(hf:∀i,f (f i)=i)(hK:∀i,K i→K (f i)):
  Rel K (fun i=>ι (f i)) F (σ.ren f) a w:=by
 refine⟨hR.size,fun i=>⟨ren_in hK (hR.tmp i).1,ren_rep hf (hR.tmp i).2⟩,fun id e he=>?_,fun b hb=>hR.off b ((AState.ren_owned hf).1 hb),fun i j ei ej hi hj hni hnj hb=>?_,hR.foot,hR.col⟩
 ·obtain⟨e',h1,rfl⟩:=Option.map_eq_some_iff.1 he
  obtain⟨k1,k2,k3⟩:=hR.ent (f id) e' h1
  refine⟨by have:=hK _ k1;rwa[hf]at this,?_,?_⟩
  ·cases e' with
   |box ty x=>exact ren_in hK k2
   |bbox l ty x=>exact ren_in hK k2
   |row ty k es=>trivial
   |brow l0 ty k es=>trivial
   |map kvs=>show AInL K ((renM f kvs).map (·.2));rw[renM_snd];exact renL_in hK k2
  ·cases e' with
   |box ty x=>exact⟨k3.1,k3.2.choose,k3.2.choose_spec.1,ren_rep hf k3.2.choose_spec.2⟩
   |bbox l ty x=>exact⟨k3.1,k3.2.1,k3.2.2.choose,k3.2.2.choose_spec.1,ren_rep hf k3.2.2.choose_spec.2⟩
   |row ty k es=>exact k3
   |brow l0 ty k es=>exact k3
   |map kvs=>exact⟨k3.1,k3.2.choose,k3.2.choose_spec.choose,k3.2.choose_spec.choose_spec.1,by rw[renM_fst];exact k3.2.choose_spec.choose_spec.2.1,by rw[renM_snd];exact renL_rep hf k3.2.choose_spec.choose_spec.2.2⟩
 ·obtain⟨e1,g1,_⟩:=Option.map_eq_some_iff.1 hi
  obtain⟨e2,g2,_⟩:=Option.map_eq_some_iff.1 hj
  have:=hR.sep (f i) (f j) e1 e2 g1 g2 hni hnj hb
  rw[←hf i,this,hf]
def swp (a b:Nat)(i:Nat):Nat:=if i=a then b else if i=b then a else i
theorem swp_swp (a b i:Nat):swp a b (swp a b i)=i:=by
 unfold swp
 by_cases h1:i=a
 ·subst h1
  by_cases h2:b=i
  ·simp[h2]
  ·simp[h2]
 ·by_cases h2:i=b
  ·simp[h2]
  ·simp[h1,h2]
structure LState where
 t:List (Nat×AVal)
 s:List (Nat×Entry)
 m:Nat
 n:Nat
 q:List (Nat×Bool):=[]
def LState.toA (σ:LState):AState:=⟨tl σ.t,sl σ.s,σ.m,σ.n⟩
def slWithout (id:Nat):List (Nat×Entry)→List (Nat×Entry)
 |[]=>[]
 |(d,x)::l=>if d=id then slWithout id l else(d,x)::slWithout id l
theorem slWithout_spec (id:Nat)(l:List (Nat×Entry))(i:Nat):sl (slWithout id l) i=if i=id then none else sl l i:=by
 induction l with
 |nil=>simp[slWithout,sl]
 |cons p l ih=>
  obtain⟨d,x⟩:=p
  simp only[slWithout]
  by_cases hd:d=id
  ·rw[if_pos hd,ih]
   by_cases hi:i=id
   ·simp[hi]
   ·rw[if_neg hi,if_neg hi,sl,if_neg (by rw[hd];exact hi)]
  ·rw[if_neg hd]
   simp only[sl]
   by_cases hi:i=d
   ·rw[if_pos hi,if_pos hi,if_neg (by rw[hi];exact hd)]
   ·rw[if_neg hi,if_neg hi,ih]
def lups (s:List (Nat×Entry)):List (Nat×Option Entry)→List (Nat×Entry)
 |[]=>s
 |(id,some e)::l=>lups ((id,e)::slWithout id s) l
 |(id,none)::l=>lups (slWithout id s) l
theorem lups_spec (l:List (Nat×Option Entry)):∀s:List (Nat×Entry),sl (lups s l)=ups (sl s) l:=by
 induction l with
 |nil=>intro s;rfl
 |cons p l ih=>
  intro s
  obtain⟨id,e⟩:=p
  cases e with
  |some e=>
   rw[lups,ih,ups];congr 1;funext i;simp only[sl];split
   ·rfl
   ·rename_i h;rw[slWithout_spec,if_neg h]
  |none=>
   rw[lups,ih,ups];congr 1;funext i;rw[slWithout_spec]
def tlWithout (id:Nat):List (Nat×AVal)→List (Nat×AVal)
 |[]=>[]
 |(d,x)::l=>if d=id then tlWithout id l else(d,x)::tlWithout id l
theorem tlWithout_spec (id:Nat)(l:List (Nat×AVal))(i:Nat)(h:i≠id):tl (tlWithout id l) i=tl l i:=by
 induction l with
 |nil=>simp[tlWithout]
 |cons p l ih=>
  obtain⟨d,x⟩:=p
  simp only[tlWithout]
  by_cases hd:d=id
  ·rw[if_pos hd,ih,tl,if_neg (by rw[hd];exact h)]
  ·rw[if_neg hd];simp only[tl,ih]
def lput (t:List (Nat×AVal)):Option Nat→AVal→List (Nat×AVal)
 |none,_=>t
 |some d,x=>(d,x)::tlWithout d t
theorem lput_spec (t:List (Nat×AVal))(d:Option Nat)(x:AVal):tl (lput t d x)=put (tl t) d x:=by
 cases d with
 |none=>rw[lput,put_none]
 |some d=>
  funext i
  rw[lput,put_some,tl]
  split
  ·rfl
  ·rename_i h;exact tlWithout_spec d t i h
def LState.app (σ:LState)(d:Option Nat)(E:AEff):LState:={σ with t:=lput σ.t d E.v,s:=lups σ.s E.s}
theorem LState.app_toA (σ:LState)(d:Option Nat)(E:AEff):(σ.app d E).toA=σ.toA.app d E:=by
 simp only[LState.app,LState.toA,AState.app,lput_spec,lups_spec]
def lpick (t:List (Nat×AVal)):List Nat→List (Nat×AVal)
 |[]=>[]
 |i::l=>(i,tl t i)::lpick t l
def spick (s:List (Nat×Entry)):List Nat→List (Nat×Entry)
 |[]=>[]
 |i::l=>match sl s i with
  |some e=>(i,e)::spick s l
  |none=>spick s l
def LState.only (σ:LState)(lt ls:List Nat):LState:={σ with t:=lpick σ.t lt,s:=spick σ.s ls,q:=[]}
theorem lpick_spec (t:List (Nat×AVal)):∀(l:List Nat)(i:Nat),tl (lpick t l) i=.any∨tl (lpick t l) i=tl t i
 |[],i=>.inl rfl
 |d::l,i=>by
  simp only[lpick,tl]
  by_cases h:i=d
  ·rw[if_pos h,h];exact .inr rfl
  ·rw[if_neg h];exact lpick_spec t l i
theorem spick_spec (s:List (Nat×Entry)):∀(l:List Nat)(i:Nat)(e:Entry),sl (spick s l) i=some e→sl s i=some e
 |[],i,e,h=>by simp[spick,sl]at h
 |d::l,i,e,h=>by
  simp only[spick]at h
  split at h
  ·rename_i e' he
   simp only[sl]at h
   by_cases hi:i=d
   ·rw[if_pos hi]at h;rw[hi,he];exact h
   ·rw[if_neg hi]at h;exact spick_spec s l i e h
  ·exact spick_spec s l i e h
theorem LState.only_sub (σ:LState)(lt ls:List Nat):Sub σ.toA (σ.only lt ls).toA:=
 ⟨lpick_spec σ.t lt,spick_spec σ.s ls,rfl,Nat.le_refl _⟩
def tsub (t:List (Nat×AVal)):List (Nat×AVal)→Prop
 |[]=>True
 |(i,x)::l=>tl t i=x∧tsub t l
def ssub (s:List (Nat×Entry)):List (Nat×Entry)→Prop
 |[]=>True
 |(i,x)::l=>sl s i=some x∧ssub s l
theorem tsub_spec {t:List (Nat×AVal)}:∀{l:List (Nat×AVal)},tsub t l→∀i,tl l i=.any∨tl l i=tl t i
 |[],_,i=>.inl rfl
 |(d,x)::l,h,i=>by
  simp only[tl]
  by_cases hi:i=d
  ·rw[if_pos hi,hi];exact .inr h.1.symm
  ·rw[if_neg hi];exact tsub_spec h.2 i
theorem ssub_spec {s:List (Nat×Entry)}:∀{l:List (Nat×Entry)},ssub s l→∀i e,sl l i=some e→sl s i=some e
 |[],_,i,e,h=>by simp[sl]at h
 |(d,x)::l,hh,i,e,h=>by
  simp only[sl]at h
  by_cases hi:i=d
  ·rw[if_pos hi]at h;rw[hi,hh.1];exact h
  ·rw[if_neg hi]at h;exact ssub_spec hh.2 i e h
mutual
def ainB (n:Nat):AVal→Bool
 |.any=>true
 |.ub _=>true
 |.imm _=>true
 |.ptr id _=>decide (id<n)
 |.rptr id _ _ _=>decide (id<n)
 |.ref _ _ _=>true
 |.own id _=>decide (id<n)
 |.win id _ _=>decide (id<n)
 |.mp id=>decide (id<n)
 |.agg ds=>ainBL n ds
 |.tup ds=>ainBL n ds
 |.fn _ a c=>ainBL n a&&ainBL n c
def ainBL (n:Nat):List AVal→Bool
 |[]=>true
 |d::ds=>ainB n d&&ainBL n ds
end
mutual
theorem ainB_spec {n:Nat}:∀{x:AVal},ainB n x=true→AIn (below n) x
 |.any,_=>by rw[AIn];trivial
 |.ub _,_=>by rw[AIn];trivial
 |.imm _,_=>by rw[AIn];trivial
 |.ptr _ _,h=>by rw[AIn];rw[ainB]at h;simpa[below]using h
 |.rptr _ _ _ _,h=>by rw[AIn];rw[ainB]at h;simpa[below]using h
 |.ref _ _ _,_=>by rw[AIn];trivial
 |.own _ _,h=>by rw[AIn];rw[ainB]at h;simpa[below]using h
 |.win _ _ _,h=>by rw[AIn];rw[ainB]at h;simpa[below]using h
 |.mp _,h=>by rw[AIn];rw[ainB]at h;simpa[below]using h
 |.agg ds,h=>by rw[AIn];rw[ainB]at h;exact ainBL_spec h
 |.tup ds,h=>by rw[AIn];rw[ainB]at h;exact ainBL_spec h
 |.fn _ a c,h=>by rw[AIn];rw[ainB,Bool.and_eq_true]at h;exact⟨ainBL_spec h.1,ainBL_spec h.2⟩
theorem ainBL_spec {n:Nat}:∀{xs:List AVal},ainBL n xs=true→AInL (below n) xs
 |[],_=>by rw[AInL];trivial
 |d::ds,h=>by rw[AInL];rw[ainBL,Bool.and_eq_true]at h;exact⟨ainB_spec h.1,ainBL_spec h.2⟩
end
def linT (n:Nat):List (Nat×AVal)→Bool
 |[]=>true
 |(_,x)::l=>ainB n x&&linT n l
def linS (n:Nat):List (Nat×Entry)→Bool
 |[]=>true
 |(i,.box _ x)::l=>decide (i<n)&&ainB n x&&linS n l
 |(i,.bbox _ _ x)::l=>decide (i<n)&&ainB n x&&linS n l
 |(i,.row _ _ _)::l=>decide (i<n)&&linS n l
 |(i,.brow _ _ _ _)::l=>decide (i<n)&&linS n l
 |(i,.map kvs)::l=>decide (i<n)&&ainBL n (kvs.map (·.2))&&linS n l
theorem linT_spec {n:Nat}:∀{l:List (Nat×AVal)},linT n l=true→∀i,AIn (below n) (tl l i)
 |[],_,i=>by rw[tl,AIn];trivial
 |(d,x)::l,h,i=>by
  rw[linT,Bool.and_eq_true]at h
  simp only[tl];split
  ·exact ainB_spec h.1
  ·exact linT_spec h.2 i
theorem linS_spec {n:Nat}:∀{l:List (Nat×Entry)},linS n l=true→∀i e,sl l i=some e→below n i∧EIn (below n) e
 |[],_,i,e,h=>by simp[sl]at h
 |(d,.box ty x)::l,h,i,e,he=>by
  rw[linS,Bool.and_eq_true,Bool.and_eq_true]at h
  simp only[sl]at he;split at he
  ·rename_i hi;simp only[Option.some.injEq]at he;subst he;subst hi;exact⟨by simpa[below]using h.1.1,ainB_spec h.1.2⟩
  ·exact linS_spec h.2 i e he
 |(d,.bbox l0 ty x)::l,h,i,e,he=>by
  rw[linS,Bool.and_eq_true,Bool.and_eq_true]at h
  simp only[sl]at he;split at he
  ·rename_i hi;simp only[Option.some.injEq]at he;subst he;subst hi;exact⟨by simpa[below]using h.1.1,ainB_spec h.1.2⟩
  ·exact linS_spec h.2 i e he
 |(d,.row ty k es)::l,h,i,e,he=>by
  rw[linS,Bool.and_eq_true]at h
  simp only[sl]at he;split at he
  ·rename_i hi;simp only[Option.some.injEq]at he;subst he;subst hi;exact⟨by simpa[below]using h.1,trivial⟩
  ·exact linS_spec h.2 i e he
 |(d,.brow _ _ _ _)::l,h,i,e,he=>by
  rw[linS,Bool.and_eq_true,decide_eq_true_eq]at h
  simp only[sl]at he
  split at he
  ·rename_i hi
   simp only[Option.some.injEq]at he
   subst he
   exact⟨by rw[hi];exact h.1,trivial⟩
  ·exact linS_spec h.2 i e he
 |(d,.map kvs)::l,h,i,e,he=>by
  rw[linS,Bool.and_eq_true,Bool.and_eq_true,decide_eq_true_eq]at h
  simp only[sl]at he
  split at he
  ·rename_i hi
   simp only[Option.some.injEq]at he
   subst he
   exact⟨by rw[hi];exact h.1.1,ainBL_spec h.1.2⟩
  ·exact linS_spec h.2 i e he
def LSub (σ τ:LState):Prop:=tsub σ.t τ.t∧ssub σ.s τ.s∧τ.m=σ.m∧linT τ.n τ.t=true∧linS τ.n τ.s=true
theorem Rel.lsub {K:Nat→Prop}{ι:Nat→Loc}{F:Foot}{σ τ:LState}{a:Act}{w:World}(hR:Rel K ι F σ.toA a w)(h:LSub σ τ):Rel (below τ.n) ι F τ.toA a w:=by
 obtain⟨h1,h2,h3,h4,h5⟩:=h
 refine⟨by rw[hR.size];exact h3.symm,fun i=>⟨linT_spec h4 i,?_⟩,fun id e he=>⟨(linS_spec h5 id e he).1,(linS_spec h5 id e he).2,(hR.ent id e (ssub_spec h2 id e he)).2.2⟩,
  fun b⟨id,e,g1,g2⟩=>hR.off b ⟨id,e,ssub_spec h2 id e g1,g2⟩,fun i j ei ej hi hj=>hR.sep i j ei ej (ssub_spec h2 i ei hi) (ssub_spec h2 j ej hj),hR.foot,hR.col⟩
 rcases tsub_spec h1 i with g|g
 ·show ARep w F ι (tl τ.t i) _;rw[g,ARep];trivial
 ·show ARep w F ι (tl τ.t i) _;rw[g];exact(hR.tmp i).2
theorem LSub.pass {ι:Nat→Loc}{F:Foot}{σ τ:LState}{w:World}(h:LSub σ τ):Pass ι F σ.toA w ι F τ.toA w:=
 ⟨rfl,rfl,rfl,Nat.le_refl _,fun _ _ _=>rfl,fun _⟨id,e,g1,g2⟩=>.inl ⟨id,e,ssub_spec h.2.1 id e g1,g2⟩,fun _ _ h=>h,fun _ _ h=>.inl h⟩
def lrenT (f:Nat→Nat):List (Nat×AVal)→List (Nat×AVal)
 |[]=>[]
 |(i,x)::l=>(i,ren f x)::lrenT f l
def lrenS (f:Nat→Nat):List (Nat×Entry)→List (Nat×Entry)
 |[]=>[]
 |(i,e)::l=>(f i,renE f e)::lrenS f l
def LState.swap (σ:LState)(a b:Nat):LState:={σ with t:=lrenT (swp a b) σ.t,s:=lrenS (swp a b) σ.s}
theorem lrenT_spec (f:Nat→Nat)(l:List (Nat×AVal))(i:Nat):tl (lrenT f l) i=ren f (tl l i):=by
 induction l with
 |nil=>simp[lrenT,tl,ren]
 |cons p l ih=>
  obtain⟨d,x⟩:=p
  simp only[lrenT,tl];split
  ·rfl
  ·exact ih
theorem lrenS_spec (f:Nat→Nat)(hf:∀i,f (f i)=i)(l:List (Nat×Entry))(i:Nat):sl (lrenS f l) i=(sl l (f i)).map (renE f):=by
 induction l with
 |nil=>simp[lrenS,sl]
 |cons p l ih=>
  obtain⟨d,x⟩:=p
  simp only[lrenS,sl]
  by_cases h:i=f d
  ·rw[if_pos h,if_pos (by rw[h,hf])];rfl
  ·rw[if_neg h,if_neg (by rintro rfl;exact h (hf i).symm)];exact ih
theorem LState.swap_toA (σ:LState)(a b:Nat):(σ.swap a b).toA=σ.toA.ren (swp a b):=by
 simp only[LState.swap,LState.toA,AState.ren]
 congr 1
 ·funext i;exact lrenT_spec _ _ _
 ·funext i;exact lrenS_spec _ (swp_swp a b) _ _
theorem AWp.swap {D:List Deferred}{c:Code}{Q:Exit→AState→Prop}{σ:LState}{a b:Nat}(ha:a<σ.n)(hb:b<σ.n)(h:AWp P D c Q (σ.swap a b).toA):AWp P D c Q σ.toA:=by
 intro ι F act w hR hD
 have hK:∀i,below σ.n i→below σ.n (swp a b i):=by
  intro i hi;unfold below at*;unfold swp
  split
  ·exact hb
  ·split
   ·exact ha
   ·exact hi
 have hR':=hR.ren (swp_swp a b) hK
 rw[←LState.swap_toA]at hR'
 refine wp_mono (h _ F act w hR' hD) ?_
 rintro e a' w' ⟨ι',F',σ',g1,g2,g3,g4⟩
 have ho:∀x,Owned (fun i=>ι (swp a b i)) (σ.swap a b).toA x↔Owned ι σ.toA x:=by
  intro x;rw[LState.swap_toA];exact AState.ren_owned (swp_swp a b)
 exact⟨ι',F',σ',g1,g2,g3,⟨g4.os,g4.tape,g4.output,g4.size,fun x hx hn=>g4.frame x hx (fun h=>hn ((ho x).1 h)),fun x hx=>(g4.own x hx).imp_left (ho x).1,g4.mono,fun c x hx=>(g4.src c x hx).imp_right (fun h=>h.imp_right (ho x).1)⟩⟩
theorem Rel.swap {K:Nat→Prop}{ι:Nat→Loc}{F:Foot}{σ:LState}{act:Act}{w:World}{a b:Nat}(hR:Rel K ι F σ.toA act w)(ha:K a)(hb:K b):
  Rel K (fun i=>ι (swp a b i)) F (σ.swap a b).toA act w:=by
 rw[LState.swap_toA]
 refine hR.ren (swp_swp a b) ?_
 intro i hi;unfold swp
 split
 ·exact hb
 ·split
  ·exact ha
  ·exact hi
end Go.Abs
namespace Go.Abs
open Go.RowKit
variable {P:Program}
def WSpec (P:Program)(f:FuncId)(ty k:Nat)(es ds:List IVal)(r:IVal)(es':List IVal):Prop:=
 callable P f=true∧∀(w:World)(F:Foot)(l:Loc)(vs:List Value),(∀c b,F c b→b<w.heap.size)→(∀b,F true b→F false b)→RowRep w F l ty k es→(l.nil=false→∀c,¬F c l.blk)→IRepL w F ds vs→
  Calls P f (l.val es.length::vs).toArray w fun e w'=>∃v F',e=.returned v∧w'.os=w.os∧w'.tape=w.tape∧w'.output=w.output∧w.heap.size≤w'.heap.size∧
   (∀b,b<w.heap.size→(l.nil=true∨b≠l.blk)→w'.heap[b]?=w.heap[b]?)∧(∀c b,F c b→F' c b)∧(∀c b,F' c b→F c b∨w.heap.size≤b)∧(∀c b,F' c b→b<w'.heap.size)∧(∀b,F' true b→F' false b)∧
   (l.nil=false→∀c,¬F' c l.blk)∧RowRep w' F' l ty k es'∧IRep w' F' r v
def wstart (l:Loc)(ty k:Nat)(es ds:List IVal)(m:Nat):AState:=
 {t:=fun i=>match i with
   |0=>.own 0 es.length
   |i+1=>match ds[i]? with
    |some d=>.imm d
    |none=>.any,
  s:=fun id=>if id=0 then some (.brow l ty k es)else none,m,n:=1}
def WEnd (P:Program)(rs:List ResultVar)(r:IVal)(l:Loc)(ty k:Nat)(es':List IVal):Exit→AState→Prop
 |.normal,σ|.ret,σ=>(∃o d,afin P σ rs=some (o,d)∧eqs o∧ILe d r)∧σ.s 0=some (.brow l ty k es')
 |_,_=>False
theorem WSpec.of_body {f:FuncId}{fn:Func}{c:Code}{ty k:Nat}{es ds es':List IVal}{r:IVal}(hf:P.funcs[f]?=some fn)(hb:fn.body=some c)(hn:(fn.name != "runtime.NumGoroutine")=true)(hl:ds.length+1≤fn.ntmps)(hr:iflat r=true)
  (h:∀l,AWp P [] c (WEnd P fn.results.toList r l ty k es') (wstart l ty k es ds fn.ntmps)):WSpec P f ty k es ds r es':=by
 refine⟨by simp[callable,hf,hb]at*;exact hn,fun w F l vs hF hcol hrow hoff hargs=>calls_of_wp hf hb ?_⟩
 have hlen:=hargs.length
 have hown:∀b,Owned (fun _=>l) (wstart l ty k es ds fn.ntmps) b→l.nil=false∧b=l.blk:=by
  rintro b ⟨id,e,he,h1,h2⟩;exact⟨h1,h2.symm⟩
 refine wp_mono (h l (fun _=>l) F _ w ⟨?_,fun i=>?_,fun id e he=>?_,fun b hb=>?_,fun i j ei ej hi hj _ _ _=>?_,hF,hcol⟩ rfl) ?_
 ·simp[wstart];omega
 ·cases i with
  |zero=>
   refine⟨by simp only[wstart];rw[AIn];unfold below;omega,?_⟩
   simp only[wstart]
   rw[ARep]
   refine⟨by simp[Array.getElem?_append],fun hnil=>?_⟩
   rcases hrow with h0|h0
   ·rw[h0.2];rfl
   ·rw[h0.1]at hnil;cases hnil
  |succ i=>
   simp only[wstart]
   cases hi:ds[i]? with
   |none=>exact⟨by rw[AIn];trivial,by rw[ARep];trivial⟩
   |some d=>
    refine⟨by rw[AIn];trivial,?_⟩
    obtain⟨u,h1,h2⟩:=hargs.at hi
    rw[ARep]
    have:((l.val es.length::vs).toArray++Array.replicate (fn.ntmps-(l.val es.length::vs).toArray.size) undef).getD (i+1) undef=u:=by
     have hlt:=(List.getElem?_eq_some_iff.1 h1).1
     have h4:vs[i]=u:=by rw[List.getElem?_eq_getElem hlt]at h1;exact Option.some.inj h1
     simp[Array.getElem?_append,hlt,h4]
    rw[this];exact h2
 ·simp only[wstart]at he
  split at he
  ·rename_i hid
   simp only[Option.some.injEq]at he;subst he;subst hid
   exact⟨by simp[wstart,below],trivial,rfl,hrow⟩
  ·cases he
 ·obtain⟨h1,rfl⟩:=hown b hb
  exact hoff h1
 ·simp only[wstart]at hi hj
  split at hi
  ·rename_i h1
   split at hj
   ·rename_i h2;rw[h1,h2]
   ·cases hj
  ·cases hi
 ·rintro e a' w' ⟨ι',F',σ',h1,h2,h3,h4⟩
  have fin:((∃o d,afin P σ' fn.results.toList=some (o,d)∧eqs o∧ILe d r)∧σ'.s 0=some (.brow l ty k es'))→a'.defers=[]∧∃v,(results fn a'.tmps).run P w'=.ok v w'∧∃v' F'',Ending.returned v=.returned v'∧w'.os=w.os∧w'.tape=w.tape∧w'.output=w.output∧w.heap.size≤w'.heap.size∧
   (∀b,b<w.heap.size→(l.nil=true∨b≠l.blk)→w'.heap[b]?=w.heap[b]?)∧(∀c b,F c b→F'' c b)∧(∀c b,F'' c b→F c b∨w.heap.size≤b)∧(∀c b,F'' c b→b<w'.heap.size)∧(∀b,F'' true b→F'' false b)∧
   (l.nil=false→∀c,¬F'' c l.blk)∧RowRep w' F'' l ty k es'∧IRep w' F'' r v':=by
   rintro⟨⟨o,d,hr',ho,hle⟩,hs⟩
   obtain⟨u,g1,g2⟩:=afin_spec h2 hr' ho
   have hc:∀b,Frz F' ι' σ' true b→Frz F' ι' σ' false b:=fun b h=>h.imp_left (h2.col b)
   obtain⟨_,_,q1,q2⟩:=h2.ent 0 _ hs
   have hoff':l.nil=false→∀c,¬F' c l.blk:=by
    intro hnil c hF'
    exact h2.off l.blk ⟨0,_,hs,by rw[q1];exact hnil,by rw[q1]⟩ c hF'
   rw[q1]at q2
   refine⟨h3,u,g1,u,F',rfl,h4.os,h4.tape,h4.output,h4.size,fun b hb hne=>h4.frame b hb (fun hO=>?_),h4.mono,fun c b h=>?_,h2.foot,h2.col,hoff',q2,iflat_rep hr (hle.rep hc g2)⟩
   ·obtain⟨h5,h6⟩:=hown b hO
    rcases hne with h7|h7
    ·rw[h7]at h5;cases h5
    ·exact h7 h6
   ·rcases h4.src c b h with h5|h5|h5
    ·exact .inl h5
    ·exact .inr h5
    ·exfalso
     obtain⟨h6,rfl⟩:=hown b h5
     exact hoff' h6 c h
  cases e with
  |normal=>exact fin h1
  |ret=>exact fin h1
  |_=>exact h1.elim
def OSpec (P:Program)(f:FuncId)(ds:List IVal)(ty k:Nat)(es:List IVal):Prop:=
 callable P f=true∧∀(w:World)(F:Foot)(vs:Array Value),(∀c b,F c b→b<w.heap.size)→(∀b,F true b→F false b)→IRepL w F ds vs.toList→
  Calls P f vs w fun e w'=>∃l F',e=.returned (l.val es.length)∧Below w.heap.size w w'∧(∀c b,F c b→F' c b)∧(∀c b,F' c b→F c b∨w.heap.size≤b)∧(∀c b,F' c b→b<w'.heap.size)∧(∀b,F' true b→F' false b)∧
   RowRep w' F' l ty k es∧(l.nil=false→w.heap.size≤l.blk∧∀c,¬F' c l.blk)
def OEnd (P:Program)(rs:List ResultVar)(ty k:Nat)(es:List IVal):Exit→AState→Prop
 |.normal,σ|.ret,σ=>(∃id,aresL P σ rs=some [.own id es.length]∧σ.s id=some (.row ty k es))∨(aresL P σ rs=some [.imm (.v (.slice none 0 0))]∧es=[])
 |_,_=>False
section
variable {K K':Nat→Prop} {ι:Nat→Loc} {F F':Foot} {σ:AState} {a:Act} {w w':World}
theorem aresO_spec (hR:Rel K ι F σ a w){fn:Func}{x:AVal}(h:aresL P σ fn.results.toList=some [x]):∃u,(results fn a.tmps).run P w=.ok u w∧ARep w F ι x u:=by
 obtain⟨us,h1,h2⟩:=aresL_spec hR h
 rw[ARepL]at h2
 obtain⟨u,us',rfl,g1,g2⟩:=h2
 rw[ARepL]at g2;subst g2
 refine⟨u,?_,g1⟩
 rw[results_eq,Array.mapM_eq_mapM_toList]
 simp only[Sem.run_bind,Sem.run_map,h1,Result.andThen,Sem.run_pure]
 simp
theorem Rel.adopt (h:Rel K ι F σ a w)(j:Nat)(hj:¬K j)(l:Loc)(ty k:Nat)(es:List IVal)(hl:l.nil=false→(∀c,¬F c l.blk)∧¬Owned ι σ l.blk)(he:RowRep w F l ty k es):
  Rel (fun i=>K i∨i=j) (fun i=>if i=j then l else ι i) F {σ with s:=ups σ.s [(j,some (.row ty k es))]} a w:=by
 have henv:∀id,K id→(fun i=>if i=j then l else ι i) id=ι id:=fun id hid=>by
  show (if id=j then l else ι id)=ι id
  rw[if_neg (fun ee:id=j=>hj (by rw[←ee];exact hid))]
 have hkeep:Keeps F w w:=fun _ _ _=>rfl
 refine⟨h.size,fun i=>?_,fun id x hx=>?_,fun b hb c hc=>?_,?_,h.foot,h.col⟩
 ·exact⟨AIn.mono (fun _ hi=>.inl hi) _ (h.tmp i).1,ARep.keep hkeep (fun _ _ hb=>hb) henv _ _ (h.tmp i).1 (h.tmp i).2⟩
 ·by_cases hid:id=j
  ·subst hid
   simp only[ups,if_true,Option.some.injEq]at hx
   subst hx
   refine⟨.inr rfl,trivial,?_⟩
   simp only[if_true]
   exact he
  ·simp only[ups,if_neg hid]at hx
   obtain⟨h1,h2,h3⟩:=h.ent id x hx
   refine⟨.inl h1,EIn.mono (fun _ hi=>.inl hi) _ h2,?_⟩
   simp only[if_neg hid]
   exact ERep.keep hkeep (fun _ _ hb=>hb) henv (fun hn=>rfl) x h2 h3
 ·obtain⟨id,x,h1,h2,h3⟩:=hb
  by_cases hid:id=j
  ·subst hid
   simp only[if_true]at h2 h3
   subst h3
   exact(hl h2).1 c hc
  ·simp only[ups,if_neg hid]at h1 h2 h3
   exact h.off b ⟨id,x,h1,h2,h3⟩ c hc
 ·intro i k ei ek hi hk hni hnk heq
  by_cases h1:i=j
  ·by_cases h2:k=j
   ·rw[h1,h2]
   ·subst h1
    simp only[ups,if_true,if_neg h2]at hi hk hni hnk heq
    exact absurd ⟨k,ek,hk,hnk,heq.symm⟩ (hl hni).2
  ·by_cases h2:k=j
   ·subst h2
    simp only[ups,if_true,if_neg h1]at hi hk hni hnk heq
    exact absurd ⟨i,ei,hi,hni,heq⟩ (hl hnk).2
   ·simp only[ups,if_neg h1,if_neg h2]at hi hk hni hnk heq
    exact h.sep i k ei ek hi hk hni hnk heq
end
theorem OSpec.of_body {f:FuncId}{fn:Func}{c:Code}{ds:List IVal}{ty k:Nat}{es:List IVal}(hf:P.funcs[f]?=some fn)(hb:fn.body=some c)(hn:(fn.name != "runtime.NumGoroutine")=true)(hl:ds.length≤fn.ntmps)
  (h:AWp P [] c (OEnd P fn.results.toList ty k es) (astart ds fn.ntmps)):OSpec P f ds ty k es:=by
 refine⟨by simp[callable,hf,hb]at*;exact hn,fun w F vs hF hcol hargs=>calls_of_wp hf hb ?_⟩
 have hlen:=hargs.length
 simp only[Array.length_toList]at hlen
 refine wp_mono (h (fun _=>default) F _ w ⟨?_,fun i=>?_,fun id e he=>?_,fun b hb=>?_,fun i j ei ej hi=>?_,hF,hcol⟩ rfl) ?_
 ·simp[astart];omega
 ·simp only[astart]
  cases hi:ds[i]? with
  |none=>exact⟨by rw[AIn];trivial,by rw[ARep];trivial⟩
  |some d=>
   refine⟨by rw[AIn];trivial,?_⟩
   obtain⟨u,h1,h2⟩:=hargs.at hi
   rw[ARep]
   have:(vs++Array.replicate (fn.ntmps-vs.size) undef).getD i undef=u:=by
    have h3:vs[i]?=some u:=by simpa using h1
    have hlt:=(Array.getElem?_eq_some_iff.1 h3).1
    have h4:vs[i]=u:=by rw[Array.getElem?_eq_getElem hlt]at h3;exact Option.some.inj h3
    simp[Array.getElem?_append,hlt,h4]
   rw[this];exact h2
 ·simp[astart]at he
 ·obtain⟨id,e,he,_⟩:=hb;simp[astart]at he
 ·simp[astart]at hi
 ·rintro e a' w' ⟨ι',F',σ',h1,h2,h3,h4⟩
  have fin:((∃id,aresL P σ' fn.results.toList=some [.own id es.length]∧σ'.s id=some (.row ty k es))∨(aresL P σ' fn.results.toList=some [.imm (.v (.slice none 0 0))]∧es=[]))→a'.defers=[]∧∃v,(results fn a'.tmps).run P w'=.ok v w'∧∃l F'',Ending.returned v=.returned (l.val es.length)∧Below w.heap.size w w'∧(∀c b,F c b→F'' c b)∧(∀c b,F'' c b→F c b∨w.heap.size≤b)∧(∀c b,F'' c b→b<w'.heap.size)∧(∀b,F'' true b→F'' false b)∧
    RowRep w' F'' l ty k es∧(l.nil=false→w.heap.size≤l.blk∧∀c,¬F'' c l.blk):=by
   rintro(⟨id,hr,hs⟩|⟨hr,rfl⟩)
   rotate_left
   ·obtain⟨u,g1,g2⟩:=aresO_spec h2 hr
    have none:∀b,¬Owned (fun _=>default) (astart ds fn.ntmps) b:=by rintro b ⟨id,e,he,_⟩;simp[astart]at he
    rw[ARep,IRep]at g2
    refine⟨h3,u,g1,⟨0,0,0,true,Option.none⟩,F',by rw[g2.1];rfl,⟨h4.os,h4.tape,h4.output,h4.size,fun b hb=>h4.frame b hb (none b)⟩,fun c b h=>h4.mono c b h,fun c b h=>?_,h2.foot,h2.col,.inl ⟨rfl,rfl⟩,fun hnil=>(by cases hnil)⟩
    exact(h4.src c b h).elim .inl (fun h=>h.elim .inr (fun h=>absurd h (none b)))
   obtain⟨u,g1,g2⟩:=aresO_spec h2 hr
   have none:∀b,¬Owned (fun _=>default) (astart ds fn.ntmps) b:=by rintro b ⟨id,e,he,_⟩;simp[astart]at he
   obtain⟨_,_,q2⟩:=h2.ent id _ hs
   rw[ARep]at g2
   refine⟨h3,u,g1,ι' id,F',by rw[g2.1],⟨h4.os,h4.tape,h4.output,h4.size,fun b hb=>h4.frame b hb (none b)⟩,fun c b h=>h4.mono c b h,fun c b h=>?_,h2.foot,h2.col,q2,fun hnil=>?_⟩
   ·exact(h4.src c b h).elim .inl (fun h=>h.elim .inr (fun h=>absurd h (none b)))
   ·have ho:Owned ι' σ' (ι' id).blk:=⟨id,_,hs,hnil,rfl⟩
    exact⟨(h4.own _ ho).elim (fun h=>absurd h (none _)) (fun h=>h),fun c=>h2.off _ ho c⟩
  cases e with
  |normal=>exact fin h1
  |ret=>exact fin h1
  |_=>exact h1.elim
def rst (ids:List Nat)(σ:AState):AState:={σ with s:=fun i=>if ids.contains i=true then σ.s i else none}
def isRow :Option Entry→Bool
 |some (.row _ _ _)=>true
 |_=>false
def okIds (σ:AState):List Nat→Bool
 |[]=>true
 |i::l=>!l.contains i&&isRow (σ.s i)&&okIds σ l
theorem isRow_spec {x:Option Entry}(h:isRow x=true):∃ty k es,x=some (.row ty k es):=by
 unfold isRow at h;split at h
 ·exact⟨_,_,_,rfl⟩
 ·cases h
section
variable {K:Nat→Prop} {ι:Nat→Loc} {F:Foot} {a:Act} {w:World}
theorem Rel.freezeL :∀(ids:List Nat){F:Foot}{σ:AState},Rel K ι F σ a w→okIds σ ids=true→∃F',Rel K ι F' {σ with s:=ups σ.s (ids.map fun i=>(i,none))} a w∧Ext K ι F σ w K ι F' {σ with s:=ups σ.s (ids.map fun i=>(i,none))} w∧
   (∀id ty k es,ids.contains id=true→σ.s id=some (.row ty k es)→IRep w F' (.sl true false k es) ((ι id).val es.length))
 |[],F,σ,h,_=>⟨F,h,Ext.refl _ _ _ _ _,fun id ty k es hc=>by simp at hc⟩
 |i::l,F,σ,h,hok=>by
  simp only[okIds,Bool.and_eq_true,Bool.not_eq_true']at hok
  obtain⟨⟨hni,hr⟩,hl⟩:=hok
  obtain⟨ty0,k0,es0,he⟩:=isRow_spec hr
  obtain⟨F1,r1,x1,i1⟩:=h.freeze i ty0 k0 es0 he
  have hsame:∀id,l.contains id=true→id≠i:=fun id hc e=>by rw[e,hni]at hc;cases hc
  have hok':∀l',(∀id,l'.contains id=true→id≠i)→okIds σ l'=true→okIds {σ with s:=ups σ.s [(i,none)]} l'=true:=by
   intro l'
   induction l' with
   |nil=>intro _ _;rfl
   |cons j l' ih=>
    intro hne hj
    simp only[okIds,Bool.and_eq_true]at hj⊢
    have hji:j≠i:=hne j (by simp)
    refine⟨⟨hj.1.1,?_⟩,ih (fun id hc=>hne id (by simp only[List.contains_cons,hc,Bool.or_true])) hj.2⟩
    simp only[ups,if_neg hji];exact hj.1.2
  obtain⟨F2,r2,x2,i2⟩:=Rel.freezeL l r1 (hok' l hsame hl)
  refine⟨F2,r2,x1.trans x2,fun id ty k es hc hs=>?_⟩
  by_cases hid:id=i
  ·subst hid
   rw[he]at hs
   simp only[Option.some.injEq,Entry.row.injEq]at hs
   obtain⟨rfl,rfl,rfl⟩:=hs
   exact IRep.keep (w:=w) (fun _ _ _=>rfl) x2.mono _ _ i1
  ·refine i2 id ty k es ?_ ?_
   ·have hc':(id==i||l.contains id)=true:=by simpa[List.contains_cons]using hc
    rcases Bool.or_eq_true_iff.1 hc' with g|g
    ·exact absurd (by simpa using g) hid
    ·exact g
   ·simp only[ups,if_neg hid];exact hs
mutual
theorem afzS_spec {F':Foot}{σ:AState}(hm:∀c b,F c b→F' c b)(hi:∀id ty k es,σ.s id=some (.row ty k es)→IRep w F' (.sl true false k es) ((ι id).val es.length))(hno:∀id kvs,σ.s id=some (.map kvs)→False):∀{x:AVal}{o:List (Nat×Nat)}{d:IVal}{u:Value},afz σ x=some (o,d)→eqs o→ARep w F ι x u→IRep w F' d u
 |.imm d',o,d,u,h,_,hr=>by
  simp only[afz,Option.some.injEq,Prod.mk.injEq]at h;obtain⟨rfl,rfl⟩:=h;rw[ARep]at hr
  exact IRep.keep (w:=w) (fun _ _ _=>rfl) hm _ _ hr
 |.own id n,o,d,u,h,ho,hr=>by
  rw[afz]at h
  split at h
  ·rename_i ty k es he
   simp only[Option.some.injEq,Prod.mk.injEq]at h;obtain⟨rfl,rfl⟩:=h
   have hn:n=es.length:=ho.1
   rw[ARep]at hr
   rw[hr.1,hn];exact hi id ty k es he
  ·cases h
 |.agg cs,o,d,u,h,ho,hr=>by
  rw[afz]at h
  split at h
  ·rename_i o' ds hds
   split at h
   ·rename_i hall
    simp only[Option.some.injEq,Prod.mk.injEq]at h;obtain⟨rfl,rfl⟩:=h
    rw[ARep]at hr;rw[IRep]
    obtain⟨vs,h1,h2⟩:=hr
    exact⟨vs,h1,afzSL_spec hm hi hno hds ho h2,hall⟩
   ·cases h
  ·cases h
 |.tup cs,o,d,u,h,ho,hr=>by
  rw[afz]at h
  split at h
  ·rename_i o' ds hds
   simp only[Option.some.injEq,Prod.mk.injEq]at h;obtain⟨rfl,rfl⟩:=h
   rw[ARep]at hr;rw[IRep]
   obtain⟨vs,h1,h2⟩:=hr
   exact⟨vs,h1,afzSL_spec hm hi hno hds ho h2⟩
  ·cases h
 |.any,_,_,_,h,_,_=>by simp[afz]at h
 |.ub _,_,_,_,h,_,_=>by simp[afz]at h
 |.ptr _ _,_,_,_,h,_,_=>by simp[afz]at h
 |.rptr _ _ _ _,_,_,_,h,_,_=>by simp[afz]at h
 |.ref _ _ _,_,_,_,h,_,_=>by simp[afz]at h
 |.win _ _ _,_,_,_,h,_,_=>by simp[afz]at h
 |.mp id,_,_,_,h,_,_=>by
  rw[afz]at h
  split at h
  ·rename_i kvs he;exact(hno id kvs he).elim
  ·cases h
 |.fn f [] [],o,d,u,h,_,hr=>by
  simp only[afz,Option.some.injEq,Prod.mk.injEq]at h;obtain⟨rfl,rfl⟩:=h
  rw[ARep]at hr;obtain⟨va,vc,rfl,h1,h2⟩:=hr
  rw[ARepL]at h1 h2
  have e1:va=#[]:=by simpa using h1
  have e2:vc=#[]:=by simpa using h2
  rw[IRep];exact⟨by rw[e1,e2],rfl⟩
 |.fn _ (_::_) _,_,_,_,h,_,_=>by simp[afz]at h
 |.fn _ [] (_::_),_,_,_,h,_,_=>by simp[afz]at h
theorem afzSL_spec {F':Foot}{σ:AState}(hm:∀c b,F c b→F' c b)(hi:∀id ty k es,σ.s id=some (.row ty k es)→IRep w F' (.sl true false k es) ((ι id).val es.length))(hno:∀id kvs,σ.s id=some (.map kvs)→False):∀{xs:List AVal}{o:List (Nat×Nat)}{ds:List IVal}{us:List Value},afzL σ xs=some (o,ds)→eqs o→ARepL w F ι xs us→IRepL w F' ds us
 |[],o,ds,us,h,_,hr=>by rw[afzL]at h;simp only[Option.some.injEq,Prod.mk.injEq]at h;obtain⟨rfl,rfl⟩:=h;rw[ARepL]at hr;rw[IRepL];exact hr
 |x::xs,o,ds,us,h,ho,hr=>by
  rw[afzL]at h
  split at h
  ·rename_i o1 d o2 ds' h1 h2
   simp only[Option.some.injEq,Prod.mk.injEq]at h;obtain⟨rfl,rfl⟩:=h
   have ho:=eqs_append.1 ho
   rw[ARepL]at hr;rw[IRepL]
   obtain⟨u,us',e,h3,h4⟩:=hr
   exact⟨u,us',e,afzS_spec hm hi hno h1 ho.1 h3,afzSL_spec hm hi hno h2 ho.2 h4⟩
  ·cases h
end
end
mutual
theorem afz_mono {σ τ:AState}(hs:∀id e,σ.s id=some e→τ.s id=some e):∀{x:AVal}{r:List (Nat×Nat)×IVal},afz σ x=some r→afz τ x=some r
 |.imm d',r,h=>by rw[afz]at*;exact h
 |.own id n,r,h=>by
  rw[afz]at*
  split at h
  ·rename_i he;rw[hs _ _ he];exact h
  ·cases h
 |.agg cs,r,h=>by
  rw[afz]at*
  split at h
  ·rename_i hds;rw[afzL_mono hs hds];exact h
  ·cases h
 |.tup cs,r,h=>by
  rw[afz]at*
  split at h
  ·rename_i hds;rw[afzL_mono hs hds];exact h
  ·cases h
 |.any,_,h=>by simp[afz]at h
 |.ub _,_,h=>by simp[afz]at h
 |.ptr _ _,_,h=>by simp[afz]at h
 |.rptr _ _ _ _,_,h=>by simp[afz]at h
 |.ref _ _ _,_,h=>by simp[afz]at h
 |.win _ _ _,_,h=>by simp[afz]at h
 |.mp id,r,h=>by
  rw[afz]at*
  split at h
  ·rename_i he;rw[hs _ _ he];exact h
  ·cases h
 |.fn f [] [],_,h=>by rw[afz]at*;exact h
 |.fn _ (_::_) _,_,h=>by simp[afz]at h
 |.fn _ [] (_::_),_,h=>by simp[afz]at h
theorem afzL_mono {σ τ:AState}(hs:∀id e,σ.s id=some e→τ.s id=some e):∀{xs:List AVal}{r:List (Nat×Nat)×List IVal},afzL σ xs=some r→afzL τ xs=some r
 |[],r,h=>by rw[afzL]at*;exact h
 |x::xs,r,h=>by
  rw[afzL]at*
  split at h
  ·rename_i h1 h2;rw[afz_mono hs h1,afzL_mono hs h2];exact h
  ·cases h
end
theorem okIds_mono {σ τ:AState}(hs:∀id e,σ.s id=some e→τ.s id=some e):∀{ids:List Nat},okIds σ ids=true→okIds τ ids=true
 |[],_=>rfl
 |i::l,h=>by
  simp only[okIds,Bool.and_eq_true]at h⊢
  obtain⟨ty,k,es,he⟩:=isRow_spec h.1.2
  exact⟨⟨h.1.1,by rw[hs _ _ he];rfl⟩,okIds_mono hs h.2⟩
theorem rst_mono {σ τ:AState}(hs:∀id e,σ.s id=some e→τ.s id=some e)(ids:List Nat):∀id e,(rst ids σ).s id=some e→(rst ids τ).s id=some e:=by
 intro id e h
 simp only[rst]at h⊢
 split at h
 ·rename_i hc;rw[if_pos hc];exact hs _ _ h
 ·cases h
end Go.Abs
namespace Go.Abs
open Go.RowKit
variable {P:Program}
mutual
theorem ren_rep2 {w:World}{F:Foot}{ι:Nat→Loc}{g:Nat→Nat}:∀{x:AVal}{u:Value},ARep w F (fun i=>ι (g i)) x u→ARep w F ι (ren g x) u
 |.any,_,h=>by rw[ren,ARep];trivial
 |.ub _,_,h=>by rw[ren];rw[ARep]at*;exact h
 |.imm _,_,h=>by rw[ren];rw[ARep]at*;exact h
 |.ptr _ _,_,h=>by rw[ren];rw[ARep]at*;exact h
 |.rptr _ _ _ _,_,h=>by rw[ren];rw[ARep]at*;exact h
 |.ref _ _ _,_,h=>by rw[ren];rw[ARep]at*;exact h
 |.own _ _,_,h=>by rw[ren];rw[ARep]at*;exact h
 |.win _ _ _,_,h=>by rw[ren];rw[ARep]at*;exact h
 |.mp _,_,h=>by rw[ren];rw[ARep]at*;exact h
 |.agg ds,_,h=>by rw[ren];rw[ARep]at*;obtain⟨vs,e,h⟩:=h;exact⟨vs,e,renL_rep2 h⟩
 |.tup ds,_,h=>by rw[ren];rw[ARep]at*;obtain⟨vs,e,h⟩:=h;exact⟨vs,e,renL_rep2 h⟩
 |.fn _ a c,_,h=>by rw[ren];rw[ARep]at*;obtain⟨va,vc,e,h1,h2⟩:=h;exact⟨va,vc,e,renL_rep2 h1,renL_rep2 h2⟩
theorem renL_rep2 {w:World}{F:Foot}{ι:Nat→Loc}{g:Nat→Nat}:∀{xs:List AVal}{us:List Value},ARepL w F (fun i=>ι (g i)) xs us→ARepL w F ι (renL g xs) us
 |[],_,h=>by rw[renL];rw[ARepL]at*;exact h
 |d::ds,_,h=>by rw[renL];rw[ARepL]at*;obtain⟨u,us',e,h1,h2⟩:=h;exact⟨u,us',e,ren_rep2 h1,renL_rep2 h2⟩
end
mutual
theorem ren_in2 {K:Nat→Prop}{g:Nat→Nat}:∀{x:AVal},AIn K (ren g x)→AIn (fun i=>K (g i)) x
 |.any,h=>by rw[AIn];trivial
 |.ub _,h=>by rw[AIn];trivial
 |.imm _,h=>by rw[AIn];trivial
 |.ptr _ _,h=>by rw[ren]at h;rw[AIn]at*;exact h
 |.rptr _ _ _ _,h=>by rw[ren]at h;rw[AIn]at*;exact h
 |.ref _ _ _,h=>by rw[AIn];trivial
 |.own _ _,h=>by rw[ren]at h;rw[AIn]at*;exact h
 |.win _ _ _,h=>by rw[ren]at h;rw[AIn]at*;exact h
 |.mp _,h=>by rw[ren]at h;rw[AIn]at*;exact h
 |.agg ds,h=>by rw[ren]at h;rw[AIn]at*;exact renL_in2 h
 |.tup ds,h=>by rw[ren]at h;rw[AIn]at*;exact renL_in2 h
 |.fn _ a c,h=>by rw[ren]at h;rw[AIn]at*;exact⟨renL_in2 h.1,renL_in2 h.2⟩
theorem renL_in2 {K:Nat→Prop}{g:Nat→Nat}:∀{xs:List AVal},AInL K (renL g xs)→AInL (fun i=>K (g i)) xs
 |[],h=>by rw[AInL];trivial
 |d::ds,h=>by rw[renL]at h;rw[AInL]at*;exact⟨ren_in2 h.1,renL_in2 h.2⟩
end
mutual
theorem ren_in3 {K:Nat→Prop}{g:Nat→Nat}:∀{x:AVal},AIn (fun i=>K (g i)) x→AIn K (ren g x)
 |.any,h=>by rw[ren,AIn];trivial
 |.ub _,h=>by rw[ren,AIn];trivial
 |.imm _,h=>by rw[ren,AIn];trivial
 |.ptr _ _,h=>by rw[ren];rw[AIn]at*;exact h
 |.rptr _ _ _ _,h=>by rw[ren];rw[AIn]at*;exact h
 |.ref _ _ _,h=>by rw[ren,AIn];trivial
 |.own _ _,h=>by rw[ren];rw[AIn]at*;exact h
 |.win _ _ _,h=>by rw[ren];rw[AIn]at*;exact h
 |.mp _,h=>by rw[ren];rw[AIn]at*;exact h
 |.agg ds,h=>by rw[ren];rw[AIn]at*;exact renL_in3 h
 |.tup ds,h=>by rw[ren];rw[AIn]at*;exact renL_in3 h
 |.fn _ a c,h=>by rw[ren];rw[AIn]at*;exact⟨renL_in3 h.1,renL_in3 h.2⟩
theorem renL_in3 {K:Nat→Prop}{g:Nat→Nat}:∀{xs:List AVal},AInL (fun i=>K (g i)) xs→AInL K (renL g xs)
 |[],h=>by rw[renL,AInL];trivial
 |d::ds,h=>by rw[renL];rw[AInL]at*;exact⟨ren_in3 h.1,renL_in3 h.2⟩
end
theorem ren_to {w:World}{F:Foot}{ι ι':Nat→Loc}{inv:Nat→Nat}{N:Nat→Prop}(hg:∀id,N (inv id)→ι' (inv id)=ι id){x:AVal}{u:Value}(hin:AIn N (ren inv x))(h:ARep w F ι x u):ARep w F ι' (ren inv x) u:=
 ren_rep2 (ARep.keep (w:=w) (K:=fun i=>N (inv i)) (fun _ _ _=>rfl) (fun _ _ hb=>hb) hg x u (ren_in2 hin) h)
theorem renL_to {w:World}{F:Foot}{ι ι':Nat→Loc}{inv:Nat→Nat}{N:Nat→Prop}(hg:∀id,N (inv id)→ι' (inv id)=ι id){xs:List AVal}{us:List Value}(hin:AInL N (renL inv xs))(h:ARepL w F ι xs us):ARepL w F ι' (renL inv xs) us:=
 renL_rep2 (ARepL.keep (w:=w) (K:=fun i=>N (inv i)) (fun _ _ _=>rfl) (fun _ _ hb=>hb) hg xs us (renL_in2 hin) h)
inductive ALe :AVal→AVal→Prop
 |refl (x:AVal):ALe x x
 |imm {d d':IVal}:ILe d d'→ALe (.imm d) (.imm d')
 |data {x:AVal} {d d':IVal}:aimm x=some d→ILe d d'→ALe x (.imm d')
theorem ALe.rep {w:World}{F:Foot}{ι:Nat→Loc}(hc:∀b,F true b→F false b){x y:AVal}{u:Value}(h:ALe x y)(hr:ARep w F ι x u):ARep w F ι y u:=by
 cases h with
 |refl=>exact hr
 |imm h=>rw[ARep]at*;exact h.rep hc hr
 |data hx h=>rw[ARep];exact h.rep hc (aimm_spec hx hr)
theorem ALe.within {K:Nat→Prop}{x y:AVal}(h:ALe x y)(hr:AIn K x):AIn K y:=by
 cases h with
 |refl=>exact hr
 |imm h=>rw[AIn];trivial
 |data _ h=>rw[AIn];trivial
def ALeL :List AVal→List AVal→Prop
 |[],[]=>True
 |x::xs,y::ys=>ALe x y∧ALeL xs ys
 |_,_=>False
theorem ALeL.refl :∀xs:List AVal,ALeL xs xs
 |[]=>trivial
 |x::xs=>⟨.refl x,ALeL.refl xs⟩
theorem ALeL.rep {w:World}{F:Foot}{ι:Nat→Loc}(hc:∀b,F true b→F false b):∀{xs ys:List AVal}{us:List Value},ALeL xs ys→ARepL w F ι xs us→ARepL w F ι ys us
 |[],[],_,_,h=>h
 |x::xs,y::ys,us,⟨h1,h2⟩,h=>by rw[ARepL]at*;obtain⟨u,us',e,g1,g2⟩:=h;exact⟨u,us',e,h1.rep hc g1,ALeL.rep hc h2 g2⟩
 |[],_::_,_,h,_=>h.elim
 |_::_,[],_,h,_=>h.elim
theorem ALeL.within {K:Nat→Prop}:∀{xs ys:List AVal},ALeL xs ys→AInL K xs→AInL K ys
 |[],[],_,h=>h
 |x::xs,y::ys,⟨h1,h2⟩,h=>by rw[AInL]at*;exact⟨h1.within h.1,ALeL.within h2 h.2⟩
 |[],_::_,h,_=>h.elim
 |_::_,[],h,_=>h.elim
theorem ARepL.at2 {w:World}{F:Foot}{ι:Nat→Loc}:∀{xs:List AVal}{us:List Value},ARepL w F ι xs us→xs.length=us.length∧∀(i:Nat)(x:AVal),xs[i]?=some x→ARep w F ι x (us.getD i undef)
 |[],us,h=>by rw[ARepL]at h;subst h;exact⟨rfl,fun i x hx=>by simp at hx⟩
 |x::xs,us,h=>by
  rw[ARepL]at h
  obtain⟨u,us',rfl,h1,h2⟩:=h
  obtain⟨g1,g2⟩:=ARepL.at2 h2
  refine⟨by simp[g1],fun i y hy=>?_⟩
  cases i with
  |zero=>simp at hy;subst hy;simpa using h1
  |succ i=>simp at hy;simpa using g2 i y hy
theorem AInL.at2 {K:Nat→Prop}:∀{xs:List AVal},AInL K xs→∀(i:Nat)(x:AVal),xs[i]?=some x→AIn K x
 |[],h,i,x,hx=>by simp at hx
 |y::xs,h,i,x,hx=>by
  rw[AInL]at h
  cases i with
  |zero=>simp at hx;subst hx;exact h.1
  |succ i=>exact AInL.at2 h.2 i x (by simpa using hx)
inductive ELe :Entry→Entry→Prop
 |refl (e:Entry):ELe e e
 |row {ty k:Nat} {es es':List IVal}:ILeL es es'→ELe (.row ty k es) (.row ty k es')
def ELeL :List Entry→List Entry→Prop
 |[],[]=>True
 |x::xs,y::ys=>ELe x y∧ELeL xs ys
 |_,_=>False
theorem ELeL.refl :∀xs:List Entry,ELeL xs xs
 |[]=>trivial
 |x::xs=>⟨.refl x,ELeL.refl xs⟩
theorem ELeL.at2 :∀{xs ys:List Entry},ELeL xs ys→xs.length=ys.length∧∀(i:Nat) y,ys[i]?=some y→∃x,xs[i]?=some x∧ELe x y
 |[],[],_=>⟨rfl,fun i y h=>by simp at h⟩
 |x::xs,y::ys,h=>by
  obtain⟨g1,g2⟩:=ELeL.at2 h.2
  refine⟨by simp[g1],fun i z hz=>?_⟩
  cases i with
  |zero=>simp at hz;subst hz;exact⟨x,rfl,h.1⟩
  |succ i=>simp at hz;simpa using g2 i z hz
 |[],_::_,h=>h.elim
 |_::_,[],h=>h.elim
theorem ELe.rep {w:World}{F:Foot}{ι:Nat→Loc}(hc:∀b,F true b→F false b){x y:Entry}{l:Loc}(h:ELe x y)(hr:ERep w F ι l x):ERep w F ι l y:=by
 cases h with
 |refl=>exact hr
 |row h=>
  rcases hr with⟨h1,rfl⟩|⟨h0,c,fr,vs,h1,h2,h3,h4,h5,h6⟩
  ·cases h with
   |refl=>exact .inl ⟨h1,rfl⟩
  ·have h7:=h.rep hc h5
   exact .inr ⟨h0,c,fr,vs,h1,h2,h3,by rw[←h.length];exact h4,h7,h6⟩
theorem ELe.within {K:Nat→Prop}{x y:Entry}(h:ELe x y)(hr:EIn K x):EIn K y:=by
 cases h with
 |refl=>exact hr
 |row h=>trivial
abbrev Rw :=Nat×Nat×List IVal
def gentry (ls:Nat→Loc)(bx:List (Nat×AVal))(es:List Entry)(i:Nat):Option Entry:=
 if i<bx.length then(bx[i]?).map fun p=>.bbox (ls i) p.1 p.2 else es[i-bx.length]?
def gstate (ls:Nat→Loc)(bx:List (Nat×AVal))(es:List Entry)(args:List AVal)(m:Nat):AState:=
 {t:=fun i=>(args[i]?).getD .any,s:=gentry ls bx es,m,n:=bx.length+es.length}
def rows (rw:List Rw):List Entry:=rw.map fun p=>.row p.1 p.2.1 p.2.2
def GSpec (P:Program)(f:FuncId)(bx:List (Nat×AVal))(rw:List Rw)(args:List AVal)(bx':List (Nat×AVal))(new:List Entry)(r:AVal):Prop:=
 callable P f=true∧bx'.length=bx.length∧∀(w:World)(F:Foot)(ι:Nat→Loc)(a:Act),Rel (below (bx.length+(rows rw).length)) ι F (gstate ι bx (rows rw) args args.length) a w→
  Calls P f a.tmps w fun e w'=>∃v ι' F' a',e=.returned v∧a'.tmps=#[v]∧Rel (below (bx'.length+new.length)) ι' F' (gstate ι bx' new [r] 1) a' w'∧Pass ι F (gstate ι bx (rows rw) args args.length) w ι' F' (gstate ι bx' new [r] 1) w'
def oneA :List AVal→AVal
 |[x]=>x
 |xs=>.tup xs
def GEnd (P:Program)(rs:List ResultVar)(ls:Nat→Loc)(bx':List (Nat×AVal))(new:List Entry)(r:AVal):Exit→AState→Prop
 |.normal,σ|.ret,σ=>∃(gg:Nat→Nat)(xs:List AVal),(∀i,i<bx'.length→gg i=i)∧(∀i k,i<bx'.length+new.length→k<bx'.length+new.length→gg i=gg k→i=k)∧
   aresL P σ rs=some xs∧AIn (below (bx'.length+new.length)) r∧(∀(w:World)(F:Foot)(ι:Nat→Loc)(u:Value),(∀b,F true b→F false b)→ARep w F ι (oneA xs) u→ARep w F (fun i=>ι (gg i)) r u)∧
   (∀i p,bx'[i]?=some p→AIn (below (bx'.length+new.length)) p.2∧∃x,σ.s i=some (.bbox (ls i) p.1 x)∧∀(w:World)(F:Foot)(ι:Nat→Loc)(u:Value),ARep w F ι x u→ARep w F (fun i=>ι (gg i)) p.2 u)∧
   (∀q e,new[q]?=some e→EIn (below (bx'.length+new.length)) e∧∃e',σ.s (gg (bx'.length+q))=some e'∧∀(w:World)(F:Foot)(ι:Nat→Loc)(l:Loc),(∀b,F true b→F false b)→ERep w F ι l e'→ERep w F (fun i=>ι (gg i)) l e)
 |_,_=>False
section
variable {K:Nat→Prop} {ι:Nat→Loc} {F:Foot} {σ:AState} {a:Act} {w:World}
theorem one_spec (hR:Rel K ι F σ a w){fn:Func}{xs:List AVal}(h:aresL P σ fn.results.toList=some xs):∃u,(results fn a.tmps).run P w=.ok u w∧ARep w F ι (oneA xs) u:=by
 obtain⟨us,h1,h2⟩:=aresL_spec hR h
 have hrun:(results fn a.tmps).run P w=.ok (if h:us.toArray.size=1 then us.toArray[0]else .tuple us.toArray) w:=by
  rw[results_eq,Array.mapM_eq_mapM_toList]
  simp only[Sem.run_bind,Sem.run_map,h1,Result.andThen,Sem.run_pure]
 unfold oneA
 split
 ·rw[ARepL]at h2
  obtain⟨u,us',rfl,g1,g2⟩:=h2
  rw[ARepL]at g2;subst g2
  exact⟨u,by rw[hrun];simp,g1⟩
 ·rename_i hne
  refine⟨.tuple us.toArray,?_,by rw[ARep];exact⟨_,rfl,by simpa using h2⟩⟩
  rw[hrun,dif_neg]
  have:=(ARepL.at2 h2).1
  intro hc
  have h1l:xs.length=1:=by simpa[this]using hc
  match xs,h1l with
  |[d'],_=>exact hne d' rfl
end
theorem GSpec.of_body {f:FuncId}{fn:Func}{c:Code}{bx:List (Nat×AVal)}{rw:List Rw}{args:List AVal}{bx':List (Nat×AVal)}{new:List Entry}{r:AVal}(hf:P.funcs[f]?=some fn)(hb:fn.body=some c)(hn:(fn.name != "runtime.NumGoroutine")=true)
  (hl:args.length≤fn.ntmps)(hbx:bx'.length=bx.length)(h:∀ls,AWp P [] c (GEnd P fn.results.toList ls bx' new r) (gstate ls bx (rows rw) args fn.ntmps)):GSpec P f bx rw args bx' new r:=by
 refine⟨by simp[callable,hf,hb]at*;exact hn,hbx,fun w F ι a hR=>calls_of_wp hf hb ?_⟩
 have hsz:a.tmps.size=args.length:=hR.size
 have hR0:Rel (below (bx.length+(rows rw).length)) ι F (gstate ι bx (rows rw) args fn.ntmps) {tmps:=a.tmps++Array.replicate (fn.ntmps-a.tmps.size) undef,defers:=[]} w:=by
  refine⟨by simp[gstate,hsz];omega,fun i=>?_,hR.ent,hR.off,hR.sep,hR.foot,hR.col⟩
  obtain⟨t1,t2⟩:=hR.tmp i
  by_cases hi:i<args.length
  ·refine⟨t1,?_⟩
   have:(a.tmps++Array.replicate (fn.ntmps-a.tmps.size) undef).getD i undef=a.tmps.getD i undef:=by
    simp[Array.getElem?_append,hsz,hi]
   show ARep w F ι _ _
   simp only
   rw[this];exact t2
  ·have hx:(gstate ι bx (rows rw) args fn.ntmps).t i=.any:=by
    simp only[gstate];rw[List.getElem?_eq_none (by omega)];rfl
   rw[hx]
   exact⟨by rw[AIn];trivial,by rw[ARep];trivial⟩
 refine wp_mono (h ι ι F _ w hR0 rfl) ?_
 rintro e a' w' ⟨ι',F',σ',h1,h2,h3,h4⟩
 have fin:GEnd P fn.results.toList ι bx' new r .ret σ'→a'.defers=[]∧∃v,(results fn a'.tmps).run P w'=.ok v w'∧∃v' ι'' F'' a'',Ending.returned v=.returned v'∧a''.tmps=#[v']∧
   Rel (below (bx'.length+new.length)) ι'' F'' (gstate ι bx' new [r] 1) a'' w'∧Pass ι F (gstate ι bx (rows rw) args args.length) w ι'' F'' (gstate ι bx' new [r] 1) w':=by
  rintro⟨gg,xs,g1,g2,g3,g4,g5,g6,g7⟩
  obtain⟨u,u1,u2⟩:=one_spec h2 g3
  have ent:∀id e,gentry ι bx' new id=some e→id<bx'.length+new.length∧∃e',σ'.s (gg id)=some e'∧EIn (below (bx'.length+new.length)) e∧ERep w' F' (fun i=>ι' (gg i)) (ι' (gg id)) e:=by
   intro id e he
   unfold gentry at he
   split at he
   ·rename_i hid
    obtain⟨p,hp,rfl⟩:=Option.map_eq_some_iff.1 he
    obtain⟨p1,x,p2,p3⟩:=g6 id p hp
    obtain⟨q1,q2,q3⟩:=h2.ent id _ p2
    refine⟨by omega,_,by rw[g1 id hid];exact p2,p1,?_⟩
    rw[g1 id hid]
    obtain⟨r1,r2,v,r3,r4⟩:=q3
    exact⟨r1,r2,v,r3,p3 _ _ _ _ r4⟩
   ·rename_i hid
    have hlt:=(List.getElem?_eq_some_iff.1 he).1
    obtain⟨p1,e',p2,p3⟩:=g7 _ _ he
    have hidx:bx'.length+(id-bx'.length)=id:=by omega
    rw[hidx]at p2
    obtain⟨q1,q2,q3⟩:=h2.ent _ _ p2
    exact⟨by omega,e',p2,p1,p3 _ _ _ _ h2.col q3⟩
  have own:∀b,Owned (fun i=>ι' (gg i)) (gstate ι bx' new [r] 1) b→Owned ι' σ' b:=by
   rintro b ⟨id,e,k1,k2,k3⟩
   obtain⟨_,e',k4,_⟩:=ent id e k1
   exact⟨gg id,e',k4,k2,k3⟩
  refine⟨h3,u,u1,u,fun i=>ι' (gg i),F',{a' with tmps:=#[u]},rfl,rfl,⟨rfl,fun i=>?_,fun id e he=>?_,fun b hb=>h2.off b (own b hb),fun i k ei ek hi hk hni hnk heq=>?_,h2.foot,h2.col⟩,
   ⟨h4.os,h4.tape,h4.output,h4.size,fun b hb ho=>h4.frame b hb ho,fun b hb=>h4.own b (own b hb),h4.mono,h4.src⟩⟩
  ·cases i with
   |zero=>exact⟨g4,g5 _ _ _ _ h2.col u2⟩
   |succ i=>
    have hx:(gstate ι bx' new [r] 1).t (i+1)=.any:=by simp[gstate]
    rw[hx];exact⟨by rw[AIn];trivial,by rw[ARep];trivial⟩
  ·obtain⟨k1,e',k2,k3,k4⟩:=ent id e he
   exact⟨k1,k3,k4⟩
  ·obtain⟨k1,ei',k2,_⟩:=ent i ei hi
   obtain⟨l1,ek',l2,_⟩:=ent k ek hk
   exact g2 i k k1 l1 (h2.sep _ _ _ _ k2 l2 hni hnk heq)
 cases e with
 |normal=>exact fin h1
 |ret=>exact fin h1
 |_=>exact h1.elim
theorem ups_append (s:Nat→Option Entry):∀(a b:List (Nat×Option Entry)),ups s (a++b)=ups (ups s a) b
 |[],b=>rfl
 |(id,e)::a,b=>by simp only[List.cons_append,ups];exact ups_append _ a b
theorem ups_range_miss {s:Nat→Option Entry}{f:Nat→Nat}{v:Nat→Option Entry}{id:Nat}:∀{n:Nat},(∀i,i<n→f i≠id)→ups s ((List.range n).map fun i=>(f i,v i)) id=s id
 |0,_=>rfl
 |n+1,h=>by
  rw[List.range_succ,List.map_append,ups_append]
  show (if id=f n then v n else _)=_
  rw[if_neg (fun e=>h n (by omega) e.symm)]
  exact ups_range_miss fun i hi=>h i (by omega)
theorem ups_range_hit {s:Nat→Option Entry}{f:Nat→Nat}{v:Nat→Option Entry}:∀{n i:Nat},i<n→(∀i k,i<n→k<n→f i=f k→i=k)→ups s ((List.range n).map fun i=>(f i,v i)) (f i)=v i
 |0,_,h,_=>by omega
 |n+1,i,h,hinj=>by
  rw[List.range_succ,List.map_append,ups_append]
  show (if f i=f n then v n else _)=_
  by_cases hi:i=n
  ·subst hi;rw[if_pos rfl]
  ·rw[if_neg (fun e=>hi (hinj i n (by omega) (by omega) e))]
   exact ups_range_hit (by omega) fun i k hi hk=>hinj i k (by omega) (by omega)
theorem ups_none_hit {id:Nat}:∀{l:List Nat}{s:Nat→Option Entry},id∈l→ups s (l.map fun id=>(id,none)) id=none
 |x::l,s,h=>by
  show ups (fun i=>if i=x then none else s i) (l.map fun id=>(id,none)) id=none
  by_cases hl:id∈l
  ·exact ups_none_hit hl
  ·have hx:id=x:=by simpa[hl]using h
   have:∀{l:List Nat}{s:Nat→Option Entry},id∉l→ups s (l.map fun id=>(id,none)) id=s id:=by
    intro l
    induction l with
    |nil=>intro s _;rfl
    |cons y l ih=>
     intro s hn
     simp only[List.mem_cons,not_or]at hn
     show ups (fun i=>if i=y then none else s i) (l.map fun id=>(id,none)) id=s id
     rw[ih hn.2,if_neg hn.1]
   rw[this hl,if_pos hx]
theorem ups_none_miss {id:Nat}:∀{l:List Nat}{s:Nat→Option Entry},id∉l→ups s (l.map fun id=>(id,none)) id=s id
 |[],s,_=>rfl
 |y::l,s,hn=>by
  simp only[List.mem_cons,not_or]at hn
  show ups (fun i=>if i=y then none else s i) (l.map fun id=>(id,none)) id=s id
  rw[ups_none_miss hn.2,if_neg hn.1]
theorem renE_rep2 {w:World}{F:Foot}{ι:Nat→Loc}{g:Nat→Nat}{l:Loc}:∀{e:Entry},ERep w F (fun i=>ι (g i)) l e→ERep w F ι l (renE g e)
 |.box ty x,h=>⟨h.1,h.2.choose,h.2.choose_spec.1,ren_rep2 h.2.choose_spec.2⟩
 |.bbox l0 ty x,h=>⟨h.1,h.2.1,h.2.2.choose,h.2.2.choose_spec.1,ren_rep2 h.2.2.choose_spec.2⟩
 |.row _ _ _,h=>h
 |.brow _ _ _ _,h=>h
 |.map kvs,h=>⟨h.1,h.2.choose,h.2.choose_spec.choose,h.2.choose_spec.choose_spec.1,by rw[renM_fst];exact h.2.choose_spec.choose_spec.2.1,by rw[renM_snd];exact renL_rep2 h.2.choose_spec.choose_spec.2.2⟩
theorem renE_in3 {K:Nat→Prop}{g:Nat→Nat}:∀{e:Entry},EIn (fun i=>K (g i)) e→EIn K (renE g e)
 |.box ty x,h=>ren_in3 h
 |.bbox l0 ty x,h=>ren_in3 h
 |.row _ _ _,h=>trivial
 |.brow _ _ _ _,h=>trivial
 |.map kvs,h=>by show AInL K ((renM g kvs).map (·.2));rw[renM_snd];exact renL_in3 h
def gup (nb:Nat)(ids:List Nat)(j i:Nat):Nat:=if i<nb then ids.getD i 0 else j+(i-nb)
def gupd (s:Nat→Option Entry)(ids:List Nat)(bx':List (Nat×AVal))(new:List Entry)(j:Nat):List (Nat×Option Entry):=
 (((List.range bx'.length).map fun i=>(ids.getD i 0,some (putB (ren (gup bx'.length ids j) ((bx'.map (·.2)).getD i .any)) (s (ids.getD i 0)))))++(ids.drop bx'.length).map fun id=>(id,none))++
  (List.range new.length).map fun q=>(j+q,(new[q]?).map (renE (gup bx'.length ids j)))
structure Lend (σ:AState)(ids:List Nat)(bx:List (Nat×AVal))(rw:List Rw)(args:List AVal):Prop where
 nd:ids.Nodup
 len:ids.length=bx.length+rw.length
 hbx:∀i p,bx[i]?=some p→AIn (below ids.length) p.2∧∃x,boxOf (σ.s (ids.getD i 0))=some (p.1,x)∧p.2=ren (fun id=>ids.idxOf id) x
 hrw:∀q p,rw[q]?=some p→σ.s (ids.getD (bx.length+q) 0)=some (.row p.1 p.2.1 p.2.2)
 ar:AInL (below ids.length) args
section
variable {K:Nat→Prop} {ι:Nat→Loc} {F:Foot} {σ:AState} {a:Act} {w:World} {ids:List Nat} {bx:List (Nat×AVal)} {rw:List Rw} {args:List AVal}
theorem Lend.inj (hL:Lend σ ids bx rw args){i k:Nat}(hi:i<ids.length)(hk:k<ids.length)(h:ids.getD i 0=ids.getD k 0):i=k:=by
 have h1:ids[i]=ids[k]:=by simpa[List.getD_eq_getElem?_getD,List.getElem?_eq_getElem hi,List.getElem?_eq_getElem hk]using h
 have hp:=List.pairwise_iff_getElem.1 hL.nd
 rcases Nat.lt_trichotomy i k with h2|h2|h2
 ·exact absurd h1 (hp i k hi hk h2)
 ·exact h2
 ·exact absurd h1.symm (hp k i hk hi h2)
theorem idx_back {id:Nat}(h:ids.idxOf id<ids.length):ids.getD (ids.idxOf id) 0=id:=by
 rw[List.getD_eq_getElem?_getD,List.getElem?_eq_getElem h]
 simp
theorem Lend.ent (hL:Lend σ ids bx rw args){ls:Nat→Loc}{i:Nat}{e:Entry}(he:gentry ls bx (rows rw) i=some e):i<ids.length∧∃e',σ.s (ids.getD i 0)=some e':=by
 unfold gentry at he
 split at he
 ·rename_i hi
  obtain⟨p,hp,rfl⟩:=Option.map_eq_some_iff.1 he
  obtain⟨_,x,h1,_⟩:=hL.hbx i p hp
  obtain⟨e',h2,_⟩:=boxOf_some h1
  exact⟨by rw[hL.len];omega,e',h2⟩
 ·rename_i hi
  rw[rows,List.getElem?_map]at he
  obtain⟨p,hp,rfl⟩:=Option.map_eq_some_iff.1 he
  have:=hL.hrw _ p hp
  rw[show bx.length+(i-bx.length)=i by omega]at this
  exact⟨by have:=(List.getElem?_eq_some_iff.1 hp).1;rw[hL.len];omega,_,this⟩
theorem Lend.to (hL:Lend σ ids bx rw args)(hR:Rel K ι F σ a w){a1:Act}(hrep:ARepL w F (fun i=>ι (ids.getD i 0)) args a1.tmps.toList):
  Rel (below (bx.length+(rows rw).length)) (fun i=>ι (ids.getD i 0)) F (gstate (fun i=>ι (ids.getD i 0)) bx (rows rw) args args.length) a1 w:=by
 have hlen:bx.length+(rows rw).length=ids.length:=by rw[hL.len,rows,List.length_map]
 rw[hlen]
 obtain⟨l1,l2⟩:=ARepL.at2 hrep
 have own:∀b,Owned (fun i=>ι (ids.getD i 0)) (gstate (fun i=>ι (ids.getD i 0)) bx (rows rw) args args.length) b→Owned ι σ b:=by
  rintro b ⟨id,e,k1,k2,k3⟩
  obtain⟨_,e',k4⟩:=hL.ent (ls:=fun i=>ι (ids.getD i 0)) k1
  exact⟨_,e',k4,k2,k3⟩
 refine⟨by simp[gstate,l1],fun i=>?_,fun i e he=>?_,fun b hb=>hR.off b (own b hb),fun i k ei ek hi hk hni hnk heq=>?_,hR.foot,hR.col⟩
 ·cases hx:args[i]? with
  |none=>
   have:(gstate (fun i=>ι (ids.getD i 0)) bx (rows rw) args args.length).t i=.any:=by simp only[gstate,hx];rfl
   rw[this];exact⟨by rw[AIn];trivial,by rw[ARep];trivial⟩
  |some x=>
   have:(gstate (fun i=>ι (ids.getD i 0)) bx (rows rw) args args.length).t i=x:=by simp only[gstate,hx];rfl
   rw[this]
   refine⟨AInL.at2 hL.ar i x hx,?_⟩
   have:=l2 i x hx
   simpa[List.getD_eq_getElem?_getD]using this
 ·have he0:=he
  change gentry (fun i=>ι (ids.getD i 0)) bx (rows rw) i=some e at he
  obtain⟨hi,e',k4⟩:=hL.ent he
  refine⟨hi,?_⟩
  unfold gentry at he
  split at he
  ·rename_i hib
   obtain⟨p,hp,rfl⟩:=Option.map_eq_some_iff.1 he
   obtain⟨p1,x,p2,p3⟩:=hL.hbx i p hp
   obtain⟨e1,q1,q2,_⟩:=boxOf_some p2
   obtain⟨s1,s2,s3⟩:=hR.ent _ _ q1
   obtain⟨r1,u,r2,r3⟩:=q2 _ _ _ _ s3
   refine⟨p1,rfl,r1,u,r2,?_⟩
   rw[p3]at p1⊢
   exact ren_to (N:=below ids.length) (fun id hid=>by rw[idx_back hid]) p1 r3
  ·rename_i hib
   rw[rows,List.getElem?_map]at he
   obtain⟨p,hp,rfl⟩:=Option.map_eq_some_iff.1 he
   have:=hL.hrw _ p hp
   rw[show bx.length+(i-bx.length)=i by omega]at this
   exact⟨trivial,(hR.ent _ _ this).2.2⟩
 ·obtain⟨k1,ei',k2⟩:=hL.ent (ls:=fun i=>ι (ids.getD i 0)) hi
  obtain⟨l1,ek',l2⟩:=hL.ent (ls:=fun i=>ι (ids.getD i 0)) hk
  exact hL.inj k1 l1 (hR.sep _ _ _ _ k2 l2 hni hnk heq)
theorem Lend.back (hL:Lend σ ids bx rw args)(hR:Rel K ι F σ a w){bx':List (Nat×AVal)}{new:List Entry}{r:AVal}{j:Nat}(hj:∀q,q<new.length→¬K (j+q))(hty:bx'.map (·.1)=bx.map (·.1))
  {ι':Nat→Loc}{F':Foot}{a':Act}{w':World}(h1:Rel (below (bx'.length+new.length)) ι' F' (gstate (fun i=>ι (ids.getD i 0)) bx' new [r] 1) a' w')
  (h2:Pass (fun i=>ι (ids.getD i 0)) F (gstate (fun i=>ι (ids.getD i 0)) bx (rows rw) args args.length) w ι' F' (gstate (fun i=>ι (ids.getD i 0)) bx' new [r] 1) w'):
  ∃ι2,Rel (fun i=>K i∨(j≤i∧i<j+new.length)) ι2 F' {σ with s:=ups σ.s (gupd σ.s ids bx' new j)} a w'∧
   Ext K ι F σ w (fun i=>K i∨(j≤i∧i<j+new.length)) ι2 F' {σ with s:=ups σ.s (gupd σ.s ids bx' new j)} w'∧
   AIn (fun i=>K i∨(j≤i∧i<j+new.length)) (ren (gup bx'.length ids j) r)∧ARep w' F' ι2 (ren (gup bx'.length ids j) r) (a'.tmps.getD 0 undef):=by
 have hnb:bx'.length=bx.length:=by simpa using congrArg List.length hty
 have hKid:∀i,i<ids.length→K (ids.getD i 0):=by
  intro i hi
  by_cases hib:i<bx.length
  ·obtain⟨_,x,p2,_⟩:=hL.hbx i bx[i] (List.getElem?_eq_getElem hib)
   obtain⟨e1,q1,_⟩:=boxOf_some p2
   exact(hR.ent _ _ q1).1
  ·have hq:i-bx.length<rw.length:=by rw[hL.len]at hi;omega
   have:=hL.hrw _ rw[i-bx.length] (List.getElem?_eq_getElem hq)
   rw[show bx.length+(i-bx.length)=i by omega]at this
   exact(hR.ent _ _ this).1
 let ι2:Nat→Loc:=fun id=>if j≤id∧id<j+new.length then ι' (bx'.length+(id-j))else ι id
 have env:∀id,K id→ι2 id=ι id:=by
  intro id hid
  show (if j≤id∧id<j+new.length then _ else ι id)=ι id
  rw[if_neg]
  rintro⟨g1,g2⟩
  exact hj (id-j) (by omega) (by rw[show j+(id-j)=id by omega];exact hid)
 have pin:∀i,i<bx'.length→ι' i=ι (ids.getD i 0):=by
  intro i hi
  obtain⟨_,_,q⟩:=h1.ent i (.bbox (ι (ids.getD i 0)) bx'[i].1 bx'[i].2) (by simp only[gstate,gentry,if_pos hi,List.getElem?_eq_getElem hi];rfl)
  exact q.1
 have hup:∀i,i<bx'.length+new.length→ι2 (gup bx'.length ids j i)=ι' i:=by
  intro i hi
  unfold gup
  split
  ·rename_i hib
   rw[env _ (hKid i (by rw[hL.len];omega)),pin i hib]
  ·rename_i hib
   show (if j≤j+(i-bx'.length)∧j+(i-bx'.length)<j+new.length then _ else _)=_
   rw[if_pos (by omega)]
   congr 1;omega
 have hK2:∀i,below (bx'.length+new.length) i→(K (gup bx'.length ids j i)∨(j≤gup bx'.length ids j i∧gup bx'.length ids j i<j+new.length)):=by
  intro i hi
  unfold gup
  split
  ·rename_i hib;exact .inl (hKid i (by rw[hL.len];omega))
  ·rename_i hib;unfold below at hi;exact .inr (by omega)
 have vin:∀{x:AVal},AIn (below (bx'.length+new.length)) x→AIn (fun i=>K i∨(j≤i∧i<j+new.length)) (ren (gup bx'.length ids j) x):=fun h=>ren_in3 (AIn.mono hK2 _ h)
 have vrep:∀{x:AVal}{u:Value},AIn (below (bx'.length+new.length)) x→ARep w' F' ι' x u→ARep w' F' ι2 (ren (gup bx'.length ids j) x) u:=fun hin h=>
  ren_rep2 (ARep.keep (w:=w') (K:=below (bx'.length+new.length)) (fun _ _ _=>rfl) (fun _ _ hb=>hb) hup _ _ hin h)
 -- what the new state has
 have hA:∀i,i<bx'.length→ups σ.s (gupd σ.s ids bx' new j) (ids.getD i 0)=some (putB (ren (gup bx'.length ids j) ((bx'.map (·.2)).getD i .any)) (σ.s (ids.getD i 0))):=by
  intro i hi
  have hil:i<ids.length:=by rw[hL.len];omega
  rw[gupd,ups_append,ups_append,ups_range_miss (f:=fun q=>j+q),ups_none_miss,ups_range_hit (f:=fun i=>ids.getD i 0) (v:=fun i=>some (putB (ren (gup bx'.length ids j) ((bx'.map (·.2)).getD i .any)) (σ.s (ids.getD i 0)))) hi]
  ·intro i k hi hk h
   exact hL.inj (by rw[hL.len];omega) (by rw[hL.len];omega) h
  ·intro hm
   obtain⟨k,hk,hk2⟩:=List.mem_iff_getElem.1 hm
   rw[List.getElem_drop]at hk2
   have hk3:bx'.length+k<ids.length:=by rw[List.length_drop]at hk;omega
   have:=hL.inj hil hk3 (by rw[←hk2,List.getD_eq_getElem?_getD,List.getElem?_eq_getElem hk3];rfl)
   omega
  ·intro q hq e
   exact hj q hq (e ▸ hKid i hil)
 have hB:∀i,bx'.length≤i→i<ids.length→ups σ.s (gupd σ.s ids bx' new j) (ids.getD i 0)=none:=by
  intro i hi hil
  rw[gupd,ups_append,ups_append,ups_range_miss (f:=fun q=>j+q),ups_none_hit]
  ·refine List.mem_iff_getElem.2 ⟨i-bx'.length,by rw[List.length_drop];omega,?_⟩
   rw[List.getElem_drop,List.getD_eq_getElem?_getD]
   have:bx'.length+(i-bx'.length)=i:=by omega
   simp only[this]
   rw[List.getElem?_eq_getElem hil];rfl
  ·intro q hq e
   exact hj q hq (e ▸ hKid i hil)
 have hC:∀q,q<new.length→ups σ.s (gupd σ.s ids bx' new j) (j+q)=(new[q]?).map (renE (gup bx'.length ids j)):=by
  intro q hq
  rw[gupd,ups_append,ups_append]
  exact ups_range_hit (f:=fun q=>j+q) (v:=fun q=>(new[q]?).map (renE (gup bx'.length ids j))) hq (fun i k _ _ h=>by simpa using h)
 have hD:∀id,(∀i,i<ids.length→ids.getD i 0≠id)→¬(j≤id∧id<j+new.length)→ups σ.s (gupd σ.s ids bx' new j) id=σ.s id:=by
  intro id h1 h2
  rw[gupd,ups_append,ups_append,ups_range_miss (f:=fun q=>j+q),ups_none_miss,ups_range_miss (f:=fun i=>ids.getD i 0)]
  ·intro i hi;exact h1 i (by rw[hL.len];omega)
  ·intro hm
   obtain⟨k,hk,hk2⟩:=List.mem_iff_getElem.1 hm
   rw[List.getElem_drop]at hk2
   have hk3:bx'.length+k<ids.length:=by rw[List.length_drop]at hk;omega
   exact h1 _ hk3 (by rw[←hk2,List.getD_eq_getElem?_getD,List.getElem?_eq_getElem hk3];rfl)
  ·intro q hq e;exact h2 (by omega)
 have look:∀id e,ups σ.s (gupd σ.s ids bx' new j) id=some e→(∃i,i<bx'.length+new.length∧id=gup bx'.length ids j i∧∃e1,gentry (fun i=>ι (ids.getD i 0)) bx' new i=some e1∧EIn (fun i=>K i∨(j≤i∧i<j+new.length)) e∧ERep w' F' ι2 (ι2 id) e)∨
   ((∀i,i<ids.length→ids.getD i 0≠id)∧σ.s id=some e):=by
  intro id e he
  by_cases hr:j≤id∧id<j+new.length
  ·refine .inl ⟨bx'.length+(id-j),by omega,by unfold gup;rw[if_neg (by omega)];omega,?_⟩
   have hq:id-j<new.length:=by omega
   have h3:=hC (id-j) hq
   rw[show j+(id-j)=id by omega,he,List.getElem?_eq_getElem hq]at h3
   simp only[Option.map_some,Option.some.injEq]at h3
   subst h3
   have h4:gentry (fun i=>ι (ids.getD i 0)) bx' new (bx'.length+(id-j))=some new[id-j]:=by
    rw[gentry,if_neg (by omega),show bx'.length+(id-j)-bx'.length=id-j by omega,List.getElem?_eq_getElem hq]
   obtain⟨_,k2,k3⟩:=h1.ent _ _ h4
   refine⟨_,h4,renE_in3 (EIn.mono hK2 _ k2),renE_rep2 ?_⟩
   have hl:ι2 id=ι' (bx'.length+(id-j)):=by
    show (if j≤id∧id<j+new.length then _ else _)=_
    rw[if_pos hr]
   rw[hl]
   exact ERep.keep (w:=w') (K:=below (bx'.length+new.length)) (fun _ _ _=>rfl) (fun _ _ hb=>hb) hup (fun _=>rfl) _ k2 k3
  ·by_cases hm:∃i,i<ids.length∧ids.getD i 0=id
   ·obtain⟨i,hi,rfl⟩:=hm
    by_cases hib:i<bx'.length
    ·refine .inl ⟨i,by omega,by unfold gup;rw[if_pos hib],?_⟩
     rw[hA i hib]at he
     simp only[Option.some.injEq]at he
     subst he
     have hib2:i<bx.length:=by omega
     have h4:gentry (fun i=>ι (ids.getD i 0)) bx' new i=some (.bbox (ι (ids.getD i 0)) bx'[i].1 bx'[i].2):=by
      rw[gentry,if_pos hib,List.getElem?_eq_getElem hib];rfl
     obtain⟨_,k2,k3⟩:=h1.ent _ _ h4
     obtain⟨_,x,p2,_⟩:=hL.hbx i bx[i] (List.getElem?_eq_getElem hib2)
     obtain⟨e1,q1,q2,q3,q4,q5⟩:=boxOf_some p2
     have hx:(bx'.map (·.2)).getD i .any=bx'[i].2:=by
      simp[List.getD_eq_getElem?_getD,List.getElem?_eq_getElem hib]
     have htyi:bx'[i].1=bx[i].1:=by
      have:=congrArg (fun l=>l[i]?) hty
      simpa[List.getElem?_eq_getElem hib,List.getElem?_eq_getElem hib2]using this
     rw[hx]
     refine⟨_,h4,q5 _ _ (vin k2),?_⟩
     rw[env _ (hKid i hi)]
     obtain⟨_,_,u,r3,r4⟩:=k3
     rw[pin i hib,htyi]at r3
     exact q3 _ _ _ _ _ _ _ _ (hR.ent _ _ q1).2.2 ⟨u,r3,vrep k2 r4⟩
    ·rw[hB i (by omega) hi]at he;cases he
   ·have hm':∀i,i<ids.length→ids.getD i 0≠id:=fun i hi e=>hm ⟨i,hi,e⟩
    rw[hD id hm' hr]at he
    exact .inr ⟨hm',he⟩
 have ownL:∀b,Owned (fun i=>ι (ids.getD i 0)) (gstate (fun i=>ι (ids.getD i 0)) bx (rows rw) args args.length) b→Owned ι σ b:=by
  rintro b ⟨id,e,k1,k2,k3⟩
  obtain⟨_,e',k4⟩:=hL.ent (ls:=fun i=>ι (ids.getD i 0)) k1
  exact⟨_,e',k4,k2,k3⟩
 have apart:∀id e,(∀i,i<ids.length→ids.getD i 0≠id)→σ.s id=some e→(ι id).nil=false→¬Owned (fun i=>ι (ids.getD i 0)) (gstate (fun i=>ι (ids.getD i 0)) bx (rows rw) args args.length) (ι id).blk:=by
  rintro id e hm he hn ⟨i,e1,k1,k2,k3⟩
  obtain⟨k5,e',k4⟩:=hL.ent (ls:=fun i=>ι (ids.getD i 0)) k1
  exact hm i k5 (hR.sep _ _ _ _ k4 he k2 hn k3)
 have hkeep:Keeps F w w':=fun c b hb=>h2.frame b (hR.foot c b hb) fun ho=>hR.off b (ownL b ho) c hb
 have own2:∀id e,ups σ.s (gupd σ.s ids bx' new j) id=some e→(ι2 id).nil=false→(Owned ι' (gstate (fun i=>ι (ids.getD i 0)) bx' new [r] 1) (ι2 id).blk)∨((∀i,i<ids.length→ids.getD i 0≠id)∧σ.s id=some e):=by
  intro id e he hn
  rcases look id e he with⟨i,hi,rfl,e1,k1,_⟩|h
  ·rw[hup i hi]at hn⊢
   exact .inl ⟨i,e1,k1,hn,rfl⟩
  ·exact .inr h
 have lt2:∀id e,σ.s id=some e→(ι id).nil=false→(ι id).blk<w.heap.size:=fun id e he hn=>hR.owned_lt ⟨id,e,he,hn,rfl⟩
 refine⟨ι2,⟨hR.size,fun i=>⟨AIn.mono (fun _ hi=>.inl hi) _ (hR.tmp i).1,ARep.keep hkeep h2.mono env _ _ (hR.tmp i).1 (hR.tmp i).2⟩,fun id e he=>?_,?_,?_,h1.foot,h1.col⟩,
  ⟨h2.os,h2.tape,h2.output,h2.size,fun b hb ho=>h2.frame b hb fun h=>ho (ownL b h),?_,h2.mono,fun c b hb=>(h2.src c b hb).imp id fun h=>h.imp id (ownL b),env,fun _ h=>.inl h⟩,?_,?_⟩
 ·change ups σ.s (gupd σ.s ids bx' new j) id=some e at he
  rcases look id e he with⟨i,hi,rfl,e1,k1,k2,k3⟩|⟨hm,h⟩
  ·exact⟨hK2 i hi,k2,k3⟩
  ·obtain⟨s1,s2,s3⟩:=hR.ent id e h
   refine⟨.inl s1,EIn.mono (fun _ hi=>.inl hi) _ s2,?_⟩
   rw[env id s1]
   exact ERep.keep hkeep h2.mono env (fun hn=>h2.frame _ (lt2 id e h hn) (apart id e hm h hn)) e s2 s3
 ·rintro b ⟨id,e,he,hn,rfl⟩ c hF
  rcases own2 id e he hn with h|⟨hm,h⟩
  ·exact h1.off _ h c hF
  ·have hid:=(hR.ent id e h).1
   rw[env id hid]at hn hF
   rcases h2.src c _ hF with k|k|k
   ·exact hR.off _ ⟨id,e,h,hn,rfl⟩ c k
   ·have:=lt2 id e h hn;omega
   ·exact apart id e hm h hn k
 ·intro i k ei ek hi hk hni hnk heq
  have mixed:∀i k ei ek,ups σ.s (gupd σ.s ids bx' new j) i=some ei→ups σ.s (gupd σ.s ids bx' new j) k=some ek→(ι2 i).nil=false→(ι2 k).nil=false→(ι2 i).blk=(ι2 k).blk→
    Owned ι' (gstate (fun i=>ι (ids.getD i 0)) bx' new [r] 1) (ι2 i).blk→((∀i,i<ids.length→ids.getD i 0≠k)∧σ.s k=some ek)→False:=by
   intro i k ei ek _ _ hni hnk heq h ⟨hm,hk⟩
   have hid:=(hR.ent k ek hk).1
   rw[env k hid]at hnk heq
   rcases h2.own _ h with q|q
   ·rw[heq]at q;exact apart k ek hm hk hnk q
   ·rw[heq]at q;have:=lt2 k ek hk hnk;omega
  rcases look i ei hi with⟨i0,hi0,rfl,e1,k1,_⟩|hi'
  ·have hoi:Owned ι' (gstate (fun i=>ι (ids.getD i 0)) bx' new [r] 1) (ι2 (gup bx'.length ids j i0)).blk:=by
    rw[hup i0 hi0]at hni⊢;exact⟨i0,e1,k1,hni,rfl⟩
   rcases look k ek hk with⟨k0,hk0,rfl,e2,l1,_⟩|hk'
   ·rw[hup i0 hi0]at hni heq
    rw[hup k0 hk0]at hnk heq
    rw[h1.sep i0 k0 e1 e2 k1 l1 hni hnk heq]
   ·exact(mixed _ k ei ek hi hk hni hnk heq hoi hk').elim
  ·rcases look k ek hk with⟨k0,hk0,rfl,e2,l1,_⟩|hk'
   ·have hok:Owned ι' (gstate (fun i=>ι (ids.getD i 0)) bx' new [r] 1) (ι2 (gup bx'.length ids j k0)).blk:=by
     rw[hup k0 hk0]at hnk⊢;exact⟨k0,e2,l1,hnk,rfl⟩
    exact(mixed _ i ek ei hk hi hnk hni heq.symm hok hi').elim
   ·have hi1:=(hR.ent i ei hi'.2).1
    have hk1:=(hR.ent k ek hk'.2).1
    rw[env i hi1]at hni heq
    rw[env k hk1]at hnk heq
    exact hR.sep i k ei ek hi'.2 hk'.2 hni hnk heq
 ·rintro b ⟨id,e,he,hn,rfl⟩
  rcases own2 id e he hn with h|⟨hm,h⟩
  ·exact(h2.own _ h).imp (ownL _) fun h=>h
  ·rw[env id (hR.ent id e h).1]at hn⊢
   exact .inl ⟨id,e,h,hn,rfl⟩
 ·exact vin (h1.tmp 0).1
 ·exact vrep (h1.tmp 0).1 (h1.tmp 0).2
end
end Go.Abs
namespace Go.Abs
open Go.RowKit
variable {P:Program}
mutual
def alendE (σ:AState):AVal→Option (List (Nat×Nat)×IVal)
 |.imm d=>some ([],d)
 |.own id n=>match σ.s id with
  |some (.row _ k es)=>some ([(es.length,n)],.sl false false k es)
  |_=>none
 |.agg cs=>match alendEL σ cs with
  |some (o,ds)=>if ds.all ione=true then some (o,.agg ds)else none
  |none=>none
 |_=>none
def alendEL (σ:AState):List AVal→Option (List (Nat×Nat)×List IVal)
 |[]=>some ([],[])
 |x::xs=>match alendE σ x,alendEL σ xs with
  |some (o,d),some (o',ds)=>some (o++o',d::ds)
  |_,_=>none
end
mutual
theorem alendE_spec {σ:AState}:∀{x:AVal}{o:List (Nat×Nat)}{d:IVal},alendE σ x=some (o,d)→eqs o→alend σ x=some d
 |.imm d',o,d,h,_=>by
  simp only[alendE,Option.some.injEq,Prod.mk.injEq]at h;obtain⟨rfl,rfl⟩:=h;rw[alend]
 |.own id n,o,d,h,ho=>by
  rw[alendE]at h
  split at h
  ·rename_i ty k es he
   simp only[Option.some.injEq,Prod.mk.injEq]at h;obtain⟨rfl,rfl⟩:=h
   simp only[alend,he]
   rw[if_pos ho.1]
  ·cases h
 |.agg cs,o,d,h,ho=>by
  rw[alendE]at h
  split at h
  ·rename_i o' ds he
   split at h
   ·rename_i hall
    simp only[Option.some.injEq,Prod.mk.injEq]at h;obtain⟨rfl,rfl⟩:=h
    rw[alend,alendEL_spec he ho]
    simp only[hall,if_true]
   ·cases h
  ·cases h
 |.any,_,_,h,_=>by simp[alendE]at h
 |.ub _,_,_,h,_=>by simp[alendE]at h
 |.ptr _ _,_,_,h,_=>by simp[alendE]at h
 |.rptr _ _ _ _,_,_,h,_=>by simp[alendE]at h
 |.ref _ _ _,_,_,h,_=>by simp[alendE]at h
 |.win _ _ _,_,_,h,_=>by simp[alendE]at h
 |.mp _,_,_,h,_=>by simp[alendE]at h
 |.tup _,_,_,h,_=>by simp[alendE]at h
 |.fn _ _ _,_,_,h,_=>by simp[alendE]at h
theorem alendEL_spec {σ:AState}:∀{xs:List AVal}{o:List (Nat×Nat)}{ds:List IVal},alendEL σ xs=some (o,ds)→eqs o→alendL σ xs=some ds
 |[],o,ds,h,_=>by
  simp only[alendEL,Option.some.injEq,Prod.mk.injEq]at h;obtain⟨rfl,rfl⟩:=h;rw[alendL]
 |x::xs,o,ds,h,ho=>by
  rw[alendEL]at h
  split at h
  ·rename_i o1 d1 o2 ds2 h1 h2
   simp only[Option.some.injEq,Prod.mk.injEq]at h;obtain⟨rfl,rfl⟩:=h
   obtain⟨ha,hb⟩:=eqs_append.1 ho
   rw[alendL,alendE_spec h1 ha,alendEL_spec h2 hb]
  ·cases h
end
mutual
theorem alendE_mono {σ τ:AState}(hs:∀id e,σ.s id=some e→τ.s id=some e):∀{x:AVal}{q:List (Nat×Nat)×IVal},alendE σ x=some q→alendE τ x=some q
 |.imm _,_,h=>by rw[alendE]at*;exact h
 |.own id n,q,h=>by
  rw[alendE]at*
  split at h
  ·rename_i he;rw[hs _ _ he];exact h
  ·cases h
 |.agg cs,q,h=>by
  rw[alendE]at*
  split at h
  ·rename_i o ds he;rw[alendEL_mono hs he];exact h
  ·cases h
 |.any,_,h=>by simp[alendE]at h
 |.ub _,_,h=>by simp[alendE]at h
 |.ptr _ _,_,h=>by simp[alendE]at h
 |.rptr _ _ _ _,_,h=>by simp[alendE]at h
 |.ref _ _ _,_,h=>by simp[alendE]at h
 |.win _ _ _,_,h=>by simp[alendE]at h
 |.mp _,_,h=>by simp[alendE]at h
 |.tup _,_,h=>by simp[alendE]at h
 |.fn _ _ _,_,h=>by simp[alendE]at h
theorem alendEL_mono {σ τ:AState}(hs:∀id e,σ.s id=some e→τ.s id=some e):∀{xs:List AVal}{q:List (Nat×Nat)×List IVal},alendEL σ xs=some q→alendEL τ xs=some q
 |[],_,h=>by rw[alendEL]at*;exact h
 |x::xs,q,h=>by
  rw[alendEL]at*
  split at h
  ·rename_i o1 d1 o2 ds2 h1 h2;rw[alendE_mono hs h1,alendEL_mono hs h2];exact h
  ·cases h
end
def txB (s:ByteArray):List Int:=s.data.toList.map fun b=>(b.toNat:Int)
def tsb (P:Program)(s t:TypeId):Bool:=
 match P.underlying s,P.underlying t with
 |some .string,some (.slice e)=>match P.underlying e with
  |some (.int .u8)=>true
  |_=>false
 |_,_=>false
section
variable {K K':Nat→Prop} {ι ι':Nat→Loc} {F F':Foot} {σ σ':AState} {a a':Act} {w w':World}
theorem byI_repL :∀l:List Int,IRepL w F (l.map byI) (l.map (Value.int .u8))
 |[]=>by rw[List.map_nil,List.map_nil,IRepL]
 |n::l=>by rw[List.map_cons,List.map_cons,IRepL];exact⟨_,_,rfl,by rw[byI,IRep];exact⟨rfl,rfl⟩,byI_repL l⟩
theorem goes_toBytes (hR:Rel K ι F σ a w){o:Oper}{s t:TypeId}{x:Operand}(ho:o.op=.convert s t x)(hd:∀i,o.dst=some i→i<σ.m)(hK:∀i,K i→K' i)
  {b:ByteArray}(ht:tsb P s t=true)(hx:σ.ev x=.imm (.v (.string b))):Goes P o a w K ι F σ K' (σ.app o.dst ⟨.imm (.sl true false 1 ((txB b).map byI)),[]⟩):=by
 unfold tsb at ht
 split at ht
 ·rename_i e hs hstr
  split at ht
  ·rename_i he
   have e2:=(hR.ev x).2
   rw[hx,ARep,IRep]at e2
   have hrun:(execOp a.eval o).run P w=.ok (.value (.slice (some ⟨w.heap.size,0,none⟩) b.size (grownCap w b.size 0 e))) (Lib.bytesWorld w e b):=by
    simp only[execOp,ho,e2.1]
    rw[Sem.run_bind,Lib.run_convert_string_bytes w s t e b hs hstr he]
    rfl
   have hb:Below w.heap.size w (Lib.bytesWorld w e b):=by
    refine⟨rfl,?_,rfl,?_,fun k hk=>Lib.bytesWorld_at_old w e b k hk⟩
    ·first|rfl|simp[Lib.bytesWorld,World.freeze,World.alloc,World.drew,-World.alloc_eq,-World.drew_eq]
    ·rw[Lib.bytesWorld_size];omega
   obtain⟨r1,r2⟩:=hR.grow hb (F1:=fun c y=>F c y∨y=w.heap.size) (fun _ _ h=>.inl h) (fun c y h=>h.imp id fun h=>by omega)
    (fun c y h=>by
     rw[Lib.bytesWorld_size]
     rcases h with h|h
     ·have:=hR.foot c y h;omega
     ·omega) (fun y h=>h.imp (hR.col y) id)
   refine Goes.of (σ1:=σ) hrun hd rfl ⟨ι,_,r1.mono hK,r2.more hK,by rw[AIn];trivial,?_⟩
   have hl:((txB b).map byI).length=b.size:=by simp[txB]
   rw[ARep,IRep]
   refine⟨some ⟨w.heap.size,0,none⟩,grownCap w b.size 0 e,by rw[hl],(fun h=>by cases h),by rw[hl];exact grownCap_ge w b.size 0 e,fun _=>?_⟩
   refine⟨w.heap.size,0,Lib.bytesCells w e b,e,_,(txB b).map (Value.int .u8),rfl,.inr rfl,Lib.bytesWorld_at_new w e b,byI_repL _,?_⟩
   refine Lay.of_cells _ 0 (fun v hv=>?_) (fun i v j hi hj=>?_) ?_
   ·obtain⟨n,_,rfl⟩:=List.mem_map.1 hv;rfl
   ·obtain rfl:j=0:=by omega
    rw[List.getElem?_map]at hi
    simp only[txB,List.getElem?_map,Option.map_eq_some_iff]at hi
    obtain⟨n,⟨y,hy,rfl⟩,rfl⟩:=hi
    have hlt:i<b.data.size:=by
     have:=(List.getElem?_eq_some_iff.1 hy).1
     simpa using this
    have hy':b.data[i]=y:=by
     have:=(List.getElem?_eq_some_iff.1 hy).2
     simpa using this
    simp only[Lib.bytesCells,Nat.zero_add,Nat.mul_one,Nat.add_zero]
    rw[Array.getElem?_append_left (by simpa using hlt),Array.getElem?_map,Array.getElem?_eq_getElem hlt,hy']
    rfl
   ·simp[txB,Lib.bytesCells]
  ·cases ht
 ·cases ht
end
inductive Orc where
 |no
 |elem (d:IVal)
 |call (ds:List IVal) (r:IVal)
 |ext (ds:List IVal) (r:IVal)
 |calle (ds:List IVal) (r:IVal)
 |callw (ds:List IVal) (r:IVal) (es':List IVal)
 |callo (ds:List IVal) (ty k:Nat) (es:List IVal)
 |callf (ids:List Nat) (ds:List IVal) (r:IVal)
 |apo
 |callg (ids:List Nat) (nb:Nat) (as:List AVal) (bx:List (Nat×AVal)) (new:List Entry) (r:AVal)
 |look (x:AVal) (b:Bool)
 |callb (id:Nat) (as:List AVal) (ty:Nat) (x:AVal) (r:IVal)
 |slc
 |tos (l:List Int)
 |cpy (l:List Int)
 |eff (E:AEff)
 |may (c:Bool) (ids:List Nat) (nb:Nat) (as:List AVal) (v:Value) (o:Orc)
 |probe
inductive Tree where
 |done (e:Exit) (σ:LState)
 |br (b:Bool) (t f:Tree)
 |alt (b:Bool) (t f:Tree)
 |need (p:Prop) (t:Tree)
 |loop (key:Nat) (σ:LState) (L t:Tree)
 |fail (r i:Nat)
 |stop (σ:LState) (r i:Nat) (o:Op)
def Tree.sat (Λ:Nat→LState→Tree→Prop)(Q:Exit→LState→Prop):Tree→Prop
 |.done e σ=>Q e σ
 |.br b t f=>(b=true→t.sat Λ Q)∧(b=false→f.sat Λ Q)
 |.alt b t f=>(b=true→t.sat Λ Q)∧f.sat Λ Q
 |.need p t=>p∧(p→t.sat Λ Q)
 |.loop key σ L t=>Λ key σ L∧t.sat Λ Q
 |.fail _ _=>False
 |.stop _ _ _ _=>False
def Tree.has (e:Exit)(σ:LState):Tree→Prop
 |.done e' σ'=>e=e'∧LSub σ σ'
 |.br b t f=>(b=true→t.has e σ)∧(b=false→f.has e σ)
 |_=>False
def Tree.bind (k:Exit→LState→Tree):Tree→Tree
 |.done e σ=>k e σ
 |.br b t f=>.br b (t.bind k) (f.bind k)
 |_=>.fail 0 0
theorem Tree.bind_sat {Λ:Nat→LState→Tree→Prop}{Q:Exit→LState→Prop}{k:Exit→LState→Tree}{e:Exit}{σ:LState}:∀{L:Tree},L.has e σ→(L.bind k).sat Λ Q→∃σ',LSub σ σ'∧(k e σ').sat Λ Q
 |.done e' σ',h,hs=>by obtain⟨rfl,h2⟩:=h;exact⟨σ',h2,hs⟩
 |.br b t f,h,hs=>by
  cases b with
  |true=>exact Tree.bind_sat (h.1 rfl) (hs.1 rfl)
  |false=>exact Tree.bind_sat (h.2 rfl) (hs.2 rfl)
 |.need _ _,h,_=>h.elim
 |.alt _ _ _,h,_=>h.elim
 |.loop _ _ _ _,h,_=>h.elim
 |.fail _ _,h,_=>h.elim
 |.stop _ _ _ _,h,_=>h.elim
inductive Out where
 |ok (E:AEff)
 |ask (p:Prop) (E:AEff)
 |no
def Out.of :Option AEff→Out
 |some E=>.ok E
 |none=>.no
def afn :AVal→Option (Nat×List AVal×List AVal)
 |.fn f a c=>some (f,a,c)
 |.imm (.v (.func (.func f) a c))=>if a.size=0∧c.size=0 then some (f,[],[])else none
 |_=>none
def fnI :AVal→AVal
 |.fn f [] []=>.imm (.v (.func (.func f) #[] #[]))
 |x=>x
def gboxes (s:Nat→Option Entry)(inv:Nat→Nat):List Nat→Option (List (Nat×AVal))
 |[]=>some []
 |id::l=>match boxOf (s id),gboxes s inv l with
  |some (ty,x),some bs=>some ((ty,ren inv x)::bs)
  |_,_=>none
def growsL (s:Nat→Option Entry):List Nat→Option (List Rw)
 |[]=>some []
 |id::l=>match s id,growsL s l with
  |some (.row ty k es),some rs=>some ((ty,k,es)::rs)
  |_,_=>none
def ndB :List Nat→Bool
 |[]=>true
 |x::l=>!l.contains x&&ndB l
def anextG (P:Program)(j:Nat)(σ:AState)(ids:List Nat)(nb:Nat)(as:List AVal)(bx':List (Nat×AVal))(new:List Entry)(r:AVal)(op:Op):Option (Prop×AEff):=
 match op with
 |.call {callee:=.value fo,args,argTypes:=_}=>match afn (σ.ev fo)with
  |some (f,fst,cap)=>match gboxes σ.s (fun id=>ids.idxOf id) (ids.take nb),growsL σ.s (ids.drop nb)with
   |some bx,some rw=>
    if ndB ids=true∧ainBL ids.length (renL (fun id=>ids.idxOf id) ((fst++args.toList.map σ.ev++cap).map fnI))=true∧bx.all (fun p=>ainB ids.length p.2)=true∧bx'.map (·.1)=bx.map (·.1)then
     some (ALeL (renL (fun id=>ids.idxOf id) ((fst++args.toList.map σ.ev++cap).map fnI)) as∧GSpec P f bx rw as bx' new r,⟨ren (gup bx'.length ids j) r,gupd σ.s ids bx' new j⟩)
    else none
   |_,_=>none
  |none=>none
 |_=>none
def bigG :Orc→Option (List Nat×Nat×List AVal×List (Nat×AVal)×List Entry×AVal)
 |.callg ids nb as bx' new r=>some (ids,nb,as,bx',new,r)
 |_=>none
def gx (o:Orc):Nat:=match bigG o with
 |some (_,_,_,_,new,_)=>new.length
 |none=>0
def gxs (O:Nat→Orc):Nat→List Oper→Nat
 |_,[]=>0
 |i,_::l=>gx (O i)+gxs O (i+1) l
def noG (o:Orc):Orc:=match bigG o with
 |some _=>.no
 |none=>o
theorem noG_none (o:Orc):bigG (noG o)=none:=by
 unfold noG
 cases h:bigG o with
 |none=>exact h
 |some x=>rfl
def core :Orc→Orc
 |.may _ _ _ _ _ o=>o
 |o=>o
def mayO :Orc→Option (Bool×List Nat×Nat×List AVal×Value)
 |.may c ids nb as v _=>some (c,ids,nb,as,v)
 |_=>none
def asrcQ (σ:AState)(k:Nat)(x:AVal):Option (List IVal×Option Prop):=
 match x with
 |.own id n=>match σ.s id with
  |some (.row _ k' es)=>if k'=k then some (es,some (es.length=n))else none
  |_=>none
 |x=>match asrc σ k x with
  |some es=>some (es,none)
  |none=>none
def askA (q:Option Prop)(p:Prop):Prop:=match q with
 |none=>p
 |some q=>p∧q
theorem asrcQ_spec {σ:AState}{k:Nat}{x:AVal}{es:List IVal}{q:Option Prop}{p:Prop}(h:asrcQ σ k x=some (es,q))(hq:askA q p):asrc σ k x=some es∧p:=by
 unfold asrcQ at h
 split at h
 ·split at h
  ·rename_i hs
   split at h
   ·rename_i hk
    simp only[Option.some.injEq,Prod.mk.injEq]at h
    obtain⟨rfl,rfl⟩:=h
    exact⟨by simp only[asrc,hs];rw[if_pos ⟨hk,hq.2⟩],hq.1⟩
   ·cases h
  ·cases h
 ·split at h
  ·rename_i hs
   simp only[Option.some.injEq,Prod.mk.injEq]at h
   obtain⟨rfl,rfl⟩:=h
   exact⟨hs,hq⟩
  ·cases h
def bndQ (σ:AState)(d:Int):Option Operand→Option Int
 |none=>some d
 |some x=>match σ.ev x with
  |.imm (.v (.int _ n))=>some n
  |_=>none
theorem bndQ_spec {σ:AState}{d n:Int}{x:Option Operand}(h:bndQ σ d x=some n)(h0:0≤n):∃b,bnd σ x=some b∧b.getD d.toNat=n.toNat:=by
 cases x with
 |none=>simp only[bndQ,Option.some.injEq]at h;subst h;exact⟨none,rfl,rfl⟩
 |some x=>
  simp only[bndQ]at h
  split at h
  ·rename_i k n' hx
   simp only[Option.some.injEq]at h;subst h
   exact⟨some n'.toNat,by simp only[bnd,bnd1,hx];rw[if_pos h0];rfl,rfl⟩
  ·cases h
def anext0 (P:Program)(fz:Bool)(j:Nat)(σ:AState)(orc:Orc)(op:Op):Out:=
 match orc,op with
 |.elem d,.indexAddr t x ix=>match oneVal (σ.ev ix),tsl P t,σ.ev x with
  |some (.int _ n),some (_,k),.imm (.sl c _ k' es)=>if k'=k then .ask (0≤n∧es[n.toNat]?=some d) ⟨.ref c d 0,[]⟩else .no
  |_,_,_=>.no
 |.elem d,.load t x=>match σ.ev x with
  |.rptr id k i off=>match rowOf (σ.s id)with
   |some (_,k',es)=>if k'=k then(match iload P t d off with|some y=>.ask (es[i]?=some d) ⟨y,[]⟩|none=>.no)else .no
   |_=>.no
  |_=>.no
 |.no,.indexAddr t x ix=>match oneVal (σ.ev ix),tsl P t,σ.ev x with
  |some (.int _ n),some (_,k),.own id m=>.ask (0≤n∧n.toNat<m) ⟨.rptr id k n.toNat 0,[]⟩
  |_,_,_=>Out.of (aevOp P fz j σ op)
 |.no,.call {callee:=.builtin .append,args:=⟨[s,x]⟩,argTypes:=⟨[t0,t1]⟩}=>match tsl P t0 with
  |some (e,k)=>match asrcQ σ k (σ.ev x)with
   |some (news,qq)=>if tsrc P t1=true∧tel P e k=true then
     match σ.ev s with
     |.own id n=>match σ.s id with
      |some (.row e' k' es)=>if e'=e∧k'=k then .ask (askA qq (es.length=n∧cellsOk es=true∧cellsOk news=true∧n+news.length≤lim))
        (if fz then⟨.imm (.sl true false k (es++news)),[(id,none),(j,some (.row e k (es++news))),(j,none)]⟩else⟨.own j (n+news.length),[(id,none),(j,some (.row e k (es++news)))]⟩)else .no
      |_=>.no
     |.imm (.v (.slice none 0 0))=>.ask (askA qq (cellsOk news=true∧news.length≤lim))
       (if fz then⟨.imm (.sl true false k news),[(j,some (.row e k news)),(j,none)]⟩else⟨.own j news.length,[(j,some (.row e k news))]⟩)
     |.imm (.sl c true k' es)=>if k'=k then .ask (askA qq (cellsOk es=true∧cellsOk news=true∧es.length+news.length≤lim)) ⟨.imm (.sl (c||es.isEmpty) false k (es++news)),[]⟩else .no
     |_=>Out.of (aevOp P fz j σ op)
    else .no
   |none=>.no
  |none=>.no
 |.call ds r,.call {callee:=.value fo,args,argTypes:=_}=>match afn (σ.ev fo)with
  |some (f,fst,cap)=>match aimmL ((fst++args.toList.map σ.ev++cap).map fnI)with
   |some ds'=>.ask (ILeL ds' ds∧ASpec P f ds r) ⟨.imm r,[]⟩
   |none=>match alendL σ ((fst++args.toList.map σ.ev++cap).map fnI)with
    |some ds'=>.ask (ILeL ds' ds∧ASpec P f ds r∧iflat r=true) ⟨.imm r,[]⟩
    |none=>.no
  |none=>.no
 |.no,.binOp o t x y _=>match oneVal (σ.ev x),oneVal (σ.ev y)with
  |some (.int k a),some (.int k' b)=>match o with
   |.shl=>.ask (0≤b) ⟨.imm (.v (.int k (k.wrap (a*2^(min b.toNat k.bits))))),[]⟩
   |.shr=>.ask (0≤b) ⟨.imm (.v (.int k (a.fdiv (2^(min b.toNat k.bits))))),[]⟩
   |.quo=>if k=k' then .ask (b≠0) ⟨.imm (.v (.int k (k.wrap (a.tdiv b)))),[]⟩else .no
   |.rem=>if k=k' then .ask (b≠0) ⟨.imm (.v (.int k (a.tmod b))),[]⟩else .no
   |_=>Out.of (aevOp P fz j σ op)
  |_,_=>Out.of (aevOp P fz j σ op)
 |.ext ds r,.call {callee:=.value fo,args,argTypes:=_}=>match afn (σ.ev fo)with
  |some (f,fst,cap)=>match alendL σ ((fst++args.toList.map σ.ev++cap).map fnI)with
   |some ds'=>.ask (ILeL ds' ds∧XSpec P f ds r∧iflat r=true) ⟨.imm r,[]⟩
   |none=>.no
  |none=>.no
 |.calle ds r,.call {callee:=.value fo,args,argTypes:=_}=>match afn (σ.ev fo)with
  |some (f,fst,cap)=>match alendEL σ ((fst++args.toList.map σ.ev++cap).map fnI)with
   |some (o,ds')=>.ask (eqs o∧ILeL ds' ds∧ASpec P f ds r∧iflat r=true) ⟨.imm r,[]⟩
   |none=>.no
  |none=>.no
 |.callw ds r es',.call {callee:=.value fo,args,argTypes:=_}=>match afn (σ.ev fo),args.toList.map σ.ev with
  |some (f,[],[]),.own id n::rest=>match rowOf (σ.s id),aimmL (rest.map fnI)with
   |some (ty,k,es),some ds'=>.ask (es.length=n∧ILeL ds' ds∧WSpec P f ty k es ds r es') ⟨.imm r,[(id,some (putO es' (σ.s id)))]⟩
   |_,_=>.no
  |_,_=>.no
 |.callo ds ty k es,.call {callee:=.value fo,args,argTypes:=_}=>match afn (σ.ev fo)with
  |some (f,fst,cap)=>match aimmL ((fst++args.toList.map σ.ev++cap).map fnI)with
   |some ds'=>.ask (ILeL ds' ds∧OSpec P f ds ty k es) ⟨.own j es.length,[(j,some (.row ty k es))]⟩
   |none=>.no
  |none=>.no
 |.callf ids ds r,.call {callee:=.value fo,args,argTypes:=_}=>match afn (σ.ev fo)with
  |some (f,fst,cap)=>match afzL (rst ids σ) ((fst++args.toList.map σ.ev++cap).map fnI)with
   |some (o,ds')=>if okIds σ ids=true then .ask (eqs o∧ILeL ds' ds∧ASpec P f ds r) ⟨.imm r,ids.map fun i=>(i,none)⟩else .no
   |none=>.no
  |none=>.no
 |.apo,.call {callee:=.builtin .append,args:=⟨[s,x]⟩,argTypes:=⟨[t0,t1]⟩}=>match tsl P t0,σ.ev s with
  |some (e,k),.imm (.sl _ true _ [])=>match asrcQ σ k (σ.ev x)with
   |some (news,qq)=>if tsrc P t1=true∧tel P e k=true then .ask (askA qq (cellsOk news=true∧news.length≤lim)) ⟨.own j news.length,[(j,some (.row e k news))]⟩else .no
   |none=>.no
  |_,_=>.no
 |.elem _,.store t x y=>match tld P t,acells (σ.ev y),σ.ev x,aimm (σ.ev y)with
  |some (ag,k),some ys,.rptr id ke i 0,some d=>match rowOf (σ.s id)with
   |some (_,ke',es)=>if ys.all aone=true∧ke'=ke∧0<ke∧k=ke∧ishape d=some (ag,k)then .ask (i<es.length) ⟨.any,[(id,some (putO (es.set i d) (σ.s id)))]⟩else .no
   |_=>.no
  |_,_,_,_=>.no
 |.look x b,.lookup t m k ok=>match tmap P t,oneVal (σ.ev k),amapOf σ (σ.ev m)with
  |some (kd,et),some (.int kd' n),some (ks,xs)=>match tz P et with
   |some z=>if kd'=kd then .ask (keysOk kd ks=true∧alook ks xs n z=(x,b)) ⟨if ok=true then .tup [x,.imm (.v (.bool b))]else x,[]⟩else .no
   |none=>.no
  |_,_,_=>.no
 |.callb id as ty x r,op=>match anextG P j σ [id] 1 as [(ty,x)] [] (.imm r) op with
  |some (p,E)=>.ask p E
  |none=>.no
 |.slc,.slice t x lo hi none=>match tsl P t,σ.ev x with
  |some (_,k),.imm (.sl c _ k' es)=>match bndQ σ 0 lo,bndQ σ es.length hi with
   |some l,some h=>if k'=k then .ask (0≤l∧l≤h∧h≤es.length) ⟨.imm (.sl c false k ((es.take h.toNat).drop l.toNat)),[]⟩else .no
   |_,_=>.no
  |_,_=>.no
 |.tos l,.convert s t x=>match σ.ev x with
  |.imm (.sl _ _ k es)=>if k=1∧tbs P s t=true then .ask (es=l.map byI) ⟨.imm (.v (.string (bstr l))),[]⟩else .no
  |.imm (.v (.string b))=>if tsb P s t=true then .ask (txB b=l) ⟨.imm (.sl true false 1 (l.map byI)),[]⟩else .no
  |_=>.no
 |.cpy l,.call {callee:=.builtin .copy,args:=⟨[x,y]⟩,argTypes:=⟨[t0,_]⟩}=>match tsl P t0,σ.ev x with
  |some (_,k),.win id off n=>match boxOf (σ.s id),asrc σ 1 (σ.ev y)with
   |some (_,x0),some news=>match acells x0 with
    |some cs=>if k=1∧off+n≤cs.length then .ask (news=l.map byI∧l.length=n) ⟨.imm (.v (.int .i64 n)),[(id,some (putB (.agg (cs.take off++(l.map byI).map .imm++cs.drop (off+n))) (σ.s id)))]⟩else .no
    |none=>.no
   |_,_=>.no
  |_,_=>.no
 |.eff E,op=>.ask (aevOp P fz j σ op=some E) E
 |_,op=>Out.of (aevOp P fz j σ op)
def anext (P:Program)(fz:Bool)(j:Nat)(σ:AState)(orc:Orc)(op:Op):Out:=
 match orc with
 |.probe=>(match op with
  |.indexAddr _ x _=>(match σ.ev x with
   |.imm _=>.no
   |_=>anext0 P fz j σ .no op)
  |.load _ x=>(match σ.ev x with
   |.rptr _ _ _ _=>.no
   |_=>anext0 P fz j σ .no op)
  |.store _ x _=>(match σ.ev x with
   |.rptr _ _ _ _=>.no
   |_=>anext0 P fz j σ .no op)
  |_=>anext0 P fz j σ .no op)
 |o=>anext0 P fz j σ o op
section
variable {K K':Nat→Prop} {ι ι':Nat→Loc} {F F':Foot} {σ σ':AState} {a a':Act} {w w':World}
theorem afn_spec {x:AVal}{f:Nat}{fst cap:List AVal}{u:Value}(h:afn x=some (f,fst,cap))(hr:ARep w F ι x u):∃va vc,u=.func (.func f) va vc∧ARepL w F ι fst va.toList∧ARepL w F ι cap vc.toList:=by
 unfold afn at h
 split at h
 ·simp only[Option.some.injEq,Prod.mk.injEq]at h;obtain⟨rfl,rfl,rfl⟩:=h;rw[ARep]at hr;exact hr
 ·rename_i g a c
  split at h
  ·rename_i hac
   simp only[Option.some.injEq,Prod.mk.injEq]at h;obtain⟨rfl,rfl,rfl⟩:=h
   rw[ARep,IRep]at hr
   obtain⟨rfl,_⟩:=hr
   refine⟨a,c,rfl,?_,?_⟩
   ·rw[ARepL,Array.size_eq_zero_iff.1 hac.1]
   ·rw[ARepL,Array.size_eq_zero_iff.1 hac.2]
  ·cases h
 ·cases h
theorem fnI_spec {x:AVal}{u:Value}(hr:ARep w F ι x u):ARep w F ι (fnI x) u:=by
 unfold fnI
 split
 ·rw[ARep]at hr;obtain⟨va,vc,rfl,h1,h2⟩:=hr
  rw[ARepL]at h1 h2
  rw[ARep,IRep]
  have e1:va=#[]:=by simpa using h1
  have e2:vc=#[]:=by simpa using h2
  exact⟨by rw[e1,e2],rfl⟩
 ·exact hr
theorem fnIL_spec :∀{xs:List AVal}{us:List Value},ARepL w F ι xs us→ARepL w F ι (xs.map fnI) us
 |[],us,h=>h
 |x::xs,us,h=>by rw[List.map_cons];rw[ARepL]at*;obtain⟨u,us',e,h1,h2⟩:=h;exact⟨u,us',e,fnI_spec h1,fnIL_spec h2⟩
theorem goes_call3 (hR:Rel K ι F σ a w){o:Oper}{fo:Operand}{args:Array Operand}{tys:Array TypeId}{f:FuncId}{fst cap:List AVal}{ds' ds:List IVal}{r:IVal}
  (ho:o.op=.call {callee:=.value fo,args,argTypes:=tys})(hd:∀i,o.dst=some i→i<σ.m)(hK:∀i,K i→K' i)(hf:afn (σ.ev fo)=some (f,fst,cap))(hx:aimmL ((fst++args.toList.map σ.ev++cap).map fnI)=some ds')(hle:ILeL ds' ds)(hs:ASpec P f ds r):
  Goes P o a w K ι F σ K' (σ.app o.dst ⟨.imm r,[]⟩):=by
 intro next Q hnext
 obtain⟨va,vc,e1,e2,e3⟩:=afn_spec hf (hR.ev fo).2
 have hargs:=(hR.evs args.toList).2
 have hrep:=hle.rep hR.col (aimmL_spec hx (fnIL_spec ((e2.append hargs).append e3)))
 unfold Oper.wp
 rw[exec_call ho e1 hs.1,Oper.upon_enter]
 refine(hs.2 w F (va++args.map a.eval++vc) hR.foot hR.col (by simpa using hrep)).mono ?_
 rintro e w' ⟨v,F',rfl,h1,h2,h3,h4,h5,h6⟩
 obtain⟨r1,r2⟩:=hR.grow h1 h2 h3 h4 h5
 exact hnext ι F' _ _ ((r1.mono hK).put o.dst (.imm r) v hd (by rw[AIn];trivial) (by rw[ARep];exact h6)) (Act.put_defers _ _ _) ((r2.more hK).app _ _)
theorem goes_callL3 (hR:Rel K ι F σ a w){o:Oper}{fo:Operand}{args:Array Operand}{tys:Array TypeId}{f:FuncId}{fst cap:List AVal}{ds' ds:List IVal}{r:IVal}
  (ho:o.op=.call {callee:=.value fo,args,argTypes:=tys})(hd:∀i,o.dst=some i→i<σ.m)(hK:∀i,K i→K' i)(hf:afn (σ.ev fo)=some (f,fst,cap))(hx:alendL σ ((fst++args.toList.map σ.ev++cap).map fnI)=some ds')(hle:ILeL ds' ds)(hs:ASpec P f ds r)(hfl:iflat r=true):
  Goes P o a w K ι F σ K' (σ.app o.dst ⟨.imm r,[]⟩):=by
 intro next Q hnext
 obtain⟨va,vc,e1,e2,e3⟩:=afn_spec hf (hR.ev fo).2
 have hargs:=(hR.evs args.toList).2
 have hfoot:∀c b,Lent F ι σ c b→b<w.heap.size:=by
  rintro c b (h|⟨_,h⟩)
  ·exact hR.foot c b h
  ·exact hR.owned_lt h
 have hcol:∀b,Lent F ι σ true b→Lent F ι σ false b:=by
  rintro b (h|⟨h,_⟩)
  ·exact .inl (hR.col b h)
  ·cases h
 have hrep:=hle.rep hcol (alendL_spec hR hx (fnIL_spec ((e2.append hargs).append e3)))
 unfold Oper.wp
 rw[exec_call ho e1 hs.1,Oper.upon_enter]
 refine(hs.2 w (Lent F ι σ) (va++args.map a.eval++vc) hfoot hcol (by simpa using hrep)).mono ?_
 rintro e w' ⟨v,F',rfl,h1,h2,h3,h4,h5,h6⟩
 obtain⟨r1,r2⟩:=hR.grow h1 (F1:=F) (fun _ _ h=>h) (fun _ _ h=>.inl h) (fun c b h=>Nat.lt_of_lt_of_le (hR.foot c b h) h1.size) hR.col
 exact hnext ι F _ _ ((r1.mono hK).put o.dst (.imm r) v hd (by rw[AIn];trivial) (by rw[ARep];exact iflat_rep hfl h6)) (Act.put_defers _ _ _) ((r2.more hK).app _ _)
theorem goes_callX (hR:Rel K ι F σ a w){o:Oper}{fo:Operand}{args:Array Operand}{tys:Array TypeId}{f:FuncId}{fst cap:List AVal}{ds' ds:List IVal}{r:IVal}
  (ho:o.op=.call {callee:=.value fo,args,argTypes:=tys})(hd:∀i,o.dst=some i→i<σ.m)(hK:∀i,K i→K' i)(hf:afn (σ.ev fo)=some (f,fst,cap))(hx:alendL σ ((fst++args.toList.map σ.ev++cap).map fnI)=some ds')(hle:ILeL ds' ds)(hs:XSpec P f ds r)(hfl:iflat r=true):
  Goes P o a w K ι F σ K' (σ.app o.dst ⟨.imm r,[]⟩):=by
 obtain⟨va,vc,e1,e2,e3⟩:=afn_spec hf (hR.ev fo).2
 have hargs:=(hR.evs args.toList).2
 have hcol:∀b,Lent F ι σ true b→Lent F ι σ false b:=by
  rintro b (h|⟨h,_⟩)
  ·exact .inl (hR.col b h)
  ·cases h
 have hrep:=hle.rep hcol (alendL_spec hR hx (fnIL_spec ((e2.append hargs).append e3)))
 obtain⟨u,h1,h2⟩:=hs w (Lent F ι σ) (va++args.map a.eval++vc) (by simpa using hrep)
 exact Goes.same hR (exec_callX ho e1 h1) hd hK (by rw[AIn];trivial) (by rw[ARep];exact iflat_rep hfl h2)
theorem goes_callW (hR:Rel K ι F σ a w){o:Oper}{fo:Operand}{args:Array Operand}{tys:Array TypeId}{f:FuncId}{id n ty k:Nat}{es es' ds' ds:List IVal}{rest:List AVal}{r:IVal}
  (ho:o.op=.call {callee:=.value fo,args,argTypes:=tys})(hd:∀i,o.dst=some i→i<σ.m)(hK:∀i,K i→K' i)(hf:afn (σ.ev fo)=some (f,[],[]))(hargs:args.toList.map σ.ev=.own id n::rest)(hx:aimmL (rest.map fnI)=some ds')
  (hrow:rowOf (σ.s id)=some (ty,k,es))(hn:es.length=n)(hle:ILeL ds' ds)(hs:WSpec P f ty k es ds r es'):
  Goes P o a w K ι F σ K' (σ.app o.dst ⟨.imm r,[(id,some (putO es' (σ.s id)))]⟩):=by
 intro next Q hnext
 obtain⟨va,vc,e1,e2,e3⟩:=afn_spec hf (hR.ev fo).2
 rw[ARepL]at e2 e3
 have hva:va=#[]:=by rw[←Array.toList_inj];simpa using e2
 have hvc:vc=#[]:=by rw[←Array.toList_inj];simpa using e3
 have hall:=(hR.evs args.toList).2
 rw[hargs,ARepL]at hall
 obtain⟨u,us,hus,hu,hrest⟩:=hall
 obtain⟨e0,hs0,hrr,hput,hputin⟩:=rowOf_some hrow
 obtain⟨g1,g2,g3⟩:=hR.ent id e0 hs0
 have hrr:=hrr _ _ _ _ g3
 rw[ARep]at hu
 have hrep:=hle.rep hR.col (aimmL_spec hx (fnIL_spec hrest))
 have hoff:(ι id).nil=false→∀c,¬F c (ι id).blk:=fun hnil c hF=>hR.off _ ⟨id,e0,hs0,hnil,rfl⟩ c hF
 have hvs:va++args.map a.eval++vc=((ι id).val es.length::us).toArray:=by
  have:(args.map a.eval).toList=u::us:=by rw[Array.toList_map];exact hus
  rw[hva,hvc,←Array.toList_inj,Array.toList_append,Array.toList_append,this,hu.1,hn]
  simp
 unfold Oper.wp
 rw[exec_call ho e1 hs.1,Oper.upon_enter,hvs]
 refine(hs.2 w F (ι id) us hR.foot hR.col hrr hoff hrep).mono ?_
 rintro e w' ⟨v,F',rfl,h1,h2,h3,h4,h5,h6,h7,h8,h9,h10,h11,h12⟩
 rw[show putO es' (σ.s id)=putE es' e0 from by rw[hs0];rfl]at hnext
 obtain⟨r1,r2⟩:=hR.turn hs0 (hputin K es') h1 h2 h3 h4 h5 h6 h7 h8 h9 (hput _ _ _ _ _ _ _ g3 h11)
 exact hnext ι F' _ _ ((r1.mono hK).put o.dst (.imm r) v hd (by rw[AIn];trivial) (by rw[ARep];exact h12)) (Act.put_defers _ _ _) ((r2.more hK).app _ _)
theorem okIds_row {σ:AState}:∀{ids:List Nat}{id:Nat},okIds σ ids=true→ids.contains id=true→isRow (σ.s id)=true
 |[],_,_,h=>by simp at h
 |i::l,id,h,hc=>by
  rw[okIds,Bool.and_eq_true,Bool.and_eq_true]at h
  rw[List.contains_cons,Bool.or_eq_true]at hc
  rcases hc with hc|hc
  ·rw[beq_iff_eq]at hc;subst hc;exact h.1.2
  ·exact okIds_row h.2 hc
theorem goes_callF (hR:Rel K ι F σ a w){o:Oper}{fo:Operand}{args:Array Operand}{tys:Array TypeId}{f:FuncId}{fst cap:List AVal}{ids:List Nat}{oo:List (Nat×Nat)}{ds' ds:List IVal}{r:IVal}
  (ho:o.op=.call {callee:=.value fo,args,argTypes:=tys})(hd:∀i,o.dst=some i→i<σ.m)(hK:∀i,K i→K' i)(hf:afn (σ.ev fo)=some (f,fst,cap))(hx:afzL (rst ids σ) ((fst++args.toList.map σ.ev++cap).map fnI)=some (oo,ds'))(hok:okIds σ ids=true)(heq:eqs oo)(hle:ILeL ds' ds)(hs:ASpec P f ds r):
  Goes P o a w K ι F σ K' (σ.app o.dst ⟨.imm r,ids.map fun i=>(i,none)⟩):=by
 intro next Q hnext
 obtain⟨va,vc,e1,e2,e3⟩:=afn_spec hf (hR.ev fo).2
 have hargs:=(hR.evs args.toList).2
 obtain⟨F1,f1,f2,f3⟩:=hR.freezeL ids hok
 have hrep0:IRepL w F1 ds' (va.toList++args.toList.map a.eval++vc.toList):=afzSL_spec f2.mono (fun id ty k es he=>by
  simp only[rst]at he
  split at he
  ·rename_i hc;exact f3 id ty k es hc he
  ·cases he) (fun id kvs he=>by
  simp only[rst]at he
  split at he
  ·rename_i hc
   obtain⟨ty,k,es,e'⟩:=isRow_spec (okIds_row hok hc)
   rw[e']at he;cases he
  ·cases he) hx heq (fnIL_spec ((e2.append hargs).append e3))
 have hrep:=hle.rep f1.col hrep0
 unfold Oper.wp
 rw[exec_call ho e1 hs.1,Oper.upon_enter]
 refine(hs.2 w F1 (va++args.map a.eval++vc) f1.foot f1.col (by simpa using hrep)).mono ?_
 rintro e w' ⟨v,F',rfl,h1,h2,h3,h4,h5,h6⟩
 obtain⟨r1,r2⟩:=f1.grow h1 h2 h3 h4 h5
 exact hnext ι F' _ _ ((r1.mono hK).put o.dst (.imm r) v hd (by rw[AIn];trivial) (by rw[ARep];exact h6)) (Act.put_defers _ _ _) (((f2.trans r2).more hK).app _ _)
theorem goes_callO (hR:Rel K ι F σ a w){o:Oper}{fo:Operand}{args:Array Operand}{tys:Array TypeId}{f:FuncId}{fst cap:List AVal}{j ty k:Nat}{es ds' ds:List IVal}
  (ho:o.op=.call {callee:=.value fo,args,argTypes:=tys})(hd:∀i,o.dst=some i→i<σ.m)(hj:¬K j)(hf:afn (σ.ev fo)=some (f,fst,cap))(hx:aimmL ((fst++args.toList.map σ.ev++cap).map fnI)=some ds')(hle:ILeL ds' ds)(hs:OSpec P f ds ty k es):
  Goes P o a w K ι F σ (fun i=>K i∨i=j) (σ.app o.dst ⟨.own j es.length,[(j,some (.row ty k es))]⟩):=by
 intro next Q hnext
 obtain⟨va,vc,e1,e2,e3⟩:=afn_spec hf (hR.ev fo).2
 have hargs:=(hR.evs args.toList).2
 have hrep:=hle.rep hR.col (aimmL_spec hx (fnIL_spec ((e2.append hargs).append e3)))
 unfold Oper.wp
 rw[exec_call ho e1 hs.1,Oper.upon_enter]
 refine(hs.2 w F (va++args.map a.eval++vc) hR.foot hR.col (by simpa using hrep)).mono ?_
 rintro e w' ⟨l,F',rfl,h1,h2,h3,h4,h5,h6,h7⟩
 obtain⟨r1,r2⟩:=hR.grow h1 h2 h3 h4 h5
 have hno:l.nil=false→(∀c,¬F' c l.blk)∧¬Owned ι σ l.blk:=fun hn=>⟨(h7 hn).2,fun ho=>by have:=hR.owned_lt ho;have:=(h7 hn).1;omega⟩
 have r3:=r1.adopt j hj l ty k es hno h6
 have henv:∀id,K id→(fun i=>if i=j then l else ι i) id=ι id:=fun id hid=>by
  show (if id=j then l else ι id)=ι id
  rw[if_neg (fun ee:id=j=>hj (by rw[←ee];exact hid))]
 have r4:Ext K ι F σ w (fun i=>K i∨i=j) (fun i=>if i=j then l else ι i) F' {σ with s:=ups σ.s [(j,some (.row ty k es))]} w':=by
  refine⟨r2.os,r2.tape,r2.output,r2.size,r2.frame,fun b hb=>?_,r2.mono,r2.src,henv,fun _ h=>.inl h⟩
  obtain⟨id,x,g1,g2,g3⟩:=hb
  by_cases hid:id=j
  ·subst hid
   simp only[if_true]at g2 g3
   subst g3
   exact .inr (h7 g2).1
  ·simp only[ups,if_neg hid]at g1 g2 g3
   exact .inl ⟨id,x,g1,g2,g3⟩
 refine hnext _ F' _ _ (r3.put o.dst (.own j es.length) (l.val es.length) hd (by rw[AIn];exact .inr rfl) ?_) (Act.put_defers _ _ _) (r4.app _ _)
 rw[ARep]
 simp only[if_true]
 refine⟨trivial,fun hnil=>?_⟩
 rcases h6 with h|h
 ·rw[h.2];rfl
 ·rw[h.1]at hnil;cases hnil
theorem ndB_spec :∀{l:List Nat},ndB l=true→l.Nodup
 |[],_=>List.nodup_nil
 |x::l,h=>by
  simp only[ndB,Bool.and_eq_true,Bool.not_eq_true']at h
  exact List.nodup_cons.2 ⟨by simpa using h.1,ndB_spec h.2⟩
theorem gboxes_spec {s:Nat→Option Entry}{inv:Nat→Nat}:∀{l:List Nat}{bx:List (Nat×AVal)},gboxes s inv l=some bx→bx.length=l.length∧∀i p,bx[i]?=some p→∃x,boxOf (s (l.getD i 0))=some (p.1,x)∧p.2=ren inv x
 |[],bx,h=>by simp only[gboxes,Option.some.injEq]at h;subst h;exact⟨rfl,fun i p hp=>by simp at hp⟩
 |id::l,bx,h=>by
  simp only[gboxes]at h
  split at h
  ·rename_i ty x bs h1 h2
   simp only[Option.some.injEq]at h;subst h
   obtain⟨g1,g2⟩:=gboxes_spec h2
   refine⟨by simp[g1],fun i p hp=>?_⟩
   cases i with
   |zero=>simp at hp;subst hp;exact⟨x,by simpa using h1,rfl⟩
   |succ i=>simp at hp;simpa using g2 i p hp
  ·cases h
theorem growsL_spec {s:Nat→Option Entry}:∀{l:List Nat}{rw:List Rw},growsL s l=some rw→rw.length=l.length∧∀i p,rw[i]?=some p→s (l.getD i 0)=some (.row p.1 p.2.1 p.2.2)
 |[],rw,h=>by simp only[growsL,Option.some.injEq]at h;subst h;exact⟨rfl,fun i p hp=>by simp at hp⟩
 |id::l,rw,h=>by
  simp only[growsL]at h
  split at h
  ·rename_i ty k es rs h1 h2
   simp only[Option.some.injEq]at h;subst h
   obtain⟨g1,g2⟩:=growsL_spec h2
   refine⟨by simp[g1],fun i p hp=>?_⟩
   cases i with
   |zero=>simp at hp;subst hp;simpa using h1
   |succ i=>simp at hp;simpa using g2 i p hp
  ·cases h
theorem goes_callG (hR:Rel K ι F σ a w){o:Oper}{j nb:Nat}{ids:List Nat}{as:List AVal}{bx':List (Nat×AVal)}{new:List Entry}{r:AVal}{p:Prop}{E:AEff}(hd:∀i,o.dst=some i→i<σ.m)(hj:∀q,q<new.length→¬K (j+q))
  (h:anextG P j σ ids nb as bx' new r o.op=some (p,E))(hp:p):Goes P o a w K ι F σ (fun i=>K i∨(j≤i∧i<j+new.length)) (σ.app o.dst E):=by
 intro next Q hnext
 generalize ho:o.op=op at h
 unfold anextG at h
 split at h
 ·rename_i fo args tys
  split at h
  ·rename_i f fst cap hf
   split at h
   ·rename_i bx rw hbx hrw
    split at h
    ·rename_i hc
     obtain⟨c1,c2,c3,c4⟩:=hc
     simp only[Option.some.injEq,Prod.mk.injEq]at h
     obtain⟨rfl,rfl⟩:=h
     obtain⟨hle,hs⟩:=hp
     obtain⟨va,vc,e1,e2,e3⟩:=afn_spec hf (hR.ev fo).2
     have hargs:=(hR.evs args.toList).2
     have hrep0:=fnIL_spec ((e2.append hargs).append e3)
     obtain⟨b1,b2⟩:=gboxes_spec hbx
     obtain⟨r1,r2⟩:=growsL_spec hrw
     have hlen:ids.length=bx.length+rw.length:=by
      rw[b1,r1,List.length_take,List.length_drop];omega
     have hin:=ainBL_spec c2
     have hbl:bx.length=min nb ids.length:=by rw[b1,List.length_take]
     have hL:Lend σ ids bx rw as:=by
      refine⟨ndB_spec c1,hlen,fun i p hp=>?_,fun q p hp=>?_,hle.within hin⟩
      ·obtain⟨x,x1,x2⟩:=b2 i p hp
       have hi:=(List.getElem?_eq_some_iff.1 hp).1
       have:(ids.take nb).getD i 0=ids.getD i 0:=by
        rw[List.getD_eq_getElem?_getD,List.getD_eq_getElem?_getD,List.getElem?_take,if_pos]
        rw[b1,List.length_take]at hi;omega
       rw[this]at x1
       have hall:=List.all_eq_true.1 c3 p (List.mem_of_getElem? hp)
       exact⟨ainB_spec hall,x,x1,x2⟩
      ·have:=r2 q p hp
       have hq:=(List.getElem?_eq_some_iff.1 hp).1
       rw[r1,List.length_drop]at hq
       rw[List.getD_eq_getElem?_getD,List.getElem?_drop]at this
       rw[List.getD_eq_getElem?_getD,hbl,Nat.min_eq_left (by omega)];exact this
     have hrepL:ARepL w F (fun i=>ι (ids.getD i 0)) as (va.toList++args.toList.map a.eval++vc.toList):=by
      refine hle.rep hR.col (renL_rep2 ?_)
      refine ARepL.keep (w:=w) (K:=fun i=>below ids.length (ids.idxOf i)) (fun _ _ _=>rfl) (fun _ _ hb=>hb) (fun id hid=>?_) _ _ (renL_in2 hin) hrep0
      rw[idx_back hid]
     have hto:=hL.to hR (a1:={a with tmps:=va++args.map a.eval++vc}) (by simpa using hrepL)
     unfold Oper.wp
     rw[exec_call ho e1 hs.1,Oper.upon_enter]
     refine(hs.2.2 w F _ _ hto).mono ?_
     rintro e w' ⟨v,ι',F',a',rfl,ha',h1,h2⟩
     obtain⟨ι2,q1,q2,q3,q4⟩:=hL.back hR hj c4 h1 h2
     have hv:a'.tmps.getD 0 undef=v:=by rw[ha'];rfl
     rw[hv]at q4
     exact hnext _ F' _ _ (q1.put o.dst _ v hd q3 q4) (Act.put_defers _ _ _) (q2.app _ _)
    ·cases h
   ·cases h
  ·cases h
 ·cases h
def Out.gives :Out→AEff→Prop
 |.ok E',E=>E'=E
 |.ask p E',E=>p∧E'=E
 |.no,_=>False
theorem Out.of_gives {x:Option AEff}{E:AEff}(h:(Out.of x).gives E):x=some E:=by
 unfold Out.of at h;split at h
 ·simp only[Out.gives]at h;rw[h]
 ·exact h.elim
theorem goes_next0 (hR:Rel K ι F σ a w){o:Oper}{fz:Bool}{j:Nat}{orc:Orc}{E:AEff}(hj:¬K j)(hd:∀i,o.dst=some i→i<σ.m)(h:(anext0 P fz j σ orc o.op).gives E):
  Goes P o a w K ι F σ (fun i=>K i∨i=j) (σ.app o.dst E):=by
 have hK:∀i,K i→(fun i=>K i∨i=j) i:=fun i hi=>.inl hi
 have ev:aevOp P fz j σ o.op=some E→Goes P o a w K ι F σ (fun i=>K i∨i=j) (σ.app o.dst E):=fun h=>goes_ev hR hj hd h
 generalize ho:o.op=op at h ev
 unfold anext0 at h
 split at h
 ·rename_i d t x ix
  split at h
  ·rename_i ik n k0 k c kf k' es h1 h2 h3
   split at h
   ·rename_i hk
    obtain⟨⟨hn,he⟩,rfl⟩:=h
    refine ev ?_
    simp only[aevOp,h1,if_pos hn,aidx,h2,h3,if_pos hk,he]
   ·exact h.elim
  ·exact h.elim
 ·rename_i d t x
  split at h
  ·rename_i id k i off hx
   split at h
   ·rename_i ty k' es hs
    split at h
    ·rename_i hk
     split at h
     ·rename_i y hy
      obtain⟨he,rfl⟩:=h
      refine ev ?_
      simp only[aevOp,hx,aload,hs,if_pos hk,he,hy]
     ·exact h.elim
    ·exact h.elim
   ·exact h.elim
  ·exact h.elim
 ·rename_i t x ix
  split at h
  ·rename_i ik n k0 k id m h1 h2 h3
   obtain⟨⟨hn,he⟩,rfl⟩:=h
   refine ev ?_
   simp only[aevOp,h1,if_pos hn,aidx,h2,h3,if_pos he]
  ·exact ev (Out.of_gives h)
 ·rename_i s x t0 t1
  split at h
  ·rename_i e k hsl
   split at h
   ·rename_i news qq hnewsQ
    split at h
    ·rename_i hc
     split at h
     ·rename_i id n hs
      split at h
      ·rename_i e' k' es he
       split at h
       ·rename_i hek
        obtain⟨gq,rfl⟩:=h
        obtain⟨hnews,g1,g2,g3,g4⟩:=asrcQ_spec hnewsQ gq
        refine ev ?_
        simp only[aevOp,aappend,hsl,hnews,hs,he]
        rw[if_pos ⟨hc.1,hc.2,g3⟩,if_pos ⟨hek.1,hek.2,g1,g2,g4⟩]
        cases fz<;>rfl
       ·exact h.elim
      ·exact h.elim
     ·rename_i hs
      obtain⟨gq,rfl⟩:=h
      obtain⟨hnews,g1,g2⟩:=asrcQ_spec hnewsQ gq
      refine ev ?_
      simp only[aevOp,aappend,hsl,hnews,hs]
      rw[if_pos ⟨hc.1,hc.2,g1⟩,if_pos g2]
      cases fz<;>rfl
     ·rename_i c k' es hs
      split at h
      ·rename_i hk
       obtain⟨gq,rfl⟩:=h
       obtain⟨hnews,g1,g2,g3⟩:=asrcQ_spec hnewsQ gq
       refine ev ?_
       simp only[aevOp,aappend,hsl,hnews,hs]
       rw[if_pos ⟨hc.1,hc.2,g2⟩,if_pos ⟨hk,g1,g3⟩]
      ·exact h.elim
     ·exact ev (Out.of_gives h)
    ·exact h.elim
   ·exact h.elim
  ·exact h.elim
 ·rename_i ds r fo args tys
  split at h
  ·rename_i f fst cap hf
   split at h
   ·rename_i ds' hds
    obtain⟨⟨g1,g2⟩,rfl⟩:=h
    exact goes_call3 hR ho hd hK hf hds g1 g2
   ·split at h
    ·rename_i ds' hds
     obtain⟨⟨g1,g2,g3⟩,rfl⟩:=h
     exact goes_callL3 hR ho hd hK hf hds g1 g2 g3
    ·exact h.elim
  ·exact h.elim
 ·rename_i bo t x y yt
  split at h
  ·rename_i k a k' b h1 h2
   split at h
   ·obtain⟨g1,rfl⟩:=h
    refine ev ?_
    simp only[aevOp,aBinOp,h1,h2,abin,if_pos g1];rfl
   ·obtain⟨g1,rfl⟩:=h
    refine ev ?_
    simp only[aevOp,aBinOp,h1,h2,abin,if_pos g1];rfl
   ·split at h
    ·rename_i hk
     obtain⟨g1,rfl⟩:=h
     refine ev ?_
     simp only[aevOp,aBinOp,h1,h2,abin,if_pos hk,if_neg g1];rfl
    ·exact h.elim
   ·split at h
    ·rename_i hk
     obtain⟨g1,rfl⟩:=h
     refine ev ?_
     simp only[aevOp,aBinOp,h1,h2,abin,if_pos hk,if_neg g1];rfl
    ·exact h.elim
   ·exact ev (Out.of_gives h)
  ·exact ev (Out.of_gives h)
 ·rename_i ds r fo args tys
  split at h
  ·rename_i f fst cap hf
   split at h
   ·rename_i ds' hds
    obtain⟨⟨g1,g2,g3⟩,rfl⟩:=h
    exact goes_callX hR ho hd hK hf hds g1 g2 g3
   ·exact h.elim
  ·exact h.elim
 ·rename_i ds r fo args tys
  split at h
  ·rename_i f fst cap hf
   split at h
   ·rename_i o' ds' hds
    obtain⟨⟨g0,g1,g2,g3⟩,rfl⟩:=h
    exact goes_callL3 hR ho hd hK hf (alendEL_spec hds g0) g1 g2 g3
   ·exact h.elim
  ·exact h.elim
 ·rename_i ds r es' fo args tys
  split at h
  ·rename_i f id n rest hf hargs
   split at h
   ·rename_i ty k es ds' hrow hx
    obtain⟨⟨g1,g2,g3⟩,rfl⟩:=h
    exact goes_callW hR ho hd hK hf hargs hx hrow g1 g2 g3
   ·exact h.elim
  ·exact h.elim
 ·rename_i ds ty k es fo args tys
  split at h
  ·rename_i f fst cap hf
   split at h
   ·rename_i ds' hds
    obtain⟨⟨g1,g2⟩,rfl⟩:=h
    exact goes_callO hR ho hd hj hf hds g1 g2
   ·exact h.elim
  ·exact h.elim
 ·rename_i ids ds r fo args tys
  split at h
  ·rename_i f fst cap hf
   split at h
   ·rename_i oo ds' hds
    split at h
    ·rename_i hok
     obtain⟨⟨g1,g2,g3⟩,rfl⟩:=h
     exact goes_callF hR ho hd hK hf hds hok g1 g2 g3
    ·exact h.elim
   ·exact h.elim
  ·exact h.elim
 ·rename_i s x t0 t1
  split at h
  ·rename_i e k c k' h1 h2
   split at h
   ·rename_i news qq hnQ
    split at h
    ·rename_i hc
     obtain⟨gq,rfl⟩:=h
     obtain⟨hn,g1,g2⟩:=asrcQ_spec hnQ gq
     exact goes_append_full0 hR ho hd j hj h2 h1 hc.1 hc.2 hn (cellsOk_spec g1) g2
    ·exact h.elim
   ·exact h.elim
  ·exact h.elim
 ·rename_i d0 t x y
  split at h
  ·rename_i ag k ys id ke i d h1 h2 h3 h4
   split at h
   ·rename_i ty ke' es hrow
    split at h
    ·rename_i hc
     obtain⟨c1,rfl,c3,rfl,c5⟩:=hc
     obtain⟨g1,rfl⟩:=h
     exact goes_storeW hR ho hd hK h1 h2 c1 h3 h4 hrow c3 c5 g1
    ·exact h.elim
   ·exact h.elim
  ·exact h.elim
 ·rename_i x b t m k ok
  split at h
  ·rename_i kd et kd' n ks xs h1 h2 h3
   split at h
   ·rename_i z hz
    split at h
    ·rename_i hk
     obtain⟨⟨g1,g2⟩,rfl⟩:=h
     subst hk
     exact goes_lookup hR ho hd hK h1 hz (oneVal_spec h2) h3 g1 g2
    ·exact h.elim
   ·exact h.elim
  ·exact h.elim
 ·rename_i id as ty x r op
  split at h
  ·rename_i p E' hg
   obtain⟨g1,rfl⟩:=h
   have hgo:=goes_callG (j:=j) (new:=[]) hR hd (fun q hq=>absurd hq (Nat.not_lt_zero q)) (by rw[ho];exact hg) g1
   intro next Q hn
   exact hgo next Q fun ι' F' a' w' h1 h2 h3=>hn ι' F' a' w' (h1.mono fun i hi=>hi.imp_right fun h=>(by have h2:i<j+0:=h.2;omega)) h2 (h3.more fun i hi=>hi.imp_right fun h=>(by have h2:i<j+0:=h.2;omega))
  ·exact h.elim
 ·rename_i t x lo hi
  split at h
  ·rename_i q k c f k' es h1 h2
   split at h
   ·rename_i l hh g1 g2
    split at h
    ·rename_i hk
     obtain⟨⟨b1,b2,b3⟩,rfl⟩:=h
     refine ev ?_
     obtain⟨bl,e1,e2⟩:=bndQ_spec g1 b1
     obtain⟨bh,e3,e4⟩:=bndQ_spec g2 (by omega)
     have e2:bl.getD 0=l.toNat:=e2
     have e4:bh.getD es.length=hh.toNat:=e4
     simp only[aevOp,e1,e3,show bnd σ none=some none from rfl,h2,aslice,h1]
     rw[if_pos ⟨(by simp),(by simp)⟩,if_pos ⟨hk,by omega,by omega,.inl trivial⟩,e2,e4]
     rfl
    ·exact h.elim
   ·exact h.elim
  ·exact h.elim
 ·rename_i l s t x
  split at h
  ·rename_i c f k es hx
   split at h
   ·rename_i hk
    obtain⟨g1,rfl⟩:=h
    obtain⟨rfl,hk2⟩:=hk
    subst g1
    exact goes_toStr hR ho hd hK hk2 hx
   ·exact h.elim
  ·rename_i b hx
   split at h
   ·rename_i hk
    obtain⟨rfl,rfl⟩:=h
    exact goes_toBytes hR ho hd hK hk hx
   ·exact h.elim
  ·exact h.elim
 ·rename_i l x y t0 t1
  split at h
  ·rename_i e k id off n h1 h2
   split at h
   ·rename_i ty x0 news h3 h4
    split at h
    ·rename_i cs h5
     split at h
     ·rename_i hk
      obtain⟨⟨g1,g2⟩,rfl⟩:=h
      obtain⟨rfl,hk2⟩:=hk
      subst g1
      exact goes_copy hR ho hd hK h1 h2 h3 h5 h4 g2 hk2
     ·exact h.elim
    ·exact h.elim
   ·exact h.elim
  ·exact h.elim
 ·rename_i E' op'
  obtain⟨g1,rfl⟩:=h
  exact ev g1
 ·exact ev (Out.of_gives h)
theorem anext_out {fz:Bool}{j:Nat}{σ:AState}{orc:Orc}{op:Op}{E:AEff}(h:(anext P fz j σ orc op).gives E):∃orc',(anext0 P fz j σ orc' op).gives E:=by
 unfold anext at h
 split at h
 ·split at h
  ·split at h
   ·exact h.elim
   ·exact⟨_,h⟩
  ·split at h
   ·exact h.elim
   ·exact⟨_,h⟩
  ·split at h
   ·exact h.elim
   ·exact⟨_,h⟩
  ·exact⟨_,h⟩
 ·exact⟨_,h⟩
theorem goes_next (hR:Rel K ι F σ a w){o:Oper}{fz:Bool}{j:Nat}{orc:Orc}{E:AEff}(hj:¬K j)(hd:∀i,o.dst=some i→i<σ.m)(h:(anext P fz j σ orc o.op).gives E):
  Goes P o a w K ι F σ (fun i=>K i∨i=j) (σ.app o.dst E):=by
 obtain⟨orc',h'⟩:=anext_out h
 exact goes_next0 hR hj hd h'
end
end Go.Abs
namespace Go.Abs
open Go.RowKit
variable {P:Program}
def PSpec (P:Program)(f:FuncId)(bx:List (Nat×AVal))(rw:List Rw)(args:List AVal)(v:Value):Prop:=
 callable P f=true∧∀(w:World)(F:Foot)(ι:Nat→Loc)(a:Act),Rel (below (bx.length+(rows rw).length)) ι F (gstate ι bx (rows rw) args args.length) a w→
  Calls P f a.tmps w fun e w'=>e=.panicked [⟨v,false,false⟩]∧w'.os=w.os∧w'.tape=w.tape∧w'.output=w.output∧w.heap.size≤w'.heap.size∧∀b,b<w.heap.size→¬Owned ι (gstate ι bx (rows rw) args args.length) b→w'.heap[b]?=w.heap[b]?
def sdrop (ids:List Nat)(σ:AState):AState:={σ with s:=fun i=>if ids.contains i=true then none else σ.s i}
def anextP (P:Program)(σ:AState)(ids:List Nat)(nb:Nat)(as:List AVal)(v:Value)(op:Op):Option Prop:=
 match op with
 |.call {callee:=.value fo,args,argTypes:=_}=>match afn (σ.ev fo)with
  |some (f,fst,cap)=>match gboxes σ.s (fun id=>ids.idxOf id) (ids.take nb),growsL σ.s (ids.drop nb)with
   |some bx,some rw=>
    if ndB ids=true∧ainBL ids.length (renL (fun id=>ids.idxOf id) ((fst++args.toList.map σ.ev++cap).map fnI))=true∧bx.all (fun p=>ainB ids.length p.2)=true then
     some (ALeL (renL (fun id=>ids.idxOf id) ((fst++args.toList.map σ.ev++cap).map fnI)) as∧PSpec P f bx rw as v)
    else none
   |_,_=>none
  |none=>none
 |_=>none
section
variable {K:Nat→Prop} {ι:Nat→Loc} {F:Foot} {σ:AState} {a:Act} {w w':World}
theorem sdrop_s {ids:List Nat}{i:Nat}{e:Entry}(h:(sdrop ids σ).s i=some e):ids.contains i=false∧σ.s i=some e:=by
 simp only[sdrop]at h
 split at h
 ·cases h
 ·rename_i hc;exact⟨by simpa using hc,h⟩
theorem Rel.lost (hR:Rel K ι F σ a w)(ids:List Nat)(ho:w'.os=w.os)(ht:w'.tape=w.tape)(hu:w'.output=w.output)(hs:w.heap.size≤w'.heap.size)
  (hf:∀b,b<w.heap.size→¬(∃id e,ids.contains id=true∧σ.s id=some e∧(ι id).nil=false∧(ι id).blk=b)→w'.heap[b]?=w.heap[b]?):
  Rel K ι F (sdrop ids σ) a w'∧Pass ι F σ w ι F (sdrop ids σ) w':=by
 have hown:∀b,Owned ι (sdrop ids σ) b→Owned ι σ b:=fun b⟨id,e,h1,h2,h3⟩=>⟨id,e,(sdrop_s h1).2,h2,h3⟩
 have hkeep:Keeps F w w':=fun c b hb=>hf b (hR.foot c b hb) fun⟨id,e,_,h2,h3,h4⟩=>hR.off b ⟨id,e,h2,h3,h4⟩ c hb
 refine⟨⟨hR.size,fun i=>⟨(hR.tmp i).1,ARep.keep hkeep (fun _ _ h=>h) (fun _ _=>rfl) _ _ (hR.tmp i).1 (hR.tmp i).2⟩,fun id e he=>?_,fun b hb=>hR.off b (hown b hb),
  fun i j ei ej hi hj=>hR.sep i j ei ej (sdrop_s hi).2 (sdrop_s hj).2,fun c b hb=>Nat.lt_of_lt_of_le (hR.foot c b hb) hs,hR.col⟩,
  ⟨ho,ht,hu,hs,fun b hb hn=>hf b hb fun⟨id,e,_,h2,h3,h4⟩=>hn ⟨id,e,h2,h3,h4⟩,fun b hb=>.inl (hown b hb),fun _ _ h=>h,fun _ _ h=>.inl h⟩⟩
 obtain⟨h1,h2⟩:=sdrop_s he
 obtain⟨g1,g2,g3⟩:=hR.ent id e h2
 refine⟨g1,g2,ERep.keep hkeep (fun _ _ h=>h) (fun _ _=>rfl) (fun hn=>hf _ (hR.owned_lt ⟨id,e,h2,hn,rfl⟩) ?_) e g2 g3⟩
 rintro⟨i,e',k1,k2,k3,k4⟩
 have:=hR.sep i id e' e k2 h2 k3 hn k4
 rw[this,h1]at k1;cases k1
theorem wp_callP (hR:Rel K ι F σ a w){o:Oper}{nb:Nat}{ids:List Nat}{as:List AVal}{v:Value}{p:Prop}(h:anextP P σ ids nb as v o.op=some p)(hp:p)(next:Act→World→Prop)(Q:Exit→Act→World→Prop)
  (hq:∀w',Rel K ι F (sdrop ids σ) a w'→Pass ι F σ w ι F (sdrop ids σ) w'→Q (.panic [⟨v,false,false⟩]) a w'):o.wp P a w next Q:=by
 generalize ho:o.op=op at h
 unfold anextP at h
 split at h
 ·rename_i fo args tys
  split at h
  ·rename_i f fst cap hf
   split at h
   ·rename_i bx rw hbx hrw
    split at h
    ·rename_i hc
     obtain⟨c1,c2,c3⟩:=hc
     simp only[Option.some.injEq]at h
     subst h
     obtain⟨hle,hs⟩:=hp
     obtain⟨va,vc,e1,e2,e3⟩:=afn_spec hf (hR.ev fo).2
     have hargs:=(hR.evs args.toList).2
     have hrep0:=fnIL_spec ((e2.append hargs).append e3)
     obtain⟨b1,b2⟩:=gboxes_spec hbx
     obtain⟨r1,r2⟩:=growsL_spec hrw
     have hlen:ids.length=bx.length+rw.length:=by
      rw[b1,r1,List.length_take,List.length_drop];omega
     have hin:=ainBL_spec c2
     have hbl:bx.length=min nb ids.length:=by rw[b1,List.length_take]
     have hL:Lend σ ids bx rw as:=by
      refine⟨ndB_spec c1,hlen,fun i p hp=>?_,fun q p hp=>?_,hle.within hin⟩
      ·obtain⟨x,x1,x2⟩:=b2 i p hp
       have hi:=(List.getElem?_eq_some_iff.1 hp).1
       have:(ids.take nb).getD i 0=ids.getD i 0:=by
        rw[List.getD_eq_getElem?_getD,List.getD_eq_getElem?_getD,List.getElem?_take,if_pos]
        rw[b1,List.length_take]at hi;omega
       rw[this]at x1
       have hall:=List.all_eq_true.1 c3 p (List.mem_of_getElem? hp)
       exact⟨ainB_spec hall,x,x1,x2⟩
      ·have:=r2 q p hp
       have hq:=(List.getElem?_eq_some_iff.1 hp).1
       rw[r1,List.length_drop]at hq
       rw[List.getD_eq_getElem?_getD,List.getElem?_drop]at this
       rw[List.getD_eq_getElem?_getD,hbl,Nat.min_eq_left (by omega)];exact this
     have hrepL:ARepL w F (fun i=>ι (ids.getD i 0)) as (va.toList++args.toList.map a.eval++vc.toList):=by
      refine hle.rep hR.col (renL_rep2 ?_)
      refine ARepL.keep (w:=w) (K:=fun i=>below ids.length (ids.idxOf i)) (fun _ _ _=>rfl) (fun _ _ hb=>hb) (fun id hid=>?_) _ _ (renL_in2 hin) hrep0
      rw[idx_back hid]
     have hto:=hL.to hR (a1:={a with tmps:=va++args.map a.eval++vc}) (by simpa using hrepL)
     unfold Oper.wp
     rw[exec_call ho e1 hs.1,Oper.upon_enter]
     refine(hs.2 w F _ _ hto).mono ?_
     rintro e w' ⟨rfl,k1,k2,k3,k4,k5⟩
     have fr:∀b,b<w.heap.size→¬(∃id e,ids.contains id=true∧σ.s id=some e∧(ι id).nil=false∧(ι id).blk=b)→w'.heap[b]?=w.heap[b]?:=by
      intro b hb hn
      refine k5 b hb fun⟨i,e',q1,q2,q3⟩=>?_
      obtain⟨q4,e2,q5⟩:=hL.ent (ls:=fun i=>ι (ids.getD i 0)) q1
      refine hn ⟨_,e2,?_,q5,q2,q3⟩
      rw[List.getD_eq_getElem?_getD,List.getElem?_eq_getElem q4,List.contains_iff_mem]
      exact List.getElem_mem q4
     obtain⟨g1,g2⟩:=hR.lost ids k1 k2 k3 k4 fr
     exact hq w' g1 g2
    ·cases h
   ·cases h
  ·cases h
 ·cases h
theorem wp_panic (hR:Rel K ι F σ a w){o:Oper}{x:Operand}{t:TypeId}{v:Value}(ho:o.op=.panic x)(hx:σ.ev x=.imm (.v (.iface t v)))(next:Act→World→Prop)(Q:Exit→Act→World→Prop)
  (hq:Q (.panic [⟨.iface t v,false,false⟩]) a w):o.wp P a w next Q:=by
 have h:=(hR.ev x).2
 rw[hx,ARep,IRep]at h
 have hrun:(execOp a.eval o).run P w=.halt (.panic (.iface t v)) w:=by
  simp[execOp,ho,Instr.panic,h.1,goPanic]
 unfold Oper.wp
 rw[hrun,Oper.upon_panic]
 exact hq
end
end Go.Abs
namespace Go.Abs
open Go.RowKit
variable {P:Program}
def qget :List (Nat×Bool)→Nat→Option Bool
 |[],_=>none
 |(d,b)::l,i=>if i=d then some b else qget l i
def qdrop (d:Nat):List (Nat×Bool)→List (Nat×Bool)
 |[]=>[]
 |(i,b)::l=>if i=d then qdrop d l else(i,b)::qdrop d l
def known (q:List (Nat×Bool)):Operand→Option Bool
 |.const (.bool b)=>some b
 |.tmp d=>qget q d
 |_=>none
def qset (q:List (Nat×Bool)):Option Nat→Option Bool→List (Nat×Bool)
 |none,_=>q
 |some d,none=>qdrop d q
 |some d,some b=>(d,b)::qdrop d q
def qvalo (q:List (Nat×Bool)):Op→Option Bool
 |.move x=>known q x
 |.assign x=>known q x
 |.pick c x y=>match known q c with
  |some true=>known q x
  |some false=>known q y
  |none=>none
 |.unOp .not _ x=>(known q x).map (!·)
 |_=>none
def qval (f:Bool)(o:Orc)(q:List (Nat×Bool))(op:Op):Option Bool:=
 match f,o,op with
 |true,.call _ (.v (.bool _)),_=>some true
 |true,.calle _ (.v (.bool _)),_=>some true
 |_,.look _ b,.binOp _ _ _ _ _=>some b
 |_,.eff ⟨.imm (.v (.bool b)),_⟩,_=>some b
 |_,_,_=>qvalo q op
def lbr (kn:Option Bool)(b:Bool)(X Y:Tree):Tree:=
 match kn with
 |some true=>(match b with|true=>X|false=>.fail 1000004 0)
 |some false=>(match b with|false=>Y|true=>.fail 1000004 0)
 |none=>.br b X Y
theorem lbr_sat {Λ:Nat→LState→Tree→Prop}{Q:Exit→LState→Prop}{kn:Option Bool}{b:Bool}{X Y:Tree}(h:(lbr kn b X Y).sat Λ Q):(b=true→X.sat Λ Q)∧(b=false→Y.sat Λ Q):=by
 unfold lbr at h
 split at h
 ·cases b with
  |true=>exact⟨fun _=>h,fun hb=>by cases hb⟩
  |false=>exact h.elim
 ·cases b with
  |true=>exact h.elim
  |false=>exact⟨fun hb=>(by cases hb),fun _=>h⟩
 ·exact h
def LState.know (σ:LState)(d:Nat)(b:Bool):LState:={σ with t:=lput σ.t (some d) (.imm (.v (.bool b))),q:=qset σ.q (some d) (some b)}
theorem LState.know_toA {σ:LState}{d:Nat}{b:Bool}(h:tl σ.t d=.imm (.v (.bool b))):(σ.know d b).toA=σ.toA:=by
 simp only[LState.know,LState.toA]
 congr 1
 rw[lput_spec];funext i;rw[put_some];split
 ·rename_i hi;rw[hi,h]
 ·rfl
def skp :AEff:=⟨.imm (.tup []),[]⟩
theorem skp_in {K:Nat→Prop}:AIn K skp.v:=by unfold skp;rw[AIn];trivial
theorem skp_rep {w:World}{F:Foot}{ι:Nat→Loc}:ARep w F ι skp.v undef:=by
 unfold skp;rw[ARep,IRep];exact⟨#[],rfl,by rw[IRepL]⟩
def gnil (ops:List Oper)(σ:AState)(g:Nat):Prop:=
 match ops[g]? with
 |some og=>match og.dst with
  |some d=>σ.t d=.imm (.tup [])
  |none=>False
 |none=>False
def halt (σ:LState)(id i:Nat)(op:Op):Tree:=
 match op with
 |.makeInterface _ _=>.fail id i
 |.panic _=>.fail id i
 |_=>.stop σ id i op
theorem halt_sat {Λ:Nat→LState→Tree→Prop}{Q:Exit→LState→Prop}{σ:LState}{id i:Nat}{op:Op}(h:(halt σ id i op).sat Λ Q):False:=by
 unfold halt at h
 split at h<;>exact h
def LState.sdrop (ids:List Nat)(σ:LState):LState:={σ with s:=σ.s.filter fun p=>!(ids.contains p.1)}
theorem LState.sdrop_toA (ids:List Nat)(σ:LState):(σ.sdrop ids).toA=Abs.sdrop ids σ.toA:=by
 simp only[LState.sdrop,LState.toA,Abs.sdrop]
 congr 1
 funext i
 generalize σ.s=l
 induction l with
 |nil=>simp[sl]
 |cons p l ih=>
  obtain⟨d,x⟩:=p
  simp only[List.filter_cons,sl]
  by_cases hc:ids.contains d=true
  ·rw[if_neg (by simpa using hc),ih]
   by_cases hi:i=d
   ·subst hi;rw[if_pos hc,if_pos hc]
   ·rw[if_neg hi]
  ·rw[if_pos (by simpa using hc),sl]
   by_cases hi:i=d
   ·subst hi;rw[if_pos rfl,if_neg hc,if_pos rfl]
   ·rw[if_neg hi,if_neg hi,ih]
abbrev MayT :=Option (Bool×List Nat×Nat×List AVal×Value)
def lops (P:Program)(fz:Nat→Bool)(O:Nat→Orc)(M:Nat→MayT)(ck:Nat→AState→Op→AEff→Bool)(id:Nat)(ops:List Oper):Nat→Nat→List Oper→LState→(Exit→LState→Tree)→Tree
 |_,_,[],σ,k=>k .normal σ
 |base,i,o::rest,σ,k=>
  let go0:=fun σ:LState=>match bigG (O i)with
   |some (ids,nb,as,bx',new,r)=>(match anextG P (base+i) σ.toA ids nb as bx' new r o.op with
    |some (p,E)=>.need p (lops P fz O M ck id ops (base+new.length) (i+1) rest {σ.app o.dst E with q:=qset σ.q o.dst (qval (fz i) (O i) σ.q o.op)} k)
    |none=>halt σ id i o.op)
   |none=>match anext P (fz i) (base+i) σ.toA (O i) o.op with
    |.ok E=>if ck i σ.toA o.op E=true then lops P fz O M ck id ops base (i+1) rest {σ.app o.dst E with q:=qset σ.q o.dst (qval (fz i) (O i) σ.q o.op)} k else .stop σ id i o.op
    |.ask p E=>if ck i σ.toA o.op E=true then .need p (lops P fz O M ck id ops base (i+1) rest {σ.app o.dst E with q:=qset σ.q o.dst (qval (fz i) (O i) σ.q o.op)} k)else .stop σ id i o.op
    |.no=>halt σ id i o.op
  let go:=fun σ:LState=>match M i with
   |none=>(match o.op with
    |.panic x=>(match σ.toA.ev x with
     |.imm (.v (.iface t v))=>k (.panic [⟨.iface t v,false,false⟩]) σ
     |_=>halt σ id i o.op)
    |_=>go0 σ)
   |some (c,ids,nb,as,v)=>.br c (go0 σ) (match anextP P σ.toA ids nb as v o.op with
    |some p=>.need p (k (.panic [⟨v,false,false⟩]) (σ.sdrop ids))
    |none=>.fail id i)
  let skip:=fun σ:LState=>lops P fz O M ck id ops base (i+1) rest {σ.app o.dst skp with q:=qset σ.q o.dst none} k
  match o.guard with
  |none=>go σ
  |some (g,want)=>match ops[g]? with
   |some og=>match og.dst with
    |some d=>match tl σ.t d with
     |.imm (.v (.bool b))=>lbr (qget σ.q d) b (match want with|true=>go (σ.know d true)|false=>skip (σ.know d true)) (match want with|true=>skip (σ.know d false)|false=>go (σ.know d false))
     |.imm (.tup [])=>skip σ
     |_=>.fail id i
    |none=>.fail id i
   |none=>.fail id i
theorem lops_sound {fz:Nat→Bool}{O:Nat→Orc}{M:Nat→MayT}{ck:Nat→AState→Op→AEff→Bool}{id m:Nat}{ops:List Oper}(hdst:∀o∈ops,∀d,o.dst=some d→d<m){R:Exit→Act→World→Prop}{Λ:Nat→LState→Tree→Prop}{Q:Exit→LState→Prop}{k:Exit→LState→Tree}:
  ∀(l:List Oper)(base i:Nat)(σ:LState)(ι:Nat→Loc)(F:Foot)(a:Act)(w:World),(∀j,l[j]?=ops[i+j]?)→σ.m=m→(lops P fz O M ck id ops base i l σ k).sat Λ Q→Rel (below (base+i)) ι F σ.toA a w→
   (∀e ι' F' σ' a' w',(e=.normal∨∃ch,e=.panic ch)→(k e σ').sat Λ Q→σ'.m=m→Rel (below (base+(i+l.length)+gxs O i l)) ι' F' σ'.toA a' w'→a'.defers=a.defers→Pass ι F σ.toA w ι' F' σ'.toA w'→R e a' w')→
   wpList P ops.toArray R l a w
 |[],base,i,σ,ι,F,a,w,_,hm,h,hR,hq=>hq .normal ι F σ a w (.inl rfl) h hm (by simpa[gxs]using hR) rfl (Pass.refl _ _ _ _)
 |o::l,base,i,σ,ι,F,a,w,hl,hm,h,hR,hq=>by
  have ho:ops[i]?=some o:=by simpa using(hl 0).symm
  have homem:o∈ops:=List.mem_iff_getElem?.2 ⟨i,ho⟩
  have hd:∀d,o.dst=some d→d<σ.toA.m:=fun d hd=>by show d<σ.m;rw[hm];exact hdst o homem d hd
  have hj:¬below (base+i) (base+i):=by unfold below;omega
  have hK:∀x,(below (base+i) x∨x=base+i)→below (base+(i+1)) x:=by intro x hx;unfold below at*;omega
  have hlen:i+1+l.length=i+(o::l).length:=by simp;omega
  have restG:∀(base':Nat)(τ:LState)(ι':Nat→Loc)(F':Foot)(a':Act)(w':World),base'≤base+gx (O i)→(lops P fz O M ck id ops base' (i+1) l τ k).sat Λ Q→τ.m=m→Rel (below (base'+(i+1))) ι' F' τ.toA a' w'→a'.defers=a.defers→
    Pass ι F σ.toA w ι' F' τ.toA w'→wpList P ops.toArray R l a' w':=by
   intro base' τ ι' F' a' w' hb hn hτ h1 h2 h3
   refine lops_sound hdst l base' (i+1) τ ι' F' a' w' (fun j=>by have:=hl (j+1);simpa[Nat.add_assoc,Nat.add_comm 1 j]using this) hτ hn h1 ?_
   intro e ι'' F'' σ'' a'' w'' g0 g1 g2 g3 g4 g5
   refine hq e ι'' F'' σ'' a'' w'' g0 g1 g2 (g3.mono fun x hx=>?_) (g4.trans h2) (h3.trans g5)
   unfold below at*
   simp only[gxs,List.length_cons];omega
  have rest:∀(τ:LState)(ι':Nat→Loc)(F':Foot)(a':Act)(w':World),(lops P fz O M ck id ops base (i+1) l τ k).sat Λ Q→τ.m=m→Rel (fun x=>below (base+i) x∨x=base+i) ι' F' τ.toA a' w'→a'.defers=a.defers→
    Pass ι F σ.toA w ι' F' τ.toA w'→wpList P ops.toArray R l a' w':=fun τ ι' F' a' w' hn hτ h1 h2 h3=>restG base τ ι' F' a' w' (by omega) hn hτ (h1.mono hK) h2 h3
  have stepE:∀(σ1:LState)(E:AEff),σ1.toA=σ.toA→(anext P (fz i) (base+i) σ1.toA (O i) o.op).gives E→(lops P fz O M ck id ops base (i+1) l {σ1.app o.dst E with q:=qset σ1.q o.dst (qval (fz i) (O i) σ1.q o.op)} k).sat Λ Q→
    o.wp P a w (wpList P ops.toArray R l) R:=by
   intro σ1 E he hg hs
   rw[he]at hg
   refine goes_next hR hj hd hg _ _ ?_
   intro ι' F' a' w' h1 h2 h3
   have ht:({σ1.app o.dst E with q:=qset σ1.q o.dst (qval (fz i) (O i) σ1.q o.op)}:LState).toA=σ.toA.app o.dst E:=by
    rw[←he,←LState.app_toA];rfl
   have hmm:σ1.m=m:=by
    have:σ1.toA.m=σ.toA.m:=by rw[he]
    exact this.trans hm
   exact rest _ ι' F' a' w' hs hmm (by rw[ht];exact h1) h2 (by rw[ht];exact h3.pass)
  have go0:∀σ1:LState,σ1.toA=σ.toA→((match bigG (O i)with
   |some (ids,nb,as,bx',new,r)=>(match anextG P (base+i) σ1.toA ids nb as bx' new r o.op with
    |some (p,E)=>.need p (lops P fz O M ck id ops (base+new.length) (i+1) l {σ1.app o.dst E with q:=qset σ1.q o.dst (qval (fz i) (O i) σ1.q o.op)} k)
    |none=>halt σ1 id i o.op)
   |none=>match anext P (fz i) (base+i) σ1.toA (O i) o.op with
    |.ok E=>if ck i σ1.toA o.op E=true then lops P fz O M ck id ops base (i+1) l {σ1.app o.dst E with q:=qset σ1.q o.dst (qval (fz i) (O i) σ1.q o.op)} k else .stop σ1 id i o.op
    |.ask p E=>if ck i σ1.toA o.op E=true then .need p (lops P fz O M ck id ops base (i+1) l {σ1.app o.dst E with q:=qset σ1.q o.dst (qval (fz i) (O i) σ1.q o.op)} k)else .stop σ1 id i o.op
    |.no=>halt σ1 id i o.op):Tree).sat Λ Q→o.wp P a w (wpList P ops.toArray R l) R:=by
   intro σ1 he hs
   split at hs
   ·rename_i ids nb as bx' new r hbig
    split at hs
    ·rename_i p E hE
     obtain⟨hp,hs⟩:=hs
     have hs:=hs hp
     rw[he]at hE
     have hjG:∀q,q<new.length→¬below (base+i) (base+i+q):=by intro q _;unfold below;omega
     refine goes_callG hR hd hjG hE hp _ _ ?_
     intro ι' F' a' w' h1 h2 h3
     have ht:({σ1.app o.dst E with q:=qset σ1.q o.dst (qval (fz i) (O i) σ1.q o.op)}:LState).toA=σ.toA.app o.dst E:=by
      rw[←he,←LState.app_toA];rfl
     have hmm:σ1.m=m:=by
      have:σ1.toA.m=σ.toA.m:=by rw[he]
      exact this.trans hm
     have hgx:gx (O i)=new.length:=by unfold gx;rw[hbig]
     refine restG (base+new.length) _ ι' F' a' w' (by omega) hs hmm ?_ h2 (by rw[ht];exact h3.pass)
     rw[ht]
     exact h1.mono fun x hx=>by unfold below at*;omega
    ·exact(halt_sat hs).elim
   ·split at hs
    ·rename_i E hE
     split at hs
     ·exact stepE σ1 E he (by rw[hE];rfl) hs
     ·exact hs.elim
    ·rename_i p E hE
     split at hs
     ·exact stepE σ1 E he (by rw[hE];exact⟨hs.1,rfl⟩) (hs.2 hs.1)
     ·exact hs.elim
    ·exact(halt_sat hs).elim
  have go:∀σ1:LState,σ1.toA=σ.toA→((match M i with
   |none=>(match o.op with
    |.panic x=>(match σ1.toA.ev x with
     |.imm (.v (.iface t v))=>k (.panic [⟨.iface t v,false,false⟩]) σ1
     |_=>halt σ1 id i o.op)
    |_=>(match bigG (O i)with
   |some (ids,nb,as,bx',new,r)=>(match anextG P (base+i) σ1.toA ids nb as bx' new r o.op with
    |some (p,E)=>.need p (lops P fz O M ck id ops (base+new.length) (i+1) l {σ1.app o.dst E with q:=qset σ1.q o.dst (qval (fz i) (O i) σ1.q o.op)} k)
    |none=>halt σ1 id i o.op)
   |none=>match anext P (fz i) (base+i) σ1.toA (O i) o.op with
    |.ok E=>if ck i σ1.toA o.op E=true then lops P fz O M ck id ops base (i+1) l {σ1.app o.dst E with q:=qset σ1.q o.dst (qval (fz i) (O i) σ1.q o.op)} k else .stop σ1 id i o.op
    |.ask p E=>if ck i σ1.toA o.op E=true then .need p (lops P fz O M ck id ops base (i+1) l {σ1.app o.dst E with q:=qset σ1.q o.dst (qval (fz i) (O i) σ1.q o.op)} k)else .stop σ1 id i o.op
    |.no=>halt σ1 id i o.op:Tree))
   |some (c,ids,nb,as,v)=>.br c (match bigG (O i)with
   |some (ids,nb,as,bx',new,r)=>(match anextG P (base+i) σ1.toA ids nb as bx' new r o.op with
    |some (p,E)=>.need p (lops P fz O M ck id ops (base+new.length) (i+1) l {σ1.app o.dst E with q:=qset σ1.q o.dst (qval (fz i) (O i) σ1.q o.op)} k)
    |none=>halt σ1 id i o.op)
   |none=>match anext P (fz i) (base+i) σ1.toA (O i) o.op with
    |.ok E=>if ck i σ1.toA o.op E=true then lops P fz O M ck id ops base (i+1) l {σ1.app o.dst E with q:=qset σ1.q o.dst (qval (fz i) (O i) σ1.q o.op)} k else .stop σ1 id i o.op
    |.ask p E=>if ck i σ1.toA o.op E=true then .need p (lops P fz O M ck id ops base (i+1) l {σ1.app o.dst E with q:=qset σ1.q o.dst (qval (fz i) (O i) σ1.q o.op)} k)else .stop σ1 id i o.op
    |.no=>halt σ1 id i o.op) (match anextP P σ1.toA ids nb as v o.op with
    |some p=>.need p (k (.panic [⟨v,false,false⟩]) (σ1.sdrop ids))
    |none=>.fail id i):Tree)).sat Λ Q→o.wp P a w (wpList P ops.toArray R l) R:=by
   intro σ1 he hs
   have hR1:Rel (below (base+i)) ι F σ1.toA a w:=by rw[he];exact hR
   have hmm:σ1.m=m:=by
    have:σ1.toA.m=σ.toA.m:=by rw[he]
    exact this.trans hm
   have hKx:∀x,below (base+i) x→below (base+(i+(o::l).length)+gxs O i (o::l)) x:=by intro x hx;unfold below at*;simp only[List.length_cons];omega
   split at hs
   ·split at hs
    ·rename_i x hop
     split at hs
     ·rename_i t v hx
      exact wp_panic hR1 hop hx _ _ (hq _ ι F σ1 a w (.inr ⟨_,rfl⟩) hs hmm (hR1.mono hKx) rfl (by rw[he];exact Pass.refl _ _ _ _))
     ·exact(halt_sat hs).elim
    ·exact go0 σ1 he hs
   ·rename_i c ids nb as v hM
    obtain⟨h1,h2⟩:=hs
    cases c with
    |true=>exact go0 σ1 he (h1 rfl)
    |false=>
     have h2:=h2 rfl
     split at h2
     ·rename_i p hp
      refine wp_callP hR1 hp h2.1 _ _ fun w' g1 g2=>?_
      rw[←LState.sdrop_toA]at g1 g2
      exact hq _ ι F _ a w' (.inr ⟨_,rfl⟩) (h2.2 h2.1) hmm (g1.mono hKx) rfl (by rw[←he];exact g2)
     ·exact h2.elim
  have skip:∀σ1:LState,σ1.toA=σ.toA→(lops P fz O M ck id ops base (i+1) l {σ1.app o.dst skp with q:=qset σ1.q o.dst none} k).sat Λ Q→wpList P ops.toArray R l (a.put o.dst undef) w:=by
   intro σ1 he hs
   have ht:({σ1.app o.dst skp with q:=qset σ1.q o.dst none}:LState).toA=σ.toA.app o.dst skp:=by
    rw[←he,←LState.app_toA];rfl
   have hmm:σ1.m=m:=by
    have:σ1.toA.m=σ.toA.m:=by rw[he]
    exact this.trans hm
   refine rest _ ι F _ w hs hmm ?_ (Act.put_defers _ _ _) ?_
   ·rw[ht]
    exact(hR.put o.dst skp.v undef hd skp_in skp_rep).mono (fun _ h=>.inl h)
   ·rw[ht];exact((Ext.refl (below (base+i)) ι F σ.toA w).app _ _).pass
  unfold lops at h
  simp only at h
  unfold wpList
  cases hg:o.guard with
  |none=>
   rw[hg]at h
   rw[if_pos (by simp[Region.wanted,hg])]
   exact .inl (go σ rfl h)
  |some gw=>
   obtain⟨g,want⟩:=gw
   rw[hg]at h
   simp only at h
   split at h
   ·rename_i og hog
    split at h
    ·rename_i d hdst'
     split at h
     ·rename_i b hb
      have hyb:yielded ops.toArray a.tmps g=some b:=by
       have:=(hR.tmp d).2
       rw[show σ.toA.t d=tl σ.t d from rfl,hb,ARep,IRep]at this
       have hlt:d<a.tmps.size:=by
        rw[hR.size];show d<σ.m;rw[hm];exact hdst og (List.mem_iff_getElem?.2 ⟨g,hog⟩) d hdst'
       have hv:a.tmps[d]?=some (.bool b):=by
        have h1:=this.1
        simp only[Array.getD_eq_getD_getElem?,Array.getElem?_eq_getElem hlt,Option.getD_some]at h1
        rw[Array.getElem?_eq_getElem hlt,h1]
       simp[yielded,hog,hdst',hv]
      have hw:Region.wanted o (yielded ops.toArray a.tmps)=decide (b=want):=by
       simp only[Region.wanted,hg,hyb]
       rw[Bool.eq_iff_iff];simp
      rw[hw]
      obtain⟨h1,h2⟩:=lbr_sat h
      cases b with
      |true=>
       have hk:=LState.know_toA hb
       have h1:=h1 rfl
       cases want with
       |true=>rw[if_pos (by simp)];exact .inl (go _ hk h1)
       |false=>rw[if_neg (by simp)];exact skip _ hk h1
      |false=>
       have hk:=LState.know_toA hb
       have h2:=h2 rfl
       cases want with
       |true=>rw[if_neg (by simp)];exact skip _ hk h2
       |false=>rw[if_pos (by simp)];exact .inl (go _ hk h2)
     ·rename_i hb
      have hyb:yielded ops.toArray a.tmps g=none:=by
       have:=(hR.tmp d).2
       rw[show σ.toA.t d=tl σ.t d from rfl,hb,ARep,IRep]at this
       obtain⟨vs,h1,_⟩:=this
       have hlt:d<a.tmps.size:=by
        rw[hR.size];show d<σ.m;rw[hm];exact hdst og (List.mem_iff_getElem?.2 ⟨g,hog⟩) d hdst'
       have hv:a.tmps[d]?=some (.tuple vs):=by
        simp only[Array.getD_eq_getD_getElem?,Array.getElem?_eq_getElem hlt,Option.getD_some]at h1
        rw[Array.getElem?_eq_getElem hlt,h1]
       simp[yielded,hog,hdst',hv]
      rw[if_neg (by simp[Region.wanted,hg,hyb])]
      exact skip σ rfl h
     ·exact h.elim
    ·exact h.elim
   ·exact h.elim
def Gate (P:Program)(fz:Nat→Bool)(O:Nat→Orc)(ck:Nat→AState→Op→AEff→Bool)(base:Nat)(ops:List Oper)(i:Nat)(o:Oper)(σ:AState)(E:AEff):Prop:=
 match o.guard with
 |none=>(anext P (fz i) (base+i) σ (O i) o.op).gives E∧ck i σ o.op E=true
 |some (g,want)=>(∃b,gval ops σ g=some b∧(b=want→(anext P (fz i) (base+i) σ (O i) o.op).gives E∧ck i σ o.op E=true)∧(b≠want→E=skp))∨(gnil ops σ g∧E=skp)
def Steps (P:Program)(fz:Nat→Bool)(O:Nat→Orc)(ck:Nat→AState→Op→AEff→Bool)(base:Nat)(ops:List Oper):Nat→List Oper→AState→List AEff→AState→Prop
 |_,[],σ,Es,τ=>Es=[]∧τ=σ
 |i,o::rest,σ,Es,τ=>∃E Es',Es=E::Es'∧Gate P fz O ck base ops i o σ E∧Steps P fz O ck base ops (i+1) rest (σ.app o.dst E) Es' τ
theorem lops_path {fz:Nat→Bool}{O:Nat→Orc}{ck:Nat→AState→Op→AEff→Bool}{id base:Nat}{ops:List Oper}{Λ:Nat→LState→Tree→Prop}{Q:Exit→LState→Prop}{k:Exit→LState→Tree}:
  (hG:∀i,bigG (O i)=none)→(hk:∀ch σ,¬(k (.panic ch) σ).sat Λ Q)→∀(l:List Oper)(i:Nat)(σ:LState),(lops P fz O (fun _=>none) ck id ops base i l σ k).sat Λ Q→∃Es σ',Steps P fz O ck base ops i l σ.toA Es σ'.toA∧(k .normal σ').sat Λ Q∧σ'.m=σ.m
 |hG,hk,[],i,σ,h=>⟨[],σ,⟨rfl,rfl⟩,h,rfl⟩
 |hG,hk,o::l,i,σ,h=>by
  have go0:∀σ1:LState,σ1.toA=σ.toA→((match anext P (fz i) (base+i) σ1.toA (O i) o.op with
   |.ok E=>if ck i σ1.toA o.op E=true then lops P fz O (fun _=>none) ck id ops base (i+1) l {σ1.app o.dst E with q:=qset σ1.q o.dst (qval (fz i) (O i) σ1.q o.op)} k else .stop σ1 id i o.op
   |.ask p E=>if ck i σ1.toA o.op E=true then .need p (lops P fz O (fun _=>none) ck id ops base (i+1) l {σ1.app o.dst E with q:=qset σ1.q o.dst (qval (fz i) (O i) σ1.q o.op)} k)else .stop σ1 id i o.op
   |.no=>halt σ1 id i o.op):Tree).sat Λ Q→∃E Es σ',(anext P (fz i) (base+i) σ.toA (O i) o.op).gives E∧ck i σ.toA o.op E=true∧Steps P fz O ck base ops (i+1) l (σ.toA.app o.dst E) Es σ'.toA∧(k .normal σ').sat Λ Q∧σ'.m=σ.m:=by
   intro σ1 he hs
   have fin:∀E,(anext P (fz i) (base+i) σ1.toA (O i) o.op).gives E→ck i σ.toA o.op E=true→(lops P fz O (fun _=>none) ck id ops base (i+1) l {σ1.app o.dst E with q:=qset σ1.q o.dst (qval (fz i) (O i) σ1.q o.op)} k).sat Λ Q→
     ∃E Es σ',(anext P (fz i) (base+i) σ.toA (O i) o.op).gives E∧ck i σ.toA o.op E=true∧Steps P fz O ck base ops (i+1) l (σ.toA.app o.dst E) Es σ'.toA∧(k .normal σ').sat Λ Q∧σ'.m=σ.m:=by
    intro E h1 h2 h3
    obtain⟨Es,σ',g1,g2,g3⟩:=lops_path hG hk l (i+1) _ h3
    have ht:({σ1.app o.dst E with q:=qset σ1.q o.dst (qval (fz i) (O i) σ1.q o.op)}:LState).toA=σ.toA.app o.dst E:=by
     rw[←he,←LState.app_toA];rfl
    rw[ht]at g1
    rw[he]at h1
    have hm:σ1.m=σ.m:=by
     have:σ1.toA.m=σ.toA.m:=by rw[he]
     exact this
    exact⟨E,Es,σ',h1,h2,g1,g2,g3.trans hm⟩
   split at hs
   ·rename_i E hE
    split at hs
    ·rename_i hc;exact fin E (by rw[hE];rfl) (by rw[←he];exact hc) hs
    ·exact hs.elim
   ·rename_i p E hE
    split at hs
    ·rename_i hc;exact fin E (by rw[hE];exact⟨hs.1,rfl⟩) (by rw[←he];exact hc) (hs.2 hs.1)
    ·exact hs.elim
   ·exact(halt_sat hs).elim
  have go:∀σ1:LState,σ1.toA=σ.toA→((match o.op with
    |.panic x=>(match σ1.toA.ev x with
     |.imm (.v (.iface t v))=>k (.panic [⟨.iface t v,false,false⟩]) σ1
     |_=>halt σ1 id i o.op)
    |_=>(match anext P (fz i) (base+i) σ1.toA (O i) o.op with
   |.ok E=>if ck i σ1.toA o.op E=true then lops P fz O (fun _=>none) ck id ops base (i+1) l {σ1.app o.dst E with q:=qset σ1.q o.dst (qval (fz i) (O i) σ1.q o.op)} k else .stop σ1 id i o.op
   |.ask p E=>if ck i σ1.toA o.op E=true then .need p (lops P fz O (fun _=>none) ck id ops base (i+1) l {σ1.app o.dst E with q:=qset σ1.q o.dst (qval (fz i) (O i) σ1.q o.op)} k)else .stop σ1 id i o.op
   |.no=>halt σ1 id i o.op:Tree)):Tree).sat Λ Q→∃E Es σ',(anext P (fz i) (base+i) σ.toA (O i) o.op).gives E∧ck i σ.toA o.op E=true∧Steps P fz O ck base ops (i+1) l (σ.toA.app o.dst E) Es σ'.toA∧(k .normal σ').sat Λ Q∧σ'.m=σ.m:=by
   intro σ1 he hs
   split at hs
   ·split at hs
    ·exact(hk _ _ hs).elim
    ·exact(halt_sat hs).elim
   ·exact go0 σ1 he hs
  have skip:∀σ1:LState,σ1.toA=σ.toA→(lops P fz O (fun _=>none) ck id ops base (i+1) l {σ1.app o.dst skp with q:=qset σ1.q o.dst none} k).sat Λ Q→∃Es σ',Steps P fz O ck base ops (i+1) l (σ.toA.app o.dst skp) Es σ'.toA∧(k .normal σ').sat Λ Q∧σ'.m=σ.m:=by
   intro σ1 he hs
   obtain⟨Es,σ',g1,g2,g3⟩:=lops_path hG hk l (i+1) _ hs
   have ht:({σ1.app o.dst skp with q:=qset σ1.q o.dst none}:LState).toA=σ.toA.app o.dst skp:=by
    rw[←he,←LState.app_toA];rfl
   rw[ht]at g1
   have hm:σ1.m=σ.m:=by
    have:σ1.toA.m=σ.toA.m:=by rw[he]
    exact this
   exact⟨Es,σ',g1,g2,g3.trans hm⟩
  unfold lops at h
  simp only[hG i]at h
  cases hg:o.guard with
  |none=>
   rw[hg]at h
   obtain⟨E,Es,σ',h1,h2,h3,h4,h5⟩:=go σ rfl h
   exact⟨E::Es,σ',⟨E,Es,rfl,by unfold Gate;rw[hg];exact⟨h1,h2⟩,h3⟩,h4,h5⟩
  |some gw=>
   obtain⟨g,want⟩:=gw
   rw[hg]at h
   simp only at h
   split at h
   ·rename_i og hog
    split at h
    ·rename_i d hdst'
     split at h
     ·rename_i b hb
      have hgv:gval ops σ.toA g=some b:=by simp only[gval,hog,hdst'];rw[show σ.toA.t d=tl σ.t d from rfl,hb]
      have hk:=LState.know_toA hb
      obtain⟨h1,h2⟩:=lbr_sat h
      have run:b=want→(∃E Es σ',(anext P (fz i) (base+i) σ.toA (O i) o.op).gives E∧ck i σ.toA o.op E=true∧Steps P fz O ck base ops (i+1) l (σ.toA.app o.dst E) Es σ'.toA∧(k .normal σ').sat Λ Q∧σ'.m=σ.m)→∃Es σ',Steps P fz O ck base ops i (o::l) σ.toA Es σ'.toA∧(k .normal σ').sat Λ Q∧σ'.m=σ.m:=by
       rintro hbw ⟨E,Es,σ',k1,k2,k3,k4,k5⟩
       exact⟨E::Es,σ',⟨E,Es,rfl,by unfold Gate;rw[hg];exact .inl ⟨b,hgv,fun _=>⟨k1,k2⟩,fun hne=>absurd hbw hne⟩,k3⟩,k4,k5⟩
      have pass:b≠want→(∃Es σ',Steps P fz O ck base ops (i+1) l (σ.toA.app o.dst skp) Es σ'.toA∧(k .normal σ').sat Λ Q∧σ'.m=σ.m)→∃Es σ',Steps P fz O ck base ops i (o::l) σ.toA Es σ'.toA∧(k .normal σ').sat Λ Q∧σ'.m=σ.m:=by
       rintro hbw ⟨Es,σ',k3,k4,k5⟩
       exact⟨_::Es,σ',⟨skp,Es,rfl,by unfold Gate;rw[hg];exact .inl ⟨b,hgv,fun h=>absurd h hbw,fun _=>rfl⟩,k3⟩,k4,k5⟩
      cases b with
      |true=>
       have h1:=h1 rfl
       cases want with
       |true=>exact run rfl (go _ hk h1)
       |false=>exact pass (by simp) (skip _ hk h1)
      |false=>
       have h2:=h2 rfl
       cases want with
       |true=>exact pass (by simp) (skip _ hk h2)
       |false=>exact run rfl (go _ hk h2)
     ·rename_i hb
      obtain⟨Es,σ',k3,k4,k5⟩:=skip σ rfl h
      exact⟨_::Es,σ',⟨skp,Es,rfl,by unfold Gate;rw[hg];exact .inr ⟨by simp only[gnil,hog,hdst'];exact hb,rfl⟩,k3⟩,k4,k5⟩
     ·exact h.elim
    ·exact h.elim
   ·exact h.elim
end Go.Abs
