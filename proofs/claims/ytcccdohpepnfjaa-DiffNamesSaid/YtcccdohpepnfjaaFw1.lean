/- Part 1 of the framework: values as data, own memory, and code reckoned whole. No statement is proved here. -/
import Derived.Orders
import Derived.Tactics
import Derived.Below
import Derived.Deep.MidRow
import Derived.Laws.CopyRow
set_option linter.unusedVariables false
set_option linter.unusedSimpArgs false
namespace Go.Abs
open Go.RowKit
inductive IVal where
 |v (x:Value)
 |sl (c f:Bool) (k:Nat) (es:List IVal)
 |agg (cs:List IVal)
 |tup (cs:List IVal)
 |map (ks:List Value) (ds:List IVal)
 deriving Inhabited
structure Loc where
 blk:Nat
 off:Nat
 cap:Nat
 nil:Bool
 z:Option Addr
 deriving Inhabited
inductive AVal where
 |any
 |imm (d:IVal)
 |ptr (id off:Nat)
 |rptr (id k i off:Nat)
 |ref (c:Bool) (d:IVal) (off:Nat)
 |own (id n:Nat)
 |win (id off n:Nat)
 |mp (id:Nat)
 |agg (cs:List AVal)
 |tup (cs:List AVal)
 |fn (f:Nat) (a c:List AVal)
 |ub (c:Bool)
 deriving Inhabited
inductive Entry where
 |box (ty:Nat) (x:AVal)
 |bbox (l0:Loc) (ty:Nat) (x:AVal)
 |row (ty k:Nat) (es:List IVal)
 |brow (l0:Loc) (ty k:Nat) (es:List IVal)
 |map (kvs:List (Value×AVal))
 deriving Inhabited
abbrev Foot :=Bool→Nat→Prop
def flat :Value→Bool
 |.agg _=>false
 |.tuple _=>false
 |_=>true
def ione :IVal→Bool
 |.agg _=>false
 |.tup _=>false
 |_=>true
def Lay (c:Array Value)(off k:Nat):List Value→Prop
 |[]=>True
 |x::xs=>off+k≤c.size∧x.cells.toList=(c.toList.drop off).take k∧Lay c (off+k) k xs
mutual
def IRep (w:World)(F:Foot):IVal→Value→Prop
 |.v x,u=>u=x∧flat x=true
 |.sl c f k es,u=>∃a cap,u=.slice a es.length cap∧(f=true→cap=es.length)∧es.length≤cap∧
   (es≠[]→∃b off cs ty fr vs,a=some ⟨b,off,none⟩∧F c b∧w.heap[b]?=some (.cells cs ty fr)∧IRepL w F es vs∧Lay cs off k vs)
 |.agg ds,u=>∃vs:Array Value,u=.agg vs∧IRepL w F ds vs.toList∧ds.all ione=true
 |.tup ds,u=>∃vs:Array Value,u=.tuple vs∧IRepL w F ds vs.toList
 |.map ks ds,u=>∃b es ck,u=.map (some b)∧F false b∧w.heap[b]?=some (.map es ck)∧es.toList.map (·.key)=ks∧IRepL w F ds (es.toList.map (·.val))
def IRepL (w:World)(F:Foot):List IVal→List Value→Prop
 |[],us=>us=[]
 |d::ds,us=>∃u us',us=u::us'∧IRep w F d u∧IRepL w F ds us'
end
def Loc.val (l:Loc)(n:Nat):Value:=if l.nil then .slice l.z 0 0 else .slice (some ⟨l.blk,l.off,none⟩) n l.cap
mutual
def ARep (w:World)(F:Foot)(ι:Nat→Loc):AVal→Value→Prop
 |.any,_=>True
 |.ub c,u=>∃b,u=.bool b∧(b=true→c=true)
 |.imm d,u=>IRep w F d u
 |.ptr id off,u=>u=.pointer (some ⟨(ι id).blk,off,none⟩)
 |.rptr id k i off,u=>u=.pointer (some ⟨(ι id).blk,(ι id).off+i*k+off,none⟩)
 |.ref c d off,u=>∃b o cs ty fr x,u=.pointer (some ⟨b,o+off,none⟩)∧F c b∧w.heap[b]?=some (.cells cs ty fr)∧IRep w F d x∧o+x.cells.size≤cs.size∧x.cells.toList=(cs.toList.drop o).take x.cells.size
 |.own id n,u=>u=(ι id).val n∧((ι id).nil=true→n=0)
 |.win id off n,u=>∃cap,u=.slice (some ⟨(ι id).blk,off,none⟩) n cap∧n≤cap
 |.mp id,u=>u=.map (some (ι id).blk)
 |.agg ds,u=>∃vs:Array Value,u=.agg vs∧ARepL w F ι ds vs.toList
 |.tup ds,u=>∃vs:Array Value,u=.tuple vs∧ARepL w F ι ds vs.toList
 |.fn f a c,u=>∃va vc:Array Value,u=.func (.func f) va vc∧ARepL w F ι a va.toList∧ARepL w F ι c vc.toList
def ARepL (w:World)(F:Foot)(ι:Nat→Loc):List AVal→List Value→Prop
 |[],us=>us=[]
 |d::ds,us=>∃u us',us=u::us'∧ARep w F ι d u∧ARepL w F ι ds us'
end
mutual
def AIn (K:Nat→Prop):AVal→Prop
 |.any=>True
 |.ub _=>True
 |.imm _=>True
 |.ptr id _=>K id
 |.rptr id _ _ _=>K id
 |.ref _ _ _=>True
 |.own id _=>K id
 |.win id _ _=>K id
 |.mp id=>K id
 |.agg ds=>AInL K ds
 |.tup ds=>AInL K ds
 |.fn _ a c=>AInL K a∧AInL K c
def AInL (K:Nat→Prop):List AVal→Prop
 |[]=>True
 |d::ds=>AIn K d∧AInL K ds
end
def Keeps (F:Foot)(w w':World):Prop:=∀c b,F c b→w'.heap[b]?=w.heap[b]?
mutual
theorem IRep.keep {w w':World}{F F':Foot}(hk:Keeps F w w')(hF:∀c b,F c b→F' c b):∀(d:IVal)(u:Value),IRep w F d u→IRep w' F' d u
 |.v _,_,h=>by rw[IRep]at*;exact h
 |.sl c f k es,u,h=>by
  rw[IRep]at*
  obtain⟨a,cap,h1,h2,h3,h4⟩:=h
  refine⟨a,cap,h1,h2,h3,fun hne=>?_⟩
  obtain⟨b,off,cs,ty,fr,vs,e1,e2,e3,e4,e5⟩:=h4 hne
  exact⟨b,off,cs,ty,fr,vs,e1,hF _ _ e2,by rw[hk _ _ e2];exact e3,IRepL.keep hk hF es vs e4,e5⟩
 |.agg ds,u,h=>by
  rw[IRep]at*
  obtain⟨vs,h1,h2,h3⟩:=h
  exact⟨vs,h1,IRepL.keep hk hF ds _ h2,h3⟩
 |.tup ds,u,h=>by
  rw[IRep]at*
  obtain⟨vs,h1,h2⟩:=h
  exact⟨vs,h1,IRepL.keep hk hF ds _ h2⟩
 |.map ks ds,u,h=>by
  rw[IRep]at*
  obtain⟨b,es,ck,h1,h2,h3,h4,h5⟩:=h
  exact⟨b,es,ck,h1,hF _ _ h2,by rw[hk _ _ h2];exact h3,h4,IRepL.keep hk hF ds _ h5⟩
theorem IRepL.keep {w w':World}{F F':Foot}(hk:Keeps F w w')(hF:∀c b,F c b→F' c b):∀(ds:List IVal)(us:List Value),IRepL w F ds us→IRepL w' F' ds us
 |[],us,h=>by rw[IRepL]at*;exact h
 |d::ds,us,h=>by
  rw[IRepL]at*
  obtain⟨u,us',h1,h2,h3⟩:=h
  exact⟨u,us',h1,IRep.keep hk hF d u h2,IRepL.keep hk hF ds us' h3⟩
end
mutual
theorem ARep.keep {w w':World}{F F':Foot}{ι ι':Nat→Loc}{K:Nat→Prop}(hk:Keeps F w w')(hF:∀c b,F c b→F' c b)(hι:∀id,K id→ι' id=ι id):
  ∀(d:AVal)(u:Value),AIn K d→ARep w F ι d u→ARep w' F' ι' d u
 |.any,_,_,_=>by rw[ARep];trivial
 |.ub _,_,_,h=>by rw[ARep]at*;exact h
 |.imm d,u,_,h=>by rw[ARep]at*;exact IRep.keep hk hF d u h
 |.ptr id off,u,hK,h=>by rw[ARep]at*;rw[AIn]at hK;rw[hι id hK];exact h
 |.rptr id k i off,u,hK,h=>by rw[ARep]at*;rw[AIn]at hK;rw[hι id hK];exact h
 |.ref c d off,u,_,h=>by
  rw[ARep]at*
  obtain⟨b,o,cs,ty,fr,x,e1,e2,e3,e4,e5⟩:=h
  exact⟨b,o,cs,ty,fr,x,e1,hF _ _ e2,by rw[hk _ _ e2];exact e3,IRep.keep hk hF d _ e4,e5⟩
 |.own id n,u,hK,h=>by rw[ARep]at*;rw[AIn]at hK;rw[hι id hK];exact h
 |.win id off n,u,hK,h=>by rw[ARep]at*;rw[AIn]at hK;rw[hι id hK];exact h
 |.mp id,u,hK,h=>by rw[ARep]at*;rw[AIn]at hK;rw[hι id hK];exact h
 |.agg ds,u,hK,h=>by
  rw[ARep]at*;rw[AIn]at hK
  obtain⟨vs,h1,h2⟩:=h
  exact⟨vs,h1,ARepL.keep hk hF hι ds _ hK h2⟩
 |.tup ds,u,hK,h=>by
  rw[ARep]at*;rw[AIn]at hK
  obtain⟨vs,h1,h2⟩:=h
  exact⟨vs,h1,ARepL.keep hk hF hι ds _ hK h2⟩
 |.fn f a c,u,hK,h=>by
  rw[ARep]at*;rw[AIn]at hK
  obtain⟨va,vc,h1,h2,h3⟩:=h
  exact⟨va,vc,h1,ARepL.keep hk hF hι a _ hK.1 h2,ARepL.keep hk hF hι c _ hK.2 h3⟩
theorem ARepL.keep {w w':World}{F F':Foot}{ι ι':Nat→Loc}{K:Nat→Prop}(hk:Keeps F w w')(hF:∀c b,F c b→F' c b)(hι:∀id,K id→ι' id=ι id):
  ∀(ds:List AVal)(us:List Value),AInL K ds→ARepL w F ι ds us→ARepL w' F' ι' ds us
 |[],us,_,h=>by rw[ARepL]at*;exact h
 |d::ds,us,hK,h=>by
  rw[ARepL]at*;rw[AInL]at hK
  obtain⟨u,us',h1,h2,h3⟩:=h
  exact⟨u,us',h1,ARep.keep hk hF hι d u hK.1 h2,ARepL.keep hk hF hι ds us' hK.2 h3⟩
end
mutual
theorem AIn.mono {K K':Nat→Prop}(h:∀i,K i→K' i):∀d:AVal,AIn K d→AIn K' d
 |.any,_=>by rw[AIn];trivial
 |.ub _,_=>by rw[AIn];trivial
 |.imm _,_=>by rw[AIn];trivial
 |.ptr _ _,hd=>by rw[AIn]at*;exact h _ hd
 |.rptr _ _ _ _,hd=>by rw[AIn]at*;exact h _ hd
 |.ref _ _ _,_=>by rw[AIn];trivial
 |.own _ _,hd=>by rw[AIn]at*;exact h _ hd
 |.win _ _ _,hd=>by rw[AIn]at*;exact h _ hd
 |.mp _,hd=>by rw[AIn]at*;exact h _ hd
 |.agg ds,hd=>by rw[AIn]at*;exact AInL.mono h ds hd
 |.tup ds,hd=>by rw[AIn]at*;exact AInL.mono h ds hd
 |.fn _ a c,hd=>by rw[AIn]at*;exact⟨AInL.mono h a hd.1,AInL.mono h c hd.2⟩
theorem AInL.mono {K K':Nat→Prop}(h:∀i,K i→K' i):∀ds:List AVal,AInL K ds→AInL K' ds
 |[],_=>by rw[AInL];trivial
 |d::ds,hd=>by rw[AInL]at*;exact⟨AIn.mono h d hd.1,AInL.mono h ds hd.2⟩
end
def ERep (w:World)(F:Foot)(ι:Nat→Loc)(l:Loc):Entry→Prop
 |.box ty x=>l.nil=false∧∃u:Value,w.heap[l.blk]?=some (.cells u.cells ty (0,0))∧ARep w F ι x u
 |.bbox l0 ty x=>l=l0∧l.nil=false∧∃u:Value,w.heap[l.blk]?=some (.cells u.cells ty (0,0))∧ARep w F ι x u
 |.row ty k es=>(l.nil=true∧es=[])∨(l.nil=false∧∃(c:Array Value)(fr:Nat×Nat)(vs:List Value),w.heap[l.blk]?=some (.cells c ty fr)∧
   (∀j,j<c.size→¬(fr.1≤j∧j<fr.2))∧l.off+l.cap*k≤c.size∧es.length≤l.cap∧IRepL w F es vs∧Lay c l.off k vs)
 |.brow l0 ty k es=>l=l0∧((l.nil=true∧es=[])∨(l.nil=false∧∃(c:Array Value)(fr:Nat×Nat)(vs:List Value),w.heap[l.blk]?=some (.cells c ty fr)∧
   (∀j,j<c.size→¬(fr.1≤j∧j<fr.2))∧l.off+l.cap*k≤c.size∧es.length≤l.cap∧IRepL w F es vs∧Lay c l.off k vs))
 |.map kvs=>l.nil=false∧∃(es:Array MapEntry)(ck:Nat),w.heap[l.blk]?=some (.map es ck)∧es.toList.map (·.key)=kvs.map (·.1)∧ARepL w F ι (kvs.map (·.2)) (es.toList.map (·.val))
def EIn (K:Nat→Prop):Entry→Prop
 |.box _ x=>AIn K x
 |.bbox _ _ x=>AIn K x
 |.row _ _ _=>True
 |.brow _ _ _ _=>True
 |.map kvs=>AInL K (kvs.map (·.2))
def rowOf :Option Entry→Option (Nat×Nat×List IVal)
 |some (.row ty k es)=>some (ty,k,es)
 |some (.brow _ ty k es)=>some (ty,k,es)
 |_=>none
def putE (es:List IVal):Entry→Entry
 |.row ty k _=>.row ty k es
 |.brow l ty k _=>.brow l ty k es
 |e=>e
def putO (es:List IVal):Option Entry→Entry
 |some e=>putE es e
 |none=>.row 0 0 []
def boxOf :Option Entry→Option (Nat×AVal)
 |some (.box ty x)=>some (ty,x)
 |some (.bbox _ ty x)=>some (ty,x)
 |_=>none
def putB (x:AVal):Option Entry→Entry
 |some (.bbox l ty _)=>.bbox l ty x
 |some (.box ty _)=>.box ty x
 |_=>.box 0 x
theorem boxOf_some {y:Option Entry}{ty:Nat}{x:AVal}(h:boxOf y=some (ty,x)):∃e,y=some e∧
  (∀(w:World)(F:Foot)(ι:Nat→Loc)(l:Loc),ERep w F ι l e→l.nil=false∧∃u:Value,w.heap[l.blk]?=some (.cells u.cells ty (0,0))∧ARep w F ι x u)∧
  (∀(w w':World)(F F':Foot)(ι ι':Nat→Loc)(l:Loc)(x':AVal),ERep w F ι l e→(∃u:Value,w'.heap[l.blk]?=some (.cells u.cells ty (0,0))∧ARep w' F' ι' x' u)→ERep w' F' ι' l (putB x' y))∧
  (∀(K:Nat→Prop),EIn K e→AIn K x)∧(∀(K:Nat→Prop)(x':AVal),AIn K x'→EIn K (putB x' y)):=by
 unfold boxOf at h
 split at h
 ·simp only[Option.some.injEq,Prod.mk.injEq]at h;obtain⟨rfl,rfl⟩:=h
  exact⟨_,rfl,fun w F ι l h=>h,fun w w' F F' ι ι' l x' h0 h=>⟨h0.1,h⟩,fun K h=>h,fun K x' h=>h⟩
 ·simp only[Option.some.injEq,Prod.mk.injEq]at h;obtain⟨rfl,rfl⟩:=h
  exact⟨_,rfl,fun w F ι l h=>h.2,fun w w' F F' ι ι' l x' h0 h=>⟨h0.1,h0.2.1,h⟩,fun K h=>h,fun K x' h=>h⟩
 ·cases h
def RowRep (w:World)(F:Foot)(l:Loc)(ty k:Nat)(es:List IVal):Prop:=
 (l.nil=true∧es=[])∨(l.nil=false∧∃(c:Array Value)(fr:Nat×Nat)(vs:List Value),w.heap[l.blk]?=some (.cells c ty fr)∧
   (∀j,j<c.size→¬(fr.1≤j∧j<fr.2))∧l.off+l.cap*k≤c.size∧es.length≤l.cap∧IRepL w F es vs∧Lay c l.off k vs)
theorem rowOf_some {x:Option Entry}{ty k:Nat}{es:List IVal}(h:rowOf x=some (ty,k,es)):∃e,x=some e∧(∀(w:World)(F:Foot)(ι:Nat→Loc)(l:Loc),ERep w F ι l e→RowRep w F l ty k es)∧
  (∀(w w':World)(F F':Foot)(ι:Nat→Loc)(l:Loc)(es':List IVal),ERep w F ι l e→RowRep w' F' l ty k es'→ERep w' F' ι l (putE es' e))∧(∀(K:Nat→Prop)(es':List IVal),EIn K (putE es' e)):=by
 unfold rowOf at h
 split at h
 ·simp only[Option.some.injEq,Prod.mk.injEq]at h;obtain⟨rfl,rfl,rfl⟩:=h
  exact⟨_,rfl,fun w F ι l h=>h,fun w w' F F' ι l es' _ h=>h,fun _ _=>trivial⟩
 ·simp only[Option.some.injEq,Prod.mk.injEq]at h;obtain⟨rfl,rfl,rfl⟩:=h
  exact⟨_,rfl,fun w F ι l h=>h.2,fun w w' F F' ι l es' h0 h=>⟨h0.1,h⟩,fun _ _=>trivial⟩
 ·cases h
theorem EIn.mono {K K':Nat→Prop}(h:∀i,K i→K' i):∀e:Entry,EIn K e→EIn K' e
 |.box _ x,hd=>AIn.mono h x hd
 |.bbox _ _ x,hd=>AIn.mono h x hd
 |.row _ _ _,_=>trivial
 |.brow _ _ _ _,_=>trivial
 |.map kvs,hd=>AInL.mono h _ hd
structure AState where
 t:Nat→AVal
 s:Nat→Option Entry
 m:Nat
 n:Nat
def Owned (ι:Nat→Loc)(σ:AState)(b:Nat):Prop:=∃id e,σ.s id=some e∧(ι id).nil=false∧(ι id).blk=b
structure Rel (K:Nat→Prop)(ι:Nat→Loc)(F:Foot)(σ:AState)(a:Act)(w:World):Prop where
 size:a.tmps.size=σ.m
 tmp:∀i,AIn K (σ.t i)∧ARep w F ι (σ.t i) (a.tmps.getD i undef)
 ent:∀id e,σ.s id=some e→K id∧EIn K e∧ERep w F ι (ι id) e
 off:∀b,Owned ι σ b→∀c,¬F c b
 sep:∀i j ei ej,σ.s i=some ei→σ.s j=some ej→(ι i).nil=false→(ι j).nil=false→(ι i).blk=(ι j).blk→i=j
 foot:∀c b,F c b→b<w.heap.size
 col:∀b,F true b→F false b
structure Ext (K:Nat→Prop)(ι:Nat→Loc)(F:Foot)(σ:AState)(w:World)(K':Nat→Prop)(ι':Nat→Loc)(F':Foot)(σ':AState)(w':World):Prop where
 os:w'.os=w.os
 tape:w'.tape=w.tape
 output:w'.output=w.output
 size:w.heap.size≤w'.heap.size
 frame:∀b,b<w.heap.size→¬Owned ι σ b→w'.heap[b]?=w.heap[b]?
 own:∀b,Owned ι' σ' b→Owned ι σ b∨w.heap.size≤b
 mono:∀c b,F c b→F' c b
 src:∀c b,F' c b→F c b∨w.heap.size≤b∨Owned ι σ b
 env:∀id,K id→ι' id=ι id
 names:∀id,K id→K' id
theorem Ext.refl (K:Nat→Prop)(ι:Nat→Loc)(F:Foot)(σ:AState)(w:World):Ext K ι F σ w K ι F σ w:=
 ⟨rfl,rfl,rfl,Nat.le_refl _,fun _ _ _=>rfl,fun _ h=>.inl h,fun _ _ h=>h,fun _ _ h=>.inl h,fun _ _=>rfl,fun _ h=>h⟩
theorem Ext.trans {K K' K'':Nat→Prop}{ι ι' ι'':Nat→Loc}{F F' F'':Foot}{σ σ' σ'':AState}{w w' w'':World}
  (h:Ext K ι F σ w K' ι' F' σ' w')(h':Ext K' ι' F' σ' w' K'' ι'' F'' σ'' w''):Ext K ι F σ w K'' ι'' F'' σ'' w'' where
 os:=h'.os.trans h.os
 tape:=h'.tape.trans h.tape
 output:=h'.output.trans h.output
 size:=Nat.le_trans h.size h'.size
 frame b hb ho:=by
  rw[h'.frame b (Nat.lt_of_lt_of_le hb h.size) (fun hc=>(h.own b hc).elim ho (fun hge=>by omega)),h.frame b hb ho]
 own b hb:=by
  rcases h'.own b hb with h1|h1
  ·exact h.own b h1
  ·exact .inr (Nat.le_trans h.size h1)
 mono c b hb:=h'.mono c b (h.mono c b hb)
 src c b hb:=by
  rcases h'.src c b hb with h1|h1|h1
  ·exact h.src c b h1
  ·exact .inr (.inl (Nat.le_trans h.size h1))
  ·rcases h.own b h1 with h2|h2
   ·exact .inr (.inr h2)
   ·exact .inr (.inl h2)
 env id hid:=(h'.env id (h.names id hid)).trans (h.env id hid)
 names id hid:=h'.names id (h.names id hid)
def put (t:Nat→AVal)(d:Option Nat)(x:AVal):Nat→AVal:=fun i=>if d=some i then x else t i
def ups (s:Nat→Option Entry):List (Nat×Option Entry)→Nat→Option Entry
 |[]=>s
 |(id,e)::l=>ups (fun i=>if i=id then e else s i) l
structure AEff where
 v:AVal
 s:List (Nat×Option Entry)
def AState.app (σ:AState)(d:Option Nat)(E:AEff):AState:={σ with t:=put σ.t d E.v,s:=ups σ.s E.s}
theorem put_none (t:Nat→AVal)(x:AVal):put t none x=t:=by funext i;simp[put]
theorem put_some (t:Nat→AVal)(d:Nat)(x:AVal)(i:Nat):put t (some d) x i=if i=d then x else t i:=by
 simp only[put,Option.some.injEq]
 by_cases h:d=i
 ·rw[if_pos h,if_pos h.symm]
 ·rw[if_neg h,if_neg (fun e=>h e.symm)]
def tl :List (Nat×AVal)→Nat→AVal
 |[],_=>.any
 |(d,x)::l,i=>if i=d then x else tl l i
def sl :List (Nat×Entry)→Nat→Option Entry
 |[],_=>none
 |(d,x)::l,i=>if i=d then some x else sl l i
end Go.Abs
namespace Go.Abs
open Go.RowKit
variable {P:Program}
def mkV (ag:Bool)(l:List Value):Value:=if ag then .agg l.toArray else l.headD undef
def tld (P:Program)(t:TypeId):Option (Bool×Nat):=
 match P.underlying t,P.info? t with
 |some d,some i=>some (d.isRow,i.size)
 |_,_=>none
theorem tld_spec {t:TypeId}{ag:Bool}{k:Nat}(h:tld P t=some (ag,k)):∃d i,P.underlying t=some d∧P.info? t=some i∧d.isRow=ag∧i.size=k:=by
 unfold tld at h
 split at h
 ·rename_i d i h1 h2
  simp only[Option.some.injEq,Prod.mk.injEq]at h
  exact⟨d,i,h1,h2,h.1,h.2⟩
 ·cases h
theorem run_isAgg {t:TypeId}{ag:Bool}{k:Nat}(h:tld P t=some (ag,k))(w:World):(isAgg t).run P w=.ok ag w:=by
 obtain⟨d,i,h1,h2,h3,h4⟩:=tld_spec h
 unfold isAgg
 rw[Sem.run_bind,run_underlying h1 w]
 cases d<;>simp_all[TypeDesc.isRow]
theorem run_sizeOf {t:TypeId}{ag:Bool}{k:Nat}(h:tld P t=some (ag,k))(w:World):(sizeOf t).run P w=.ok k w:=by
 obtain⟨d,i,h1,h2,h3,h4⟩:=tld_spec h
 simp[sizeOf,typeInfo,h2,h4]
theorem rangeAt_of {w:World}{b off k ty:Nat}{c:Array Value}{fr:Nat×Nat}(hb:w.heap[b]?=some (.cells c ty fr)):w.rangeAt b off ((c.toList.drop off).take k):=by
 intro j v hj
 rw[cell_of_row w b (off+j) c ty fr hb]
 rw[List.getElem?_take]at hj
 split at hj
 ·rw[List.getElem?_drop]at hj;simpa using hj
 ·cases hj
theorem run_load {w:World}{t b off k ty:Nat}{ag:Bool}{c:Array Value}{fr:Nat×Nat}(h:tld P t=some (ag,k))(hb:w.heap[b]?=some (.cells c ty fr))(hk:off+k≤c.size)(h1:ag=false→k=1):
  (loadVar t ⟨b,off,none⟩).run P w=.ok (mkV ag ((c.toList.drop off).take k)) w:=by
 obtain⟨d,i,hd,hi,hr,hs⟩:=tld_spec h
 cases ag with
 |true=>
  have hl:((c.toList.drop off).take k).length=k:=by simp;omega
  rw[run_loadVar_mid w b off t _ d (rangeAt_of hb) hd hr (by rw[hi,hl];simp[hs])]
  rfl
 |false=>
  obtain rfl:=h1 rfl
  have hlt:off<c.size:=by omega
  have hc:w.cell? ⟨b,off,none⟩=some c[off]:=by rw[cell_of_row w b off c ty fr hb];simp[hlt]
  have he:(c.toList.drop off).take 1=[c[off]]:=by
   rw[List.drop_eq_getElem_cons (by simpa using hlt)];simp
  rw[he]
  simp[loadVar,run_isAgg h,hc,mkV]
theorem run_stores (g o:Nat)(t:TypeId)(fr:Nat×Nat):∀(vs:List Value)(i:Nat)(cur:Array Value)(w:World),w.heap[g]?=some (.cells cur t fr)→(∀j,j<cur.size→¬(fr.1≤j∧j<fr.2))→o+i+vs.length≤cur.size→(∀v∈vs,v.oneCell'=true)→
  (storeCells ⟨g,o,none⟩ vs i).run P w=.ok () (w.setRow g (cur.toList.take (o+i)++vs++cur.toList.drop (o+i+vs.length)).toArray)
 |[],i,cur,w,hg,_,_,_=>by
  simp only[storeCells,List.append_nil,List.length_nil,Nat.add_zero,List.take_append_drop,Array.toArray_toList]
  rw[setRow_self w g cur t fr hg]
  rfl
 |v::rest,i,cur,w,hg,hz,hl,h1=>by
  have hi:o+i<cur.size:=by simp at hl;omega
  have hadd:(⟨g,o,none⟩:Addr).add i=⟨g,o+i,none⟩:=by unfold Addr.add;split<;>simp_all
  have hcell:w.cell? ⟨g,o+i,none⟩=some cur[o+i]:=by simp[World.cell?,hg,hi]
  have hfro:w.frozen? ⟨g,o+i,none⟩=false:=by
   have:=hz (o+i) hi
   obtain⟨lo,hh⟩:=fr
   simp only[World.frozen?,hg]
   simpa using this
  have hst:(store ((⟨g,o,none⟩:Addr).add i) v).run P w=.ok () (w.setRow g (cur.setIfInBounds (o+i) v)):=by
   rw[hadd,run_store P w _ v _ (h1 v (by simp)),hcell]
   simp[hfro,setCell_eq_setRow w g (o+i) cur t fr v hg]
  have ih:=run_stores g o t fr rest (i+1) (cur.setIfInBounds (o+i) v) (w.setRow g (cur.setIfInBounds (o+i) v)) (setRow_heap w g cur _ t _ hg) (by simpa using hz) (by simp at hl⊢;omega) (fun x hx=>h1 x (by simp[hx]))
  simp only[storeCells,Sem.run_bind,hst,Result.andThen_ok,ih,setRow_setRow]
  congr 3
  have e:=list_seg_step cur.toList (o+i) v rest (by simp at hl⊢;omega)
  simpa[Array.toList_setIfInBounds,Nat.add_assoc]using e
theorem run_storeVar {w:World}{t b off k ty:Nat}{ag:Bool}{c:Array Value}{fr:Nat×Nat}{u:Value}(h:tld P t=some (ag,k))(hb:w.heap[b]?=some (.cells c ty fr))(hz:∀j,j<c.size→¬(fr.1≤j∧j<fr.2))
  (hk:off+k≤c.size)(hu:u.cells.size=k)(h1:∀v∈u.cells.toList,v.oneCell'=true):
  (storeVar t ⟨b,off,none⟩ u).run P w=.ok () (w.setRow b (c.toList.take off++u.cells.toList++c.toList.drop (off+k)).toArray):=by
 have:=run_stores (P:=P) b off ty fr u.cells.toList 0 c w hb hz (by simp;omega) h1
 simp only[Nat.add_zero,Array.length_toList,hu]at this
 simp[storeVar,run_sizeOf h,hu,this]
section
variable {K K':Nat→Prop} {ι ι':Nat→Loc} {F F':Foot} {σ σ':AState} {a a':Act} {w w':World}
theorem Rel.put (h:Rel K ι F σ a w)(d:Option Nat)(x:AVal)(u:Value)(hd:∀i,d=some i→i<σ.m)(hx:AIn K x)(hr:ARep w F ι x u):
  Rel K ι F (σ.app d ⟨x,[]⟩) (a.put d u) w where
 size:=by cases d<;>simp[Act.put,AState.app,h.size]
 tmp i:=by
  cases d with
  |none=>simpa[Act.put,AState.app,put_none]using h.tmp i
  |some d=>
   simp only[AState.app,put_some]
   by_cases e:i=d
   ·subst e
    have hlt:i<a.tmps.size:=by rw[h.size];exact hd i rfl
    rw[if_pos rfl]
    refine⟨hx,?_⟩
    simpa[Act.put,hlt]using hr
   ·rw[if_neg e]
    have hne:d≠i:=fun e'=>e e'.symm
    have:=h.tmp i
    simpa[Act.put,Array.getElem?_setIfInBounds_ne hne]using this
 ent:=h.ent
 off:=h.off
 sep:=h.sep
 foot:=h.foot
 col:=h.col
theorem ERep.keep (hk:Keeps F w w')(hF:∀c b,F c b→F' c b)(hι:∀id,K id→ι' id=ι id){l:Loc}(hb:l.nil=false→w'.heap[l.blk]?=w.heap[l.blk]?):∀(e:Entry),EIn K e→ERep w F ι l e→ERep w' F' ι' l e
 |.box ty x,hK,h=>by
  obtain⟨h0,u,h1,h2⟩:=h
  exact⟨h0,u,by rw[hb h0];exact h1,ARep.keep hk hF hι x _ hK h2⟩
 |.bbox l0 ty x,hK,h=>by
  obtain⟨rfl,h0,u,h1,h2⟩:=h
  exact⟨rfl,h0,u,by rw[hb h0];exact h1,ARep.keep hk hF hι x _ hK h2⟩
 |.row ty k es,_,h=>by
  rcases h with h|⟨h0,c,fr,vs,h1,h2,h3,h4,h5,h6⟩
  ·exact .inl h
  ·exact .inr ⟨h0,c,fr,vs,by rw[hb h0];exact h1,h2,h3,h4,IRepL.keep hk hF es vs h5,h6⟩
 |.brow l0 ty k es,_,h=>by
  obtain⟨rfl,h⟩:=h
  rcases h with h|⟨h0,c,fr,vs,h1,h2,h3,h4,h5,h6⟩
  ·exact⟨rfl,.inl h⟩
  ·exact⟨rfl,.inr ⟨h0,c,fr,vs,by rw[hb h0];exact h1,h2,h3,h4,IRepL.keep hk hF es vs h5,h6⟩⟩
 |.map kvs,hK,h=>by
  obtain⟨h0,es,ck,h1,h2,h3⟩:=h
  exact⟨h0,es,ck,by rw[hb h0];exact h1,h2,ARepL.keep hk hF hι _ _ hK h3⟩
theorem ERep.lt {l:Loc}:∀{e:Entry},ERep w F ι l e→l.nil=false→l.blk<w.heap.size
 |.box ty cs,⟨_,c,h1,_⟩,_=>(Array.getElem?_eq_some_iff.1 h1).1
 |.bbox _ ty cs,⟨_,_,c,h1,_⟩,_=>(Array.getElem?_eq_some_iff.1 h1).1
 |.row ty k es,h,hn=>by
  rcases h with h|⟨_,c,fr,vs,h1,_⟩
  ·rw[h.1]at hn;cases hn
  ·exact(Array.getElem?_eq_some_iff.1 h1).1
 |.brow l0 ty k es,h,hn=>by
  rcases h.2 with h|⟨_,c,fr,vs,h1,_⟩
  ·rw[h.1]at hn;cases hn
  ·exact(Array.getElem?_eq_some_iff.1 h1).1
 |.map kvs,⟨_,es,ck,h1,_⟩,_=>(Array.getElem?_eq_some_iff.1 h1).1
theorem Rel.owned_lt (h:Rel K ι F σ a w){b:Nat}(hb:Owned ι σ b):b<w.heap.size:=by
 obtain⟨id,e,h1,h2,rfl⟩:=hb
 exact(h.ent id e h1).2.2.lt h2
theorem Rel.alloc (h:Rel K ι F σ a w)(j:Nat)(hj:¬K j)(o:Obj)(l:Loc)(hl:l.nil=false→l.blk=w.heap.size)(e:Entry)
  (hin:EIn (fun i=>K i∨i=j) e)(he:ERep (w.alloc o) F (fun i=>if i=j then l else ι i) l e):
  Rel (fun i=>K i∨i=j) (fun i=>if i=j then l else ι i) F {σ with s:=ups σ.s [(j,some e)]} a (w.alloc o)∧
  Ext K ι F σ w (fun i=>K i∨i=j) (fun i=>if i=j then l else ι i) F {σ with s:=ups σ.s [(j,some e)]} (w.alloc o):=by
 have hold:∀b,b<w.heap.size→(w.alloc o).heap[b]?=w.heap[b]?:=fun b hb=>heap_alloc_old w o b hb
 have hkeep:Keeps F w (w.alloc o):=fun c b hb=>hold b (h.foot c b hb)
 have henv:∀id,K id→(fun i=>if i=j then l else ι i) id=ι id:=fun id hid=>by
  show (if id=j then l else ι id)=ι id
  rw[if_neg (fun ee:id=j=>hj (by rw[←ee];exact hid))]
 have hown:∀b,Owned (fun i=>if i=j then l else ι i) {σ with s:=ups σ.s [(j,some e)]} b→Owned ι σ b∨b=w.heap.size:=by
  rintro b ⟨id,x,h1,h2,h3⟩
  by_cases hid:id=j
  ·subst hid
   simp only[if_true]at h2 h3
   exact .inr (by rw[←h3,hl h2])
  ·simp only[ups,if_neg hid]at h1 h2 h3
   exact .inl ⟨id,x,h1,h2,h3⟩
 refine⟨⟨h.size,fun i=>?_,fun id x hx=>?_,fun b hb c hc=>?_,?_,fun c b hb=>?_,h.col⟩,⟨rfl,rfl,rfl,by simp,fun b hb _=>hold b hb,fun b hb=>?_,fun _ _ hb=>hb,fun _ _ hb=>.inl hb,henv,fun _ hid=>.inl hid⟩⟩
 ·exact⟨AIn.mono (fun _ hi=>.inl hi) _ (h.tmp i).1,ARep.keep hkeep (fun _ _ hb=>hb) henv _ _ (h.tmp i).1 (h.tmp i).2⟩
 ·by_cases hid:id=j
  ·subst hid
   simp only[ups,if_true,Option.some.injEq]at hx
   subst hx
   exact⟨.inr rfl,hin,by simpa using he⟩
  ·simp only[ups,if_neg hid]at hx
   obtain⟨h1,h2,h3⟩:=h.ent id x hx
   refine⟨.inl h1,EIn.mono (fun _ hi=>.inl hi) _ h2,?_⟩
   simp only[if_neg hid]
   exact ERep.keep hkeep (fun _ _ hb=>hb) henv (fun hn=>hold _ (h3.lt hn)) x h2 h3
 ·rcases hown b hb with h1|h1
  ·exact h.off b h1 c hc
  ·have:=h.foot c b hc;omega
 ·intro i k ei ek hi hk hni hnk heq
  by_cases h1:i=j
  ·by_cases h2:k=j
   ·rw[h1,h2]
   ·subst h1
    simp only[ups,if_true,if_neg h2]at hi hk hni hnk heq
    have:=(h.ent k ek hk).2.2.lt hnk
    rw[←heq,hl hni]at this
    omega
  ·by_cases h2:k=j
   ·subst h2
    simp only[ups,if_true,if_neg h1]at hi hk hni hnk heq
    have:=(h.ent i ei hi).2.2.lt hni
    rw[heq,hl hnk]at this
    omega
   ·simp only[ups,if_neg h1,if_neg h2]at hi hk hni hnk heq
    exact h.sep i k ei ek hi hk hni hnk heq
 ·have:=h.foot c b hb;simp;omega
 ·rcases hown b hb with h1|h1
  ·exact .inl h1
  ·exact .inr (by omega)
theorem Rel.nameZ (h:Rel K ι F σ a w)(j:Nat)(hj:¬K j)(ty k:Nat)(z:Option Addr):
  Rel (fun i=>K i∨i=j) (fun i=>if i=j then⟨0,0,0,true,z⟩else ι i) F {σ with s:=ups σ.s [(j,some (.row ty k []))]} a w∧
  Ext K ι F σ w (fun i=>K i∨i=j) (fun i=>if i=j then⟨0,0,0,true,z⟩else ι i) F {σ with s:=ups σ.s [(j,some (.row ty k []))]} w:=by
 have henv:∀id,K id→(fun i=>if i=j then(⟨0,0,0,true,z⟩:Loc)else ι i) id=ι id:=fun id hid=>by
  show (if id=j then _ else ι id)=ι id
  rw[if_neg (fun ee:id=j=>hj (by rw[←ee];exact hid))]
 have hkeep:Keeps F w w:=fun _ _ _=>rfl
 have hown:∀b,Owned (fun i=>if i=j then(⟨0,0,0,true,z⟩:Loc)else ι i) {σ with s:=ups σ.s [(j,some (.row ty k []))]} b→Owned ι σ b:=by
  rintro b ⟨id,x,h1,h2,h3⟩
  by_cases hid:id=j
  ·subst hid;simp at h2
  ·simp only[ups,if_neg hid]at h1 h2 h3
   exact⟨id,x,h1,h2,h3⟩
 refine⟨⟨h.size,fun i=>?_,fun id x hx=>?_,fun b hb c hc=>h.off b (hown b hb) c hc,?_,h.foot,h.col⟩,⟨rfl,rfl,rfl,Nat.le_refl _,fun _ _ _=>rfl,fun b hb=>.inl (hown b hb),fun _ _ hb=>hb,fun _ _ hb=>.inl hb,henv,fun _ hid=>.inl hid⟩⟩
 ·exact⟨AIn.mono (fun _ hi=>.inl hi) _ (h.tmp i).1,ARep.keep hkeep (fun _ _ hb=>hb) henv _ _ (h.tmp i).1 (h.tmp i).2⟩
 ·by_cases hid:id=j
  ·subst hid
   simp only[ups,if_true,Option.some.injEq]at hx
   subst hx
   exact⟨.inr rfl,trivial,.inl (by simp)⟩
  ·simp only[ups,if_neg hid]at hx
   obtain⟨h1,h2,h3⟩:=h.ent id x hx
   refine⟨.inl h1,EIn.mono (fun _ hi=>.inl hi) _ h2,?_⟩
   simp only[if_neg hid]
   exact ERep.keep hkeep (fun _ _ hb=>hb) henv (fun _=>rfl) x h2 h3
 ·intro i k ei ek hi hk hni hnk heq
  by_cases h1:i=j
  ·subst h1;simp at hni
  ·by_cases h2:k=j
   ·subst h2;simp at hnk
   ·simp only[ups,if_neg h1,if_neg h2]at hi hk hni hnk heq
    exact h.sep i k ei ek hi hk hni hnk heq
theorem Rel.name (h:Rel K ι F σ a w)(j:Nat)(hj:¬K j)(ty k:Nat):
  Rel (fun i=>K i∨i=j) (fun i=>if i=j then⟨0,0,0,true,none⟩else ι i) F {σ with s:=ups σ.s [(j,some (.row ty k []))]} a w∧
  Ext K ι F σ w (fun i=>K i∨i=j) (fun i=>if i=j then⟨0,0,0,true,none⟩else ι i) F {σ with s:=ups σ.s [(j,some (.row ty k []))]} w:=h.nameZ j hj ty k none
theorem Rel.drew (h:Rel K ι F σ a w)(n:Nat):Rel K ι F σ a {w with drawn:=n}∧Ext K ι F σ w K ι F σ {w with drawn:=n}:=
 ⟨⟨h.size,fun i=>⟨(h.tmp i).1,ARep.keep (w:=w) (w':={w with drawn:=n}) (fun _ _ _=>rfl) (fun _ _ hb=>hb) (fun _ _=>rfl) _ _ (h.tmp i).1 (h.tmp i).2⟩,
  fun id e he=>⟨(h.ent id e he).1,(h.ent id e he).2.1,ERep.keep (w:=w) (w':={w with drawn:=n}) (fun _ _ _=>rfl) (fun _ _ hb=>hb) (fun _ _=>rfl) (fun _=>rfl) e (h.ent id e he).2.1 (h.ent id e he).2.2⟩,h.off,h.sep,h.foot,h.col⟩,
  ⟨rfl,rfl,rfl,Nat.le_refl _,fun _ _ _=>rfl,fun _ hb=>.inl hb,fun _ _ hb=>hb,fun _ _ hb=>.inl hb,fun _ _=>rfl,fun _ hid=>hid⟩⟩
theorem setRow_other (w:World)(g b:Nat)(cs:Array Value)(h:b≠g):(w.setRow g cs).heap[b]?=w.heap[b]?:=by
 simp only[World.setRow,Array.getElem?_modify]
 rw[if_neg (fun e=>h e.symm)]
theorem Rel.write (h:Rel K ι F σ a w)(id:Nat)(e e':Entry)(he:σ.s id=some e)(hn:(ι id).nil=false)(c:Array Value)(hin:EIn K e')
  (hr:ERep (w.setRow (ι id).blk c) F ι (ι id) e'):
  Rel K ι F {σ with s:=ups σ.s [(id,some e')]} a (w.setRow (ι id).blk c)∧Ext K ι F σ w K ι F {σ with s:=ups σ.s [(id,some e')]} (w.setRow (ι id).blk c):=by
 have ho:Owned ι σ (ι id).blk:=⟨id,e,he,hn,rfl⟩
 have hkeep:Keeps F w (w.setRow (ι id).blk c):=fun cl b hb=>setRow_other _ _ _ _ (fun e'=>h.off _ ho cl (e' ▸ hb))
 have hown:∀b,Owned ι {σ with s:=ups σ.s [(id,some e')]} b→Owned ι σ b:=by
  rintro b ⟨j,x,h1,h2,h3⟩
  by_cases hj:j=id
  ·subst hj;exact⟨j,e,he,h2,h3⟩
  ·simp only[ups,if_neg hj]at h1;exact⟨j,x,h1,h2,h3⟩
 refine⟨⟨h.size,fun i=>⟨(h.tmp i).1,ARep.keep hkeep (fun _ _ hb=>hb) (fun _ _=>rfl) _ _ (h.tmp i).1 (h.tmp i).2⟩,fun j x hx=>?_,fun b hb=>h.off b (hown b hb),?_,fun cl b hb=>by simpa using h.foot cl b hb,h.col⟩,
  ⟨rfl,rfl,rfl,by simp,fun b _ hb=>setRow_other _ _ _ _ (fun e'=>hb (e' ▸ ho)),fun b hb=>.inl (hown b hb),fun _ _ hb=>hb,fun _ _ hb=>.inl hb,fun _ _=>rfl,fun _ hid=>hid⟩⟩
 ·by_cases hj:j=id
  ·subst hj
   simp only[ups,if_true,Option.some.injEq]at hx
   subst hx
   exact⟨(h.ent j e he).1,hin,hr⟩
  ·simp only[ups,if_neg hj]at hx
   obtain⟨h1,h2,h3⟩:=h.ent j x hx
   exact⟨h1,h2,ERep.keep hkeep (fun _ _ hb=>hb) (fun _ _=>rfl) (fun hnj=>setRow_other _ _ _ _ (fun e'=>hj (h.sep j id x e hx he hnj hn e'))) x h2 h3⟩
 ·intro i k ei ek hi hk hni hnk heq
  have hi':∃x,σ.s i=some x:=by
   by_cases h1:i=id
   ·subst h1;exact⟨e,he⟩
   ·simp only[ups,if_neg h1]at hi;exact⟨ei,hi⟩
  have hk':∃x,σ.s k=some x:=by
   by_cases h1:k=id
   ·subst h1;exact⟨e,he⟩
   ·simp only[ups,if_neg h1]at hk;exact⟨ek,hk⟩
  obtain⟨x,hx⟩:=hi'
  obtain⟨y,hy⟩:=hk'
  exact h.sep i k x y hx hy hni hnk heq
theorem Rel.drop (h:Rel K ι F σ a w)(id:Nat):Rel K ι F {σ with s:=ups σ.s [(id,none)]} a w∧Ext K ι F σ w K ι F {σ with s:=ups σ.s [(id,none)]} w:=by
 have hs:∀j x,ups σ.s [(id,none)] j=some x→σ.s j=some x:=by
  intro j x hx
  by_cases hj:j=id
  ·subst hj;simp[ups]at hx
  ·simpa only[ups,if_neg hj]using hx
 have hown:∀b,Owned ι {σ with s:=ups σ.s [(id,none)]} b→Owned ι σ b:=fun b⟨j,x,h1,h2,h3⟩=>⟨j,x,hs j x h1,h2,h3⟩
 exact⟨⟨h.size,h.tmp,fun j x hx=>h.ent j x (hs j x hx),fun b hb=>h.off b (hown b hb),fun i j ei ej hi hj=>h.sep i j ei ej (hs i ei hi) (hs j ej hj),h.foot,h.col⟩,
  ⟨rfl,rfl,rfl,Nat.le_refl _,fun _ _ _=>rfl,fun b hb=>.inl (hown b hb),fun _ _ hb=>hb,fun _ _ hb=>.inl hb,fun _ _=>rfl,fun _ hid=>hid⟩⟩
theorem Rel.freeze (h:Rel K ι F σ a w)(id ty k:Nat)(es:List IVal)(he:σ.s id=some (.row ty k es)):
  ∃F',Rel K ι F' {σ with s:=ups σ.s [(id,none)]} a w∧Ext K ι F σ w K ι F' {σ with s:=ups σ.s [(id,none)]} w∧IRep w F' (.sl true false k es) ((ι id).val es.length):=by
 obtain⟨hK,_,hr⟩:=h.ent id _ he
 obtain⟨hd,hx⟩:=h.drop id
 rcases hr with⟨hn,rfl⟩|⟨hn,c,fr,vs,h1,h2,h3,h4,h5,h6⟩
 ·refine⟨F,hd,hx,?_⟩
  rw[IRep]
  exact⟨(ι id).z,0,by simp[Loc.val,hn],by simp,by simp,fun hne=>absurd rfl hne⟩
 ·have ho:Owned ι σ (ι id).blk:=⟨id,_,he,hn,rfl⟩
  have hlt:=h.owned_lt ho
  refine⟨fun c b=>F c b∨b=(ι id).blk,⟨hd.size,fun i=>⟨(hd.tmp i).1,ARep.keep (w:=w) (fun _ _ _=>rfl) (fun _ _ hb=>.inl hb) (fun _ _=>rfl) _ _ (hd.tmp i).1 (hd.tmp i).2⟩,
    fun j x hj=>⟨(hd.ent j x hj).1,(hd.ent j x hj).2.1,ERep.keep (w:=w) (fun _ _ _=>rfl) (fun _ _ hb=>.inl hb) (fun _ _=>rfl) (fun _=>rfl) x (hd.ent j x hj).2.1 (hd.ent j x hj).2.2⟩,
    ?_,hd.sep,?_,?_⟩,⟨rfl,rfl,rfl,Nat.le_refl _,fun _ _ _=>rfl,hx.own,fun _ _ hb=>.inl hb,fun cl b hb=>?_,fun _ _=>rfl,fun _ hid=>hid⟩,?_⟩
  ·rintro b ⟨j,x,hj,hnj,hbj⟩ cl hF
   rcases hF with hF|hF
   ·exact hd.off b ⟨j,x,hj,hnj,hbj⟩ cl hF
   ·by_cases hji:j=id
    ·subst hji;simp[ups]at hj
    ·simp only[ups,if_neg hji]at hj
     exact hji (h.sep j id x _ hj he hnj hn (hbj.trans hF))
  ·intro cl b hb
   rcases hb with hb|rfl
   ·exact h.foot cl b hb
   ·exact hlt
  ·intro b hb
   rcases hb with hb|hb
   ·exact .inl (h.col b hb)
   ·exact .inr hb
  ·rcases hb with hb|rfl
   ·exact .inl hb
   ·exact .inr (.inr ho)
  ·rw[IRep]
   refine⟨some ⟨(ι id).blk,(ι id).off,none⟩,(ι id).cap,by simp[Loc.val,hn],by simp,h4,fun _=>⟨(ι id).blk,(ι id).off,c,ty,fr,vs,rfl,.inr rfl,h1,IRepL.keep (w:=w) (fun _ _ _=>rfl) (fun _ _ hb=>.inl hb) es vs h5,h6⟩⟩
end
end Go.Abs
namespace Go.Abs
open Go.RowKit
variable {P:Program}
section
variable {w:World} {F:Foot} {ι:Nat→Loc}
theorem IRepL.length :∀{ds:List IVal}{us:List Value},IRepL w F ds us→us.length=ds.length
 |[],us,h=>by rw[IRepL]at h;subst h;rfl
 |d::ds,us,h=>by
  rw[IRepL]at h
  obtain⟨u,us',rfl,_,h3⟩:=h
  simp[IRepL.length h3]
theorem ARepL.length :∀{ds:List AVal}{us:List Value},ARepL w F ι ds us→us.length=ds.length
 |[],us,h=>by rw[ARepL]at h;subst h;rfl
 |d::ds,us,h=>by
  rw[ARepL]at h
  obtain⟨u,us',rfl,_,h3⟩:=h
  simp[ARepL.length h3]
theorem IRepL.at :∀{ds:List IVal}{us:List Value}{i:Nat}{d:IVal},IRepL w F ds us→ds[i]?=some d→∃u,us[i]?=some u∧IRep w F d u
 |[],us,i,d,_,hi=>by simp at hi
 |d0::ds,us,i,d,h,hi=>by
  rw[IRepL]at h
  obtain⟨u,us',rfl,h2,h3⟩:=h
  cases i with
  |zero=>simp at hi;subst hi;exact⟨u,by simp,h2⟩
  |succ i=>simpa using IRepL.at h3 (by simpa using hi)
theorem IRepL.drop :∀{ds:List IVal}{us:List Value}(k:Nat),IRepL w F ds us→IRepL w F (ds.drop k) (us.drop k)
 |ds,us,0,h=>by simpa using h
 |[],us,k+1,h=>by rw[IRepL]at h;subst h;simp[IRepL]
 |d::ds,us,k+1,h=>by
  rw[IRepL]at h
  obtain⟨u,us',rfl,_,h3⟩:=h
  simpa using IRepL.drop k h3
theorem IRepL.take :∀{ds:List IVal}{us:List Value}(k:Nat),IRepL w F ds us→IRepL w F (ds.take k) (us.take k)
 |ds,us,0,h=>by simp[IRepL]
 |[],us,k+1,h=>by rw[IRepL]at h;subst h;simp[IRepL]
 |d::ds,us,k+1,h=>by
  rw[IRepL]at h
  obtain⟨u,us',rfl,h2,h3⟩:=h
  rw[List.take_succ_cons,List.take_succ_cons,IRepL]
  exact⟨u,_,rfl,h2,IRepL.take k h3⟩
theorem IRepL.append :∀{ds es:List IVal}{us vs:List Value},IRepL w F ds us→IRepL w F es vs→IRepL w F (ds++es) (us++vs)
 |[],es,us,vs,h,h'=>by rw[IRepL]at h;subst h;simpa using h'
 |d::ds,es,us,vs,h,h'=>by
  rw[IRepL]at h
  obtain⟨u,us',rfl,h2,h3⟩:=h
  rw[List.cons_append,List.cons_append,IRepL]
  exact⟨u,_,rfl,h2,IRepL.append h3 h'⟩
theorem IRepL.set :∀{ds:List IVal}{us:List Value}{d:IVal}{u:Value}(i:Nat),IRepL w F ds us→IRep w F d u→IRepL w F (ds.set i d) (us.set i u)
 |[],us,d,u,i,h,_=>by rw[IRepL]at h;subst h;simp[IRepL]
 |d0::ds,us,d,u,i,h,hd=>by
  rw[IRepL]at h
  obtain⟨u0,us',rfl,h2,h3⟩:=h
  cases i with
  |zero=>rw[List.set_cons_zero,List.set_cons_zero,IRepL];exact⟨u,us',rfl,hd,h3⟩
  |succ i=>rw[List.set_cons_succ,List.set_cons_succ,IRepL];exact⟨u0,_,rfl,h2,IRepL.set i h3 hd⟩
theorem ARepL.at :∀{ds:List AVal}{us:List Value}{i:Nat}{d:AVal},ARepL w F ι ds us→ds[i]?=some d→∃u,us[i]?=some u∧ARep w F ι d u
 |[],us,i,d,_,hi=>by simp at hi
 |d0::ds,us,i,d,h,hi=>by
  rw[ARepL]at h
  obtain⟨u,us',rfl,h2,h3⟩:=h
  cases i with
  |zero=>simp at hi;subst hi;exact⟨u,by simp,h2⟩
  |succ i=>simpa using ARepL.at h3 (by simpa using hi)
theorem ARepL.drop :∀{ds:List AVal}{us:List Value}(k:Nat),ARepL w F ι ds us→ARepL w F ι (ds.drop k) (us.drop k)
 |ds,us,0,h=>by simpa using h
 |[],us,k+1,h=>by rw[ARepL]at h;subst h;simp[ARepL]
 |d::ds,us,k+1,h=>by
  rw[ARepL]at h
  obtain⟨u,us',rfl,_,h3⟩:=h
  simpa using ARepL.drop k h3
theorem ARepL.take :∀{ds:List AVal}{us:List Value}(k:Nat),ARepL w F ι ds us→ARepL w F ι (ds.take k) (us.take k)
 |ds,us,0,h=>by simp[ARepL]
 |[],us,k+1,h=>by rw[ARepL]at h;subst h;simp[ARepL]
 |d::ds,us,k+1,h=>by
  rw[ARepL]at h
  obtain⟨u,us',rfl,h2,h3⟩:=h
  rw[List.take_succ_cons,List.take_succ_cons,ARepL]
  exact⟨u,_,rfl,h2,ARepL.take k h3⟩
theorem ARepL.append :∀{ds es:List AVal}{us vs:List Value},ARepL w F ι ds us→ARepL w F ι es vs→ARepL w F ι (ds++es) (us++vs)
 |[],es,us,vs,h,h'=>by rw[ARepL]at h;subst h;simpa using h'
 |d::ds,es,us,vs,h,h'=>by
  rw[ARepL]at h
  obtain⟨u,us',rfl,h2,h3⟩:=h
  rw[List.cons_append,List.cons_append,ARepL]
  exact⟨u,_,rfl,h2,ARepL.append h3 h'⟩
theorem ARepL.imm :∀{ds:List IVal}{us:List Value},IRepL w F ds us→ARepL w F ι (ds.map .imm) us
 |[],us,h=>by rw[IRepL]at h;subst h;simp[ARepL]
 |d::ds,us,h=>by
  rw[IRepL]at h
  obtain⟨u,us',rfl,h2,h3⟩:=h
  rw[List.map_cons,ARepL]
  exact⟨u,_,rfl,by rw[ARep];exact h2,ARepL.imm h3⟩
end
section
variable {K:Nat→Prop}
theorem AInL.drop :∀{ds:List AVal}(k:Nat),AInL K ds→AInL K (ds.drop k)
 |ds,0,h=>by simpa using h
 |[],k+1,h=>by simp[AInL]
 |d::ds,k+1,h=>by rw[AInL]at h;simpa using AInL.drop k h.2
theorem AInL.take :∀{ds:List AVal}(k:Nat),AInL K ds→AInL K (ds.take k)
 |ds,0,h=>by simp[AInL]
 |[],k+1,h=>by simp[AInL]
 |d::ds,k+1,h=>by rw[AInL]at h;rw[List.take_succ_cons,AInL];exact⟨h.1,AInL.take k h.2⟩
theorem AInL.append :∀{ds es:List AVal},AInL K ds→AInL K es→AInL K (ds++es)
 |[],es,_,h=>by simpa using h
 |d::ds,es,h,h'=>by rw[AInL]at h;rw[List.cons_append,AInL];exact⟨h.1,AInL.append h.2 h'⟩
theorem AInL.imm :∀(ds:List IVal),AInL K (ds.map .imm)
 |[]=>by simp[AInL]
 |d::ds=>by rw[List.map_cons,AInL];exact⟨by rw[AIn];trivial,AInL.imm ds⟩
theorem AInL.at :∀{ds:List AVal}{i:Nat}{d:AVal},AInL K ds→ds[i]?=some d→AIn K d
 |[],i,d,_,hi=>by simp at hi
 |d0::ds,i,d,h,hi=>by
  rw[AInL]at h
  cases i with
  |zero=>simp at hi;subst hi;exact h.1
  |succ i=>exact AInL.at h.2 (by simpa using hi)
end
theorem Lay.at :∀{c:Array Value}{k:Nat}{vs:List Value}{off i:Nat}{v:Value},Lay c off k vs→vs[i]?=some v→off+i*k+k≤c.size∧v.cells.toList=(c.toList.drop (off+i*k)).take k
 |c,k,[],off,i,v,_,hi=>by simp at hi
 |c,k,x::xs,off,i,v,h,hi=>by
  obtain⟨h1,h2,h3⟩:=h
  cases i with
  |zero=>simp at hi;subst hi;simpa using⟨h1,h2⟩
  |succ i=>
   have:=Lay.at h3 (i:=i) (by simpa using hi)
   rw[show off+(i+1)*k=off+k+i*k by rw[Nat.add_mul,Nat.one_mul];omega]
   exact this
theorem Lay.append :∀{c:Array Value}{k:Nat}{vs us:List Value}{off:Nat},Lay c off k vs→Lay c (off+vs.length*k) k us→Lay c off k (vs++us)
 |c,k,[],us,off,_,h=>by simpa using h
 |c,k,x::xs,us,off,h,h'=>by
  obtain⟨h1,h2,h3⟩:=h
  refine⟨h1,h2,Lay.append h3 ?_⟩
  rw[show off+k+xs.length*k=off+(x::xs).length*k by simp[Nat.add_mul];omega]
  exact h'
theorem Lay.drop :∀{c:Array Value}{k:Nat}{vs:List Value}{off:Nat}(i:Nat),Lay c off k vs→Lay c (off+i*k) k (vs.drop i)
 |c,k,vs,off,0,h=>by simpa using h
 |c,k,[],off,i+1,h=>by simp[Lay]
 |c,k,x::xs,off,i+1,h=>by
  have:=Lay.drop i h.2.2
  rw[show off+(i+1)*k=off+k+i*k by rw[Nat.add_mul,Nat.one_mul];omega]
  simpa using this
theorem Lay.take :∀{c:Array Value}{k:Nat}{vs:List Value}{off:Nat}(i:Nat),Lay c off k vs→Lay c off k (vs.take i)
 |c,k,vs,off,0,h=>by simp[Lay]
 |c,k,[],off,i+1,h=>by simp[Lay]
 |c,k,x::xs,off,i+1,h=>by rw[List.take_succ_cons];exact⟨h.1,h.2.1,Lay.take i h.2.2⟩
theorem Lay.same {c c':Array Value}{k:Nat}(hk:0<k):∀{vs:List Value}{off:Nat},Lay c off k vs→(∀j,off≤j→j<off+vs.length*k→c'[j]?=c[j]?)→Lay c' off k vs
 |[],off,_,_=>by simp[Lay]
 |x::xs,off,h,hs=>by
  obtain⟨h1,h2,h3⟩:=h
  have hlen:(x::xs).length*k=k+xs.length*k:=by simp[Nat.add_mul];omega
  refine⟨?_,?_,Lay.same hk h3 (fun j hj1 hj2=>hs j (by omega) (by rw[hlen];omega))⟩
  ·have:=hs (off+k-1) (by omega) (by rw[hlen];omega)
   have hc:off+k-1<c.size:=by omega
   simp[hc]at this
   have hlt:off+k-1<c'.size:=by
    rcases Nat.lt_or_ge (off+k-1) c'.size with h'|h'
    ·exact h'
    ·simp[Array.getElem?_eq_none h']at this
   omega
  ·rw[h2]
   apply List.ext_getElem?
   intro j
   simp only[List.getElem?_take,List.getElem?_drop]
   split
   ·have:=hs (off+j) (by omega) (by rw[hlen];omega)
    simpa using this.symm
   ·rfl
section
variable {K K':Nat→Prop} {ι ι':Nat→Loc} {F F':Foot} {σ σ':AState} {a a':Act} {w w':World}
def Goes (P:Program)(o:Oper)(a:Act)(w:World)(K:Nat→Prop)(ι:Nat→Loc)(F:Foot)(σ:AState)(K':Nat→Prop)(σ':AState):Prop:=
 ∀(next:Act→World→Prop)(Q:Exit→Act→World→Prop),(∀ι' F' a' w',Rel K' ι' F' σ' a' w'→a'.defers=a.defers→Ext K ι F σ w K' ι' F' σ' w'→next a' w')→o.wp P a w next Q
theorem Act.put_defers (a:Act)(d:Option Tmp)(u:Value):(a.put d u).defers=a.defers:=by cases d<;>rfl
theorem Rel.mono (h:Rel K ι F σ a w)(hK:∀i,K i→K' i):Rel K' ι F σ a w:=
 ⟨h.size,fun i=>⟨AIn.mono hK _ (h.tmp i).1,(h.tmp i).2⟩,fun id e he=>⟨hK _ (h.ent id e he).1,EIn.mono hK _ (h.ent id e he).2.1,(h.ent id e he).2.2⟩,h.off,h.sep,h.foot,h.col⟩
theorem Ext.more (h:Ext K ι F σ w K' ι' F' σ' w'){K'':Nat→Prop}(hK:∀i,K' i→K'' i):Ext K ι F σ w K'' ι' F' σ' w':=
 ⟨h.os,h.tape,h.output,h.size,h.frame,h.own,h.mono,h.src,h.env,fun id hid=>hK _ (h.names id hid)⟩
theorem Ext.app (h:Ext K ι F σ w K' ι' F' σ' w')(d:Option Nat)(x:AVal):Ext K ι F σ w K' ι' F' (σ'.app d ⟨x,[]⟩) w':=
 ⟨h.os,h.tape,h.output,h.size,h.frame,h.own,h.mono,h.src,h.env,h.names⟩
theorem Goes.of {o:Oper}{σ1:AState}{x:AVal}{u:Value}{w1:World}(hrun:(execOp a.eval o).run P w=.ok (.value u) w1)
  (hd:∀i,o.dst=some i→i<σ.m)(hm:σ1.m=σ.m)
  (h:∃ι' F',Rel K' ι' F' σ1 a w1∧Ext K ι F σ w K' ι' F' σ1 w1∧AIn K' x∧ARep w1 F' ι' x u):Goes P o a w K ι F σ K' (σ1.app o.dst ⟨x,[]⟩):=by
 intro next Q hnext
 obtain⟨ι',F',h1,h2,h3,h4⟩:=h
 unfold Oper.wp
 rw[hrun,Oper.upon_value]
 exact hnext ι' F' _ _ (h1.put o.dst x u (by rw[hm];exact hd) h3 h4) (Act.put_defers _ _ _) (h2.app _ _)
theorem Goes.skip {o:Oper}{σ1:AState}{w1:World}(hrun:(execOp a.eval o).run P w=.ok .skip w1)
  (hd:∀i,o.dst=some i→i<σ.m)(hm:σ1.m=σ.m)
  (h:∃ι' F',Rel K' ι' F' σ1 a w1∧Ext K ι F σ w K' ι' F' σ1 w1):Goes P o a w K ι F σ K' (σ1.app o.dst ⟨.any,[]⟩):=by
 intro next Q hnext
 obtain⟨ι',F',h1,h2⟩:=h
 unfold Oper.wp
 rw[hrun,Oper.upon_skip]
 exact hnext ι' F' _ _ (h1.put o.dst .any undef (by rw[hm];exact hd) (by rw[AIn];trivial) (by rw[ARep];trivial)) (Act.put_defers _ _ _) (h2.app _ _)
theorem Goes.same (h:Rel K ι F σ a w){o:Oper}{x:AVal}{u:Value}(hrun:(execOp a.eval o).run P w=.ok (.value u) w)(hd:∀i,o.dst=some i→i<σ.m)
  (hK:∀i,K i→K' i)(hx:AIn K x)(hr:ARep w F ι x u):Goes P o a w K ι F σ K' (σ.app o.dst ⟨x,[]⟩):=
 Goes.of hrun hd rfl ⟨ι,F,h.mono hK,(Ext.refl K ι F σ w).more hK,AIn.mono hK _ hx,hr⟩
def ofValue :Value→AVal
 |.agg cs=>if cs.toList.all (·.oneCell')then .imm (.agg (cs.toList.map .v))else .any
 |.tuple _=>.any
 |.func (.func f) a c=>if a.size=0∧c.size=0 then .fn f [] []else .any
 |v=>.imm (.v v)
def AState.ev (σ:AState):Operand→AVal
 |.tmp i=>σ.t i
 |.const v=>ofValue v
 |.global _=>.any
 |.func f=>.fn f [] []
theorem flat_of {v:Value}(h:v.oneCell'=true):flat v=true:=by cases v<;>simp_all[flat,Value.oneCell']
theorem IRepL.consts :∀(vs:List Value),vs.all (·.oneCell')=true→IRepL w F (vs.map .v) vs
 |[],_=>by simp[IRepL]
 |v::vs,h=>by
  simp only[List.all_cons,Bool.and_eq_true]at h
  rw[List.map_cons,IRepL]
  exact⟨v,vs,rfl,by rw[IRep];exact⟨rfl,flat_of h.1⟩,IRepL.consts vs h.2⟩
theorem ofValue_spec (K:Nat→Prop)(v:Value):AIn K (ofValue v)∧ARep w F ι (ofValue v) v:=by
 unfold ofValue
 split
 ·split
  ·rename_i cs hc
   refine⟨by rw[AIn];trivial,?_⟩
   rw[ARep,IRep]
   exact⟨cs,rfl,IRepL.consts _ (by simpa using hc),by simp[List.all_map,Function.comp_def,ione]⟩
  ·exact⟨by rw[AIn];trivial,by rw[ARep];trivial⟩
 ·exact⟨by rw[AIn];trivial,by rw[ARep];trivial⟩
 ·split
  ·rename_i f va vc hc
   refine⟨by rw[AIn];simp[AInL],?_⟩
   rw[ARep]
   refine⟨va,vc,rfl,?_,?_⟩
   ·have:va=#[]:=Array.eq_empty_of_size_eq_zero hc.1
    subst this;simp[ARepL]
   ·have:vc=#[]:=Array.eq_empty_of_size_eq_zero hc.2
    subst this;simp[ARepL]
  ·exact⟨by rw[AIn];trivial,by rw[ARep];trivial⟩
 ·rename_i h1 h2 h3
  refine⟨by rw[AIn];trivial,?_⟩
  rw[ARep,IRep]
  refine⟨rfl,?_⟩
  cases v<;>simp_all[flat]
theorem Rel.ev (h:Rel K ι F σ a w)(x:Operand):AIn K (σ.ev x)∧ARep w F ι (σ.ev x) (a.eval x):=by
 cases x with
 |tmp i=>exact h.tmp i
 |const v=>exact ofValue_spec K v
 |global g=>exact⟨by rw[AState.ev,AIn];trivial,by rw[AState.ev,ARep];trivial⟩
 |func f=>exact⟨by rw[AState.ev,AIn];simp[AInL],by rw[AState.ev,ARep];exact⟨#[],#[],rfl,by simp[ARepL],by simp[ARepL]⟩⟩
theorem Rel.evs (h:Rel K ι F σ a w):∀xs:List Operand,AInL K (xs.map σ.ev)∧ARepL w F ι (xs.map σ.ev) (xs.map a.eval)
 |[]=>by simp[AInL,ARepL]
 |x::xs=>by
  have h1:=h.ev x
  have h2:=Rel.evs h xs
  simp only[List.map_cons,AInL,ARepL]
  exact⟨⟨h1.1,h2.1⟩,⟨_,_,rfl,h1.2,h2.2⟩⟩
def icells :IVal→Option (List IVal)
 |.agg ds=>some ds
 |.tup _=>none
 |d=>some [d]
def acells :AVal→Option (List AVal)
 |.any=>none
 |.tup _=>none
 |.agg cs=>some cs
 |.imm d=>(icells d).map (List.map .imm)
 |x=>some [x]
theorem icells_spec {d:IVal}{ds:List IVal}{u:Value}(h:icells d=some ds)(hr:IRep w F d u):IRepL w F ds u.cells.toList:=by
 cases d with
 |v x=>
  simp only[icells,Option.some.injEq]at h
  subst h
  have hr':=hr
  rw[IRep]at hr'
  obtain⟨rfl,hf⟩:=hr'
  have:u.cells.toList=[u]:=by cases u<;>simp_all[Value.cells,flat]
  rw[this,IRepL]
  exact⟨u,[],rfl,hr,by rw[IRepL]⟩
 |sl c f k es=>
  simp only[icells,Option.some.injEq]at h
  subst h
  have hr':=hr
  rw[IRep]at hr'
  obtain⟨a,cap,rfl,_⟩:=hr'
  show IRepL w F _ [_]
  rw[IRepL]
  exact⟨_,[],rfl,hr,by rw[IRepL]⟩
 |agg cs=>
  simp only[icells,Option.some.injEq]at h
  subst h
  rw[IRep]at hr
  obtain⟨vs,rfl,h2,_⟩:=hr
  exact h2
 |tup cs=>simp[icells]at h
 |map ks es=>
  simp only[icells,Option.some.injEq]at h
  subst h
  have hr':=hr
  rw[IRep]at hr'
  obtain⟨b,_,_,rfl,_⟩:=hr'
  show IRepL w F _ [_]
  rw[IRepL]
  exact⟨_,[],rfl,hr,by rw[IRepL]⟩
theorem acells_spec {x:AVal}{cs:List AVal}{u:Value}(h:acells x=some cs)(hr:ARep w F ι x u):ARepL w F ι cs u.cells.toList:=by
 cases x with
 |any=>simp[acells]at h
 |tup _=>simp[acells]at h
 |agg ds=>
  simp only[acells,Option.some.injEq]at h
  subst h
  rw[ARep]at hr
  obtain⟨vs,rfl,h2⟩:=hr
  exact h2
 |imm d=>
  simp only[acells,Option.map_eq_some_iff]at h
  obtain⟨ds,h1,rfl⟩:=h
  rw[ARep]at hr
  exact ARepL.imm (icells_spec h1 hr)
 |own id n=>
  simp only[acells,Option.some.injEq]at h
  subst h
  have hr':=hr
  rw[ARep]at hr'
  have:u.cells.toList=[u]:=by rw[hr'.1,Loc.val];split<;>rfl
  rw[this,ARepL]
  exact⟨u,[],rfl,hr,by rw[ARepL]⟩
 |_=>
  simp only[acells,Option.some.injEq]at h
  subst h
  have hr':=hr
  rw[ARep]at hr'
  have:u.cells.toList=[u]:=by
   first
    |(rw[hr'];rfl)
    |(obtain⟨_,h',_⟩:=hr';rw[h'];rfl)
    |(obtain⟨_,_,_,_,_,_,h',_⟩:=hr';rw[h'];rfl)
    |(obtain⟨_,_,h',_⟩:=hr';rw[h'];rfl)
  rw[this,ARepL]
  exact⟨u,[],rfl,hr,by rw[ARepL]⟩
theorem acells_in {x:AVal}{cs:List AVal}(h:acells x=some cs)(hx:AIn K x):AInL K cs:=by
 cases x with
 |any=>simp[acells]at h
 |tup _=>simp[acells]at h
 |agg ds=>simp only[acells,Option.some.injEq]at h;subst h;rw[AIn]at hx;exact hx
 |imm d=>
  simp only[acells,Option.map_eq_some_iff]at h
  obtain⟨ds,_,rfl⟩:=h
  exact AInL.imm ds
 |_=>simp only[acells,Option.some.injEq]at h;subst h;rw[AInL];exact⟨hx,by rw[AInL];trivial⟩
theorem icells_ione {d:IVal}{ds:List IVal}{u:Value}(h:icells d=some ds)(hr:IRep w F d u):ds.all ione=true:=by
 cases d with
 |v x=>simp only[icells,Option.some.injEq]at h;subst h;rfl
 |sl c f k es=>simp only[icells,Option.some.injEq]at h;subst h;rfl
 |agg cs=>simp only[icells,Option.some.injEq]at h;subst h;rw[IRep]at hr;obtain⟨_,_,_,h3⟩:=hr;exact h3
 |tup cs=>simp[icells]at h
 |map ks es=>simp only[icells,Option.some.injEq]at h;subst h;rfl
def ishape :IVal→Option (Bool×Nat)
 |.agg ds=>some (true,ds.length)
 |.tup _=>none
 |_=>some (false,1)
def ashape :AVal→Option (Bool×Nat)
 |.any=>none
 |.tup _=>none
 |.agg cs=>some (true,cs.length)
 |.imm d=>ishape d
 |_=>some (false,1)
theorem ishape_spec {d:IVal}{ag:Bool}{k:Nat}{u:Value}(h:ishape d=some (ag,k))(hr:IRep w F d u):u.cells.size=k∧mkV ag u.cells.toList=u∧(ag=false→k=1):=by
 cases d with
 |v x=>
  simp only[ishape,Option.some.injEq,Prod.mk.injEq]at h
  obtain⟨rfl,rfl⟩:=h
  rw[IRep]at hr
  obtain⟨rfl,hf⟩:=hr
  cases u<;>simp_all[Value.cells,flat,mkV]
 |sl c f k es=>
  simp only[ishape,Option.some.injEq,Prod.mk.injEq]at h
  obtain⟨rfl,rfl⟩:=h
  rw[IRep]at hr
  obtain⟨a,cap,rfl,_⟩:=hr
  simp[Value.cells,mkV]
 |agg cs=>
  simp only[ishape,Option.some.injEq,Prod.mk.injEq]at h
  obtain⟨rfl,rfl⟩:=h
  rw[IRep]at hr
  obtain⟨vs,rfl,h2,_⟩:=hr
  exact⟨by have:=h2.length;simpa[Value.cells]using this,by simp[Value.cells,mkV],by simp⟩
 |tup cs=>simp[ishape]at h
 |map ks es=>
  simp only[ishape,Option.some.injEq,Prod.mk.injEq]at h
  obtain⟨rfl,rfl⟩:=h
  rw[IRep]at hr
  obtain⟨b,_,_,rfl,_⟩:=hr
  simp[Value.cells,mkV]
theorem ashape_spec {x:AVal}{ag:Bool}{k:Nat}{u:Value}(h:ashape x=some (ag,k))(hr:ARep w F ι x u):u.cells.size=k∧mkV ag u.cells.toList=u∧(ag=false→k=1):=by
 cases x with
 |any=>simp[ashape]at h
 |tup _=>simp[ashape]at h
 |agg ds=>
  simp only[ashape,Option.some.injEq,Prod.mk.injEq]at h
  obtain⟨rfl,rfl⟩:=h
  rw[ARep]at hr
  obtain⟨vs,rfl,h2⟩:=hr
  exact⟨by have:=h2.length;simpa[Value.cells]using this,by simp[Value.cells,mkV],by simp⟩
 |imm d=>rw[ARep]at hr;exact ishape_spec h hr
 |own id n=>
  simp only[ashape,Option.some.injEq,Prod.mk.injEq]at h
  obtain⟨rfl,rfl⟩:=h
  rw[ARep]at hr
  rw[hr.1,Loc.val]
  split<;>simp[Value.cells,mkV]
 |_=>
  simp only[ashape,Option.some.injEq,Prod.mk.injEq]at h
  obtain⟨rfl,rfl⟩:=h
  rw[ARep]at hr
  first
   |(rw[hr];simp[Value.cells,mkV];done)
   |(obtain⟨_,h',_⟩:=hr;rw[h'];simp[Value.cells,mkV];done)
   |(obtain⟨_,_,_,_,_,_,h',_⟩:=hr;rw[h'];simp[Value.cells,mkV];done)
   |(obtain⟨_,_,h',_⟩:=hr;rw[h'];simp[Value.cells,mkV];done)
def mkA (ag:Bool)(cs:List AVal):Option AVal:=
 if ag then some (.agg cs)else match cs with|[x]=>some x|_=>none
theorem mkA_spec {ag:Bool}{cs:List AVal}{x:AVal}{us:List Value}(h:mkA ag cs=some x)(hr:ARepL w F ι cs us):ARep w F ι x (mkV ag us):=by
 unfold mkA at h
 cases ag with
 |true=>simp only[if_true,Option.some.injEq]at h;subst h;rw[ARep];exact⟨us.toArray,rfl,by simpa using hr⟩
 |false=>
  simp only[Bool.false_eq_true,if_false]at h
  split at h
  ·simp only[Option.some.injEq]at h;subst h
   rw[ARepL]at hr
   obtain⟨u,us',rfl,h1,_⟩:=hr
   exact h1
  ·cases h
theorem mkA_in {ag:Bool}{cs:List AVal}{x:AVal}(h:mkA ag cs=some x)(hx:AInL K cs):AIn K x:=by
 unfold mkA at h
 cases ag with
 |true=>simp only[if_true,Option.some.injEq]at h;subst h;rw[AIn];exact hx
 |false=>
  simp only[Bool.false_eq_true,if_false]at h
  split at h
  ·simp only[Option.some.injEq]at h;subst h;rw[AInL]at hx;exact hx.1
  ·cases h
theorem mkA_one {cs:List AVal}{x:AVal}(h:mkA false cs=some x):cs.length=1:=by
 unfold mkA at h
 simp only[Bool.false_eq_true,if_false]at h
 split at h
 ·rfl
 ·cases h
end
end Go.Abs
namespace Go.Abs
open Go.RowKit
variable {P:Program}
section
variable {K K':Nat→Prop} {ι ι':Nat→Loc} {F F':Foot} {σ σ':AState} {a a':Act} {w w':World}
theorem Addr.add_mk (b o j:Nat):(⟨b,o,none⟩:Addr).add j=⟨b,o+j,none⟩:=Addr.add_mid b o j
def iload (P:Program)(t:TypeId)(d:IVal)(off:Nat):Option AVal:=
 match tld P t with
 |none=>none
 |some (ag,k)=>
  if off=0∧ishape d=some (ag,k)then some (.imm d)else
  match icells d with
  |some ds=>if off+k≤ds.length then mkA ag (((ds.drop off).take k).map .imm)else none
  |none=>none
def xload (P:Program)(t:TypeId)(x:AVal)(off:Nat):Option AVal:=
 match tld P t with
 |none=>none
 |some (ag,k)=>
  if off=0∧ashape x=some (ag,k)then some x else
  match acells x with
  |some cs=>if off+k≤cs.length then mkA ag ((cs.drop off).take k)else none
  |none=>none
def aload (P:Program)(σ:AState)(t:TypeId):AVal→Option AVal
 |.ptr id off=>match boxOf (σ.s id)with
  |some (_,x)=>xload P t x off
  |_=>none
 |.ref _ d off=>iload P t d off
 |.rptr id k i off=>match rowOf (σ.s id)with
  |some (_,k',es)=>if k'=k then(match es[i]? with|some d=>iload P t d off|none=>none)else none
  |_=>none
 |_=>none
theorem mkA_len {ag:Bool}{k:Nat}{cs:List AVal}{x:AVal}(h:mkA ag cs=some x)(hl:cs.length=k):ag=false→k=1:=by
 intro e;subst e;rw[←hl];exact mkA_one h
theorem run_iload {t:TypeId}{d:IVal}{off:Nat}{y:AVal}(h:iload P t d off=some y){b o ty:Nat}{cs:Array Value}{fr:Nat×Nat}{u:Value}
  (hb:w.heap[b]?=some (.cells cs ty fr))(hr:IRep w F d u)(hs:o+u.cells.size≤cs.size)(hc:u.cells.toList=(cs.toList.drop o).take u.cells.size):
  ∃v,(loadVar t ⟨b,o+off,none⟩).run P w=.ok v w∧ARep w F ι y v∧AIn K y:=by
 unfold iload at h
 split at h
 ·cases h
 ·rename_i ag k hld
  split at h
  ·rename_i hw
   obtain⟨rfl,hsh⟩:=hw
   simp only[Option.some.injEq]at h
   subst h
   obtain⟨h1,h2,h3⟩:=ishape_spec hsh hr
   refine⟨u,?_,by rw[ARep];exact hr,by rw[AIn];trivial⟩
   rw[run_load hld hb (by omega) h3,←h1]
   simp only[Nat.add_zero,←hc]
   rw[h2]
  ·split at h
   ·rename_i ds hds
    split at h
    ·rename_i hle
     have hcl:=icells_spec hds hr
     have hlen:u.cells.size=ds.length:=by simpa using hcl.length
     refine⟨_,run_load hld hb (by omega) (mkA_len h (by simp;omega)),mkA_spec h ?_,mkA_in h (AInL.imm _)⟩
     have h1:=(hcl.drop off).take k
     rw[hc]at h1
     have:((cs.toList.drop o).take u.cells.size).drop off=((cs.toList.drop (o+off)).take (u.cells.size-off)):=by
      rw[List.drop_take,List.drop_drop]
     rw[this,List.take_take]at h1
     have hmin:min k (u.cells.size-off)=k:=by omega
     rw[hmin]at h1
     exact ARepL.imm h1
    ·cases h
   ·cases h
theorem run_xload {t:TypeId}{x:AVal}{off:Nat}{y:AVal}(h:xload P t x off=some y){b ty:Nat}{fr:Nat×Nat}{u:Value}
  (hb:w.heap[b]?=some (.cells u.cells ty fr))(hx:AIn K x)(hr:ARep w F ι x u):
  ∃v,(loadVar t ⟨b,off,none⟩).run P w=.ok v w∧ARep w F ι y v∧AIn K y:=by
 unfold xload at h
 split at h
 ·cases h
 ·rename_i ag k hld
  split at h
  ·rename_i hw
   obtain⟨rfl,hsh⟩:=hw
   simp only[Option.some.injEq]at h
   subst h
   obtain⟨h1,h2,h3⟩:=ashape_spec hsh hr
   refine⟨u,?_,hr,hx⟩
   rw[run_load hld hb (by omega) h3,←h1]
   simp only[List.drop_zero]
   rw[List.take_of_length_le (by simp),h2]
  ·split at h
   ·rename_i cs hcs
    split at h
    ·rename_i hle
     have hcl:=acells_spec hcs hr
     have hlen:u.cells.size=cs.length:=by simpa using hcl.length
     exact⟨_,run_load hld hb (by omega) (mkA_len h (by simp;omega)),mkA_spec h ((hcl.drop off).take k),mkA_in h (((acells_in hcs hx).drop off).take k)⟩
    ·cases h
   ·cases h
theorem run_aload (hR:Rel K ι F σ a w){t:TypeId}{x:AVal}{v:Value}{y:AVal}(hx:AIn K x)(hv:ARep w F ι x v)(h:aload P σ t x=some y):
  ∃u,(Instr.loadAt t v).run P w=.ok u w∧ARep w F ι y u∧AIn K y:=by
 cases x<;>simp only[aload]at h<;>try contradiction
 case ptr id off=>
  split at h
  ·rename_i ty x he0
   obtain⟨e,he,p1,_,p3,_⟩:=boxOf_some he0
   obtain⟨_,g1,gE⟩:=hR.ent id _ he
   obtain⟨h0,u,h2,h3⟩:=p1 _ _ _ _ gE
   have h1:=p3 _ g1
   rw[ARep]at hv
   subst hv
   simpa[Instr.loadAt,Instr.sureAddr]using run_xload h h2 h1 h3
  ·cases h
 case ref c d off=>
  rw[ARep]at hv
  obtain⟨b,o,cs,ty,fr,x,rfl,e2,e3,e4,e5,e6⟩:=hv
  simpa[Instr.loadAt,Instr.sureAddr]using run_iload (K:=K) (ι:=ι) h e3 e4 e5 e6
 case rptr id k i off=>
  split at h
  ·rename_i ty k' es he
   split at h
   ·rename_i hk
    subst hk
    split at h
    ·rename_i d hd
     obtain⟨e0,hs0,hrow,_⟩:=rowOf_some he
     have hr:RowRep w F (ι id) _ _ _:=hrow _ _ _ _ (hR.ent id _ hs0).2.2
     rcases hr with⟨_,rfl⟩|⟨hn,c,fr,vs,h1,h2,h3,h4,h5,h6⟩
     ·simp at hd
     ·obtain⟨u,hu,hdu⟩:=h5.at hd
      obtain⟨hs,hc⟩:=h6.at hu
      have hsz:u.cells.size=k':=by
       have:=congrArg List.length hc
       simp at this;omega
      rw[ARep]at hv
      subst hv
      have:=run_iload (K:=K) (ι:=ι) h h1 hdu (o:=(ι id).off+i*k') (by omega) (by rw[hsz];exact hc)
      simpa[Instr.loadAt,Instr.sureAddr]using this
    ·cases h
   ·cases h
  ·cases h
theorem goes_load (hR:Rel K ι F σ a w){o:Oper}{t:TypeId}{x:Operand}(ho:o.op=.load t x)(hd:∀i,o.dst=some i→i<σ.m)(hK:∀i,K i→K' i)
  {y:AVal}(h:aload P σ t (σ.ev x)=some y):Goes P o a w K ι F σ K' (σ.app o.dst ⟨y,[]⟩):=by
 obtain⟨u,h1,h2,h3⟩:=run_aload hR (hR.ev x).1 (hR.ev x).2 h
 refine Goes.same hR ?_ hd hK h3 h2
 simp[execOp,ho,h1]
def tfld (P:Program)(s:TypeId)(f:Nat):Option Nat:=
 match P.underlying s with
 |some (.struct fs)=>match fs[f]? with
  |some fd=>match P.info? fd.type with
   |some i=>if i.size=0 then none else some fd.offset
   |none=>none
  |none=>none
 |_=>none
def afld (P:Program)(s:TypeId)(f:Nat)(x:AVal):Option AVal:=
 match tfld P s f with
 |none=>none
 |some o=>match x with
  |.ptr id off=>some (.ptr id (off+o))
  |.ref c d off=>some (.ref c d (off+o))
  |.rptr id k i off=>some (.rptr id k i (off+o))
  |_=>none
theorem goes_fieldAddr (hR:Rel K ι F σ a w){o:Oper}{s:TypeId}{f:Nat}{x:Operand}(ho:o.op=.fieldAddr s x f)(hd:∀i,o.dst=some i→i<σ.m)(hK:∀i,K i→K' i)
  {y:AVal}(h:afld P s f (σ.ev x)=some y):Goes P o a w K ι F σ K' (σ.app o.dst ⟨y,[]⟩):=by
 unfold afld at h
 split at h
 ·cases h
 ·rename_i off hof
  obtain⟨h1,h2⟩:=hR.ev x
  have key:∀ad:Addr,ad.spot=none→a.eval x=.pointer (some ad)→(execOp a.eval o).run P w=.ok (.value (.pointer (some ⟨ad.block,ad.off+off,none⟩))) w:=by
   intro ad hs hx
   unfold tfld at hof
   split at hof
   ·rename_i fs hu
    split at hof
    ·rename_i fd hf
     split at hof
     ·rename_i i hi
      split at hof
      ·cases hof
      ·rename_i hz
       simp only[Option.some.injEq]at hof
       subst hof
       obtain⟨b,oo,sp⟩:=ad
       subst hs
       simp[execOp,ho,Instr.fieldAt,run_underlying hu,hf,hx,Instr.sureAddr,fieldPlace,sizeOf,typeInfo,hi,hz,Addr.add_mk]
     ·cases hof
    ·cases hof
   ·cases hof
  split at h
  ·rename_i id off' hx
   simp only[Option.some.injEq]at h;subst h
   rw[hx]at h1 h2
   rw[ARep]at h2
   exact Goes.same hR (key _ rfl h2) hd hK h1 (by rw[ARep])
  ·rename_i c d off' hx
   simp only[Option.some.injEq]at h;subst h
   rw[hx]at h1 h2
   rw[ARep]at h2
   obtain⟨b,o',cs,ty,fr,v,e1,e2⟩:=h2
   exact Goes.same hR (key _ rfl e1) hd hK (by rw[AIn];trivial) (by rw[ARep];exact⟨b,o',cs,ty,fr,v,by simp[Nat.add_assoc],e2⟩)
  ·rename_i id k i off' hx
   simp only[Option.some.injEq]at h;subst h
   rw[hx]at h1 h2
   rw[ARep]at h2
   exact Goes.same hR (key _ rfl h2) hd hK h1 (by rw[ARep];simp[Nat.add_assoc])
  ·cases h
def tsl (P:Program)(t:TypeId):Option (Nat×Nat):=
 match P.underlying t with
 |some (.slice e)=>(P.info? e).map fun i=>(e,i.size)
 |_=>none
def tarr (P:Program)(t:TypeId):Option (Nat×Nat):=
 match P.underlying t with
 |some (.array n e)=>(P.info? e).map fun i=>(n,i.size)
 |_=>none
theorem tsl_spec {t e k:Nat}(h:tsl P t=some (e,k)):P.underlying t=some (.slice e)∧∃i,P.info? e=some i∧i.size=k:=by
 unfold tsl at h
 split at h
 ·rename_i e' hu
  simp only[Option.map_eq_some_iff,Prod.mk.injEq]at h
  obtain⟨i,h1,rfl,h3⟩:=h
  exact⟨hu,i,h1,h3⟩
 ·cases h
theorem tarr_spec {t n k:Nat}(h:tarr P t=some (n,k)):∃e,P.underlying t=some (.array n e)∧∃i,P.info? e=some i∧i.size=k:=by
 unfold tarr at h
 split at h
 ·rename_i n' e hu
  simp only[Option.map_eq_some_iff,Prod.mk.injEq]at h
  obtain⟨i,h1,rfl,h3⟩:=h
  exact⟨e,hu,i,h1,h3⟩
 ·cases h
def aidx (P:Program)(t:TypeId)(x:AVal)(i:Nat):Option AVal:=
 match tsl P t with
 |some (_,k)=>match x with
  |.imm (.sl c _ k' es)=>if k'=k then(match es[i]? with|some d=>some (.ref c d 0)|none=>none)else none
  |.own id n=>if i<n then some (.rptr id k i 0)else none
  |.win id off n=>if i<n∧k=1 then some (.ptr id (off+i))else none
  |_=>none
 |none=>match tarr P t with
  |some (n,k)=>if i<n then(match x with
   |.ptr id off=>some (.ptr id (off+i*k))
   |.ref c d off=>some (.ref c d (off+i*k))
   |.rptr id ke j off=>some (.rptr id ke j (off+i*k))
   |_=>none)else none
  |none=>none
theorem goes_indexAddr (hR:Rel K ι F σ a w){o:Oper}{t:TypeId}{x ix:Operand}(ho:o.op=.indexAddr t x ix)(hd:∀i,o.dst=some i→i<σ.m)(hK:∀i,K i→K' i)
  {ik:IntKind}{n:Int}(hix:σ.ev ix=.imm (.v (.int ik n)))(hn:0≤n){y:AVal}(h:aidx P t (σ.ev x) n.toNat=some y):Goes P o a w K ι F σ K' (σ.app o.dst ⟨y,[]⟩):=by
 obtain⟨h1,h2⟩:=hR.ev x
 have hi:=(hR.ev ix).2
 rw[hix,ARep,IRep]at hi
 have hi:=hi.1
 unfold aidx at h
 split at h
 ·rename_i e k hsl
  obtain⟨hu,inf,hinf,hk⟩:=tsl_spec hsl
  have key:∀b off len cap,a.eval x=.slice (some ⟨b,off,none⟩) len cap→n.toNat<len→(execOp a.eval o).run P w=.ok (.value (.pointer (some ⟨b,off+n.toNat*k,none⟩))) w:=by
   intro b off len cap hx hlt
   have:0≤n∧n<(len:Int):=⟨hn,by omega⟩
   simp[execOp,ho,Instr.indexAt,hi,hx,asIntOf,run_underlying hu,this,sizeOf,typeInfo,hinf,hk,Addr.add_mk]
  split at h
  ·rename_i c f k' es hx
   split at h
   ·rename_i hkk
    subst hkk
    split at h
    ·rename_i d hd'
     simp only[Option.some.injEq]at h;subst h
     rw[hx]at h2
     rw[ARep,IRep]at h2
     obtain⟨ad,cap,e1,e2,e3,e4⟩:=h2
     obtain⟨b,off,cs,ty,fr,vs,rfl,f2,f3,f4,f5⟩:=e4 (by rintro rfl;simp at hd')
     obtain⟨u,hu',hdu⟩:=f4.at hd'
     obtain⟨hs,hc⟩:=f5.at hu'
     have hsz:u.cells.size=k':=by have:=congrArg List.length hc;simp at this;omega
     have hlt:n.toNat<es.length:=(List.getElem?_eq_some_iff.1 hd').1
     refine Goes.same hR (key _ _ _ _ e1 hlt) hd hK (by rw[AIn];trivial) ?_
     rw[ARep]
     exact⟨b,off+n.toNat*k',cs,ty,fr,u,by simp,f2,f3,hdu,by omega,by rw[hsz];exact hc⟩
    ·cases h
   ·cases h
  ·rename_i id m hx
   split at h
   ·rename_i hlt
    simp only[Option.some.injEq]at h;subst h
    rw[hx]at h1 h2
    rw[ARep]at h2
    obtain⟨h2,h3⟩:=h2
    unfold Loc.val at h2
    split at h2
    ·rename_i hnil
     have:=h3 hnil
     omega
    ·exact Goes.same hR (key _ _ _ _ h2 hlt) hd hK h1 (by rw[ARep];simp)
   ·cases h
  ·rename_i id off m hx
   split at h
   ·rename_i hlt
    simp only[Option.some.injEq]at h;subst h
    rw[hx]at h1 h2
    rw[ARep]at h2
    obtain⟨cap,e1,e2⟩:=h2
    have:=key _ _ _ _ e1 hlt.1
    rw[hlt.2,Nat.mul_one]at this
    exact Goes.same hR this hd hK h1 (by rw[ARep])
   ·cases h
  ·cases h
 ·split at h
  ·rename_i m k har
   obtain⟨e,hu,inf,hinf,hk⟩:=tarr_spec har
   split at h
   ·rename_i hlt
    have key:∀ad:Addr,ad.spot=none→a.eval x=.pointer (some ad)→(execOp a.eval o).run P w=.ok (.value (.pointer (some ⟨ad.block,ad.off+n.toNat*k,none⟩))) w:=by
     intro ad hs hx
     have:0≤n∧n<(m:Int):=⟨hn,by omega⟩
     obtain⟨b,oo,sp⟩:=ad
     subst hs
     simp[execOp,ho,Instr.indexAt,hi,hx,asIntOf,run_underlying hu,this,sizeOf,typeInfo,hinf,hk,Addr.add_mk,Instr.sureAddr]
    split at h
    ·rename_i id off' hx
     simp only[Option.some.injEq]at h;subst h
     rw[hx]at h1 h2
     rw[ARep]at h2
     exact Goes.same hR (key _ rfl h2) hd hK h1 (by rw[ARep])
    ·rename_i c d off' hx
     simp only[Option.some.injEq]at h;subst h
     rw[hx]at h1 h2
     rw[ARep]at h2
     obtain⟨b,o',cs,ty,fr,v,e1,e2⟩:=h2
     exact Goes.same hR (key _ rfl e1) hd hK (by rw[AIn];trivial) (by rw[ARep];exact⟨b,o',cs,ty,fr,v,by simp[Nat.add_assoc],e2⟩)
    ·rename_i id k' i off' hx
     simp only[Option.some.injEq]at h;subst h
     rw[hx]at h1 h2
     rw[ARep]at h2
     exact Goes.same hR (key _ rfl h2) hd hK h1 (by rw[ARep];simp[Nat.add_assoc])
    ·cases h
   ·cases h
  ·cases h
end
end Go.Abs
namespace Go.Abs
open Go.RowKit
variable {P:Program}
section
variable {K K':Nat→Prop} {ι ι':Nat→Loc} {F F':Foot} {σ σ':AState} {a a':Act} {w w':World}
def aone :AVal→Bool
 |.any=>false
 |.agg _=>false
 |.tup _=>false
 |.imm d=>ione d
 |_=>true
theorem flat_oneCell {v:Value}(h:flat v=true):v.oneCell'=true:=by cases v<;>simp_all[flat,Value.oneCell']
theorem ione_spec {d:IVal}{u:Value}(h:ione d=true)(hr:IRep w F d u):u.oneCell'=true:=by
 cases d with
 |v x=>rw[IRep]at hr;rw[hr.1];exact flat_oneCell hr.2
 |sl c f k es=>rw[IRep]at hr;obtain⟨a,cap,rfl,_⟩:=hr;rfl
 |map ks es=>rw[IRep]at hr;obtain⟨b,_,_,rfl,_⟩:=hr;rfl
 |agg _=>cases h
 |tup _=>cases h
theorem aone_spec {x:AVal}{u:Value}(h:aone x=true)(hr:ARep w F ι x u):u.oneCell'=true:=by
 cases x with
 |any=>cases h
 |agg _=>cases h
 |tup _=>cases h
 |imm d=>rw[ARep]at hr;exact ione_spec h hr
 |own id n=>rw[ARep]at hr;rw[hr.1,Loc.val];split<;>rfl
 |_=>
  rw[ARep]at hr
  first
   |(rw[hr];rfl)
   |(obtain⟨_,h',_⟩:=hr;rw[h'];rfl)
   |(obtain⟨_,_,_,_,_,_,h',_⟩:=hr;rw[h'];rfl)
   |(obtain⟨_,_,h',_⟩:=hr;rw[h'];rfl)
theorem aones_spec :∀{cs:List AVal}{us:List Value},cs.all aone=true→ARepL w F ι cs us→∀v∈us,v.oneCell'=true
 |[],us,_,h=>by rw[ARepL]at h;subst h;simp
 |x::cs,us,hc,h=>by
  simp only[List.all_cons,Bool.and_eq_true]at hc
  rw[ARepL]at h
  obtain⟨u,us',rfl,h1,h2⟩:=h
  intro v hv
  rcases List.mem_cons.1 hv with rfl|hv
  ·exact aone_spec hc.1 h1
  ·exact aones_spec hc.2 h2 v hv
mutual
def aimm :AVal→Option IVal
 |.imm d=>some d
 |.fn f [] []=>some (.v (.func (.func f) #[] #[]))
 |.agg cs=>match aimmL cs with|some ds=>if ds.all ione then some (.agg ds)else none|none=>none
 |.tup cs=>match aimmL cs with|some ds=>some (.tup ds)|none=>none
 |_=>none
def aimmL :List AVal→Option (List IVal)
 |[]=>some []
 |x::xs=>match aimm x,aimmL xs with|some d,some ds=>some (d::ds)|_,_=>none
end
mutual
theorem aimm_spec :∀{x:AVal}{d:IVal}{u:Value},aimm x=some d→ARep w F ι x u→IRep w F d u
 |.imm d',d,u,h,hr=>by simp only[aimm,Option.some.injEq]at h;subst h;rw[ARep]at hr;exact hr
 |.agg cs,d,u,h,hr=>by
  rw[aimm]at h
  split at h
  ·rename_i ds hds
   split at h
   ·rename_i hall
    simp only[Option.some.injEq]at h;subst h
    rw[ARep]at hr;rw[IRep]
    obtain⟨vs,h1,h2⟩:=hr
    exact⟨vs,h1,aimmL_spec hds h2,hall⟩
   ·cases h
  ·cases h
 |.tup cs,d,u,h,hr=>by
  rw[aimm]at h
  split at h
  ·rename_i ds hds
   simp only[Option.some.injEq]at h;subst h
   rw[ARep]at hr;rw[IRep]
   obtain⟨vs,h1,h2⟩:=hr
   exact⟨vs,h1,aimmL_spec hds h2⟩
  ·cases h
 |.any,_,_,h,_=>by simp[aimm]at h
 |.ub _,_,_,h,_=>by simp[aimm]at h
 |.ptr _ _,_,_,h,_=>by simp[aimm]at h
 |.rptr _ _ _ _,_,_,h,_=>by simp[aimm]at h
 |.ref _ _ _,_,_,h,_=>by simp[aimm]at h
 |.own _ _,_,_,h,_=>by simp[aimm]at h
 |.win _ _ _,_,_,h,_=>by simp[aimm]at h
 |.mp _,_,_,h,_=>by simp[aimm]at h
 |.fn f [] [],d,u,h,hr=>by
  simp only[aimm,Option.some.injEq]at h;subst h
  rw[ARep]at hr;obtain⟨va,vc,rfl,h1,h2⟩:=hr
  rw[ARepL]at h1 h2
  have e1:va=#[]:=by simpa using h1
  have e2:vc=#[]:=by simpa using h2
  rw[IRep];exact⟨by rw[e1,e2],rfl⟩
 |.fn _ (_::_) _,_,_,h,_=>by simp[aimm]at h
 |.fn _ [] (_::_),_,_,h,_=>by simp[aimm]at h
theorem aimmL_spec :∀{xs:List AVal}{ds:List IVal}{us:List Value},aimmL xs=some ds→ARepL w F ι xs us→IRepL w F ds us
 |[],ds,us,h,hr=>by rw[aimmL]at h;simp only[Option.some.injEq]at h;subst h;rw[ARepL]at hr;rw[IRepL];exact hr
 |x::xs,ds,us,h,hr=>by
  rw[aimmL]at h
  split at h
  ·rename_i d ds' h1 h2
   simp only[Option.some.injEq]at h;subst h
   rw[ARepL]at hr;rw[IRepL]
   obtain⟨u,us',e,h3,h4⟩:=hr
   exact⟨u,us',e,aimm_spec h1 h3,aimmL_spec h2 h4⟩
  ·cases h
end
def xstore (ag:Bool)(k:Nat)(x:AVal)(off:Nat)(y:AVal):Option AVal:=
 if off=0∧ashape y=some (ag,k)∧(ashape x).map (·.2)=some k∧(ag=true∨(ashape x).map (·.1)≠some true)then some y else
 match acells x,acells y with
 |some cs,some ys=>if ys.length=k∧off+k≤cs.length then some (.agg (cs.take off++ys++cs.drop (off+k)))else none
 |_,_=>none
def istore (ag:Bool)(k:Nat)(d:IVal)(off:Nat)(y:IVal):Option IVal:=
 if off=0∧ishape y=some (ag,k)∧(ishape d).map (·.2)=some k then some y else
 match d,icells y with
 |.agg ds,some ys=>if ys.length=k∧off+k≤ds.length then some (.agg (ds.take off++ys++ds.drop (off+k)))else none
 |_,_=>none
def astore (P:Program)(σ:AState)(t:TypeId)(x y:AVal):Option (Nat×Entry):=
 match tld P t,acells y with
 |some (ag,k),some ys=>if ys.all aone then
   match x with
   |.ptr id off=>match boxOf (σ.s id)with
    |some (_,x0)=>match xstore ag k x0 off y with
     |some x1=>some (id,putB x1 (σ.s id))
     |none=>none
    |_=>none
   |.rptr id ke i off=>match rowOf (σ.s id),aimm y with
    |some (_,ke',es),some d=>if ke'=ke∧0<ke then
      match es[i]? with
      |some d0=>match istore ag k d0 off d with
       |some d1=>some (id,putO (es.set i d1) (σ.s id))
       |none=>none
      |none=>none
     else none
    |_,_=>none
   |_=>none
  else none
 |_,_=>none
theorem xstore_in {ag:Bool}{k:Nat}{x:AVal}{off:Nat}{y x1:AVal}(h:xstore ag k x off y=some x1)(hx:AIn K x)(hy:AIn K y):AIn K x1:=by
 unfold xstore at h
 split at h
 ·simp only[Option.some.injEq]at h;subst h;exact hy
 ·split at h
  ·rename_i cs ys h1 h2
   split at h
   ·simp only[Option.some.injEq]at h;subst h
    rw[AIn]
    exact((acells_in h1 hx).take _).append (acells_in h2 hy)|>.append ((acells_in h1 hx).drop _)
   ·cases h
  ·cases h
theorem xstore_spec {ag:Bool}{k:Nat}{x:AVal}{off:Nat}{y x1:AVal}{u v:Value}(h:xstore ag k x off y=some x1)(hx:ARep w F ι x u)(hy:ARep w F ι y v):
  v.cells.size=k∧off+k≤u.cells.size∧∃u',u'.cells.toList=u.cells.toList.take off++v.cells.toList++u.cells.toList.drop (off+k)∧ARep w F ι x1 u':=by
 unfold xstore at h
 split at h
 ·rename_i hw
  obtain⟨rfl,hy1,hx1,_⟩:=hw
  simp only[Option.some.injEq]at h;subst h
  obtain⟨h1,h2,h3⟩:=ashape_spec hy1 hy
  simp only[Option.map_eq_some_iff]at hx1
  obtain⟨⟨ag',k'⟩,hxs,hk'⟩:=hx1
  obtain⟨g1,_,_⟩:=ashape_spec hxs hx
  simp only at hk'
  refine⟨h1,by omega,v,?_,hy⟩
  rw[List.drop_of_length_le (by simp;omega)]
  simp
 ·split at h
  ·rename_i cs ys h1 h2
   split at h
   ·rename_i hk
    simp only[Option.some.injEq]at h;subst h
    have g1:=acells_spec h1 hx
    have g2:=acells_spec h2 hy
    have l1:=g1.length
    have l2:=g2.length
    refine⟨by simpa[hk.1]using l2,by simp at l1;omega,.agg (u.cells.toList.take off++v.cells.toList++u.cells.toList.drop (off+k)).toArray,by simp[Value.cells],?_⟩
    rw[ARep]
    exact⟨_,rfl,by simpa using((g1.take off).append g2).append (g1.drop (off+k))⟩
   ·cases h
  ·cases h
theorem istore_spec {ag:Bool}{k:Nat}{x:IVal}{off:Nat}{y x1:IVal}{u v:Value}(h:istore ag k x off y=some x1)(hx:IRep w F x u)(hy:IRep w F y v):
  v.cells.size=k∧off+k≤u.cells.size∧∃u',u'.cells.toList=u.cells.toList.take off++v.cells.toList++u.cells.toList.drop (off+k)∧IRep w F x1 u':=by
 unfold istore at h
 split at h
 ·rename_i hw
  obtain⟨rfl,hy1,hx1⟩:=hw
  simp only[Option.some.injEq]at h;subst h
  obtain⟨h1,h2,h3⟩:=ishape_spec hy1 hy
  simp only[Option.map_eq_some_iff]at hx1
  obtain⟨⟨ag',k'⟩,hxs,hk'⟩:=hx1
  obtain⟨g1,_,_⟩:=ishape_spec hxs hx
  simp only at hk'
  refine⟨h1,by omega,v,?_,hy⟩
  rw[List.drop_of_length_le (by simp;omega)]
  simp
 ·split at h
  ·have h2:=‹icells y=some _›
   split at h
   ·rename_i hk
    simp only[Option.some.injEq]at h;subst h
    have g1:=icells_spec (rfl:icells (.agg _)=some _) hx
    have g2:=icells_spec h2 hy
    have l1:=g1.length
    have l2:=g2.length
    refine⟨by simpa[hk.1]using l2,by simp at l1;omega,.agg (u.cells.toList.take off++v.cells.toList++u.cells.toList.drop (off+k)).toArray,by simp[Value.cells],?_⟩
    rw[IRep]
    have i1:=icells_ione (rfl:icells (.agg _)=some _) hx
    have i2:=icells_ione h2 hy
    refine⟨_,rfl,by simpa using((g1.take off).append g2).append (g1.drop (off+k)),?_⟩
    simp only[List.all_eq_true]at i1 i2⊢
    intro d hdm
    simp only[List.mem_append]at hdm
    rcases hdm with(hdm|hdm)|hdm
    ·exact i1 d (List.mem_of_mem_take hdm)
    ·exact i2 d hdm
    ·exact i1 d (List.mem_of_mem_drop hdm)
   ·cases h
  ·cases h
theorem list_splice_get (l m:List Value)(o k j:Nat)(hm:m.length=k)(hk:o+k≤l.length)(hj:j<o∨o+k≤j):(l.take o++m++l.drop (o+k))[j]?=l[j]?:=by
 have h1:(l.take o).length=o:=by simp;omega
 rcases hj with hj|hj
 ·rw[List.append_assoc,List.getElem?_append_left (by omega),List.getElem?_take_of_lt hj]
 ·rw[List.getElem?_append_right (by simp;omega),List.getElem?_drop]
  congr 1
  simp;omega
theorem list_splice_mid (l m:List Value)(o k:Nat)(hm:m.length=k)(hk:o+k≤l.length):((l.take o++m++l.drop (o+k)).drop o).take k=m:=by
 have h1:(l.take o).length=o:=by simp;omega
 rw[List.append_assoc,List.drop_append_of_le_length (by omega),List.drop_of_length_le (by omega),List.nil_append,List.take_append_of_le_length (by omega),List.take_of_length_le (by omega)]
theorem Lay.set {c c':Array Value}{k:Nat}(hk:0<k)(hsz:c'.size=c.size){u':Value}(hu':u'.cells.size=k):∀{vs:List Value}{off i:Nat},Lay c off k vs→i<vs.length→
  (∀j,(j<off+i*k∨off+i*k+k≤j)→c'[j]?=c[j]?)→u'.cells.toList=(c'.toList.drop (off+i*k)).take k→Lay c' off k (vs.set i u')
 |[],off,i,_,hi,_,_=>by simp at hi
 |x::xs,off,0,h,_,ho,hc=>by
  obtain⟨h1,h2,h3⟩:=h
  simp only[Nat.zero_mul,Nat.add_zero]at ho hc
  exact⟨by omega,hc,Lay.same hk h3 (fun j h1 _=>ho j (.inr h1))⟩
 |x::xs,off,i+1,h,hi,ho,hc=>by
  obtain⟨h1,h2,h3⟩:=h
  have e:off+(i+1)*k=off+k+i*k:=by rw[Nat.add_mul,Nat.one_mul];omega
  rw[e]at ho hc
  refine⟨by omega,?_,Lay.set hk hsz hu' h3 (by simpa using hi) ho hc⟩
  rw[h2]
  apply List.ext_getElem?
  intro j
  simp only[List.getElem?_take,List.getElem?_drop]
  split
  ·have:=ho (off+j) (.inl (by omega))
   simpa using this.symm
  ·rfl
theorem goes_store (hR:Rel K ι F σ a w){o:Oper}{t:TypeId}{x y:Operand}(ho:o.op=.store t x y)(hd:∀i,o.dst=some i→i<σ.m)(hK:∀i,K i→K' i)
  {id:Nat}{e:Entry}(h:astore P σ t (σ.ev x) (σ.ev y)=some (id,e)):Goes P o a w K ι F σ K' (σ.app o.dst ⟨.any,[(id,some e)]⟩):=by
 unfold astore at h
 split at h
 ·rename_i ag k ys hld hys
  split at h
  ·rename_i hone
   obtain⟨hx1,hx2⟩:=hR.ev x
   obtain⟨hy1,hy2⟩:=hR.ev y
   have hone':=aones_spec hone (acells_spec hys hy2)
   split at h
   ·rename_i id' off hx
    rw[hx,ARep]at hx2
    split at h
    ·rename_i ty x0 he
     split at h
     ·rename_i x1 hs
      simp only[Option.some.injEq,Prod.mk.injEq]at h
      obtain⟨rfl,rfl⟩:=h
      obtain⟨e0,he0,p1,p2,p3,p4⟩:=boxOf_some he
      obtain⟨g1,g2',gE⟩:=hR.ent id' _ he0
      obtain⟨hn,u,g3,g4⟩:=p1 _ _ _ _ gE
      have g2:=p3 _ g2'
      obtain⟨s1,s2,u',s3,s4⟩:=xstore_spec hs g4 hy2
      have hrun:(execOp a.eval o).run P w=.ok .skip (w.setRow (ι id').blk u'.cells):=by
       have:=run_storeVar (P:=P) (w:=w) (t:=t) hld g3 (by intro j _;simp) s2 s1 hone'
       rw[←s3]at this
       simp[execOp,ho,hx2,Instr.storeAt,Instr.sureAddr,this]
      have hkeep:Keeps F w (w.setRow (ι id').blk u'.cells):=fun cl b hb=>setRow_other _ _ _ _ (fun e'=>hR.off _ ⟨id',_,he0,hn,rfl⟩ cl (e' ▸ hb))
      obtain⟨r1,r2⟩:=hR.write id' _ (putB x1 (σ.s id')) he0 hn u'.cells (p4 _ _ (xstore_in hs g2 hy1))
       (p2 _ _ _ _ _ _ _ _ gE ⟨u',setRow_heap w _ _ _ _ _ g3,ARep.keep hkeep (fun _ _ hb=>hb) (fun _ _=>rfl) _ _ (xstore_in hs g2 hy1) s4⟩)
      exact Goes.skip (σ1:={σ with s:=ups σ.s [(id',some (putB x1 (σ.s id')))]}) hrun hd rfl ⟨ι,F,r1.mono hK,r2.more hK⟩
     ·cases h
    ·cases h
   ·rename_i id' ke i off hx
    rw[hx,ARep]at hx2
    split at h
    ·rename_i ty ke' es d he hdy
     split at h
     ·rename_i hke
      obtain⟨rfl,hpos⟩:=hke
      split at h
      ·rename_i d0 hd0
       split at h
       ·rename_i d1 hs
        simp only[Option.some.injEq,Prod.mk.injEq]at h
        obtain⟨rfl,rfl⟩:=h
        obtain⟨e0,hs0,hrow,hput,hputin⟩:=rowOf_some he
        obtain⟨g1,g2,hr0⟩:=hR.ent id' _ hs0
        have hr:RowRep w F (ι id') _ _ _:=hrow _ _ _ _ hr0
        rcases hr with⟨_,rfl⟩|⟨hn,c,fr,vs,h1,h2,h3,h4,h5,h6⟩
        ·simp at hd0
        ·obtain⟨u,hu,hdu⟩:=h5.at hd0
         obtain⟨q1,q2⟩:=h6.at hu
         have hsz:u.cells.size=ke':=by have:=congrArg List.length q2;simp at this;omega
         obtain⟨s1,s2,u',s3,s4⟩:=istore_spec hs hdu (aimm_spec hdy hy2)
         generalize hbase:(ι id').off+i*ke'=base at*
         have hrun:(execOp a.eval o).run P w=.ok .skip (w.setRow (ι id').blk (c.toList.take (base+off)++(a.eval y).cells.toList++c.toList.drop (base+off+k)).toArray):=by
          have:=run_storeVar (P:=P) (w:=w) (t:=t) (off:=base+off) hld h1 h2 (by omega) s1 hone'
          simp[execOp,ho,hx2,Instr.storeAt,Instr.sureAddr,this]
         generalize hc':(c.toList.take (base+off)++(a.eval y).cells.toList++c.toList.drop (base+off+k)).toArray=c' at*
         have hkeep:Keeps F w (w.setRow (ι id').blk c'):=fun cl b hb=>setRow_other _ _ _ _ (fun e'=>hR.off _ ⟨id',_,hs0,hn,rfl⟩ cl (e' ▸ hb))
         have hsize:c'.size=c.size:=by rw[←hc'];simp[s1];omega
         have hcl:c'.toList=c.toList.take (base+off)++(a.eval y).cells.toList++c.toList.drop (base+off+k):=by rw[←hc']
         have hlay:Lay c' (ι id').off ke' (vs.set i u'):=by
          have hu':u'.cells.size=ke':=by have:=congrArg List.length s3;simp at this;omega
          have hil:i<vs.length:=(List.getElem?_eq_some_iff.1 hu).1
          have hlen:(c.toList.take (base+off)).length=base+off:=by simp;omega
          refine Lay.set hpos hsize hu' h6 hil (fun j hj=>?_) ?_
          ·rw[hbase]at hj
           have:=list_splice_get c.toList (a.eval y).cells.toList (base+off) k j (by simpa using s1) (by simp;omega) (by omega)
           rw[←hcl]at this
           simpa using this
          ·rw[hbase,s3,hcl,q2]
           apply List.ext_getElem?
           intro j
           have hyl:(a.eval y).cells.toList.length=k:=by simpa using s1
           simp only[List.getElem?_take,List.getElem?_drop,List.append_assoc,List.getElem?_append,List.length_take,List.length_drop,hyl,Array.length_toList]
           repeat' split
           all_goals first
            |rfl
            |omega
            |(congr 1;omega)
            |(simp;omega)
            |(rw[List.getElem?_eq_none];simp;omega)
         obtain⟨r1,r2⟩:=hR.write id' _ (putE (es.set i d1) e0) hs0 hn c' (hputin _ _)
          (hput _ _ _ _ _ _ _ hr0 (.inr ⟨hn,c',fr,vs.set i u',setRow_heap w _ _ _ _ _ h1,by rw[hsize];exact h2,by omega,by simpa using h4,(h5.set i s4|>.keep hkeep (fun _ _ hb=>hb)),hlay⟩))
         rw[show putO (es.set i d1) (σ.s id')=putE (es.set i d1) e0 from by rw[hs0];rfl]
         exact Goes.skip (σ1:={σ with s:=ups σ.s [(id',some (putE (es.set i d1) e0))]}) hrun hd rfl ⟨ι,F,r1.mono hK,r2.more hK⟩
       ·cases h
      ·cases h
     ·cases h
    ·cases h
   ·cases h
  ·cases h
 ·cases h
theorem goes_storeW (hR:Rel K ι F σ a w){o:Oper}{t:TypeId}{x y:Operand}(ho:o.op=.store t x y)(hd:∀i,o.dst=some i→i<σ.m)(hK:∀i,K i→K' i)
  {id k i ty:Nat}{ag:Bool}{ys:List AVal}{es:List IVal}{d:IVal}(hld:tld P t=some (ag,k))(hys:acells (σ.ev y)=some ys)(hone:ys.all aone=true)(hx:σ.ev x=.rptr id k i 0)(hdy:aimm (σ.ev y)=some d)
  (he:rowOf (σ.s id)=some (ty,k,es))(hpos:0<k)(hsh:ishape d=some (ag,k))(hi:i<es.length):Goes P o a w K ι F σ K' (σ.app o.dst ⟨.any,[(id,some (putO (es.set i d) (σ.s id)))]⟩):=by
 obtain⟨hx1,hx2⟩:=hR.ev x
 obtain⟨hy1,hy2⟩:=hR.ev y
 have hone':=aones_spec hone (acells_spec hys hy2)
 rw[hx,ARep]at hx2
 obtain⟨e0,hs0,hrow,hput,hputin⟩:=rowOf_some he
 obtain⟨g1,g2,hr0⟩:=hR.ent id _ hs0
 have hr:RowRep w F (ι id) _ _ _:=hrow _ _ _ _ hr0
 rcases hr with⟨_,rfl⟩|⟨hn,c,fr,vs,h1,h2,h3,h4,h5,h6⟩
 ·simp at hi
 ·have hd0:es[i]?=some es[i]:=List.getElem?_eq_getElem hi
  obtain⟨u,hu,hdu⟩:=h5.at hd0
  obtain⟨q1,q2⟩:=h6.at hu
  have hdv:=aimm_spec hdy hy2
  obtain⟨s1,_,_⟩:=ishape_spec hsh hdv
  generalize hbase:(ι id).off+i*k=base at*
  have hrun:(execOp a.eval o).run P w=.ok .skip (w.setRow (ι id).blk (c.toList.take base++(a.eval y).cells.toList++c.toList.drop (base+k)).toArray):=by
   have:=run_storeVar (P:=P) (w:=w) (t:=t) (off:=base) hld h1 h2 (by omega) s1 hone'
   simp[execOp,ho,hx2,Instr.storeAt,Instr.sureAddr,this]
  generalize hc':(c.toList.take base++(a.eval y).cells.toList++c.toList.drop (base+k)).toArray=c' at*
  have hkeep:Keeps F w (w.setRow (ι id).blk c'):=fun cl b hb=>setRow_other _ _ _ _ (fun e'=>hR.off _ ⟨id,_,hs0,hn,rfl⟩ cl (e' ▸ hb))
  have hsize:c'.size=c.size:=by rw[←hc'];simp[s1];omega
  have hcl:c'.toList=c.toList.take base++(a.eval y).cells.toList++c.toList.drop (base+k):=by rw[←hc']
  have hlay:Lay c' (ι id).off k (vs.set i (a.eval y)):=by
   have hil:i<vs.length:=(List.getElem?_eq_some_iff.1 hu).1
   refine Lay.set hpos hsize s1 h6 hil (fun j hj=>?_) ?_
   ·rw[hbase]at hj
    have:=list_splice_get c.toList (a.eval y).cells.toList base k j (by simpa using s1) (by simp;omega) (by omega)
    rw[←hcl]at this
    simpa using this
   ·rw[hbase,hcl]
    exact(list_splice_mid c.toList (a.eval y).cells.toList base k (by simpa using s1) (by simp;omega)).symm
  obtain⟨r1,r2⟩:=hR.write id _ (putE (es.set i d) e0) hs0 hn c' (hputin _ _)
   (hput _ _ _ _ _ _ _ hr0 (.inr ⟨hn,c',fr,vs.set i (a.eval y),setRow_heap w _ _ _ _ _ h1,by rw[hsize];exact h2,by omega,by simpa using h4,(h5.set i hdv|>.keep hkeep (fun _ _ hb=>hb)),hlay⟩))
  rw[show putO (es.set i d) (σ.s id)=putE (es.set i d) e0 from by rw[hs0];rfl]
  exact Goes.skip (σ1:={σ with s:=ups σ.s [(id,some (putE (es.set i d) e0))]}) hrun hd rfl ⟨ι,F,r1.mono hK,r2.more hK⟩
end
end Go.Abs
