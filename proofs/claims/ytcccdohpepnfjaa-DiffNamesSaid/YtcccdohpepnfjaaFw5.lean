/- Part 5 of the framework: values as data, own memory, and code reckoned whole. No statement is proved here. -/
import Derived.Test.YtcccdohpepnfjaaFw4
import Derived.LoopN
import Derived.ChangeArms
import Derived.OpenShut
import Derived.DataReads
import Derived.Defers
import Derived.Recover
set_option linter.unusedVariables false
set_option linter.unusedSimpArgs false
namespace Go.Abs
open Go.RowKit
variable {P:Program}
def opKind (fz:Bool):Op→Nat
 |.box _ _=>1
 |.alloc _=>1
 |.buildSlice _ _ _=>1
 |.move _=>0
 |.assign _=>0
 |.pick _ _ _=>0
 |.nilCheck _=>0
 |.load _ _=>0
 |.fieldAddr _ _ _=>0
 |.store _ _ _=>3
 |.indexAddr _ _ _=>0
 |.field _ _ _=>0
 |.extract _ _=>0
 |.makeFunc _ _ _=>0
 |.makeInterface _ _=>0
 |.typeAssert _ _ _ _=>0
 |.build _ _=>0
 |.binOp _ _ _ _ _=>0
 |.unOp _ _ _=>0
 |.convert _ _ _=>0
 |.slice _ _ _ _ _=>if fz=true then 0 else 2
 |.makeMap _ _=>1
 |.makeSlice _ _ _=>1
 |.lookup _ _ _ _=>0
 |.call c=>match c.callee with
  |.builtin .append=>if fz=true then 1 else 2
  |.builtin .len=>0
  |.builtin .max=>0
  |.builtin .min=>0
  |.value _=>if fz=true then 3 else 0
  |_=>2
 |_=>2
def opReads (fz:Bool):Op→Bool
 |.load _ _=>true
 |.lookup _ _ _ _=>true
 |.slice _ _ _ _ _=>!fz
 |.call c=>match c.callee with
  |.builtin .len=>false
  |.builtin .max=>false
  |.builtin .min=>false
  |_=>true
 |_=>false
section
variable {σ τ:AState}
theorem aload_mono (hs:∀id e,σ.s id=some e→τ.s id=some e){t:TypeId}{x y:AVal}(h:aload P σ t x=some y):aload P τ t x=some y:=by
 unfold aload at*
 split at h
 ·split at h
  ·rename_i he;obtain⟨e0,hs0,_⟩:=boxOf_some he;rw[hs0]at he;rw[hs _ _ hs0,he];exact h
  ·cases h
 ·exact h
 ·split at h
  ·rename_i he;obtain⟨e0,hs0,_⟩:=rowOf_some he;rw[hs0]at he;rw[hs _ _ hs0,he];exact h
  ·cases h
 ·cases h
mutual
theorem alend_mono (hs:∀id e,σ.s id=some e→τ.s id=some e):∀{x:AVal}{d:IVal},alend σ x=some d→alend τ x=some d
 |.imm _,_,h=>by rw[alend]at*;exact h
 |.own id n,d,h=>by
  rw[alend]at*
  split at h
  ·rename_i he;rw[hs _ _ he];exact h
  ·cases h
 |.win id off n,d,h=>by
  rw[alend]at*
  split at h
  ·rename_i he;rw[hs _ _ he];exact h
  ·cases h
 |.agg cs,d,h=>by
  rw[alend]at*
  split at h
  ·rename_i ds hds;rw[alendL_mono hs hds];exact h
  ·cases h
 |.any,_,h=>by simp[alend]at h
 |.ub _,_,h=>by simp[alend]at h
 |.ptr _ _,_,h=>by simp[alend]at h
 |.rptr _ _ _ _,_,h=>by simp[alend]at h
 |.ref _ _ _,_,h=>by simp[alend]at h
 |.mp _,_,h=>by simp[alend]at h
 |.tup _,_,h=>by simp[alend]at h
 |.fn _ _ _,_,h=>by simp[alend]at h
theorem alendL_mono (hs:∀id e,σ.s id=some e→τ.s id=some e):∀{xs:List AVal}{ds:List IVal},alendL σ xs=some ds→alendL τ xs=some ds
 |[],_,h=>by rw[alendL]at*;exact h
 |x::xs,ds,h=>by
  rw[alendL]at*
  split at h
  ·rename_i d ds' h1 h2;rw[alend_mono hs h1,alendL_mono hs h2];exact h
  ·cases h
end
theorem asrc_mono (hs:∀id e,σ.s id=some e→τ.s id=some e){k:Nat}{x:AVal}{l:List IVal}(h:asrc σ k x=some l):asrc τ k x=some l:=by
 unfold asrc at*
 split at h
 ·exact h
 ·exact h
 ·exact h
 ·split at h
  ·rename_i he;simp only[hs _ _ he];exact h
  ·cases h
 ·split at h
  ·rename_i he;simp only[hs _ _ he];exact h
  ·cases h
 ·cases h
theorem asrcQ_mono (hs:∀id e,σ.s id=some e→τ.s id=some e){k:Nat}{x:AVal}{l:List IVal×Option Prop}(h:asrcQ σ k x=some l):asrcQ τ k x=some l:=by
 unfold asrcQ at*
 split at h
 ·split at h
  ·rename_i he;simp only[hs _ _ he];exact h
  ·cases h
 ·split at h
  ·rename_i he;simp only[asrc_mono hs he];exact h
  ·cases h
theorem aappend_mono (hs:∀id e,σ.s id=some e→τ.s id=some e){fz:Bool}{j:Nat}{t0 t1:TypeId}{x y:AVal}{E:AEff}(h:aappend P fz j σ t0 t1 x y=some E):aappend P fz j τ t0 t1 x y=some E:=by
 unfold aappend at*
 split at h
 ·split at h
  ·rename_i hn
   simp only[asrc_mono hs hn]
   split at h
   ·rename_i hc
    rw[if_pos hc]
    split at h
    ·split at h
     ·rename_i he;simp only[hs _ _ he];exact h
     ·cases h
    ·exact h
    ·exact h
    ·cases h
   ·cases h
  ·cases h
 ·cases h
def plainB (fz:Bool)(op:Op):Bool:=opKind fz op==0&&!(opReads fz op)
theorem amapOf_mono (hs:∀id e,σ.s id=some e→τ.s id=some e){x:AVal}{r:List Value×List AVal}(h:amapOf σ x=some r):amapOf τ x=some r:=by
 unfold amapOf at*
 split at h
 ·split at h
  ·rename_i he;simp only[hs _ _ he];exact h
  ·cases h
 ·exact h
 ·cases h
theorem astore_eqs (hs:τ.s=σ.s)(t:TypeId)(x y:AVal):astore P τ t x y=astore P σ t x y:=by
 unfold astore;rw[hs]
theorem aevOp_mono {fz:Bool}{j:Nat}{op:Op}{E:AEff}(hk:opKind fz op<2∨τ.s=σ.s)(hev:∀x∈op.operands.toList,τ.ev x=σ.ev x)(hs:opReads fz op=true→∀id e,σ.s id=some e→τ.s id=some e)(h:aevOp P fz j σ op=some E):aevOp P fz j τ op=some E:=by
 cases op with
 |move x=>simp only[aevOp,hev x (by simp[Op.operands])]at*;exact h
 |assign x=>simp only[aevOp,hev x (by simp[Op.operands])]at*;exact h
 |pick c x y=>simp only[aevOp,hev c (by simp[Op.operands]),hev x (by simp[Op.operands]),hev y (by simp[Op.operands])]at*;exact h
 |box t x=>simp only[aevOp,hev x (by simp[Op.operands])]at*;exact h
 |alloc t=>exact h
 |nilCheck x=>simp only[aevOp,hev x (by simp[Op.operands])]at*;exact h
 |load t x=>
  simp only[aevOp,hev x (by simp[Op.operands])]at*
  split at h
  ·rename_i y hy;rw[aload_mono (hs rfl) hy];exact h
  ·cases h
 |fieldAddr s x f=>simp only[aevOp,hev x (by simp[Op.operands])]at*;exact h
 |indexAddr t x i=>simp only[aevOp,hev x (by simp[Op.operands]),hev i (by simp[Op.operands])]at*;exact h
 |field s x f=>simp only[aevOp,hev x (by simp[Op.operands])]at*;exact h
 |extract x i=>simp only[aevOp,hev x (by simp[Op.operands])]at*;exact h
 |makeFunc fn fs cs=>
  have h1:fs.toList.map τ.ev=fs.toList.map σ.ev:=List.map_congr_left fun x hx=>hev x (by simp[Op.operands];exact .inl (by simpa using hx))
  have h2:cs.toList.map τ.ev=cs.toList.map σ.ev:=List.map_congr_left fun x hx=>hev x (by simp[Op.operands];exact .inr (by simpa using hx))
  cases fn<;>simp only[aevOp,h1,h2]at*<;>exact h
 |makeInterface t x=>simp only[aevOp,hev x (by simp[Op.operands])]at*;exact h
 |typeAssert x s t ok=>simp only[aevOp,hev x (by simp[Op.operands])]at*;exact h
 |build t ps=>
  have h1:(ps.toList.map fun p=>(p.1,τ.ev p.2))=ps.toList.map fun p=>(p.1,σ.ev p.2):=List.map_congr_left fun p hp=>by
   rw[hev p.2 (by simp[Op.operands];exact⟨p.1,by simpa using hp⟩)]
  simp only[aevOp,h1]at*;exact h
 |buildSlice t n ps=>
  have h1:(ps.toList.map fun p=>τ.ev p.2)=ps.toList.map fun p=>σ.ev p.2:=List.map_congr_left fun p hp=>by
   rw[hev p.2 (by simp[Op.operands];exact⟨p.1,by simpa using hp⟩)]
  simp only[aevOp,h1]at*;exact h
 |binOp o t x y yt=>simp only[aevOp,hev x (by simp[Op.operands]),hev y (by simp[Op.operands])]at*;exact h
 |unOp o t x=>simp only[aevOp,hev x (by simp[Op.operands])]at*;exact h
 |convert s t x=>simp only[aevOp,hev x (by simp[Op.operands])]at*;exact h
 |slice t x lo hi mx=>
  have hb:∀y:Option Operand,(∀z,y=some z→z∈(Op.slice t x lo hi mx).operands.toList)→bnd τ y=bnd σ y:=by
   intro y hy
   cases y with
   |none=>rfl
   |some z=>simp only[bnd,bnd1,hev z (hy z rfl)]
  have h1:=hb lo (fun z hz=>by subst hz;simp[Op.operands])
  have h2:=hb hi (fun z hz=>by subst hz;simp[Op.operands])
  have h3:=hb mx (fun z hz=>by subst hz;simp[Op.operands])
  simp only[aevOp,h1,h2,h3,hev x (by simp[Op.operands])]
  simp only[aevOp]at h
  split at h
  ·split at h
   ·rename_i hc
    rw[if_pos hc]
    split at h
    ·split at h
     ·rename_i he _
      have hf:fz=false:=by
       split at h
       ·rename_i hc2;exact hc2.1
       ·cases h
      subst hf
      rename_i _ _ _ _ _ _ hq
      simp only[hs rfl _ _ he,hq]
      simpa using h
     ·cases h
    ·exact h
   ·cases h
  ·cases h
 |call c=>
  simp only[aevOp]at h⊢
  split at h
  ·rename_i x t;simp only[hev x (by simp[Op.operands,Call.operands])]at*;exact h
  ·rename_i s x t0 t1
   simp only[hev x (by simp[Op.operands,Call.operands]),hev s (by simp[Op.operands,Call.operands])]
   exact aappend_mono (hs rfl) h
  ·rename_i b x y ts _
   simp only[hev x (by simp[Op.operands,Call.operands]),hev y (by simp[Op.operands,Call.operands])]at*;exact h
  ·cases h
 |makeMap t hh=>
  cases hh with
  |none=>exact h
  |some _=>simp[aevOp]at h
 |makeSlice t l c=>simp only[aevOp,hev l (by simp[Op.operands]),hev c (by simp[Op.operands])]at*;exact h
 |store t x y=>
  have hss:τ.s=σ.s:=hk.resolve_left (by simp[opKind])
  simp only[aevOp,hev x (by simp[Op.operands]),hev y (by simp[Op.operands]),astore_eqs hss]at*;exact h
 |insert t m k x=>
  have hss:τ.s=σ.s:=hk.resolve_left (by simp[opKind])
  simp only[aevOp,hev m (by simp[Op.operands]),hev k (by simp[Op.operands]),hev x (by simp[Op.operands]),hss]at*;exact h
 |_=>simp[aevOp]at h
theorem anextG_reads {fz:Bool}{j id:Nat}{as:List AVal}{bx':List (Nat×AVal)}{new:List Entry}{r:AVal}{op:Op}{q:Prop×AEff}(h:anextG P j σ [id] 1 as bx' new r op=some q):opReads fz op=true∧∃e,σ.s id=some e:=by
 unfold anextG at h
 split at h
 ·refine⟨rfl,?_⟩
  split at h
  ·split at h
   ·rename_i hb _
    simp only[List.take_succ_cons,List.take_zero,gboxes]at hb
    split at hb
    ·rename_i hbo _
     obtain⟨e0,hs0,_⟩:=boxOf_some hbo
     exact⟨e0,hs0⟩
    ·cases hb
   ·cases h
  ·cases h
 ·cases h
theorem anextG_same {j id:Nat}{as:List AVal}{p:Nat×AVal}{r:AVal}{op:Op}(hev:∀x∈op.operands.toList,τ.ev x=σ.ev x)(hs:τ.s id=σ.s id):anextG P j τ [id] 1 as [p] [] r op=anextG P j σ [id] 1 as [p] [] r op:=by
 unfold anextG
 split
 ·rename_i fo args tys
  have h1:args.toList.map τ.ev=args.toList.map σ.ev:=List.map_congr_left fun x hx=>hev x (by simp[Op.operands,Call.operands];exact .inr (by simpa using hx))
  simp only[hev fo (by simp[Op.operands,Call.operands]),h1,List.take_succ_cons,List.take_zero,List.drop_succ_cons,List.drop_zero,gboxes,growsL,gupd,hs,List.length_cons,List.length_nil,List.getD_cons_zero]
  simp[List.range_succ,hs]
 ·rfl
theorem anext_mono0 {fz:Bool}{j:Nat}{orc:Orc}{op:Op}{E:AEff}(hk:opKind fz op<2∨τ.s=σ.s)(hev:∀x∈op.operands.toList,τ.ev x=σ.ev x)(hs:opReads fz op=true→∀id e,σ.s id=some e→τ.s id=some e)
  (h:(anext0 P fz j σ orc op).gives E):(anext0 P fz j τ orc op).gives E:=by
 have ev:∀{E},aevOp P fz j σ op=some E→aevOp P fz j τ op=some E:=fun h=>aevOp_mono hk hev hs h
 have hof:(Out.of (aevOp P fz j σ op)).gives E→(Out.of (aevOp P fz j τ op)).gives E:=by
  intro h
  rw[ev (Out.of_gives h)];rfl
 unfold anext0 at h⊢
 split at h
 ·rename_i d t x ix
  simp only[hev x (by simp[Op.operands]),hev ix (by simp[Op.operands])];exact h
 ·rename_i d t x
  simp only[hev x (by simp[Op.operands])]
  split at h
  ·split at h
   ·rename_i he
    obtain⟨e0,hs0,_⟩:=rowOf_some he;rw[hs0]at he;simp only[hs rfl _ _ hs0,he];exact h
   ·exact h.elim
  ·exact h.elim
 ·rename_i t x ix
  simp only[hev x (by simp[Op.operands]),hev ix (by simp[Op.operands])]
  split at h
  ·exact h
  ·exact hof h
 ·rename_i s x t0 t1
  simp only[hev x (by simp[Op.operands,Call.operands]),hev s (by simp[Op.operands,Call.operands])]
  split at h
  ·split at h
   ·rename_i hn
    simp only[asrcQ_mono (hs rfl) hn]
    split at h
    ·rename_i hc
     rw[if_pos hc]
     split at h
     ·split at h
      ·rename_i he;simp only[hs rfl _ _ he];exact h
      ·exact h.elim
     ·exact h
     ·exact h
     ·exact hof h
    ·exact h.elim
   ·exact h.elim
  ·exact h.elim
 ·rename_i ds r fo args tys
  have h1:args.toList.map τ.ev=args.toList.map σ.ev:=List.map_congr_left fun x hx=>hev x (by simp[Op.operands,Call.operands];exact .inr (by simpa using hx))
  simp only[hev fo (by simp[Op.operands,Call.operands]),h1]
  split at h
  ·split at h
   ·exact h
   ·split at h
    ·rename_i hd
     rw[alendL_mono (hs rfl) hd];exact h
    ·exact h.elim
  ·exact h.elim
 ·rename_i bo t x y yt
  simp only[hev x (by simp[Op.operands]),hev y (by simp[Op.operands])]
  split at h
  ·split at h
   ·exact h
   ·exact h
   ·exact h
   ·exact h
   ·exact hof h
  ·exact hof h
 ·rename_i ds r fo args tys
  have h1:args.toList.map τ.ev=args.toList.map σ.ev:=List.map_congr_left fun x hx=>hev x (by simp[Op.operands,Call.operands];exact .inr (by simpa using hx))
  simp only[hev fo (by simp[Op.operands,Call.operands]),h1]
  split at h
  ·split at h
   ·rename_i hd
    rw[alendL_mono (hs rfl) hd];exact h
   ·exact h.elim
  ·exact h.elim
 ·rename_i ds r fo args tys
  have h1:args.toList.map τ.ev=args.toList.map σ.ev:=List.map_congr_left fun x hx=>hev x (by simp[Op.operands,Call.operands];exact .inr (by simpa using hx))
  simp only[hev fo (by simp[Op.operands,Call.operands]),h1]
  split at h
  ·split at h
   ·rename_i hd
    rw[alendEL_mono (hs rfl) hd];exact h
   ·exact h.elim
  ·exact h.elim
 ·rename_i ds r es' fo args tys
  have h1:args.toList.map τ.ev=args.toList.map σ.ev:=List.map_congr_left fun x hx=>hev x (by simp[Op.operands,Call.operands];exact .inr (by simpa using hx))
  simp only[hev fo (by simp[Op.operands,Call.operands]),h1]
  split at h
  ·rename_i f id n rest hf hargs
   cases hrow:rowOf (σ.s id)with
   |none=>rw[hrow]at h;exact h.elim
   |some q=>
    obtain⟨ty,k,es⟩:=q
    obtain⟨e0,hs0,_⟩:=rowOf_some hrow
    have e1:τ.s id=σ.s id:=by rw[hs rfl _ _ hs0,hs0]
    rw[e1];exact h
  ·exact h.elim
 ·rename_i ds ty k es fo args tys
  have h1:args.toList.map τ.ev=args.toList.map σ.ev:=List.map_congr_left fun x hx=>hev x (by simp[Op.operands,Call.operands];exact .inr (by simpa using hx))
  simp only[hev fo (by simp[Op.operands,Call.operands]),h1]
  exact h
 ·rename_i ids ds r fo args tys
  have h1:args.toList.map τ.ev=args.toList.map σ.ev:=List.map_congr_left fun x hx=>hev x (by simp[Op.operands,Call.operands];exact .inr (by simpa using hx))
  simp only[hev fo (by simp[Op.operands,Call.operands]),h1]
  split at h
  ·split at h
   ·rename_i hd
    split at h
    ·rename_i hok
     simp only[afzL_mono (rst_mono (hs rfl) _) hd,if_pos (okIds_mono (hs rfl) hok)];exact h
    ·exact h.elim
   ·exact h.elim
  ·exact h.elim
 ·rename_i s x t0 t1
  simp only[hev x (by simp[Op.operands,Call.operands]),hev s (by simp[Op.operands,Call.operands])]
  split at h
  ·split at h
   ·rename_i hn
    simp only[asrcQ_mono (hs rfl) hn]
    exact h
   ·exact h.elim
  ·exact h.elim
 ·rename_i d0 t x y
  have hss:τ.s=σ.s:=hk.resolve_left (by simp[opKind])
  simp only[hev x (by simp[Op.operands]),hev y (by simp[Op.operands]),hss]
  exact h
 ·rename_i x b t m k ok
  simp only[hev m (by simp[Op.operands]),hev k (by simp[Op.operands])]
  split at h
  ·rename_i h1 h2 h3
   simp only[h1,h2,amapOf_mono (hs rfl) h3]
   exact h
  ·exact h.elim
 ·rename_i id as ty x r op
  split at h
  ·rename_i p E' hg
   obtain⟨hr,e0,he⟩:=anextG_reads (fz:=fz) hg
   rw[anextG_same hev (by rw[hs hr _ _ he,he]),hg];exact h
  ·exact h.elim
 ·rename_i t x lo hi
  have hb:∀(d:Int)(y:Option Operand),(∀z,y=some z→z∈(Op.slice t x lo hi none).operands.toList)→bndQ τ d y=bndQ σ d y:=by
   intro d y hy
   cases y with
   |none=>rfl
   |some z=>simp only[bndQ,hev z (hy z rfl)]
  simp only[hev x (by simp[Op.operands]),hb _ lo (fun z hz=>by subst hz;simp[Op.operands]),hb _ hi (fun z hz=>by subst hz;simp[Op.operands])]
  exact h
 ·rename_i l s t x
  simp only[hev x (by simp[Op.operands])]
  exact h
 ·rename_i l x y t0 t1
  have hss:τ.s=σ.s:=hk.resolve_left (by simp[opKind])
  simp only[hev x (by simp[Op.operands,Call.operands]),hev y (by simp[Op.operands,Call.operands]),hss]
  split at h
  ·split at h
   ·rename_i h4
    simp only[asrc_mono (fun id e he=>by rw[hss];exact he) h4]
    simp only[*]at h⊢
   ·exact h.elim
  ·exact h.elim
 ·exact⟨ev h.1,h.2⟩
 ·exact hof h
theorem anext_same {fz:Bool}{j:Nat}{orc:Orc}{op:Op}{E:AEff}(hev:∀x∈op.operands.toList,τ.ev x=σ.ev x)(h0:∀orc,(anext0 P fz j σ orc op).gives E→(anext0 P fz j τ orc op).gives E)(h:(anext P fz j σ orc op).gives E):(anext P fz j τ orc op).gives E:=by
 unfold anext at h⊢
 cases orc with
 |probe=>
  simp only at h⊢
  cases op with
  |indexAddr t x ix=>
   simp only[hev x (by simp[Op.operands])]at h⊢
   split at h
   ·exact h.elim
   ·exact h0 _ h
  |load t x=>
   simp only[hev x (by simp[Op.operands])]at h⊢
   split at h
   ·exact h.elim
   ·exact h0 _ h
  |store t x y=>
   simp only[hev x (by simp[Op.operands])]at h⊢
   split at h
   ·exact h.elim
   ·exact h0 _ h
  |_=>exact h0 _ h
 |_=>exact h0 _ h
theorem anext_mono {fz:Bool}{j:Nat}{orc:Orc}{op:Op}{E:AEff}(hk:opKind fz op<2∨τ.s=σ.s)(hev:∀x∈op.operands.toList,τ.ev x=σ.ev x)(hs:opReads fz op=true→∀id e,σ.s id=some e→τ.s id=some e)
  (h:(anext P fz j σ orc op).gives E):(anext P fz j τ orc op).gives E:=anext_same hev (fun _ h=>anext_mono0 hk hev hs h) h
theorem anext_eqs {fz:Bool}{j:Nat}{orc:Orc}{op:Op}{E:AEff}(hev:∀x∈op.operands.toList,τ.ev x=σ.ev x)(hs:τ.s=σ.s)(h:(anext P fz j σ orc op).gives E):(anext P fz j τ orc op).gives E:=
 anext_mono (.inr hs) hev (fun _ _ _ h=>by rw[hs];exact h) h
theorem call_same {fz:Bool}{j:Nat}{orc:Orc}{fo:Operand}{args:Array Operand}{tys:Array TypeId}{E:AEff}(hev:∀x∈(Op.call {callee:=.value fo,args,argTypes:=tys}).operands.toList,τ.ev x=σ.ev x)(hE:∃q e,E.s=[(q,some e)])(hs:∀p∈E.s,τ.s p.1=σ.s p.1)
  (h:(anext P fz j σ orc (.call {callee:=.value fo,args,argTypes:=tys})).gives E):(anext P fz j τ orc (.call {callee:=.value fo,args,argTypes:=tys})).gives E:=by
 have h1:args.toList.map τ.ev=args.toList.map σ.ev:=List.map_congr_left fun x hx=>hev x (by simp[Op.operands,Call.operands];exact .inr (by simpa using hx))
 have h2:=hev fo (by simp[Op.operands,Call.operands])
 obtain⟨q,e,hE⟩:=hE
 refine anext_same hev (fun orc h=>?_) h
 have hno:aevOp P fz j σ (.call {callee:=.value fo,args,argTypes:=tys})=none:=rfl
 cases orc with
 |call ds r=>
  exfalso
  simp only[anext0]at h
  split at h
  ·split at h
   ·obtain⟨_,rfl⟩:=h;cases hE
   ·split at h
    ·obtain⟨_,rfl⟩:=h;cases hE
    ·exact h.elim
  ·exact h.elim
 |ext ds r=>
  exfalso
  simp only[anext0]at h
  split at h
  ·split at h
   ·obtain⟨_,rfl⟩:=h;cases hE
   ·exact h.elim
  ·exact h.elim
 |calle ds r=>
  exfalso
  simp only[anext0]at h
  split at h
  ·split at h
   ·obtain⟨_,rfl⟩:=h;cases hE
   ·exact h.elim
  ·exact h.elim
 |callf ids ds r=>
  exfalso
  simp only[anext0]at h
  split at h
  ·split at h
   ·split at h
    ·obtain⟨_,rfl⟩:=h
     cases ids with
     |nil=>cases hE
     |cons i l=>simp at hE
    ·exact h.elim
   ·exact h.elim
  ·exact h.elim
 |callw ds r es'=>
  simp only[anext0,h1,h2]at h⊢
  split at h
  ·rename_i f id n rest hf hargs
   have hid:τ.s id=σ.s id:=by
    split at h
    ·obtain⟨_,h'⟩:=h
     exact hs (id,some (putO es' (σ.s id))) (by rw[←h'];simp)
    ·exact h.elim
   simp only[hid];exact h
  ·exact h.elim
 |callo ds ty k es=>simp only[anext0,h1,h2]at h⊢;exact h
 |callb id as ty x r=>
  simp only[anext0]at h⊢
  have hid:τ.s id=σ.s id:=by
   split at h
   ·rename_i p E' hg
    obtain⟨_,rfl⟩:=h
    have:∃e',(id,e')∈E'.s:=by
     clear hno
     revert hg
     generalize hop:Op.call {callee:=.value fo,args,argTypes:=tys}=op
     intro hg
     unfold anextG at hg
     split at hg
     ·split at hg
      ·split at hg
       ·split at hg
        ·simp only[Option.some.injEq,Prod.mk.injEq]at hg
         obtain⟨_,rfl⟩:=hg
         exact⟨some (putB (ren (gup 1 [id] j) x) (σ.s id)),by simp[gupd,List.range_succ]⟩
        ·cases hg
       ·cases hg
      ·cases hg
     ·cases hg
    obtain⟨e',he⟩:=this
    exact hs _ he
   ·exact h.elim
  rw[anextG_same hev hid];exact h
 |eff E'=>obtain⟨h,_⟩:=h;rw[hno]at h;cases h
 |callg ids nb as bx' new r=>exact h.elim
 |no=>exact h.elim
 |elem d=>exact h.elim
 |apo=>exact h.elim
 |look x b=>exact h.elim
 |slc=>exact h.elim
 |tos l=>exact h.elim
 |may _ _ _ _ _ _=>exact h.elim
 |cpy l=>exact h.elim
 |probe=>exact h.elim
end
def bitAt (m k:Nat):Bool:=m.testBit k
def predOf (acc:List Nat)(o:Oper):Nat:=o.after.toList.foldl (fun s e=>if Region.binds .any e=true then s|||2^e.on|||acc.getD e.on 0 else s) 0
def predL :List Oper→List Nat→List Nat
 |[],acc=>acc
 |o::l,acc=>predL l (acc++[predOf acc o])
theorem predOf_spec {acc:List Nat}{o:Oper}{k:Nat}(h:bitAt (predOf acc o) k=true):∃e∈o.after.toList,Region.binds .any e=true∧(k=e.on∨bitAt (acc.getD e.on 0) k=true):=by
 unfold predOf at h
 have key:∀(es:List Edge)(s:Nat),bitAt (es.foldl (fun s e=>if Region.binds .any e=true then s|||2^e.on|||acc.getD e.on 0 else s) s) k=true→bitAt s k=true∨∃e∈es,Region.binds .any e=true∧(k=e.on∨bitAt (acc.getD e.on 0) k=true):=by
  intro es
  induction es with
  |nil=>intro s h;exact .inl h
  |cons e es ih=>
   intro s h
   simp only[List.foldl_cons]at h
   rcases ih _ h with h|⟨e',h1,h2⟩
   ·split at h
    ·rename_i hb
     unfold bitAt at h
     rw[Nat.testBit_or,Nat.testBit_or,Nat.testBit_two_pow]at h
     simp only[Bool.or_eq_true,decide_eq_true_eq]at h
     rcases h with(h|h)|h
     ·exact .inl h
     ·exact .inr ⟨e,by simp,hb,.inl h.symm⟩
     ·exact .inr ⟨e,by simp,hb,.inr h⟩
    ·exact .inl h
   ·exact .inr ⟨e',by simp[h1],h2⟩
 rcases key _ _ h with h|h
 ·simp[bitAt]at h
 ·exact h
theorem predL_get :∀(l:List Oper)(acc:List Nat)(i:Nat),i<acc.length→(predL l acc).getD i 0=acc.getD i 0
 |[],acc,i,_=>rfl
 |o::l,acc,i,h=>by
  rw[predL,predL_get l _ i (by simp;omega)]
  simp[List.getD_eq_getElem?_getD,List.getElem?_append,h]
theorem predL_at :∀(l:List Oper)(acc:List Nat)(j:Nat)(o:Oper),l[j]?=some o→∃acc',(predL l acc).getD (acc.length+j) 0=predOf acc' o∧acc'.length=acc.length+j∧∀i,i<acc.length+j→acc'.getD i 0=(predL l acc).getD i 0
 |[],acc,j,o,h=>by simp at h
 |o'::l,acc,0,o,h=>by
  simp only[List.getElem?_cons_zero,Option.some.injEq]at h;subst h
  refine⟨acc,?_,by simp,fun i hi=>?_⟩
  ·rw[predL,Nat.add_zero,predL_get l _ _ (by simp)]
   simp[List.getD_eq_getElem?_getD]
  ·rw[predL,predL_get l _ i (by simp;omega)]
   simp at hi
   simp[List.getD_eq_getElem?_getD,List.getElem?_append,hi]
 |o'::l,acc,j+1,o,h=>by
  simp only[List.getElem?_cons_succ]at h
  obtain⟨acc',h1,h2,h3⟩:=predL_at l (acc++[predOf acc o']) j o h
  simp only[List.length_append,List.length_cons,List.length_nil]at h1 h2 h3
  refine⟨acc',?_,by omega,fun i hi=>?_⟩
  ·rw[predL,←h1];congr 1;omega
  ·rw[predL];exact h3 i (by omega)
def looks (ops:List Oper)(o:Oper):List Nat:=
 (o.op.operands.toList.filterMap fun|.tmp t=>some t|_=>none)++
 (match o.guard with
  |some (g,_)=>match ops[g]? with
   |some og=>match og.dst with
    |some d=>[d]
    |none=>[]
   |none=>[]
  |none=>[])
def freeB (fz:Nat→Bool)(G:Nat→Nat)(base:Nat)(ops:List Oper)(k:Nat)(ok:Oper)(i:Nat)(o:Oper):Bool:=
 let ki:=opKind (fz i) o.op
 let kk:=opKind (fz k) ok.op
 let dj:=G i != 0&&G k != 0&&G i != G k
 (match ok.dst with|some d=>!((looks ops o).contains d)&&o.dst != some d|none=>true)&&
 (match o.dst with|some d=>!((looks ops ok).contains d)|none=>true)&&
 (ki != 2||plainB (fz k) ok.op)&&(kk != 2||plainB (fz i) o.op)&&!(ki==3&&kk==3)&&
 (!(opReads (fz i) o.op)||kk != 1||(G i != 0&&G i != base+k+2))&&
 (kk != 3||!(opReads (fz i) o.op)||dj)&&
 (ki != 3||!(opReads (fz k) ok.op)||dj)&&
 (ki != 3||kk != 1||(G i != 0&&G i != base+k+2))
def ordOne (fz:Nat→Bool)(G:Nat→Nat)(base:Nat)(ops:List Oper)(M:List Nat)(i:Nat)(o:Oper)(k:Nat)(ok:Oper):Bool:=
 if k<i then bitAt (M.getD i 0) k||freeB fz G base ops k ok i o else true
def ordAll (fz:Nat→Bool)(G:Nat→Nat)(base:Nat)(ops:List Oper)(M:List Nat)(i:Nat)(o:Oper):Nat→List Oper→Bool
 |_,[]=>true
 |k,ok::l=>ordOne fz G base ops M i o k ok&&ordAll fz G base ops M i o (k+1) l
def ordAft (i:Nat)(o:Oper):Bool:=o.after.toList.all fun e=>!(Region.binds .any e)||decide (e.on<i)
def ordEach (fz:Nat→Bool)(G:Nat→Nat)(base:Nat)(ops:List Oper)(M:List Nat):Nat→List Oper→Bool
 |_,[]=>true
 |i,o::l=>ordAft i o&&ordAll fz G base ops M i o 0 ops&&ordEach fz G base ops M (i+1) l
def ordB (fz:Nat→Bool)(G:Nat→Nat)(base:Nat)(ops:List Oper):Bool:=ordEach fz G base ops (predL ops []) 0 ops
theorem ordAll_spec {fz:Nat→Bool}{G:Nat→Nat}{base:Nat}{ops:List Oper}{M:List Nat}{i:Nat}{o:Oper}:∀{k:Nat}{l:List Oper},ordAll fz G base ops M i o k l=true→∀j ok,l[j]?=some ok→ordOne fz G base ops M i o (k+j) ok=true
 |k,[],_,j,ok,h=>by simp at h
 |k,ok'::l,h,j,ok,hj=>by
  rw[ordAll,Bool.and_eq_true]at h
  cases j with
  |zero=>simp only[List.getElem?_cons_zero,Option.some.injEq]at hj;subst hj;exact h.1
  |succ j=>have:=ordAll_spec h.2 j ok (by simpa using hj);rwa[show k+1+j=k+(j+1)from by omega]at this
theorem ordEach_spec {fz:Nat→Bool}{G:Nat→Nat}{base:Nat}{ops:List Oper}{M:List Nat}:∀{i:Nat}{l:List Oper},ordEach fz G base ops M i l=true→∀j o,l[j]?=some o→ordAft (i+j) o=true∧ordAll fz G base ops M (i+j) o 0 ops=true
 |i,[],_,j,o,h=>by simp at h
 |i,o'::l,h,j,o,hj=>by
  rw[ordEach,Bool.and_eq_true,Bool.and_eq_true]at h
  cases j with
  |zero=>simp only[List.getElem?_cons_zero,Option.some.injEq]at hj;subst hj;exact h.1
  |succ j=>have:=ordEach_spec h.2 j o (by simpa using hj);rwa[show i+1+j=i+(j+1)from by omega]at this
def isImm :AVal→Bool
 |.imm _=>true
 |_=>false
def tgt (σ:AState):Op→Option Nat
 |.load _ x=>match σ.ev x with
  |.ptr id _=>some id
  |.rptr id _ _ _=>some id
  |_=>none
 |_=>none
def isLoad :Op→Bool
 |.load _ _=>true
 |_=>false
def allImm :List AVal→Option (List IVal)
 |[]=>some []
 |.imm d::l=>match allImm l with
  |some ds=>some (d::ds)
  |none=>none
 |_::_=>none
def isPure (σ:AState)(op:Op):Bool:=
 match op with
 |.call {callee:=.value fo,args,argTypes:=_}=>match afn (σ.ev fo)with
  |some (_,[],[])=>(allImm (args.toList.map σ.ev)).isSome
  |_=>false
 |_=>false
theorem allImm_aimm :∀{xs:List AVal}{ds:List IVal},allImm xs=some ds→aimmL (xs.map fnI)=some ds
 |[],ds,h=>by rw[allImm]at h;simp only[Option.some.injEq]at h;subst h;rfl
 |.imm d::l,ds,h=>by
  rw[allImm]at h
  split at h
  ·rename_i ds' h'
   simp only[Option.some.injEq]at h;subst h
   rw[List.map_cons,aimmL,allImm_aimm h']
   simp[fnI,aimm]
  ·cases h
theorem allImm_alend {σ:AState}:∀{xs:List AVal}{ds:List IVal},allImm xs=some ds→alendL σ (xs.map fnI)=some ds
 |[],ds,h=>by rw[allImm]at h;simp only[Option.some.injEq]at h;subst h;rfl
 |.imm d::l,ds,h=>by
  rw[allImm]at h
  split at h
  ·rename_i ds' h'
   simp only[Option.some.injEq]at h;subst h
   rw[List.map_cons,alendL,allImm_alend h']
   simp[fnI,alend]
  ·cases h
theorem allImm_alendE {σ:AState}:∀{xs:List AVal}{ds:List IVal},allImm xs=some ds→alendEL σ (xs.map fnI)=some ([],ds)
 |[],ds,h=>by rw[allImm]at h;simp only[Option.some.injEq]at h;subst h;rfl
 |.imm d::l,ds,h=>by
  rw[allImm]at h
  split at h
  ·rename_i ds' h'
   simp only[Option.some.injEq]at h;subst h
   rw[List.map_cons,alendEL,allImm_alendE h']
   simp[fnI,alendE]
  ·cases h
theorem allImm_afz {σ:AState}:∀{xs:List AVal}{ds:List IVal},allImm xs=some ds→afzL σ (xs.map fnI)=some ([],ds)
 |[],ds,h=>by rw[allImm]at h;simp only[Option.some.injEq]at h;subst h;rfl
 |.imm d::l,ds,h=>by
  rw[allImm]at h
  split at h
  ·rename_i ds' h'
   simp only[Option.some.injEq]at h;subst h
   rw[List.map_cons,afzL,allImm_afz h']
   simp[fnI,afz]
  ·cases h
theorem call_pure {σ τ:AState}{fz:Bool}{j:Nat}{orc:Orc}{op:Op}{E:AEff}(hev:∀x∈op.operands.toList,τ.ev x=σ.ev x)(hp:isPure σ op=true)(hE:E.s=[])
  (h:(anext P fz j σ orc op).gives E):(anext P fz j τ orc op).gives E:=by
 unfold isPure at hp
 split at hp
 ·rename_i fo args tys
  split at hp
  ·rename_i f hf
   obtain⟨ds0,hx⟩:=Option.isSome_iff_exists.1 hp
   have h1:args.toList.map τ.ev=args.toList.map σ.ev:=List.map_congr_left fun x hx=>hev x (by simp[Op.operands,Call.operands];exact .inr (by simpa using hx))
   have h2:=hev fo (by simp[Op.operands,Call.operands])
   refine anext_same hev (fun orc h=>?_) h
   have hno:aevOp P fz j σ (.call {callee:=.value fo,args,argTypes:=tys})=none:=rfl
   have e0:([]++args.toList.map σ.ev++[])=args.toList.map σ.ev:=by simp
   cases orc with
   |call ds r=>simp only[anext0,h1,h2,hf,e0,allImm_aimm hx]at h⊢;exact h
   |ext ds r=>simp only[anext0,h1,h2,hf,e0,allImm_alend hx]at h⊢;exact h
   |calle ds r=>simp only[anext0,h1,h2,hf,e0,allImm_alendE hx]at h⊢;exact h
   |callf ids ds r=>
    simp only[anext0,h1,h2,hf,e0,allImm_afz hx]at h⊢
    split at h
    ·obtain⟨h',rfl⟩:=h
     have:ids=[]:=by simpa using hE
     subst this
     exact⟨h',rfl⟩
    ·exact h.elim
   |callw ds r es'=>
    exfalso
    simp only[anext0,hf]at h
    split at h
    ·split at h
     ·obtain⟨_,rfl⟩:=h;cases hE
     ·exact h.elim
    ·exact h.elim
   |callo ds ty k es=>
    exfalso
    simp only[anext0,hf]at h
    split at h
    ·obtain⟨_,rfl⟩:=h;cases hE
    ·exact h.elim
   |callb id as ty x r=>
    exfalso
    simp only[anext0]at h
    split at h
    ·rename_i p E' hg
     obtain⟨_,rfl⟩:=h
     have:∃e',(id,e')∈E'.s:=by
      clear hno
      revert hg
      generalize hop:Op.call {callee:=.value fo,args,argTypes:=tys}=op
      intro hg
      unfold anextG at hg
      split at hg
      ·split at hg
       ·split at hg
        ·split at hg
         ·simp only[Option.some.injEq,Prod.mk.injEq]at hg
          obtain⟨_,rfl⟩:=hg
          exact⟨some (putB (ren (gup 1 [id] j) x) (σ.s id)),by simp[gupd,List.range_succ]⟩
         ·cases hg
        ·cases hg
       ·cases hg
      ·cases hg
     obtain⟨e',he⟩:=this
     rw[hE]at he;cases he
    ·exact h.elim
   |eff E'=>obtain⟨h,_⟩:=h;rw[hno]at h;cases h
   |_=>exact h.elim
  ·cases hp
 ·cases hp
def kindOk (fz:Nat→Bool)(G:Nat→Nat)(base i:Nat)(σ:AState)(op:Op)(E:AEff):Bool:=
 match opKind (fz i) op with
 |0=>(match E.s with
  |[]=>true
  |_=>false)&&(G i==0||(isLoad op&&(match tgt σ op with|none=>G i==1|some id=>G i==id+2))||(isPure σ op&&G i==1))
 |1=>(match E.s with
  |[]=>true
  |[(j,some _)]=>j==base+i
  |[(j,some _),(j',none)]=>j==base+i&&j'==base+i
  |_=>false)&&G i==0
 |3=>match E.s with
  |[(j,some _)]=>decide (j≤base+i)&&(G i==0||G i==j+2)
  |_=>false
 |_=>(E.s.all fun p=>decide (p.1≤base+i))&&G i==0
def gsee (P:Program)(σ:AState)(ops:List Oper):Nat→Nat→Operand→AVal
 |0,_,_=>.any
 |f+1,n,.tmp d=>match(ops.take n).findIdx? (fun o=>o.dst==some d)with
  |some j=>(match ops[j]? with
   |some o=>(match o.op with
    |.fieldAddr s x fl=>(afld P s fl (gsee P σ ops f j x)).getD .any
    |.load t x=>(aload P σ t (gsee P σ ops f j x)).getD .any
    |.move x=>gsee P σ ops f j x
    |.nilCheck x=>gsee P σ ops f j x
    |_=>.any)
   |none=>.any)
  |none=>σ.t d
 |_,_,_=>.any
def gptr (P:Program)(σ:AState)(base:Nat)(ops:List Oper):Nat→Nat→Operand→Nat
 |0,_,_=>0
 |f+1,n,.tmp d=>match(ops.take n).findIdx? (fun o=>o.dst==some d)with
  |some j=>(match ops[j]? with
   |some o=>(match o.op with
    |.alloc _=>base+j+2
    |.box _ _=>base+j+2
    |.fieldAddr _ x _=>gptr P σ base ops f j x
    |.indexAddr _ x _=>gptr P σ base ops f j x
    |.move x=>gptr P σ base ops f j x
    |.nilCheck x=>gptr P σ base ops f j x
    |.load t x=>(match aload P σ t (gsee P σ ops 8 j x)with
     |some (.own k _)=>k+2
     |some (.ptr k _)=>k+2
     |some (.rptr k _ _ _)=>k+2
     |_=>1)
    |_=>0)
   |none=>0)
  |none=>(match σ.t d with
   |.ptr id _=>id+2
   |.rptr id _ _ _=>id+2
   |.own id _=>id+2
   |.ref _ _ _=>1
   |.imm _=>1
   |_=>0)
 |_,_,_=>0
def gof (P:Program)(fz:Nat→Bool)(σ:AState)(base:Nat)(ops:List Oper)(i:Nat):Nat:=
 match ops[i]? with
 |some o=>(match o.op with
  |.load _ x=>gptr P σ base ops 8 i x
  |.store _ x _=>gptr P σ base ops 8 i x
  |.call c=>(match c.callee,c.args.toList with
   |.value _,x::_=>if fz i=true then(match gptr P σ base ops 8 i x with|0=>base+i+2|1=>base+i+2|g+2=>g+2)else if c.args.toList.length=1∧isImm (gsee P σ ops 8 i x)=true then 1 else 0
   |_,_=>0)
  |_=>0)
 |none=>0
theorem load_same0 {σ τ:AState}{fz:Bool}{j:Nat}{orc:Orc}{t:TypeId}{x:Operand}{E:AEff}(hev:τ.ev x=σ.ev x)(hs:∀id e,tgt σ (.load t x)=some id→σ.s id=some e→τ.s id=some e)(h:(anext0 P fz j σ orc (.load t x)).gives E):(anext0 P fz j τ orc (.load t x)).gives E:=by
 have key:∀y,aload P σ t (σ.ev x)=some y→aload P τ t (σ.ev x)=some y:=by
  intro y h
  unfold aload at*
  split at h
  ·rename_i id off hx
   split at h
   ·rename_i he
    obtain⟨e0,hs0,_⟩:=boxOf_some he
    simp only[hs id _ (by simp[tgt,hx]) hs0,←hs0,he];exact h
   ·cases h
  ·exact h
  ·rename_i id k i off hx
   split at h
   ·rename_i he
    obtain⟨e0,hs0,_⟩:=rowOf_some he
    simp only[hs id _ (by simp[tgt,hx]) hs0,←hs0,he];exact h
   ·cases h
  ·cases h
 have ev:∀{E},aevOp P fz j σ (.load t x)=some E→aevOp P fz j τ (.load t x)=some E:=by
  intro E h
  simp only[aevOp,hev]at h⊢
  split at h
  ·rename_i y hy;rw[key y hy];exact h
  ·cases h
 have hof:(Out.of (aevOp P fz j σ (.load t x))).gives E→(Out.of (aevOp P fz j τ (.load t x))).gives E:=by
  intro h
  rw[ev (Out.of_gives h)];rfl
 cases orc with
 |elem d=>
  simp only[anext0,hev]at h⊢
  split at h
  ·rename_i id k i off hx
   split at h
   ·rename_i he
    obtain⟨e0,hs0,_⟩:=rowOf_some he;rw[hs0]at he;simp only[hs id _ (by simp[tgt,hx]) hs0,he];exact h
   ·exact h.elim
  ·exact h.elim
 |eff E'=>exact⟨ev h.1,h.2⟩
 |no=>exact hof h
 |call ds r=>exact hof h
 |ext ds r=>exact hof h
 |calle ds r=>exact hof h
 |callw ds r es'=>exact hof h
 |callo ds ty k es=>exact hof h
 |callf ids ds r=>exact hof h
 |apo=>exact hof h
 |look x b=>exact hof h
 |slc=>exact hof h
 |tos l=>exact hof h
 |may _ _ _ _ _ _=>exact hof h
 |cpy l=>exact hof h
 |callb id as ty x r=>exact h.elim
 |callg ids nb as bx' new r=>exact hof h
 |probe=>exact hof h
theorem load_same {σ τ:AState}{fz:Bool}{j:Nat}{orc:Orc}{t:TypeId}{x:Operand}{E:AEff}(hev:τ.ev x=σ.ev x)(hs:∀id e,tgt σ (.load t x)=some id→σ.s id=some e→τ.s id=some e)(h:(anext P fz j σ orc (.load t x)).gives E):(anext P fz j τ orc (.load t x)).gives E:=
 anext_same (fun y hy=>by simp[Op.operands]at hy;rw[hy];exact hev) (fun _ h=>load_same0 hev hs h) h
theorem store_same0 {σ τ:AState}{fz:Bool}{j:Nat}{orc:Orc}{t:TypeId}{x y:Operand}{E:AEff}(hev:τ.ev x=σ.ev x)(hev':τ.ev y=σ.ev y)(hs:∀p∈E.s,τ.s p.1=σ.s p.1)(h:(anext0 P fz j σ orc (.store t x y)).gives E):(anext0 P fz j τ orc (.store t x y)).gives E:=by
 have ev:aevOp P fz j σ (.store t x y)=some E→aevOp P fz j τ (.store t x y)=some E:=by
  intro h
  simp only[aevOp,hev,hev']at h⊢
  split at h
  ·rename_i i0 e0 hq
   have hE:E.s=[(i0,some e0)]:=by
    simp only[Option.some.injEq]at h;rw[←h]
   have hq':astore P τ t (σ.ev x) (σ.ev y)=some (i0,e0):=by
    have hs':=hs (i0,some e0) (by rw[hE];simp)
    unfold astore at*
    split at hq
    ·split at hq
     ·rename_i hc
      rw[if_pos hc]
      split at hq
      ·rename_i id off hx
       split at hq
       ·rename_i he
        split at hq
        ·rename_i h3
         simp only[Option.some.injEq,Prod.mk.injEq]at hq
         obtain⟨rfl,rfl⟩:=hq
         simp only at hs'
         simp only[hs',he,h3]
        ·cases hq
       ·cases hq
      ·rename_i id ke i off hx
       split at hq
       ·rename_i h1 h2
        split at hq
        ·rename_i hk
         split at hq
         ·rename_i h3
          split at hq
          ·rename_i h4
           simp only[Option.some.injEq,Prod.mk.injEq]at hq
           obtain⟨rfl,rfl⟩:=hq
           simp only at hs'
           simp only[hs',h1,h2,if_pos hk,h3,h4]
          ·cases hq
         ·cases hq
        ·cases hq
       ·cases hq
      ·cases hq
     ·cases hq
    ·cases hq
   rw[hq'];exact h
  ·cases h
 have hof:(Out.of (aevOp P fz j σ (.store t x y))).gives E→(Out.of (aevOp P fz j τ (.store t x y))).gives E:=by
  intro h
  rw[ev (Out.of_gives h)];rfl
 cases orc with
 |eff E'=>
  obtain⟨h1,rfl⟩:=h
  exact⟨ev h1,rfl⟩
 |no=>exact hof h
 |elem d=>
  simp only[anext0,hev,hev']at h⊢
  split at h
  ·rename_i ag k ys id ke i d h1 h2 h3 h4
   split at h
   ·rename_i ty ke' es hrow
    split at h
    ·rename_i hc
     obtain⟨g1,g2⟩:=h
     have hs':=hs (id,some (putO (es.set i d) (σ.s id))) (by rw[←g2];simp)
     simp only at hs'
     simp only[hs',hrow,if_pos hc]
     exact⟨g1,g2⟩
    ·exact h.elim
   ·exact h.elim
  ·exact h.elim
 |call ds r=>exact hof h
 |ext ds r=>exact hof h
 |calle ds r=>exact hof h
 |callw ds r es'=>exact hof h
 |callo ds ty k es=>exact hof h
 |callf ids ds r=>exact hof h
 |apo=>exact hof h
 |look x b=>exact hof h
 |slc=>exact hof h
 |tos l=>exact hof h
 |may _ _ _ _ _ _=>exact hof h
 |cpy l=>exact hof h
 |callb id as ty x r=>exact h.elim
 |callg ids nb as bx' new r=>exact hof h
 |probe=>exact hof h
theorem store_same {σ τ:AState}{fz:Bool}{j:Nat}{orc:Orc}{t:TypeId}{x y:Operand}{E:AEff}(hev:τ.ev x=σ.ev x)(hev':τ.ev y=σ.ev y)(hs:∀p∈E.s,τ.s p.1=σ.s p.1)(h:(anext P fz j σ orc (.store t x y)).gives E):(anext P fz j τ orc (.store t x y)).gives E:=
 anext_same (fun z hz=>by simp[Op.operands]at hz;rcases hz with rfl|rfl;exact hev;exact hev') (fun _ h=>store_same0 hev hev' hs h) h
end Go.Abs
namespace Go.Abs
open Go.RowKit
variable {P:Program}
def dflt :AEff:=⟨.any,[]⟩
def eff (Es:List AEff)(i:Nat):AEff:=Es.getD i dflt
def stt (ops:List Oper)(Es:List AEff)(σ:AState):Nat→AState
 |0=>σ
 |i+1=>match ops[i]? with
  |some o=>(stt ops Es σ i).app o.dst (eff Es i)
  |none=>stt ops Es σ i
theorem stt_shift (o:Oper)(l:List Oper)(E:AEff)(Es:List AEff)(σ:AState)(j:Nat):stt (o::l) (E::Es) σ (j+1)=stt l Es (σ.app o.dst E) j:=by
 induction j with
 |zero=>simp[stt,eff]
 |succ j ih=>
  rw[stt,ih]
  simp only[List.getElem?_cons_succ,stt]
  rfl
theorem steps_spec {fz:Nat→Bool}{O:Nat→Orc}{ck:Nat→AState→Op→AEff→Bool}{base:Nat}{ops:List Oper}:∀(l:List Oper)(i:Nat)(σ:AState)(Es:List AEff)(τ:AState),Steps P fz O ck base ops i l σ Es τ→
  (∀j o,l[j]?=some o→Gate P fz O ck base ops (i+j) o (stt l Es σ j) (eff Es j))∧τ=stt l Es σ l.length
 |[],i,σ,Es,τ,h=>⟨fun j o h=>by simp at h,h.2⟩
 |o::l,i,σ,Es,τ,h=>by
  obtain⟨E,Es',rfl,h1,h2⟩:=h
  obtain⟨g1,g2⟩:=steps_spec l (i+1) _ Es' τ h2
  refine⟨fun j o' hj=>?_,?_⟩
  ·cases j with
   |zero=>simp only[List.getElem?_cons_zero,Option.some.injEq]at hj;subst hj;exact h1
   |succ j=>
    rw[stt_shift]
    have:=g1 j o' (by simpa using hj)
    rw[show i+(j+1)=i+1+j from by omega];exact this
  ·rw[g2,List.length_cons,stt_shift]
theorem steps_len {fz:Nat→Bool}{O:Nat→Orc}{ck:Nat→AState→Op→AEff→Bool}{base:Nat}{ops:List Oper}:∀(l:List Oper)(i:Nat)(σ:AState)(Es:List AEff)(τ:AState),Steps P fz O ck base ops i l σ Es τ→Es.length=l.length
 |[],_,_,_,_,h=>by rw[h.1];rfl
 |_::l,i,_,_,_,h=>by
  obtain⟨E,Es',rfl,_,h2⟩:=h
  simp[steps_len l (i+1) _ Es' _ h2]
theorem stt_take {ops:List Oper}{Es:List AEff}{σ:AState}{n:Nat}:∀i,i≤n→stt (ops.take n) Es σ i=stt ops Es σ i
 |0,_=>rfl
 |i+1,h=>by rw[stt,stt,stt_take i (by omega),List.getElem?_take,if_pos (by omega)]
section
variable {fz:Nat→Bool} {base:Nat} {ops:List Oper} {Es:List AEff} {σ:AState}
def lastT (ops:List Oper)(Es:List AEff)(t:Nat→AVal)(S:Nat→Bool):Nat→Nat→AVal
 |0,d=>t d
 |k+1,d=>if S k=true∧(ops[k]?).bind (·.dst)=some d then(eff Es k).v else lastT ops Es t S k d
def hit (E:AEff)(id:Nat):Bool:=E.s.any fun p=>p.1==id
def lastW (Es:List AEff)(s:Nat→Option Entry)(S:Nat→Bool):Nat→Nat→Option Entry
 |0,id=>s id
 |k+1,id=>if S k=true∧hit (eff Es k) id=true then ups (fun _=>none) (eff Es k).s id else lastW Es s S k id
theorem stt_t (i:Nat)(d:Nat):(stt ops Es σ i).t d=lastT ops Es σ.t (fun _=>true) i d:=by
 induction i with
 |zero=>rfl
 |succ i ih=>
  rw[stt,lastT]
  cases ho:ops[i]? with
  |none=>simpa using ih
  |some o=>
   simp only[AState.app,put,Option.bind_some,true_and]
   by_cases hd:o.dst=some d
   ·rw[if_pos hd,if_pos hd]
   ·rw[if_neg hd,if_neg hd];exact ih
theorem lastT_le {t:Nat→AVal}{S:Nat→Bool}{d i:Nat}:∀m,i≤m→(∀k,i≤k→k<m→(ops[k]?).bind (·.dst)=some d→S k=false)→lastT ops Es t S m d=lastT ops Es t S i d
 |0,hi,_=>by
  obtain rfl:i=0:=by omega
  rfl
 |m+1,hi,h=>by
  by_cases he:i=m+1
  ·rw[he]
  ·rw[lastT,if_neg,lastT_le m (by omega) (fun k h1 h2=>h k h1 (by omega))]
   rintro⟨h1,h2⟩
   rw[h m (by omega) (by omega) h2]at h1;cases h1
theorem lastT_congr {t:Nat→AVal}{S S':Nat→Bool}{d:Nat}:∀m,(∀k,k<m→(ops[k]?).bind (·.dst)=some d→S k=S' k)→lastT ops Es t S m d=lastT ops Es t S' m d
 |0,_=>rfl
 |m+1,h=>by
  rw[lastT,lastT,lastT_congr m (fun k hk=>h k (by omega))]
  by_cases hd:(ops[m]?).bind (·.dst)=some d
  ·rw[h m (by omega) hd]
  ·rw[if_neg (fun hc=>hd hc.2),if_neg (fun hc=>hd hc.2)]
theorem lastT_look {t:Nat→AVal}{S:Nat→Bool}{d i n:Nat}(hi:i≤n)(h1:∀k,k<i→(ops[k]?).bind (·.dst)=some d→S k=true)(h2:∀k,i≤k→k<n→(ops[k]?).bind (·.dst)=some d→S k=false):
  lastT ops Es t S n d=lastT ops Es t (fun _=>true) i d:=by
 rw[lastT_le n hi h2]
 exact lastT_congr i fun k hk hd=>h1 k hk hd
theorem lastT_add {t:Nat→AVal}{S S':Nat→Bool}{i n:Nat}(hi:i<n)(hS:∀k,k≠i→S' k=S k)(hSi:S' i=true)(hf:S i=false){o:Oper}(ho:ops[i]?=some o)(h2:∀k d,i<k→k<n→o.dst=some d→(ops[k]?).bind (·.dst)=some d→S k=false)(d:Nat):
  lastT ops Es t S' n d=if o.dst=some d then(eff Es i).v else lastT ops Es t S n d:=by
 by_cases hd:o.dst=some d
 ·rw[if_pos hd,lastT_le (i:=i+1) n (by omega) (fun k h1 h3 h4=>by rw[hS k (by omega)];exact h2 k d (by omega) h3 hd h4)]
  rw[lastT,if_pos ⟨hSi,by rw[ho];exact hd⟩]
 ·rw[if_neg hd]
  refine lastT_congr n fun k hk hkd=>?_
  by_cases hki:k=i
  ·subst hki;rw[ho]at hkd;exact absurd hkd hd
  ·exact hS k hki
theorem ups_split :∀(l:List (Nat×Option Entry))(s:Nat→Option Entry)(id:Nat),ups s l id=if(l.any fun p=>p.1==id)=true then ups (fun _=>none) l id else s id
 |[],_,_=>rfl
 |(j,e)::l,s,id=>by
  rw[ups,ups_split l _ id]
  simp only[List.any_cons,Bool.or_eq_true,beq_iff_eq]
  by_cases hl:(l.any fun p=>p.1==id)=true
  ·rw[if_pos hl,if_pos (.inr hl),ups]
   have:=ups_split l (fun i=>if i=j then e else none) id
   rw[if_pos hl]at this;exact this.symm
  ·rw[if_neg hl]
   by_cases hj:id=j
   ·rw[if_pos hj,if_pos (.inl hj.symm),ups]
    have:=ups_split l (fun i=>if i=j then e else none) id
    rw[if_neg hl,if_pos hj]at this;exact this.symm
   ·rw[if_neg hj,if_neg (by rintro(h|h);exact hj h.symm;exact hl h)]
theorem ups_hit (E:AEff)(s:Nat→Option Entry)(id:Nat):ups s E.s id=if hit E id=true then ups (fun _=>none) E.s id else s id:=ups_split E.s s id
theorem stt_w (i:Nat)(hi:i≤ops.length)(id:Nat):(stt ops Es σ i).s id=lastW Es σ.s (fun _=>true) i id:=by
 induction i with
 |zero=>rfl
 |succ i ih=>
  have ho:ops[i]?=some ops[i]:=List.getElem?_eq_getElem (by omega)
  rw[stt,ho,lastW]
  simp only[AState.app,true_and]
  rw[ups_hit,ih (by omega)]
theorem lastW_le {s:Nat→Option Entry}{S:Nat→Bool}{id i:Nat}:∀m,i≤m→(∀k,i≤k→k<m→hit (eff Es k) id=true→S k=false)→lastW Es s S m id=lastW Es s S i id
 |0,hi,_=>by
  obtain rfl:i=0:=by omega
  rfl
 |m+1,hi,h=>by
  by_cases he:i=m+1
  ·rw[he]
  ·rw[lastW,if_neg,lastW_le m (by omega) (fun k h1 h2=>h k h1 (by omega))]
   rintro⟨h1,h2⟩
   rw[h m (by omega) (by omega) h2]at h1;cases h1
theorem lastW_congr {s:Nat→Option Entry}{S S':Nat→Bool}{id:Nat}:∀m,(∀k,k<m→hit (eff Es k) id=true→S k=S' k)→lastW Es s S m id=lastW Es s S' m id
 |0,_=>rfl
 |m+1,h=>by
  rw[lastW,lastW,lastW_congr m (fun k hk=>h k (by omega))]
  by_cases hd:hit (eff Es m) id=true
  ·rw[h m (by omega) hd]
  ·rw[if_neg (fun hc=>hd hc.2),if_neg (fun hc=>hd hc.2)]
theorem lastW_look {s:Nat→Option Entry}{S:Nat→Bool}{id i n:Nat}(hi:i≤n)(h1:∀k,k<i→hit (eff Es k) id=true→S k=true)(h2:∀k,i≤k→k<n→hit (eff Es k) id=true→S k=false):
  lastW Es s S n id=lastW Es s (fun _=>true) i id:=by
 rw[lastW_le n hi h2]
 exact lastW_congr i fun k hk hd=>h1 k hk hd
theorem lastW_add {s:Nat→Option Entry}{S S':Nat→Bool}{i n:Nat}(hi:i<n)(hS:∀k,k≠i→S' k=S k)(hSi:S' i=true)(h2:∀k id,i<k→k<n→hit (eff Es i) id=true→hit (eff Es k) id=true→S k=false)(id:Nat):
  lastW Es s S' n id=ups (lastW Es s S n) (eff Es i).s id:=by
 rw[ups_hit]
 by_cases hd:hit (eff Es i) id=true
 ·rw[if_pos hd,lastW_le (i:=i+1) n (by omega) (fun k h1 h3 h4=>by rw[hS k (by omega)];exact h2 k id (by omega) h3 hd h4)]
  rw[lastW,if_pos ⟨hSi,hd⟩]
 ·rw[if_neg hd]
  refine lastW_congr n fun k hk hkd=>?_
  by_cases hki:k=i
  ·subst hki;exact absurd hkd hd
  ·exact hS k hki
structure Tame (fz:Nat→Bool)(G:Nat→Nat)(base:Nat)(i:Nat)(o:Oper)(E:AEff):Prop where
 k0:opKind (fz i) o.op=0→∀id,hit E id=false
 k1:opKind (fz i) o.op=1→∀id,hit E id=true→id=base+i
 k3:opKind (fz i) o.op=3→∀id,hit E id=true→G i=0∨G i=id+2
 le:∀id,hit E id=true→id≤base+i
theorem opKind_le (b:Bool)(op:Op):opKind b op≤3:=by
 unfold opKind;split<;>first|omega|(split<;>first|omega|(split<;>omega))
theorem hit_nil {E:AEff}(h:E.s=[])(id:Nat):hit E id=false:=by simp[hit,h]
theorem tame_of {G:Nat→Nat}{i:Nat}{o:Oper}{σ:AState}{E:AEff}(h:kindOk fz G base i σ o.op E=true):Tame fz G base i o E:=by
 unfold kindOk at h
 split at h
 ·rename_i hk
  rw[Bool.and_eq_true]at h
  have hs:E.s=[]:=by
   have:=h.1
   split at this
   ·rename_i hs;exact hs
   ·cases this
  exact⟨fun _ id=>hit_nil hs id,fun _ id hh=>(by rw[hit_nil hs]at hh;cases hh),fun _ id hh=>(by rw[hit_nil hs]at hh;cases hh),fun id hh=>by rw[hit_nil hs]at hh;cases hh⟩
 ·rename_i hk
  rw[Bool.and_eq_true]at h
  have h1:∀id,hit E id=true→id=base+i:=by
   intro id hh
   have:=h.1
   split at this
   ·rename_i hs;rw[hit_nil hs]at hh;cases hh
   ·rename_i j e hs
    simp[hit,hs]at hh this;omega
   ·rename_i j e j' hs
    simp[hit,hs]at hh this;omega
   ·cases this
  exact⟨fun h0=>(by rw[hk]at h0;cases h0),fun _=>h1,fun h3=>(by rw[hk]at h3;cases h3),fun id hh=>by rw[h1 id hh];exact Nat.le_refl _⟩
 ·rename_i hk
  split at h
  ·rename_i j e hs
   simp only[Bool.and_eq_true,decide_eq_true_eq,Bool.or_eq_true,beq_iff_eq]at h
   have hj:∀id,hit E id=true→id=j:=fun id hh=>by simp[hit,hs]at hh;exact hh.symm
   exact⟨fun h0=>(by rw[hk]at h0;cases h0),fun h1=>(by rw[hk]at h1;cases h1),fun _ id hh=>(by rw[hj id hh];exact h.2),fun id hh=>by rw[hj id hh];exact h.1⟩
  ·cases h
 ·rename_i h0 h1 h3
  rw[Bool.and_eq_true]at h
  refine⟨fun h=>absurd h h0,fun h=>absurd h h1,fun h=>absurd h h3,fun id hh=>?_⟩
  unfold hit at hh
  obtain⟨p,hp,he⟩:=List.any_eq_true.1 hh
  have:=List.all_eq_true.1 h.1 p hp
  simp at this he;omega
theorem tame_load {G:Nat→Nat}{i:Nat}{σ:AState}{op:Op}{E:AEff}(h:kindOk fz G base i σ op E=true)(hk:opKind (fz i) op<2)(hG:G i≠0):(isLoad op=true∧∀id,tgt σ op=some id→G i=id+2)∨(isPure σ op=true∧E.s=[]):=by
 unfold kindOk at h
 split at h
 ·rw[Bool.and_eq_true,Bool.or_eq_true,Bool.or_eq_true,Bool.and_eq_true,Bool.and_eq_true]at h
  rcases h.2 with(h'|⟨h1,h2⟩)|⟨h1,h2⟩
  ·simp at h';exact absurd h' hG
  ·refine .inl ⟨h1,fun id hid=>?_⟩
   rw[hid]at h2;simpa using h2
  ·refine .inr ⟨h1,?_⟩
   have:=h.1
   split at this
   ·rename_i hs;exact hs
   ·cases this
 ·rw[Bool.and_eq_true]at h
  have:=h.2;simp at this;exact absurd this hG
 ·rename_i h3;omega
 ·rename_i h0 h1 h3
  have:opKind (fz i) op=0∨opKind (fz i) op=1:=by omega
  rcases this with h|h
  ·exact absurd h h0
  ·exact absurd h h1
theorem tame_dflt {G:Nat→Nat}{i:Nat}{o:Oper}:Tame fz G base i o skp:=⟨fun _ id=>hit_nil rfl id,fun _ id h=>(by rw[hit_nil rfl]at h;cases h),fun _ id h=>(by rw[hit_nil rfl]at h;cases h),fun id h=>by rw[hit_nil rfl]at h;cases h⟩
theorem stt_fresh {G:Nat→Nat}(h0:∀k,σ.s (base+k)=none)(ht:∀k o,ops[k]?=some o→Tame fz G base k o (eff Es k)):∀i k,i≤k→(stt ops Es σ i).s (base+k)=none:=by
 intro i
 induction i with
 |zero=>intro k _;exact h0 k
 |succ i ih=>
  intro k hk
  rw[stt]
  cases ho:ops[i]? with
  |none=>exact ih k (by omega)
  |some o=>
   simp only[AState.app]
   rw[ups_hit,if_neg (fun hh=>by have:=(ht i o ho).le _ hh;omega)]
   exact ih k (by omega)
end
end Go.Abs
namespace Go.Abs
open Go.RowKit
variable {P:Program}
def isL (listed:Array Bool)(k:Nat):Bool:=listed.getD k false
def cnt (S:Nat→Bool):Nat→Nat
 |0=>0
 |k+1=>cnt S k+(if S k=true then 1 else 0)
theorem cnt_le {S:Nat→Bool}:∀n,cnt S n≤n
 |0=>Nat.le_refl _
 |n+1=>by have:=cnt_le (S:=S) n;simp only[cnt];split<;>omega
theorem cnt_all {S:Nat→Bool}:∀n,n≤cnt S n→∀k,k<n→S k=true
 |0,_,k,hk=>by omega
 |n+1,h,k,hk=>by
  have hle:=cnt_le (S:=S) n
  simp only[cnt]at h
  split at h
  ·rename_i hs
   by_cases hkn:k=n
   ·rw[hkn];exact hs
   ·exact cnt_all n (by omega) k (by omega)
  ·omega
theorem cnt_congr {S S':Nat→Bool}:∀n,(∀k,k<n→S' k=S k)→cnt S' n=cnt S n
 |0,_=>rfl
 |n+1,h=>by simp only[cnt,cnt_congr n (fun k hk=>h k (by omega)),h n (by omega)]
theorem cnt_add {S S':Nat→Bool}{i:Nat}(hS:∀k,k≠i→S' k=S k)(h1:S' i=true)(h2:S i=false):∀n,i<n→cnt S' n=cnt S n+1
 |0,h=>by omega
 |n+1,h=>by
  simp only[cnt]
  by_cases hi:i=n
  ·subst hi
   rw[cnt_congr i (fun k hk=>hS k (by omega))];simp[h1,h2]
  ·rw[cnt_add hS h1 h2 n (by omega),hS n (by omega)];omega
theorem isL_set {listed:Array Bool}{i k:Nat}(hi:i<listed.size):isL (listed.setIfInBounds i true) k=if k=i then true else isL listed k:=by
 unfold isL
 simp only[Array.getD_eq_getD_getElem?]
 by_cases h:k=i
 ·subst h;simp[hi]
 ·rw[Array.getElem?_setIfInBounds_ne (fun e=>h e.symm),if_neg h]
structure Inv (base:Nat)(ops:List Oper)(Es:List AEff)(σ:AState)(listed:Array Bool)(ψ:AState):Prop where
 size:listed.size=ops.length
 m:ψ.m=σ.m
 n:ψ.n=σ.n
 down:∀i k,i<ops.length→isL listed i=true→bitAt ((predL ops []).getD i 0) k=true→isL listed k=true
 t:∀d,ψ.t d=lastT ops Es σ.t (isL listed) ops.length d
 s:∀id,ψ.s id=lastW Es σ.s (isL listed) ops.length id
def Kof (base:Nat)(listed:Array Bool):Nat→Prop:=fun id=>id<base∨∃k,isL listed k=true∧id=base+k
theorem stt_m {ops:List Oper}{Es:List AEff}{σ:AState}(i:Nat):(stt ops Es σ i).m=σ.m∧(stt ops Es σ i).n=σ.n:=by
 induction i with
 |zero=>exact⟨rfl,rfl⟩
 |succ i ih=>rw[stt];split<;>exact ih
section
variable {fz:Nat→Bool} {G:Nat→Nat} {base:Nat} {ops:List Oper} {Es:List AEff} {σ ψ:AState} {listed:Array Bool}
theorem ready_spec (hi:Inv base ops Es σ listed ψ)(hord:ordB fz G base ops=true){i:Nat}(hr:i∈Region.ready .any ops.toArray listed):
  ∃o,ops[i]?=some o∧i<ops.length∧isL listed i=false∧∀k,bitAt ((predL ops []).getD i 0) k=true→isL listed k=true:=by
 unfold Region.ready at hr
 simp only[List.mem_filter,List.mem_range,List.size_toArray,Bool.and_eq_true,Bool.not_eq_true',List.getElem?_toArray]at hr
 obtain⟨hlt,hn,ha⟩:=hr
 have ho:ops[i]?=some ops[i]:=List.getElem?_eq_getElem hlt
 rw[ho]at ha
 simp only[Option.map_some,Option.getD_some,Array.all_eq_true_iff_forall_mem]at ha
 refine⟨ops[i],ho,hlt,?_,fun k hk=>?_⟩
 ·unfold isL
  simp only[Array.getD_eq_getD_getElem?]at hn⊢
  rw[Array.getElem?_eq_getElem (by rw[hi.size];exact hlt)]at hn⊢
  exact hn
 ·obtain⟨acc',h1,h2,h3⟩:=predL_at ops [] i ops[i] ho
  simp only[List.length_nil,Nat.zero_add]at h1 h2 h3
  rw[h1]at hk
  obtain⟨e,he,hb,hke⟩:=predOf_spec hk
  have hl:isL listed e.on=true:=by
   have:=ha e (by simpa using he)
   simp only[hb,Bool.not_true,Bool.false_or]at this
   exact this
  have haft:=(ordEach_spec hord i ops[i] ho).1
  rw[Nat.zero_add]at haft
  have hon:e.on<i:=by
   have:=List.all_eq_true.1 haft e he
   simpa[hb]using this
  rcases hke with rfl|hke
  ·exact hl
  ·rw[h3 e.on hon]at hke
   exact hi.down e.on k (by omega) hl hke
theorem all_of_none (hi:Inv base ops Es σ listed ψ)(hord:ordB fz G base ops=true)(hr:Region.ready .any ops.toArray listed=[]):∀k,k<ops.length→isL listed k=true:=by
 intro k
 induction k using Nat.strongRecOn with
 |_ k ih=>
  intro hk
  cases hl:isL listed k with
  |true=>rfl
  |false=>
   exfalso
   have ho:ops[k]?=some ops[k]:=List.getElem?_eq_getElem hk
   have:k∈Region.ready .any ops.toArray listed:=by
    unfold Region.ready
    simp only[List.mem_filter,List.mem_range,List.size_toArray,Bool.and_eq_true,Bool.not_eq_true',List.getElem?_toArray]
    refine⟨hk,?_,?_⟩
    ·unfold isL at hl
     simp only[Array.getD_eq_getD_getElem?]at hl⊢
     rw[Array.getElem?_eq_getElem (by rw[hi.size];exact hk)]at hl⊢
     exact hl
    ·rw[ho]
     simp only[Option.map_some,Option.getD_some,Array.all_eq_true_iff_forall_mem]
     intro e he
     cases hb:Region.binds .any e with
     |false=>rfl
     |true=>
      have haft:=(ordEach_spec hord k ops[k] ho).1
      rw[Nat.zero_add]at haft
      have hon:e.on<k:=by
       have:=List.all_eq_true.1 haft e (by simpa using he)
       simpa[hb]using this
      simp only[Bool.not_true,Bool.false_or]
      exact ih e.on hon (by omega)
   rw[hr]at this;cases this
theorem ord_spec (hord:ordB fz G base ops=true){i k:Nat}{o ok:Oper}(ho:ops[i]?=some o)(hk:ops[k]?=some ok)(h:k<i):bitAt ((predL ops []).getD i 0) k=true∨freeB fz G base ops k ok i o=true:=by
 have:=(ordEach_spec hord i o ho).2
 rw[Nat.zero_add]at this
 have:=ordAll_spec this k ok hk
 rw[Nat.zero_add]at this
 unfold ordOne at this
 rw[if_pos h,Bool.or_eq_true]at this
 exact this
structure Free (fz:Nat→Bool)(G:Nat→Nat)(base:Nat)(ops:List Oper)(k:Nat)(ok:Oper)(i:Nat)(o:Oper):Prop where
 d1:∀d,ok.dst=some d→d∉looks ops o∧o.dst≠some d
 d2:∀d,o.dst=some d→d∉looks ops ok
 i2:opKind (fz i) o.op=2→plainB (fz k) ok.op=true
 k2:opKind (fz k) ok.op=2→plainB (fz i) o.op=true
 b3:¬(opKind (fz i) o.op=3∧opKind (fz k) ok.op=3)
 r1:opReads (fz i) o.op=true→opKind (fz k) ok.op=1→G i≠0∧G i≠base+k+2
 k3:opKind (fz k) ok.op=3→opReads (fz i) o.op=true→G i≠0∧G k≠0∧G i≠G k
 i3:opKind (fz i) o.op=3→opReads (fz k) ok.op=true→G i≠0∧G k≠0∧G i≠G k
 i31:opKind (fz i) o.op=3→opKind (fz k) ok.op=1→G i≠0∧G i≠base+k+2
theorem free_spec {i k:Nat}{o ok:Oper}(h:freeB fz G base ops k ok i o=true):Free fz G base ops k ok i o:=by
 unfold freeB at h
 simp only[Bool.and_eq_true]at h
 obtain⟨⟨⟨⟨⟨⟨⟨⟨h1,h2⟩,h3⟩,h4⟩,h5⟩,h6⟩,h7⟩,h8⟩,h9⟩:=h
 refine⟨fun d hd=>?_,fun d hd=>?_,fun hi=>by simpa[hi]using h3,fun hk=>by simpa[hk]using h4,fun hc=>?_,fun hr hk=>?_,fun h hr=>?_,fun h hr=>?_,fun h hk=>?_⟩
 ·simp[hd]at h1;exact h1
 ·simp[hd]at h2;exact h2
 ·simp[hc.1,hc.2]at h5
 ·simp[hr,hk]at h6;exact h6
 ·simp[hr,h]at h7;exact⟨h7.1.1,h7.1.2,h7.2⟩
 ·simp[hr,h]at h8;exact⟨h8.1.1,h8.1.2,h8.2⟩
 ·simp[hk,h]at h9;exact h9
theorem bind_some {k d:Nat}(h:(ops[k]?).bind (·.dst)=some d):∃ok,ops[k]?=some ok∧ok.dst=some d:=by
 cases hk:ops[k]? with
 |none=>rw[hk]at h;cases h
 |some ok=>rw[hk]at h;exact⟨ok,rfl,h⟩
theorem before (hord:ordB fz G base ops=true){i k:Nat}{o ok:Oper}(ho:ops[i]?=some o)(hk:ops[k]?=some ok)(hp:∀k,bitAt ((predL ops []).getD i 0) k=true→isL listed k=true)(h:k<i):isL listed k=true∨Free fz G base ops k ok i o:=
 (ord_spec hord ho hk h).imp (hp k) free_spec
theorem after (hi:Inv base ops Es σ listed ψ)(hord:ordB fz G base ops=true){i k:Nat}{o ok:Oper}(ho:ops[i]?=some o)(hk:ops[k]?=some ok)(hn:isL listed i=false)(h:i<k)(hl:isL listed k=true):Free fz G base ops i o k ok:=by
 rcases ord_spec hord hk ho h with h1|h1
 ·have:=hi.down k i (List.getElem?_eq_some_iff.1 hk).1 hl h1
  rw[hn]at this;cases this
 ·exact free_spec h1
theorem look_same (hi:Inv base ops Es σ listed ψ)(hord:ordB fz G base ops=true){i:Nat}{o:Oper}(ho:ops[i]?=some o)(hlt:i<ops.length)(hn:isL listed i=false)(hp:∀k,bitAt ((predL ops []).getD i 0) k=true→isL listed k=true){d:Nat}(hd:d∈looks ops o):
  ψ.t d=(stt ops Es σ i).t d:=by
 rw[hi.t d,stt_t]
 refine lastT_look (by omega) (fun k hk hkd=>?_) (fun k h1 h2 hkd=>?_)
 ·obtain⟨ok,hok,hokd⟩:=bind_some hkd
  rcases before hord ho hok hp hk with h|h
  ·exact h
  ·exact absurd hd (h.d1 d hokd).1
 ·obtain⟨ok,hok,hokd⟩:=bind_some hkd
  by_cases hki:k=i
  ·rw[hki];exact hn
  ·cases hl:isL listed k with
   |false=>rfl
   |true=>exact absurd hd ((after hi hord ho hok hn (by omega) hl).d2 d hokd)
theorem plain_k0 {b:Bool}{op:Op}(h:plainB b op=true):opKind b op=0∧opReads b op=false:=by
 unfold plainB at h;simpa using h
theorem barrier_same (hi:Inv base ops Es σ listed ψ)(hord:ordB fz G base ops=true)(ht:∀k o,ops[k]?=some o→Tame fz G base k o (eff Es k)){i:Nat}{o:Oper}(ho:ops[i]?=some o)(hlt:i<ops.length)(hn:isL listed i=false)(hp:∀k,bitAt ((predL ops []).getD i 0) k=true→isL listed k=true)(hk:opKind (fz i) o.op=2):
  ψ.s=(stt ops Es σ i).s:=by
 funext id
 rw[hi.s id,stt_w i (by omega)]
 refine lastW_look (by omega) (fun k hki hh=>?_) (fun k h1 h2 hh=>?_)
 ·have hok:ops[k]?=some ops[k]:=List.getElem?_eq_getElem (by omega)
  rcases before hord ho hok hp hki with h|h
  ·exact h
  ·have:=(ht k _ hok).k0 (plain_k0 (h.i2 hk)).1 id;rw[hh]at this;cases this
 ·by_cases hki:k=i
  ·rw[hki];exact hn
  ·cases hl:isL listed k with
   |false=>rfl
   |true=>
    exfalso
    have hok:ops[k]?=some ops[k]:=List.getElem?_eq_getElem h2
    have h:=after hi hord ho hok hn (by omega) hl
    have:=(ht k _ hok).k0 (plain_k0 (h.k2 hk)).1 id;rw[hh]at this;cases this
theorem store_spec (hi:Inv base ops Es σ listed ψ)(hord:ordB fz G base ops=true)(ht:∀k o,ops[k]?=some o→Tame fz G base k o (eff Es k)){i:Nat}{o:Oper}(ho:ops[i]?=some o)(hlt:i<ops.length)(hn:isL listed i=false)(hp:∀k,bitAt ((predL ops []).getD i 0) k=true→isL listed k=true)(hk:opKind (fz i) o.op=3)
  {id:Nat}(hid:hit (eff Es i) id=true):ψ.s id=(stt ops Es σ i).s id:=by
 have hle:=(ht i o ho).le id hid
 have hG:=(ht i o ho).k3 hk id hid
 rw[hi.s id,stt_w i (by omega)]
 refine lastW_look (by omega) (fun k hki hh=>?_) (fun k h1 h2 hh=>?_)
 ·have hok:ops[k]?=some ops[k]:=List.getElem?_eq_getElem (by omega)
  rcases before hord ho hok hp hki with h|h
  ·exact h
  ·exfalso
   have hkk:=opKind_le (fz k) ops[k].op
   have:opKind (fz k) ops[k].op=0∨opKind (fz k) ops[k].op=1∨opKind (fz k) ops[k].op=2∨opKind (fz k) ops[k].op=3:=by omega
   rcases this with g|g|g|g
   ·have:=(ht k _ hok).k0 g id;rw[hh]at this;cases this
   ·have e1:=(ht k _ hok).k1 g id hh
    obtain⟨f1,f2⟩:=h.i31 hk g
    omega
   ·have:=(plain_k0 (h.k2 g)).1;omega
   ·exact h.b3 ⟨hk,g⟩
 ·by_cases hki:k=i
  ·rw[hki];exact hn
  ·cases hl:isL listed k with
   |false=>rfl
   |true=>
    exfalso
    have hok:ops[k]?=some ops[k]:=List.getElem?_eq_getElem h2
    have h:=after hi hord ho hok hn (by omega) hl
    have hkk:=opKind_le (fz k) ops[k].op
    have:opKind (fz k) ops[k].op=0∨opKind (fz k) ops[k].op=1∨opKind (fz k) ops[k].op=2∨opKind (fz k) ops[k].op=3:=by omega
    rcases this with g|g|g|g
    ·have:=(ht k _ hok).k0 g id;rw[hh]at this;cases this
    ·have e1:=(ht k _ hok).k1 g id hh
     omega
    ·have:=(plain_k0 (h.i2 g)).1;omega
    ·exact h.b3 ⟨g,hk⟩
theorem reads_same (hi:Inv base ops Es σ listed ψ)(hord:ordB fz G base ops=true)(ht:∀k o,ops[k]?=some o→Tame fz G base k o (eff Es k))(h0:∀k,σ.s (base+k)=none){i:Nat}{o:Oper}(ho:ops[i]?=some o)(hlt:i<ops.length)(hn:isL listed i=false)(hp:∀k,bitAt ((predL ops []).getD i 0) k=true→isL listed k=true)
  (hr:opReads (fz i) o.op=true):∀id e,(G i=0∨G i=id+2)→(stt ops Es σ i).s id=some e→ψ.s id=some e:=by
 intro id e hGi he
 rw[←he,hi.s id,stt_w i (by omega)]
 refine lastW_look (by omega) (fun k hki hh=>?_) (fun k h1 h2 hh=>?_)
 ·have hok:ops[k]?=some ops[k]:=List.getElem?_eq_getElem (by omega)
  rcases before hord ho hok hp hki with h|h
  ·exact h
  ·exfalso
   have hkk:=opKind_le (fz k) ops[k].op
   have:opKind (fz k) ops[k].op=0∨opKind (fz k) ops[k].op=1∨opKind (fz k) ops[k].op=2∨opKind (fz k) ops[k].op=3:=by omega
   rcases this with g|g|g|g
   ·have:=(ht k _ hok).k0 g id;rw[hh]at this;cases this
   ·have e1:=(ht k _ hok).k1 g id hh
    obtain⟨f1,f2⟩:=h.r1 hr g
    omega
   ·have:=(plain_k0 (h.k2 g)).2;rw[hr]at this;cases this
   ·obtain⟨f1,f2,f3⟩:=h.k3 g hr
    have:=(ht k _ hok).k3 g id hh
    omega
 ·by_cases hki:k=i
  ·rw[hki];exact hn
  ·cases hl:isL listed k with
   |false=>rfl
   |true=>
    exfalso
    have hok:ops[k]?=some ops[k]:=List.getElem?_eq_getElem h2
    have h:=after hi hord ho hok hn (by omega) hl
    have hkk:=opKind_le (fz k) ops[k].op
    have:opKind (fz k) ops[k].op=0∨opKind (fz k) ops[k].op=1∨opKind (fz k) ops[k].op=2∨opKind (fz k) ops[k].op=3:=by omega
    rcases this with g|g|g|g
    ·have:=(ht k _ hok).k0 g id;rw[hh]at this;cases this
    ·have e1:=(ht k _ hok).k1 g id hh
     rw[e1,stt_fresh h0 ht i k (by omega)]at he;cases he
    ·have:=(plain_k0 (h.i2 g)).2;rw[hr]at this;cases this
    ·obtain⟨f1,f2,f3⟩:=h.i3 g hr
     have:=(ht k _ hok).k3 g id hh
     omega
theorem Inv.add (hi:Inv base ops Es σ listed ψ)(hord:ordB fz G base ops=true)(ht:∀k o,ops[k]?=some o→Tame fz G base k o (eff Es k)){i:Nat}{o:Oper}(ho:ops[i]?=some o)(hlt:i<ops.length)(hn:isL listed i=false)(hp:∀k,bitAt ((predL ops []).getD i 0) k=true→isL listed k=true):
  Inv base ops Es σ (listed.setIfInBounds i true) (ψ.app o.dst (eff Es i)):=by
 have hset:∀k,isL (listed.setIfInBounds i true) k=if k=i then true else isL listed k:=fun k=>isL_set (by rw[hi.size];exact hlt)
 have hSi:isL (listed.setIfInBounds i true) i=true:=by rw[hset,if_pos rfl]
 have hSk:∀k,k≠i→isL (listed.setIfInBounds i true) k=isL listed k:=fun k hk=>by rw[hset,if_neg hk]
 refine⟨by simp[hi.size],hi.m,hi.n,fun j k hj hl hb=>?_,fun d=>?_,fun id=>?_⟩
 ·have:isL listed k=true:=by
   by_cases hji:j=i
   ·subst hji;exact hp k hb
   ·rw[hSk j hji]at hl;exact hi.down j k hj hl hb
  rw[hset];split
  ·rfl
  ·exact this
 ·rw[lastT_add hlt hSk hSi hn ho (fun k d' g1 g2 g3 g4=>?_) d]
  ·simp only[AState.app,put];split
   ·rfl
   ·exact hi.t d
  ·obtain⟨ok,hok,hokd⟩:=bind_some g4
   cases hl:isL listed k with
   |false=>rfl
   |true=>exact absurd hokd ((after hi hord ho hok hn g1 hl).d1 d' g3).2
 ·rw[lastW_add hlt hSk hSi (fun k id g1 g2 g3 g4=>?_) id]
  ·have:ψ.s=lastW Es σ.s (isL listed) ops.length:=funext hi.s
   simp only[AState.app];rw[this]
  ·cases hl:isL listed k with
   |false=>rfl
   |true=>
    exfalso
    have hok:ops[k]?=some ops[k]:=List.getElem?_eq_getElem g2
    have h:=after hi hord ho hok hn g1 hl
    have hki:=opKind_le (fz i) o.op
    have hkk:=opKind_le (fz k) ops[k].op
    have hle:=(ht i o ho).le id g3
    have c1:opKind (fz k) ops[k].op=0∨opKind (fz k) ops[k].op=1∨opKind (fz k) ops[k].op=2∨opKind (fz k) ops[k].op=3:=by omega
    have c2:opKind (fz i) o.op=0∨opKind (fz i) o.op=1∨opKind (fz i) o.op=2∨opKind (fz i) o.op=3:=by omega
    rcases c1 with c|c|c|c
    ·have:=(ht k _ hok).k0 c id;rw[g4]at this;cases this
    ·have:=(ht k _ hok).k1 c id g4;omega
    ·have:=(ht i o ho).k0 (plain_k0 (h.i2 c)).1 id;rw[g3]at this;cases this
    ·rcases c2 with c'|c'|c'|c'
     ·have:=(ht i o ho).k0 c' id;rw[g3]at this;cases this
     ·obtain⟨f1,f2⟩:=h.i31 c c'
      have e1:=(ht i o ho).k1 c' id g3
      have:=(ht k _ hok).k3 c id g4
      omega
     ·have:=(plain_k0 (h.k2 c')).1;omega
     ·exact h.b3 ⟨c,c'⟩
end
end Go.Abs
namespace Go.Abs
open Go.RowKit
variable {P:Program}
theorem any_order {fz:Nat→Bool}{G:Nat→Nat}{O:Nat→Orc}{base:Nat}{ops:List Oper}{σ τ:AState}{Es:List AEff}{R:Exit→Act→World→Prop}{D:List Deferred}{ι0:Nat→Loc}{F0:Foot}{w0:World}
  {n0:Nat}(hn0:n0≤ops.length)(hsteps:Steps P fz O (kindOk fz G base) base ops 0 (ops.take n0) σ Es τ)(hstop:∀i,n0<i→i<ops.length→bitAt ((predL ops []).getD i 0) n0=true)
  (hpan:∀o,ops[n0]?=some o→∀(listed:Array Bool)(ι:Nat→Loc)(F:Foot)(a:Act)(w:World)(ψ:AState)(next:Act→World→Prop),Inv base ops Es σ listed ψ→(∀k,n0≤k→isL listed k=false)→(∀x∈o.op.operands.toList,ψ.ev x=(stt ops Es σ n0).ev x)→
   Rel (Kof base listed) ι F ψ a w→a.defers=D→Pass ι0 F0 σ w0 ι F ψ w→o.guard=none∧o.wp P a w next R)(hord:ordB fz G base ops=true)(hdst:∀o∈ops,∀d,o.dst=some d→d<σ.m)(h0:∀k,σ.s (base+k)=none)
  (hfin:∀ι F a w,Rel (below (base+ops.length)) ι F τ a w→a.defers=D→Pass ι0 F0 σ w0 ι F τ w→n0=ops.length→R .normal a w):
  ∀(fuel:Nat)(listed:Array Bool)(a:Act)(w:World)(ι:Nat→Loc)(F:Foot)(ψ:AState),Inv base ops Es σ listed ψ→(∀k,n0≤k→isL listed k=false)→Rel (Kof base listed) ι F ψ a w→a.defers=D→Pass ι0 F0 σ w0 ι F ψ w→ops.length≤fuel+cnt (isL listed) ops.length→
   wpAny P .any ops.toArray R fuel listed a w:=by
 obtain⟨hg0,hτ⟩:=steps_spec (ops.take n0) 0 σ Es τ hsteps
 have hEs:=steps_len _ _ _ _ _ hsteps
 rw[List.length_take,Nat.min_eq_left hn0]at hEs hτ
 rw[stt_take n0 (Nat.le_refl _)]at hτ
 have hg:∀j o,j<n0→ops[j]?=some o→Gate P fz O (kindOk fz G base) base ops j o (stt ops Es σ j) (eff Es j):=by
  intro j o hj ho
  have:=hg0 j o (by rw[List.getElem?_take,if_pos hj];exact ho)
  rw[Nat.zero_add,stt_take j (by omega)]at this
  exact this
 have ht:∀k o,ops[k]?=some o→Tame fz G base k o (eff Es k):=by
  intro k o hk
  by_cases hkn:k<n0
  case neg=>
   have:eff Es k=dflt:=by unfold eff;rw[List.getD_eq_getElem?_getD,List.getElem?_eq_none (by omega)];rfl
   rw[this]
   exact⟨fun _ id=>hit_nil rfl id,fun _ id h=>(by rw[hit_nil rfl]at h;cases h),fun _ id h=>(by rw[hit_nil rfl]at h;cases h),fun id h=>by rw[hit_nil rfl]at h;cases h⟩
  have:=hg k o hkn hk
  unfold Gate at this
  split at this
  ·exact tame_of this.2
  ·rename_i g want _
   rcases this with⟨b,_,h1,h2⟩|⟨_,h2⟩
   ·by_cases hb:b=want
    ·exact tame_of (h1 hb).2
    ·rw[h2 hb];exact tame_dflt
   ·rw[h2];exact tame_dflt
 -- all has been done
 have fin:∀(listed:Array Bool)(a:Act)(w:World)(ι:Nat→Loc)(F:Foot)(ψ:AState),Inv base ops Es σ listed ψ→Rel (Kof base listed) ι F ψ a w→a.defers=D→Pass ι0 F0 σ w0 ι F ψ w→(∀k,n0≤k→isL listed k=false)→(∀k,k<ops.length→isL listed k=true)→R .normal a w:=by
  intro listed a w ι F ψ hi hR hD hP hno hall
  have hn1:n0=ops.length:=by
   rcases Nat.lt_or_ge n0 ops.length with h|h
   ·have h1:=hall n0 h;rw[hno n0 (Nat.le_refl _)]at h1;cases h1
   ·omega
  have hψ:ψ=τ:=by
   rw[hτ,hn1]
   have et:ψ.t=(stt ops Es σ ops.length).t:=by
    funext d;rw[hi.t d,stt_t];exact lastT_congr _ fun k hk _=>hall k hk
   have es:ψ.s=(stt ops Es σ ops.length).s:=by
    funext id
    rw[hi.s id,stt_w ops.length (Nat.le_refl _)]
    exact lastW_congr _ fun k hk _=>hall k hk
   have hm:=stt_m (ops:=ops) (Es:=Es) (σ:=σ) ops.length
   have e1:=hi.m
   have e2:=hi.n
   cases ψ
   generalize hst:stt ops Es σ ops.length=ρ at*
   cases ρ
   simp only at et es e1 e2 hm
   rw[et,es,e1,e2,hm.1,hm.2]
  subst hψ
  refine hfin ι F a w (hR.mono fun id hid=>?_) hD hP hn1
  rcases hid with h|⟨k,h1,h2⟩
  ·unfold below;omega
  ·unfold isL at h1
   simp only[Array.getD_eq_getD_getElem?]at h1
   have hk:k<listed.size:=by
    rcases Nat.lt_or_ge k listed.size with h|h
    ·exact h
    ·rw[Array.getElem?_eq_none h]at h1;cases h1
   rw[hi.size]at hk
   unfold below;omega
 intro fuel
 induction fuel with
 |zero=>
  intro listed a w ι F ψ hi hno hR hD hP hc
  have hall:=cnt_all (S:=isL listed) ops.length (by omega)
  refine⟨?_,fin listed a w ι F ψ hi hR hD hP hno hall⟩
  cases hr:Region.ready .any ops.toArray listed with
  |nil=>rfl
  |cons i l=>
   obtain⟨o,_,h1,h2,_⟩:=ready_spec hi hord (show i∈Region.ready .any ops.toArray listed by rw[hr];simp)
   rw[hall i h1]at h2;cases h2
 |succ fuel ih=>
  intro listed a w ι F ψ hi hno hR hD hP hc
  refine⟨fun hr=>fin listed a w ι F ψ hi hR hD hP hno (all_of_none hi hord hr),fun i hr=>?_⟩
  obtain⟨o,ho,hlt,hn,hp⟩:=ready_spec hi hord hr
  have hin:i≤n0:=by
   rcases Nat.lt_or_ge n0 i with h|h
   ·have h1:=hp n0 (hstop i h hlt);rw[hno n0 (Nat.le_refl _)]at h1;cases h1
   ·exact h
  by_cases hi0:i=n0
  case pos=>
   subst hi0
   obtain⟨q1,q2⟩:=hpan o ho listed ι F a w ψ (wpAny P .any ops.toArray R fuel (listed.setIfInBounds i true)) hi hno (fun x hx=>by
    cases x with
    |tmp d=>
     have:d∈looks ops o:=by
      unfold looks
      exact List.mem_append_left _ (List.mem_filterMap.2 ⟨.tmp d,hx,rfl⟩)
     simp only[AState.ev];exact look_same hi hord ho hlt hn hp this
    |_=>rfl) hR hD hP
   unfold wpOp
   have hoA:ops.toArray[i]?=some o:=by simpa using ho
   rw[hoA]
   simp only
   rw[if_pos (by simp[Region.wanted,q1])]
   exact .inl q2
  have hin:i<n0:=by omega
  have hgate:=hg i o hin ho
  have hlook:=fun d hd=>look_same hi hord ho hlt hn hp (d:=d) hd
  have hadd:=hi.add hord ht ho hlt hn hp
  have hset:∀k,isL (listed.setIfInBounds i true) k=if k=i then true else isL listed k:=fun k=>isL_set (by rw[hi.size];exact hlt)
  have hcnt:ops.length≤fuel+cnt (isL (listed.setIfInBounds i true)) ops.length:=by
   rw[cnt_add (S:=isL listed) (i:=i) (fun k hk=>by rw[hset,if_neg hk]) (by rw[hset,if_pos rfl]) hn ops.length hlt];omega
  have hKK:∀id,(Kof base listed id∨id=base+i)→Kof base (listed.setIfInBounds i true) id:=by
   rintro id ((h|⟨k,h1,h2⟩)|h)
   ·exact .inl h
   ·exact .inr ⟨k,by rw[hset,h1];exact ite_self _,h2⟩
   ·exact .inr ⟨i,by rw[hset,if_pos rfl],h⟩
  have hno':∀k,n0≤k→isL (listed.setIfInBounds i true) k=false:=fun k hk=>by rw[hset,if_neg (by omega)];exact hno k hk
  have hj:¬Kof base listed (base+i):=by
   rintro(h|⟨k,h1,h2⟩)
   ·omega
   ·obtain rfl:k=i:=by omega
    rw[hn]at h1;cases h1
  have hd:∀d,o.dst=some d→d<ψ.m:=fun d hd=>by rw[hi.m];exact hdst o (List.mem_iff_getElem?.2 ⟨i,ho⟩) d hd
  -- the step itself
  have hevx:∀x∈o.op.operands.toList,ψ.ev x=(stt ops Es σ i).ev x:=by
   intro x hx
   cases x with
   |tmp d=>
    have:d∈looks ops o:=by
     unfold looks
     exact List.mem_append_left _ (List.mem_filterMap.2 ⟨.tmp d,hx,rfl⟩)
    simp only[AState.ev];exact hlook d this
   |_=>rfl
  have hgives:kindOk fz G base i (stt ops Es σ i) o.op (eff Es i)=true→(anext P (fz i) (base+i) (stt ops Es σ i) (O i) o.op).gives (eff Es i)→(anext P (fz i) (base+i) ψ (O i) o.op).gives (eff Es i):=by
   intro hck h
   have hle:=opKind_le (fz i) o.op
   have hc:opKind (fz i) o.op<2∨opKind (fz i) o.op=2∨opKind (fz i) o.op=3:=by omega
   rcases hc with hk|hk|hk
   ·by_cases hG:G i=0
    ·exact anext_mono (.inl hk) hevx (fun hrd id e he=>reads_same hi hord ht h0 ho hlt hn hp hrd id e (.inl hG) he) h
    ·rcases tame_load hck hk hG with⟨g1,g2⟩|⟨g1,g2⟩
     ·generalize hop:o.op=op at*
      cases op with
      |load t x=>
       have hrd:opReads (fz i) o.op=true:=by rw[hop];rfl
       exact load_same (hevx x (by simp[Op.operands])) (fun id e hid he=>reads_same hi hord ht h0 ho hlt hn hp hrd id e (.inr (g2 id hid)) he) h
      |_=>cases g1
     ·exact call_pure hevx g1 g2 h
   ·exact anext_eqs hevx (barrier_same hi hord ht ho hlt hn hp hk) h
   ·generalize hop:o.op=op at*
    cases op with
    |store t x y=>
     refine store_same (hevx x (by simp[Op.operands])) (hevx y (by simp[Op.operands])) (fun p hpE=>?_) h
     refine store_spec hi hord ht ho hlt hn hp (by rw[hop];exact hk) ?_
     exact List.any_eq_true.2 ⟨p,hpE,by simp⟩
    |slice=>simp only[opKind]at hk;split at hk<;>cases hk
    |call c=>
     obtain⟨callee,args,tys⟩:=c
     cases callee with
     |value fo=>
      refine call_same hevx ?_ (fun p hpE=>?_) h
      ·unfold kindOk at hck
       rw[hk]at hck
       simp only at hck
       split at hck
       ·rename_i q e hs;exact⟨q,e,hs⟩
       ·cases hck
      ·refine store_spec hi hord ht ho hlt hn hp (by rw[hop];exact hk) ?_
       exact List.any_eq_true.2 ⟨p,hpE,by simp⟩
     |builtin b=>cases b<;>simp only[opKind]at hk<;>first|cases hk|(split at hk<;>cases hk)
     |_=>cases hk
    |_=>cases hk
  have run:kindOk fz G base i (stt ops Es σ i) o.op (eff Es i)=true→(anext P (fz i) (base+i) (stt ops Es σ i) (O i) o.op).gives (eff Es i)→o.wp P a w (wpAny P .any ops.toArray R fuel (listed.setIfInBounds i true)) R:=by
   intro hck h
   refine goes_next hR hj hd (hgives hck h) _ _ ?_
   intro ι' F' a' w' h1 h2 h3
   exact ih _ a' w' ι' F' _ hadd hno' (h1.mono hKK) (h2.trans hD) (hP.trans h3.pass) hcnt
  unfold wpOp
  have hoA:ops.toArray[i]?=some o:=by simpa using ho
  rw[hoA]
  simp only
  unfold Gate at hgate
  cases hgd:o.guard with
  |none=>
   rw[hgd]at hgate
   rw[if_pos (by simp[Region.wanted,hgd])]
   exact .inl (run hgate.2 hgate.1)
  |some gw=>
   obtain⟨g,want⟩:=gw
   rw[hgd]at hgate
   have skip:eff Es i=skp→wpAny P .any ops.toArray R fuel (listed.setIfInBounds i true) (a.put o.dst undef) w:=by
    intro h2
    rw[h2]at hadd
    refine ih _ _ w ι F _ hadd hno' ?_ ((Act.put_defers _ _ _).trans hD) ?_ hcnt
    ·exact(hR.put o.dst skp.v undef hd skp_in skp_rep).mono (fun id h=>hKK id (.inl h))
    ·exact hP.trans ((Ext.refl (Kof base listed) ι F ψ w).app _ _).pass
   rcases hgate with⟨b,hb,h1,h2⟩|⟨hb,h2⟩
   ·have hyb:yielded ops.toArray a.tmps g=some b:=by
     unfold gval at hb
     split at hb
     ·rename_i og hog
      split at hb
      ·rename_i d hdst'
       split at hb
       ·rename_i b' hb'
        simp only[Option.some.injEq]at hb;subst hb
        have hl:d∈looks ops o:=by
         unfold looks
         refine List.mem_append_right _ ?_
         rw[hgd];simp[hog,hdst']
        have:=(hR.tmp d).2
        rw[hlook d hl,hb',ARep,IRep]at this
        have hltd:d<a.tmps.size:=by
         rw[hR.size,hi.m];exact hdst og (List.mem_iff_getElem?.2 ⟨g,hog⟩) d hdst'
        have hv:a.tmps[d]?=some (.bool b'):=by
         have h1:=this.1
         simp only[Array.getD_eq_getD_getElem?,Array.getElem?_eq_getElem hltd,Option.getD_some]at h1
         rw[Array.getElem?_eq_getElem hltd,h1]
        simp[yielded,hog,hdst',hv]
       ·cases hb
      ·cases hb
     ·cases hb
    have hw:Region.wanted o (yielded ops.toArray a.tmps)=decide (b=want):=by
     simp only[Region.wanted,hgd,hyb]
     rw[Bool.eq_iff_iff];simp
    rw[hw]
    by_cases hbw:b=want
    ·rw[if_pos (by simpa using hbw)];exact .inl (run (h1 hbw).2 (h1 hbw).1)
    ·rw[if_neg (by simpa using hbw)];exact skip (h2 hbw)
   ·have hyb:yielded ops.toArray a.tmps g=none:=by
     unfold gnil at hb
     split at hb
     ·rename_i og hog
      split at hb
      ·rename_i d hdst'
       have hl:d∈looks ops o:=by
        unfold looks
        refine List.mem_append_right _ ?_
        rw[hgd];simp[hog,hdst']
       have:=(hR.tmp d).2
       rw[hlook d hl,hb,ARep,IRep]at this
       obtain⟨vs,h1,_⟩:=this
       have hltd:d<a.tmps.size:=by
        rw[hR.size,hi.m];exact hdst og (List.mem_iff_getElem?.2 ⟨g,hog⟩) d hdst'
       have hv:a.tmps[d]?=some (.tuple vs):=by
        simp only[Array.getD_eq_getD_getElem?,Array.getElem?_eq_getElem hltd,Option.getD_some]at h1
        rw[Array.getElem?_eq_getElem hltd,h1]
       simp[yielded,hog,hdst',hv]
      ·exact hb.elim
     ·exact hb.elim
    rw[if_neg (by simp[Region.wanted,hgd,hyb])]
    exact skip h2
theorem AWp.regionAny {D:List Deferred}{fz:Nat→Bool}{G:Nat→Nat}{O:Nat→Orc}{id:Nat}{ops:List Oper}{σ τ:AState}{Es:List AEff}{Q:Exit→AState→Prop}(hm:P.follows .mixedOrders=true)
  (hsteps:Steps P fz O (kindOk fz G σ.n) σ.n ops 0 ops σ Es τ)(hord:ordB fz G σ.n ops=true)(hd:dsts σ.m ops=true)(hq:Q .normal {τ with n:=σ.n+ops.length}):AWp P D (.region id ops.toArray true) Q σ:=by
 intro ι F a w hR hD
 refine wp_region_any hm ?_
 obtain⟨r1,r2⟩:=hR.drew (w.drawn+1)
 have h0:∀k,σ.s (σ.n+k)=none:=by
  intro k
  cases hs:σ.s (σ.n+k)with
  |none=>rfl
  |some e=>have:=(hR.ent _ e hs).1;unfold below at this;omega
 have hl0:∀k,isL (Array.replicate ops.toArray.size false) k=false:=by
  intro k;unfold isL;simp only[Array.getD_eq_getD_getElem?,Array.getElem?_replicate];split<;>rfl
 refine any_order (n0:=ops.length) (Nat.le_refl _) (by rw[List.take_length];exact hsteps) (fun i h1 h2=>by omega) (fun o ho=>by simp at ho) hord (dsts_spec hd) h0 (ι0:=ι) (F0:=F) (w0:=w) (D:=D) ?_ _ _ a _ ι F σ ⟨by simp,rfl,rfl,fun i k _ h=>(by rw[hl0]at h;cases h),fun d=>?_,fun id=>?_⟩ (fun k _=>hl0 k) (r1.mono fun id h=>.inl h) hD r2.pass (by simp)
 ·intro ι' F' a' w' h1 h2 h3 _
  exact⟨ι',F',{τ with n:=σ.n+ops.length},hq,⟨h1.size,h1.tmp,h1.ent,h1.off,h1.sep,h1.foot,h1.col⟩,h2,⟨h3.os,h3.tape,h3.output,h3.size,h3.frame,h3.own,h3.mono,h3.src⟩⟩
 ·rw[lastT_le (i:=0) ops.length (Nat.zero_le _) (fun k _ _ _=>hl0 k)];rfl
 ·rw[lastW_le (i:=0) ops.length (Nat.zero_le _) (fun k _ _ _=>hl0 k)];rfl
def panOk (fz:Nat→Bool)(ops:List Oper)(n0:Nat):Bool:=
 ((List.range ops.length).all fun i=>decide (i≤n0)||bitAt ((predL ops []).getD i 0) n0)&&(List.range n0).all fun i=>match ops[i]? with
  |some o=>opKind (fz i) o.op==0
  |none=>false
def plost (σ:AState)(ids:List Nat)(n:Nat):AState:={t:=fun _=>.any,s:=(sdrop ids σ).s,m:=σ.m,n:=n}
theorem AWp.regionPan {D:List Deferred}{fz:Nat→Bool}{G:Nat→Nat}{O:Nat→Orc}{id n0:Nat}{ops:List Oper}{o:Oper}{σ τ:AState}{Es:List AEff}{Q:Exit→AState→Prop}{ids:List Nat}{nb:Nat}{as:List AVal}{v:Value}{p:Prop}(hm:P.follows .mixedOrders=true)
  (ho:ops[n0]?=some o)(hg:o.guard=none)(hok:panOk fz ops n0=true)(hsteps:Steps P fz O (kindOk fz G σ.n) σ.n ops 0 (ops.take n0) σ Es τ)(hord:ordB fz G σ.n ops=true)(hd:dsts σ.m ops=true)
  (hp:anextP P τ ids nb as v o.op=some p)(hpp:p)(hq:Q (.panic [⟨v,false,false⟩]) (plost σ ids (σ.n+ops.length))):AWp P D (.region id ops.toArray true) Q σ:=by
 intro ι F a w hR hD
 refine wp_region_any hm ?_
 obtain⟨r1,r2⟩:=hR.drew (w.drawn+1)
 have h0:∀k,σ.s (σ.n+k)=none:=by
  intro k
  cases hs:σ.s (σ.n+k)with
  |none=>rfl
  |some e=>have:=(hR.ent _ e hs).1;unfold below at this;omega
 have hl0:∀k,isL (Array.replicate ops.toArray.size false) k=false:=by
  intro k;unfold isL;simp only[Array.getD_eq_getD_getElem?,Array.getElem?_replicate];split<;>rfl
 have hlt:=(List.getElem?_eq_some_iff.1 ho).1
 unfold panOk at hok
 rw[Bool.and_eq_true]at hok
 have hk0:∀i,i<n0→∀id,hit (eff Es i) id=false:=by
  intro i hi id
  obtain⟨hg0,_⟩:=steps_spec (ops.take n0) 0 σ Es τ hsteps
  have hlti:i<ops.length:=by omega
  have hkind:=List.all_eq_true.1 hok.2 i (List.mem_range.2 hi)
  have hi2:ops[i]?=some ops[i]:=List.getElem?_eq_getElem hlti
  rw[hi2]at hkind
  have:=hg0 i ops[i] (by rw[List.getElem?_take,if_pos hi];exact hi2)
  rw[Nat.zero_add]at this
  have tm:Tame fz G σ.n i ops[i] (eff Es i):=by
   unfold Gate at this
   split at this
   ·exact tame_of this.2
   ·rename_i g want _
    rcases this with⟨b,_,h1,h2⟩|⟨_,h2⟩
    ·by_cases hb:b=want
     ·exact tame_of (h1 hb).2
     ·rw[h2 hb];exact tame_dflt
    ·rw[h2];exact tame_dflt
  exact tm.k0 (by simpa using hkind) id
 have hτs:τ.s=σ.s:=by
  obtain⟨_,hτ⟩:=steps_spec (ops.take n0) 0 σ Es τ hsteps
  rw[List.length_take,Nat.min_eq_left (by omega),stt_take n0 (Nat.le_refl _)]at hτ
  rw[hτ]
  funext id
  rw[stt_w n0 (by omega)]
  rw[lastW_le (i:=0) n0 (Nat.zero_le _) (fun k _ hk hh=>by rw[hk0 k hk id]at hh;cases hh)];rfl
 have hstt:stt ops Es σ n0=τ:=by
  obtain⟨_,hτ⟩:=steps_spec (ops.take n0) 0 σ Es τ hsteps
  rw[List.length_take,Nat.min_eq_left (by omega),stt_take n0 (Nat.le_refl _)]at hτ
  exact hτ.symm
 refine any_order (n0:=n0) (by omega) hsteps (fun i h1 h2=>?_) (fun o' ho' listed ι' F' a' w' ψ next hi hno hops hRψ hDψ hPψ=>?_) hord (dsts_spec hd) h0 (ι0:=ι) (F0:=F) (w0:=w) (D:=D) (fun _ _ _ _ _ _ _ he=>by omega) _ _ a _ ι F σ ⟨by simp,rfl,rfl,fun i k _ h=>(by rw[hl0]at h;cases h),fun d=>?_,fun id=>?_⟩ (fun k _=>hl0 k) (r1.mono fun id h=>.inl h) hD r2.pass (by simp)
 ·have:=List.all_eq_true.1 hok.1 i (List.mem_range.2 h2)
  simp only[Bool.or_eq_true,decide_eq_true_eq]at this
  exact this.resolve_left (by omega)
 ·rw[ho]at ho'
  simp only[Option.some.injEq]at ho';subst ho'
  refine⟨hg,?_⟩
  have hψs:ψ.s=σ.s:=by
   funext id
   rw[hi.s id]
   rw[lastW_le (i:=0) ops.length (Nat.zero_le _) (fun k _ hk hh=>?_)]
   ·rfl
   ·rcases Nat.lt_or_ge k n0 with h|h
    ·rw[hk0 k h id]at hh;cases hh
    ·exact hno k h
  rw[hstt]at hops
  have hpψ:anextP P ψ ids nb as v o.op=some p:=by
   rw[←hp]
   generalize hop:o.op=op at hops
   unfold anextP
   split
   ·rename_i fo args tys
    have e1:ψ.ev fo=τ.ev fo:=hops fo (by simp[Op.operands,Call.operands])
    have e2:args.toList.map ψ.ev=args.toList.map τ.ev:=List.map_congr_left fun x hx=>hops x (by simp[Op.operands,Call.operands];exact .inr (by simpa using hx))
    rw[e1,e2,hψs,hτs]
   ·rfl
  refine wp_callP hRψ hpψ hpp _ _ fun w'' g1 g2=>?_
  refine⟨ι',F',_,hq,⟨g1.size.trans hi.m,fun i=>⟨by rw[plost,AIn];trivial,by rw[plost,ARep];trivial⟩,fun id e he=>?_,?_,?_,g1.foot,g1.col⟩,hDψ,?_⟩
  ·have he':(sdrop ids ψ).s id=some e:=by simp only[plost,sdrop]at he⊢;rw[hψs];exact he
   obtain⟨k1,k2,k3⟩:=g1.ent id e he'
   have mono:∀x,Kof σ.n listed x→below (σ.n+ops.length) x:=by
    rintro x (h|⟨k,h1,h2⟩)
    ·unfold below;omega
    ·unfold isL at h1
     simp only[Array.getD_eq_getD_getElem?]at h1
     have hk:k<listed.size:=by
      rcases Nat.lt_or_ge k listed.size with h|h
      ·exact h
      ·rw[Array.getElem?_eq_none h]at h1;cases h1
     rw[hi.size]at hk
     unfold below;omega
   exact⟨mono _ k1,EIn.mono mono _ k2,k3⟩
  ·rintro b ⟨id,e,he,h1,h2⟩
   exact g1.off b ⟨id,e,by simp only[plost,sdrop]at he⊢;rw[hψs];exact he,h1,h2⟩
  ·intro i j ei ej hi' hj'
   exact g1.sep i j ei ej (by simp only[plost,sdrop]at hi'⊢;rw[hψs];exact hi') (by simp only[plost,sdrop]at hj'⊢;rw[hψs];exact hj')
  ·have h3:=hPψ.trans g2
   refine⟨h3.os,h3.tape,h3.output,h3.size,h3.frame,fun b hb=>h3.own b ?_,h3.mono,h3.src⟩
   obtain⟨id,e,he,h1,h2⟩:=hb
   exact⟨id,e,by simp only[plost,sdrop]at he⊢;rw[hψs];exact he,h1,h2⟩
 ·rw[lastT_le (i:=0) ops.length (Nat.zero_le _) (fun k _ _ _=>hl0 k)];rfl
 ·rw[lastW_le (i:=0) ops.length (Nat.zero_le _) (fun k _ _ _=>hl0 k)];rfl
end Go.Abs
namespace Go.Abs
open Go.RowKit
variable {P:Program}
def loopKey :Code→Nat
 |.region id _ _=>id
 |.seq a b=>match a with|.label _=>loopKey b|_=>loopKey a
 |.cond _ a _=>loopKey a
 |.block _ c=>loopKey c
 |.loop c=>loopKey c
 |.scope c=>loopKey c
 |_=>0
def unr (f:LState→(Exit→LState→Tree)→Tree)(k:Exit→LState→Tree):Nat→LState→Tree
 |0,_=>.fail 1000005 0
 |n+1,σ=>f σ fun e σ'=>match e with
  |.normal=>unr f k n σ'
  |e=>k e σ'
def panAt (M:Nat→MayT):Nat→Nat→Option (Nat×Bool×List Nat×Nat×List AVal×Value)
 |_,0=>none
 |i,n+1=>match M i with
  |some x=>some (i,x)
  |none=>panAt M (i+1) n
def onlyN (k:LState→Tree):Exit→LState→Tree
 |.normal,σ=>k σ
 |_,_=>.fail 0 3000000
def LState.plost (σ:LState)(ids:List Nat)(n:Nat):LState:={t:=[],s:=(σ.sdrop ids).s,m:=σ.m,n}
theorem LState.plost_toA (σ:LState)(ids:List Nat)(n:Nat):(σ.plost ids n).toA=Abs.plost σ.toA ids n:=by
 have:=congrArg AState.s (LState.sdrop_toA ids σ)
 simp only[LState.plost,LState.toA,Abs.plost]at this⊢
 rw[this];rfl
def lev (P:Program)(fz:Nat→Nat→Bool)(O:Nat→Nat→Nat→Orc)(Lp:Nat→Nat→Tree)(un:Nat→Nat)(lv:Nat→List Nat×List Nat):Code→LState→(Exit→LState→Tree)→Tree
 |.skip,σ,k=>k .normal σ
 |.ret,σ,k=>k .ret σ
 |.exit id,σ,k=>k (.exit id) σ
 |.label _,σ,k=>k .normal σ
 |.seq x y,σ,k=>lev P fz O Lp un lv x σ fun e σ'=>match e with
  |.normal=>lev P fz O Lp un lv y σ' k
  |e=>k e σ'
 |.cond c x y,σ,k=>match σ.toA.ev c with
  |.imm (.v (.bool b))=>lbr (known σ.q c) b (lev P fz O Lp un lv x σ k) (lev P fz O Lp un lv y σ k)
  |.ub b=>.alt b (lev P fz O Lp un lv x σ k) (lev P fz O Lp un lv y σ k)
  |_=>.fail 1000000 0
 |.block id c,σ,k=>lev P fz O Lp un lv c σ fun e σ'=>match e with
  |.exit i=>if i=id then k .normal σ' else k (.exit i) σ'
  |e=>k e σ'
 |.region id ops draws,σ,k=>if dsts σ.m ops.toList=true then
   (if draws=false then lops P (fz id) (fun i=>core (O σ.n id i)) (fun i=>mayO (O σ.n id i)) (fun _ _ _ _=>true) id ops.toList σ.n 0 ops.toList σ fun e σ'=>k e {σ' with n:=σ.n+ops.toList.length+gxs (fun i=>core (O σ.n id i)) 0 ops.toList}
    else if P.follows .mixedOrders=true∧ordB (fz id) (gof P (fz id) σ.toA σ.n ops.toList) σ.n ops.toList=true then
      (match panAt (fun i=>mayO (O σ.n id i)) 0 ops.toList.length with
      |none=>lops P (fz id) (fun i=>noG (core (O σ.n id i))) (fun _=>none) (kindOk (fz id) (gof P (fz id) σ.toA σ.n ops.toList) σ.n) id ops.toList σ.n 0 ops.toList σ (onlyN fun σ'=>k .normal {σ' with n:=σ.n+ops.toList.length})
      |some (n0,c,ids,nb,as,v)=>.br c (lops P (fz id) (fun i=>noG (core (O σ.n id i))) (fun _=>none) (kindOk (fz id) (gof P (fz id) σ.toA σ.n ops.toList) σ.n) id ops.toList σ.n 0 ops.toList σ (onlyN fun σ'=>k .normal {σ' with n:=σ.n+ops.toList.length}))
        (match ops.toList[n0]? with
         |some o=>if o.guard.isNone=true∧panOk (fz id) ops.toList n0=true then
           lops P (fz id) (fun i=>noG (core (O σ.n id i))) (fun _=>none) (kindOk (fz id) (gof P (fz id) σ.toA σ.n ops.toList) σ.n) id ops.toList σ.n 0 (ops.toList.take n0) σ (onlyN fun τ=>match anextP P τ.toA ids nb as v o.op with
            |some p=>.need p (k (.panic [⟨v,false,false⟩]) (σ.plost ids (σ.n+ops.toList.length)))
            |none=>.fail id n0)
          else .fail id n0
         |none=>.fail id n0))
     else .fail id 2000000)
  else .fail id 1000000
 |.loop c,σ,k=>if un (loopKey c)=0 then .loop (loopKey c) (σ.only (lv (loopKey c)).1 (lv (loopKey c)).2) (Lp σ.n (loopKey c)) ((Lp σ.n (loopKey c)).bind k)
  else unr (lev P fz O Lp un lv c) k (un (loopKey c)) σ
 |_,_,_=>.fail 1000001 0
def Code.loops :Code→List (Nat×Code)
 |.seq a b=>Code.loops a++Code.loops b
 |.cond _ a b=>Code.loops a++Code.loops b
 |.block _ c=>Code.loops c
 |.loop c=>(loopKey c,c)::Code.loops c
 |_=>[]
def LoopIs (P:Program)(D:List Deferred)(c:Code)(σ:LState)(L:Tree):Prop:=
 AWp P D (.loop c) (fun e τ=>∃s:LState,L.has e s∧τ=s.toA) σ.toA
theorem lev_sound {D:List Deferred}{fz:Nat→Nat→Bool}{O:Nat→Nat→Nat→Orc}{Lp:Nat→Nat→Tree}{un:Nat→Nat}{lv:Nat→List Nat×List Nat}{Λ:Nat→LState→Tree→Prop}{Q:Exit→LState→Prop}:
  ∀(c:Code)(σ:LState)(k:Exit→LState→Tree),(∀p∈Code.loops c,∀σ L,Λ p.1 σ L→LoopIs P D p.2 σ L)→(lev P fz O Lp un lv c σ k).sat Λ Q→
   AWp P D c (fun e τ=>∃s:LState,(k e s).sat Λ Q∧τ=s.toA) σ.toA
 |.skip,σ,k,_,h=>AWp.skip ⟨σ,h,rfl⟩
 |.ret,σ,k,_,h=>AWp.ret ⟨σ,h,rfl⟩
 |.exit _,σ,k,_,h=>AWp.exit ⟨σ,h,rfl⟩
 |.label _,σ,k,_,h=>AWp.label ⟨σ,h,rfl⟩
 |.seq x y,σ,k,hl,h=>by
  rw[lev]at h
  refine AWp.seq ((lev_sound x σ _ (fun p hp=>hl p (by simp[Code.loops,hp])) h).mono ?_)
  rintro e τ ⟨s,h1,rfl⟩
  cases e with
  |normal=>exact lev_sound y s k (fun p hp=>hl p (by simp[Code.loops,hp])) h1
  |_=>exact⟨s,h1,rfl⟩
 |.cond c x y,σ,k,hl,h=>by
  rw[lev]at h
  split at h
  ·rename_i b hb
   obtain⟨h1,h2⟩:=lbr_sat h
   exact AWp.cond hb (fun hb=>lev_sound x σ k (fun p hp=>hl p (by simp[Code.loops,hp])) (h1 hb)) (fun hb=>lev_sound y σ k (fun p hp=>hl p (by simp[Code.loops,hp])) (h2 hb))
  ·rename_i b hb
   intro ι F a w hR hD
   have hv:=(hR.ev c).2
   rw[hb,ARep]at hv
   obtain⟨t,e1,e2⟩:=hv
   exact wp_cond_split e1 (fun ht=>lev_sound x σ k (fun p hp=>hl p (by simp[Code.loops,hp])) (h.1 (e2 ht)) ι F a w hR hD) (fun _=>lev_sound y σ k (fun p hp=>hl p (by simp[Code.loops,hp])) h.2 ι F a w hR hD)
  ·exact h.elim
 |.block id c,σ,k,hl,h=>by
  rw[lev]at h
  refine AWp.block ((lev_sound c σ _ (fun p hp=>hl p (by simp[Code.loops,hp])) h).mono ?_)
  rintro e τ ⟨s,h1,rfl⟩
  cases e with
  |exit i=>
   simp only at h1
   simp only[ablock]
   split at h1
   ·rename_i hi;rw[if_pos hi];exact⟨s,h1,rfl⟩
   ·rename_i hi;rw[if_neg hi];exact⟨s,h1,rfl⟩
  |_=>exact⟨s,h1,rfl⟩
 |.region id ops draws,σ,k,_,h=>by
  rw[lev]at h
  have e:ops=ops.toList.toArray:=by simp
  split at h
  ·rename_i hd
   split at h
   ·rename_i hdr
    subst hdr
    intro ι F a w hR hD
    rw[e]
    refine wp_region_lit (lops_sound (dsts_spec hd) ops.toList σ.n 0 σ ι F a w (by simp) rfl h (by rw[Nat.add_zero];exact hR) ?_)
    intro e ι' F' σ' a' w' _ h1 h2 h3 h4 h5
    simp only[Nat.zero_add]at h3
    exact⟨ι',F',_,⟨_,h1,rfl⟩,⟨h3.size,h3.tmp,h3.ent,h3.off,h3.sep,h3.foot,h3.col⟩,h4.trans hD,⟨h5.os,h5.tape,h5.output,h5.size,h5.frame,h5.own,h5.mono,h5.src⟩⟩
   ·rename_i hdr
    obtain rfl:draws=true:=by cases draws<;>simp_all
    split at h
    ·rename_i hc
     have old:(lops P (fz id) (fun i=>noG (core (O σ.n id i))) (fun _=>none) (kindOk (fz id) (gof P (fz id) σ.toA σ.n ops.toList) σ.n) id ops.toList σ.n 0 ops.toList σ (onlyN fun σ'=>k .normal {σ' with n:=σ.n+ops.toList.length})).sat Λ Q→AWp P D (.region id ops true) (fun e τ=>∃s:LState,(k e s).sat Λ Q∧τ=s.toA) σ.toA:=by
      intro h
      obtain⟨Es,σ',h1,h2,_⟩:=lops_path (k:=onlyN fun σ'=>k .normal {σ' with n:=σ.n+ops.toList.length}) (fun _=>noG_none _) (fun _ _ h=>h) _ _ _ h
      rw[e]
      exact AWp.regionAny hc.1 h1 hc.2 hd ⟨_,h2,rfl⟩
     split at h
     ·exact old h
     ·rename_i n0 c ids nb as v hpa
      intro ι F a w hR hD
      obtain⟨h1,h2⟩:=h
      cases c with
      |true=>exact old (h1 rfl) ι F a w hR hD
      |false=>
       have h2:=h2 rfl
       split at h2
       ·rename_i o ho
        split at h2
        ·rename_i hpk
         obtain⟨Es,τ,g1,g2,_⟩:=lops_path (k:=onlyN _) (fun _=>noG_none _) (fun _ _ h=>h) _ _ _ h2
         simp only[onlyN]at g2
         split at g2
         ·rename_i p hp
          rw[e]
          refine AWp.regionPan hc.1 ho (by simpa using hpk.1) hpk.2 g1 hc.2 hd hp g2.1 ⟨_,g2.2 g2.1,?_⟩ ι F a w hR hD
          exact(LState.plost_toA _ _ _).symm
         ·exact g2.elim
        ·exact h2.elim
       ·exact h2.elim
    ·exact h.elim
  ·exact h.elim
 |.loop c,σ,k,hl,h=>by
  rw[lev]at h
  split at h
  ·have h1:=AWp.sub (LState.only_sub σ _ _) (hl (loopKey c,c) (by simp[Code.loops]) _ _ h.1)
   intro ι F a w hR hD
   refine wp_mono (h1 ι F a w hR hD) ?_
   rintro e a' w' ⟨ι',F',τ,⟨s,g1,rfl⟩,g2,g3,g4⟩
   obtain⟨s',k1,k2⟩:=Tree.bind_sat g1 h.2
   exact⟨ι',F',s'.toA,⟨s',k2,rfl⟩,g2.lsub k1,g3,g4.trans k1.pass⟩
  ·intro ι F a w hR hD
   refine wp_loop_rounds (un (loopKey c)) ?_
   have key:∀(n:Nat)(τ:LState)(ι':Nat→Loc)(F':Foot)(a':Act)(w':World),(unr (lev P fz O Lp un lv c) k n τ).sat Λ Q→Rel (below τ.n) ι' F' τ.toA a' w'→a'.defers=D→Pass ι F σ.toA w ι' F' τ.toA w'→
     Code.rounds P c (fun e a' w'=>∃ι' F' σ',(∃s:LState,(k e s).sat Λ Q∧σ'=s.toA)∧Rel (below σ'.n) ι' F' σ' a' w'∧a'.defers=D∧Pass ι F σ.toA w ι' F' σ' w') n a' w':=by
    intro n
    induction n with
    |zero=>intro τ ι' F' a' w' hs;exact hs.elim
    |succ n ih=>
     intro τ ι' F' a' w' hs h1 h2 h3
     rw[rounds_succ]
     refine wp_mono (lev_sound c τ _ (fun p hp=>hl p (by simp[Code.loops,hp])) hs ι' F' a' w' h1 h2) ?_
     rintro e a'' w'' ⟨ι'',F'',σ'',⟨s,g1,rfl⟩,g2,g3,g4⟩
     cases e with
     |normal=>exact ih s ι'' F'' a'' w'' g1 g2 g3 (h3.trans g4)
     |_=>exact⟨ι'',F'',s.toA,⟨s,g1,rfl⟩,g2,g3,h3.trans g4⟩
   exact key (un (loopKey c)) σ ι F a w h hR hD (Pass.refl _ _ _ _)
 |.rangeFunc _ _ _ _,_,_,_,h=>by simp[lev]at h;exact h.elim
 |.scope _,_,_,_,h=>by simp[lev]at h;exact h.elim
 |.goto _,_,_,_,h=>by simp[lev]at h;exact h.elim
 |.refuse _,_,_,_,h=>by simp[lev]at h;exact h.elim
def LoopOk (P:Program)(D:List Deferred)(body:Code)(key:Nat)(σ:LState)(L:Tree):Prop:=∀c,(key,c)∈Code.loops body→LoopIs P D c σ L
def loopAt (body:Code)(key:Nat):Code:=match(Code.loops body).filter (fun p=>p.1==key)with
 |[p]=>p.2
 |_=>.skip
def loopOne (body:Code)(key:Nat):Bool:=((Code.loops body).filter (fun p=>p.1==key)).length==1
theorem loopAt_spec {body c:Code}{key:Nat}(h1:loopOne body key=true)(hc:(key,c)∈Code.loops body):c=loopAt body key:=by
 unfold loopOne at h1;unfold loopAt
 have hm:(key,c)∈(Code.loops body).filter (fun p=>p.1==key):=by simp[hc]
 split
 ·rename_i p hp;rw[hp]at hm;simp at hm;rw[←hm]
 ·rename_i hne
  simp only[beq_iff_eq,List.length_eq_one_iff]at h1
  obtain⟨p,hp⟩:=h1
  exact(hne p hp).elim
theorem loops_sub {body:Code}{key:Nat}{p:Nat×Code}:∀{b:Code},(∀q∈Code.loops b,q∈Code.loops body)→∀c,(key,c)∈Code.loops b→p∈Code.loops c→p∈Code.loops body
 |.seq a b,hb,c,hc,hp=>by
  simp only[Code.loops,List.mem_append]at hc
  rcases hc with hc|hc
  ·exact loops_sub (b:=a) (fun q hq=>hb q (by simp[Code.loops,hq])) c hc hp
  ·exact loops_sub (b:=b) (fun q hq=>hb q (by simp[Code.loops,hq])) c hc hp
 |.cond _ a b,hb,c,hc,hp=>by
  simp only[Code.loops,List.mem_append]at hc
  rcases hc with hc|hc
  ·exact loops_sub (b:=a) (fun q hq=>hb q (by simp[Code.loops,hq])) c hc hp
  ·exact loops_sub (b:=b) (fun q hq=>hb q (by simp[Code.loops,hq])) c hc hp
 |.block _ b,hb,c,hc,hp=>loops_sub (b:=b) (fun q hq=>hb q (by simpa[Code.loops]using hq)) c (by simpa[Code.loops]using hc) hp
 |.loop b,hb,c,hc,hp=>by
  simp only[Code.loops,List.mem_cons,Prod.mk.injEq]at hc
  rcases hc with⟨_,rfl⟩|hc
  ·exact hb p (by simp[Code.loops,hp])
  ·exact loops_sub (b:=b) (fun q hq=>hb q (by simp[Code.loops,hq])) c hc hp
 |.skip,_,_,hc,_=>by simp[Code.loops]at hc
 |.ret,_,_,hc,_=>by simp[Code.loops]at hc
 |.exit _,_,_,hc,_=>by simp[Code.loops]at hc
 |.label _,_,_,hc,_=>by simp[Code.loops]at hc
 |.goto _,_,_,hc,_=>by simp[Code.loops]at hc
 |.refuse _,_,_,hc,_=>by simp[Code.loops]at hc
 |.scope _,_,_,hc,_=>by simp[Code.loops]at hc
 |.rangeFunc _ _ _ _,_,_,hc,_=>by simp[Code.loops]at hc
 |.region _ _ _,_,_,hc,_=>by simp[Code.loops]at hc
def kdone (sw:List (Nat×Nat))(lt ls:List Nat)(e:Exit)(σ:LState):Tree:=
 match sw with
 |[]=>.done e (σ.only lt ls)
 |(a,b)::sw=>if a<σ.n∧b<σ.n then kdone sw lt ls e (σ.swap a b)else .fail a b
theorem kdone_sound {Λ:Nat→LState→Tree→Prop}{Q:Exit→LState→Prop}{F:Foot}{a:Act}{w:World}{lt ls:List Nat}{e:Exit}:∀(sw:List (Nat×Nat))(σ:LState)(ι:Nat→Loc),(kdone sw lt ls e σ).sat Λ Q→Rel (below σ.n) ι F σ.toA a w→
  ∃ι' σ',Q e σ'∧Rel (below σ'.n) ι' F σ'.toA a w∧Pass ι F σ.toA w ι' F σ'.toA w
 |[],σ,ι,h,hR=>by
  have hs:=σ.only_sub lt ls
  refine⟨ι,σ.only lt ls,h,(hR.sub hs),?_⟩
  exact(Ext.sub (K:=below σ.n) (ι:=ι) (F:=F) (w:=w) hs (fun _ h=>h)).pass
 |(x,y)::sw,σ,ι,h,hR=>by
  unfold kdone at h
  split at h
  ·rename_i hc
   obtain⟨ι',σ',g1,g2,g3⟩:=kdone_sound sw (σ.swap x y) _ h (hR.swap (show below σ.n x from hc.1) (show below σ.n y from hc.2))
   have ho:∀b,Owned (fun i=>ι (swp x y i)) (σ.swap x y).toA b↔Owned ι σ.toA b:=by
    intro b;rw[LState.swap_toA];exact AState.ren_owned (swp_swp x y)
   exact⟨ι',σ',g1,g2,⟨g3.os,g3.tape,g3.output,g3.size,fun b hb hn=>g3.frame b hb (fun h=>hn ((ho b).1 h)),fun b hb=>(g3.own b hb).imp_left (ho b).1,g3.mono,fun c b hb=>(g3.src c b hb).imp_right (fun h=>h.imp_right (ho b).1)⟩⟩
  ·exact h.elim
structure Fin where
 sw:List (Nat×Nat)
 lt:List Nat
 ls:List Nat
structure Tell where
 fz:Nat→Nat→Bool:=fun _ _=>false
 O:Nat→Nat→Orc:=fun _ _=>.no
 Lp:Nat→Tree:=fun _=>.fail 1000003 0
 un:Nat→Nat:=fun _=>0
 lv:Nat→List Nat×List Nat:=fun _=>([],[])
 Ob:Nat→Nat→Nat→Orc:=fun _=>O
 Lb:Nat→Nat→Tree:=fun _=>Lp
theorem LoopOk.of {D:List Deferred}{body:Code}{key:Nat}{σ:LState}{L:Tree}{γ:Type}(T:γ→Tell)(I:γ→LState)(μ:γ→Nat)(g:γ)(fin:Exit→Fin)
  (h1:loopOne body key=true)(hg:LSub σ (I g))
  (hr:∀g,(lev P (T g).fz (T g).Ob (T g).Lb (T g).un (T g).lv (loopAt body key) (I g) fun e s=>kdone (fin e).sw (fin e).lt (fin e).ls e s).sat (LoopOk P D body) fun e s=>match e with
   |.normal=>∃g',μ g'<μ g∧LSub s (I g')
   |e=>L.has e s):LoopOk P D body key σ L:=by
 intro c hc
 have hcl:=hc
 obtain rfl:=loopAt_spec h1 hc
 unfold LoopIs
 intro ι F a w hR hD
 refine wp_loop_ghost (fun n a' w'=>∃g' ι' F',μ g'=n∧Rel (below (I g').n) ι' F' (I g').toA a' w'∧a'.defers=D∧Pass ι F σ.toA w ι' F' (I g').toA w') (μ g)
  ⟨g,ι,F,rfl,hR.lsub hg,hD,hg.pass⟩ ?_
 rintro n a' w' ⟨g',ι',F',rfl,h1,h2,h3⟩
 have hs:=lev_sound (D:=D) _ _ _ (fun p hp σ L hΛ=>hΛ p.2 (loops_sub (body:=body) (b:=body) (fun _ h=>h) _ hcl hp)) (hr g')
 refine wp_mono (hs ι' F' a' w' h1 h2) ?_
 rintro e a'' w'' ⟨ι'',F'',τ,⟨s,g1,rfl⟩,g2,g3,g4⟩
 obtain⟨ι3,s3,k1,k2,k3⟩:=kdone_sound _ s ι'' g1 g2
 have g4:=g4.trans k3
 cases e with
 |normal=>
  obtain⟨g'',k5,k6⟩:=k1
  exact⟨μ g'',k5,g'',ι3,F'',rfl,k2.lsub k6,g3,(h3.trans g4).trans k6.pass⟩
 |_=>exact⟨ι3,F'',s3.toA,⟨s3,k1,rfl⟩,k2,g3,h3.trans g4⟩
def largs :Nat→List IVal→List (Nat×AVal)
 |_,[]=>[]
 |i,d::ds=>(i,.imm d)::largs (i+1) ds
theorem largs_spec (ds:List IVal):∀j i,tl (largs j ds) i=if j≤i then(match ds[i-j]? with|some d=>.imm d|none=>.any)else .any:=by
 induction ds with
 |nil=>intro j i;simp[largs,tl]
 |cons d ds ih=>
  intro j i
  simp only[largs,tl]
  by_cases h:i=j
  ·subst h;simp
  ·rw[if_neg h,ih]
   by_cases hj:j≤i
   ·rw[if_pos hj,if_pos (by omega)]
    have:i-j=(i-(j+1))+1:=by omega
    rw[this];simp
   ·rw[if_neg hj,if_neg (by omega)]
def lstart (args:List IVal)(m:Nat):LState:={t:=largs 0 args,s:=[],m,n:=0}
theorem lstart_toA (args:List IVal)(m:Nat):(lstart args m).toA=astart args m:=by
 simp only[lstart,LState.toA,astart]
 congr 1
 funext i;rw[largs_spec];simp;rfl
def lret (d:IVal):LState:={t:=[(0,.imm d)],s:=[],m:=0,n:=0}
def kret (P:Program)(rs:List ResultVar)(e:Exit)(s:LState):Tree:=
 match e with
 |.normal=>(match afin P s.toA rs with
  |some ([],d)=>.done .ret (lret d)
  |some (o,d)=>.need (eqs o) (.done .ret (lret d))
  |none=>.fail 1000002 0)
 |.ret=>(match afin P s.toA rs with
  |some ([],d)=>.done .ret (lret d)
  |some (o,d)=>.need (eqs o) (.done .ret (lret d))
  |none=>.fail 1000002 0)
 |_=>.fail 1000006 0
theorem kret_spec {Λ:Nat→LState→Tree→Prop}{rs:List ResultVar}{r:IVal}{e:Exit}{s:LState}(h:(kret P rs e s).sat Λ (fun _ s=>∃d,s=lret d∧ILe d r)):AEnd P rs r e s.toA:=by
 have key:((match afin P s.toA rs with
  |some ([],d)=>.done .ret (lret d)
  |some (o,d)=>.need (eqs o) (.done .ret (lret d))
  |none=>.fail 1000002 0):Tree).sat Λ (fun _ s=>∃d,s=lret d∧ILe d r)→∃o d,afin P s.toA rs=some (o,d)∧eqs o∧ILe d r:=by
  intro h
  split at h
  ·rename_i d hd
   obtain⟨d',h1,hle⟩:=h
   simp only[lret,LState.mk.injEq,List.cons.injEq,Prod.mk.injEq,AVal.imm.injEq,true_and,and_true]at h1
   subst h1
   exact⟨[],d,hd,trivial,hle⟩
  ·rename_i o d _ hd
   obtain⟨ho,h⟩:=h
   obtain⟨d',h1,hle⟩:=h ho
   simp only[lret,LState.mk.injEq,List.cons.injEq,Prod.mk.injEq,AVal.imm.injEq,true_and,and_true]at h1
   subst h1
   exact⟨o,d,hd,ho,hle⟩
  ·exact h.elim
 cases e with
 |normal=>exact key h
 |ret=>exact key h
 |_=>exact h.elim
theorem ASpec.of_levW {f:FuncId}{fn:Func}{c:Code}{args:List IVal}{r:IVal}(fz:Nat→Nat→Bool)(O:Nat→Nat→Nat→Orc)(Lp:Nat→Nat→Tree)(un:Nat→Nat)(lv:Nat→List Nat×List Nat)(hf:P.funcs[f]?=some fn)(hb:fn.body=some c)(hn:(fn.name != "runtime.NumGoroutine")=true)(hl:args.length≤fn.ntmps)
  (h:(lev P fz O Lp un lv c (lstart args fn.ntmps) (kret P fn.results.toList)).sat (LoopOk P [] c) (fun _ s=>∃d,s=lret d∧ILe d r)):ASpec P f args r:=by
 refine ASpec.of_body hf hb hn hl ?_
 have hs:=lev_sound (D:=[]) c _ _ (fun p hp σ L hΛ=>hΛ p.2 hp) h
 rw[lstart_toA]at hs
 intro ι F a w hR hD
 refine wp_mono (hs ι F a w hR hD) ?_
 rintro e a' w' ⟨ι',F',τ,⟨s,h1,rfl⟩,h2,h3,h4⟩
 exact⟨ι',F',s.toA,kret_spec h1,h2,h3,h4⟩
def bodyOf (fn:Func):Code:=match fn.body with
 |some c=>c
 |none=>.skip
def levF (P:Program)(fn:Func)(args:List IVal)(T:Tell):Tree:=lev P T.fz T.Ob T.Lb T.un T.lv (bodyOf fn) (lstart args fn.ntmps) (kret P fn.results.toList)
def okF (fn:Func)(n:Nat):Bool:=fn.body.isSome&&fn.name != "runtime.NumGoroutine" &&decide (n≤fn.ntmps)
theorem ASpec.of_levFW {f:FuncId}{fn:Func}{args:List IVal}{r:IVal}(T:Tell)(hf:P.funcs[f]?=some fn)(n:Nat)(hn:args.length=n)(hk:okF fn n=true)
  (h:(levF P fn args T).sat (LoopOk P [] (bodyOf fn)) (fun _ s=>∃d,s=lret d∧ILe d r)):ASpec P f args r:=by
 simp only[okF,Bool.and_eq_true,decide_eq_true_eq]at hk
 refine ASpec.of_levW T.fz T.Ob T.Lb T.un T.lv hf (c:=bodyOf fn) ?_ hk.1.2 (by rw[hn];exact hk.2) h
 unfold bodyOf
 split
 ·rename_i hc;exact hc
 ·rename_i hc;rw[hc]at hk;simp at hk
def levL (P:Program)(fn:Func)(key:Nat)(σ:LState)(T:Tell)(fin:Exit→Fin):Tree:=
 lev P T.fz T.Ob T.Lb T.un T.lv (loopAt (bodyOf fn) key) σ fun e s=>kdone (fin e).sw (fin e).lt (fin e).ls e s
theorem LoopOk.of_levL {D:List Deferred}{fn:Func}{key:Nat}{σ:LState}{L:Tree}{γ:Type}(T:γ→Tell)(fin:Exit→Fin)(I:γ→LState)(μ:γ→Nat)(g:γ)
  (h1:loopOne (bodyOf fn) key=true)(hg:LSub σ (I g))
  (hr:∀g,(levL P fn key (I g) (T g) fin).sat (LoopOk P D (bodyOf fn)) fun e s=>match e with
   |.normal=>∃g',μ g'<μ g∧LSub s (I g')
   |e=>L.has e s):LoopOk P D (bodyOf fn) key σ L:=
 LoopOk.of T I μ g fin h1 hg hr
theorem Tree.sat_mono {Q Q':Exit→LState→Prop}{Λ:Nat→LState→Tree→Prop}(hq:∀e s,Q e s→Q' e s):∀{t:Tree},t.sat Λ Q→t.sat Λ Q'
 |.done _ _,h=>hq _ _ h
 |.br _ _ _,h=>⟨fun hb=>Tree.sat_mono hq (h.1 hb),fun hb=>Tree.sat_mono hq (h.2 hb)⟩
 |.alt _ _ _,h=>⟨fun hb=>Tree.sat_mono hq (h.1 hb),Tree.sat_mono hq h.2⟩
 |.need _ _,h=>⟨h.1,fun hp=>Tree.sat_mono hq (h.2 hp)⟩
 |.loop _ _ _ _,h=>⟨h.1,Tree.sat_mono hq h.2⟩
 |.fail _ _,h=>h
 |.stop _ _ _ _,h=>h
theorem need_sat {Λ:Nat→LState→Tree→Prop}{Q:Exit→LState→Prop}{p:Prop}{t:Tree}(h:p)(h2:t.sat Λ Q):(Tree.need p t).sat Λ Q:=⟨h,fun _=>h2⟩
theorem ASpec.treeW {f:FuncId}(fn:Func){args:List IVal}{r:IVal}(T:Tell){t:Tree}(hf:P.funcs[f]?=some fn)(hk:okF fn args.length=true)(ht:levF P fn args T=t)
  (h:t.sat (LoopOk P [] (bodyOf fn)) (fun _ s=>∃d,s=lret d∧ILe d r)):ASpec P f args r:=
 ASpec.of_levFW T hf args.length rfl hk (by rw[ht];exact h)
theorem ASpec.tree {f:FuncId}(fn:Func){args:List IVal}{r:IVal}(T:Tell){t:Tree}(hf:P.funcs[f]?=some fn)(hk:okF fn args.length=true)(ht:levF P fn args T=t)
  (h:t.sat (LoopOk P [] (bodyOf fn)) (fun _ s=>s=lret r)):ASpec P f args r:=
 ASpec.treeW fn T hf hk ht (Tree.sat_mono (fun _ _ h=>⟨r,h,ILe.refl _⟩) h)
theorem lret_inj {d d':IVal}(h:d=d'):lret d=lret d':=by rw[h]
def firstI (p:Nat→Bool):Nat→Nat→Nat
 |i,0=>i
 |i,n+1=>if p i=true then i else firstI p (i+1) n
def anyI (p:Nat→Bool):Nat→Nat→Bool
 |_,0=>false
 |i,n+1=>if p i=true then true else anyI p (i+1) n
theorem firstI_skip {p:Nat→Bool}:∀(i k n:Nat),(∀j,k≤j→j<k+i→p j=false)→firstI p k (i+n)=firstI p (k+i) n∧anyI p k (i+n)=anyI p (k+i) n
 |0,k,n,_=>by simp
 |i+1,k,n,h=>by
  have h0:p k=false:=h k (by omega) (by omega)
  rw[show i+1+n=(i+n)+1 from by omega]
  simp only[firstI,anyI,h0,Bool.false_eq_true,if_false]
  have:=firstI_skip i (k+1) n (fun j h1 h2=>h j (by omega) (by omega))
  rw[this.1,this.2,show k+1+i=k+(i+1)from by omega]
  exact⟨rfl,rfl⟩
theorem first_at {p:Nat→Bool}{i n:Nat}(hi:i<n)(hz:∀j,j<i→p j=false)(hp:p i=true):anyI p 0 n=true∧firstI p 0 n=i:=by
 have:=firstI_skip (p:=p) i 0 (n-i) (fun j _ h=>hz j (by omega))
 rw[show i+(n-i)=n from by omega,Nat.zero_add]at this
 obtain⟨m,hm⟩:∃m,n-i=m+1:=⟨n-i-1,by omega⟩
 rw[this.1,this.2,hm]
 simp[firstI,anyI,hp]
theorem first_none {p:Nat→Bool}{n:Nat}(hz:∀j,j<n→p j=false):anyI p 0 n=false:=by
 have:=firstI_skip (p:=p) n 0 0 (fun j _ h=>hz j (by omega))
 simp only[Nat.add_zero,Nat.zero_add]at this
 rw[this.2];rfl
theorem anyI_iff {p:Nat→Bool}{n:Nat}:anyI p 0 n=true↔∃i,i<n∧p i=true:=by
 constructor
 ·intro h
  by_cases hc:∃i,i<n∧p i=true
  ·exact hc
  ·rw[first_none (fun j hj=>by cases hp:p j with|false=>rfl|true=>exact absurd ⟨j,hj,hp⟩ hc)]at h;cases h
 ·rintro⟨i,hi,hp⟩
  induction n with
  |zero=>omega
  |succ n _=>
   have key:∀(m k:Nat),k≤i→i<k+m→anyI p k m=true:=by
    intro m
    induction m with
    |zero=>intro k h1 h2;omega
    |succ m ih=>
     intro k h1 h2
     simp only[anyI]
     split
     ·rfl
     ·rename_i hk
      refine ih (k+1) ?_ (by omega)
      rcases Nat.lt_or_ge k i with h|h
      ·omega
      ·obtain rfl:k=i:=by omega
       exact absurd hp hk
   exact key (n+1) 0 (by omega) (by omega)
def Lfirst (p:Nat→Bool)(n:Nat)(x:Nat)(R:Nat→LState)(E:LState):Tree:=.br (anyI p 0 n) (.done .ret (R (firstI p 0 n))) (.done (.exit x) E)
def Qfirst (p:Nat→Bool)(n x:Nat)(I R:Nat→LState)(E:LState)(i:Nat):Exit→LState→Prop
 |.normal,s=>i<n∧p i=false∧LSub s (I (i+1))
 |.ret,s=>i<n∧p i=true∧LSub s (R i)
 |.exit y,s=>y=x∧n≤i∧LSub s E
 |_,_=>False
theorem LoopOk.first {D:List Deferred}{fn:Func}{key:Nat}{σ:LState}(p:Nat→Bool)(n x:Nat)(I R:Nat→LState)(E:LState)(T:Nat→Tell)(fin:Exit→Fin)
  (h1:loopOne (bodyOf fn) key=true)(hg:LSub σ (I 0))
  (hr:∀i,i≤n→(∀j,j<i→p j=false)→(levL P fn key (I i) (T i) fin).sat (LoopOk P D (bodyOf fn)) (Qfirst p n x I R E i)):LoopOk P D (bodyOf fn) key σ (Lfirst p n x R E):=by
 refine LoopOk.of_levL (γ:={i:Nat//i≤n∧∀j,j<i→p j=false}) (fun g=>T g.1) fin (fun g=>I g.1) (fun g=>n-g.1) ⟨0,by omega,by omega⟩ h1 hg ?_
 rintro⟨i,hi,hz⟩
 have key:∀(t:Tree)(Q Q':Exit→LState→Prop)(Λ:Nat→LState→Tree→Prop),(∀e s,Q e s→Q' e s)→t.sat Λ Q→t.sat Λ Q':=by
  intro t Q Q' Λ hq
  induction t with
  |done e s=>exact hq e s
  |br b t f iht ihf=>exact fun h=>⟨fun hb=>iht (h.1 hb),fun hb=>ihf (h.2 hb)⟩
  |alt b t f iht ihf=>exact fun h=>⟨fun hb=>iht (h.1 hb),ihf h.2⟩
  |need p t iht=>exact fun h=>⟨h.1,fun hp=>iht (h.2 hp)⟩
  |loop k s L t _ iht=>exact fun h=>⟨h.1,iht h.2⟩
  |fail _ _=>exact fun h=>h
  |stop _ _ _ _=>exact fun h=>h
 refine key _ _ _ _ ?_ (hr i hi hz)
 intro e s hq
 cases e with
 |normal=>
  obtain⟨q1,q2,q3⟩:=hq
  refine⟨⟨i+1,by omega,fun j hj=>?_⟩,by simp only;omega,q3⟩
  rcases Nat.lt_or_ge j i with h|h
  ·exact hz j h
  ·obtain rfl:j=i:=by omega
   exact q2
 |ret=>
  obtain⟨q1,q2,q3⟩:=hq
  obtain⟨f1,f2⟩:=first_at q1 hz q2
  exact⟨fun _=>⟨rfl,by rw[f2];exact q3⟩,fun hf=>by rw[f1]at hf;cases hf⟩
 |exit y=>
  obtain⟨rfl,q2,q3⟩:=hq
  have:=first_none (p:=p) (n:=n) (fun j hj=>hz j (by omega))
  exact⟨fun ht=>(by rw[this]at ht;cases ht),fun _=>⟨rfl,q3⟩⟩
 |_=>exact hq.elim
theorem elem_need {α:Type}{e:α→IVal}{l:List α}{n:Int}{m:Nat}{d:α}(h:0≤n∧n.toNat<l.length∧n.toNat=m):0≤n∧(l.map e)[n.toNat]?=some (e (l.getD m d)):=by
 obtain⟨h1,h2,rfl⟩:=h
 exact⟨h1,by simp[List.getElem?_eq_getElem h2,List.getD_eq_getElem?_getD]⟩
theorem elem_need' {α:Type}{e:α→IVal}{l:List α}{n m:Nat}{d:α}(h:n<l.length∧n=m):(l.map e)[n]?=some (e (l.getD m d)):=by
 obtain⟨h2,rfl⟩:=h
 simp[List.getElem?_eq_getElem h2,List.getD_eq_getElem?_getD]
def oget :List (Nat×Nat×Nat×Orc)→Nat→Nat→Nat→Orc
 |[],_,_,_=>.no
 |(b,r,i,o)::l,b',r',i'=>if b=b'∧r=r'∧i=i' then o else oget l b' r' i'
def ogetO (O:Nat→Nat→Orc)(l:List (Nat×Nat×Nat×Orc))(b r i:Nat):Orc:=
 match oget l b r i with
 |.no=>O r i
 |o=>o
def fget :List (Nat×Nat)→Nat→Nat→Bool
 |[],_,_=>false
 |(r,i)::l,r',i'=>if r=r'∧i=i' then true else fget l r' i'
end Go.Abs
namespace Go.Abs
open Go.RowKit
variable {P:Program}
def nil0 (j:Nat):AVal→AVal
 |.imm (.v (.slice none 0 0))=>.own j 0
 |x=>x
def nilL (j:Nat):Nat→List AVal→List AVal
 |_,[]=>[]
 |0,x::l=>nil0 j x::l
 |c+1,x::l=>x::nilL j c l
def nilC (j c:Nat):AVal→AVal
 |.agg cs=>.agg (nilL j c cs)
 |.imm (.agg ds)=>.agg (nilL j c (ds.map .imm))
 |x=>x
def LState.nameT (σ:LState)(d j ty k:Nat):LState:={σ with t:=lput σ.t (some d) (nil0 j (tl σ.t d)),s:=(j,.row ty k [])::σ.s,n:=j+1}
def nilE (j c:Nat):Option Entry→List (Nat×Entry)→Nat→List (Nat×Entry)
 |some (.box ty x),l,id=>(id,.box ty (nilC j c x))::l
 |some (.bbox l0 ty x),l,id=>(id,.bbox l0 ty (nilC j c x))::l
 |_,l,_=>l
def LState.nameB (σ:LState)(id c j ty k:Nat):LState:={σ with s:=(j,.row ty k [])::nilE j c (sl σ.s id) σ.s id,n:=j+1}
section
variable {K:Nat→Prop} {ι:Nat→Loc} {F:Foot} {w:World}
theorem nil0_rep {j:Nat}(hj:ι j=⟨0,0,0,true,none⟩){x:AVal}{u:Value}(h:ARep w F ι x u):ARep w F ι (nil0 j x) u:=by
 unfold nil0
 split
 ·rw[ARep,IRep]at h
  rw[ARep,hj]
  exact⟨by rw[h.1];rfl,fun _=>rfl⟩
 ·exact h
theorem nil0_in {j:Nat}(hj:K j){x:AVal}(h:AIn K x):AIn K (nil0 j x):=by
 unfold nil0
 split
 ·rw[AIn];exact hj
 ·exact h
theorem nilL_rep {j:Nat}(hj:ι j=⟨0,0,0,true,none⟩):∀{c:Nat}{xs:List AVal}{us:List Value},ARepL w F ι xs us→ARepL w F ι (nilL j c xs) us
 |_,[],_,h=>by simpa[nilL]using h
 |0,x::xs,us,h=>by rw[nilL];rw[ARepL]at*;obtain⟨u,us',e,h1,h2⟩:=h;exact⟨u,us',e,nil0_rep hj h1,h2⟩
 |c+1,x::xs,us,h=>by rw[nilL];rw[ARepL]at*;obtain⟨u,us',e,h1,h2⟩:=h;exact⟨u,us',e,h1,nilL_rep hj h2⟩
theorem nilL_in {j:Nat}(hj:K j):∀{c:Nat}{xs:List AVal},AInL K xs→AInL K (nilL j c xs)
 |_,[],h=>by simpa[nilL]using h
 |0,x::xs,h=>by rw[nilL];rw[AInL]at*;exact⟨nil0_in hj h.1,h.2⟩
 |c+1,x::xs,h=>by rw[nilL];rw[AInL]at*;exact⟨h.1,nilL_in hj h.2⟩
theorem immL_in :∀(ds:List IVal),AInL K (ds.map .imm)
 |[]=>by rw[List.map_nil,AInL];trivial
 |d::ds=>by rw[List.map_cons,AInL,AIn];exact⟨trivial,immL_in ds⟩
theorem immL_rep :∀{ds:List IVal}{us:List Value},IRepL w F ds us→ARepL w F ι (ds.map .imm) us
 |[],us,h=>by rw[List.map_nil,ARepL];rw[IRepL]at h;exact h
 |d::ds,us,h=>by rw[List.map_cons,ARepL];rw[IRepL]at h;obtain⟨u,us',e,h1,h2⟩:=h;exact⟨u,us',e,by rw[ARep];exact h1,immL_rep h2⟩
theorem nilC_rep {j c:Nat}(hj:ι j=⟨0,0,0,true,none⟩){x:AVal}{u:Value}(h:ARep w F ι x u):ARep w F ι (nilC j c x) u:=by
 unfold nilC
 split
 ·rw[ARep]at*;obtain⟨vs,e,h1⟩:=h;exact⟨vs,e,nilL_rep hj h1⟩
 ·rw[ARep,IRep]at h
  rw[ARep];obtain⟨vs,e,h1⟩:=h;exact⟨vs,e,nilL_rep hj (immL_rep h1.1)⟩
 ·exact h
theorem nilC_in {j c:Nat}(hj:K j){x:AVal}(h:AIn K x):AIn K (nilC j c x):=by
 unfold nilC
 split
 ·rw[AIn]at*;exact nilL_in hj h
 ·rw[AIn];exact nilL_in hj (immL_in _)
 ·exact h
theorem Rel.view {σ τ:AState}{a:Act}(h:Rel K ι F σ a w)(hm:τ.m=σ.m)(ht:∀i,AIn K (τ.t i)∧∀u,ARep w F ι (σ.t i) u→ARep w F ι (τ.t i) u)
  (hs:∀id e,τ.s id=some e→∃e',σ.s id=some e'∧EIn K e∧(ERep w F ι (ι id) e'→ERep w F ι (ι id) e)):Rel K ι F τ a w∧(∀b,Owned ι τ b→Owned ι σ b):=by
 have ho:∀b,Owned ι τ b→Owned ι σ b:=by
  rintro b ⟨id,e,h1,h2⟩
  obtain⟨e',g1,_⟩:=hs id e h1
  exact⟨id,e',g1,h2⟩
 refine⟨⟨by rw[hm];exact h.size,fun i=>⟨(ht i).1,(ht i).2 _ (h.tmp i).2⟩,fun id e he=>?_,fun b hb=>h.off b (ho b hb),fun i j ei ej hi hj=>?_,h.foot,h.col⟩,ho⟩
 ·obtain⟨e',g1,g2,g3⟩:=hs id e he
  exact⟨(h.ent id e' g1).1,g2,g3 (h.ent id e' g1).2.2⟩
 ·obtain⟨ei',g1,_⟩:=hs i ei hi
  obtain⟨ej',g2,_⟩:=hs j ej hj
  exact h.sep i j ei' ej' g1 g2
theorem sl_cons (i:Nat)(e:Entry)(l:List (Nat×Entry))(id:Nat):sl ((i,e)::l) id=if id=i then some e else sl l id:=rfl
theorem Rel.nameT {σ:LState}{a:Act}(hR:Rel (below σ.n) ι F σ.toA a w)(d ty k:Nat){j:Nat}(hj:σ.n≤j):
  ∃ι',Rel (below (σ.nameT d j ty k).n) ι' F (σ.nameT d j ty k).toA a w∧Pass ι F σ.toA w ι' F (σ.nameT d j ty k).toA w:=by
 have hnj:¬below σ.n j:=by unfold below;omega
 obtain⟨h1,h2⟩:=hR.name j hnj ty k
 have hK:∀i,(below σ.n i∨i=j)→below (j+1) i:=by intro i hi;unfold below at*;omega
 have h1:=h1.mono hK
 have hι:(fun i=>if i=j then(⟨0,0,0,true,none⟩:Loc)else ι i) j=⟨0,0,0,true,none⟩:=by simp
 refine(fun hv=>⟨_,hv.1,h2.pass.trans ⟨rfl,rfl,rfl,Nat.le_refl _,fun _ _ _=>rfl,fun b hb=>.inl (hv.2 b hb),fun _ _ h=>h,fun _ _ h=>.inl h⟩⟩) (h1.view (τ:=(σ.nameT d j ty k).toA) rfl (fun i=>?_) (fun id e he=>?_))
 ·show AIn _ (tl (lput σ.t (some d) (nil0 j (tl σ.t d))) i)∧_
  have hput:tl (lput σ.t (some d) (nil0 j (tl σ.t d))) i=if i=d then nil0 j (tl σ.t d)else tl σ.t i:=by
   rw[lput_spec,put_some]
  have hin:=(h1.tmp i).1
  have e:(σ.nameT d j ty k).toA.t i=if i=d then nil0 j (tl σ.t d)else tl σ.t i:=hput
  rw[e,hput]
  by_cases hi:i=d
  ·subst hi
   simp only[if_pos]
   exact⟨nil0_in (by unfold below;omega) hin,fun u hu=>nil0_rep hι hu⟩
  ·simp only[if_neg hi]
   exact⟨hin,fun u hu=>hu⟩
 ·refine⟨e,?_,(h1.ent id e ?_).2.1,fun h=>h⟩
  all_goals
   have he':sl ((j,Entry.row ty k [])::σ.s) id=some e:=he
   rw[sl_cons]at he'
   simp only[ups]
   split
   ·rename_i hid;rw[if_pos hid]at he';exact he'
   ·rename_i hid;rw[if_neg hid]at he';exact he'
theorem Rel.nameB {σ:LState}{a:Act}(hR:Rel (below σ.n) ι F σ.toA a w)(id c ty k:Nat){j:Nat}(hj:σ.n≤j):
  ∃ι',Rel (below (σ.nameB id c j ty k).n) ι' F (σ.nameB id c j ty k).toA a w∧Pass ι F σ.toA w ι' F (σ.nameB id c j ty k).toA w:=by
 have hnj:¬below σ.n j:=by unfold below;omega
 obtain⟨h1,h2⟩:=hR.name j hnj ty k
 have hK:∀i,(below σ.n i∨i=j)→below (j+1) i:=by intro i hi;unfold below at*;omega
 have h1:=h1.mono hK
 have hι:(fun i=>if i=j then(⟨0,0,0,true,none⟩:Loc)else ι i) j=⟨0,0,0,true,none⟩:=by simp
 refine(fun hv=>⟨_,hv.1,h2.pass.trans ⟨rfl,rfl,rfl,Nat.le_refl _,fun _ _ _=>rfl,fun b hb=>.inl (hv.2 b hb),fun _ _ h=>h,fun _ _ h=>.inl h⟩⟩) (h1.view (τ:=(σ.nameB id c j ty k).toA) rfl (fun i=>?_) (fun id' e he=>?_))
 ·exact⟨(h1.tmp i).1,fun u hu=>hu⟩
 ·have he':sl ((j,Entry.row ty k [])::nilE j c (sl σ.s id) σ.s id) id'=some e:=he
  rw[sl_cons]at he'
  have old:∀e',sl σ.s id'=some e'→id'≠j→(ups σ.toA.s [(j,some (Entry.row ty k []))]) id'=some e':=by
   intro e' h hne
   simp only[ups,if_neg hne];exact h
  by_cases hid:id'=j
  ·rw[if_pos hid]at he'
   have:(ups σ.toA.s [(j,some (Entry.row ty k []))]) id'=some e:=by simp only[ups,if_pos hid];exact he'
   exact⟨e,this,(h1.ent id' e this).2.1,fun h=>h⟩
  ·rw[if_neg hid]at he'
   have rest:sl σ.s id'=some e→∃e',(ups σ.toA.s [(j,some (Entry.row ty k []))]) id'=some e'∧EIn (below (j+1)) e∧(ERep w F (fun i=>if i=j then(⟨0,0,0,true,none⟩:Loc)else ι i) ((fun i=>if i=j then(⟨0,0,0,true,none⟩:Loc)else ι i) id') e'→ERep w F (fun i=>if i=j then(⟨0,0,0,true,none⟩:Loc)else ι i) ((fun i=>if i=j then(⟨0,0,0,true,none⟩:Loc)else ι i) id') e):=by
    intro h
    have h3:=old _ h hid
    exact⟨e,h3,(h1.ent _ _ h3).2.1,fun h=>h⟩
   cases hx:sl σ.s id with
   |none=>rw[hx]at he';exact rest he'
   |some ent=>
    rw[hx]at he'
    cases ent with
    |box ty' x=>
     simp only[nilE]at he'
     rw[sl_cons]at he'
     by_cases hi:id'=id
     ·rw[if_pos hi]at he'
      simp only[Option.some.injEq]at he';subst he'
      have h3:=old _ (by rw[hi];exact hx) hid
      have h4:=(h1.ent _ _ h3).2.1
      refine⟨_,h3,?_,?_⟩
      ·rw[EIn]at*;exact nilC_in (by unfold below;omega) h4
      ·intro hr
       rw[ERep]at*
       obtain⟨r1,u,r2,r3⟩:=hr
       exact⟨r1,u,r2,nilC_rep hι r3⟩
     ·rw[if_neg hi]at he';exact rest he'
    |bbox l0 ty' x=>
     simp only[nilE]at he'
     rw[sl_cons]at he'
     by_cases hi:id'=id
     ·rw[if_pos hi]at he'
      simp only[Option.some.injEq]at he';subst he'
      have h3:=old _ (by rw[hi];exact hx) hid
      have h4:=(h1.ent _ _ h3).2.1
      refine⟨_,h3,?_,?_⟩
      ·rw[EIn]at*;exact nilC_in (by unfold below;omega) h4
      ·intro hr
       rw[ERep]at*
       obtain⟨r0,r1,u,r2,r3⟩:=hr
       exact⟨r0,r1,u,r2,nilC_rep hι r3⟩
     ·rw[if_neg hi]at he';exact rest he'
    |row _ _ _=>exact rest he'
    |brow _ _ _ _=>exact rest he'
    |map _=>exact rest he'
end
inductive Nam :LState→LState→Prop where
 |sub {σ τ}:LSub σ τ→Nam σ τ
 |temp {σ τ} (d j ty k:Nat):σ.n≤j→Nam (σ.nameT d j ty k) τ→Nam σ τ
 |cell {σ τ} (id c j ty k:Nat):σ.n≤j→Nam (σ.nameB id c j ty k) τ→Nam σ τ
 |more {σ τ} (n:Nat):σ.n≤n→Nam {σ with n:=n} τ→Nam σ τ
 |sw {σ τ} (a b:Nat):a<σ.n→b<σ.n→Nam (σ.swap a b) τ→Nam σ τ
theorem nam_rel {σ τ:LState}(h:Nam σ τ):∀{ι:Nat→Loc}{F:Foot}{a:Act}{w:World},Rel (below σ.n) ι F σ.toA a w→∃ι',Rel (below τ.n) ι' F τ.toA a w∧Pass ι F σ.toA w ι' F τ.toA w:=by
 induction h with
 |sub h=>intro ι F a w hR;exact⟨ι,hR.lsub h,h.pass⟩
 |temp d j ty k hj _ ih=>
  intro ι F a w hR
  obtain⟨ι',r1,p1⟩:=hR.nameT d ty k hj
  obtain⟨ι'',r2,p2⟩:=ih r1
  exact⟨ι'',r2,p1.trans p2⟩
 |cell id c j ty k hj _ ih=>
  intro ι F a w hR
  obtain⟨ι',r1,p1⟩:=hR.nameB id c ty k hj
  obtain⟨ι'',r2,p2⟩:=ih r1
  exact⟨ι'',r2,p1.trans p2⟩
 |more n hn _ ih=>
  intro ι F a w hR
  have h1:=hR.mono (K':=below n) fun i hi=>by unfold below at*;omega
  obtain⟨ι',r,p⟩:=ih ⟨h1.size,h1.tmp,h1.ent,h1.off,h1.sep,h1.foot,h1.col⟩
  exact⟨ι',r,⟨p.os,p.tape,p.output,p.size,p.frame,p.own,p.mono,p.src⟩⟩
 |@sw σ τ x y hx hy _ ih=>
  intro ι F a w hR
  obtain⟨ι'',r2,p2⟩:=ih (hR.swap (show below σ.n x from hx) (show below σ.n y from hy))
  have ho:∀b,Owned (fun i=>ι (swp x y i)) (σ.swap x y).toA b↔Owned ι σ.toA b:=by
   intro b;rw[LState.swap_toA];exact AState.ren_owned (swp_swp x y)
  exact⟨ι'',r2,(⟨rfl,rfl,rfl,Nat.le_refl _,fun _ _ _=>rfl,fun b hb=>.inl ((ho b).1 hb),fun _ _ h=>h,fun _ _ h=>.inl h⟩:Pass ι F σ.toA w _ F (σ.swap x y).toA w).trans p2⟩
theorem LoopOk.nam {D:List Deferred}{body:Code}{key:Nat}{σ τ:LState}{L:Tree}(hn:Nam σ τ)(h:LoopOk P D body key τ L):LoopOk P D body key σ L:=by
 intro c hc
 have h:=h c hc
 unfold LoopIs at*
 intro ι F a w hR hD
 obtain⟨ι',r1,p1⟩:=nam_rel hn hR
 refine wp_mono (h ι' F a w r1 hD) ?_
 rintro e a' w' ⟨ι'',F'',τ',g1,g2,g3,g4⟩
 exact⟨ι'',F'',τ',g1,g2,g3,p1.trans g4⟩
def Qcount (n x:Nat)(I:Nat→LState)(E:LState)(i:Nat):Exit→LState→Prop
 |.normal,s=>i<n∧LSub s (I (i+1))
 |.exit y,s=>y=x∧n≤i∧LSub s E
 |_,_=>False
theorem LoopOk.count {D:List Deferred}{fn:Func}{key:Nat}{σ:LState}(n x:Nat)(I:Nat→LState)(E:LState)(T:Nat→Tell)(fin:Exit→Fin)
  (h1:loopOne (bodyOf fn) key=true)(hg:LSub σ (I 0))
  (hr:∀i,i≤n→(levL P fn key (I i) (T i) fin).sat (LoopOk P D (bodyOf fn)) (Qcount n x I E i)):LoopOk P D (bodyOf fn) key σ (.done (.exit x) E):=by
 refine LoopOk.of_levL (γ:={i:Nat//i≤n}) (fun g=>T g.1) fin (fun g=>I g.1) (fun g=>n-g.1) ⟨0,by omega⟩ h1 hg ?_
 rintro⟨i,hi⟩
 refine Tree.sat_mono ?_ (hr i hi)
 intro e s hq
 cases e with
 |normal=>exact⟨⟨i+1,by have:=hq.1;omega⟩,by have:=hq.1;simp only;omega,hq.2⟩
 |exit y=>obtain⟨rfl,_,q3⟩:=hq;exact⟨rfl,q3⟩
 |_=>exact hq.elim
theorem LoopOk.ofN {D:List Deferred}{body:Code}{key:Nat}{σ:LState}{L:Tree}{γ:Type}(T:γ→Tell)(I:γ→LState)(μ:γ→Nat)(g:γ)(fin:Exit→Nat→Fin)
  (h1:loopOne body key=true)(hg:LSub σ (I g))
  (hr:∀g,(lev P (T g).fz (T g).Ob (T g).Lb (T g).un (T g).lv (loopAt body key) (I g) fun e s=>kdone (fin e s.n).sw (fin e s.n).lt (fin e s.n).ls e s).sat (LoopOk P D body) fun e s=>match e with
   |.normal=>∃g',μ g'<μ g∧LSub s (I g')
   |e=>L.has e s):LoopOk P D body key σ L:=by
 intro c hc
 have hcl:=hc
 obtain rfl:=loopAt_spec h1 hc
 unfold LoopIs
 intro ι F a w hR hD
 refine wp_loop_ghost (fun n a' w'=>∃g' ι' F',μ g'=n∧Rel (below (I g').n) ι' F' (I g').toA a' w'∧a'.defers=D∧Pass ι F σ.toA w ι' F' (I g').toA w') (μ g)
  ⟨g,ι,F,rfl,hR.lsub hg,hD,hg.pass⟩ ?_
 rintro n a' w' ⟨g',ι',F',rfl,h1,h2,h3⟩
 have hs:=lev_sound (D:=D) _ _ _ (fun p hp σ L hΛ=>hΛ p.2 (loops_sub (body:=body) (b:=body) (fun _ h=>h) _ hcl hp)) (hr g')
 refine wp_mono (hs ι' F' a' w' h1 h2) ?_
 rintro e a'' w'' ⟨ι'',F'',τ,⟨s,g1,rfl⟩,g2,g3,g4⟩
 obtain⟨ι3,s3,k1,k2,k3⟩:=kdone_sound _ s ι'' g1 g2
 have g4:=g4.trans k3
 cases e with
 |normal=>
  obtain⟨g'',k5,k6⟩:=k1
  exact⟨μ g'',k5,g'',ι3,F'',rfl,k2.lsub k6,g3,(h3.trans g4).trans k6.pass⟩
 |_=>exact⟨ι3,F'',s3.toA,⟨s3,k1,rfl⟩,k2,g3,h3.trans g4⟩
def levLN (P:Program)(fn:Func)(key:Nat)(σ:LState)(T:Tell)(fin:Exit→Nat→Fin):Tree:=
 lev P T.fz T.Ob T.Lb T.un T.lv (loopAt (bodyOf fn) key) σ fun e s=>kdone (fin e s.n).sw (fin e s.n).lt (fin e s.n).ls e s
theorem LoopOk.countN {D:List Deferred}{fn:Func}{key:Nat}{σ:LState}(n x:Nat)(I:Nat→LState)(E:LState)(T:Nat→Tell)(fin:Exit→Nat→Fin)
  (h1:loopOne (bodyOf fn) key=true)(hg:LSub σ (I 0))
  (hr:∀i,i≤n→(levLN P fn key (I i) (T i) fin).sat (LoopOk P D (bodyOf fn)) (Qcount n x I E i)):LoopOk P D (bodyOf fn) key σ (.done (.exit x) E):=by
 refine LoopOk.ofN (γ:={i:Nat//i≤n}) (fun g=>T g.1) (fun g=>I g.1) (fun g=>n-g.1) ⟨0,by omega⟩ fin h1 hg ?_
 rintro⟨i,hi⟩
 refine Tree.sat_mono ?_ (hr i hi)
 intro e s hq
 cases e with
 |normal=>exact⟨⟨i+1,by have:=hq.1;omega⟩,by have:=hq.1;simp only;omega,hq.2⟩
 |exit y=>obtain⟨rfl,_,q3⟩:=hq;exact⟨rfl,q3⟩
 |_=>exact hq.elim
end Go.Abs
namespace Go.Abs
open Go.RowKit
inductive Leaf where
 |int (k:IntKind)
 |bool
 |str
 |sl (t:TypeId)
 deriving DecidableEq
section
variable {H:Type} (enc:TypeId×Value→H) (P:Program) (w:World) (base:Nat) (spare:Nat→Bool) (held:Bool)
def leafR :Leaf→Value→Prop
 |.int k,v=>∃n,v=.int k n∧(Lit.int k n).wf=true
 |.bool,v=>∃b,v=.bool b
 |.str,v=>∃s,v=.string s∧s.size≤maxLen
 |.sl t,v=>∃fuel x,DataW.trod enc P w base spare held fuel t [v]=some x
def LeafAll :List Leaf→List Value→Prop
 |[],vs=>vs=[]
 |l::ls,vs=>∃v vs',vs=v::vs'∧leafR enc P w base spare held l v∧LeafAll ls vs'
end
section
variable {H:Type} {enc:TypeId×Value→H} {P:Program} {w:World} {base:Nat} {spare:Nat→Bool} {held:Bool}
theorem LeafAll.append :∀{l1:List Leaf}{v1:List Value}{l2:List Leaf}{v2:List Value},LeafAll enc P w base spare held l1 v1→LeafAll enc P w base spare held l2 v2→LeafAll enc P w base spare held (l1++l2) (v1++v2)
 |[],v1,l2,v2,h1,h2=>by rw[LeafAll]at h1;subst h1;exact h2
 |l::ls,v1,l2,v2,h1,h2=>by
  rw[LeafAll]at h1
  obtain⟨v,vs',rfl,g1,g2⟩:=h1
  rw[List.cons_append,LeafAll]
  exact⟨v,vs'++v2,rfl,g1,LeafAll.append g2 h2⟩
def allF (w:World):Foot:=fun c b=>c=false∧b<w.heap.size
end
end Go.Abs
namespace Go.Abs
open Go.RowKit
variable {P:Program}
def wstartL (l:Loc)(ty k:Nat)(es ds:List IVal)(m:Nat):LState:={t:=(0,.own 0 es.length)::largs 1 ds,s:=[(0,.brow l ty k es)],m,n:=1}
theorem wstartL_toA (l:Loc)(ty k:Nat)(es ds:List IVal)(m:Nat):(wstartL l ty k es ds m).toA=wstart l ty k es ds m:=by
 simp only[wstartL,LState.toA,wstart]
 congr 1
 funext i
 cases i with
 |zero=>rfl
 |succ i=>
  show (if i+1=0 then _ else tl (largs 1 ds) (i+1))=_
  rw[if_neg (by omega),largs_spec]
  simp
  rfl
def lretW (l:Loc)(ty k:Nat)(d:IVal)(es:List IVal):LState:={t:=[(0,.imm d)],s:=[(0,.brow l ty k es)],m:=0,n:=0}
def kretW (P:Program)(rs:List ResultVar)(s:LState):Tree:=
 match afin P s.toA rs,sl s.s 0 with
 |some (o,d),some (.brow l ty k es)=>.need (eqs o) (.done .ret (lretW l ty k d es))
 |_,_=>.fail 1000002 1
def kretWE (P:Program)(rs:List ResultVar)(e:Exit)(s:LState):Tree:=
 match e with
 |.normal=>kretW P rs s
 |.ret=>kretW P rs s
 |_=>.fail 1000006 1
theorem kretW_spec {Λ:Nat→LState→Tree→Prop}{rs:List ResultVar}{r:IVal}{l:Loc}{ty k:Nat}{es':List IVal}{e:Exit}{s:LState}(h:(kretWE P rs e s).sat Λ (fun _ s=>∃d,s=lretW l ty k d es'∧ILe d r)):WEnd P rs r l ty k es' e s.toA:=by
 have key:(kretW P rs s).sat Λ (fun _ s=>∃d,s=lretW l ty k d es'∧ILe d r)→(∃o d,afin P s.toA rs=some (o,d)∧eqs o∧ILe d r)∧s.toA.s 0=some (.brow l ty k es'):=by
  intro h
  unfold kretW at h
  split at h
  ·rename_i o d l' ty' k' es1 h1 h2
   obtain⟨ho,h⟩:=h
   obtain⟨d',h3,hle⟩:=h ho
   simp only[lretW,LState.mk.injEq,List.cons.injEq,Prod.mk.injEq,AVal.imm.injEq,Entry.brow.injEq,true_and,and_true]at h3
   obtain⟨rfl,rfl,rfl,rfl,rfl⟩:=h3
   exact⟨⟨o,d,h1,ho,hle⟩,h2⟩
  ·exact h.elim
 cases e with
 |normal=>exact key h
 |ret=>exact key h
 |_=>exact h.elim
theorem lretW_ex {l:Loc}{ty k:Nat}{d r:IVal}{es es':List IVal}(h:es=es')(h2:ILe d r):∃d',lretW l ty k d es=lretW l ty k d' es'∧ILe d' r:=⟨d,by rw[h],h2⟩
def levW (P:Program)(fn:Func)(l:Loc)(ty k:Nat)(es ds:List IVal)(T:Tell):Tree:=lev P T.fz T.Ob T.Lb T.un T.lv (bodyOf fn) (wstartL l ty k es ds fn.ntmps) (kretWE P fn.results.toList)
theorem WSpec.tree {f:FuncId}(fn:Func){ty k:Nat}{es ds es':List IVal}{r:IVal}(T:Loc→Tell)(hf:P.funcs[f]?=some fn)(hk:okF fn (ds.length+1)=true)(hr:iflat r=true)
  (h:∀l,(levW P fn l ty k es ds (T l)).sat (LoopOk P [] (bodyOf fn)) (fun _ s=>∃d,s=lretW l ty k d es'∧ILe d r)):WSpec P f ty k es ds r es':=by
 simp only[okF,Bool.and_eq_true,decide_eq_true_eq]at hk
 refine WSpec.of_body hf (c:=bodyOf fn) ?_ hk.1.2 hk.2 hr fun l=>?_
 ·unfold bodyOf
  split
  ·rename_i hc;exact hc
  ·rename_i hc;rw[hc]at hk;simp at hk
 ·have hs:=lev_sound (D:=[]) (bodyOf fn) _ _ (fun p hp σ L hΛ=>hΛ p.2 hp) (h l)
  rw[wstartL_toA]at hs
  intro ι F a w hR hD
  refine wp_mono (hs ι F a w hR hD) ?_
  rintro e a' w' ⟨ι',F',τ,⟨s,h1,rfl⟩,h2,h3,h4⟩
  exact⟨ι',F',s.toA,kretW_spec h1,h2,h3,h4⟩
def lretO (ty k:Nat)(es:List IVal):LState:={t:=[],s:=[(0,.row ty k es)],m:=0,n:=0}
def lretZ :LState:={t:=[],s:=[],m:=1,n:=0}
def kretO (P:Program)(rs:List ResultVar)(s:LState):Tree:=
 match aresL P s.toA rs with
 |some [.own id n]=>match sl s.s id with
  |some (.row ty k es)=>.need (es.length=n) (.done .ret (lretO ty k es))
  |_=>.fail 1000002 2
 |some [.imm (.v (.slice none 0 0))]=>.done .ret lretZ
 |_=>.fail 1000002 3
def kretOE (P:Program)(rs:List ResultVar)(e:Exit)(s:LState):Tree:=
 match e with
 |.normal=>kretO P rs s
 |.ret=>kretO P rs s
 |_=>.fail 1000006 1
theorem kretO_spec {Λ:Nat→LState→Tree→Prop}{rs:List ResultVar}{ty k:Nat}{es':List IVal}{e:Exit}{s:LState}(h:(kretOE P rs e s).sat Λ (fun _ s=>s=lretO ty k es'∨(s=lretZ∧es'=[]))):OEnd P rs ty k es' e s.toA:=by
 have key:(kretO P rs s).sat Λ (fun _ s=>s=lretO ty k es'∨(s=lretZ∧es'=[]))→(∃id,aresL P s.toA rs=some [.own id es'.length]∧s.toA.s id=some (.row ty k es'))∨(aresL P s.toA rs=some [.imm (.v (.slice none 0 0))]∧es'=[]):=by
  intro h
  unfold kretO at h
  split at h
  ·rename_i id n h1
   split at h
   ·rename_i ty' k' es h2
    obtain⟨ho,h⟩:=h
    have h3:=h ho
    rcases h3 with h3|⟨h3,_⟩
    ·simp only[lretO,LState.mk.injEq,List.cons.injEq,Prod.mk.injEq,Entry.row.injEq,true_and,and_true]at h3
     obtain⟨rfl,rfl,rfl⟩:=h3
     subst ho
     exact .inl ⟨id,h1,h2⟩
    ·simp[lretO,lretZ]at h3
   ·exact h.elim
  ·rename_i h1
   rcases h with h3|⟨_,h3⟩
   ·simp[lretO,lretZ]at h3
   ·exact .inr ⟨h1,h3⟩
  ·exact h.elim
 cases e with
 |normal=>exact key h
 |ret=>exact key h
 |_=>exact h.elim
def levO (P:Program)(fn:Func)(ds:List IVal)(T:Tell):Tree:=lev P T.fz T.Ob T.Lb T.un T.lv (bodyOf fn) (lstart ds fn.ntmps) (kretOE P fn.results.toList)
theorem OSpec.tree {f:FuncId}(fn:Func){ds:List IVal}{ty k:Nat}{es:List IVal}(T:Tell)(hf:P.funcs[f]?=some fn)(hk:okF fn ds.length=true)
  (h:(levO P fn ds T).sat (LoopOk P [] (bodyOf fn)) (fun _ s=>s=lretO ty k es∨(s=lretZ∧es=[]))):OSpec P f ds ty k es:=by
 simp only[okF,Bool.and_eq_true,decide_eq_true_eq]at hk
 refine OSpec.of_body hf (c:=bodyOf fn) ?_ hk.1.2 hk.2 ?_
 ·unfold bodyOf
  split
  ·rename_i hc;exact hc
  ·rename_i hc;rw[hc]at hk;simp at hk
 ·have hs:=lev_sound (D:=[]) (bodyOf fn) _ _ (fun p hp σ L hΛ=>hΛ p.2 hp) h
  rw[lstart_toA]at hs
  intro ι F a w hR hD
  refine wp_mono (hs ι F a w hR hD) ?_
  rintro e a' w' ⟨ι',F',τ,⟨s,h1,rfl⟩,h2,h3,h4⟩
  exact⟨ι',F',s.toA,kretO_spec h1,h2,h3,h4⟩
theorem lretO_ex {ty k:Nat}{es es':List IVal}(h:es=es'):lretO ty k es=lretO ty k es':=by rw[h]
mutual
def ownsA :AVal→List Nat
 |.ptr id _=>[id]
 |.rptr id _ _ _=>[id]
 |.own id _=>[id]
 |.win id _ _=>[id]
 |.mp id=>[id]
 |.agg ds=>ownsAL ds
 |.tup ds=>ownsAL ds
 |.fn _ a c=>ownsAL a++ownsAL c
 |_=>[]
def ownsAL :List AVal→List Nat
 |[]=>[]
 |d::ds=>ownsA d++ownsAL ds
end
def ownsE :Option Entry→List Nat
 |some (.box _ x)=>ownsA x
 |some (.bbox _ _ x)=>ownsA x
 |some (.map kvs)=>ownsAL (kvs.map (·.2))
 |_=>[]
def clos (s:Nat→Option Entry)(nb:Nat):Nat→List Nat→List Nat→List Nat
 |0,_,acc=>acc
 |_,[],acc=>acc
 |f+1,i::todo,acc=>if i<nb then clos s nb f todo acc else if acc.contains i=true then clos s nb f todo acc else clos s nb f (todo++ownsE (s i)) (acc++[i])
def ainE (n:Nat):Entry→Bool
 |.box _ x=>ainB n x
 |.bbox _ _ x=>ainB n x
 |.row _ _ _=>true
 |.brow _ _ _ _=>true
 |.map kvs=>ainBL n (kvs.map (·.2))
theorem ainE_spec {n:Nat}:∀{e:Entry},ainE n e=true→EIn (below n) e
 |.box _ x,h=>ainB_spec h
 |.bbox _ _ x,h=>ainB_spec h
 |.row _ _ _,_=>trivial
 |.brow _ _ _ _,_=>trivial
 |.map _,h=>ainBL_spec h
def gbx (s:Nat→Option Entry):Nat→Nat→Option (List (Loc×Nat×AVal))
 |_,0=>some []
 |i,n+1=>match s i,gbx s (i+1) n with
  |some (.bbox l ty x),some bs=>some ((l,ty,x)::bs)
  |_,_=>none
def gnew (s:Nat→Option Entry):List Nat→Option (List Entry)
 |[]=>some []
 |i::l=>match s i,gnew s l with
  |some e,some es=>some (e::es)
  |_,_=>none
def gbsF (ls:Nat→Loc):Nat→List (Nat×AVal)→List (Loc×Nat×AVal)
 |_,[]=>[]
 |i,p::l=>(ls i,p.1,p.2)::gbsF ls (i+1) l
def ginv (nb:Nat)(names:List Nat)(id:Nat):Nat:=if id<nb then id else nb+names.idxOf id
def ggg (nb:Nat)(names:List Nat)(i:Nat):Nat:=if i<nb then i else names.getD (i-nb) 0
def lnil :LState:={t:=[],s:=[],m:=0,n:=0}
def kretG0 (ls:Nat→Loc)(bx':List (Nat×AVal))(new:List Entry)(r:AVal)(x:AVal)(bs:List (Loc×Nat×AVal))(names:List Nat)(es:List Entry):Tree:=
 if ndB names=true∧names.all (fun i=>decide (bx'.length≤i))=true∧bs.all (fun b=>ainB (bx'.length+names.length) (ren (ginv bx'.length names) b.2.2))=true∧es.all (fun e=>ainE (bx'.length+names.length) (renE (ginv bx'.length names) e))=true∧
   ainB (bx'.length+names.length) (ren (ginv bx'.length names) x)=true then
  .need (bs.map (fun b=>(b.1,b.2.1,ren (ginv bx'.length names) b.2.2))=gbsF ls 0 bx'∧ELeL (es.map (renE (ginv bx'.length names))) new∧ALe (ren (ginv bx'.length names) x) r) (.done .ret lnil)
 else .fail 1000002 5
def kretG (P:Program)(ls:Nat→Loc)(bx':List (Nat×AVal))(new:List Entry)(r:AVal)(rs:List ResultVar)(s:LState):Tree:=
 match aresL P s.toA rs,gbx s.toA.s 0 bx'.length with
 |some xs,some bs=>match gnew s.toA.s (clos s.toA.s bx'.length 64 (ownsAL (bs.map (·.2.2))++ownsA (oneA xs)) [])with
  |some es=>kretG0 ls bx' new r (oneA xs) bs (clos s.toA.s bx'.length 64 (ownsAL (bs.map (·.2.2))++ownsA (oneA xs)) []) es
  |none=>.fail 1000002 6
 |_,_=>.fail 1000002 7
def kretGE (P:Program)(ls:Nat→Loc)(bx':List (Nat×AVal))(new:List Entry)(r:AVal)(rs:List ResultVar)(e:Exit)(s:LState):Tree:=
 match e with
 |.normal=>kretG P ls bx' new r rs s
 |.ret=>kretG P ls bx' new r rs s
 |_=>.fail 1000006 1
theorem gbx_spec {s:Nat→Option Entry}:∀{n i:Nat}{bs:List (Loc×Nat×AVal)},gbx s i n=some bs→bs.length=n∧∀k b,bs[k]?=some b→s (i+k)=some (.bbox b.1 b.2.1 b.2.2)
 |0,i,bs,h=>by simp only[gbx,Option.some.injEq]at h;subst h;exact⟨rfl,fun k b hb=>by simp at hb⟩
 |n+1,i,bs,h=>by
  simp only[gbx]at h
  split at h
  ·rename_i l ty x bs' h1 h2
   simp only[Option.some.injEq]at h;subst h
   obtain⟨g1,g2⟩:=gbx_spec h2
   refine⟨by simp[g1],fun k b hb=>?_⟩
   cases k with
   |zero=>simp at hb;subst hb;exact h1
   |succ k=>simp at hb;have:=g2 k b hb;rw[show i+(k+1)=i+1+k by omega];exact this
  ·cases h
theorem gnew_spec {s:Nat→Option Entry}:∀{l:List Nat}{es:List Entry},gnew s l=some es→es.length=l.length∧∀(k:Nat) e,es[k]?=some e→s (l.getD k 0)=some e
 |[],es,h=>by simp only[gnew,Option.some.injEq]at h;subst h;exact⟨rfl,fun k e he=>by simp at he⟩
 |i::l,es,h=>by
  simp only[gnew]at h
  split at h
  ·rename_i e0 es' h1 h2
   simp only[Option.some.injEq]at h;subst h
   obtain⟨g1,g2⟩:=gnew_spec h2
   refine⟨by simp[g1],fun k e he=>?_⟩
   cases k with
   |zero=>simp at he;subst he;simpa using h1
   |succ k=>simp at he;simpa using g2 k e he
  ·cases h
theorem gbsF_at {ls:Nat→Loc}:∀{l:List (Nat×AVal)}{i k:Nat}{p:Nat×AVal},l[k]?=some p→(gbsF ls i l)[k]?=some (ls (i+k),p.1,p.2)
 |[],i,k,p,h=>by simp at h
 |q::l,i,k,p,h=>by
  cases k with
  |zero=>simp at h;subst h;rfl
  |succ k=>simp at h;simp only[gbsF,List.getElem?_cons_succ];rw[gbsF_at h,show i+1+k=i+(k+1) by omega]
theorem renE_to {w:World}{F:Foot}{ι ι':Nat→Loc}{inv:Nat→Nat}{N:Nat→Prop}(hg:∀id,N (inv id)→ι' (inv id)=ι id){l:Loc}:∀{e:Entry},EIn N (renE inv e)→ERep w F ι l e→ERep w F ι' l (renE inv e)
 |.box ty x,hin,h=>⟨h.1,h.2.choose,h.2.choose_spec.1,ren_to hg hin h.2.choose_spec.2⟩
 |.bbox l0 ty x,hin,h=>⟨h.1,h.2.1,h.2.2.choose,h.2.2.choose_spec.1,ren_to hg hin h.2.2.choose_spec.2⟩
 |.row _ _ _,_,h=>h
 |.brow _ _ _ _,_,h=>h
 |.map kvs,hin,h=>⟨h.1,h.2.choose,h.2.choose_spec.choose,h.2.choose_spec.choose_spec.1,by rw[renM_fst];exact h.2.choose_spec.choose_spec.2.1,by rw[renM_snd];exact renL_to hg (by rw[renE,EIn,renM_snd]at hin;exact hin) h.2.choose_spec.choose_spec.2.2⟩
theorem kretG_spec {Λ:Nat→LState→Tree→Prop}{Q:Exit→LState→Prop}{rs:List ResultVar}{ls:Nat→Loc}{bx':List (Nat×AVal)}{new:List Entry}{r:AVal}{e:Exit}{s:LState}(h:(kretGE P ls bx' new r rs e s).sat Λ Q):GEnd P rs ls bx' new r e s.toA:=by
 have key:(kretG P ls bx' new r rs s).sat Λ Q→GEnd P rs ls bx' new r .ret s.toA:=by
  intro h
  unfold kretG at h
  split at h
  ·rename_i xs bs hxs hbs
   split at h
   ·rename_i es hes
    revert hes h
    generalize clos s.toA.s bx'.length 64 (ownsAL (bs.map (·.2.2))++ownsA (oneA xs)) []=names
    intro hes h
    unfold kretG0 at h
    split at h
    ·rename_i hc
     obtain⟨c1,c2,c3,c4,c5⟩:=hc
     obtain⟨⟨p1,p2,p3⟩,_⟩:=h
     obtain⟨b1,b2⟩:=gbx_spec hbs
     obtain⟨n1,n2⟩:=gnew_spec hes
     have hnn:new.length=names.length:=by rw[←(ELeL.at2 p2).1,List.length_map,n1]
     have hback:∀id,below (bx'.length+names.length) (ginv bx'.length names id)→ggg bx'.length names (ginv bx'.length names id)=id:=by
      intro id hid
      unfold below ginv at hid
      unfold ginv ggg
      by_cases hlt:id<bx'.length
      ·rw[if_pos hlt,if_pos hlt]
      ·rw[if_neg hlt]at hid⊢
       rw[if_neg (by omega),show bx'.length+names.idxOf id-bx'.length=names.idxOf id by omega]
       exact idx_back (by omega)
     have hg:∀(ι:Nat→Loc)(id:Nat),below (bx'.length+names.length) (ginv bx'.length names id)→(fun i=>ι (ggg bx'.length names i)) (ginv bx'.length names id)=ι id:=by
      intro ι id hid
      show ι (ggg bx'.length names (ginv bx'.length names id))=ι id
      rw[hback id hid]
     rw[←hnn]at c3 c4 c5 hg
     refine⟨ggg bx'.length names,xs,fun i hi=>by unfold ggg;rw[if_pos hi],?_,hxs,p3.within (ainB_spec c5),fun w F ι u hcol hr=>p3.rep hcol (ren_to (hg ι) (ainB_spec c5) hr),?_,?_⟩
     ·intro i k hi hk he
      have hge:∀q,q<names.length→bx'.length≤names.getD q 0:=by
       intro q hq
       have:=List.all_eq_true.1 c2 names[q] (List.getElem_mem hq)
       rw[List.getD_eq_getElem?_getD,List.getElem?_eq_getElem hq]
       simpa using this
      unfold ggg at he
      by_cases h1:i<bx'.length
      ·by_cases h2:k<bx'.length
       ·rw[if_pos h1,if_pos h2]at he;exact he
       ·rw[if_pos h1,if_neg h2]at he
        have:=hge (k-bx'.length) (by omega);omega
      ·by_cases h2:k<bx'.length
       ·rw[if_neg h1,if_pos h2]at he
        have:=hge (i-bx'.length) (by omega);omega
       ·rw[if_neg h1,if_neg h2]at he
        have hnd:=List.pairwise_iff_getElem.1 (ndB_spec c1)
        have hi':i-bx'.length<names.length:=by omega
        have hk':k-bx'.length<names.length:=by omega
        rw[List.getD_eq_getElem?_getD,List.getElem?_eq_getElem hi',List.getD_eq_getElem?_getD,List.getElem?_eq_getElem hk']at he
        simp only[Option.getD_some]at he
        rcases Nat.lt_trichotomy (i-bx'.length) (k-bx'.length)with h3|h3|h3
        ·exact absurd he (hnd _ _ hi' hk' h3)
        ·omega
        ·exact absurd he.symm (hnd _ _ hk' hi' h3)
     ·intro i p hp
      have hat:=gbsF_at (ls:=ls) (i:=0) hp
      rw[←p1,List.getElem?_map]at hat
      obtain⟨b,hb,heq⟩:=Option.map_eq_some_iff.1 hat
      simp only[Nat.zero_add,Prod.mk.injEq]at heq
      obtain⟨q1,q2,q3⟩:=heq
      have hin:=List.all_eq_true.1 c3 b (List.mem_of_getElem? hb)
      have hs:=b2 i b hb
      rw[Nat.zero_add,q1,q2]at hs
      rw[←q3]
      exact⟨ainB_spec hin,b.2.2,hs,fun w F ι u hr=>ren_to (hg ι) (ainB_spec hin) hr⟩
     ·intro q e he
      obtain⟨e1,he1,hle⟩:=(ELeL.at2 p2).2 q e he
      rw[List.getElem?_map]at he1
      obtain⟨e0,he0,rfl⟩:=Option.map_eq_some_iff.1 he1
      have hin:=List.all_eq_true.1 c4 e0 (List.mem_of_getElem? he0)
      refine⟨hle.within (ainE_spec hin),e0,?_,fun w F ι l hcol hr=>hle.rep hcol (renE_to (hg ι) (ainE_spec hin) hr)⟩
      unfold ggg
      rw[if_neg (by omega),show bx'.length+q-bx'.length=q by omega]
      exact n2 q e0 he0
    ·exact h.elim
   ·exact h.elim
  ·exact h.elim
 cases e with
 |normal=>exact key h
 |ret=>exact key h
 |_=>exact h.elim
def laargs :Nat→List AVal→List (Nat×AVal)
 |_,[]=>[]
 |i,d::ds=>(i,d)::laargs (i+1) ds
theorem laargs_spec (ds:List AVal):∀j i,tl (laargs j ds) i=if j≤i then(ds[i-j]?).getD .any else .any:=by
 induction ds with
 |nil=>intro j i;simp[laargs,tl]
 |cons d ds ih=>
  intro j i
  simp only[laargs,tl]
  by_cases h:i=j
  ·subst h;simp
  ·rw[if_neg h,ih]
   by_cases h2:j≤i
   ·have h3:j+1≤i:=by omega
    rw[if_pos h2,if_pos h3,show i-j=(i-(j+1))+1 by omega];rfl
   ·rw[if_neg h2,if_neg (by omega)]
def laent :Nat→List Entry→List (Nat×Entry)
 |_,[]=>[]
 |i,e::es=>(i,e)::laent (i+1) es
theorem laent_spec (es:List Entry):∀j i,sl (laent j es) i=if j≤i then es[i-j]? else none:=by
 induction es with
 |nil=>intro j i;simp[laent,sl]
 |cons d ds ih=>
  intro j i
  simp only[laent,sl]
  by_cases h:i=j
  ·subst h;simp
  ·rw[if_neg h,ih]
   by_cases h2:j≤i
   ·have h3:j+1≤i:=by omega
    rw[if_pos h2,if_pos h3,show i-j=(i-(j+1))+1 by omega];rfl
   ·rw[if_neg h2,if_neg (by omega)]
def bxent (ls:Nat→Loc):Nat→List (Nat×AVal)→List Entry
 |_,[]=>[]
 |i,p::l=>.bbox (ls i) p.1 p.2::bxent ls (i+1) l
theorem bxent_spec {ls:Nat→Loc}:∀{l:List (Nat×AVal)}{i:Nat},(bxent ls i l).length=l.length∧∀k,(bxent ls i l)[k]?=(l[k]?).map fun p=>Entry.bbox (ls (i+k)) p.1 p.2
 |[],i=>⟨rfl,fun k=>by simp[bxent]⟩
 |p::l,i=>by
  obtain⟨g1,g2⟩:=bxent_spec (ls:=ls) (l:=l) (i:=i+1)
  refine⟨by simp[bxent,g1],fun k=>?_⟩
  cases k with
  |zero=>simp[bxent]
  |succ k=>simp only[bxent,List.getElem?_cons_succ,g2];rw[show i+1+k=i+(k+1) by omega]
def gstartL (ls:Nat→Loc)(bx:List (Nat×AVal))(rw:List Rw)(args:List AVal)(m:Nat):LState:={t:=laargs 0 args,s:=laent 0 (bxent ls 0 bx++rows rw),m,n:=bx.length+(rows rw).length}
theorem gstartL_toA (ls:Nat→Loc)(bx:List (Nat×AVal))(rw:List Rw)(args:List AVal)(m:Nat):(gstartL ls bx rw args m).toA=gstate ls bx (rows rw) args m:=by
 simp only[gstartL,LState.toA,gstate]
 congr 1
 ·funext i;rw[laargs_spec];simp
 ·funext i
  obtain⟨g1,g2⟩:=bxent_spec (ls:=ls) (l:=bx) (i:=0)
  rw[laent_spec,if_pos (Nat.zero_le _),gentry,Nat.sub_zero,List.getElem?_append,g1]
  by_cases h:i<bx.length
  ·rw[if_pos h,if_pos h,g2,Nat.zero_add]
  ·rw[if_neg h,if_neg h]
def levG (P:Program)(fn:Func)(ls:Nat→Loc)(bx:List (Nat×AVal))(rw:List Rw)(args:List AVal)(bx':List (Nat×AVal))(new:List Entry)(r:AVal)(T:Tell):Tree:=
 lev P T.fz T.Ob T.Lb T.un T.lv (bodyOf fn) (gstartL ls bx rw args fn.ntmps) (kretGE P ls bx' new r fn.results.toList)
theorem GSpec.tree {f:FuncId}(fn:Func){bx:List (Nat×AVal)}{rw:List Rw}{args:List AVal}{bx':List (Nat×AVal)}{new:List Entry}{r:AVal}(T:(Nat→Loc)→Tell)(hf:P.funcs[f]?=some fn)(hk:okF fn args.length=true)(hb:bx'.length=bx.length)
  (h:∀ls,(levG P fn ls bx rw args bx' new r (T ls)).sat (LoopOk P [] (bodyOf fn)) (fun _ _=>True)):GSpec P f bx rw args bx' new r:=by
 simp only[okF,Bool.and_eq_true,decide_eq_true_eq]at hk
 refine GSpec.of_body hf (c:=bodyOf fn) ?_ hk.1.2 hk.2 hb fun ls=>?_
 ·unfold bodyOf
  split
  ·rename_i hc;exact hc
  ·rename_i hc;rw[hc]at hk;simp at hk
 ·have hs:=lev_sound (D:=[]) (bodyOf fn) _ (kretGE P ls bx' new r fn.results.toList) (fun p hp σ L hΛ=>hΛ p.2 hp) (h ls)
  rw[gstartL_toA]at hs
  intro ι F a w hR hD
  refine wp_mono (hs ι F a w hR hD) ?_
  rintro e a' w' ⟨ι',F',τ,⟨s,h1,rfl⟩,h2,h3,h4⟩
  exact⟨ι',F',s.toA,kretG_spec h1,h2,h3,h4⟩
end Go.Abs
namespace Go.Abs
open Go.RowKit
variable {P:Program}
def kpan (v:Value):Exit→LState→Tree
 |.panic [⟨v',false,false⟩],_=>.need (v'=v) (.done .ret lnil)
 |_,_=>.fail 1000006 0
def levP (P:Program)(fn:Func)(ls:Nat→Loc)(bx:List (Nat×AVal))(rw:List Rw)(args:List AVal)(v:Value)(T:Tell):Tree:=
 lev P T.fz T.Ob T.Lb T.un T.lv (bodyOf fn) (gstartL ls bx rw args fn.ntmps) (kpan v)
theorem PSpec.tree {f:FuncId}(fn:Func){bx:List (Nat×AVal)}{rw:List Rw}{args:List AVal}{v:Value}(T:(Nat→Loc)→Tell)(hf:P.funcs[f]?=some fn)(hk:okF fn args.length=true)
  (h:∀ls,(levP P fn ls bx rw args v (T ls)).sat (LoopOk P [] (bodyOf fn)) (fun _ _=>True)):PSpec P f bx rw args v:=by
 simp only[okF,Bool.and_eq_true,decide_eq_true_eq]at hk
 have hb:fn.body=some (bodyOf fn):=by
  unfold bodyOf;split
  ·rename_i hc;exact hc
  ·rename_i hc;rw[hc]at hk;simp at hk
 refine⟨by simp[callable,hf,hb]at*;exact hk.1,fun w F ι a hR=>calls_of_wp hf hb ?_⟩
 have hsz:a.tmps.size=args.length:=hR.size
 have hR0:Rel (below (bx.length+(rows rw).length)) ι F (gstate ι bx (rows rw) args fn.ntmps) {tmps:=a.tmps++Array.replicate (fn.ntmps-a.tmps.size) undef,defers:=[]} w:=by
  refine⟨by simp[gstate,hsz];omega,fun i=>?_,hR.ent,hR.off,hR.sep,hR.foot,hR.col⟩
  obtain⟨t1,t2⟩:=hR.tmp i
  by_cases hi:i<args.length
  ·refine⟨t1,?_⟩
   have:(a.tmps++Array.replicate (fn.ntmps-a.tmps.size) undef).getD i undef=a.tmps.getD i undef:=by
    simp[Array.getElem?_append,hsz,hi]
   show ARep w F ι _ _
   simp only
   rw[this];exact t2
  ·have hx:(gstate ι bx (rows rw) args fn.ntmps).t i=.any:=by
    simp only[gstate];rw[List.getElem?_eq_none (by omega)];rfl
   rw[hx]
   exact⟨by rw[AIn];trivial,by rw[ARep];trivial⟩
 have hs:=lev_sound (D:=[]) (bodyOf fn) _ (kpan v) (fun p hp σ L hΛ=>hΛ p.2 hp) (h ι)
 rw[gstartL_toA]at hs
 refine wp_mono (hs ι F _ w hR0 rfl) ?_
 rintro e a' w' ⟨ι',F',τ,⟨s,h1,rfl⟩,h2,h3,h4⟩
 unfold kpan at h1
 split at h1
 ·obtain⟨rfl,_⟩:=h1
  exact⟨h3,rfl,h4.os,h4.tape,h4.output,h4.size,h4.frame⟩
 ·exact h1.elim
def pin1 (ls:Nat→Loc)(ids:List Nat)(i:Nat):Entry→Entry
 |.box ty x=>if ids.contains i=true then .bbox (ls i) ty x else .box ty x
 |e=>e
def LState.pin (ls:Nat→Loc)(ids:List Nat)(σ:LState):LState:={σ with s:=σ.s.map fun p=>(p.1,pin1 ls ids p.1 p.2)}
theorem sl_map (f:Nat→Entry→Entry):∀(l:List (Nat×Entry))(i:Nat),sl (l.map fun p=>(p.1,f p.1 p.2)) i=(sl l i).map (f i)
 |[],_=>rfl
 |(d,x)::l,i=>by
  simp only[List.map_cons,sl]
  by_cases h:i=d
  ·subst h;rw[if_pos rfl,if_pos rfl];rfl
  ·rw[if_neg h,if_neg h];exact sl_map f l i
theorem pin1_rep {w:World}{F:Foot}{ι:Nat→Loc}{ids:List Nat}{i:Nat}:∀{e:Entry},ERep w F ι (ι i) e→ERep w F ι (ι i) (pin1 ι ids i e)
 |.box ty x,h=>by
  by_cases hc:ids.contains i=true
  ·simp only[pin1,if_pos hc];exact⟨rfl,h⟩
  ·simp only[pin1,if_neg hc];exact h
 |.bbox _ _ _,h=>h
 |.row _ _ _,h=>h
 |.brow _ _ _ _,h=>h
 |.map _,h=>h
theorem pin1_in {K:Nat→Prop}{ι:Nat→Loc}{ids:List Nat}{i:Nat}:∀{e:Entry},EIn K e→EIn K (pin1 ι ids i e)
 |.box ty x,h=>by
  by_cases hc:ids.contains i=true
  ·simp only[pin1,if_pos hc];exact h
  ·simp only[pin1,if_neg hc];exact h
 |.bbox _ _ _,h=>h
 |.row _ _ _,h=>h
 |.brow _ _ _ _,h=>h
 |.map _,h=>h
theorem Rel.pin {K:Nat→Prop}{ι:Nat→Loc}{F:Foot}{σ:LState}{a:Act}{w:World}(hR:Rel K ι F σ.toA a w)(ids:List Nat):Rel K ι F (σ.pin ι ids).toA a w∧Pass ι F σ.toA w ι F (σ.pin ι ids).toA w:=by
 have back:∀i e,(σ.pin ι ids).toA.s i=some e→∃e0,σ.toA.s i=some e0∧e=pin1 ι ids i e0:=by
  intro i e he
  have:(σ.pin ι ids).toA.s i=(sl σ.s i).map (pin1 ι ids i):=sl_map (pin1 ι ids) σ.s i
  rw[this]at he
  obtain⟨e0,h1,h2⟩:=Option.map_eq_some_iff.1 he
  exact⟨e0,h1,h2.symm⟩
 have hown:∀b,Owned ι (σ.pin ι ids).toA b→Owned ι σ.toA b:=by
  rintro b ⟨i,e,h1,h2,h3⟩
  obtain⟨e0,g1,_⟩:=back i e h1
  exact⟨i,e0,g1,h2,h3⟩
 refine⟨⟨hR.size,hR.tmp,fun i e he=>?_,fun b hb=>hR.off b (hown b hb),fun i j ei ej hi hj=>?_,hR.foot,hR.col⟩,⟨rfl,rfl,rfl,Nat.le_refl _,fun _ _ _=>rfl,fun b hb=>.inl (hown b hb),fun _ _ h=>h,fun _ _ h=>.inl h⟩⟩
 ·obtain⟨e0,g1,rfl⟩:=back i e he
  obtain⟨k1,k2,k3⟩:=hR.ent i e0 g1
  exact⟨k1,pin1_in k2,pin1_rep k3⟩
 ·obtain⟨e0,g1,_⟩:=back i ei hi
  obtain⟨e1,g2,_⟩:=back j ej hj
  exact hR.sep i j e0 e1 g1 g2
end Go.Abs
